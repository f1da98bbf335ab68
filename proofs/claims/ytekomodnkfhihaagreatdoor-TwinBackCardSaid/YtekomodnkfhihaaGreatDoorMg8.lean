/- A pool with shared trees does not need more blocks. -/
import Derived.RangeFuncNested
import Derived.RangeFuncBound
import Derived.RangeFuncCalls
import Derived.RangeFuncLeaves
import Derived.Shelf.Abstract
import Derived.Shelf.RegionOpen
import Derived.OwnWalkIn
import Derived.TacticsInMore
import Derived.LoopNIn
import Derived.LoopIn
import Derived.Sort.BigQuietIn
import Derived.Test.YtekomodnkfhihaaGreatDoorProg
import Derived.Test.YtekomodnkfhihaaGreatDoorMg7
namespace Go.Proofs.YtekomodnkfhihaaGreatDoor
set_option maxHeartbeats 8000000
open Prod (fst)
open List (range replicate getD)
set_option maxRecDepth 100000
set_option linter.unusedVariables false
section
open Go.RowKit Go.Extern.Stop Go.Stop Go.Extern
section
attribute [local irreducible] wpList wpAnyH Code.wp Oper.wp Go
theorem Zyv{x:Nat}(h:1≤x):(Vz x).sum+1≤2*x:=by
 induction x using Nat.strongRecOn with
 | _ x ih =>
  by_cases h1:x≤1
  ·rw[Ja h1];simp;omega
  ·rw[Qv h1,G3];have h2:=Znf (x:=x) M0;have:=ih (ovN x 18) M0 (Yu _ _);omega
theorem Bf(t:Int){k:Nat}(h:1≤k):Zy t k+1≤2*k:=by
 have hm:=(Qc t true).1;have h1:ovN k (Jj t true)≤k:=by
  unfold ovN;have:(k+Jj t true-1)/Jj t true≤k:=by
   rw[Lt M0];have:=Nat.le_mul_of_pos_left k hm;omega
  omega
 have h2:=Zyv (Yu k (Jj t true));unfold Zy Ue;omega
def notN(L:V6 Dv)(i:Nat):Nat:=((range i).filter fun k=>!(Xz L k==k)).length
theorem Zhb(L:V6 Dv)(i:Nat):notN L (i+1)=notN L i+if Xz L i=i then 0 else 1:=by
 unfold notN;rw[B8,List.filter_append,A1];by_cases q:Xz L i=i<;>simp[q]
theorem Zyd(L:V6 Dv):∀ i,notN L i≤Mn L i
 | 0=>At _
 | i+1=>by
  have ih:=Zyd L i;have:=Qf 2 (L.getD i dvD).2.length;rw[Zhb,Mn];split<;>omega
theorem Zg1(L:V6 Dv):∀ i,i≤L.length→i+2*Gd (shN L) i≤((shN L).take i).sum+notN L i
 | 0,_=>by simp[Gd]
 | i+1,h=>by
  have ih:=Zg1 L i M0;rw[Pd (by rw[Nc];omega),Zhb,Ia (by rw[Nc];omega)];have q:=Zfk (L:=L) (i:=i) M0;by_cases ho:Xz L i=i
  ·have:=q.1 ho;rw[V8 ho];split<;>omega
  ·have:(shN L).getD i 0=0:=by
    rcases H8 ((shN L).getD i 0) with z|z
    ·exact z
    ·exact absurd (q.2 (Nat.ne_of_gt z)) ho
   rw[V7 ho,this];simp;omega
theorem oft_off(L:V6 Dv):2*Lv L≤Mn L L.length:=by
 have a:=Zg1 L L.length (At _);have b:=Zyd L L.length;rw[B9 (by rw[Nc];exact At _),Zyt] at a;have e:Lv L=Gd (shN L) L.length:=rfl;omega
theorem needT_le(x:Nat)(L:V6 Dv):1≤Ma x L∧Ma x L≤needN x L:=by
 have a:=oft_off L;have b:=Ze0 x L;have c:Zy 5 (Lv L)≤Mn L L.length+1:=by
  rcases H8 (Lv L) with z|z
  ·rw[z,Zy4];omega
  ·have:=Bf 5 z;omega
 have e:Zsr x L=Cq x L-Mn L L.length+1+Zy 5 (Lv L):=rfl;unfold Ma needN Zkc;rw[e];generalize Zy 5 (Lv L)=z at *;generalize Cq x L=y at *;generalize Mn L L.length=o at *;omega
theorem Iq{x:Nat}{L:V6 Dv}{k:Nat}(h:Ma x L≤k):twK x L+Zy 5 (Lv L)+2+bmN k≤k:=by
 have a:=Ztj (m:=Zsr x L) h;have b:=Zay x L;omega
def Zgo(L:V6 Dv)(k:Nat):Bl:=Aa (G2 L) 1 (replicate (k*256) (0:UInt8))
def twD (x:Nat)(L:V6 Dv)(k:Nat):Int×Int×Bl:=Vp (Xv x L) (1+Xr (G2 L)) (Zgo L k)
def twC (x:Nat)(L:V6 Dv)(k:Nat):V6 Int:=Bo L (twK x L+1) k
def twM (x:Nat)(L:V6 Dv)(k:Nat):Int×Int×Bl:=Ke (twC x L k) 1 (twK x L) (twD x L k).2.2
def twS (t u v:Int)(x:Nat)(L:V6 Dv)(k:Nat):Sup:=⟨t,u,v,(x:Int),(k:Int),(Xr (G1 L):Int),(Xr (G2 L):Int),(twD x L k).1,(twD x L k).2.1,(twM x L k).1,(twM x L k).2.1⟩
def twI (t u v:Int)(x:Nat)(L:V6 Dv)(k:Nat):Bl:=Qj (twM x L k).2.2 (0*256) (Yf 1 (0:Nat) (Mw (twS t u v x L k)))
theorem Ji(x:Nat)(L:V6 Dv)(k:Nat):(twC x L k).length=k:=Kj _ _ _
theorem Zh0(x:Nat)(L:V6 Dv):twN L L.length<twK x L+1:=by have:=Zy2 L;unfold twK;omega
theorem Av{x:Nat}{L:V6 Dv}{k:Nat}(h:twK x L+1≤k):(Zp (twC x L k) (twC x L k).length).length=Lv L:=over_tw (Zh0 x L) (by have:=Zh0 x L;omega)
theorem Znl{x:Nat}{L:V6 Dv}{k:Nat}(h:twK x L+1≤k):Yj (twC x L k)=Zy 5 (Lv L)+bmN k+1:=by
 unfold Yj;rw[Av h,Ji]
theorem twD_in(x:Nat)(L:V6 Dv)(k:Nat):1≤(twD x L k).1∧(twD x L k).1≤(twK x L:Int)∧1≤(twD x L k).2.1∧(twD x L k).2.1≤(twK x L:Int):=by
 have a:=Da (t:=4) (l:=Xl (Xe (Zj (Xv x L)) (bmN (Xv x L).length)) (1+Xr (G2 L)) (bmN (Xv x L).length)) (q:=1+Xr (G2 L)+bmN (Xv x L).length) (bs:=Xt (Xe (Zj (Xv x L)) (bmN (Xv x L).length)) (1+Xr (G2 L)) (Zgo L k) (bmN (Xv x L).length)) M0;have b:=Da (t:=5) (l:=Zp (Xv x L) (Xv x L).length) (q:=1+Xr (G2 L)+bmN (Xv x L).length+Zy 4 (bmN (Xv x L).length)) (bs:=(Xf 4 (Xl (Xe (Zj (Xv x L)) (bmN (Xv x L).length)) (1+Xr (G2 L)) (bmN (Xv x L).length)) (1+Xr (G2 L)+bmN (Xv x L).length) (Xt (Xe (Zj (Xv x L)) (bmN (Xv x L).length)) (1+Xr (G2 L)) (Zgo L k) (bmN (Xv x L).length))).2) M0;rw[Zj6] at a;have e1:(twD x L k).1=_:=a;have e2:(twD x L k).2.1=_:=b;have h4:=Qf 4 (bmN (Xv x L).length);have h5:=Qf 5 (Zp (Xv x L) (Xv x L).length).length;have e3:twK x L=Xr (G2 L)+(bmN (Xv x L).length+Zy 4 (bmN (Xv x L).length)+Zy 5 (Zp (Xv x L) (Xv x L).length).length):=rfl;rw[e1,e2,e3];omega
theorem twM_in{x:Nat}{L:V6 Dv}{k:Nat}(h:twK x L+1≤k):1≤(twM x L k).1∧(twM x L k).1≤(twK x L+1+Zy 5 (Lv L)+bmN k:Nat)∧1≤(twM x L k).2.1∧(twM x L k).2.1≤(twK x L+1+Zy 5 (Lv L)+bmN k:Nat):=by
 have a:=Da (t:=5) (l:=Zp (twC x L k) (twC x L k).length) (q:=1+twK x L) (bs:=(twD x L k).2.2) M0;have e2:(twM x L k).2.1=_:=a;have e1:(twM x L k).1=((1+twK x L+Zy 5 (Zp (twC x L k) (twC x L k).length).length+bmN (Qy (twC x L k) (1+twK x L) (Yj (twC x L k))).length:Nat):Int):=rfl;rw[Qe,Ji] at e1;have e3:=Av h;rw[Ji] at e3;rw[e3] at e1;rw[Av h] at e2;have h5:=Qf 5 (Lv L);rw[e1,e2];omega
theorem Zft{t u v:Int}{x k:Nat}{L:V6 Dv}(hk:PoolOk t u v (x:Int) L)(hr:Ma x L≤k)(hk2:k≤14400):Yz (twS t u v x L k)=true:=by
 have c:=Iq hr;have a:=twD_in x L k;have b:=twM_in (x:=x) (L:=L) (k:=k) M0;have d:=Zy2 L;have e:twK x L=Xr (G2 L)+Qk (Xv x L):=rfl;have h1:=hk.k0;have h2:=hk.i6;have h3:=hk.i7;have h4:=hk.a3;unfold Yz twS;simp only[E2,decide_eq_true_eq,true_and];refine⟨⟨⟨⟨⟨⟨⟨⟨⟨⟨?_,?_⟩,?_⟩,?_⟩,?_⟩,?_⟩,?_⟩,?_⟩,?_⟩,?_⟩,?_⟩<;>omega
theorem Zwl{w:V1}{L:V6 Dv}{g n c m:Nat}(h:Sl w (.slice (S3 g) n c) n ((Bo L m n).map V0))(hi:m<n):w.cell? (Zx (S3 g) (m*1))=some (V0 (↑(rcF L m):Int)):=by
 have q:=(IntsN.elem h (Kj _ _ _) hi).2;rw[Gx hi,V7 (Nat.lt_irrefl m)] at q;exact q
theorem Zto{L:V6 Dv}{m k:Nat}(h:m<k):((Bo L m k).map V0).set m (V0 (if(1:Int)>(↑(rcF L m):Int) then(1:Int) else(↑(rcF L m):Int)))=(Bo L (m+1) k).map V0:=by
 rw[←cntM_set h];congr 2;split<;>omega
theorem Vi.i1{w:V1}{B e size n g n2 c2 c:Nat}{p:O0}{xs:V6 V2}(h:w.ownsRow B e size (.slice p n c) n xs)(hg:w.heap.size≤g):Vi (.slice p n c) (.slice (S3 g) n2 c2):=fun j h1 h2=>by
 have:=(h.lt j h1).2;have e2:g=j:=Option.some.inj h2;omega
theorem bz_out{B ba b g nn cc z:Nat}{pa:O0}{ca f N k0:Nat}{bs:Bl}{w:V1}{cs:V6 V2}{T:V3}(h:Al B ba b g nn cc pa ca f N k0 bs w)(ke:Blk w z cs T)(h1:T≠169)(h2:T≠5):z∉[ba,g]:=by
 have h1:=J0 ke h.U h1;have h2:=Yc ke h.data h2;simp only[B6,C8,or_false,not_or];exact⟨h1,h2⟩
theorem tw_maps(B ba b g cc:Nat)(pa:O0)(ca N k:Nat)(bx be bz gc:Nat)(x2:V2)(p:O0)(c n x:Nat)(t u v:Int)(Z:V6 Zv)(w:V1)(hZ:Z.length=n)(hP:∀ W,Below B w W→DevsR W p c Z)(hk:PoolOk t u v (x:Int) (Z.map fst))(hC:AlC B ba (k*256) cc ca 1 N)(hA:Al B ba b g (k*256) cc pa ca 1 N (Xr (G2 (Z.map fst))) (Zgo (Z.map fst) k) w)(kx:Blk w bx [P0 ba,x2,.slice (S3 gc) k k] 82)(ke:Blk w be [.nilIface] 39)(kz:Blk w bz [V0 t,V0 u,V0 v,V0 (x:Int),V0 (k:Int),V0 (↑(Xr (G1 (Z.map fst))):Int),V0 (↑(Xr (G2 (Z.map fst))):Int),V0 0,V0 0,V0 0,V0 0] 54)(hbe:B≤be)(hbz:B≤bz)(hpa:∀ n2 c2,Vi (.slice (S3 gc) n2 c2) (.slice pa N ca))(hc:w.ownsRow B 3 1 (.slice (S3 gc) k k) k ((Zlt (Z.map fst) k n).map V0))(hN:N=k-1)(hr:Ma x (Z.map fst)≤k)(hk3:k≤3000)(hBw:B≤w.heap.size) :
 C0 45 #[P0 bx,.agg #[V0 t,V0 u,V0 v,V0 (x:Int),.slice p n c],P0 bz,P0 be] w ((fun e w'=>e=.returned (.tuple #[])∧Below B w w'∧Zd [169,5,39,99,124,132,126,54,3] w w'∧Blk w' be [.nilIface] 39∧Blk w' bz [V0 t,V0 u,V0 v,V0 (x:Int),V0 (k:Int),V0 (↑(Xr (G1 (Z.map fst))):Int),V0 (↑(Xr (G2 (Z.map fst))):Int),V0 ((twD x (Z.map fst) k).1),V0 ((twD x (Z.map fst) k).2.1),V0 ((twM x (Z.map fst) k).1),V0 ((twM x (Z.map fst) k).2.1)] 54∧Al B ba b g (k*256) cc pa ca 1 N (twK x (Z.map fst)+Yj (twC x (Z.map fst) k)) (twM x (Z.map fst) k).2.2 w')):=by
 have hx:x≤65536:=by have:=hk.a3;omega
 have i0:(Z.map fst).length=n:=by rw[A3];exact hZ
 have g6:=Iq hr
 have i2:twK x (Z.map fst)=Xr (G2 (Z.map fst))+Qk (Xv x (Z.map fst)):=rfl
 have h4:=hk.J.a0
 have h0:Zlt (Z.map fst) k n=Bo (Z.map fst) 0 k:=by rw[←i0];exact cntM_0 _ _
 refine zin 81 Tryz.func45 ?_
 refine xa 2 [V0 t,V0 u,V0 v,V0 (x:Int),.slice p n c] 24 fun b1 W1 n1=>?_
 have d2:=ke.i n1.i
 refine xb 7 0 d2 ?_
 refine xd 7 (.t B [169,5,39,99,124,132,126,54,3]) ?_
 have c9:=(kx.i n1.i).i (Za W1)
 refine xbt (.e [0,1,2,3,4,5] 6) 0 B [169,5,39,99,124,132,126,54,3] c9 ?_
 have k1:=n1.blk.i (Za W1)
 refine xlvt (.e [] 7) (.t B [169,5,39,99,124,132,126,54,3]) (fun V hV=>(k1.q hV.2 Do).rp) ?_
 have hB:=blB (blB (U3 B w) hBw n1.i) hBw (Za W1)
 refine yc (.o [] 8) (.t B [169,5,39,99,124,132,126,54,3]) (Zag p c n x t u v Z _ hZ (hP _ hB) hk) ?_
 rintro _ W2 ⟨_,rfl,b7,q9,d9,rfl,h2⟩
 have h8:=(blB (blB (U3 B w) hBw n1.i) hBw (Za W1)).size
 refine⟨(Q5 _ b7),?_⟩
 have d7:=Zg h2 h8
 have c6:=(d2.i (Za W1)).i b7
 have e3:=((hA.i n1.i).i (Za W1)).i b7
 have g0:=bz_out e3 c6 Do Do
 have e2:=blB hB hBw b7
 refine yc (.o [] 9) (.t B [169,5,39,99,124,132,126,54,3]) (by have q:=Zqz B ba b g (k*256) cc pa ca 1 N (Xr (G2 (Z.map fst))) (Zgo (Z.map fst) k) q9 d9 (Xv x (Z.map fst)) _ hC e3 (by rw[Ym];have q:=Zf d7;rw[←Zkg] at q;exact q) (by rw[Ym];omega) (by rw[Om];have:=Zgi hk.J;omega) (Em M0 hk.J) Do M0 M0 (N0 hBw e2.size);rw[Ym] at q;exact q) ?_
 rintro _ W3 ⟨rfl,g5,c4,h3,hA⟩
 refine⟨(Lb g5 c4),?_⟩
 have f2:=Blk.fr c6 h3 g0
 have a5:=(((kz.i n1.i).i (Za W1)).i b7).q c4 Do
 refine ys (.o [10,11,12,13,14,15] 16) a5 [V0 t,V0 u,V0 v,V0 (x:Int),V0 (k:Int),V0 (↑(Xr (G1 (Z.map fst))):Int),V0 (↑(Xr (G2 (Z.map fst))):Int),V0 ((twD x (Z.map fst) k).1),V0 0,V0 0,V0 0] (.t B [169,5,39,99,124,132,126,54,3]) fun W4 u4 k4=>⟨(Zr u4 a5 hbz Do),?_⟩
 refine ys (.o [17,18] 19) k4 [V0 t,V0 u,V0 v,V0 (x:Int),V0 (k:Int),V0 (↑(Xr (G1 (Z.map fst))):Int),V0 (↑(Xr (G2 (Z.map fst))):Int),V0 ((twD x (Z.map fst) k).1),V0 ((twD x (Z.map fst) k).2.1),V0 0,V0 0] (.t B [169,5,39,99,124,132,126,54,3]) fun W5 u5 k5=>⟨(Zr u5 k4 hbz Do),?_⟩
 have a0:=u5.A (u4.A f2 a5 Do) k4 Do
 refine ys (.o [20] 21) a0 [.nilIface] (.t B [169,5,39,99,124,132,126,54,3]) fun W6 u6 k6=>⟨(Zr u6 a0 hbe Do),?_⟩
 refine xb 7 0 k6 ?_
 have e0:=u6.A (u5.A (u4.A ((c9.i b7).q c4 Do) a5 Do) k4 Do) a0 Do
 refine xb 12 0 e0 ?_
 have e4:=((hA.q (Q1 (T:=[54]) u4 a5 Do) Do).q (Q1 (T:=[54]) u5 k4 Do) Do).q (Q1 (T:=[39]) u6 a0 Do) Do
 refine xr 0 (args:=#[P0 ba]) (Zsv ba b _ (twK x (Z.map fst)) _ (e4.U)) fun W7 b8=>?_
 refine xwm 0 ((↑(twK x (Z.map fst)):Int)+1) (↑((twK x (Z.map fst))+1):Int) ?_
 have f0:=Zb (u6.j (u5.j (u4.j (Zi (Zb (Zb (Zb hc n1.i) (Za W1)) b7) c4 Do) a5 Do) k4 Do) a0 Do) b8
 have f4:=e4.i b8
 have f5:=blB (u6.i (u5.i (u4.i (e2.trans g5) hbz) hbz) hbe) hBw b8
 have hO:=(((((((show Zd [169,5,39,99,124,132,126,54,3] w _ from(Q0 n1.i)).trans (Q0 (Za W1))).trans (Q0 b7)).trans (c4.wide Do)).trans (Q1 u4 a5 Do)).trans (Q1 u5 k4 Do)).trans (Q1 u6 a0 Do)).trans (Q0 b8)
 have f3:=e0.i b8
 have e8:=k6.i b8
 have e9:=(u6.A k5 a0 Do).i b8
 have f7:=(u6.A (u5.A (u4.A ((k1.i b7).q c4 Do) a5 Do) k4 Do) a0 Do).i b8
 refine zl 4 81 (fun zm h9 V=>∃ (m:Nat),h9=[(0,P0 bx),(2,P0 bz),(3,P0 be),(41,V0 (↑((twK x (Z.map fst))+1):Int)),(42,V0 (m:Int))]∧zm=twK x (Z.map fst)+1-((m:Int)).toNat∧Below B w V∧Zd [169,5,39,99,124,132,126,54,3] w V∧Blk V bx ([P0 ba,x2,.slice (S3 gc) k k]) 82∧Blk V be ([.nilIface]) 39∧Blk V bz ([V0 t,V0 u,V0 v,V0 (x:Int),V0 (k:Int),V0 (↑(Xr (G1 (Z.map fst))):Int),V0 (↑(Xr (G2 (Z.map fst))):Int),V0 ((twD x (Z.map fst) k).1),V0 ((twD x (Z.map fst) k).2.1),V0 0,V0 0]) 54∧Blk V b1 ([V0 t,V0 u,V0 v,V0 (x:Int),.slice p n c]) 24∧V.ownsRow B 3 1 (.slice (S3 gc) k k) k ((Bo (Z.map fst) m k).map V0)∧Al B ba b g (k*256) cc pa ca 1 N (twK x (Z.map fst)) (twD x (Z.map fst) k).2.2 V∧m≤twK x (Z.map fst)+1) ⟨0,rfl,rfl,f5,hO,f3,e8,e9,f7,(by rw[←h0];exact f0),f4,A5 _⟩ ?_
 rintro _ _ W8 ⟨m,rfl,rfl,d3,c8,b9,c1,c0,c5,hc,hA,hm⟩ J8 g9 r8
 refine xid 6 ((m:Int)<(↑((twK x (Z.map fst))+1):Int)) (fun h1=>?_) (fun h1=>?_)
 ·refine xd 10 (.t B [169,5,39,99,124,132,126,54,3]) ?_
  have a3:=b9.i (Za W8)
  refine xbt (.e [0,1,2] 3) 2 B [169,5,39,99,124,132,126,54,3] a3 ?_
  refine xbt (.e [4,5,6,7] 8) 2 B [169,5,39,99,124,132,126,54,3] a3 ?_
  refine xx (.e [9] 10) _ k m 1 (show(some (⟨gc,0,none⟩:Addr)).isSome=true from rfl) ?_
  have a4:=Zb hc (Za W8)
  refine xl (.o [] 11) (Zwl (Zf a4) M0) ?_
  refine xx (.e [12] 13) _ k m 1 (show(some (⟨gc,0,none⟩:Addr)).isSome=true from rfl) ?_
  refine yst (.o [] 14) (.t B [169,5,39,99,124,132,126,54,3]) fun _ _ _ _ zJ zQ zo zx zy zK=>Vx (t:=3) (k:=m) (v:=V0 (if(1:Int)>(↑(rcF (Z.map fst) m):Int) then(1:Int) else(↑(rcF (Z.map fst) m):Int))) zo zx zy K0 rfl a4 M0 fun i6 b2 g7=>?_
  rw[(Zto (L:=(Z.map fst)) (m:=m) (k:=k) M0)] at g7
  have a9:=c1.i (Za W8)
  have a7:=c0.i (Za W8)
  have a8:=c5.i (Za W8)
  refine zK _ _ (Lb (T:=[3]) (b2.i (U3 _ _) (Ux a4)) (Q9 b2 a4 Do)) ?_
  refine xwm 4 ((m:Int)+1) (↑(m+1):Int) ?_
  have e6:=(hA.i (Za W8)).c7 hpa b2 a4
  have g3:=b2.i (blB d3 hBw (Za W8)) (Ux a4)
  have f9:=(c8.trans (Q0 (Za W8))).trans (Q9 b2 a4 Do)
  have b4:=b2.blk a3 (Yc a3 a4 Do)
  have b5:=b2.blk a9 (Yc a9 a4 Do)
  have b6:=b2.blk a7 (Yc a7 a4 Do)
  have b3:=b2.blk a8 (Yc a8 a4 Do)
  exact ze 2 (g9 _ _ _ ⟨m+1,rfl,rfl,g3,f9,b4,b5,b6,b3,g7,e6,M0⟩ M0)
 refine xd 5 (.t B [169,5,39,99,124,132,126,54,3]) ?_
 have b0:=b9.i (Za W8)
 refine xbt (.e [0,1,2,3,4,5] 6) 0 B [169,5,39,99,124,132,126,54,3] b0 ?_
 refine xbt (.e [7,8,9] 10) 2 B [169,5,39,99,124,132,126,54,3] b0 ?_
 have a6:=c1.i (Za W8)
 have f8:=Zb hc (Za W8)
 have d5:=hA.i (Za W8)
 have e7:=bz_out d5 a6 Do Do
 have h5:m=twK x (Z.map fst)+1:=M0
 have g8:=f8
 rw[h5] at g8
 have d8:=blB d3 hBw (Za W8)
 refine yc (.o [] 11) (.t B [169,5,39,99,124,132,126,54,3]) (by have q:=Zr0 B ba b g (k*256) cc pa ca 1 N (twK x (Z.map fst)) (twD x (Z.map fst) k).2.2 ⟨gc,0,none⟩ k (twC x (Z.map fst) k) _ hC d5 (by rw[Ji];exact Zf g8) (by rw[Ji];omega) (by rw[Ji];omega) (Zdb M0 M0) M0 (by rw[Znl M0];omega) Do (by rw[R0 1];exact Zg6 M0 (Zh0 _ _)) (N0 hBw d8.size);rw[Ji] at q;exact q) ?_
 rintro _ i1 ⟨rfl,e5,c3,g1,hA⟩
 refine⟨(Lb e5 c3),?_⟩
 have e1:=Blk.fr a6 g1 e7
 have a2:=(c0.i (Za W8)).q c3 Do
 refine ys (.o [12,13,14,15,16,17] 18) a2 [V0 t,V0 u,V0 v,V0 (x:Int),V0 (k:Int),V0 (↑(Xr (G1 (Z.map fst))):Int),V0 (↑(Xr (G2 (Z.map fst))):Int),V0 ((twD x (Z.map fst) k).1),V0 ((twD x (Z.map fst) k).2.1),V0 ((twM x (Z.map fst) k).1),V0 0] (.t B [169,5,39,99,124,132,126,54,3]) fun i5 d6 c7=>⟨(Zr d6 a2 hbz Do),?_⟩
 refine ys (.o [19,20] 21) c7 [V0 t,V0 u,V0 v,V0 (x:Int),V0 (k:Int),V0 (↑(Xr (G1 (Z.map fst))):Int),V0 (↑(Xr (G2 (Z.map fst))):Int),V0 ((twD x (Z.map fst) k).1),V0 ((twD x (Z.map fst) k).2.1),V0 ((twM x (Z.map fst) k).1),V0 ((twM x (Z.map fst) k).2.1)] (.t B [169,5,39,99,124,132,126,54,3]) fun i4 d0 h6=>⟨(Zr d0 c7 hbz Do),?_⟩
 have a1:=d0.A (d6.A e1 a2 Do) c7 Do
 refine ys (.o [22] 23) a1 [.nilIface] (.t B [169,5,39,99,124,132,126,54,3]) fun i3 d4 h7=>⟨(Zr d4 a1 hbe Do),?_⟩
 have d1:=d4.A h6 a1 Do
 have f6:=((hA.q (Q1 (T:=[54]) d6 a2 Do) Do).q (Q1 (T:=[54]) d0 c7 Do) Do).q (Q1 (T:=[39]) d4 a1 Do) Do
 have g2:=d4.i (d0.i (d6.i (d8.trans e5) hbz) hbz) hbe
 have f1:=((((c8.trans (Q0 (Za W8))).trans (c3.wide Do)).trans (Q1 d6 a2 Do)).trans (Q1 d0 c7 Do)).trans (Q1 d4 a1 Do)
 exact xe 1 (.tuple #[]) ⟨rfl,g2,f1,h7,d1,f6⟩
end
section
attribute [local irreducible] wpList wpAnyH Code.wp Oper.wp Go
def Yp(l:Bl)(V:V6 Nat)(L:V6 Rx)(S:V6 Nat):Prop:=∀ (cs:V6 Nat) (r:V6 Rx),(∀ b∈S,b<cs.length∧(b∉V→cs.getD b 0=0))→(∀ b∈V,cs.getD b 0≠0)→Pw l cs (L++r)=Pw l (Ky cs S) r
variable {l:V6 UInt8} {V:V6 Nat}
theorem Yp.nil:Yp l V [] []:=fun cs r _ _=>rfl
theorem Yp.of{L:V6 Rx}{S:V6 Nat}(h:Qp l L S)(hd:∀ b∈S,b∉V):Yp l V L S:=fun cs r h1 _=>h cs r fun b hb=>⟨(h1 b hb).1,(h1 b hb).2 (hd b hb)⟩
theorem Yp.d6{L:V6 Rx}{S:V6 Nat}(h:Yp l [] L S):Qp l L S:=fun cs r h1=>h cs r (fun b hb=>⟨(h1 b hb).1,fun _=>(h1 b hb).2⟩) fun b hb=>by cases hb
theorem Yp.more{L:V6 Rx}{S V':V6 Nat}(h:Yp l V L S)(h1:∀ b∈V,b∈V')(h2:∀ b∈S,b∈V'→b∈V):Yp l V' L S:=fun cs r k1 k2=>h cs r (fun b hb=>⟨(k1 b hb).1,fun q=>(k1 b hb).2 fun z=>q (h2 b hb z)⟩) fun b hb=>k2 b (h1 b hb)
theorem Zmy{cs S:V6 Nat}(h:∀ b∈S,b<cs.length)(b:Nat):(Ky cs S).getD b 0=cs.getD b 0+S.count b:=Pe S cs h b
theorem Yp.append{A B:V6 Rx}{S T:V6 Nat}(h1:Yp l V A S)(h2:Yp l (V++S) B T):Yp l V (A++B) (S++T):=fun cs r k1 k2=>by
 have hS:∀ b∈S,b<cs.length:=fun b hb=>(k1 b (If _ hb)).1;rw[A4,h1 cs (B++r) (fun b hb=>k1 b (If _ hb)) k2,h2 (Ky cs S) r (fun b hb=>?_) (fun b hb=>?_),Cm]
 ·have:=k1 b (List.mem_append_right _ hb);rw[Uc,Zmy hS];refine⟨this.1,fun q=>?_⟩;rw[List.mem_append,not_or] at q;rw[this.2 q.1,List.count_eq_zero.2 q.2]
 ·rw[Zmy hS];rcases List.mem_append.1 hb with q|q
  ·have:=k2 b q;omega
  ·have:=List.count_pos_iff.2 q;omega
theorem Yp.node{no:Nat}{ak:Int}{S:V6 Nat}(he:Zb8 l (no:Int) ak=0)(hn:no∉V)(h:Yp l (no::V) (Zcn l (no:Int) ak) S):Yp l V [((no:Int),ak,0)] (no::S):=fun cs r k1 k2=>by
 obtain⟨h1,h2⟩:=k1 no D6;have h2:=h2 hn;rw[List.singleton_append,Tw (x:=((no:Int),ak,0)) rfl ⟨by simp only;omega,by simp only;omega⟩ (by simpa using h2) he,h (Nl cs (no:Int)) r (fun b hb=>?_) (fun b hb=>?_),Me]
 ·have:=k1 b (E1 _ hb);rw[Vv,Cl h1];refine⟨this.1,fun q=>?_⟩;rw[B6,not_or] at q;rw[this.2 q.2,V7 (fun e=>q.1 e.symm)]
 ·rw[Cl h1];rcases B6.1 hb with rfl|q
  ·rw[V8 rfl];omega
  ·have:=k2 b q;omega
theorem Yp.i3{no:Nat}{ak:Int}(h:no∈V):Yp l V [((no:Int),ak,0)] [no]:=fun cs r k1 k2=>by
 have h1:=(k1 no D6).1;rw[List.singleton_append,Zk7 (x:=((no:Int),ak,0)) rfl ⟨by simp only;omega,by simp only;omega⟩ (by simpa using k2 no h)];rfl
theorem Yp.c2{L:V6 Rx}{S T:V6 Nat}(h:Yp l V L S)(hp:S.Perm T):Yp l V L T:=fun cs r k1 k2=>by
 rw[h cs r (fun b hb=>k1 b (hp.mem_iff.1 hb)) k2,Zd8 hp fun b hb=>(k1 b (hp.mem_iff.1 hb)).1]
theorem Yp.d0{x:Nat→Rx}{H:Nat→V6 Nat}(n:Nat)(h:∀ k,k<n→Yp l (V++(range k).flatMap H) [x k] (H k)):Yp l V ((range n).map x) ((range n).flatMap H):=by
 induction n with
 | zero=>exact Yp.nil
 | succ n ih =>
  rw[B8,A6,C7];refine(ih (fun k hk=>h k M0)).append (by simpa using h n M0)
theorem Zed{f:Nat→Nat}{H:Nat→V6 Nat}{N m:Nat}{sz:Nat→Nat}(hs:∀ i,sz i=min m (N-i*m)){j b:Nat}:b∈((range j).flatMap fun a=>f a::(range (sz a)).flatMap fun i=>H (a*m+i))→(∃ a,a<j∧b=f a)∨∃ k,k<j*m∧k<N∧b∈H k:=fun hb=>by
 obtain⟨a,ha,hb⟩:=List.mem_flatMap.1 hb;have ha:=A7.1 ha;rcases B6.1 hb with rfl|hb
 ·exact .inl ⟨a,ha,rfl⟩
 ·obtain⟨i,hi,hb⟩:=List.mem_flatMap.1 hb;have hi:=A7.1 hi;rw[hs] at hi;have:(a+1)*m≤j*m:=F1 m ha;rw[G8,I1] at this;exact .inr ⟨a*m+i,M0,M0,hb⟩
theorem Zwg{f:Nat→Nat}{H:Nat→V6 Nat}{N m:Nat}{sz:Nat→Nat}(hs:∀ i,sz i=min m (N-i*m))(hm:0<m){j k b:Nat}(hk:k<j*m)(hN:k<N)(hb:b∈H k):b∈((range j).flatMap fun a=>f a::(range (sz a)).flatMap fun i=>H (a*m+i)):=by
 have e:=Nat.div_add_mod k m;have a0:=Nat.mod_lt k hm;rw[M4] at e;have hq:k/m<j:=by
  rw[Nat.div_lt_iff_lt_mul hm];exact hk
 refine List.mem_flatMap.2 ⟨k/m,A7.2 hq,E1 _ (List.mem_flatMap.2 ⟨k%m,A7.2 ?_,?_⟩)⟩
 ·rw[hs];omega
 ·rw[e];exact hb
theorem ov_lt{n m j:Nat}(hn:1≤n)(hm:1≤m)(hj:j<ovN n m):j*m<n:=by
 have h1:=Nat.div_mul_le_self (n+m-1) m;by_cases h0:j=0
 ·subst h0;omega
 ·have h2:j+1≤(n+m-1)/m:=by unfold ovN at hj;omega
  have h3:=F1 m h2;rw[G8,I1] at h3;omega
theorem Zbo{F:Bl}{f:Nat→Nat}{H:Nat→V6 Nat}{N m:Nat}{sz:Nat→Nat}(hs:∀ i,sz i=min m (N-i*m))(hm:0<m){x:Nat→Rx}{t:Int}{j:Nat}(hj:j*m<N)
 (hT:∀ k,k<N→Yp F (V++(range k).flatMap H) [x k] (H k)) (hf1:f j∉V) (hf2:∀ a b,f a=f b→a=b) (hf3:∀ a k,a≤j→k<N→f a∉H k)
 (he:Zb8 F ((f j:Nat):Int) t=0) (hL:Zcn F ((f j:Nat):Int) t=(range (sz j)).map fun i=>x (j*m+i)) :
 Yp F (V++(range j).flatMap fun a=>f a::(range (sz a)).flatMap fun i=>H (a*m+i)) [(((f j:Nat):Int),t,0)] (f j::(range (sz j)).flatMap fun i=>H (j*m+i)):=by
 refine Yp.node he (fun hq=>?_) ?_
 ·rcases List.mem_append.1 hq with q|q
  ·exact hf1 q
  ·rcases Zed (f:=f) hs q with ⟨a,ha,e⟩|⟨k,_,hk,e⟩
   ·have:=hf2 _ _ e;omega
   ·exact hf3 j k (At _) hk e
 ·rw[hL]
  refine Yp.d0 (x:=fun i=>x (j*m+i)) (H:=fun i=>H (j*m+i)) _ fun i hi=>?_
  rw[hs] at hi
  refine(hT (j*m+i) M0).more (fun b hb=>?_) (fun b hb hq=>?_)
  ·rcases List.mem_append.1 hb with q|q
   ·exact If _ (E1 _ (If _ q))
   ·obtain⟨k,hk,q⟩:=List.mem_flatMap.1 q
    have hk:=A7.1 hk
    by_cases h:k<j*m
    ·exact If _ (E1 _ (List.mem_append_right _ (Zwg (f:=f) hs hm h M0 q)))
    ·exact List.mem_append_right _ (List.mem_flatMap.2 ⟨k-j*m,A7.2 M0,by rw[show j*m+(k-j*m)=k by omega];exact q⟩)
  ·rcases List.mem_append.1 hq with q|q
   ·rcases B6.1 q with rfl|q
    ·exact absurd hb (hf3 j _ (At _) M0)
    ·rcases List.mem_append.1 q with q|q
     ·exact If _ q
     ·rcases Zed (f:=f) hs q with ⟨a,ha,rfl⟩|⟨k,hk,a0,e⟩
      ·exact absurd hb (hf3 a _ M0 M0)
      ·exact List.mem_append_right _ (List.mem_flatMap.2 ⟨k,A7.2 M0,e⟩)
   ·obtain⟨k,hk,q⟩:=List.mem_flatMap.1 q
    have hk:=A7.1 hk
    exact List.mem_append_right _ (List.mem_flatMap.2 ⟨j*m+k,A7.2 M0,q⟩)
theorem Zfj{t:Int}(h1:1≤t)(h2:t≤5)(n:Nat):∀ (u:V6 Ent) (base:Nat) (bs F:Bl) (H:Nat→V6 Nat),u.length=n→1≤n→EntsOk 4 u→(∀ k,k<n→(u.getD k Zn).2.1=leB ((base+k:Nat):Int) 4∧(u.getD k Zn).2.2=((base+k:Nat):Int)) →
 1≤base→(base+n+((Vz n).sum-n))*256≤bs.length→F.length=bs.length→base+n+((Vz n).sum-n)≤14400→(∀ x,base+n≤x→x<base+n+((Vz n).sum-n)→Kc F x=Kc (Qs t u (base+n) bs).2 x) →
 (∀ k,k<n→Yp F (V++(range k).flatMap H) [(((base+k:Nat):Int),t,0)] (H k))→(∀ b∈V,b<base+n∨base+n+((Vz n).sum-n)≤b)→(∀ k,k<n→∀ b∈H k,b<base+n∨base+n+((Vz n).sum-n)≤b) →
 ∃ S,Yp F V [((Qs t u (base+n) bs).1,t,0)] S∧S.Perm (rng (base+n) ((Vz n).sum-n)++(range n).flatMap H):=by
 induction n using Nat.strongRecOn with
 | _ n ih =>
  intro u base bs F H hn b4 E hu c4 b3 a9 h4 hF hT hV a6
  subst hn
  by_cases h9:u.length≤1
  ·have b0:u.length=1:=M0
   have b9:Vz u.length=[1]:=by rw[Ja h9,b0]
   rw[b9,b0,Kb h9,(hu 0 M0).2]
   have q:=hT 0 M0
   simp only[List.range_zero,K9,F4] at q
   exact⟨H 0,q,by simp[rng]⟩
  ·have c2:=Znf (x:=u.length) M0
   have hp:=Yu u.length 18
   have b6:Vz u.length=u.length::Vz (ovN u.length 18):=Qv h9
   have hg:=Vu (ovN u.length 18)
   rw[b6] at b3 h4 hF a6 hV ⊢
   simp only[G3] at b3 h4 hF a6 hV ⊢
   obtain⟨a1,a2,a3⟩:=Qw (t:=t) (dx:=false) (m:=18) (v:=4) (l:=u) (q:=base+u.length) (bs:=bs) E h1 h2 rfl rfl (fun _=>by omega) (ovN u.length 18) (At _) M0
   obtain⟨b1,b2⟩:=Ha (t:=t) h1 h2 (ovN u.length 18) (upE u 18 (base+u.length) (ovN u.length 18)) (base+u.length+ovN u.length 18) (Pp t false 18 4 u (base+u.length) bs (ovN u.length 18)) (Xk _ _ _ _) hp (Mm E Do) (by rw[a1];omega)
   have a0:=Qn (t:=t) (q:=base+u.length) (bs:=bs) h9
   have a8:∀ i,Yq u.length 18 i=min 18 (u.length-i*18):=fun i=>rfl
   have a7:=It (n:=u.length) (m:=18) Do
   have b8:∀ j,j<ovN u.length 18→j*18<u.length:=fun j hj=>ov_lt M0 Do hj
   have a5:∀ j,j<ovN u.length 18→Yp F (V++(range j).flatMap fun a=>(base+u.length+a)::(range (Yq u.length 18 a)).flatMap fun i=>H (a*18+i)) [(((base+u.length+j:Nat):Int),t,0)] ((base+u.length+j)::(range (Yq u.length 18 j)).flatMap fun i=>H (j*18+i)):=fun j hj=>by
    have hk:=Ao (F:=F) (q:=base+u.length) (i:=j) E h1 h2 (dx:=false) (m:=18) (v:=4) rfl rfl (fun _=>b4) hj (by rw[hF _ M0 M0,a0,b2 _ M0];exact a2 j hj) a9 M0 M0;refine Zbo (f:=fun a=>base+u.length+a) (x:=fun k=>(((base+k:Nat):Int),t,0)) (sz:=Yq u.length 18) a8 Do (b8 j hj) (fun k hk=>hT k hk) (fun ha=>by have:=hV _ ha;omega) (fun a b e=>by have e:base+u.length+a=base+u.length+b:=e;omega) (fun a k c0 hk ha=>by have:=a6 k hk _ ha;omega) hk.1 ?_;rw[hk.2,V7 (fun q=>by cases q.1)];apply F9;intro i hi;have hi:=A7.1 hi;rw[a8] at hi;rw[(hu (j*18+i) M0).1,Zc2 M0 M0]
   have b7:∀ j b,b∈(range (Yq u.length 18 j)).flatMap (fun i=>H (j*18+i))→∃ i,i<u.length∧b∈H i:=fun j b hq=>by
    obtain⟨i,hi,hq⟩:=List.mem_flatMap.1 hq;have hi:=A7.1 hi;rw[a8] at hi;exact⟨j*18+i,M0,hq⟩
   obtain⟨S,hS,b5⟩:=ih (ovN u.length 18) M0 (upE u 18 (base+u.length) (ovN u.length 18)) (base+u.length) (Pp t false 18 4 u (base+u.length) bs (ovN u.length 18)) F (fun j=>(base+u.length+j)::(range (Yq u.length 18 j)).flatMap fun i=>H (j*18+i)) (Xk _ _ _ _) hp (Mm E Do) (fun k hk=>by rw[Kt hk];exact⟨rfl,rfl⟩)
    M0 (by rw[a1];omega) (by rw[a9,a1]) M0 (fun x c1 c3=>by rw[hF x M0 M0,a0]) a5
    (fun b hb=>by have:=hV b hb;omega)
    (fun k hk b hb=>by
     rcases B6.1 hb with rfl|hb
     ·omega
     ·obtain⟨i,hi,hb⟩:=b7 k _ hb;have:=a6 i hi _ hb;omega)
   rw[a0]
   refine⟨S,hS,b5.trans ?_⟩
   have a4:=Gl (n:=u.length) (m:=18) Do H (ovN u.length 18) (At _)
   rw[a7] at a4
   refine(L6 _ (Gz (f:=fun j=>base+u.length+j) _)).trans ?_
   rw[a4,←A4]
   refine List.Perm.append_right _ ?_
   have e:u.length+(Vz (ovN u.length 18)).sum-u.length=ovN u.length 18+((Vz (ovN u.length 18)).sum-ovN u.length 18):=M0
   rw[e,Ep]
   exact L7
theorem Zib{t:Int}{l:V6 Ent}{q:Nat}{bs F:Bl}{G:Nat→V6 Nat}(hF:F=(Xf t l q bs).2)(h1:1≤t)(h2:t≤5)(E:EntsOk (Jl t true) l)(hq:1≤q)(hbs:(q+Zy t l.length)*256≤bs.length)(h4:q+Zy t l.length≤14400)
 (hdd:¬ Bm t true) (hG:∀ k,k<l.length→∃ y,(∀ no:Int,Zct no t true (l.getD k Zn).2.1=y)∧Yp F (V++(range k).flatMap G) [y] (G k))
 (hV:∀ b∈V,b<q∨q+Zy t l.length≤b) (hfr:∀ k,k<l.length→∀ b∈G k,b<q∨q+Zy t l.length≤b) :
 ∃ S,Yp F V [((Xf t l q bs).1,t,0)] S∧S.Perm (rng q (Zy t l.length)++(range l.length).flatMap G):=by
 by_cases hl0:l.length=0
 ·have hz:l=[]:=H1 hl0
  subst hz
  obtain⟨S,hS,hp⟩:=Wx (G:=fun _=>[]) hF h1 h2 E hq hbs h4 (fun _ _ _=>rfl) (fun _ k hk=>absurd hk (Nat.not_lt_zero k)) (fun _ _ _ _ b hb=>by cases hb) (fun _ _ b hb=>by cases hb)
  refine⟨S,Yp.of hS fun b hb hq=>?_,hp⟩
  have h5:=hp.mem_iff.1 hb
  simp only[E4,List.range_zero,K9,F4] at h5
  have:=Ql.1 h5
  have:=hV b hq
  simp only[E4] at this
  omega
 obtain⟨m,hm⟩:∃ m,Jj t true=m:=⟨_,rfl⟩
 obtain⟨v,hv⟩:∃ v,Jl t true=v:=⟨_,rfl⟩
 have a4:=Qc t true
 have b0:=Yu l.length m
 have hg:=Vu (ovN l.length m)
 have hN:Zy t l.length=(Vz (ovN l.length m)).sum:=by unfold Zy Ue;rw[hm]
 have hT:Xf t l q bs=Qs t (upE l m q (ovN l.length m)) (q+ovN l.length m) (Pp t true m v l q bs (ovN l.length m)):=by unfold Xf;rw[hm,hv]
 rw[hv] at E
 rw[hm] at a4
 rw[hT] at hF ⊢
 rw[hN] at hbs h4 hfr hV ⊢
 have a8:=hF
 obtain⟨a1,a2,a3⟩:=Qw (t:=t) (dx:=true) (m:=m) (v:=v) (l:=l) (q:=q) (bs:=bs) E h1 h2 hm hv (fun h=>by cases h) (ovN l.length m) (At _) M0
 obtain⟨b1,b2⟩:=Ha (t:=t) h1 h2 (ovN l.length m) (upE l m q (ovN l.length m)) (q+ovN l.length m) (Pp t true m v l q bs (ovN l.length m)) (Xk _ _ _ _) b0 (Mm E a4.1) (by rw[a1];omega)
 have a9:F.length=bs.length:=by rw[a8,b1,a1]
 have a6:∀ i,Yq l.length m i=min m (l.length-i*m):=fun i=>rfl
 have a5:∀ j,j<ovN l.length m→Yp F (V++(range j).flatMap fun a=>(q+a)::(range (Yq l.length m a)).flatMap fun i=>G (a*m+i)) [(((q+j:Nat):Int),t,0)] ((q+j)::(range (Yq l.length m j)).flatMap fun i=>G (j*m+i)):=fun j hj=>by
  have hk:=Ao (F:=F) (q:=q) (i:=j) E h1 h2 (dx:=true) (m:=m) (v:=v) hm hv (fun h=>by cases h) hj (by rw[a8,b2 _ M0];exact a2 j hj) a9 M0 M0;refine Zbo (f:=fun a=>q+a) (x:=fun k=>Zct 0 t true (l.getD k Zn).2.1) (sz:=Yq l.length m) a6 M0 (ov_lt M0 M0 hj) (fun k hk=>?_) (fun ha=>by have:=hV _ ha;omega) (fun a b e=>by have e:q+a=q+b:=e;omega) (fun a k b5 hk ha=>by have:=hfr k hk _ ha;omega) hk.1 ?_
  ·obtain⟨y,e,hy⟩:=hG k hk;rw[e];exact hy
  ·rw[hk.2,V7 hdd];apply F9;intro i hi;have hi:=A7.1 hi;rw[a6] at hi;obtain⟨y,e,_⟩:=hG (j*m+i) M0;rw[e,e]
 have b4:∀ i b,b∈(range (Yq l.length m i)).flatMap (fun j=>G (i*m+j))→∃ k,k<l.length∧b∈G k:=fun i b hq=>by
  obtain⟨j,hj,hq⟩:=List.mem_flatMap.1 hq;have hj:=A7.1 hj;rw[a6] at hj;exact⟨i*m+j,M0,hq⟩
 obtain⟨S,hS,b3⟩:=Zfj h1 h2 (ovN l.length m) (upE l m q (ovN l.length m)) q (Pp t true m v l q bs (ovN l.length m)) F (fun i=>(q+i)::(range (Yq l.length m i)).flatMap fun j=>G (i*m+j)) (Xk _ _ _ _) b0 (Mm E a4.1) (fun k hk=>by rw[Kt hk];exact⟨rfl,rfl⟩) hq
  (by rw[a1];omega) (by rw[a9,a1]) M0 (fun x _ _=>by rw[a8]) a5
  (fun b hb=>by have:=hV b hb;omega)
  (fun k hk b hb=>by
   rcases B6.1 hb with rfl|hb
   ·omega
   ·obtain⟨i,hi,hb⟩:=b4 k _ hb;have:=hfr i hi _ hb;omega)
 refine⟨S,hS,b3.trans ?_⟩
 have a7:=It (n:=l.length) (m:=m) a4.1
 have a0:=Gl (n:=l.length) (m:=m) a4.1 G (ovN l.length m) (At _)
 rw[a7] at a0
 have e:rng q (Vz (ovN l.length m)).sum=rng q (ovN l.length m)++rng (q+ovN l.length m) ((Vz (ovN l.length m)).sum-ovN l.length m):=by
  rw[←Ep];congr 1;omega
 refine(L6 _ (Gz (f:=fun j=>q+j) _)).trans ?_
 rw[a0,←A4,e]
 exact List.Perm.append_right _ L7
end
section
attribute [local irreducible] wpList wpAnyH Code.wp Oper.wp Go
structure TwF(t u v:Int)(x k:Nat)(L:V6 Dv):Prop where
 pool:PoolOk t u v (x:Int) L
 room:Ma x L≤k
 a0:k≤3000
theorem TwF.xs{t u v:Int}{x k:Nat}{L:V6 Dv}(h:TwF t u v x k L):x≤65536:=by have:=h.pool.a3;omega
theorem twT_ok{data:Int}{L:V6 Dv}(h:DevsOk data L){i:Nat}(hi:i≤L.length):∀ y∈twT L i,Lu y:=fun y hy=>by
 unfold twT at hy;obtain⟨k,hk,rfl⟩:=List.mem_map.1 hy;have:=A7.1 (List.mem_filter.1 hk).1;exact Zdd h M0
theorem TwF.trees{t u v:Int}{x k:Nat}{L:V6 Dv}(h:TwF t u v x k L):∀ y∈G2 L,Lu y:=fun y hy=>by
 unfold G2 G1 at hy;rcases List.mem_append.1 hy with q|q
 ·rcases List.mem_append.1 q with q|q
  ·exact twT_ok h.pool.J (At _) y q
  ·rw[D0.1 q];exact top_ok h.pool.J
 ·rw[D0.1 q];exact det_ok h.pool.J
theorem Ps(x:Nat)(L:V6 Dv):twK x L=Xr (G2 L)+Qk (Xv x L):=rfl
theorem TwF.l1{t u v:Int}{x k:Nat}{L:V6 Dv}(h:TwF t u v x k L):(Zgo L k).length=k*256:=by
 have:=Iq h.room;have:=Ps x L;unfold Zgo;rw[Zgf _ _ _ h.trees (by rw[B7];omega),B7]
theorem TwF.Y{t u v:Int}{x k:Nat}{L:V6 Dv}(h:TwF t u v x k L):1+twK x L+(Zy 5 (Lv L)+bmN k+1)≤k:=by
 have:=Iq h.room;omega
theorem TwF.need{t u v:Int}{x k:Nat}{L:V6 Dv}(h:TwF t u v x k L):Yj (twC x L k)=Zy 5 (Lv L)+bmN k+1:=Znl (by have:=h.Y;omega)
def twJ (x k:Nat)(L:V6 Dv)(bs:Bl):Bl:=(Ke (twC x L k) (1+twK x L) 0 (Vp (Xv x L) (1+Xr (G2 L)) bs).2.2).2.2
def twX (t u v:Int)(x k:Nat)(L:V6 Dv):Bl:=Yf 1 ((0:Nat):Int) (Mw (twS t u v x L k))
theorem Bw(t u v:Int)(x k:Nat)(L:V6 Dv):(twX t u v x k L).length=256:=Yr (by rw[Ld];decide)
theorem Zvh(x k:Nat)(L:V6 Dv):twM x L k=Ke (twC x L k) (1+twK x L) 0 (twD x L k).2.2:=by
 unfold twM Ke;simp only[G4]
theorem Zvd(t u v:Int)(x k:Nat)(L:V6 Dv):twI t u v x L k=Qj (twJ x k L (Zgo L k)) (0*256) (twX t u v x k L):=by
 unfold twI;rw[Zvh];rfl
variable {t u v:Int} {x k:Nat} {L:V6 Dv}
theorem TwF.b4(h:TwF t u v x k L){bs:Bl}(hb:bs.length=k*256):(twJ x k L bs).length=k*256:=by
 have hf:=h.Y;have hx:=h.xs;have hk:=Ps x L;have p:=Ij (l:=Xv x L) (q:=1+Xr (G2 L)) (bs:=bs) (by rw[Ym];exact hx) (by rw[hb];omega);unfold twJ;rw[Zge (by rw[Ji];exact h.a0) (by rw[h.need,p,hb];omega),p,hb]
theorem TwF.len(h:TwF t u v x k L):(twI t u v x L k).length=k*256:=by
 rw[Zvd,Yk (by rw[Bw,h.b4 h.l1];have:=h.Y;omega),h.b4 h.l1]
def twWD(t u v:Int)(x k:Nat)(L:V6 Dv):Bl:=Qj (Ke (twC x L k) (1+twK x L) 0 (Zgo L k)).2.2 (0*256) (twX t u v x k L)
theorem TwF.data(h:TwF t u v x k L):twI t u v x L k=(Vp (Xv x L) (1+Xr (G2 L)) (twWD t u v x k L)).2.2:=by
 have hf:=h.Y;have hx:=h.xs;have hk:=Ps x L;have hl:=h.l1;have a1:(Xv x L).length≤65536:=by rw[Ym];exact hx
 have a0:(twC x L k).length≤3000:=by rw[Ji];exact h.a0
 have hm:=Zge (l:=twC x L k) (u:=1+twK x L) (bs:=Zgo L k) a0 (by rw[h.need,hl];omega);rw[Zvd];unfold twJ twWD;rw[Zyr a0 a1 (by rw[h.need,hl];omega) M0,plot_put a1 (Bw ..) (by rw[hm,hl];omega) M0]
theorem TwF.d3(h:TwF t u v x k L):(twWD t u v x k L).length=k*256:=by
 have hf:=h.Y;have hl:=h.l1;have hm:=Zge (l:=twC x L k) (u:=1+twK x L) (bs:=Zgo L k) (by rw[Ji];exact h.a0) (by rw[h.need,hl];omega);unfold twWD;rw[Yk (by rw[Bw,hm,hl];omega),hm,hl]
def twWM(t u v:Int)(x k:Nat)(L:V6 Dv):Bl:=Qj (Vp (Xv x L) (1+Xr (G2 L)) (Zgo L k)).2.2 (0*256) (twX t u v x k L)
theorem TwF.h8(h:TwF t u v x k L):twI t u v x L k=(Ke (twC x L k) (1+twK x L) 0 (twWM t u v x k L)).2.2:=by
 have hf:=h.Y;have hx:=h.xs;have hk:=Ps x L;have hl:=h.l1;have a1:(Xv x L).length≤65536:=by rw[Ym];exact hx
 have a0:(twC x L k).length≤3000:=by rw[Ji];exact h.a0
 have p:=Ij (l:=Xv x L) (q:=1+Xr (G2 L)) (bs:=Zgo L k) a1 (by rw[hl];omega);rw[Zvd];unfold twJ twWM;rw[Znp a0 (Bw ..) (by rw[h.need,p,hl];omega) M0]
theorem TwF.d4(h:TwF t u v x k L):(twWM t u v x k L).length=k*256:=by
 have hf:=h.Y;have hx:=h.xs;have hk:=Ps x L;have hl:=h.l1;have p:=Ij (l:=Xv x L) (q:=1+Xr (G2 L)) (bs:=Zgo L k) (by rw[Ym];exact hx) (by rw[hl];omega);unfold twWM;rw[Yk (by rw[Bw,p,hl];omega),p,hl]
theorem TwF.tree(h:TwF t u v x k L){a b:V6 Kw}{y:Kw}(e:G2 L=a++y::b):∃ W,twI t u v x L k=(Xf y.1 y.2 (1+Xr a) W).2∧W.length=k*256:=by
 have hf:=h.Y;have hx:=h.xs;have hk:=Ps x L;have a3:(Xv x L).length≤65536:=by rw[Ym];exact hx
 have a5:(twC x L k).length≤3000:=by rw[Ji];exact h.a0
 have a1:=h.trees;rw[e] at a1;have hy:=a1 y Y5;have hn:Xr (G2 L)=Xr a+(Km y+Xr b):=by rw[e];exact La a (y::b)
 have hz:(replicate (k*256) (0:UInt8)).length=k*256:=B7;have a2:=Zgf a 1 (replicate (k*256) (0:UInt8)) (fun z hz=>a1 z (by simp[hz])) (by rw[hz];omega);have a0:=Zgf b (1+Xr a+Km y) (Aa a 1 (replicate (k*256) (0:UInt8))) (fun z hz=>a1 z (by simp[hz])) (by rw[a2,hz];omega);have hc:=for_comm (p:=1+Xr a) hy b (1+Xr a+Km y) (Aa a 1 (replicate (k*256) (0:UInt8))) (fun z hz=>a1 z (by simp[hz])) (by rw[a2,hz];omega) (At _);obtain⟨W0,a4⟩:∃ W0,Aa b (1+Xr a+Km y) (Aa a 1 (replicate (k*256) (0:UInt8)))=W0:=⟨_,rfl⟩;rw[a4] at hc a0;have hB:Zgo L k=(Xf y.1 y.2 (1+Xr a) W0).2:=by
  unfold Zgo;rw[e,Zbn,hc];rfl
 rw[a2,hz] at a0;have a6:Km y=Zy y.1 y.2.length:=rfl;have hp:=Ij (l:=Xv x L) (q:=1+Xr (G2 L)) (bs:=W0) a3 (by rw[a0];omega);have hI:=h.b4 a0;refine⟨Qj (twJ x k L W0) (0*256) (twX t u v x k L),?_,by rw[Yk (by rw[Bw,hI];omega),hI]⟩;rw[Ho hy.1 hy.2.1 hy.2.2.1 (Bw ..) (by rw[hI];omega) (by rw[hI];omega) (.inl M0),Zvd,hB];unfold twJ;rw[Zxs a3 hy.1 hy.2.1 hy.2.2.1 (by rw[a0];omega) M0,Zbw a5 hy.1 hy.2.1 hy.2.2.1 (by rw[h.need,hp,a0];omega) M0]
end
section
attribute [local irreducible] wpList wpAnyH Code.wp Oper.wp Go
variable {t u v:Int} {x k:Nat} {L:V6 Dv}
theorem TwF.stands(h:TwF t u v x k L){a b:V6 Kw}{y:Kw}(e:G2 L=a++y::b):Dp (twI t u v x L k) 1000000 y.1 y.2 (Xr (a++[y]):Int):=by
 have hf:=h.Y;have hk:=Ps x L;have a2:=h.a0;have hy:=h.trees y (by rw[e];simp);obtain⟨W,hW,a0⟩:=h.tree e;have hn:Xr (G2 L)=Xr a+(Km y+Xr b):=by rw[e];exact La a (y::b)
 have a1:Km y=Zy y.1 y.2.length:=rfl;have hp:=Bt y;have s:=Dd (t:=y.1) (am:=1000000) (l:=y.2) (q:=1+Xr a) (bs:=W) hy.1 hy.2.1 hy.2.2.1 hy.2.2.2 M0 (by rw[a0];omega) M0 M0;rw[←hW,Hs,show 1+Xr a+Zy y.1 y.2.length-1=Xr (a++[y]) by rw[Vo];omega] at s;obtain⟨es,bl,h1,_,h3⟩:=s;unfold Dp;rw[h3];exact⟨h1,rfl⟩
theorem Zg7{i:Nat}(ho:Xz L i=i):∀ j,i<j→∃ r,twT L j=twT L i++(2,Up (L.getD i dvD).2)::r
 | 0,h=>absurd h (Nat.not_lt_zero i)
 | j+1,h=>by
  by_cases e:i=j
  ·subst e;exact⟨[],So ho⟩
  ·obtain⟨r,hr⟩:=Zg7 ho j M0;by_cases hj:Xz L j=j
   ·exact⟨r++[(2,Up (L.getD j dvD).2)],by rw[So hj,hr];simp⟩
   ·exact⟨r,by rw[Lr hj,hr]⟩
theorem G2_dev{i:Nat}(hi:i<L.length)(ho:Xz L i=i):∃ r,G2 L=twT L i++(2,Up (L.getD i dvD).2)::r:=by
 obtain⟨r,hr⟩:=Zg7 ho L.length hi;have e0:G2 L=twT L L.length++[(1,Wd L (twR L)),(3,Po L (Gh L))]:=by simp[G2,G1]
 exact⟨r++[(1,Wd L (twR L)),(3,Po L (Gh L))],by rw[e0,hr];simp⟩
theorem Zvs(L:V6 Dv):G2 L=twT L L.length++(1,Wd L (twR L))::[(3,Po L (Gh L))]:=by simp[G2,G1]
theorem TwF.root(h:TwF t u v x k L){i:Nat}(hi:i<L.length):1≤twR L i∧twR L i≤14399:=by
 have hf:=h.Y;have hk:=Ps x L;have a0:=h.a0;have a:=Ob hi;have b:=Je L (show i+1≤L.length from hi);have c:=Zy2 L;omega
theorem TwF.J(h:TwF t u v x k L):DevsStand (twI t u v x L k) 1000000 (x:Int) L (twR L) (Gh L) (Xr (G1 L):Int) (Xr (G2 L):Int):=by
 refine⟨h.stands (a:=G1 L) (y:=(3,Po L (Gh L))) (b:=[]) rfl,h.stands (Zvs L),fun i hi=>?_,fun i hi=>h.root hi⟩;have ho:=Ng hi;obtain⟨r,hr⟩:=G2_dev (L:=L) (i:=Xz L i) M0 (Pt hi);have s:=h.stands hr;rw[ho.2] at s;have e:Xr (twT L (Xz L i)++[(2,Up (L.getD i dvD).2)])=twR L i:=by
  unfold twR twN;rw[So (Pt hi),ho.2]
 rw[e] at s;exact s
theorem TwF.k4(h:TwF t u v x k L):Yt (twI t u v x L k)=0∧Zh (inB (twI t u v x L k) 0)=twS t u v x L k:=by
 have hf:=h.Y;refine sup_back h.len M0 ?_ (Zft h.pool h.room (by have:=h.a0;omega)) (N5 _);rw[Zvd];exact Fx (Bw ..) (by rw[h.b4 h.l1];omega)
theorem TwF.load(h:TwF t u v x k L):Yt (twI t u v x L k)=0∧Zh (inB (twI t u v x L k) 0)=twS t u v x L k∧Zcr (twI t u v x L k) (Xr (G1 L):Int) (Xr (G2 L):Int) (x:Int) 1000000=([],0,L):=by
 obtain⟨s1,s2⟩:=h.k4;exact⟨s1,s2,Zsl (by have:=h.xs;omega) h.pool.J h.J⟩
theorem TwF.over(h:TwF t u v x k L)(h18:k≤1800):(Zp (Xv x L) (Xv x L).length).length≤32768:=by
 have hf:=h.Y;have hk:=Ps x L;have hp:Zy 5 (Zp (Xv x L) (Xv x L).length).length≤1800:=by
  have:Qk (Xv x L)=bmN (Xv x L).length+Zy 4 (bmN (Xv x L).length)+Zy 5 (Zp (Xv x L) (Xv x L).length).length:=rfl;omega
 obtain⟨n,hn⟩:∃ n,(Zp (Xv x L) (Xv x L).length).length=n:=⟨_,rfl⟩;rw[hn] at hp ⊢;obtain⟨m,hm⟩:∃ m,Jj 5 true=m:=⟨_,rfl⟩;have a1:=Qc 5 true;have hg:=Vu (ovN n m);have a0:m≤18:=by rw[←hm];decide
 have hN:Zy 5 n=(Vz (ovN n m)).sum:=by unfold Zy Ue;rw[hm]
 have ha:=It (n:=n) (m:=m) M0;have:ovN n m*m≤1800*m:=F1 m M0;have:1800*m≤1800*18:=Nat.mul_le_mul_left 1800 a0;omega
theorem TwF.j1(h:TwF t u v x k L)(h18:k≤1800):Ah (twI t u v x L k) (twD x L k).1 (twD x L k).2.1 (x:Int) 1000000=([],0,Xv x L):=by
 have hf:=h.Y;have hk:=Ps x L;have q:=Zp8 (l:=Xv x L) (q:=1+Xr (G2 L)) (bs:=twWD t u v x k L) (am:=1000000) M0 (Em h.xs h.pool.J) (by rw[Ym];exact h.xs) (h.over h18) M0 (by rw[h.d3];omega) M0;obtain⟨_,e1,e2⟩:=Pz (Xv x L) (1+Xr (G2 L)) _ (twWD t u v x k L) _ _ rfl rfl rfl;obtain⟨_,e3,e4⟩:=Pz (Xv x L) (1+Xr (G2 L)) _ (Zgo L k) _ _ rfl rfl rfl;rw[←h.data,e1,e2,Ym] at q;unfold twD;rw[e3,e4,Ym];exact q
theorem bump_cnt{a:Nat}(m n:Nat)(ha:twN L L.length<a):Qy (Bo L a n) a m=Bo L (a+m) n:=by
 refine Gs 0 (by rw[Qe,Kj,Kj]) fun i hi=>?_;rw[Qe,Kj] at hi;rw[Fm (by rw[Kj];exact hi),Gx hi,Gx hi];by_cases q:i<a
 ·rw[V8 q,V7 M0,V8 M0];omega
 ·rw[V7 q,Nk (.inr M0)];repeat' split
  all_goals omega
theorem Zn9(h:TwF t u v x k L):Zbe (twC x L k) ((1+twK x L:Nat):Int):=by rw[R0];exact Zg6 h.pool.J.a0 (Zh0 _ _)
theorem Zi0(h:TwF t u v x k L):Jn (twC x L k)=0:=Zdb (by have:=h.a0;omega) h.pool.J.a0
theorem TwF.j5(h:TwF t u v x k L):Zcc (twI t u v x L k) (twM x L k).1 (twM x L k).2.1 (k:Int) 1000000=([],0,Bo L (1+twK x L+(Zy 5 (Lv L)+bmN k+1)) k):=by
 have hf:=h.Y;have a0:=h.a0;have hn:=h.need;have hg:=Zh0 x L;have q:=Zt6 (l:=twC x L k) (u:=1+twK x L) (bs:=twWM t u v x k L) (am:=1000000) M0 (Zi0 h) (Zn9 h) (by rw[Ji];exact a0) (by rw[hn];omega) (by rw[hn,h.d4];omega) (by rw[hn];omega);obtain⟨_,e1,e2⟩:=Bn (twC x L k) (1+twK x L) _ _ (twWM t u v x k L) _ _ rfl rfl rfl rfl;obtain⟨_,e3,e4⟩:=Bn (twC x L k) (1+twK x L) _ _ (twD x L k).2.2 _ _ rfl rfl rfl rfl;have hb:Qy (twC x L k) (1+twK x L) (Zy 5 (Lv L)+bmN k+1)=Bo L (1+twK x L+(Zy 5 (Lv L)+bmN k+1)) k:=by
  unfold twC;rw[R0 1];exact bump_cnt _ _ hg
 rw[←h.h8,e1,e2,Ji,hn,hb] at q;rw[Zvh,e3,e4,Ji];exact q
end
section
attribute [local irreducible] wpList wpAnyH Code.wp Oper.wp Go
variable {t u v:Int} {x k:Nat} {L:V6 Dv}
theorem TwF.d6(h:TwF t u v x k L){a b:V6 Kw}{y:Kw}(e:G2 L=a++y::b){G:Nat→V6 Nat}(hD:Bm y.1 true→∀ k,k<y.2.length→G k=[])
 (hG:¬ Bm y.1 true→∀ i,i<y.2.length→∃ z,(∀ no:Int,Zct no y.1 true (y.2.getD i Zn).2.1=z)∧Qp (twI t u v x L k) [z] (G i)) (hd:∀ i j,i<j→j<y.2.length→∀ b∈G j,b∉G i) (hfr:∀ i,i<y.2.length→∀ b∈G i,b<1+Xr a∨1+Xr a+Km y≤b) :
 ∃ S,Qp (twI t u v x L k) [(((Xr (a++[y]):Nat):Int),y.1,0)] S∧S.Perm (rng (1+Xr a) (Km y)++(range y.2.length).flatMap G):=by
 have hf:=h.Y
 have hk:=Ps x L
 have a2:=h.a0
 have hy:=h.trees y (by rw[e];simp)
 obtain⟨W,hW,a0⟩:=h.tree e
 have hn:Xr (G2 L)=Xr a+(Km y+Xr b):=by rw[e];exact La a (y::b)
 have a1:Km y=Zy y.1 y.2.length:=rfl
 have hp:=Bt y
 have s:=Wx (G:=G) (q:=1+Xr a) (bs:=W) hW hy.1 hy.2.1 hy.2.2.1 M0 (by rw[a0];omega) M0 hD hG hd hfr
 rw[Hs,show 1+Xr a+Zy y.1 y.2.length-1=Xr (a++[y]) by rw[Vo];omega] at s
 exact s
theorem TwF.e4(h:TwF t u v x k L){a b:V6 Kw}{y:Kw}(e:G2 L=a++y::b)(hdd:Bm y.1 true):Qp (twI t u v x L k) [(((Xr (a++[y]):Nat):Int),y.1,0)] (rng (1+Xr a) (Km y)):=by
 obtain⟨S,hS,hp⟩:=h.d6 e (G:=fun _=>[]) (fun _ _ _=>rfl) (fun q=>absurd hdd q) (fun _ _ _ _ b hb=>by cases hb) (fun _ _ b hb=>by cases hb);rw[Of,F4] at hp;exact hS.c2 hp
theorem TwF.f3(h:TwF t u v x k L){i:Nat}(hi:i<L.length)(ho:Xz L i=i):Qp (twI t u v x L k) [(((twN L (i+1):Nat):Int),2,0)] (rng (1+twN L i) (Zy 2 (L.getD i dvD).2.length)):=by
 obtain⟨r,hr⟩:=G2_dev hi ho;have s:=h.e4 hr dead_2;have e1:Xr (twT L i++[(2,Up (L.getD i dvD).2)])=twN L (i+1):=by unfold twN;rw[So ho]
 have e2:Km (2,Up (L.getD i dvD).2)=Zy 2 (L.getD i dvD).2.length:=by show Zy 2 (Up _).length=_;rw[Jo]
 rw[e1,e2] at s;exact s
def tgF (L:V6 Dv)(i:Nat):V6 Nat:=if Xz L i=i then rng (1+twN L i) (Zy 2 (L.getD i dvD).2.length) else [twR L i]
theorem tg_in{i b:Nat}(hi:i<L.length)(hb:b∈tgF L i):1≤b∧b≤twN L (i+1):=by
 unfold tgF at hb;by_cases ho:Xz L i=i
 ·rw[V8 ho] at hb;have:=Ql.1 hb;rw[Wz ho];omega
 ·rw[V7 ho] at hb;rw[D0.1 hb];have:=Ob hi;omega
theorem top_valT{i:Nat}(hi:i<L.length)(h1:1≤twR L i)(h2:twR L i≤14399)(no:Int):Zct no 1 true ((Wd L (twR L)).getD i Zn).2.1=(((twR L i:Nat):Int),2,0):=by
 rw[Ui hi];obtain⟨a,b⟩:=Ic h1 h2;unfold Zct;rw[V7 (fun q=>absurd q.2 Do),V7 (fun q=>q a),b];rfl
theorem TwF.f2(h:TwF t u v x k L):∃ S,Qp (twI t u v x L k) [(((Xr (G1 L):Nat):Int),1,0)] S∧S.Perm (rng (1+twN L L.length) (Zy 1 L.length)++(range L.length).flatMap (tgF L)):=by
 have hf:=h.Y;have hk:=Ps x L;have a7:=h.a0;have a5:=h.trees (1,Wd L (twR L)) (by rw[Zvs];simp);obtain⟨W,hW,a4⟩:=h.tree (Zvs L);have hg:=Zv8 L;have a6:Xr (G1 L)=twN L L.length+Zy 1 L.length:=by
  have e:Xr (G1 L)=Xr (twT L L.length)+Zy 1 (Wd L (twR L)).length:=Vo _ _;rw[Yw] at e;exact e
 have hW:twI t u v x L k=(Xf 1 (Wd L (twR L)) (1+twN L L.length) W).2:=hW;obtain⟨S,hS,hp⟩:=Zib (t:=1) (l:=Wd L (twR L)) (V:=[]) (G:=tgF L) (q:=1+twN L L.length) (bs:=W) hW Do Do a5.2.2.1 M0 (by rw[a4,Yw];omega) (by rw[Yw];omega) (fun q=>absurd rfl q.2.1)
  (fun i hi=>by
   rw[Yw] at hi;have hr:=h.root hi;refine⟨_,fun no=>top_valT hi hr.1 hr.2 no,?_⟩;by_cases ho:Xz L i=i
   ·have s:=h.f3 hi ho;have e:tgF L i=rng (1+twN L i) (Zy 2 (L.getD i dvD).2.length):=(by unfold tgF;rw[V8 ho]);rw[Zkp ho,e];refine Yp.of s fun b hb hq=>?_;rw[F7] at hq;obtain⟨j,hj,hq⟩:=List.mem_flatMap.1 hq;have hj:=A7.1 hj;have a1:=tg_in M0 hq;have a2:=Je L (show j+1≤i by omega);have a3:=Ql.1 hb;omega
   ·have e:tgF L i=[twR L i]:=(by unfold tgF;rw[V7 ho]);rw[e];refine Yp.i3 ?_;rw[F7];have hl:=Ng hi;refine List.mem_flatMap.2 ⟨Xz L i,A7.2 M0,?_⟩;have a0:=Pt hi;have hy:=Wz a0;have hn:=Qf 2 (L.getD (Xz L i) dvD).2.length;unfold tgF;rw[V8 a0];exact Ql.2 (by unfold twR;omega))
  (fun b hb=>by cases hb)
  (fun i hi b hb=>by
   rw[Yw] at hi;have a1:=tg_in hi hb;have a2:=Je L (show i+1≤L.length from hi);omega)
 rw[Yw] at hp;rw[Hs,Yw,show 1+twN L L.length+Zy 1 L.length-1=Xr (G1 L) by omega] at hS;exact⟨S,hS.d6,hp⟩
def nonC(L:V6 Dv)(b:Nat):Nat→Nat
 | 0=>0
 | i+1=>nonC L b i+if Xz L i=i then 0 else if twR L i=b then 1 else 0
def Zr6(L:V6 Dv)(b:Nat):Nat→Nat
 | 0=>0
 | i+1=>Zr6 L b i+if Xz L i=i then(if twR L i=b then 1 else 0) else 0
theorem Zna(b:Nat):∀ i,((range i).flatMap (tgF L)).count b=(if 1≤b∧b≤twN L i then 1 else 0)+nonC L b i
 | 0=>by
  have e:twN L 0=0:=rfl;rw[e,V7 M0];rfl
 | i+1=>by
  rw[B8,C7,List.count_append,Zna b i,nonC];simp only[E7,K9,F4];unfold tgF;by_cases ho:Xz L i=i
  ·rw[V8 ho,V8 ho,Wy,Wz ho];repeat' split
   all_goals omega
  ·rw[V7 ho,V7 ho,Zbj ho];by_cases e:twR L i=b
   ·rw[V8 e,e];simp;omega
   ·rw[V7 e,List.count_eq_zero.2 (by simpa using fun q=>e q.symm)];omega
theorem Zmj(b:Nat):∀ i,((range i).map (twR L)).count b=nonC L b i+Zr6 L b i
 | 0=>rfl
 | i+1=>by
  rw[B8,A6,List.count_append,Zmj b i,nonC,Zr6];simp only[D7,H0];have e:[twR L i].count b=if twR L i=b then 1 else 0:=by
   by_cases e:twR L i=b
   ·rw[V8 e,e];simp
   ·rw[V7 e,List.count_eq_zero.2 (by simpa using fun q=>e q.symm)]
  rw[e];by_cases ho:Xz L i=i
  ·rw[V8 ho,V8 ho];omega
  ·rw[V7 ho,V7 ho];omega
theorem Zmg(b:Nat):∀ i,i≤L.length→Zr6 L b i≤1∧(Zr6 L b i≠0→b≤twN L i)
 | 0,_=>⟨A5 _,fun q=>absurd rfl q⟩
 | i+1,h=>by
  obtain⟨h1,h2⟩:=Zmg b i M0;rw[Zr6];by_cases ho:Xz L i=i
  ·have hy:=Wz ho;have hn:=Qf 2 (L.getD i dvD).2.length;rw[V8 ho,Zkp ho];by_cases e:twN L (i+1)=b
   ·rw[V8 e];have:Zr6 L b i=0:=by
     rcases H8 (Zr6 L b i) with z|z
     ·exact z
     ·have:=h2 (Nat.ne_of_gt z);omega
    omega
   ·rw[V7 e];exact⟨M0,fun q=>by have:=h2 q;omega⟩
  ·rw[V7 ho,Zbj ho];exact⟨h1,h2⟩
theorem ownC_pos{b i j:Nat}(hj:j<i)(ho:Xz L j=j)(e:twR L j=b):1≤Zr6 L b i:=by
 induction i with
 | zero=>omega
 | succ i ih =>
  rw[Zr6];by_cases q:j=i
  ·subst q;rw[V8 ho,V8 e];omega
  ·have:=ih M0;omega
theorem Zmm(b:Nat):∀ i,i≤L.length→nonC L b i≠0→1≤Zr6 L b i
 | 0,_,h=>absurd rfl h
 | i+1,hi,h=>by
  by_cases z:nonC L b i=0
  ·rw[nonC,z] at h;by_cases ho:Xz L i=i
   ·rw[V8 ho] at h;omega
   ·rw[V7 ho] at h;by_cases e:twR L i=b
    ·have hl:=Ng (L:=L) (i:=i) M0;refine ownC_pos (j:=Xz L i) M0 (Pt M0) ?_;rw[←twR_of M0];exact e
    ·rw[V7 e] at h;omega
  ·have:=Zmm b i M0 z;rw[Zr6];omega
theorem tg_final(b:Nat):((range L.length).flatMap (tgF L)).count b=if 1≤b∧b≤twN L L.length then max (rcF L b) 1 else 0:=by
 have h1:=Zna (L:=L) b L.length;have h2:rcF L b=nonC L b L.length+Zr6 L b L.length:=Zmj b L.length;have h3:=Zmg (L:=L) b L.length (At _);have h4:=Zmm (L:=L) b L.length (At _);rw[h1];by_cases q:1≤b∧b≤twN L L.length
 ·rw[V8 q,V8 q,h2];omega
 ·rw[V7 q,V7 q];have:=Nk (L:=L) (b:=b) M0;omega
theorem TwF.e9(h:TwF t u v x k L):Qp (twI t u v x L k) [(((Xr (G2 L):Nat):Int),3,0)] (rng (1+Xr (G1 L)) (Km (3,Po L (Gh L)))):=h.e4 (a:=G1 L) (y:=(3,Po L (Gh L))) (b:=[]) rfl dead_3
end
section
attribute [local irreducible] wpList wpAnyH Code.wp Oper.wp Go
variable {t u v:Int} {x k:Nat} {L:V6 Dv}
theorem TwF.d8(h:TwF t u v x k L)(h18:k≤1800):Qp (twI t u v x L k) [((twD x L k).1,4,0)] (rng (1+Xr (G2 L)) (bmN x+Zy 4 (bmN x)))∧Qp (twI t u v x L k) [((twD x L k).2.1,5,0)] (rng (1+Xr (G2 L)+bmN x+Zy 4 (bmN x)) (Qk (Xv x L)-(bmN x+Zy 4 (bmN x)))):=by
 have hf:=h.Y;have hk:=Ps x L;obtain⟨l,hl⟩:∃ l,Xv x L=l:=⟨_,rfl⟩;obtain⟨q,hq⟩:∃ q,1+Xr (G2 L)=q:=⟨_,rfl⟩;have b1:l.length=x:=by rw[←hl,Ym]
 have a9:=h.over h18;have hc:∀ k,k<l.length→Ph (l.getD k 0):=by rw[←hl];exact(Ws (Em h.xs h.pool.J)).2
 have a0:=h.data;have a2:=h.len;have b0:=h.d3;have hx:=h.xs;obtain⟨F,hF⟩:∃ F,twI t u v x L k=F:=⟨_,rfl⟩;obtain⟨bs,b2⟩:∃ bs,twWD t u v x k L=bs:=⟨_,rfl⟩;obtain⟨_,e3,e4⟩:=Pz l q _ (Zgo L k) _ _ rfl rfl rfl;unfold twD;rw[hl] at hk a9 a0 ⊢;rw[hq] at a0 ⊢;rw[hF] at a0 a2 ⊢;rw[b2] at a0 b0;have hN:bmN l.length=bmN x:=by rw[b1]
 obtain⟨N,a6⟩:∃ N,bmN x=N:=⟨_,rfl⟩;rw[a6] at hN ⊢;obtain⟨O,hO⟩:∃ O,Zp l l.length=O:=⟨_,rfl⟩;obtain⟨C,hC⟩:∃ C,Xe (Zj l) N=C:=⟨_,rfl⟩;have a8:Qk l=N+Zy 4 N+Zy 5 O.length:=by unfold Qk;rw[hN,hO]
 have b4:N≤69:=by unfold bmN at a6;omega
 have ES:EntsOk (Jl 4 true) (Xl C q N):=Gi _ _ _ M0;have EO:EntsOk (Jl 5 true) O:=hO▸Vl _ _ M0;have a1:=Yd (L:=C) (q:=q) (bs:=bs) N M0;have hP:=(Pz l q N bs C O hN hC hO).1;rw[hP] at a0;have hT:=Wi (t:=5) (s:=4) (l:=O) (e:=Xl C q N) (q:=q+N+Zy 4 N) (p:=q+N) (bs:=Xt C q bs N) Do Do EO Do Do ES (by rw[a1];omega) (by rw[Xg];exact At _);have k4:=Qa (t:=4) (l:=Xl C q N) (q:=q+N) (bs:=Xt C q bs N) Do Do ES (by rw[a1,Xg];omega);have k5:=Qa (t:=5) (l:=O) (q:=q+N+Zy 4 N) (bs:=(Xf 4 (Xl C q N) (q+N) (Xt C q bs N)).2) Do Do EO (by rw[k4.1,a1];omega);have k6:=Qa (t:=5) (l:=O) (q:=q+N+Zy 4 N) (bs:=Xt C q bs N) Do Do EO (by rw[a1];omega);have a3:∀ i,i<N→Ye F ((q+i:Nat):Int)=0:=fun i hi=>by
  have a4:=Gp hc i;refine(Ra (by rw[a2];omega) M0 ?_ a4.1 a4.2).1;rw[a0,k5.2 _ M0,k4.2 _ M0,Cg (m:=bs.length/256) (by rw[a1]) rfl M0 hi,←hC,Ko hi]
 have d4:F=(Xf 4 (Xl C q N) (q+N) (Xf 5 O (q+N+Zy 4 N) (Xt C q bs N)).2).2:=by rw[hT,a0]
 obtain⟨S,hS,hp⟩:=Wx (G:=fun i=>[q+i]) d4 Do Do ES M0 (by rw[Xg,k6.1,a1];omega) (by rw[Xg];omega) (fun q=>absurd rfl q.2.2)
  (fun _ i hi=>⟨_,fun no=>slot_val (by rwa [Xg] at hi) M0 (by rw[Xg] at hi;omega) (by rw[Xg] at hi;rw[←hC,Ko hi];exact(Gp hc i).2) no,Zd1 (a3 i (by rwa [Xg] at hi))⟩)
  (fun i j b3 _ b hb hq=>by
   rw[D0] at hb hq;omega)
  (fun i hi b hb=>by
   rw[D0] at hb;rw[Xg] at hi;omega)
 obtain⟨S5,a5,a7⟩:=Wx (G:=fun _=>[]) a0 Do Do EO M0 (by rw[k4.1,a1];omega) M0 (fun _ _ _=>rfl) (fun q=>absurd dead_5 q) (fun _ _ _ _ b hb=>by cases hb) (fun _ _ b hb=>by cases hb);rw[Xg,Zmf] at hp;rw[Of,F4] at a7;rw[Hs,Xg] at hS;rw[Hs] at a5;rw[hN] at e3;constructor
 ·rw[e3];exact hS.c2 (hp.trans rng_swap)
 ·rw[e4,a8,show q+(N+Zy 4 N+Zy 5 O.length)-1=q+N+Zy 4 N+Zy 5 O.length-1 by omega,show N+Zy 4 N+Zy 5 O.length-(N+Zy 4 N)=Zy 5 O.length by omega];exact a5.c2 a7
theorem TwF.d7(h:TwF t u v x k L):Qp (twI t u v x L k) [((twM x L k).1,6,0)] (rng (1+twK x L+Zy 5 (Lv L)) (bmN k+1))∧Qp (twI t u v x L k) [((twM x L k).2.1,5,0)] (rng (1+twK x L) (Zy 5 (Lv L))):=by
 have hf:=h.Y;have d5:=h.a0;have hm:=h.need;have a0:=h.h8;have a9:=h.len;have c9:=h.d4;have a8:=Zvh x k L;have a1:=Zn9 h;have b6:=Zi0 h;have b1:(Zp (twC x L k) (twC x L k).length).length=Lv L:=Av M0;obtain⟨O,hO⟩:∃ O,Zp (twC x L k) (twC x L k).length=O:=⟨_,rfl⟩;rw[hO] at b1;obtain⟨T,b4⟩:∃ T,Zy 5 (Lv L)=T:=⟨_,rfl⟩;have hT:Zy 5 O.length=T:=by rw[b1,b4]
 have d0:=Qf 5 (Lv L);rw[b4] at d0 hm hf ⊢;obtain⟨F,hF⟩:∃ F,twI t u v x L k=F:=⟨_,rfl⟩;obtain⟨bs,d2⟩:∃ bs,twWM t u v x k L=bs:=⟨_,rfl⟩;obtain⟨l,hl⟩:∃ l,twC x L k=l:=⟨_,rfl⟩;obtain⟨q,hq⟩:∃ q,1+twK x L=q:=⟨_,rfl⟩;have c2:l.length=k:=by rw[←hl,Ji]
 rw[hl] at a1 b6;rw[hq] at a1;have c7:Zbe l (q:Int):=a1;have hs:Jn l=0:=b6;rw[hl] at hm a0 a8 hO;rw[hq] at hf a0 a8 ⊢;rw[hF] at a0 a9 ⊢;rw[d2] at a0 c9;rw[a8];obtain⟨N,hN⟩:∃ N,bmN k=N:=⟨_,rfl⟩;have d3:N≤4:=by unfold bmN at hN;omega
 rw[hN] at hf hm ⊢;have b5:bmN l.length=N:=by rw[c2,hN]
 obtain⟨B,hB⟩:∃ B,Qy l q (Yj l)=B:=⟨_,rfl⟩;have d6:B.length=l.length:=by rw[←hB,Qe]
 have c4:∀ k,k<B.length→Ph (B.getD k 0):=by rw[←hB];exact Ii c7 (Ws hs).2
 obtain⟨C,hC⟩:∃ C,Xe (Zj (Qy l q (Yj l))) N=C:=⟨_,rfl⟩;obtain⟨_,e3,e4⟩:=Bn l q N T (twD x L k).2.2 C O b5 hO hT hC;have hP:=(Bn l q N T bs C O b5 hO hT hC).1;rw[hP] at a0;obtain⟨R,hR⟩:∃ R,Rs C (q+T) N=R:=⟨_,rfl⟩;obtain⟨X,hX⟩:∃ X,Yf 4 ((q+T+N:Nat):Int) (Fw R)=X:=⟨_,rfl⟩;rw[hR,hX] at a0;rw[hB] at hC;have EO:EntsOk (Jl 5 true) O:=by have:=Vl l l.length M0;rwa [hO] at this
 have b9:∀ i,i<N→C.getD i []=Yv (Zj B) i:=fun i hi=>by rw[←hC,Ko hi]
 have b0:=Gp c4;have d1:∀ i,i<N→R.getD i rsD=(q+T+i,Yn (Yv (Zj B) i),Xi (Yv (Zj B) i)):=fun i hi=>by rw[←hR,Ztv hi,b9 i hi]
 have c8:R.length=N:=by rw[←hR,Du]
 have b2:Rv R:=⟨M0,fun i hi=>by
  rw[c8] at hi;rw[d1 i hi];have h1:=(b0 i).2;exact⟨by show 1≤q+T+i;omega,by show q+T+i≤14399;omega,N0 (Mt _ _) h1,N0 (Nv _) h1⟩⟩
 have c1:(Fw R).length=244:=Db M0;have a5:X.length=256:=by rw[←hX];exact Yr M0
 have a2:=Qa (t:=5) (l:=O) (q:=q) (bs:=bs) Do Do EO (by rw[hT];omega);have a3:=Yd (L:=C) (q:=q+T) (bs:=bs) N M0;have a4:=Yd (L:=C) (q:=q+T) (bs:=(Xf 5 O q bs).2) N (by rw[a2.1];omega);have c5:(Qj (Xt C (q+T) bs N) ((q+T+N)*256) X).length=bs.length:=by rw[Yk (by rw[a5,a3];omega),a3]
 have c6:Xf 5 O q (Qj (Xt C (q+T) bs N) ((q+T+N)*256) X)=((Xf 5 O q bs).1,F):=by
  rw[Ho Do Do EO a5 (by rw[a3,hT];omega) (by rw[a3];omega) (by rw[hT];omega),Bu Do Do EO (by rw[hT];exact At _) N M0,a0]
 have a7:=Zfd (l:=F) (kind:=4) (k:=q+T+N) (li:=Fw R) Do Do (by rw[a9];omega) M0 c1 (by rw[a0,hX];exact Fx a5 (by rw[a4,a2.1];omega));have c0:∀ i,i<N→Ye F ((q+T+i:Nat):Int)=0:=fun i hi=>by
  refine(Ra (by rw[a9];omega) M0 ?_ (b0 i).1 (b0 i).2).1;rw[a0,Va (k:=q+T+N) a5 (by rw[a4,a2.1];omega) M0 (by rw[a4,a2.1];omega),Cg (m:=bs.length/256) (by rw[a4,a2.1]) (by rw[a2.1]) M0 hi,b9 i hi]
 have b8:Qr F ((q+T+N:Nat):Int)=0:=by unfold Qr;rw[V8 a7.1,a7.2];exact(Fy b2).1
 have c3:Wj F ((q+T+N:Nat):Int)=R:=by rw[(Rr b8).1,a7.2,Ze6 M0];exact(Fy b2).2
 have a6:R.map Lz=(range N).map fun i=>((((q+T+i:Nat):Int),7,0):Rx):=by
  rw[←hR];unfold Rs;rw[L5];rfl
 constructor
 ·rw[e3];have hL:Qp F (Zcn F ((q+T+N:Nat):Int) 6) (rng (q+T) N):=by
   unfold Zcn;rw[V8 rfl,c3,a6,←Zmf];refine Qp.d0 (x:=fun i=>(((q+T+i:Nat):Int),7,0)) _ (fun i hi=>Zd1 (c0 i hi)) fun i j d4 hj b hb hq=>?_;rw[D0] at hb hq;omega
  exact(Qp.node (no:=q+T+N) (ak:=6) (by unfold Zb8;rw[V8 rfl];exact b8) hL (fun hq=>by have:=Ql.1 hq;omega)).c2 rng_cons
 ·obtain⟨S5,b3,b7⟩:=Wx (F:=F) (G:=fun _=>[]) (t:=5) (l:=O) (q:=q) (bs:=Qj (Xt C (q+T) bs N) ((q+T+N)*256) X) (by rw[c6]) Do Do EO M0 (by rw[hT,c5];omega) (by rw[hT];omega) (fun _ _ _=>rfl) (fun q=>absurd dead_5 q) (fun _ _ _ _ b hb=>by cases hb) (fun _ _ b hb=>by cases hb);rw[Of,F4,hT] at b7;rw[Hs,hT] at b3;rw[e4];exact b3.c2 b7
end
section
attribute [local irreducible] wpList wpAnyH Code.wp Oper.wp Go
variable {t u v:Int} {x k:Nat} {L:V6 Dv}
theorem TwF.count(h:TwF t u v x k L)(h18:k≤1800):∃ cs:V6 Nat,Zbd (twI t u v x L k) (twS t u v x L k)=(cs,[],0)∧cs.map (fun n:Nat=>(n:Int))=Bo L (1+twK x L+(Zy 5 (Lv L)+bmN k+1)) k:=by
 have hf:=h.Y;have hk:=Ps x L;have hr:=Zft h.pool h.room M0;have b7:Xr (G2 L)=Xr (G1 L)+Km (3,Po L (Gh L)):=Vo _ _;have b0:bmN x+Zy 4 (bmN x)≤Qk (Xv x L):=by unfold Qk;rw[Ym];omega
 have b6:Xr (G1 L)=twN L L.length+Zy 1 L.length:=by
  have e:Xr (G1 L)=Xr (twT L L.length)+Zy 1 (Wd L (twR L)).length:=Vo _ _;rw[Yw] at e;exact e
 obtain⟨S0,a0,p0⟩:=h.f2;obtain⟨a4,a5⟩:=h.d8 h18;obtain⟨a6,a7⟩:=h.d7;have a8:∀ b∈S0,1≤b∧b<1+Xr (G1 L):=fun b hb=>by
  rcases List.mem_append.1 (p0.mem_iff.1 hb) with q|q
  ·have:=Ql.1 q;omega
  ·obtain⟨i,hi,q⟩:=List.mem_flatMap.1 q;have hi:=A7.1 hi;have a1:=tg_in hi q;have a2:=Je L (show i+1≤L.length from hi);omega
 have a3:∀ b,S0.count b=if 1≤b∧b<1+Xr (G1 L) then max (rcF L b) 1 else 0:=fun b=>by
  rw[p0.count_eq,List.count_append,Wy,tg_final];have hz:=Nk (L:=L) (b:=b);by_cases q1:1≤b∧b≤twN L L.length
  ·rw[V7 M0,V8 q1,V8 M0];omega
  ·rw[V7 q1];by_cases q2:1≤b∧b<1+Xr (G1 L)
   ·rw[V8 M0,V8 q2,hz M0];rfl
   ·rw[V7 M0,V7 q2]
 have b1:=a0.append h.e9 fun b hb hq=>by have:=Ql.1 hb;have:=a8 b hq;omega
 have b2:=b1.append a4 fun b hb hq=>by
  have:=Ql.1 hb;rcases List.mem_append.1 hq with hq|hq
  ·have:=a8 b hq;omega
  ·have:=Ql.1 hq;omega
 have b3:=b2.append a5 fun b hb hq=>by
  have:=Ql.1 hb;rcases List.mem_append.1 hq with hq|hq
  ·rcases List.mem_append.1 hq with hq|hq
   ·have:=a8 b hq;omega
   ·have:=Ql.1 hq;omega
  ·have:=Ql.1 hq;omega
 have b4:=b3.append a6 fun b hb hq=>by
  have:=Ql.1 hb;rcases List.mem_append.1 hq with hq|hq
  ·rcases List.mem_append.1 hq with hq|hq
   ·rcases List.mem_append.1 hq with hq|hq
    ·have:=a8 b hq;omega
    ·have:=Ql.1 hq;omega
   ·have:=Ql.1 hq;omega
  ·have:=Ql.1 hq;omega
 have b5:=b4.append a7 fun b hb hq=>by
  have:=Ql.1 hb;rcases List.mem_append.1 hq with hq|hq
  ·rcases List.mem_append.1 hq with hq|hq
   ·rcases List.mem_append.1 hq with hq|hq
    ·rcases List.mem_append.1 hq with hq|hq
     ·have:=a8 b hq;omega
     ·have:=Ql.1 hq;omega
    ·have:=Ql.1 hq;omega
   ·have:=Ql.1 hq;omega
  ·have:=Ql.1 hq;omega
 obtain⟨S,hS,hm⟩:∃ S,Qp (twI t u v x L k) (supRx (twS t u v x L k)) S∧∀ i,S.count i=if 1≤i∧i<1+twK x L+(Zy 5 (Lv L)+bmN k+1) then max (rcF L i) 1 else 0:=by
  refine⟨_,b5,fun i=>?_⟩;rw[List.count_append,List.count_append,List.count_append,List.count_append,List.count_append,Wy,Wy,Wy,Wy,Wy,a3];have hz:=Nk (L:=L) (b:=i);by_cases q0:1≤i∧i<1+Xr (G1 L)
  ·rw[V8 q0,V7 M0,V7 M0,V7 M0,V7 M0,V7 M0,V8 M0];omega
  ·by_cases q:1≤i∧i<1+twK x L+(Zy 5 (Lv L)+bmN k+1)
   ·rw[V7 q0,V8 q,hz M0];repeat' split
    all_goals omega
   ·rw[V7 q0,V7 q];repeat' split
    all_goals omega
 have hT:∀ b∈S,1≤b∧b<k:=fun b hb=>by
  have h1:=hm b;have h2:=List.count_pos_iff.2 hb;by_cases q:1≤b∧b<1+twK x L+(Zy 5 (Lv L)+bmN k+1)
  ·omega
  ·rw[V7 q] at h1;omega
 have a3:(Rm k).length=k:=Ub k;have a9:∀ i,i<k→(Rm k).getD i 0=if i=0 then 1 else 0:=fun i hi=>by
  unfold Rm;rw[show(0:Int)=((0:Nat):Int) from rfl,Cl (by rw[B7];omega)];have:(replicate k 0).getD i 0=0:=by simp[getD,hi]
  rw[this];by_cases e:i=0
  ·rw[V8 e.symm,V8 e]
  ·rw[V7 (fun q=>e q.symm),V7 e]
 refine⟨Ky (Rm k) S,?_,?_⟩
 ·have e:Zbd (twI t u v x L k) (twS t u v x L k)=Pw (twI t u v x L k) (Rm k) (supRx (twS t u v x L k)):=by
   unfold Zbd;rw[V7 (by rw[hr];decide)];rfl
  have hS:=hS (Rm k) [] fun b hb=>by
   have:=hT b hb;rw[a3,a9 b M0,V7 M0];exact⟨M0,rfl⟩
  rw[F4] at hS;rw[e,hS,Zo8]
 ·refine Gs 0 (by rw[A3,Uc,a3,Kj]) fun i hi=>?_;rw[A3,Uc,a3] at hi;have e:((Ky (Rm k) S).map (fun n:Nat=>(n:Int))).getD i 0=(((Ky (Rm k) S).getD i 0:Nat):Int):=by
   simp only[getD,C3];cases (Ky (Rm k) S)[i]? <;> rfl
  have hz:=Nk (L:=L) (b:=i);rw[e,Pe S (Rm k) (fun b hb=>by rw[a3];exact(hT b hb).2),a9 i hi,hm,Gx hi];by_cases q:i=0
  ·rw[V8 q,V7 M0,V8 M0,hz (.inl q)];rfl
  ·rw[V7 q];by_cases q2:i<1+twK x L+(Zy 5 (Lv L)+bmN k+1)
   ·rw[V8 M0,V8 q2];omega
   ·rw[V7 M0,V7 q2,hz M0]
end
section
attribute [local irreducible] wpList wpAnyH Code.wp Oper.wp Go
theorem Cn(no er:Int)(w:V1)(he:er≠0) :
 C0 122 #[V0 no,V0 er] w ((fun e w'=>∃ ty x,e=.returned (.iface ty x)∧B3 w w'∧Kx w' (([no]:V6 Int).map some) (some er) (.iface ty x))):=by
 refine zin 11 Tryz.func122 ?_
 refine xk 12 (show((er==(0:Int)):Bool)=false from beq_false_of_ne he) ?_
 refine xc 7 (args:=#[V0 no,.iface 33 (V0 er)]) (Qm no er [] _ _ rfl) ?_
 rintro _ W1 ⟨a2,v1,rfl,a0,a1⟩
 exact xe 4 (.iface a2 (v1)) ⟨_,_,rfl,a0,a1⟩
def MapP(data:Int)(x:Ent)(w:V1)(e:V5)(w':V1):Prop :=
 (Zgt data x.2.1≠0∧∃ ty v,e=.returned (.tuple #[.agg #[V0 0,V0 0,V0 0],.iface ty v])∧B3 w w'∧Kx w' (([x.2.2]:V6 Int).map some) (some (Zgt data x.2.1)) (.iface ty v)) ∨
 (Zgt data x.2.1=0∧e=.returned (.tuple #[.agg #[V0 x.1,V0 (Oh x.2.1:Int),V0 (Zey x.2.1:Int)],.nilIface])∧B3 w w')
theorem Zbu{data:Int}{v:Bl}(h:Xn Mo v≠0):Zgt data v=Xn Mo v:=V8 h
theorem Ze3{data:Int}{v:Bl}(h:Xn Mo v=0)(h2:data≤(Oh v:Int)):Zgt data v=2:=by unfold Zgt;rw[V7 (fun q=>q h),V8 h2]
theorem Zt8{data:Int}{v:Bl}(h:Xn Mo v=0)(h2:¬ data≤(Oh v:Int)):Zgt data v=0:=by unfold Zgt;rw[V7 (fun q=>q h),V7 h2]
theorem Tt(bx b:Nat)(data am sum:Int)(x:Ent)(w:V1)(hk:Blk w bx [P0 b,V0 data,V0 am,V0 sum] 216)(hs:x.2.1.length≤1000) :
 C0 241 #[P0 bx,.agg #[V0 x.1,.string ⟨x.2.1.toArray⟩,V0 x.2.2]] w (MapP data x w):=by
 refine zin 38 Tryz.func241 ?_
 refine xa 2 [V0 x.1,.string ⟨x.2.1.toArray⟩,V0 x.2.2] 124 fun b1 W1 n1=>?_
 refine xa 0 [V0 0,V0 0,V0 0] 63 fun b2 W2 n2=>?_
 have k1:=n1.blk.i n2.i
 refine xb 6 1 k1 ?_
 refine xr 0 (Zfe x.2.1 _ hs) fun W3 a0=>?_
 refine xg 15 [17,18] ((Xn Mo x.2.1)==(0:Int)) (fun a6=>?_) (fun a6=>?_)
 ·have a6:=eq_of_beq a6
  have a9:=((hk.i n1.i).i n2.i).i a0
  refine xb 4 1 a9 ?_
  refine xid 4 ((↑(Oh x.2.1):Int)≥data) (fun c5=>?_) (fun c5=>?_)
  ·have b3:=k1.i a0
   refine xb 16 2 b3 ?_
   refine xc 1 (Cn x.2.2 2 _ M0) ?_
   rintro _ W6 ⟨c1,v6,rfl,c0,a5⟩
   have k2:=(n2.blk.i a0).i c0
   refine xsv 0 k2 [V0 0,V0 0,V0 0] fun W7 u7 k7=>?_
   have g2:=n2.ge n1.i
   have hB:=u7.i (bln (bln (bln n1.i n2.i) a0) c0) g2
   have a2:=a5.q (Q1 (T:=[63]) u7 k2 Do) Do
   refine xec 5 k7 (.tuple #[.agg #[V0 0,V0 0,V0 0],.iface c1 (v6)]) ?_
   first|(have e9:=Ze3 (data:=data) (v:=x.2.1) M0 M0;exact .inl ⟨by rw[e9];decide,_,_,rfl,hB,by rw[e9];exact a2⟩)|(have e9:=Zbu (data:=data) (v:=x.2.1) M0;exact .inl ⟨by rw[e9];omega,_,_,rfl,hB,by rw[e9];exact a2⟩)
  refine xin 9 (Xn Mo x.2.1) (0:Int) (fun d1=>?_) (fun d1=>?_)
  ·have b6:=k1.i a0
   refine xb 4 2 b6 ?_
   refine xc 1 (Cn x.2.2 (Xn Mo x.2.1) _ M0) ?_
   rintro _ W9 ⟨c9,v9,rfl,b9,a5⟩
   have k2:=(n2.blk.i a0).i b9
   refine xsv 0 k2 [V0 0,V0 0,V0 0] fun d5 b7 c7=>?_
   have g2:=n2.ge n1.i
   have hB:=b7.i (bln (bln (bln n1.i n2.i) a0) b9) g2
   have a1:=a5.q (Q1 (T:=[63]) b7 k2 Do) Do
   refine xec 5 c7 (.tuple #[.agg #[V0 0,V0 0,V0 0],.iface c9 (v9)]) ?_
   first|(have e9:=Ze3 (data:=data) (v:=x.2.1) M0 M0;exact .inl ⟨by rw[e9];decide,_,_,rfl,hB,by rw[e9];exact a1⟩)|(have e9:=Zbu (data:=data) (v:=x.2.1) M0;exact .inl ⟨by rw[e9];omega,_,_,rfl,hB,by rw[e9];exact a1⟩)
  have a7:=k1.i a0
  refine xb 5 0 a7 ?_
  have k2:=n2.blk.i a0
  refine xsv 3 k2 [V0 x.1,V0 (↑(Oh x.2.1):Int),V0 (↑(Zey x.2.1):Int)] fun d2 c4 c6=>?_
  have g2:=n2.ge n1.i
  have hB:=c4.i (bln (bln n1.i n2.i) a0) g2
  exact xec 4 c6 (.tuple #[.agg #[V0 x.1,V0 (↑(Oh x.2.1):Int),V0 (↑(Zey x.2.1):Int)],.nilIface]) (.inr ⟨Zt8 M0 M0,rfl,hB⟩)
 have a6:=Vn a6
 refine xin 19 (Xn Mo x.2.1) (0:Int) (fun b4=>?_) (fun b4=>?_)
 ·have b0:=k1.i a0
  refine xb 4 2 b0 ?_
  refine xc 1 (Cn x.2.2 (Xn Mo x.2.1) _ M0) ?_
  rintro _ d3 ⟨a8,c2,rfl,a4,a5⟩
  have k2:=(n2.blk.i a0).i a4
  refine xsv 0 k2 [V0 0,V0 0,V0 0] fun d6 b8 c3=>?_
  have g2:=n2.ge n1.i
  have hB:=b8.i (bln (bln (bln n1.i n2.i) a0) a4) g2
  have a3:=a5.q (Q1 (T:=[63]) b8 k2 Do) Do
  refine xec 5 c3 (.tuple #[.agg #[V0 0,V0 0,V0 0],.iface a8 (c2)]) ?_
  first|(have e9:=Ze3 (data:=data) (v:=x.2.1) M0 M0;exact .inl ⟨by rw[e9];decide,_,_,rfl,hB,by rw[e9];exact a3⟩)|(have e9:=Zbu (data:=data) (v:=x.2.1) M0;exact .inl ⟨by rw[e9];omega,_,_,rfl,hB,by rw[e9];exact a3⟩)
 have b5:=k1.i a0
 refine xb 5 0 b5 ?_
 have k2:=n2.blk.i a0
 refine xsv 3 k2 [V0 x.1,V0 (↑(Oh x.2.1):Int),V0 (↑(Zey x.2.1):Int)] fun d4 d0 c8=>?_
 have g2:=n2.ge n1.i
 have hB:=d0.i (bln (bln n1.i n2.i) a0) g2
 exact xec 4 c8 (.tuple #[.agg #[V0 x.1,V0 (↑(Oh x.2.1):Int),V0 (↑(Zey x.2.1):Int)],.nilIface]) (.inr ⟨Zt8 M0 M0,rfl,hB⟩)
def TellP(O:V6 Int×Int×V6 Mp)(w:V1)(e:V5)(w':V1):Prop :=
 (O.2.1≠0∧∃ ty v,e=.returned (.tuple #[S1,.iface ty v])∧B3 w w'∧Kx w' (O.1.map some) (some O.2.1) (.iface ty v)) ∨
 (O.2.1=0∧∃ p c,e=.returned (.tuple #[.slice p O.2.2.length c,.nilIface])∧B3 w w'∧w'.ownsRow w.heap.size 63 3 (.slice p O.2.2.length c) O.2.2.length (O.2.2.flatMap Cu))
theorem Aj{O:V6 Int×Int×V6 Mp}{bl:V6 Int}{er:Int}{w W:V1}{ty:V3}{v:V2}(h:O=(bl,er,[]))(her:er≠0)(hb:B3 w W)(hv:Kx W (bl.map some) (some er) (.iface ty v)):TellP O w (.returned (.tuple #[S1,.iface ty v])) W:=by
 subst h;exact .inl ⟨her,ty,v,rfl,hb,hv⟩
theorem Zv4{O:V6 Int×Int×V6 Mp}{L:V6 Mp}{n:Nat}{w W:V1}{p:O0}{c:Nat}(h:O=([],0,L))(hn:L.length=n)(hb:B3 w W)(ho:W.ownsRow w.heap.size 63 3 (.slice p n c) n (L.flatMap Cu)):TellP O w (.returned (.tuple #[.slice p n c,.nilIface])) W:=by
 subst h hn;exact .inr ⟨rfl,p,c,rfl,hb,ho⟩
theorem Zg9{es:V6 Ent}{i:Nat}(hi:i<es.length):((es.take (i+1)).map Zuw).flatMap Cu=((es.take i).map Zuw).flatMap Cu++Cu (Zuw (es.getD i Zn)):=by
 rw[B5 hi,A6,C7,show es.getD i Zn=es[i] from by simp[getD,hi]];simp only[D7,H0,E7,K9,F4]
theorem Zym(Bi bx b:Nat)(pi:O0)(ni ci:Nat)(l:Bl)(data am sum root:Int)(w:V1)(hI:ImgR Bi b pi ni ci l w)(hk:Blk w bx [P0 b,V0 data,V0 am,V0 sum] 216)(hfu:am≤1000000) :
 C0 195 #[P0 bx,V0 root] w (TellP (Zs1 l root data am) w):=by
 have k6:=(Mh l root 2 am hfu).1
 refine zin 51 Tryz.func195 ?_
 refine xd 7 (.t w.heap.size [118]) ?_
 have c3:=hk.i (Za w)
 refine xbt (.e [0,1,2] 3) 0 w.heap.size [118] c3 ?_
 refine xbt (.e [4,5,6,7] 8) 2 w.heap.size [118] c3 ?_
 refine xm2 0 9 13 ?_ ?_
 ·have hB:=(Za w)
  refine yc 0 (.t w.heap.size [118]) (Gv Bi b pi ni ci l root 2 am _ hfu (hI.i hB)) ?_
  rintro e W1 k8
  rcases k8 with ⟨b1,pe,ce,pb,cb,pf,cf,i7,vw,rfl,e0,d2⟩|⟨b1,pe,ce,pb,nb,cb,dp,lk,pf,cf,rfl,e0,a7⟩
  ·refine⟨(Q5 _ e0),?_⟩
   refine xa (.o [10,11,12] 13) [S1,S1,V0 0,V0 0,S1] 118 fun b2 W2 n2=>?_
   have g7:=bln hB e0
   have g2:=n2.ge g7
   refine ysv (.o [] 14) n2.blk [.slice pe 0 ce,.slice pb 0 cb,V0 0,V0 0,.slice pf 0 cf] (.t w.heap.size [118]) fun W3 u3 k3=>⟨(Zr u3 n2.blk g2 Do),?_⟩
   have f7:=(d2.i n2.i).q (Q1 (T:=[118]) u3 n2.blk Do) Do
   have i2:=u3.i (bln g7 n2.i) g2
   exact xe (.r [15] 19) (.tuple #[S1,.iface i7 (vw)]) (Aj (Zhn b1) (Fu b1) i2 f7)
  have l4:=(Za w).size
  refine⟨(Q5 _ e0),?_⟩
  refine xa (.o [10,11,12] 13) [S1,S1,V0 0,V0 0,S1] 118 fun b4 W4 n4=>?_
  have h0:=bln hB e0
  have g4:=n4.ge h0
  refine ysv (.o [] 14) n4.blk [.slice pe ((Ze l root 2 am).es.length) ce,.slice pb nb cb,V0 dp,V0 lk,.slice pf 0 cf] (.t w.heap.size [118]) fun W5 u5 k5=>⟨(Zr u5 n4.blk g4 Do),?_⟩
  refine xb (.r [15] 21) 0 k5 ?_
  have e5:=u5.j (Zb (Zg a7 l4) n4.i) n4.blk Do
  have i8:=u5.i (bln h0 n4.i) g4
  have h8:=u5.A ((c3.i e0).i n4.i) n4.blk Do
  refine zl 5 51 (fun zm i4 V=>∃ (i:Nat) (p:O0) (c:Nat),i4=[(0,P0 bx),(8,.slice p i c),(30,.slice pe ((Ze l root 2 am).es.length) ce),(31,V0 (↑((Ze l root 2 am).es.length):Int)),(32,V0 (i:Int))]∧zm=(Ze l root 2 am).es.length-((i:Int)).toNat∧B3 w V∧Blk V bx ([P0 b,V0 data,V0 am,V0 sum]) 216∧Blk V b4 ([.slice pe ((Ze l root 2 am).es.length) ce,.slice pb nb cb,V0 dp,V0 lk,.slice pf 0 cf]) 118∧V.ownsRow w.heap.size 124 3 (.slice pe (Ze l root 2 am).es.length ce) (Ze l root 2 am).es.length ((Ze l root 2 am).es.flatMap Ki)∧V.ownsRow w.heap.size 63 3 (.slice p i c) i ((((Ze l root 2 am).es.take i).map Zuw).flatMap Cu)∧i≤(Ze l root 2 am).es.length∧Zpc data (Ze l root 2 am).es i) ⟨0,none,0,rfl,rfl,i8,h8,k5,e5,A8 _ _ _ _,A5 _,fun j hj=>absurd hj M0⟩ ?_
  rintro _ _ W6 ⟨i,p,c,rfl,rfl,c0,h2,e8,a7,ho,hi,d4⟩ J6 j8 r6
  refine xid 6 ((i:Int)<(↑((Ze l root 2 am).es.length):Int)) (fun l5=>?_) (fun l5=>?_)
  ·refine xx 6 _ ((Ze l root 2 am).es.length) i 3 (Sts.cell (f:=Ki) (Zf a7) Qg Zn (k:=i) (i:=0) M0 rfl).1 ?_
   refine xlv 0 (Sts.rp (k:=i) (Zf a7) Qg Zn M0 Do) ?_
   refine xa 0 [V0 0,.string ⟨#[]⟩,V0 0] 124 fun b8 W8 n8=>?_
   have g8:=n8.ge c0
   have d6:=Hg a7 n8
   refine xsv 0 n8.blk [V0 (((Ze l root 2 am).es.getD i Zn).1),.string ⟨(((Ze l root 2 am).es.getD i Zn).2.1).toArray⟩,V0 (((Ze l root 2 am).es.getD i Zn).2.2)] fun W9 u9 k9=>?_
   refine xlv 5 k9.rp ?_
   have a5:=u9.A (h2.i n8.i) n8.blk Do
   refine xc 0 (args:=#[P0 bx,.agg #[V0 (((Ze l root 2 am).es.getD i Zn).1),.string ⟨(((Ze l root 2 am).es.getD i Zn).2.1).toArray⟩,V0 (((Ze l root 2 am).es.getD i Zn).2.2)]]) (Tt bx b data am sum ((Ze l root 2 am).es.getD i Zn) _ a5 (He _ _ _ _ i M0)) ?_
   rintro e p4 i0
   rcases i0 with ⟨c1,h9,vm,rfl,a3,d2⟩|⟨c1,rfl,a3⟩
   ·refine xa 3 [V0 0,V0 0,V0 0] 63 fun m3 m9 f2=>?_
    have g9:=bln (u9.i (bln c0 n8.i) g8) a3
    have l8:=f2.ge g9
    refine xsv 0 f2.blk [V0 0,V0 0,V0 0] fun p2 j7 m2=>?_
    have f4:=(d2.i f2.i).q (Q1 (T:=[63]) j7 f2.blk Do) Do
    have j1:=j7.i (bln g9 f2.i) l8
    exact xe 25 (.tuple #[S1,.iface h9 (vm)]) (Aj ((Ff b1).trans (Zh7 M0 d4 c1)) c1 j1 f4)
   refine xa 3 [V0 0,V0 0,V0 0] 63 fun m7 o5 b3=>?_
   have h1:=bln (u9.i (bln c0 n8.i) g8) a3
   have j9:=b3.ge h1
   have f3:=Zb (u9.j (Zb ho n8.i) n8.blk Do) a3
   have d7:=Hg f3 b3
   refine xsv 0 b3.blk [V0 (((Ze l root 2 am).es.getD i Zn).1),V0 (↑(Oh ((Ze l root 2 am).es.getD i Zn).2.1):Int),V0 (↑(Zey ((Ze l root 2 am).es.getD i Zn).2.1):Int)] fun o2 f8 l0=>?_
   refine xlv 15 l0.rp ?_
   refine xbs 0 1 [V0 (((Ze l root 2 am).es.getD i Zn).1),V0 (↑(Oh ((Ze l root 2 am).es.getD i Zn).2.1):Int),V0 (↑(Zey ((Ze l root 2 am).es.getD i Zn).2.1):Int)] 63 fun m8 n7 d8=>?_
   have j2:=f8.i (bln h1 b3.i) j9
   have i5:=f8.O (Zb f3 b3.i) d7
   have c4:=Zb i5 d8.i
   have f1:=bln j2 d8.i
   refine xbi 0 fun _ _ _ _ zJ zQ zo zx zy zK=>Xd (m:=1) (news:=[V0 (((Ze l root 2 am).es.getD i Zn).1),V0 (↑(Oh ((Ze l root 2 am).es.getD i Zn).2.1):Int),V0 (↑(Zey ((Ze l root 2 am).es.getD i Zn).2.1):Int)]) (.agg #[V0 0,V0 0,V0 0]) 3 24 (i+1) (((((Ze l root 2 am).es.take (i+1)).map Zuw).flatMap Cu)) zo Tryz.underlying30 K0 rfl Do zx c4 zy (d8.blk.sl 1 1 Do Do) rfl Y4 Y2 M0 f1.size (rfl) (by rw[Zg9 M0];rfl) fun k7 l9 o3 l2 d3 h6=>?_
   refine zK _ _ ?_
   refine xwm 5 ((i:Int)+1) (↑(i+1):Int) ?_
   have e9:=f1.trans h6
   have b5:=((f8.A ((a5.i a3).i b3.i) b3.blk Do).i d8.i).grown d3 c4 Do
   have b6:=((f8.A (((u9.A (e8.i n8.i) n8.blk Do).i a3).i b3.i) b3.blk Do).i d8.i).grown d3 c4 Do
   have g5:=Zt (Zb (f8.j (Zb (Zb (u9.O (Zb a7 n8.i) d6) a3) b3.i) b3.blk Do) d8.i) d3 c4 Do
   exact ze 2 (j8 _ _ _ ⟨i+1,_,_,rfl,rfl,e9,b5,b6,g5,l2,M0,Zde d4 c1⟩ M0)
  refine xe 13 (.tuple #[.slice p i c,.nilIface]) ?_
  obtain rfl:i=(Ze l root 2 am).es.length:=M0
  rw[B9 (At _)] at ho
  exact Zv4 ((Ff b1).trans (Zfv d4)) (A3 _) c0 ho
 refine xa 0 [S1,S1,V0 0,V0 0,S1] 118 fun l6 n5 d0=>?_
 have hB:=bln (Za w) d0.i
 refine yc (.o [] 9) (.t w.heap.size [118]) (Gv Bi b pi ni ci l root 2 am _ hfu (hI.i hB)) ?_
 rintro e n1 h7
 rcases h7 with ⟨b1,pe,ce,pb,cb,pf,cf,i7,vw,rfl,a0,d2⟩|⟨b1,pe,ce,pb,nb,cb,dp,lk,pf,cf,rfl,a0,a7⟩
 ·refine⟨(Q5 _ a0),?_⟩
  have c7:=d0.blk.i a0
  have g6:=d0.ge (Za w)
  refine ysv (.o [10,11,12] 14) c7 [.slice pe 0 ce,.slice pb 0 cb,V0 0,V0 0,.slice pf 0 cf] (.t w.heap.size [118]) fun p5 i6 n9=>⟨(Zr i6 c7 g6 Do),?_⟩
  have e3:=d2.q (Q1 (T:=[118]) i6 c7 Do) Do
  have f6:=i6.i (bln hB a0) g6
  exact xe (.r [15] 19) (.tuple #[S1,.iface i7 (vw)]) (Aj (Zhn b1) (Fu b1) f6 e3)
 have j3:=(bln (Za w) d0.i).size
 refine⟨(Q5 _ a0),?_⟩
 have c7:=d0.blk.i a0
 have g6:=d0.ge (Za w)
 refine ysv (.o [10,11,12] 14) c7 [.slice pe ((Ze l root 2 am).es.length) ce,.slice pb nb cb,V0 dp,V0 lk,.slice pf 0 cf] (.t w.heap.size [118]) fun o1 h3 j5=>⟨(Zr h3 c7 g6 Do),?_⟩
 refine xb (.r [15] 21) 0 j5 ?_
 have e2:=h3.j (Zg a7 j3) c7 Do
 have f5:=h3.i (bln hB a0) g6
 have i3:=h3.A ((c3.i d0.i).i a0) c7 Do
 refine zl 5 51 (fun zm i4 V=>∃ (i:Nat) (p:O0) (c:Nat),i4=[(0,P0 bx),(8,.slice p i c),(30,.slice pe ((Ze l root 2 am).es.length) ce),(31,V0 (↑((Ze l root 2 am).es.length):Int)),(32,V0 (i:Int))]∧zm=(Ze l root 2 am).es.length-((i:Int)).toNat∧B3 w V∧Blk V bx ([P0 b,V0 data,V0 am,V0 sum]) 216∧Blk V l6 ([.slice pe ((Ze l root 2 am).es.length) ce,.slice pb nb cb,V0 dp,V0 lk,.slice pf 0 cf]) 118∧V.ownsRow w.heap.size 124 3 (.slice pe (Ze l root 2 am).es.length ce) (Ze l root 2 am).es.length ((Ze l root 2 am).es.flatMap Ki)∧V.ownsRow w.heap.size 63 3 (.slice p i c) i ((((Ze l root 2 am).es.take i).map Zuw).flatMap Cu)∧i≤(Ze l root 2 am).es.length∧Zpc data (Ze l root 2 am).es i) ⟨0,none,0,rfl,rfl,f5,i3,j5,e2,A8 _ _ _ _,A5 _,fun j hj=>absurd hj M0⟩ ?_
 rintro _ _ n0 ⟨i,p,c,rfl,rfl,a4,d1,b7,a7,ho,hi,d4⟩ p1 i9 p3
 refine xid 6 ((i:Int)<(↑((Ze l root 2 am).es.length):Int)) (fun h5=>?_) (fun h5=>?_)
 ·refine xx 6 _ ((Ze l root 2 am).es.length) i 3 (Sts.cell (f:=Ki) (Zf a7) Qg Zn (k:=i) (i:=0) M0 rfl).1 ?_
  refine xlv 0 (Sts.rp (k:=i) (Zf a7) Qg Zn M0 Do) ?_
  refine xa 0 [V0 0,.string ⟨#[]⟩,V0 0] 124 fun m1 o9 a8=>?_
  have j4:=a8.ge a4
  have c2:=Hg a7 a8
  refine xsv 0 a8.blk [V0 (((Ze l root 2 am).es.getD i Zn).1),.string ⟨(((Ze l root 2 am).es.getD i Zn).2.1).toArray⟩,V0 (((Ze l root 2 am).es.getD i Zn).2.2)] fun m5 e1 k2=>?_
  refine xlv 5 k2.rp ?_
  have a1:=e1.A (d1.i a8.i) a8.blk Do
  refine xc 0 (args:=#[P0 bx,.agg #[V0 (((Ze l root 2 am).es.getD i Zn).1),.string ⟨(((Ze l root 2 am).es.getD i Zn).2.1).toArray⟩,V0 (((Ze l root 2 am).es.getD i Zn).2.2)]]) (Tt bx b data am sum ((Ze l root 2 am).es.getD i Zn) _ a1 (He _ _ _ _ i M0)) ?_
  rintro e m4 j0
  rcases j0 with ⟨c1,h9,vm,rfl,a2,d2⟩|⟨c1,rfl,a2⟩
  ·refine xa 3 [V0 0,V0 0,V0 0] 63 fun o6 m6 f9=>?_
   have c8:=bln (e1.i (bln a4 a8.i) j4) a2
   have k1:=f9.ge c8
   refine xsv 0 f9.blk [V0 0,V0 0,V0 0] fun o4 j6 o7=>?_
   have e7:=(d2.i f9.i).q (Q1 (T:=[63]) j6 f9.blk Do) Do
   have f0:=j6.i (bln c8 f9.i) k1
   exact xe 25 (.tuple #[S1,.iface h9 (vm)]) (Aj ((Ff b1).trans (Zh7 M0 d4 c1)) c1 f0 e7)
  refine xa 3 [V0 0,V0 0,V0 0] 63 fun n6 m0 b0=>?_
  have c5:=bln (e1.i (bln a4 a8.i) j4) a2
  have l7:=b0.ge c5
  have g0:=Zb (e1.j (Zb ho a8.i) a8.blk Do) a2
  have d5:=Hg g0 b0
  refine xsv 0 b0.blk [V0 (((Ze l root 2 am).es.getD i Zn).1),V0 (↑(Oh ((Ze l root 2 am).es.getD i Zn).2.1):Int),V0 (↑(Zey ((Ze l root 2 am).es.getD i Zn).2.1):Int)] fun o8 g1 l3=>?_
  refine xlv 15 l3.rp ?_
  refine xbs 0 1 [V0 (((Ze l root 2 am).es.getD i Zn).1),V0 (↑(Oh ((Ze l root 2 am).es.getD i Zn).2.1):Int),V0 (↑(Zey ((Ze l root 2 am).es.getD i Zn).2.1):Int)] 63 fun p0 o0 d9=>?_
  have g3:=g1.i (bln c5 b0.i) l7
  have h4:=g1.O (Zb g0 b0.i) d5
  have b9:=Zb h4 d9.i
  have c6:=bln g3 d9.i
  refine xbi 0 fun _ _ _ _ zJ zQ zo zx zy zK=>Xd (m:=1) (news:=[V0 (((Ze l root 2 am).es.getD i Zn).1),V0 (↑(Oh ((Ze l root 2 am).es.getD i Zn).2.1):Int),V0 (↑(Zey ((Ze l root 2 am).es.getD i Zn).2.1):Int)]) (.agg #[V0 0,V0 0,V0 0]) 3 24 (i+1) (((((Ze l root 2 am).es.take (i+1)).map Zuw).flatMap Cu)) zo Tryz.underlying30 K0 rfl Do zx b9 zy (d9.blk.sl 1 1 Do Do) rfl Y4 Y2 M0 c6.size (rfl) (by rw[Zg9 M0];rfl) fun k0 l1 n3 k4 c9 i1=>?_
  refine zK _ _ ?_
  refine xwm 5 ((i:Int)+1) (↑(i+1):Int) ?_
  have e4:=c6.trans i1
  have a9:=((g1.A ((a1.i a2).i b0.i) b0.blk Do).i d9.i).grown c9 b9 Do
  have a6:=((g1.A (((e1.A (b7.i a8.i) a8.blk Do).i a2).i b0.i) b0.blk Do).i d9.i).grown c9 b9 Do
  have e6:=Zt (Zb (g1.j (Zb (Zb (e1.O (Zb a7 a8.i) c2) a2) b0.i) b0.blk Do) d9.i) c9 b9 Do
  exact ze 2 (i9 _ _ _ ⟨i+1,_,_,rfl,rfl,e4,a9,a6,e6,k4,M0,Zde d4 c1⟩ M0)
 refine xe 13 (.tuple #[.slice p i c,.nilIface]) ?_
 obtain rfl:i=(Ze l root 2 am).es.length:=M0
 rw[B9 (At _)] at ho
 exact Zv4 ((Ff b1).trans (Zfv d4)) (A3 _) a4 ho
theorem Zq5(Bi bx b:Nat)(pi:O0)(ni ci:Nat)(l:Bl)(data am sum:Int)(y:Ent)(w:V1)(hI:ImgR Bi b pi ni ci l w)(hk:Blk w bx [P0 b,V0 data,V0 am,V0 sum] 216)(hfu:am≤1000000):C0 195 #[P0 bx,V0 (↑(Ga y.2.1):Int)] w (TellP (ownO l y data am) w):=Zym Bi bx b pi ni ci l data am sum (↑(Ga y.2.1):Int) w hI hk hfu
theorem own_few(l:Bl)(y:Ent)(data am:Int)(hf:am≤1000000):(ownO l y data am).2.2.length≤100000000:=by
 have h:=(Mh l (Ga y.2.1:Int) 2 am hf).1;unfold ownO Zs1 Zlh;split
 ·exact A5 _
 ·split
  ·exact A5 _
  ·rw[A3];exact h
theorem dev_1{l:Bl}{x y:Ent}{data am:Int}{sum:Nat}(h:16777215<x.1):Ik l x y data am sum=([x.2.2],9):=V8 h
theorem dev_2{l:Bl}{x y:Ent}{data am:Int}{sum:Nat}(h:¬ 16777215<x.1)(h2:Xn Nb x.2.1≠0):Ik l x y data am sum=([x.2.2],Xn Nb x.2.1):=by unfold Ik;rw[V7 h,V8 h2]
theorem dev_3{l:Bl}{x y:Ent}{data am:Int}{sum:Nat}(h:¬ 16777215<x.1)(h2:Xn Nb x.2.1=0)(h3:Qi y.2.1≠0):Ik l x y data am sum=([y.2.2],Qi y.2.1):=by unfold Ik;rw[V7 h,V7 (fun q=>q h2),V8 h3]
theorem dev_4{l:Bl}{x y:Ent}{data am:Int}{sum:Nat}(h:¬ 16777215<x.1)(h2:Xn Nb x.2.1=0)(h3:Qi y.2.1=0)(h4:(ownO l y data am).2.1≠0):Ik l x y data am sum=(y.2.2::(ownO l y data am).1,(ownO l y data am).2.1):=by unfold Ik;rw[V7 h,V7 (fun q=>q h2),V7 (fun q=>q h3),V8 h4]
theorem dev_5{l:Bl}{x y:Ent}{data am:Int}{sum:Nat}(h:¬ 16777215<x.1)(h2:Xn Nb x.2.1=0)(h3:Qi y.2.1=0)(h4:(ownO l y data am).2.1=0)(h5:(ownO l y data am).2.2.length≠Kn x.2.1 0):Ik l x y data am sum=([x.2.2],13):=by unfold Ik;rw[V7 h,V7 (fun q=>q h2),V7 (fun q=>q h3),V7 (fun q=>q h4),V8 h5]
theorem dev_6{l:Bl}{x y:Ent}{data am:Int}{sum:Nat}(h:¬ 16777215<x.1)(h2:Xn Nb x.2.1=0)(h3:Qi y.2.1=0)(h4:(ownO l y data am).2.1=0)(h5:(ownO l y data am).2.2.length=Kn x.2.1 0)(h6:16384<sum+(ownO l y data am).2.2.length):Ik l x y data am sum=([y.2.2],2):=by unfold Ik;rw[V7 h,V7 (fun q=>q h2),V7 (fun q=>q h3),V7 (fun q=>q h4),V7 (fun q=>q h5),V8 h6]
theorem dev_7{l:Bl}{x y:Ent}{data am:Int}{sum:Nat}(h:¬ 16777215<x.1)(h2:Xn Nb x.2.1=0)(h3:Qi y.2.1=0)(h4:(ownO l y data am).2.1=0)(h5:(ownO l y data am).2.2.length=Kn x.2.1 0)(h6:¬ 16384<sum+(ownO l y data am).2.2.length):Ik l x y data am sum=([],0):=by unfold Ik;rw[V7 h,V7 (fun q=>q h2),V7 (fun q=>q h3),V7 (fun q=>q h4),V7 (fun q=>q h5),V7 h6]
def DevP(B bx b:Nat)(l:Bl)(x y:Ent)(data am:Int)(sum:Nat)(w:V1)(e:V5)(w':V1):Prop :=
 ((Ik l x y data am sum).2≠0∧∃ ty v,e=.returned (.tuple #[.agg #[V0 0,V0 0,V0 0,V0 0,S1],.iface ty v])∧Below B w w'∧Zd [216] w w'∧Fr [bx] w w'∧Kx w' ((Ik l x y data am sum).1.map some) (some (Ik l x y data am sum).2) (.iface ty v)) ∨
 ((Ik l x y data am sum).2=0∧∃ p c,e=.returned (.tuple #[.agg #[V0 x.1,V0 (Kn x.2.1 1:Int),V0 (Kn x.2.1 2:Int),V0 (Kn x.2.1 3:Int),.slice p (ownO l y data am).2.2.length c],.nilIface])∧Below B w w'∧Zd [216] w w'∧Fr [bx] w w'∧Blk w' bx [P0 b,V0 data,V0 am,V0 ((sum+(ownO l y data am).2.2.length:Nat):Int)] 216∧w'.ownsRow w.heap.size 63 3 (.slice p (ownO l y data am).2.2.length c) (ownO l y data am).2.2.length ((ownO l y data am).2.2.flatMap Cu))
theorem Cy{B bx b:Nat}{l:Bl}{x y:Ent}{data am:Int}{sum:Nat}{w W:V1}{ty:V3}{v:V2}{bl:V6 Int}{er:Int}(h:Ik l x y data am sum=(bl,er))(her:er≠0)(hb:Below B w W)(hO:Zd [216] w W)(hX:Fr [bx] w W)(hv:Kx W (bl.map some) (some er) (.iface ty v)):DevP B bx b l x y data am sum w (.returned (.tuple #[.agg #[V0 0,V0 0,V0 0,V0 0,S1],.iface ty v])) W:=by
 unfold DevP;rw[h];exact .inl ⟨her,ty,v,rfl,hb,hO,hX,hv⟩
theorem Zb0(B Bi bx b:Nat)(pi:O0)(ni ci:Nat)(l:Bl)(data am:Int)(sum:Nat)(x y:Ent)(w:V1)(hI:ImgR Bi b pi ni ci l w)(hk:Blk w bx [P0 b,V0 data,V0 am,V0 (sum:Int)] 216)(hfu:am≤1000000)(hx:x.2.1.length≤1000)(hy:y.2.1.length≤1000)(hsm:sum≤16384)(hB0:B≤bx)(hBw:B≤w.heap.size) :
 C0 124 #[P0 bx,.agg #[V0 x.1,.string ⟨x.2.1.toArray⟩,V0 x.2.2],.agg #[V0 y.1,.string ⟨y.2.1.toArray⟩,V0 y.2.2]] w (DevP B bx b l x y data am sum w):=by
 have g1:=own_few l y data am hfu
 refine zin 96 Tryz.func124 ?_
 refine xa 2 [V0 x.1,.string ⟨x.2.1.toArray⟩,V0 x.2.2] 124 fun b1 W1 n1=>?_
 refine xa 0 [V0 y.1,.string ⟨y.2.1.toArray⟩,V0 y.2.2] 124 fun b2 W2 n2=>?_
 refine xa 0 [V0 0,V0 0,V0 0,V0 0,S1] 32 fun b3 W3 n3=>?_
 have a4:=(n1.blk.i n2.i).i n3.i
 refine xb 7 0 a4 ?_
 refine xid 3 (x.1>(16777215:Int)) (fun f9=>?_) (fun f9=>?_)
 ·refine xb 4 2 a4 ?_
  refine xc 0 (Cn x.2.2 9 _ M0) ?_
  rintro _ W5 ⟨g9,v5,rfl,d3,a6⟩
  have k3:=n3.blk.i d3
  refine xsv 0 k3 [V0 0,V0 0,V0 0,V0 0,S1] fun W6 u6 k6=>?_
  have g3:=n3.Q (blB (blB (U3 B w) hBw n1.i) hBw n2.i)
  have c4:=a6.q (Q1 (T:=[32]) u6 k3 Do) Do
  have hB:=u6.i (blB (blB (blB (blB (U3 B w) hBw n1.i) hBw n2.i) hBw n3.i) hBw d3) (N0 hBw g3)
  have hO:=(Q3 ((((show Zd [216] w _ from(Q0 n1.i)).trans (Q0 n2.i)).trans (Q0 n3.i)).trans (Q0 d3)) u6 g3)
  have hX:=(Q8 ((((show Fr [bx] w _ from(Q2 n1.i)).trans (Q2 n2.i)).trans (Q2 n3.i)).trans (Q2 d3)) u6 g3)
  exact xec 5 k6 (.tuple #[.agg #[V0 0,V0 0,V0 0,V0 0,S1],.iface g9 (v5)]) (Cy (dev_1 M0) Do hB hO hX c4)
 refine xb 5 1 a4 ?_
 refine xr 0 (Ac x.2.1 _ hx) fun W7 a2=>?_
 refine xa 3 [V0 0,V0 0,V0 0,V0 0] 174 fun b8 W8 n8=>?_
 refine xsv 0 n8.blk [V0 (↑(Kn x.2.1 0):Int),V0 (↑(Kn x.2.1 1):Int),V0 (↑(Kn x.2.1 2):Int),V0 (↑(Kn x.2.1 3):Int)] fun W9 u9 k9=>?_
 have g8:=n8.Q (blB (blB (blB (blB (U3 B w) hBw n1.i) hBw n2.i) hBw n3.i) hBw a2)
 refine xin 10 (Xn Nb x.2.1) (0:Int) (fun d6=>?_) (fun d6=>?_)
 ·have f2:=u9.A ((a4.i a2).i n8.i) n8.blk Do
  refine xb 4 2 f2 ?_
  refine xc 1 (Cn x.2.2 (Xn Nb x.2.1) _ M0) ?_
  rintro _ h6 ⟨d8,g0,rfl,b0,a6⟩
  have k3:=(u9.A ((n3.blk.i a2).i n8.i) n8.blk Do).i b0
  refine xsv 0 k3 [V0 0,V0 0,V0 0,V0 0,S1] fun i6 d1 f4=>?_
  have g3:=n3.Q (blB (blB (U3 B w) hBw n1.i) hBw n2.i)
  have c0:=a6.q (Q1 (T:=[32]) d1 k3 Do) Do
  have hB:=d1.i (blB (u9.i (blB (blB (blB (blB (blB (U3 B w) hBw n1.i) hBw n2.i) hBw n3.i) hBw a2) hBw n8.i) (N0 hBw g8)) hBw b0) (N0 hBw g3)
  have hO:=(Q3 ((Q3 (((((show Zd [216] w _ from(Q0 n1.i)).trans (Q0 n2.i)).trans (Q0 n3.i)).trans (Q0 a2)).trans (Q0 n8.i)) u9 g8).trans (Q0 b0)) d1 g3)
  have hX:=(Q8 ((Q8 (((((show Fr [bx] w _ from(Q2 n1.i)).trans (Q2 n2.i)).trans (Q2 n3.i)).trans (Q2 a2)).trans (Q2 n8.i)) u9 g8).trans (Q2 b0)) d1 g3)
  exact xec 5 f4 (.tuple #[.agg #[V0 0,V0 0,V0 0,V0 0,S1],.iface d8 (g0)]) (Cy (dev_2 M0 M0) M0 hB hO hX c0)
 have k2:=u9.A (((n2.blk.i n3.i).i a2).i n8.i) n8.blk Do
 refine xb 5 1 k2 ?_
 refine xr 0 (Ua y.2.1 _ hy) fun i4 a0=>?_
 refine xin 14 (Qi y.2.1) (0:Int) (fun d5=>?_) (fun d5=>?_)
 ·have f0:=k2.i a0
  refine xb 4 2 f0 ?_
  refine xc 1 (Cn y.2.2 (Qi y.2.1) _ M0) ?_
  rintro _ i0 ⟨e5,g7,rfl,b4,a6⟩
  have k3:=((u9.A ((n3.blk.i a2).i n8.i) n8.blk Do).i a0).i b4
  refine xsv 0 k3 [V0 0,V0 0,V0 0,V0 0,S1] fun i1 d4 h1=>?_
  have g3:=n3.Q (blB (blB (U3 B w) hBw n1.i) hBw n2.i)
  have c5:=a6.q (Q1 (T:=[32]) d4 k3 Do) Do
  have hB:=d4.i (blB (blB (u9.i (blB (blB (blB (blB (blB (U3 B w) hBw n1.i) hBw n2.i) hBw n3.i) hBw a2) hBw n8.i) (N0 hBw g8)) hBw a0) hBw b4) (N0 hBw g3)
  have hO:=(Q3 (((Q3 (((((show Zd [216] w _ from(Q0 n1.i)).trans (Q0 n2.i)).trans (Q0 n3.i)).trans (Q0 a2)).trans (Q0 n8.i)) u9 g8).trans (Q0 a0)).trans (Q0 b4)) d4 g3)
  have hX:=(Q8 (((Q8 (((((show Fr [bx] w _ from(Q2 n1.i)).trans (Q2 n2.i)).trans (Q2 n3.i)).trans (Q2 a2)).trans (Q2 n8.i)) u9 g8).trans (Q2 a0)).trans (Q2 b4)) d4 g3)
  exact xec 5 h1 (.tuple #[.agg #[V0 0,V0 0,V0 0,V0 0,S1],.iface e5 (g7)]) (Cy (dev_3 M0 M0 M0) M0 hB hO hX c5)
 have e1:=((((((hI.i n1.i).i n2.i).i n3.i).i a2).i n8.i).q (Q1 (T:=[174]) u9 n8.blk Do) Do).i a0
 have c3:=(u9.A (((((hk.i n1.i).i n2.i).i n3.i).i a2).i n8.i) n8.blk Do).i a0
 refine xc 6 (Zq5 Bi bx b pi ni ci l data am (sum:Int) y _ e1 c3 hfu) ?_
 rintro e h9 e9
 rcases e9 with ⟨b6,f8,vo,rfl,a1,g5⟩|⟨b6,po,co,rfl,a1,f6⟩
 ·have e7:=(k2.i a0).i a1
  refine xb 19 2 e7 ?_
  refine xc 1 (args:=#[V0 y.2.2,.iface f8 (vo)]) (Qm y.2.2 (ownO l y data am).2.1 (ownO l y data am).1 _ _ g5) ?_
  rintro _ h8 ⟨e0,f5,rfl,a7,a6⟩
  have k3:=(((u9.A ((n3.blk.i a2).i n8.i) n8.blk Do).i a0).i a1).i a7
  refine xsv 0 k3 [V0 0,V0 0,V0 0,V0 0,S1] fun i7 d2 g6=>?_
  have g3:=n3.Q (blB (blB (U3 B w) hBw n1.i) hBw n2.i)
  have b7:=a6.q (Q1 (T:=[32]) d2 k3 Do) Do
  have hB:=d2.i (blB (blB (blB (u9.i (blB (blB (blB (blB (blB (U3 B w) hBw n1.i) hBw n2.i) hBw n3.i) hBw a2) hBw n8.i) (N0 hBw g8)) hBw a0) hBw a1) hBw a7) (N0 hBw g3)
  have hO:=(Q3 ((((Q3 (((((show Zd [216] w _ from(Q0 n1.i)).trans (Q0 n2.i)).trans (Q0 n3.i)).trans (Q0 a2)).trans (Q0 n8.i)) u9 g8).trans (Q0 a0)).trans (Q0 a1)).trans (Q0 a7)) d2 g3)
  have hX:=(Q8 ((((Q8 (((((show Fr [bx] w _ from(Q2 n1.i)).trans (Q2 n2.i)).trans (Q2 n3.i)).trans (Q2 a2)).trans (Q2 n8.i)) u9 g8).trans (Q2 a0)).trans (Q2 a1)).trans (Q2 a7)) d2 g3)
  exact xec 5 g6 (.tuple #[.agg #[V0 0,V0 0,V0 0,V0 0,S1],.iface e0 (f5)]) (Cy (dev_4 M0 M0 M0 b6) b6 hB hO hX b7)
 have e8:=(blB (u9.i (blB (blB (blB (blB (blB (U3 B w) hBw n1.i) hBw n2.i) hBw n3.i) hBw a2) hBw n8.i) (N0 hBw g8)) hBw a0).size
 have c6:=(k9.i a0).i a1
 refine xb 23 0 c6 ?_
 refine xin 3 (↑((ownO l y data am).2.2.length):Int) (↑(Kn x.2.1 0):Int) (fun d9=>?_) (fun d9=>?_)
 ·have e2:=((u9.A ((a4.i a2).i n8.i) n8.blk Do).i a0).i a1
  refine xb 4 2 e2 ?_
  refine xc 0 (Cn x.2.2 13 _ M0) ?_
  rintro _ h7 ⟨d7,h2,rfl,a9,a6⟩
  have k3:=(((u9.A ((n3.blk.i a2).i n8.i) n8.blk Do).i a0).i a1).i a9
  refine xsv 0 k3 [V0 0,V0 0,V0 0,V0 0,S1] fun i3 c9 g2=>?_
  have g3:=n3.Q (blB (blB (U3 B w) hBw n1.i) hBw n2.i)
  have c1:=a6.q (Q1 (T:=[32]) c9 k3 Do) Do
  have hB:=c9.i (blB (blB (blB (u9.i (blB (blB (blB (blB (blB (U3 B w) hBw n1.i) hBw n2.i) hBw n3.i) hBw a2) hBw n8.i) (N0 hBw g8)) hBw a0) hBw a1) hBw a9) (N0 hBw g3)
  have hO:=(Q3 ((((Q3 (((((show Zd [216] w _ from(Q0 n1.i)).trans (Q0 n2.i)).trans (Q0 n3.i)).trans (Q0 a2)).trans (Q0 n8.i)) u9 g8).trans (Q0 a0)).trans (Q0 a1)).trans (Q0 a9)) c9 g3)
  have hX:=(Q8 ((((Q8 (((((show Fr [bx] w _ from(Q2 n1.i)).trans (Q2 n2.i)).trans (Q2 n3.i)).trans (Q2 a2)).trans (Q2 n8.i)) u9 g8).trans (Q2 a0)).trans (Q2 a1)).trans (Q2 a9)) c9 g3)
  exact xec 5 g2 (.tuple #[.agg #[V0 0,V0 0,V0 0,V0 0,S1],.iface d7 (h2)]) (Cy (dev_5 M0 M0 M0 b6 M0) Do hB hO hX c1)
 have a3:=c3.i a1
 refine xb 8 3 a3 ?_
 refine xwm 2 ((sum:Int)+(↑((ownO l y data am).2.2.length):Int)) (↑(sum+((ownO l y data am).2.2.length)):Int) ?_
 refine xs 2 a3 [P0 b,V0 data,V0 am,V0 (↑(sum+((ownO l y data am).2.2.length)):Int)] fun i5 a5 f3=>?_
 refine xb 7 3 f3 ?_
 refine xid 3 ((↑(sum+((ownO l y data am).2.2.length)):Int)>(16384:Int)) (fun f1=>?_) (fun f1=>?_)
 ·have e6:=a5.A ((k2.i a0).i a1) a3 Do
  refine xb 4 2 e6 ?_
  refine xc 0 (Cn y.2.2 2 _ M0) ?_
  rintro _ h4 ⟨e3,f7,rfl,a8,a6⟩
  have k3:=(a5.A (((u9.A ((n3.blk.i a2).i n8.i) n8.blk Do).i a0).i a1) a3 Do).i a8
  refine xsv 0 k3 [V0 0,V0 0,V0 0,V0 0,S1] fun h5 d0 h0=>?_
  have g3:=n3.Q (blB (blB (U3 B w) hBw n1.i) hBw n2.i)
  have b9:=a6.q (Q1 (T:=[32]) d0 k3 Do) Do
  have hB:=d0.i (blB (a5.i (blB (blB (u9.i (blB (blB (blB (blB (blB (U3 B w) hBw n1.i) hBw n2.i) hBw n3.i) hBw a2) hBw n8.i) (N0 hBw g8)) hBw a0) hBw a1) hB0) hBw a8) (N0 hBw g3)
  have hO:=(Q3 (((((Q3 (((((show Zd [216] w _ from(Q0 n1.i)).trans (Q0 n2.i)).trans (Q0 n3.i)).trans (Q0 a2)).trans (Q0 n8.i)) u9 g8).trans (Q0 a0)).trans (Q0 a1)).trans (Q1 a5 a3 Do)).trans (Q0 a8)) d0 g3)
  have hX:=(Q8 (((((Q8 (((((show Fr [bx] w _ from(Q2 n1.i)).trans (Q2 n2.i)).trans (Q2 n3.i)).trans (Q2 a2)).trans (Q2 n8.i)) u9 g8).trans (Q2 a0)).trans (Q2 a1)).trans (X2 a5 Y5)).trans (Q2 a8)) d0 g3)
  exact xec 5 h0 (.tuple #[.agg #[V0 0,V0 0,V0 0,V0 0,S1],.iface e3 (f7)]) (Cy (dev_6 M0 M0 M0 b6 M0 M0) Do hB hO hX b9)
 have e4:=a5.A (((u9.A ((a4.i a2).i n8.i) n8.blk Do).i a0).i a1) a3 Do
 refine xb 5 0 e4 ?_
 have b5:=a5.A c6 a3 Do
 refine xb 1 1 b5 ?_
 refine xb 1 2 b5 ?_
 refine xb 1 3 b5 ?_
 have k3:=a5.A (((u9.A ((n3.blk.i a2).i n8.i) n8.blk Do).i a0).i a1) a3 Do
 refine xsv 2 k3 [V0 x.1,V0 (↑(Kn x.2.1 1):Int),V0 (↑(Kn x.2.1 2):Int),V0 (↑(Kn x.2.1 3):Int),.slice po ((ownO l y data am).2.2.length) co] fun i2 c2 h3=>?_
 have g3:=n3.Q (blB (blB (U3 B w) hBw n1.i) hBw n2.i)
 have c8:=c2.A f3 k3 Do
 have hB:=c2.i (a5.i (blB (blB (u9.i (blB (blB (blB (blB (blB (U3 B w) hBw n1.i) hBw n2.i) hBw n3.i) hBw a2) hBw n8.i) (N0 hBw g8)) hBw a0) hBw a1) hB0) (N0 hBw g3)
 have hO:=(Q3 ((((Q3 (((((show Zd [216] w _ from(Q0 n1.i)).trans (Q0 n2.i)).trans (Q0 n3.i)).trans (Q0 a2)).trans (Q0 n8.i)) u9 g8).trans (Q0 a0)).trans (Q0 a1)).trans (Q1 a5 a3 Do)) c2 g3)
 have hX:=(Q8 ((((Q8 (((((show Fr [bx] w _ from(Q2 n1.i)).trans (Q2 n2.i)).trans (Q2 n3.i)).trans (Q2 a2)).trans (Q2 n8.i)) u9 g8).trans (Q2 a0)).trans (Q2 a1)).trans (X2 a5 Y5)) c2 g3)
 have c7:=c2.j (a5.j (Zg f6 e8) a3 Do) k3 Do
 exact xec 4 h3 (.tuple #[.agg #[V0 x.1,V0 (↑(Kn x.2.1 1):Int),V0 (↑(Kn x.2.1 2):Int),V0 (↑(Kn x.2.1 3):Int),.slice po ((ownO l y data am).2.2.length) co],.nilIface]) (.inr ⟨by rw[dev_7 M0 M0 M0 b6 M0 M0],_,_,rfl,hB,hO,hX,c8,c7⟩)
abbrev Rnd:=Option Nat×Option Nat
def Xu(i j:Nat)(a b:V6 Ent):V6 Rnd :=
 match a,b with
 | [],[]=>[]
 | [],_::b=>(none,some j)::Xu i (j+1) [] b
 | _::a,[]=>(some i,none)::Xu (i+1) j a []
 | x::a,y::b =>
  if x.1=y.1 then(some i,some j)::Xu (i+1) (j+1) a b
  else if x.1<y.1 then(some i,none)::Xu (i+1) j a (y::b)
  else(none,some j)::Xu i (j+1) (x::a) b
termination_by a.length+b.length
theorem Zan(i j:Nat):Xu i j [] []=[]:=by rw[Xu]
theorem Iz(i j:Nat)(y:Ent)(b:V6 Ent):Xu i j [] (y::b)=(none,some j)::Xu i (j+1) [] b:=by rw[Xu]
theorem Iv(i j:Nat)(x:Ent)(a:V6 Ent):Xu i j (x::a) []=(some i,none)::Xu (i+1) j a []:=by rw[Xu]
theorem Zat{i j:Nat}{x y:Ent}{a b:V6 Ent}(h:x.1=y.1):Xu i j (x::a) (y::b)=(some i,some j)::Xu (i+1) (j+1) a b:=by rw[Xu,V8 h]
theorem Zak{i j:Nat}{x y:Ent}{a b:V6 Ent}(h:x.1<y.1):Xu i j (x::a) (y::b)=(some i,none)::Xu (i+1) j a (y::b):=by rw[Xu,V7 M0,V8 h]
theorem Zam{i j:Nat}{x y:Ent}{a b:V6 Ent}(h:y.1<x.1):Xu i j (x::a) (y::b)=(none,some j)::Xu i (j+1) (x::a) b:=by rw[Xu,V7 M0,V7 M0]
def Zjn(r:Rnd):Bool:=r.1.isSome&&r.2.isSome
theorem Iw:∀ (a b:V6 Ent) (i j:Nat),(Xu i j a b).all Zjn=true→Wt a b=0∧Xu i j a b=(range a.length).map fun k=>(some (i+k),some (j+k))
 | [],[],i,j,_=>⟨rfl,by rw[Zan];rfl⟩
 | [],y::b,i,j,h=>by rw[Iz] at h;simp[Zjn] at h
 | x::a,[],i,j,h=>by rw[Iv] at h;simp[Zjn] at h
 | x::a,y::b,i,j,h=>by
  by_cases e:x.1=y.1
  ·rw[Zat e] at h ⊢;rw[List.all_cons] at h;obtain⟨h1,h2⟩:=Iw a b (i+1) (j+1) (by simpa [Zjn] using h);refine⟨?_,?_⟩
   ·show(if x.1=y.1 then Wt a b else _)=0;rw[V8 e,h1]
   ·rw[h2,C5,List.range_succ_eq_map,D7,L5];congr 1;apply F9;intro k _;simp only[Function.comp,Nat.succ_eq_add_one];congr 2<;>omega
  ·by_cases q:x.1<y.1
   ·rw[Zak q] at h;simp[Zjn] at h
   ·rw[Zam M0] at h;simp[Zjn] at h
theorem Ln:∀ (a b:V6 Ent) (i j k:Nat) (r:Rnd),((Xu i j a b).take k).all Zjn=true→(Xu i j a b)[k]? = some r→Zjn r=false→Wt a b=(if r.1=none then 1 else 2)
 | [],[],i,j,k,r,_,h,_=>by rw[Zan] at h;simp at h
 | [],y::b,i,j,k,r,hp,h,hr=>by
  rw[Iz] at hp h;cases k with
  | zero=>simp at h;subst h;rfl
  | succ k=>simp[Zjn] at hp
 | x::a,[],i,j,k,r,hp,h,hr=>by
  rw[Iv] at hp h;cases k with
  | zero=>simp at h;subst h;rfl
  | succ k=>simp[Zjn] at hp
 | x::a,y::b,i,j,k,r,hp,h,hr=>by
  by_cases e:x.1=y.1
  ·rw[Zat e] at hp h;cases k with
   | zero=>simp at h;subst h;simp[Zjn] at hr
   | succ k =>
    have ih:=Ln a b (i+1) (j+1) k r (by simpa [Zjn] using hp) (by simpa using h) hr;show(if x.1=y.1 then Wt a b else _)=_;rw[V8 e,ih]
  ·by_cases q:x.1<y.1
   ·rw[Zak q] at hp h;cases k with
    | zero =>
     simp at h;subst h;show(if x.1=y.1 then Wt a b else if x.1<y.1 then 2 else 1)=2;rw[V7 e,V8 q]
    | succ k=>simp[Zjn] at hp
   ·rw[Zam M0] at hp h;cases k with
    | zero =>
     simp at h;subst h;show(if x.1=y.1 then Wt a b else if x.1<y.1 then 2 else 1)=1;rw[V7 e,V7 q]
    | succ k=>simp[Zjn] at hp
end
end
section
open Go.RowKit
section
attribute [local go_sem] Oper.semAt_some
def Zkn(g off n cap:Nat)(i:Nat)(v:V2):Prop:=(i=n∧∃ a c,v=.slice a 0 c)∨(i<n∧n≤cap∧v=.slice (some ⟨g,off+3*i,none⟩) (n-i) (cap-i))
def Il(g off:Nat):Option Nat→V2
 | none=>.pointer none
 | some i=>.pointer (some ⟨g,off+3*i,none⟩)
def encR(ga oa gb ob:Nat)(r:Rnd):Array V2:=#[Il ga oa r.1,Il gb ob r.2]
def lenAt(W:V1)(b:Nat):Nat:=match W.cell? ⟨b,0,none⟩ with
 | some (.slice _ n _)=>n
 | _=>0
theorem Qb{W:V1}{b n c:Nat}{a:O0}{t:V3}(h:Blk W b [.slice a n c] t):lenAt W b=n:=by
 unfold lenAt;rw[h.cell (i:=0) rfl]
theorem Cb{α:Type}{L:V6 α}{k:Nat}{x:α}{r:V6 α}(h:L.drop k=x::r):L[k]? = some x∧k<L.length∧L.drop (k+1)=r:=by
 have h1:k<L.length:=by
  rcases F0 k L.length with q|q
  ·exact q
  ·rw[E3 q] at h;cases h
 rw[F8 h1] at h;simp only[I5] at h;exact⟨by rw[A9 h1,h.1],h1,h.2⟩
theorem Pu{A:V6 Ent}{i n:Nat}(hA:A.length=n)(hi:i<n):A.drop i=A.getD i Zn::A.drop (i+1):=by
 subst hA;rw[F8 hi,show A.getD i Zn=A[i] from by simp[getD,hi]]
theorem Dh{T:Nat→Prop}{W X V:V1}{B k B1 B2:Nat}{u x:V2}{t:V3}{J:Nat→V1→Prop}(hV:X.setCell ⟨B,0,none⟩ u=V)(m:Blk X B [x] t)(hT:¬ T B)(hB:B=B1∨B=B2)
 (hJ:∀ k X Y row,J k X→X.grownBy Y row→(∀ r,row=some r→r=B1∨r=B2)→J k Y) (hK:Keeps T W X) (h:J k X):Blk V B [u] t∧Keeps T W V∧J k V∧∀ b cs t',b≠B→Blk X b cs t'→Blk V b cs t':=by
 subst hV
 exact⟨m.set 0 u,hK.setCell hT u,hJ _ _ _ _ h (grownBy_setCell' X B u) (fun r e=>by cases e;exact hB),fun b cs t' hb h'=>h'.d9 (p:=⟨B,0,none⟩) hb u⟩
theorem Nh{T:Nat→Prop}{W X:V1}{N k B1 B2:Nat}{J:Nat→V1→Prop}(hJ:∀ k X Y row,J k X→X.grownBy Y row→(∀ r,row=some r→r=B1∨r=B2)→J k Y)(hK:Keeps T W X)(h:J k X):Keeps T W (X.drewN N)∧J k (X.drewN N) :=
 ⟨hK.trans ⟨At _,fun _ _=>rfl⟩,hJ _ _ _ none h ⟨rfl,rfl,rfl,At _,fun _ _ _=>rfl⟩ (fun _ e=>by cases e)⟩
theorem Ud{g off n cap i m:Nat}(hi:i<n)(hm:n-i=m+1)(hc:n≤cap):(cap-i=1→Zkn g off n cap (i+1) (.slice (some ⟨g,off+3*i,none⟩) m 0))∧(Zkn g off n cap (i+1) (.slice (some ⟨g,off+3*i+3,none⟩) m (cap-i-1))):=by
 refine⟨fun h=>?_,?_⟩
 ·obtain rfl:m=0:=M0;exact .inl ⟨M0,_,_,rfl⟩
 ·by_cases h:m=0
  ·subst h;exact .inl ⟨M0,_,_,rfl⟩
  ·refine .inr ⟨M0,hc,?_⟩;rw[show off+3*(i+1)=off+3*i+3 by omega,show n-(i+1)=m by omega,show cap-(i+1)=cap-i-1 by omega]
theorem Jp{T:Nat→Prop}{V U:V1}{b:Nat}{cs:V6 V2}{t:V3}(h:Keeps T V U)(hb:T b)(m:Blk V b cs t):Blk U b cs t:=(h.block b hb).trans m
theorem Zx8(l B1 B2:Nat)(ga oa na ca gb ob nb cb:Nat)(A E:V6 Ent)(hA:A.length=na)(hE:E.length=nb)(hna:na≤100000000)(hnb:nb≤100000000)(hB:B1≠B2)(T:Nat→Prop)(hT1:¬ T B1)(hT2:¬ T B2)
  (J Jx:Nat→V1→Prop)
  (hJ:∀ k X Y row,J k X→X.grownBy Y row→(∀ r,row=some r→r=B1∨r=B2)→J k Y)
  (hY:∀ k x V,(Xu 0 0 A E)[k]? = some x→J k V→YieldAt Fence.wide 2 Tryz.prog l (encR ga oa gb ob x) V fun e U =>
   (e=.returned (.bool true)∧J (k+1) U∧Keeps (fun b=>b=B1∨b=B2∨T b) V U)∨(e=.returned (.bool false)∧Jx k U))
  (W:V1) (va vb:V2) (k1:Blk W B1 [va] 99) (k2:Blk W B2 [vb] 99) (hva:Zkn ga oa na ca 0 va) (hvb:Zkn gb ob nb cb 0 vb)
  (hkA:∀ i,i<na→W.cell? ⟨ga,oa+3*i,none⟩=some (V0 (A.getD i Zn).1)∧T ga) (hkE:∀ i,i<nb→W.cell? ⟨gb,ob+3*i,none⟩=some (V0 (E.getD i Zn).1)∧T gb) (h0:J 0 W) :
  CallsIn Fence.wide 3 Tryz.prog 192 #[.func (.yield l) #[] #[],P0 B1,P0 B2] W fun e W'=>(∃ v,e=.returned v)∧(J (Xu 0 0 A E).length W'∨∃ k,k<(Xu 0 0 A E).length∧Jx k W'):=by
 refine callsIn_of_wp Tryz.func192 rfl trivial ?_ rfl
 simp only[Tryz.ntmps192,Gt,C5,E4,Nat.reduceAdd,Nat.reduceSub,H9,Id,I9,I2,F7,Ge]
 gi_wp2
 gi_loopw [] (fun wr=>∃ (k i j:Nat) (va vb:V2),i≤na∧j≤nb∧k≤(Xu 0 0 A E).length∧(Xu 0 0 A E).drop k=Xu i j (A.drop i) (E.drop j)∧Blk wr B1 [va] 99∧Blk wr B2 [vb] 99∧Zkn ga oa na ca i va∧Zkn gb ob nb cb j vb∧J k wr∧Keeps T W wr)
  (fun wr=>lenAt wr B1+lenAt wr B2)
 case atStart=>exact⟨0,0,0,va,vb,A5 _,A5 _,A5 _,Y5,k1,k2,hva,hvb,h0,Keeps.refl _ _⟩
 case round =>
  obtain⟨k,i,j,va,vb,hi,hj,hk,d4,m1,m2,hva,hvb,b3,a8⟩:=hrel
  have b9:=hva
  have c9:=hvb
  rcases hva with ⟨rfl,a1,c1,rfl⟩|⟨a7,b6,rfl⟩
  ·rcases hvb with ⟨rfl,a2,c2,rfl⟩|⟨a3,d5,rfl⟩
   ·have e4:(Xu 0 0 A E).drop k=[]:=by rw[d4,show A.drop i=[] from E3 M0,show E.drop j=[] from E3 M0,Zan]
    have d8:k=(Xu 0 0 A E).length:=by
     have:=List.drop_eq_nil_iff.1 e4;omega
    have z1:=m1.cell (i:=0) rfl
    have z2:=m2.cell (i:=0) rfl
    have f1:=m1.frozen 0
    have f2:=m2.frozen 0
    gi_wp2
    go_end0
    exact⟨⟨_,rfl⟩,.inl (d8▸b3)⟩
   ·have c6:(Xu 0 0 A E).drop k=(none,some j)::Xu i (j+1) (A.drop i) (E.drop (j+1)):=by rw[d4,show A.drop i=[] from E3 M0,Pu hE a3,Iz]
    obtain⟨hx,a9,a4⟩:=Cb c6
    obtain⟨p,hp⟩:∃ m,nb-j=m+1:=⟨nb-j-1,M0⟩
    rw[hp] at m2
    have b8:=Ud (g:=gb) (off:=ob) a3 hp d5
    have d6:=Lib.hid hp;clear hp
    have y2:wr.cell? ⟨gb,ob+3*j,none⟩=some (V0 (E.getD j Zn).1):=(a8.cell (hkE j a3).2).trans (hkE j a3).1
    have c7:=Qb m1
    have b7:=Qb m2
    have z1:=m1.cell (i:=0) rfl
    have z2:=m2.cell (i:=0) rfl
    have f1:=m1.frozen 0
    have f2:=m2.frozen 0
    gi_wp2
    gi_big_quiet_th (fail)
    gi_wp2
    gi_big_quiet_th (fail)
    gi_wp2
    all_goals
     generalize hV:World.setCell _ _ _=V
     obtain⟨q2,d3,b5,d0⟩:=Dh (x:=_) (B1:=B1) (B2:=B2) hV m2 hT2 (.inr rfl) hJ (Nh hJ a8 b3).1 (Nh hJ a8 b3).2
     have q1:=d0 _ _ _ hB m1
     obtain⟨fn,c0,a5,c8,hy,hR⟩:=hY k (none,some j) V hx b5
     have b0:=hy;clear hy
     simp only[encR,Il] at b0
     rw[b0]
     refine⟨fun _=>by omega,hR.mono ?_⟩
     rintro e U (⟨rfl,c5,a0⟩|⟨rfl,a6⟩)
     ·have r1:=Jp a0 (.inl rfl) q1
      have r2:=Jp a0 (.inr (.inl rfl)) q2
      have b4:=Qb r1
      have c3:=Qb r2
      gi_wp2
      go_roundw
      case rel =>
       exact⟨k+1,_,j+1,_,_,hi,a3,a9,a4,r1,r2,(by first|exact b9|(rw[←d7.out];exact b9)),(by first|exact b8.2|exact b8.1 M0),c5,d3.trans ⟨a0.size,fun b hb=>a0.block b (.inr (.inr hb))⟩⟩
      case measure=>rw[b4,c3,c7,b7];omega
     ·gi_wp2
      refine bodyPost_ret (results_none rfl _ _ _) rfl ?_
      exact⟨⟨_,rfl⟩,.inr ⟨k,a9,a6⟩⟩
  ·rcases hvb with ⟨rfl,a2,c2,rfl⟩|⟨a3,d5,rfl⟩
   ·have c6:(Xu 0 0 A E).drop k=(some i,none)::Xu (i+1) j (A.drop (i+1)) (E.drop j):=by rw[d4,show E.drop j=[] from E3 M0,Pu hA a7,Iv]
    obtain⟨hx,a9,a4⟩:=Cb c6
    obtain⟨m,hm⟩:∃ m,na-i=m+1:=⟨na-i-1,M0⟩
    rw[hm] at m1
    have c4:=Ud (g:=ga) (off:=oa) a7 hm b6
    have d7:=Lib.hid hm;clear hm
    have y1:wr.cell? ⟨ga,oa+3*i,none⟩=some (V0 (A.getD i Zn).1):=(a8.cell (hkA i a7).2).trans (hkA i a7).1
    have c7:=Qb m1
    have b7:=Qb m2
    have z1:=m1.cell (i:=0) rfl
    have z2:=m2.cell (i:=0) rfl
    have f1:=m1.frozen 0
    have f2:=m2.frozen 0
    gi_wp2
    gi_big_quiet_th (fail)
    gi_wp2
    gi_big_quiet_th (fail)
    gi_wp2
    all_goals
     generalize hV:World.setCell _ _ _=V
     obtain⟨q1,d3,b5,d0⟩:=Dh (x:=_) (B1:=B1) (B2:=B2) hV m1 hT1 (.inl rfl) hJ (Nh hJ a8 b3).1 (Nh hJ a8 b3).2
     have q2:=d0 _ _ _ (S4 hB) m2
     obtain⟨fn,c0,a5,c8,hy,hR⟩:=hY k (some i,none) V hx b5
     have b0:=hy;clear hy
     simp only[encR,Il] at b0
     rw[b0]
     refine⟨fun _=>by omega,hR.mono ?_⟩
     rintro e U (⟨rfl,c5,a0⟩|⟨rfl,a6⟩)
     ·have r1:=Jp a0 (.inl rfl) q1
      have r2:=Jp a0 (.inr (.inl rfl)) q2
      have b4:=Qb r1
      have c3:=Qb r2
      gi_wp2
      go_roundw
      case rel =>
       exact⟨k+1,i+1,_,_,_,a7,hj,a9,a4,r1,r2,(by first|exact c4.2|exact c4.1 M0),(by first|exact c9|(rw[←d6.out];exact c9)),c5,d3.trans ⟨a0.size,fun b hb=>a0.block b (.inr (.inr hb))⟩⟩
      case measure=>rw[b4,c3,c7,b7];omega
     ·gi_wp2
      refine bodyPost_ret (results_none rfl _ _ _) rfl ?_
      exact⟨⟨_,rfl⟩,.inr ⟨k,a9,a6⟩⟩
   ·by_cases hc:(A.getD i Zn).1=(E.getD j Zn).1
    ·have c6:(Xu 0 0 A E).drop k=(some i,some j)::Xu (i+1) (j+1) (A.drop (i+1)) (E.drop (j+1)):=by rw[d4,Pu hA a7,Pu hE a3,Zat hc]
     obtain⟨hx,a9,a4⟩:=Cb c6
     obtain⟨m,hm⟩:∃ m,na-i=m+1:=⟨na-i-1,M0⟩
     rw[hm] at m1
     have c4:=Ud (g:=ga) (off:=oa) a7 hm b6
     have d7:=Lib.hid hm;clear hm
     have y1:wr.cell? ⟨ga,oa+3*i,none⟩=some (V0 (A.getD i Zn).1):=(a8.cell (hkA i a7).2).trans (hkA i a7).1
     obtain⟨p,hp⟩:∃ m,nb-j=m+1:=⟨nb-j-1,M0⟩
     rw[hp] at m2
     have b8:=Ud (g:=gb) (off:=ob) a3 hp d5
     have d6:=Lib.hid hp;clear hp
     have y2:wr.cell? ⟨gb,ob+3*j,none⟩=some (V0 (E.getD j Zn).1):=(a8.cell (hkE j a3).2).trans (hkE j a3).1
     have c7:=Qb m1
     have b7:=Qb m2
     obtain⟨ya,b1⟩:∃ y,(A.getD i Zn).1=y:=⟨_,rfl⟩
     obtain⟨yb,b2⟩:∃ y,(E.getD j Zn).1=y:=⟨_,rfl⟩
     rw[b1] at y1
     rw[b2] at y2
     have d1:decide (ya≤yb)=true:=by simp;omega
     have d2:decide (yb≤ya)=true:=by simp;omega
     have w1:(ya≤yb)=True:=by simp;omega
     have w2:(yb≤ya)=True:=by simp;omega
     have e1:((p:Int)+1==0)=false:=beq_false_of_ne M0
     have e2:((m:Int)+1==0)=false:=beq_false_of_ne M0
     have b1:=Lib.hid b1
     have b2:=Lib.hid b2
     clear d1 d2
     have z1:=m1.cell (i:=0) rfl
     have z2:=m2.cell (i:=0) rfl
     have f1:=m1.frozen 0
     have f2:=m2.frozen 0
     gi_wp2
     gi_big_quiet_th (fail)
     gi_wp2
     gi_big_quiet_th (fail)
     gi_wp2
     all_goals
      generalize hV:World.setCell (World.setCell _ _ _) _ _=V
      generalize hX:World.setCell (World.drewN _ _) _ _=X at hV
      obtain⟨q1,e0,d9,e3⟩:=Dh (x:=_) (B1:=B1) (B2:=B2) hX m1 hT1 (.inl rfl) hJ (Nh hJ a8 b3).1 (Nh hJ a8 b3).2
      obtain⟨q2,d3,b5,d0⟩:=Dh (x:=_) (B1:=B1) (B2:=B2) hV (e3 _ _ _ (S4 hB) m2) hT2 (.inr rfl) hJ e0 d9
      replace q1:=d0 _ _ _ hB q1
      obtain⟨fn,c0,a5,c8,hy,hR⟩:=hY k (some i,some j) V hx b5
      have b0:=hy;clear hy
      simp only[encR,Il] at b0
      rw[b0]
      refine⟨fun _=>by omega,hR.mono ?_⟩
      rintro e U (⟨rfl,c5,a0⟩|⟨rfl,a6⟩)
      ·have r1:=Jp a0 (.inl rfl) q1
       have r2:=Jp a0 (.inr (.inl rfl)) q2
       have b4:=Qb r1
       have c3:=Qb r2
       gi_wp2
       go_roundw
       case rel =>
        exact⟨k+1,i+1,j+1,_,_,a7,a3,a9,a4,r1,r2,(by first|exact c4.2|exact c4.1 M0),(by first|exact b8.2|exact b8.1 M0),c5,d3.trans ⟨a0.size,fun b hb=>a0.block b (.inr (.inr hb))⟩⟩
       case measure=>rw[b4,c3,c7,b7];omega
      ·gi_wp2
       refine bodyPost_ret (results_none rfl _ _ _) rfl ?_
       exact⟨⟨_,rfl⟩,.inr ⟨k,a9,a6⟩⟩
    ·by_cases hl:(A.getD i Zn).1<(E.getD j Zn).1
     ·have c6:(Xu 0 0 A E).drop k=(some i,none)::Xu (i+1) j (A.drop (i+1)) (E.drop j):=by rw[d4,Pu hA a7,Pu hE a3,Zak hl]
      obtain⟨hx,a9,a4⟩:=Cb c6
      obtain⟨m,hm⟩:∃ m,na-i=m+1:=⟨na-i-1,M0⟩
      rw[hm] at m1
      have c4:=Ud (g:=ga) (off:=oa) a7 hm b6
      have d7:=Lib.hid hm;clear hm
      have y1:wr.cell? ⟨ga,oa+3*i,none⟩=some (V0 (A.getD i Zn).1):=(a8.cell (hkA i a7).2).trans (hkA i a7).1
      obtain⟨p,hp⟩:∃ m,nb-j=m+1:=⟨nb-j-1,M0⟩
      rw[hp] at m2
      have b8:=Ud (g:=gb) (off:=ob) a3 hp d5
      have d6:=Lib.hid hp;clear hp
      have y2:wr.cell? ⟨gb,ob+3*j,none⟩=some (V0 (E.getD j Zn).1):=(a8.cell (hkE j a3).2).trans (hkE j a3).1
      have c7:=Qb m1
      have b7:=Qb m2
      obtain⟨ya,b1⟩:∃ y,(A.getD i Zn).1=y:=⟨_,rfl⟩
      obtain⟨yb,b2⟩:∃ y,(E.getD j Zn).1=y:=⟨_,rfl⟩
      rw[b1] at y1
      rw[b2] at y2
      have d1:decide (ya≤yb)=true:=by simp;omega
      have d2:decide (yb≤ya)=false:=by simp;omega
      have w1:(ya≤yb)=True:=by simp;omega
      have w2:(yb≤ya)=False:=by simp;omega
      have e1:((p:Int)+1==0)=false:=beq_false_of_ne M0
      have e2:((m:Int)+1==0)=false:=beq_false_of_ne M0
      have b1:=Lib.hid b1
      have b2:=Lib.hid b2
      clear d1 d2
      have z1:=m1.cell (i:=0) rfl
      have z2:=m2.cell (i:=0) rfl
      have f1:=m1.frozen 0
      have f2:=m2.frozen 0
      gi_wp2
      gi_big_quiet_th (fail)
      gi_wp2
      gi_big_quiet_th (fail)
      gi_wp2
      all_goals
       generalize hV:World.setCell _ _ _=V
       obtain⟨q1,d3,b5,d0⟩:=Dh (x:=_) (B1:=B1) (B2:=B2) hV m1 hT1 (.inl rfl) hJ (Nh hJ a8 b3).1 (Nh hJ a8 b3).2
       have q2:=d0 _ _ _ (S4 hB) m2
       obtain⟨fn,c0,a5,c8,hy,hR⟩:=hY k (some i,none) V hx b5
       have b0:=hy;clear hy
       simp only[encR,Il] at b0
       rw[b0]
       refine⟨fun _=>by omega,hR.mono ?_⟩
       rintro e U (⟨rfl,c5,a0⟩|⟨rfl,a6⟩)
       ·have r1:=Jp a0 (.inl rfl) q1
        have r2:=Jp a0 (.inr (.inl rfl)) q2
        have b4:=Qb r1
        have c3:=Qb r2
        gi_wp2
        go_roundw
        case rel =>
         exact⟨k+1,i+1,_,_,_,a7,hj,a9,a4,r1,r2,(by first|exact c4.2|exact c4.1 M0),(by first|exact c9|(rw[←d6.out];exact c9)),c5,d3.trans ⟨a0.size,fun b hb=>a0.block b (.inr (.inr hb))⟩⟩
        case measure=>rw[b4,c3,c7,b7];omega
       ·gi_wp2
        refine bodyPost_ret (results_none rfl _ _ _) rfl ?_
        exact⟨⟨_,rfl⟩,.inr ⟨k,a9,a6⟩⟩
     ·have c6:(Xu 0 0 A E).drop k=(none,some j)::Xu i (j+1) (A.drop i) (E.drop (j+1)):=by rw[d4,Pu hA a7,Pu hE a3,Zam (show(E.getD j Zn).1<(A.getD i Zn).1 by omega)]
      obtain⟨hx,a9,a4⟩:=Cb c6
      obtain⟨m,hm⟩:∃ m,na-i=m+1:=⟨na-i-1,M0⟩
      rw[hm] at m1
      have c4:=Ud (g:=ga) (off:=oa) a7 hm b6
      have d7:=Lib.hid hm;clear hm
      have y1:wr.cell? ⟨ga,oa+3*i,none⟩=some (V0 (A.getD i Zn).1):=(a8.cell (hkA i a7).2).trans (hkA i a7).1
      obtain⟨p,hp⟩:∃ m,nb-j=m+1:=⟨nb-j-1,M0⟩
      rw[hp] at m2
      have b8:=Ud (g:=gb) (off:=ob) a3 hp d5
      have d6:=Lib.hid hp;clear hp
      have y2:wr.cell? ⟨gb,ob+3*j,none⟩=some (V0 (E.getD j Zn).1):=(a8.cell (hkE j a3).2).trans (hkE j a3).1
      have c7:=Qb m1
      have b7:=Qb m2
      obtain⟨ya,b1⟩:∃ y,(A.getD i Zn).1=y:=⟨_,rfl⟩
      obtain⟨yb,b2⟩:∃ y,(E.getD j Zn).1=y:=⟨_,rfl⟩
      rw[b1] at y1
      rw[b2] at y2
      have d1:decide (ya≤yb)=false:=by simp;omega
      have d2:decide (yb≤ya)=true:=by simp;omega
      have w1:(ya≤yb)=False:=by simp;omega
      have w2:(yb≤ya)=True:=by simp;omega
      have e1:((p:Int)+1==0)=false:=beq_false_of_ne M0
      have e2:((m:Int)+1==0)=false:=beq_false_of_ne M0
      have b1:=Lib.hid b1
      have b2:=Lib.hid b2
      clear d1 d2
      have z1:=m1.cell (i:=0) rfl
      have z2:=m2.cell (i:=0) rfl
      have f1:=m1.frozen 0
      have f2:=m2.frozen 0
      gi_wp2
      gi_big_quiet_th (fail)
      gi_wp2
      gi_big_quiet_th (fail)
      gi_wp2
      all_goals
       generalize hV:World.setCell _ _ _=V
       obtain⟨q2,d3,b5,d0⟩:=Dh (x:=_) (B1:=B1) (B2:=B2) hV m2 hT2 (.inr rfl) hJ (Nh hJ a8 b3).1 (Nh hJ a8 b3).2
       have q1:=d0 _ _ _ hB m1
       obtain⟨fn,c0,a5,c8,hy,hR⟩:=hY k (none,some j) V hx b5
       have b0:=hy;clear hy
       simp only[encR,Il] at b0
       rw[b0]
       refine⟨fun _=>by omega,hR.mono ?_⟩
       rintro e U (⟨rfl,c5,a0⟩|⟨rfl,a6⟩)
       ·have r1:=Jp a0 (.inl rfl) q1
        have r2:=Jp a0 (.inr (.inl rfl)) q2
        have b4:=Qb r1
        have c3:=Qb r2
        gi_wp2
        go_roundw
        case rel =>
         exact⟨k+1,_,j+1,_,_,hi,a3,a9,a4,r1,r2,(by first|exact b9|(rw[←d7.out];exact b9)),(by first|exact b8.2|exact b8.1 M0),c5,d3.trans ⟨a0.size,fun b hb=>a0.block b (.inr (.inr hb))⟩⟩
        case measure=>rw[b4,c3,c7,b7];omega
       ·gi_wp2
        refine bodyPost_ret (results_none rfl _ _ _) rfl ?_
        exact⟨⟨_,rfl⟩,.inr ⟨k,a9,a6⟩⟩
theorem Zrm(a:O0)(n c:Nat)(b:O0)(m d:Nat)(w:V1):C0 123 #[.slice a n c,.slice b m d] w fun e w' =>
 e=.returned (.func (.func 192) #[] #[.pointer (some ⟨w.heap.size,0,none⟩),.pointer (some ⟨w.heap.size+1,0,none⟩)]) ∧
 w'=(w.alloc (.cells #[.slice a n c] 99)).alloc (.cells #[.slice b m d] 99):=by
 go_enter Tryz.func123,Tryz.ntmps123
 go_wp2
 go_ret
 exact⟨rfl,rfl⟩
theorem Zu9{w W:V1}{p:O0}{n c:Nat}{A:V6 Ent}(hA:A.length=n)(s:Sts Ki w (.slice p n c) A)(hb:B3 w W) :
 ∃ g o,Zkn g o n c 0 (.slice p n c)∧(∀ i,i<n→W.cell? ⟨g,o+3*i,none⟩=some (V0 (A.getD i Zn).1)∧g<w.heap.size)∧(n≠0→p=some ⟨g,o,none⟩):=by
 subst hA
 by_cases h0:A.length=0
 ·exact⟨0,0,.inl ⟨h0.symm,p,c,by rw[h0]⟩,fun i hi=>by omega,fun h=>absurd h0 h⟩
 ·have s':Sl w (.slice p A.length c) A.length (A.flatMap Ki):=s
  rcases s' with ⟨a,d,h1,h2,_⟩|⟨g,o,a0,h1,h2,_,h4⟩
  ·simp only[C2] at h1;omega
  ·simp only[C2] at h1
   obtain⟨rfl,_,rfl⟩:=h1
   refine⟨g,o,.inr ⟨M0,h2,Y5⟩,fun i hi=>?_,fun _=>rfl⟩
   have hc:=Fq Qg A i 0 Zn hi Do
   have h5:=h4 (i*3+0) (V0 (A.getD i Zn).1) (hc.trans rfl)
   rw[show o+(i*3+0)=o+3*i by omega] at h5
   refine⟨Fh hb h5,?_⟩
   rcases F0 g w.heap.size with q|q
   ·exact q
   ·rw[World.cell?,Array.getElem?_eq_none q] at h5;simp at h5
theorem Oc(a:O0)(n c:Nat)(b:O0)(m d:Nat)(w:V1):C0 123 #[.slice a n c,.slice b m d] w (fun e w'=>∃ b1 b2,e=.returned (.func (.func 192) #[] #[P0 b1,P0 b2])∧B3 w w'∧w.heap.size≤b1∧w.heap.size≤b2∧b1≠b2∧Blk w' b1 [.slice a n c] 99∧Blk w' b2 [.slice b m d] 99) :=
 (Zrm a n c b m d w).mono fun e w' ⟨h1,h2⟩=>by
  subst h1 h2;have h3:(w.alloc (.cells #[.slice a n c] 99)).heap.size=w.heap.size+1:=World.size_alloc _ _;have k2:=X0 (w.alloc (.cells #[.slice a n c] 99)) [.slice b m d] 99;rw[h3] at k2;exact⟨_,_,rfl,((U3 _ w).alloc (At _) _).alloc Y5 _,At _,Nat.le_succ _,M0,(X0 w [.slice a n c] 99).alloc _,k2⟩
theorem Zhu{w W:V1}{B1 B2 na ca nb cb:Nat}{pa pb:O0}{A E:V6 Ent}(hA:A.length=na)(hE:E.length=nb)(hna:na≤100000000)(hnb:nb≤100000000)(sA:Sts Ki w (.slice pa na ca) A)(sE:Sts Ki w (.slice pb nb cb) E)
 (hb:B3 w W) (g1:w.heap.size≤B1) (g2:w.heap.size≤B2) (hB:B1≠B2) (k1:Blk W B1 [.slice pa na ca] 99) (k2:Blk W B2 [.slice pb nb cb] 99) :
 ∃ ga oa gb ob,SeqL Tryz.prog 192 #[P0 B1,P0 B2] (encR ga oa gb ob) (Keeps fun b=>b=B1∨b=B2∨(na≠0∧b=ga)∨(nb≠0∧b=gb)) (fun r=>r=B1∨r=B2) (Xu 0 0 A E) W∧(na≠0→pa=some ⟨ga,oa,none⟩)∧(nb≠0→pb=some ⟨gb,ob,none⟩):=by
 obtain⟨ga,oa,ra,ka,ea⟩:=Zu9 hA sA hb
 obtain⟨gb,ob,rb,kb,eb⟩:=Zu9 hE sE hb
 refine⟨ga,oa,gb,ob,?_,ea,eb⟩
 intro l J Jx V hV hJ hY h0
 have ha:na≠0→ga<w.heap.size:=fun h=>(ka 0 M0).2
 have he:nb≠0→gb<w.heap.size:=fun h=>(kb 0 M0).2
 have hT:¬ ((na≠0∧B1=ga)∨(nb≠0∧B1=gb)):=by
  rintro(⟨h,e⟩|⟨h,e⟩)
  ·have:=ha h;omega
  ·have:=he h;omega
 have a2:¬ ((na≠0∧B2=ga)∨(nb≠0∧B2=gb)):=by
  rintro(⟨h,e⟩|⟨h,e⟩)
  ·have:=ha h;omega
  ·have:=he h;omega
 have a1:Blk V B1 _ _:=k1.i hV
 have a0:Blk V B2 _ _:=k2.i hV
 exact Zx8 l B1 B2 ga oa na ca gb ob nb cb A E hA hE hna hnb hB (fun b=>(na≠0∧b=ga)∨(nb≠0∧b=gb)) hT a2 J Jx hJ hY V _ _ a1 a0 ra rb
  (fun i hi=>⟨Fh hV (ka i hi).1,.inl ⟨M0,rfl⟩⟩) (fun i hi=>⟨Fh hV (kb i hi).1,.inr ⟨M0,rfl⟩⟩) h0
end
end
section
open Go.RowKit Go.Extern.Stop Go.Stop Go.Extern
section
attribute [local irreducible] wpList wpAnyH Code.wp Oper.wp Go
def LDevsP(O:V6 Int×Int×V6 Dv)(w:V1)(e:V5)(w':V1):Prop :=
 (O.2.1≠0∧∃ ty v,e=.returned (.tuple #[S1,.iface ty v])∧B3 w w'∧Kx w' (O.1.map some) (some O.2.1) (.iface ty v)) ∨
 (O.2.1=0∧∃ p c Z,e=.returned (.tuple #[.slice p O.2.2.length c,.nilIface])∧B3 w w'∧Z.map fst=O.2.2∧Ys w.heap.size w' Z∧w'.ownsRow w.heap.size 32 5 (.slice p O.2.2.length c) O.2.2.length (Z.flatMap Zg5))
theorem ldevs_ok{O:V6 Int×Int×V6 Dv}{L:V6 Dv}{Z:V6 Zv}{n c:Nat}{w W:V1}{p:O0}(h:O=([],0,L))(hn:Z.length=n)(hZ:Z.map fst=L)(hb:B3 w W)(hM:Ys w.heap.size W Z)(ho:W.ownsRow w.heap.size 32 5 (.slice p n c) n (Z.flatMap Zg5)):LDevsP O w (.returned (.tuple #[.slice p n c,.nilIface])) W:=by
 subst h;have hl:L.length=n:=by rw[←hZ,A3,hn]
 subst hl;exact .inr ⟨rfl,p,c,Z,rfl,hb,hZ,hM,ho⟩
theorem Ys.mono{B B':Nat}{w:V1}{Z:V6 Zv}(h:Ys B' w Z)(hB:B≤B'):Ys B w Z:=fun i hi=>Zg (h i hi) hB
theorem Ys.ab{q:Nat→Prop}{A C:V1}{row:Option Nat}{B m:Nat}{Z:V6 Zv}(h:Ys B A Z)(hg:A.grownBy C row)(hr:Zxa q m A row)(hq:∀ r,q r→r<B):Ys B C Z:=fun i hi=>Zup (h i hi) hg hr hq
theorem Ys.pt{D B:Nat}{w:V1}{Z:V6 Zv}(h:Ys B w Z)(hK:Dfr D w)(o:Obj):Ys B (w.putObj D o) Z:=fun i hi=>Zye (h i hi) hK o
theorem resLD{B1 B2:Nat}{a:O0}{n c:Nat}{y:V2}{t t':V3}(hy:y=.nilIface∨∃ ty v,y=.iface ty v){tmps:Array V2}(e:tmps.getD 10 undef=P0 B1)(e2:tmps.getD 11 undef=P0 B2) :
 ∀ U,Blk U B1 [.slice a n c] t→Blk U B2 [y] t'→(results Tryz.f62 tmps).run Tryz.prog U=.ok (.tuple #[.slice a n c,y]) U:=by
 intro U h h2
 have c0:=h.cell (i:=0) rfl
 have c1:=h2.cell (i:=0) rfl
 have e':tmps[10]?.getD undef=P0 B1:=by simpa using e
 have a0:tmps[11]?.getD undef=P0 B2:=by simpa using e2
 rcases hy with rfl|⟨ty,v,rfl⟩<;>simp[results,Tryz.results62,go_sem,c0,c1,e',a0]
theorem Zec{A E:V6 Ent}(h:(Xu 0 0 A E).all Zjn=true):(Xu 0 0 A E).length=A.length∧∀ k x,(Xu 0 0 A E)[k]? = some x→k<A.length∧x=(some k,some k):=by
 obtain⟨_,h2⟩:=Iw A E 0 0 h;rw[h2];refine⟨Y5,fun k x hx=>?_⟩;rw[C3] at hx;by_cases hk:k<A.length
 ·rw[C1 hk] at hx;simp only[D3,A0,F5] at hx;exact⟨hk,hx.symm⟩
 ·rw[C4 (by simp;omega)] at hx;cases hx
theorem Zfx{α:Type}{L:V6 α}{p:α→Bool}{k:Nat}{x:α}(h:(L.take k).all p=true)(hx:L[k]? = some x)(hp:p x=true):(L.take (k+1)).all p=true:=by
 obtain⟨hk,rfl⟩:=List.getElem?_eq_some_iff.1 hx;rw[B5 hk,List.all_append,h];simpa using hp
theorem Zv2{l:Bl}{x y:Ent}{data am:Int}{sum:Nat}(h:(Ik l x y data am sum).2=0):sum+(ownO l y data am).2.2.length≤16384:=by
 unfold Ik at h;repeat' split at h
 all_goals first|omega|(simp at h;done)|(exact absurd h Y3)
theorem Znx{ga oa i:Nat}{p:O0}(h:p=some ⟨ga,oa,none⟩):Il ga oa (some i)=.pointer (some (Zx p (i*3))):=by
 subst h;show Value.pointer (some ⟨ga,oa+3*i,none⟩)=_;simp[Zx,Addr.add_mid,M4]
theorem Zru{l:Bl}{top details data am:Int}{L:V6 Dv}(h:Zcr l top details data am=([],0,L)):(Ze l details 3 am).fs=[]∧(Ze l top 1 am).fs=[]∧(Ze l details 3 am).es.length≤4096∧Wt (Ze l details 3 am).es (Ze l top 1 am).es≠1∧Wt (Ze l details 3 am).es (Ze l top 1 am).es≠2:=by
 unfold Zcr at h;split at h
 ·rename_i q;exact absurd (congrArg (fun z=>z.2.1) h) (Fu q)
 split at h
 ·rename_i q;exact absurd (congrArg (fun z=>z.2.1) h) (Fu q)
 split at h
 ·exact absurd (congrArg (fun z=>z.2.1) h) (show ¬ (2:Int)=0 by decide)
 split at h
 ·exact absurd (congrArg (fun z=>z.2.1) h) (show ¬ (18:Int)=0 by decide)
 split at h
 ·exact absurd (congrArg (fun z=>z.2.1) h) (show ¬ (18:Int)=0 by decide)
 rename_i h1 h2 h3 h4 h5;exact⟨Classical.not_not.1 h1,Classical.not_not.1 h2,M0,h4,h5⟩
abbrev dvF1(b:Nat)(top:Int)(details:Int)(data:Int)(am:Int)(b1:Nat)(b2:Nat)(b3:Nat)(b4:Nat)(b6:Nat)(b9:Nat)(pd:O0)(l:Bl)(cd:Nat)(pb5:O0)(nb5:Nat)(cb5:Nat)(dp5:Int)(lk5:Int)(pf5:O0)(cf5:Nat)(pt:O0)(ct:Nat)(pb8:O0)(nb8:Nat)(cb8:Nat)(dp8:Int)(lk8:Int)(pf8:O0)(cf8:Nat)(p1:Nat)(q1:Nat)(v0_ v1_ v2_ v3_:V2):Array V2:=#[P0 b,V0 top,V0 details,V0 data,V0 am,undef,P0 b1,P0 b2,undef,undef,P0 b3,P0 b4,P0 b6,.nilIface,P0 b9,v0_,v1_,undef,undef,undef,undef,undef,undef,.tuple #[.agg #[.slice pd ((Ze l details 3 am).es.length) cd,.slice pb5 nb5 cb5,V0 dp5,V0 lk5,.slice pf5 0 cf5],.nilIface],P0 b,V0 details,V0 am,.tuple #[.agg #[.slice pd ((Ze l details 3 am).es.length) cd,.slice pb5 nb5 cb5,V0 dp5,V0 lk5,.slice pf5 0 cf5],.nilIface],.agg #[.slice pd ((Ze l details 3 am).es.length) cd,.slice pb5 nb5 cb5,V0 dp5,V0 lk5,.slice pf5 0 cf5],.nilIface,.nilIface,.bool false,undef,.tuple #[.agg #[.slice pt ((Ze l top 1 am).es.length) ct,.slice pb8 nb8 cb8,V0 dp8,V0 lk8,.slice pf8 0 cf8],.nilIface],P0 b,V0 top,V0 am,.tuple #[.agg #[.slice pt ((Ze l top 1 am).es.length) ct,.slice pb8 nb8 cb8,V0 dp8,V0 lk8,.slice pf8 0 cf8],.nilIface],.agg #[.slice pt ((Ze l top 1 am).es.length) ct,.slice pb8 nb8 cb8,V0 dp8,V0 lk8,.slice pf8 0 cf8],.nilIface,.nilIface,.bool false,undef,P0 b6,.slice pd ((Ze l details 3 am).es.length) cd,V0 (↑((Ze l details 3 am).es.length):Int),.bool (decide ((↑((Ze l details 3 am).es.length):Int)>(4096:Int))),undef,undef,P0 b6,.slice pd ((Ze l details 3 am).es.length) cd,P0 b9,.slice pt ((Ze l top 1 am).es.length) ct,.func (.func 192) #[] #[P0 p1,P0 q1],v2_,v3_,undef,undef,undef,undef,undef,undef,undef,undef,undef,undef,undef,undef,undef,undef,undef,undef,undef,undef,undef,undef,undef,undef,undef,undef,undef,undef,undef,undef,undef,undef,undef,undef,undef,undef,undef,undef,undef,undef,undef,undef,undef]
abbrev dvF2(b:Nat)(top:Int)(details:Int)(data:Int)(am:Int)(b1:Nat)(b2:Nat)(b3:Nat)(b4:Nat)(b6:Nat)(b9:Nat)(b14:Nat)(b16:Nat)(pd:O0)(l:Bl)(cd:Nat)(pb5:O0)(nb5:Nat)(cb5:Nat)(dp5:Int)(lk5:Int)(pf5:O0)(cf5:Nat)(pt:O0)(ct:Nat)(pb8:O0)(nb8:Nat)(cb8:Nat)(dp8:Int)(lk8:Int)(pf8:O0)(cf8:Nat)(p1:Nat)(q1:Nat)(b13:Nat)(p2:Nat)(q2:Nat)(v0_ v1_ v2_ v3_:V2):Array V2:=#[P0 b,V0 top,V0 details,V0 data,V0 am,undef,P0 b1,P0 b2,undef,undef,P0 b3,P0 b4,P0 b6,.nilIface,P0 b9,undef,undef,P0 b14,P0 b16,v0_,v1_,undef,undef,.tuple #[.agg #[.slice pd ((Ze l details 3 am).es.length) cd,.slice pb5 nb5 cb5,V0 dp5,V0 lk5,.slice pf5 0 cf5],.nilIface],P0 b,V0 details,V0 am,.tuple #[.agg #[.slice pd ((Ze l details 3 am).es.length) cd,.slice pb5 nb5 cb5,V0 dp5,V0 lk5,.slice pf5 0 cf5],.nilIface],.agg #[.slice pd ((Ze l details 3 am).es.length) cd,.slice pb5 nb5 cb5,V0 dp5,V0 lk5,.slice pf5 0 cf5],.nilIface,.nilIface,.bool false,undef,.tuple #[.agg #[.slice pt ((Ze l top 1 am).es.length) ct,.slice pb8 nb8 cb8,V0 dp8,V0 lk8,.slice pf8 0 cf8],.nilIface],P0 b,V0 top,V0 am,.tuple #[.agg #[.slice pt ((Ze l top 1 am).es.length) ct,.slice pb8 nb8 cb8,V0 dp8,V0 lk8,.slice pf8 0 cf8],.nilIface],.agg #[.slice pt ((Ze l top 1 am).es.length) ct,.slice pb8 nb8 cb8,V0 dp8,V0 lk8,.slice pf8 0 cf8],.nilIface,.nilIface,.bool false,undef,P0 b6,.slice pd ((Ze l details 3 am).es.length) cd,V0 (↑((Ze l details 3 am).es.length):Int),.bool (decide ((↑((Ze l details 3 am).es.length):Int)>(4096:Int))),undef,undef,P0 b6,.slice pd ((Ze l details 3 am).es.length) cd,P0 b9,.slice pt ((Ze l top 1 am).es.length) ct,.func (.func 192) #[] #[P0 p1,P0 q1],undef,undef,undef,undef,undef,undef,undef,undef,undef,undef,undef,undef,P0 b,V0 data,V0 am,.agg #[P0 b,V0 data,V0 am,V0 0],P0 b13,P0 b6,.slice pd ((Ze l details 3 am).es.length) cd,P0 b9,.slice pt ((Ze l top 1 am).es.length) ct,.func (.func 192) #[] #[P0 p2,P0 q2],v2_,v3_,undef,undef,undef,undef,undef,undef,undef,undef,undef,undef,undef,undef,undef,undef,undef,undef,undef,undef,undef]
theorem Zev(Bi b:Nat)(pi:O0)(ni ci:Nat)(l:Bl)(top details data am:Int)(w:V1)(hI:ImgR Bi b pi ni ci l w)(hfu:am≤1000000)(Lg:V6 Dv)(hgood:Zcr l top details data am=([],0,Lg)) :
 C0 62 #[P0 b,V0 top,V0 details,V0 data,V0 am] w (LDevsP (Zcr l top details data am) w):=by
 obtain⟨av,z7,di,w3,ah⟩:=Zru hgood
 have dj:=(Mh l details 3 am hfu).1
 have ck:=(Mh l top 1 am hfu).1
 refine Jm Tryz.func62 rfl ?_
 refine Zzm ⟨#[P0 b,V0 top,V0 details,V0 data,V0 am,undef,undef,undef,undef,undef,undef,undef,undef,undef,undef,undef,undef,undef,undef,undef,undef,undef,undef,undef,undef,undef,undef,undef,undef,undef,undef,undef,undef,undef,undef,undef,undef,undef,undef,undef,undef,undef,undef,undef,undef,undef,undef,undef,undef,undef,undef,undef,undef,undef,undef,undef,undef,undef,undef,undef,undef,undef,undef,undef,undef,undef,undef,undef,undef,undef,undef,undef,undef,undef,undef,undef,undef,undef,undef,undef,undef,undef,undef,undef,undef,undef,undef,undef,undef,undef,undef,undef,undef,undef,undef,undef,undef],[]⟩ K0 ?_
 refine wp_seq ?_
 refine wp_region_lit ?_
 refine Jh K0 (Zc5 [V0 top] rfl K0 ?_)
 intro b1 W1 n1
 have hB:=n1.i
 have k1:=n1.blk
 refine Jh K0 (Zc5 [V0 details] rfl K0 ?_)
 intro b2 W2 n2
 replace hB:=bln hB n2.i
 replace k1:=k1.i n2.i
 have k2:=n2.blk
 refine Jh K0 (Jw [S1] rfl K0 ?_)
 intro b3 W3 n3
 have ch:=n3.ne k1
 have cb:=n3.ne k2
 have g3:=n3.ge hB
 replace hB:=bln hB n3.i
 replace k1:=k1.i n3.i
 replace k2:=k2.i n3.i
 have k3:=n3.blk
 refine Jh K0 (Jw [.nilIface] rfl K0 ?_)
 intro b4 W4 n4
 have cf:=n4.ne k1
 have cn:=n4.ne k2
 have n7:=n4.ne k3
 have g4:=n4.ge hB
 replace hB:=bln hB n4.i
 replace k1:=k1.i n4.i
 replace k2:=k2.i n4.i
 replace k3:=k3.i n4.i
 have k4:=n4.blk
 refine wpList_nil ?_
 refine wp_seq ?_
 refine wp_region_lit ?_
 refine Gg 1 [(24,P0 b)] K0 ?_
 refine Jh K0 (Qd ⟨b2,0,none⟩ (V0 details) rfl K0 K0 (k2.cell (i:=0) rfl) ?_)
 refine Gg 1 [(26,V0 am)] K0 ?_
 have dm:w.heap.size≤(W4).heap.size:=hB.size
 refine Jh K0 (Ks (lb:=#[]) 63 #[P0 b,V0 details,V0 3,V0 am] rfl K0 (fun _ _=>by kernel_rfl) K0 (((Gv Bi b pi ni ci l details 3 am _ hfu (hI.i hB)).mono (fun _ _ q=>q.resolve_left (fun z=>z.1 av))).mono ?_))
 rintro e W5 ⟨bn,pd,cd,i1,i8,j1,i9,j0,g1,i5,rfl,v0,hd⟩
 refine⟨_,rfl,?_⟩
 replace hB:=bln hB v0
 replace k1:=k1.i v0
 replace k2:=k2.i v0
 replace k3:=k3.i v0
 replace k4:=k4.i v0
 replace hd:=Zg hd dm
 refine Gg 3 [(23,.tuple #[.agg #[.slice pd ((Ze l details 3 am).es.length) cd,.slice i1 i8 j1,V0 i9,V0 j0,.slice g1 0 i5],.nilIface]),(28,.agg #[.slice pd ((Ze l details 3 am).es.length) cd,.slice i1 i8 j1,V0 i9,V0 j0,.slice g1 0 i5]),(29,.nilIface)] K0 ?_
 refine Jh K0 (Jw [S1,S1,V0 0,V0 0,S1] rfl K0 ?_)
 intro b6 W6 n6
 have u0:=n6.ne k1
 have x2:=n6.ne k2
 have w5:=n6.ne k3
 have u6:=n6.ne k4
 have g6:=n6.ge hB
 replace hB:=bln hB n6.i
 replace k1:=k1.i n6.i
 replace k2:=k2.i n6.i
 replace k3:=k3.i n6.i
 replace k4:=k4.i n6.i
 replace hd:=Zb hd n6.i
 have k6:=n6.blk
 refine Jh K0 (Ny (b:=b6) (off:=0) [.slice pd ((Ze l details 3 am).es.length) cd,.slice i1 i8 j1,V0 i9,V0 j0,.slice g1 0 i5] rfl K0 K0 K0 (by first|decide|simp[Value.oneCell']) k6 (by first|decide|simp) ?_)
 intro W7 u7 k7
 change Blk _ _ [.slice pd ((Ze l details 3 am).es.length) cd,.slice i1 i8 j1,V0 i9,V0 j0,.slice g1 0 i5] _ at k7
 replace hB:=u7.i hB g6
 replace k1:=u7.blk k1 u0
 replace k2:=u7.blk k2 x2
 replace k3:=u7.blk k3 w5
 replace k4:=u7.blk k4 u6
 replace hd:=u7.j hd k6 Do
 refine Gg 1 [(13,.nilIface)] K0 ?_
 refine wpList_nil ?_
 refine wp_seq ?_
 refine wp_seq ?_
 refine wp_region_lit ?_
 refine Gg 2 [(30,.nilIface),(31,.bool false)] K0 ?_
 refine wpList_nil ?_
 refine wp_cond_false K0 ?_
 refine wp_skip ?_
 refine wp_seq ?_
 refine wp_region_lit ?_
 refine Gg 1 [(34,P0 b)] K0 ?_
 refine Jh K0 (Qd ⟨b1,0,none⟩ (V0 top) rfl K0 K0 (k1.cell (i:=0) rfl) ?_)
 refine Gg 1 [(36,V0 am)] K0 ?_
 have dw:w.heap.size≤(W7).heap.size:=hB.size
 refine Jh K0 (Ks (lb:=#[]) 63 #[P0 b,V0 top,V0 1,V0 am] rfl K0 (fun _ _=>by kernel_rfl) K0 (((Gv Bi b pi ni ci l top 1 am _ hfu (hI.i hB)).mono (fun _ _ q=>q.resolve_left (fun z=>z.1 z7))).mono ?_))
 rintro e W8 ⟨aa,pt,ct,g2,i2,i7,g7,i6,g8,h0,rfl,m6,ht⟩
 refine⟨_,rfl,?_⟩
 replace hB:=bln hB m6
 replace k1:=k1.i m6
 replace k2:=k2.i m6
 replace k3:=k3.i m6
 replace k4:=k4.i m6
 replace k7:=k7.i m6
 replace hd:=Zb hd m6
 replace ht:=Zg ht dw
 refine Gg 3 [(33,.tuple #[.agg #[.slice pt ((Ze l top 1 am).es.length) ct,.slice g2 i2 i7,V0 g7,V0 i6,.slice g8 0 h0],.nilIface]),(38,.agg #[.slice pt ((Ze l top 1 am).es.length) ct,.slice g2 i2 i7,V0 g7,V0 i6,.slice g8 0 h0]),(39,.nilIface)] K0 ?_
 refine Jh K0 (Jw [S1,S1,V0 0,V0 0,S1] rfl K0 ?_)
 intro b9 W9 n9
 have v4:=n9.ne k1
 have x0:=n9.ne k2
 have t7:=n9.ne k3
 have u3:=n9.ne k4
 have w0:=n9.ne k7
 have g9:=n9.ge hB
 replace hB:=bln hB n9.i
 replace k1:=k1.i n9.i
 replace k2:=k2.i n9.i
 replace k3:=k3.i n9.i
 replace k4:=k4.i n9.i
 replace k7:=k7.i n9.i
 replace hd:=Zb hd n9.i
 replace ht:=Zb ht n9.i
 have k9:=n9.blk
 refine Jh K0 (Ny (b:=b9) (off:=0) [.slice pt ((Ze l top 1 am).es.length) ct,.slice g2 i2 i7,V0 g7,V0 i6,.slice g8 0 h0] rfl K0 K0 K0 (by first|decide|simp[Value.oneCell']) k9 (by first|decide|simp) ?_)
 intro er o0 t2
 change Blk _ _ [.slice pt ((Ze l top 1 am).es.length) ct,.slice g2 i2 i7,V0 g7,V0 i6,.slice g8 0 h0] _ at t2
 replace hB:=o0.i hB g9
 replace k1:=o0.blk k1 v4
 replace k2:=o0.blk k2 x0
 replace k3:=o0.blk k3 t7
 replace k4:=o0.blk k4 u3
 replace k7:=o0.blk k7 w0
 replace hd:=o0.j hd k9 Do
 replace ht:=o0.j ht k9 Do
 refine Gg 1 [(13,.nilIface)] K0 ?_
 refine wpList_nil ?_
 refine wp_seq ?_
 refine wp_seq ?_
 refine wp_region_lit ?_
 refine Gg 2 [(40,.nilIface),(41,.bool false)] K0 ?_
 refine wpList_nil ?_
 refine wp_cond_false K0 ?_
 refine wp_skip ?_
 refine wp_seq ?_
 refine wp_seq ?_
 refine wp_region_lit ?_
 refine Gg 1 [(43,P0 b6)] K0 ?_
 refine Jh K0 (Qd ⟨b6,0,none⟩ (.slice pd ((Ze l details 3 am).es.length) cd) rfl K0 K0 (k7.cell (i:=0) rfl) ?_)
 refine Gg 2 [(45,V0 (↑((Ze l details 3 am).es.length):Int)),(46,.bool (decide ((↑((Ze l details 3 am).es.length):Int)>(4096:Int))))] K0 ?_
 refine wpList_nil ?_
 refine wp_cond_split (t:=decide ((↑((Ze l details 3 am).es.length):Int)>(4096:Int))) K0 (fun hh=>absurd (hh.symm.trans (show(decide ((↑((Ze l details 3 am).es.length):Int)>(4096:Int)):Bool)=false from V9 M0)) Do) (fun _=>?_)
 refine wp_skip ?_
 refine wp_seq ?_
 refine wp_seq ?_
 refine wp_region_lit ?_
 refine Gg 1 [(49,P0 b6)] K0 ?_
 refine Jh K0 (Qd ⟨b6,0,none⟩ (.slice pd ((Ze l details 3 am).es.length) cd) rfl K0 K0 (k7.cell (i:=0) rfl) ?_)
 refine Gg 1 [(51,P0 b9)] K0 ?_
 refine Jh K0 (Qd ⟨b9,0,none⟩ (.slice pt ((Ze l top 1 am).es.length) ct) rfl K0 K0 (t2.cell (i:=0) rfl) ?_)
 have bl:=Zf hd
 have ai:=Zf ht
 have v7:=hB.size
 have ag:=k1.lt
 have ay:=k2.lt
 have aw:=k3.lt
 have aq:=k4.lt
 have az:=k7.lt
 have ar:=t2.lt
 refine Jh K0 (Ks (lb:=#[]) 123 #[.slice pd ((Ze l details 3 am).es.length) cd,.slice pt ((Ze l top 1 am).es.length) ct] rfl K0 (fun _ _=>by kernel_rfl) K0 ((Oc pd (Ze l details 3 am).es.length cd pt (Ze l top 1 am).es.length ct _).mono ?_))
 rintro e z5 ⟨p1,q1,rfl,d3,u8,w2,ap,t0,s9⟩
 refine⟨_,rfl,?_⟩
 replace hB:=bln hB d3
 replace k1:=k1.i d3
 replace k2:=k2.i d3
 replace k3:=k3.i d3
 replace k4:=k4.i d3
 replace k7:=k7.i d3
 replace t2:=t2.i d3
 replace hd:=Zb hd d3
 replace ht:=Zb ht d3
 refine wpList_nil ?_
 refine wp_block ?_
 obtain⟨l6,r3,l5,o8,bb,r0,s0⟩:=Zhu (A:=(Ze l details 3 am).es) (E:=(Ze l top 1 am).es) rfl rfl M0 M0 bl ai d3 u8 w2 ap t0 s9
 have s3:w.heap.size≤z5.heap.size:=hB.size
 have dl:w.heap.size≤p1:=N0 v7 u8
 have du:w.heap.size≤q1:=N0 v7 w2
 have w4:=t0.lt
 have v3:=s9.lt
 have bs:=hB
 have u5:=k1
 have u2:=k2
 have l2:=k3
 have l3:=k4
 have u4:=k7
 have w7:=t2
 have m9:=t0
 have n0:=s9
 have t3:=hd
 have t1:=ht
 have bd:∀ d,(fun d=>d=p1∨d=q1∨((Ze l details 3 am).es.length≠0∧d=l6)∨((Ze l top 1 am).es.length≠0∧d=l5)) d→d<z5.heap.size:=by
  rintro d (rfl|rfl|⟨h,rfl⟩|⟨h,rfl⟩)
  ·exact w4
  ·exact v3
  ·exact(t3.lt _ (by rw[r0 h];rfl)).2
  ·exact(t1.lt _ (by rw[s0 h];rfl)).2
 have db:∀ d,(fun d=>d=p1∨d=q1∨((Ze l details 3 am).es.length≠0∧d=l6)∨((Ze l top 1 am).es.length≠0∧d=l5)) d→d∉[b3,b4]:=by
  rintro d (rfl|rfl|⟨h,rfl⟩|⟨h,rfl⟩)<;>simp only[B6,C8,or_false]
  ·omega
  ·omega
  ·rintro(h9|h9)
   ·exact Xp t3 l2 Do _ (by rw[r0 h];rfl) h9
   ·exact Xp t3 l3 Do _ (by rw[r0 h];rfl) h9
  ·rintro(h9|h9)
   ·exact Xp t1 l2 Do _ (by rw[s0 h];rfl) h9
   ·exact Xp t1 l3 Do _ (by rw[s0 h];rfl) h9
 refine Zzm ⟨(dvF1 b top details data am b1 b2 b3 b4 b6 b9 pd l cd i1 i8 j1 i9 j0 g1 i5 pt ct g2 i2 i7 g7 i6 g8 h0 p1 q1 undef undef undef undef),[]⟩ K0 ?_
 refine Zik (g:=.tmp 53) (gf:=192) (lb:=#[P0 p1,P0 q1]) rfl (enters_of Tryz.func192 K0 rfl) (fun d=>d=p1∨d=q1∨((Ze l details 3 am).es.length≠0∧d=l6)∨((Ze l top 1 am).es.length≠0∧d=l5)) (fun d=>d=p1∨d=q1) bd (fun d h=>h.elim (fun q=>q▸w4) (fun q=>q▸v3)) bb (fun _=>rfl)
  (fun i V=>B3 w V∧Fr [p1,q1] z5 V∧((Xu 0 0 (Ze l details 3 am).es (Ze l top 1 am).es).take i).all Zjn=true)
  (fun c i V=>False) ?own (fun c k A B bj h hg hr=>h) ?start
  (fun x=>{ tmps:=(dvF1 b top details data am b1 b2 b3 b4 b6 b9 pd l cd i1 i8 j1 i9 j0 g1 i5 pt ct g2 i2 i7 g7 i6 g8 h0 p1 q1 (Il l6 r3 x.1) (Il l5 o8 x.2) (Il l6 r3 x.1) (Il l5 o8 x.2)),defers:=[] }) ?assign ?body ?done ?stop
 case own =>
  exact fun k A B bj h hg hr=>⟨Zeq h.1 hg hr (At _) s3 (fun r q=>by rcases q with rfl|rfl;exact dl;exact du),fr_ab h.2.1 hg hr (fun r h=>by rcases h with rfl|rfl<;>simp),h.2.2⟩
 case start =>
  exact⟨bs,Fr.refl _ _,Y5⟩
 case assign =>
  intro lr i x W K hx hK
  refine Zwq { tmps:=(dvF1 b top details data am b1 b2 b3 b4 b6 b9 pd l cd i1 i8 j1 i9 j0 g1 i5 pt ct g2 i2 i7 g7 i6 g8 h0 p1 q1 undef undef (Il l6 r3 x.1) (Il l5 o8 x.2)),defers:=[] } K0 ?_
  refine wpIn_seq ?_
  refine Lq (fun⟨_,_,q⟩=>q) Y5 ?_
  refine Gg 1 [(15,(Il l6 r3 x.1))] K0 ?_
  refine wpList_nil ?_
  refine Lq (fun⟨_,_,q⟩=>q) Y5 ?_
  refine Gg 1 [(16,(Il l5 o8 x.2))] K0 ?_
  refine wpList_nil ?_
  exact hK
 case body =>
  rintro lr i x W dh hx ⟨t4,hF,x9⟩
  obtain⟨xa,xb⟩:=x
  rcases xa with _|ja<;>rcases xb with _|jb
  ·
   exact absurd ((Ln _ _ 0 0 i _ x9 hx rfl).trans rfl) w3
  ·
   exact absurd ((Ln _ _ 0 0 i _ x9 hx rfl).trans rfl) w3
  ·
   exact absurd ((Ln _ _ 0 0 i _ x9 hx rfl).trans rfl) ah
  ·
   have e7:w.heap.size≤W.heap.size:=N0 s3 hF.size
   have hZ:RdS z5 [b3,b4] W W:=RdS.refl _ hF.size
   refine Zwq { tmps:=(dvF1 b top details data am b1 b2 b3 b4 b6 b9 pd l cd i1 i8 j1 i9 j0 g1 i5 pt ct g2 i2 i7 g7 i6 g8 h0 p1 q1 (.pointer (some ⟨l6,r3+3*ja,none⟩)) (.pointer (some ⟨l5,o8+3*jb,none⟩)) (.pointer (some ⟨l6,r3+3*ja,none⟩)) (.pointer (some ⟨l5,o8+3*jb,none⟩))),defers:=[] } rfl ?_
   refine wpIn_block ?_
   refine wpIn_block ?_
   refine wpIn_seq ?_
   refine Lq (fun⟨_,_,q⟩=>q) Y5 ?_
   refine Gg 3 [(57,.pointer (some ⟨l6,r3+3*ja,none⟩)),(58,.bool false),(56,.bool false)] K0 ?_
   refine wpList_nil ?_
   refine wpIn_cond_false K0 ?_
   refine wpIn_seq ?_
   refine Lq (fun⟨_,_,q⟩=>q) Y5 ?_
   refine Gg 3 [(62,.pointer (some ⟨l5,o8+3*jb,none⟩)),(63,.bool false),(61,.bool false)] K0 ?_
   refine wpList_nil ?_
   refine wpIn_cond_false K0 ?_
   refine wpIn_skip ?_
   exact⟨KeepsFrom.refl _ _,Keeps.refl _ _,t4,hF,Zfx x9 hx rfl⟩
 case stop =>
  intro D c k V hD hk hF
  exact hF.elim
 case done =>
  rintro D1 W9 da ⟨cz,m7,q3⟩ u9
  have hK:Dfr D1 W9:=u9;clear u9
  rw[L4] at q3
  have t9:=q3
  have z0:=(Iw _ _ 0 0 q3).1
  have ek:=(Zrj z0).1
  have a7:=u5.fr m7 (by simp only[B6,C8,or_false];omega)
  have a8:=u2.fr m7 (by simp only[B6,C8,or_false];omega)
  have a3:=l2.fr m7 (by simp only[B6,C8,or_false];omega)
  have a4:=l3.fr m7 (by simp only[B6,C8,or_false];omega)
  have a5:=u4.fr m7 (by simp only[B6,C8,or_false];omega)
  have a6:=w7.fr m7 (by simp only[B6,C8,or_false];omega)
  have i3:=Ot t3 m7 (fun d hd=>by simp only[B6,C8,or_false];rintro(h|h);exact Xp t3 m9 Do d hd h;exact Xp t3 n0 Do d hd h)
  have i4:=Ot t1 m7 (fun d hd=>by simp only[B6,C8,or_false];rintro(h|h);exact Xp t1 m9 Do d hd h;exact Xp t1 n0 Do d hd h)
  replace hB:=cz
  refine wp_seq ?_
  refine wp_region_lit ?_
  refine Gg 4 [(66,P0 b),(67,V0 data),(68,V0 am),(69,.agg #[P0 b,V0 data,V0 am,V0 0])] K0 ?_
  refine Jh K0 (Zc5 [P0 b,V0 data,V0 am,V0 0] rfl K0 ?_)
  intro c0 ec e3
  have s7:=e3.ne a7
  have o7:=e3.ne a8
  have r1:=e3.ne a3
  have p5:=e3.ne a4
  have s4:=e3.ne a5
  have r4:=e3.ne a6
  have dc:=e3.ge hB
  replace hB:=bln hB e3.i
  replace a7:=a7.i e3.i
  replace a8:=a8.i e3.i
  replace a3:=a3.i e3.i
  replace a4:=a4.i e3.i
  replace a5:=a5.i e3.i
  replace a6:=a6.i e3.i
  replace i3:=Zb i3 e3.i
  replace i4:=Zb i4 e3.i
  replace hK:=hK.i e3.i
  have g0:=e3.blk
  refine Jh K0 (Jw [.pointer none] rfl K0 ?_)
  intro m8 eo d5
  have q0:=d5.ne a7
  have q9:=d5.ne a8
  have p6:=d5.ne a3
  have p0:=d5.ne a4
  have o5:=d5.ne a5
  have r7:=d5.ne a6
  have f2:=d5.ne g0
  have dd:=d5.ge hB
  replace hB:=bln hB d5.i
  replace a7:=a7.i d5.i
  replace a8:=a8.i d5.i
  replace a3:=a3.i d5.i
  replace a4:=a4.i d5.i
  replace a5:=a5.i d5.i
  replace a6:=a6.i d5.i
  replace g0:=g0.i d5.i
  replace i3:=Zb i3 d5.i
  replace i4:=Zb i4 d5.i
  replace hK:=hK.i d5.i
  have y6:=d5.blk
  refine Jh K0 (Kk (v:=P0 c0) (b:=m8) (off:=0) rfl K0 K0 K0 rfl y6 (by first|decide|simp) ?_)
  intro en k5 o2
  change Blk _ _ [P0 c0] _ at o2
  replace hB:=k5.i hB dd
  replace a7:=k5.blk a7 q0
  replace a8:=k5.blk a8 q9
  replace a3:=k5.blk a3 p6
  replace a4:=k5.blk a4 p0
  replace a5:=k5.blk a5 o5
  replace a6:=k5.blk a6 r7
  replace g0:=k5.blk g0 f2
  replace i3:=k5.j i3 y6 Do
  replace i4:=k5.j i4 y6 Do
  replace hK:=hK.I k5 y6
  refine wpList_nil ?_
  refine wp_seq ?_
  refine wp_region_lit ?_
  refine Jh K0 (Jw [S1] rfl K0 ?_)
  intro c5 ep d0
  have p9:=d0.ne a7
  have o6:=d0.ne a8
  have d8:=d0.ne a3
  have e1:=d0.ne a4
  have q8:=d0.ne a5
  have r2:=d0.ne a6
  have f3:=d0.ne g0
  have d9:=d0.ne o2
  have bw:=d0.ge hB
  replace hB:=bln hB d0.i
  replace a7:=a7.i d0.i
  replace a8:=a8.i d0.i
  replace a3:=a3.i d0.i
  replace a4:=a4.i d0.i
  replace a5:=a5.i d0.i
  replace a6:=a6.i d0.i
  replace g0:=g0.i d0.i
  replace o2:=o2.i d0.i
  replace i3:=Zb i3 d0.i
  replace i4:=Zb i4 d0.i
  replace hK:=hK.i d0.i
  have v6:=d0.blk
  refine wpList_nil ?_
  refine wp_seq ?_
  refine wp_seq ?_
  refine wp_region_lit ?_
  refine Gg 1 [(71,P0 b6)] K0 ?_
  refine Jh K0 (Qd ⟨b6,0,none⟩ (.slice pd ((Ze l details 3 am).es.length) cd) rfl K0 K0 (a5.cell (i:=0) rfl) ?_)
  refine Gg 1 [(73,P0 b9)] K0 ?_
  refine Jh K0 (Qd ⟨b9,0,none⟩ (.slice pt ((Ze l top 1 am).es.length) ct) rfl K0 K0 (a6.cell (i:=0) rfl) ?_)
  have ao:=Zf i3
  have bp:=Zf i4
  have v8:=hB.size
  have bm:=a3.lt
  have bk:=a4.lt
  have y1:=g0.lt
  have x5:=o2.lt
  have y4:=v6.lt
  refine Jh K0 (Ks (lb:=#[]) 123 #[.slice pd ((Ze l details 3 am).es.length) cd,.slice pt ((Ze l top 1 am).es.length) ct] rfl K0 (fun _ _=>by kernel_rfl) K0 ((Oc pd (Ze l details 3 am).es.length cd pt (Ze l top 1 am).es.length ct _).mono ?_))
  rintro e q4 ⟨p2,q2,rfl,b0,w8,w9,bf,r8,q6⟩
  refine⟨_,rfl,?_⟩
  replace hB:=bln hB b0
  replace a7:=a7.i b0
  replace a8:=a8.i b0
  replace a3:=a3.i b0
  replace a4:=a4.i b0
  replace a5:=a5.i b0
  replace a6:=a6.i b0
  replace g0:=g0.i b0
  replace o2:=o2.i b0
  replace v6:=v6.i b0
  replace i3:=Zb i3 b0
  replace i4:=Zb i4 b0
  replace hK:=hK.i b0
  refine wpList_nil ?_
  refine wp_block ?_
  obtain⟨s2,z6,p7,y3,aj,f9,f8⟩:=Zhu (A:=(Ze l details 3 am).es) (E:=(Ze l top 1 am).es) rfl rfl M0 M0 ao bp b0 w8 w9 bf r8 q6
  have e6:w.heap.size≤q4.heap.size:=hB.size
  have dt:w.heap.size≤p2:=N0 v8 w8
  have df:w.heap.size≤q2:=N0 v8 w9
  have l9:=r8.lt
  have m5:=q6.lt
  have br:=hB
  have d7:=a3
  have d6:=a4
  have c3:=g0
  have p4:=o2
  have c6:=v6
  have j8:=r8
  have j2:=q6
  have l8:=i3
  have l7:=i4
  have cl:w.heap.size≤c0:=dc
  have y9:b1≠c0:=s7
  have x4:b1≠c5:=p9
  have z3:b2≠c0:=o7
  have y2:b2≠c5:=o6
  have e9:b3≠c0:=r1
  have f4:b3≠c5:=d8
  have f0:b4≠c0:=p5
  have f5:b4≠c5:=e1
  have x3:b6≠c0:=s4
  have z4:b6≠c5:=q8
  have x6:b9≠c0:=r4
  have y7:b9≠c5:=r2
  have k0:m8≠c0:=(S4 f2)
  have j4:m8≠c5:=d9
  have de:c0≠p2:=M0
  have dg:c0≠q2:=M0
  have ds:c5≠p2:=M0
  have dq:c5≠q2:=M0
  have p8:∀ d,(fun d=>d=p2∨d=q2∨((Ze l details 3 am).es.length≠0∧d=s2)∨((Ze l top 1 am).es.length≠0∧d=p7)) d→d<q4.heap.size:=by
   rintro d (rfl|rfl|⟨h,rfl⟩|⟨h,rfl⟩)
   ·exact l9
   ·exact m5
   ·exact(l8.lt _ (by rw[f9 h];rfl)).2
   ·exact(l7.lt _ (by rw[f8 h];rfl)).2
  have w6:∀ d,(fun d=>d=p2∨d=q2∨((Ze l details 3 am).es.length≠0∧d=s2)∨((Ze l top 1 am).es.length≠0∧d=p7)) d→d∉[b3,b4,c0,c5]:=by
   rintro d (rfl|rfl|⟨h,rfl⟩|⟨h,rfl⟩)<;>simp only[B6,C8,or_false]
   ·omega
   ·omega
   ·rintro(h9|h9|h9|h9)
    ·exact Xp l8 d7 Do _ (by rw[f9 h];rfl) h9
    ·exact Xp l8 d6 Do _ (by rw[f9 h];rfl) h9
    ·exact Xp l8 c3 Do _ (by rw[f9 h];rfl) h9
    ·exact Xp l8 c6 Do _ (by rw[f9 h];rfl) h9
   ·rintro(h9|h9|h9|h9)
    ·exact Xp l7 d7 Do _ (by rw[f8 h];rfl) h9
    ·exact Xp l7 d6 Do _ (by rw[f8 h];rfl) h9
    ·exact Xp l7 c3 Do _ (by rw[f8 h];rfl) h9
    ·exact Xp l7 c6 Do _ (by rw[f8 h];rfl) h9
  have ae:D1<q4.heap.size:=(Array.getElem?_eq_some_iff.1 hK).1
  have dr:D1∉[p2,q2,c0,c5]:=by simp only[B6,C8,or_false];rintro(h9|h9|h9|h9);exact(hK.ne j8) h9.symm;exact(hK.ne j2) h9.symm;exact(hK.ne c3) h9.symm;exact(hK.ne c6) h9.symm
  have dn:=hK
  refine Zzm ⟨(dvF2 b top details data am b1 b2 b3 b4 b6 b9 m8 c5 pd l cd i1 i8 j1 i9 j0 g1 i5 pt ct g2 i2 i7 g7 i6 g8 h0 p1 q1 c0 p2 q2 undef undef undef undef),[{ target:=.collected D1,args:=#[] }]⟩ K0 ?_
  refine Zik (g:=.tmp 75) (gf:=192) (lb:=#[P0 p2,P0 q2]) rfl (enters_of Tryz.func192 K0 rfl) (fun d=>d=p2∨d=q2∨((Ze l details 3 am).es.length≠0∧d=s2)∨((Ze l top 1 am).es.length≠0∧d=p7)) (fun d=>d=p2∨d=q2) p8 (fun d h=>h.elim (fun q=>q▸l9) (fun q=>q▸m5)) aj (fun _=>rfl)
   (fun i V=>B3 w V∧Fr [p2,q2,c0,c5] q4 V∧Blk V c0 [P0 b,V0 data,V0 am,V0 (↑(Zww l (Ze l top 1 am).es data am i):Int)] 216∧(Zww l (Ze l top 1 am).es data am i)≤16384∧devK l (Ze l details 3 am).es (Ze l top 1 am).es data am i∧∃ (p:O0) (c:Nat) (Z:V6 Zv),Blk V c5 [.slice p i c] 22∧V.ownsRow q4.heap.size 32 5 (.slice p i c) i (Z.flatMap Zg5)∧Ys q4.heap.size V Z∧Z.length=i∧Z.map fst=devL l (Ze l details 3 am).es (Ze l top 1 am).es data am i)
   (fun c i V=>False) ?own (fun c k A B bj h hg hr=>h) ?start
   (fun x=>{ tmps:=(dvF2 b top details data am b1 b2 b3 b4 b6 b9 m8 c5 pd l cd i1 i8 j1 i9 j0 g1 i5 pt ct g2 i2 i7 g7 i6 g8 h0 p1 q1 c0 p2 q2 (Il s2 z6 x.1) (Il p7 y3 x.2) (Il s2 z6 x.1) (Il p7 y3 x.2)),defers:=[] }) ?assign ?body ?done ?stop
  case own =>
   rintro k A B bj ⟨h1,h2,h3,h4,h5,p,c,Z,h6,h7,h8,h9,cy⟩ hg hr
   exact⟨Zeq h1 hg hr (At _) e6 (fun r q=>by rcases q with rfl|rfl;exact dt;exact df),fr_ab h2 hg hr (fun r h=>by rcases h with rfl|rfl<;>simp),Zhm h3 hg hr (fun r q=>by rcases q with rfl|rfl;exact de;exact dg),h4,h5,p,c,Z,Zhm h6 hg hr (fun r q=>by rcases q with rfl|rfl;exact ds;exact dq),Zup h7 hg hr (fun r q=>by rcases q with rfl|rfl;exact l9;exact m5),h8.ab hg hr (fun r q=>by rcases q with rfl|rfl;exact l9;exact m5),h9,cy⟩
  case start =>
   exact⟨br,Fr.refl _ _,g0,A5 _,fun j hj=>absurd hj M0,none,0,[],v6,A8 _ _ _ _,Ys.nil _ _,rfl,rfl⟩
  case assign =>
   intro lr i x W K hx hK
   refine Zwq { tmps:=(dvF2 b top details data am b1 b2 b3 b4 b6 b9 m8 c5 pd l cd i1 i8 j1 i9 j0 g1 i5 pt ct g2 i2 i7 g7 i6 g8 h0 p1 q1 c0 p2 q2 undef undef (Il s2 z6 x.1) (Il p7 y3 x.2)),defers:=[] } K0 ?_
   refine wpIn_seq ?_
   refine Lq (fun⟨_,_,q⟩=>q) Y5 ?_
   refine Gg 1 [(19,(Il s2 z6 x.1))] K0 ?_
   refine wpList_nil ?_
   refine Lq (fun⟨_,_,q⟩=>q) Y5 ?_
   refine Gg 1 [(20,(Il p7 y3 x.2))] K0 ?_
   refine wpList_nil ?_
   exact hK
  case body =>
   rintro lr i x W dh hx ⟨t4,hF,kl,bt,q7,p,cp,Z,k8,ho,a9,v5,t6⟩
   obtain⟨ej,rfl⟩:=(Zec t9).2 _ _ hx
   have e7:w.heap.size≤W.heap.size:=N0 e6 hF.size
   have hZ:RdS q4 [b3,b4,c0,c5] W W:=RdS.refl _ hF.size
   have a1:=d7.fr hF (by simp only[B6,C8,or_false];rintro(h|h|h|h);omega;omega;exact e9 h;exact f4 h)
   have a2:=d6.fr hF (by simp only[B6,C8,or_false];rintro(h|h|h|h);omega;omega;exact f0 h;exact f5 h)
   have a0:=p4.fr hF (by simp only[B6,C8,or_false];rintro(h|h|h|h);omega;omega;exact k0 h;exact j4 h)
   have ea:=Znx (i:=i) (f9 M0)
   have eb:=Znx (i:=i) (f8 M0)
   refine Zwq { tmps:=(dvF2 b top details data am b1 b2 b3 b4 b6 b9 m8 c5 pd l cd i1 i8 j1 i9 j0 g1 i5 pt ct g2 i2 i7 g7 i6 g8 h0 p1 q1 c0 p2 q2 (.pointer (some (Zx pd (i*3)))) (.pointer (some (Zx pt (i*3)))) (.pointer (some (Zx pd (i*3)))) (.pointer (some (Zx pt (i*3))))),defers:=[] } (by simp only[ea,eb]) ?_
   have b8:=Ot l8 hF (fun d hd=>by simp only[B6,C8,or_false];rintro(h|h|h|h);exact Xp l8 j8 Do d hd h;exact Xp l8 j2 Do d hd h;exact Xp l8 c3 Do d hd h;exact Xp l8 c6 Do d hd h)
   have b7:=Ot l7 hF (fun d hd=>by simp only[B6,C8,or_false];rintro(h|h|h|h);exact Xp l7 j8 Do d hd h;exact Xp l7 j2 Do d hd h;exact Xp l7 c3 Do d hd h;exact Xp l7 c6 Do d hd h)
   refine wpIn_block ?_
   refine wpIn_seq ?_
   have hB:=blB (U3 w.heap.size W) e7 (Za W)
   replace a1:=a1.i (Za W)
   replace a2:=a2.i (Za W)
   replace kl:=kl.i (Za W)
   replace a0:=a0.i (Za W)
   replace k8:=k8.i (Za W)
   replace hZ:=hZ.i (Za W)
   replace b8:=Zb b8 (Za W)
   replace b7:=Zb b7 (Za W)
   replace ho:=Zb ho (Za W)
   replace a9:=a9.i (Za W)
   refine Zvr (fun V=>Below w.heap.size (W.drew) V∧Zd [216] (W.drew) V) 14 rfl #[false,false,false,false,false,false,false,false,false,false,false,false,false,false] rfl K0 (fun⟨_,_,q⟩=>q) Y5 ⟨U3 _ _,Zd.refl _ _⟩ ?_
   intro d2
   have n5:=hB
   have x7:=a1
   have x8:=a2
   have t8:=kl
   have l1:=a0
   have v1:=k8
   have r6:=b8
   have s8:=b7
   refine h_load 0 13 rfl ⟨m8,0,none⟩ (P0 c0) rfl K0 K0 K0 (fun _ _ _ _ _ h=>h) K0 rfl K0 K0 (fun V hV=>((l1.q hV.2 Do).cell (i:=0) rfl)) d2 ?_
   refine Zwv [1,2] 11 rfl #[true,true,true,false,false,false,false,false,false,false,false,false,false,false] [(80,.pointer (some (Zx pd (i*3)))),(81,.pointer (some (Zx pd (i*3))))] K0 (fun _ _ _ _ _ h=>h) K0 d2 ?_
   refine h_val 3 10 rfl (.agg #[V0 (((Ze l details 3 am).es.getD i Zn).1),.string ⟨(((Ze l details 3 am).es.getD i Zn).2.1).toArray⟩,V0 (((Ze l details 3 am).es.getD i Zn).2.2)]) rfl K0 K0 K0 (fun _ _ _ _ _ h=>h) K0 (fun V hV=>Zd3 (k:=i) Qg Zn _ rfl K0 (Zf (Zi r6 hV.2 Do)) M0 Do Tryz.underlying124 rfl K0) d2 ?_
   refine Zwv [4,5] 8 rfl #[true,true,true,true,true,true,false,false,false,false,false,false,false,false] [(83,.pointer (some (Zx pt (i*3)))),(84,.pointer (some (Zx pt (i*3))))] K0 (fun _ _ _ _ _ h=>h) K0 d2 ?_
   refine h_val 6 7 rfl (.agg #[V0 (((Ze l top 1 am).es.getD i Zn).1),.string ⟨(((Ze l top 1 am).es.getD i Zn).2.1).toArray⟩,V0 (((Ze l top 1 am).es.getD i Zn).2.2)]) rfl K0 K0 K0 (fun _ _ _ _ _ h=>h) K0 (fun V hV=>Zd3 (k:=i) Qg Zn _ rfl K0 (Zf (Zi s8 hV.2 Do)) M0 Do Tryz.underlying124 rfl K0) d2 ?_
   refine Zu0 7 11 6 rfl K0 rfl rfl K0 K0 ?_ ?_
   ·have bi:=kl
    have bc:=N0 hF.size hZ.le
    have bg:∀ h:(Ik l ((Ze l details 3 am).es.getD i Zn) ((Ze l top 1 am).es.getD i Zn) data am (Zww l (Ze l top 1 am).es data am i)).2≠0,False:=fun j3=>by have e:=(Fn bn aa M0 z0).trans (Zi1 (i:=i) M0 q7 j3);rw[hgood] at e;exact j3 (congrArg (fun z=>z.2.1) e).symm
    refine Ks (lb:=#[]) 124 #[P0 c0,.agg #[V0 (((Ze l details 3 am).es.getD i Zn).1),.string ⟨(((Ze l details 3 am).es.getD i Zn).2.1).toArray⟩,V0 (((Ze l details 3 am).es.getD i Zn).2.2)],.agg #[V0 (((Ze l top 1 am).es.getD i Zn).1),.string ⟨(((Ze l top 1 am).es.getD i Zn).2.1).toArray⟩,V0 (((Ze l top 1 am).es.getD i Zn).2.2)]] rfl K0 (fun _ _=>by kernel_rfl) K0 (((Zb0 w.heap.size Bi c0 b pi ni ci l data am (Zww l (Ze l top 1 am).es data am i) ((Ze l details 3 am).es.getD i Zn) ((Ze l top 1 am).es.getD i Zn) _ (hI.i (t4.trans hB)) kl hfu (He _ _ _ _ i M0) (He _ _ _ _ i M0) bt cl (N0 e7 hB.size)).mono (fun _ _ q=>q.resolve_left (fun z=>bg z.1))).mono ?_)
    rintro e cq ⟨j3,pm,cm,rfl,w1,e0,ba,b5,c1⟩
    refine⟨_,rfl,?_⟩
    replace hB:=hB.trans w1
    replace a1:=a1.q e0 Do
    replace a2:=a2.q e0 Do
    replace a0:=a0.q e0 Do
    replace k8:=k8.q e0 Do
    replace hZ:=hZ.j4 ba bi Y5
    replace b8:=Zi b8 e0 Do
    replace b7:=Zi b7 e0 Do
    replace ho:=Zi ho e0 Do
    replace a9:=a9.q e0 Do
    replace c1:=Zg c1 bc
    have j6:Below w.heap.size (W.drew) (cq)∧Zd [216] (W.drew) (cq):=⟨d2.1.trans w1,d2.2.trans e0⟩
    refine⟨j6,?_⟩
    refine Zwv [8,9,10] 3 rfl #[true,true,true,true,true,true,true,true,true,true,true,false,false,false] [(78,.tuple #[.agg #[V0 (((Ze l details 3 am).es.getD i Zn).1),V0 (↑(Kn ((Ze l details 3 am).es.getD i Zn).2.1 1):Int),V0 (↑(Kn ((Ze l details 3 am).es.getD i Zn).2.1 2):Int),V0 (↑(Kn ((Ze l details 3 am).es.getD i Zn).2.1 3):Int),.slice pm ((ownO l ((Ze l top 1 am).es.getD i Zn) data am).2.2.length) cm],.nilIface]),(87,.agg #[V0 (((Ze l details 3 am).es.getD i Zn).1),V0 (↑(Kn ((Ze l details 3 am).es.getD i Zn).2.1 1):Int),V0 (↑(Kn ((Ze l details 3 am).es.getD i Zn).2.1 2):Int),V0 (↑(Kn ((Ze l details 3 am).es.getD i Zn).2.1 3):Int),.slice pm ((ownO l ((Ze l top 1 am).es.getD i Zn) data am).2.2.length) cm]),(88,.nilIface)] K0 (fun _ _ _ _ _ h=>h) K0 j6 ?_
    refine Wa 11 2 rfl K0 rfl K0 (Jw [V0 0,V0 0,V0 0,V0 0,S1] rfl K0 ?_)
    intro ax cu c7
    have s5:=c7.ne a1
    have r9:=c7.ne a2
    have m1:=c7.ne b5
    have m3:=c7.ne a0
    have f7:=c7.ne k8
    have cw:=c7.Q hB
    have j7:=Hg ho c7
    have j5:(W.drew).heap.size≤ax:=by have:=j6.1.size;have:=c7.at_;omega
    replace hB:=blB hB e7 c7.i
    replace a1:=a1.i c7.i
    replace a2:=a2.i c7.i
    replace b5:=b5.i c7.i
    replace a0:=a0.i c7.i
    replace k8:=k8.i c7.i
    replace hZ:=hZ.i c7.i
    replace b8:=Zb b8 c7.i
    replace b7:=Zb b7 c7.i
    replace ho:=Zb ho c7.i
    replace a9:=a9.i c7.i
    replace c1:=Zb c1 c7.i
    have t5:=c7.blk
    have r5:Below w.heap.size (W.drew) (cu)∧Zd [216] (W.drew) (cu):=⟨blB j6.1 (N0 e7 n5.size) c7.i,j6.2.trans (Q0 c7.i)⟩
    refine⟨r5,?_⟩
    refine Wa 12 1 rfl K0 rfl K0 (Ny (b:=ax) (off:=0) [V0 (((Ze l details 3 am).es.getD i Zn).1),V0 (↑(Kn ((Ze l details 3 am).es.getD i Zn).2.1 1):Int),V0 (↑(Kn ((Ze l details 3 am).es.getD i Zn).2.1 2):Int),V0 (↑(Kn ((Ze l details 3 am).es.getD i Zn).2.1 3):Int),.slice pm ((ownO l ((Ze l top 1 am).es.getD i Zn) data am).2.2.length) cm] rfl K0 K0 K0 (by first|decide|simp[Value.oneCell']) t5 (by first|decide|simp) ?_)
    intro bu f6 o3
    change Blk _ _ [V0 (((Ze l details 3 am).es.getD i Zn).1),V0 (↑(Kn ((Ze l details 3 am).es.getD i Zn).2.1 1):Int),V0 (↑(Kn ((Ze l details 3 am).es.getD i Zn).2.1 2):Int),V0 (↑(Kn ((Ze l details 3 am).es.getD i Zn).2.1 3):Int),.slice pm ((ownO l ((Ze l top 1 am).es.getD i Zn) data am).2.2.length) cm] _ at o3
    replace hB:=f6.i hB (N0 e7 cw)
    replace a1:=f6.blk a1 s5
    replace a2:=f6.blk a2 r9
    replace b5:=f6.blk b5 m1
    replace a0:=f6.blk a0 m3
    replace k8:=f6.blk k8 f7
    replace hZ:=hZ.I f6 t5 (.inr (N0 hF.size j5))
    replace b8:=f6.j b8 t5 Do
    replace b7:=f6.j b7 t5 Do
    replace ho:=f6.O ho j7
    replace a9:=a9.q (Q1 (T:=[32]) f6 t5 Do) Do
    replace c1:=f6.j c1 t5 Do
    have x1:Below w.heap.size (W.drew) (bu)∧Zd [216] (W.drew) (bu):=⟨f6.i r5.1 (N0 e7 cw),Q3 r5.2 f6 j5⟩
    refine⟨x1,?_⟩
    refine Zwv [13] 0 rfl #[true,true,true,true,true,true,true,true,true,true,true,true,true,true] [(22,.nilIface)] K0 (fun _ _ _ _ _ h=>h) K0 x1 ?_
    refine Te _ K0 ?_
    refine wpIn_seq ?_
    refine wpIn_seq ?_
    refine Lq (fun⟨_,_,q⟩=>q) Y5 ?_
    refine Gg 2 [(89,.nilIface),(90,.bool false)] K0 ?_
    refine wpList_nil ?_
    refine wpIn_cond_false K0 ?_
    refine wpIn_skip ?_
    refine Lq (fun⟨_,_,q⟩=>q) Y5 ?_
    refine Jh K0 (Qd ⟨c5,0,none⟩ (.slice p i cp) rfl K0 K0 (k8.cell (i:=0) rfl) ?_)
    refine Jh K0 (Ay (b:=ax) (off:=0) [V0 (((Ze l details 3 am).es.getD i Zn).1),V0 (↑(Kn ((Ze l details 3 am).es.getD i Zn).2.1 1):Int),V0 (↑(Kn ((Ze l details 3 am).es.getD i Zn).2.1 2):Int),V0 (↑(Kn ((Ze l details 3 am).es.getD i Zn).2.1 3):Int),.slice pm ((ownO l ((Ze l top 1 am).es.getD i Zn) data am).2.2.length) cm] _ rfl K0 Tryz.underlying32 rfl K0 o3.b0 ?_)
    refine Jh K0 (Yl 32 [V0 (((Ze l details 3 am).es.getD i Zn).1),V0 (↑(Kn ((Ze l details 3 am).es.getD i Zn).2.1 1):Int),V0 (↑(Kn ((Ze l details 3 am).es.getD i Zn).2.1 2):Int),V0 (↑(Kn ((Ze l details 3 am).es.getD i Zn).2.1 3):Int),.slice pm ((ownO l ((Ze l top 1 am).es.getD i Zn) data am).2.2.length) cm] rfl K0 ?_)
    intro eg eq e2
    have ac:=e2.ne a1
    have au:=e2.ne a2
    have y0:=e2.ne b5
    have y5:=e2.ne k8
    replace hB:=blB hB e7 e2.i
    replace a1:=a1.i e2.i
    replace a2:=a2.i e2.i
    replace b5:=b5.i e2.i
    replace a0:=a0.i e2.i
    replace k8:=k8.i e2.i
    replace o3:=o3.i e2.i
    replace hZ:=hZ.i e2.i
    replace b8:=Zb b8 e2.i
    replace b7:=Zb b7 e2.i
    replace ho:=Zb ho e2.i
    replace a9:=a9.i e2.i
    replace c1:=Zb c1 e2.i
    have dv:=e2.blk
    refine Jh K0 (Xd (e:=32) (n:=i) (xs:=(Z.flatMap Zg5)) (m:=1) (news:=[V0 (((Ze l details 3 am).es.getD i Zn).1),V0 (↑(Kn ((Ze l details 3 am).es.getD i Zn).2.1 1):Int),V0 (↑(Kn ((Ze l details 3 am).es.getD i Zn).2.1 2):Int),V0 (↑(Kn ((Ze l details 3 am).es.getD i Zn).2.1 3):Int),.slice pm ((ownO l ((Ze l top 1 am).es.getD i Zn) data am).2.2.length) cm]) (.agg #[V0 0,V0 0,V0 0,V0 0,S1]) 5 56 (i+1) (((Z++[(devX l ((Ze l details 3 am).es.getD i Zn) ((Ze l top 1 am).es.getD i Zn) data am,pm,cm)]).flatMap Zg5)) rfl Tryz.underlying22 K0 rfl Do K0 ho K0 (dv.sl 1 1 Do Do) rfl Y4 Y2 M0 (N0 hZ.l0 hZ.le) (rfl) (by rw[C7];rfl) ?_)
    intro cj cv ee z9 c4 z8
    replace a1:=a1.grown c4 ho Do
    replace a2:=a2.grown c4 ho Do
    replace b5:=b5.grown c4 ho Do
    replace a0:=a0.grown c4 ho Do
    replace k8:=k8.grown c4 ho Do
    replace o3:=o3.b3 c4 j7
    replace hZ:=hZ.grown c4 ho
    replace b8:=Zt b8 c4 ho Do
    replace b7:=Zt b7 c4 ho Do
    replace a9:=a9.q (Q4 (T:=[32]) c4 ho Do) Do
    replace c1:=Zt c1 c4 ho Do
    replace hB:=hB.trans (z8.mono e6)
    refine Jh K0 (Kk (v:=.slice cj (i+1) cv) (b:=c5) (off:=0) rfl K0 K0 K0 rfl k8 (by first|decide|simp) ?_)
    intro ed i0 bz
    change Blk _ _ [.slice cj (i+1) cv] _ at bz
    replace hB:=i0.i hB bw
    replace a1:=i0.blk a1 d8
    replace a2:=i0.blk a2 e1
    replace b5:=i0.blk b5 f3
    replace a0:=i0.blk a0 d9
    replace o3:=i0.blk o3 (S4 f7)
    replace hZ:=hZ.I i0 k8 (.inl Y5)
    replace b8:=i0.j b8 k8 Do
    replace b7:=i0.j b7 k8 Do
    replace a9:=a9.q (Q1 (T:=[22]) i0 k8 Do) Do
    replace c1:=i0.j c1 k8 Do
    replace z9:=i0.j z9 k8 Do
    refine wpList_nil ?_
    exact⟨hZ.ko.from _,⟨hZ.le,fun d hd=>hZ.fr d (p8 d hd) (w6 d hd)⟩,t4.trans hB,Zui hF hZ (fun k hk=>by simp only[B6,C8,or_false] at hk ⊢;rcases hk with rfl|rfl|rfl|rfl;exact .inr ((show _=_ from a1).trans (show _=_ from d7).symm);exact .inr ((show _=_ from a2).trans (show _=_ from d6).symm);exact .inl Y5;exact .inl Y5),b5,Zv2 j3,Zh3 q7 j3,_,_,_,bz,z9,(a9.a8 (d:=devX l ((Ze l details 3 am).es.getD i Zn) ((Ze l top 1 am).es.getD i Zn) data am) rfl c1),by simp[v5],by rw[A6,t6,Zhv];rfl⟩
   ·refine Jw [V0 0,V0 0,V0 0,V0 0,S1] rfl K0 ?_
    intro af cx c9
    have p3:=c9.ne a1
    have q5:=c9.ne a2
    have m0:=c9.ne kl
    have m4:=c9.ne a0
    have e8:=c9.ne k8
    have co:=c9.Q hB
    have l4:=Hg ho c9
    have j9:(W.drew).heap.size≤af:=by have:=d2.1.size;have:=c9.at_;omega
    replace hB:=blB hB e7 c9.i
    replace a1:=a1.i c9.i
    replace a2:=a2.i c9.i
    replace kl:=kl.i c9.i
    replace a0:=a0.i c9.i
    replace k8:=k8.i c9.i
    replace hZ:=hZ.i c9.i
    replace b8:=Zb b8 c9.i
    replace b7:=Zb b7 c9.i
    replace ho:=Zb ho c9.i
    replace a9:=a9.i c9.i
    have o1:=c9.blk
    have s6:Below w.heap.size (W.drew) (cx)∧Zd [216] (W.drew) (cx):=⟨blB d2.1 (N0 e7 n5.size) c9.i,d2.2.trans (Q0 c9.i)⟩
    refine⟨s6,?_⟩
    have bi:=kl
    have bc:=N0 hF.size hZ.le
    have bg:∀ h:(Ik l ((Ze l details 3 am).es.getD i Zn) ((Ze l top 1 am).es.getD i Zn) data am (Zww l (Ze l top 1 am).es data am i)).2≠0,False:=fun j3=>by have e:=(Fn bn aa M0 z0).trans (Zi1 (i:=i) M0 q7 j3);rw[hgood] at e;exact j3 (congrArg (fun z=>z.2.1) e).symm
    refine Wa 7 5 rfl K0 rfl K0 (Ks (lb:=#[]) 124 #[P0 c0,.agg #[V0 (((Ze l details 3 am).es.getD i Zn).1),.string ⟨(((Ze l details 3 am).es.getD i Zn).2.1).toArray⟩,V0 (((Ze l details 3 am).es.getD i Zn).2.2)],.agg #[V0 (((Ze l top 1 am).es.getD i Zn).1),.string ⟨(((Ze l top 1 am).es.getD i Zn).2.1).toArray⟩,V0 (((Ze l top 1 am).es.getD i Zn).2.2)]] rfl K0 (fun _ _=>by kernel_rfl) K0 (((Zb0 w.heap.size Bi c0 b pi ni ci l data am (Zww l (Ze l top 1 am).es data am i) ((Ze l details 3 am).es.getD i Zn) ((Ze l top 1 am).es.getD i Zn) _ (hI.i (t4.trans hB)) kl hfu (He _ _ _ _ i M0) (He _ _ _ _ i M0) bt cl (N0 e7 hB.size)).mono (fun _ _ q=>q.resolve_left (fun z=>bg z.1))).mono ?_))
    rintro e cr ⟨j3,pm,cm,rfl,v2,d4,ad,d1,c1⟩
    refine⟨_,rfl,?_⟩
    replace hB:=hB.trans v2
    replace a1:=a1.q d4 Do
    replace a2:=a2.q d4 Do
    replace a0:=a0.q d4 Do
    replace k8:=k8.q d4 Do
    replace o1:=o1.q d4 Do
    replace hZ:=hZ.j4 ad bi Y5
    replace b8:=Zi b8 d4 Do
    replace b7:=Zi b7 d4 Do
    replace ho:=Zi ho d4 Do
    replace a9:=a9.q d4 Do
    replace c1:=Zg c1 bc
    have m2:Below w.heap.size (W.drew) (cr)∧Zd [216] (W.drew) (cr):=⟨s6.1.trans v2,s6.2.trans d4⟩
    refine⟨m2,?_⟩
    refine Zwv [8,9,10] 2 rfl #[true,true,true,true,true,true,true,true,true,true,true,true,false,false] [(78,.tuple #[.agg #[V0 (((Ze l details 3 am).es.getD i Zn).1),V0 (↑(Kn ((Ze l details 3 am).es.getD i Zn).2.1 1):Int),V0 (↑(Kn ((Ze l details 3 am).es.getD i Zn).2.1 2):Int),V0 (↑(Kn ((Ze l details 3 am).es.getD i Zn).2.1 3):Int),.slice pm ((ownO l ((Ze l top 1 am).es.getD i Zn) data am).2.2.length) cm],.nilIface]),(87,.agg #[V0 (((Ze l details 3 am).es.getD i Zn).1),V0 (↑(Kn ((Ze l details 3 am).es.getD i Zn).2.1 1):Int),V0 (↑(Kn ((Ze l details 3 am).es.getD i Zn).2.1 2):Int),V0 (↑(Kn ((Ze l details 3 am).es.getD i Zn).2.1 3):Int),.slice pm ((ownO l ((Ze l top 1 am).es.getD i Zn) data am).2.2.length) cm]),(88,.nilIface)] K0 (fun _ _ _ _ _ h=>h) K0 m2 ?_
    refine Wa 12 1 rfl K0 rfl K0 (Ny (b:=af) (off:=0) [V0 (((Ze l details 3 am).es.getD i Zn).1),V0 (↑(Kn ((Ze l details 3 am).es.getD i Zn).2.1 1):Int),V0 (↑(Kn ((Ze l details 3 am).es.getD i Zn).2.1 2):Int),V0 (↑(Kn ((Ze l details 3 am).es.getD i Zn).2.1 3):Int),.slice pm ((ownO l ((Ze l top 1 am).es.getD i Zn) data am).2.2.length) cm] rfl K0 K0 K0 (by first|decide|simp[Value.oneCell']) o1 (by first|decide|simp) ?_)
    intro ca f1 n8
    change Blk _ _ [V0 (((Ze l details 3 am).es.getD i Zn).1),V0 (↑(Kn ((Ze l details 3 am).es.getD i Zn).2.1 1):Int),V0 (↑(Kn ((Ze l details 3 am).es.getD i Zn).2.1 2):Int),V0 (↑(Kn ((Ze l details 3 am).es.getD i Zn).2.1 3):Int),.slice pm ((ownO l ((Ze l top 1 am).es.getD i Zn) data am).2.2.length) cm] _ at n8
    replace hB:=f1.i hB (N0 e7 co)
    replace a1:=f1.blk a1 p3
    replace a2:=f1.blk a2 q5
    replace d1:=f1.blk d1 m0
    replace a0:=f1.blk a0 m4
    replace k8:=f1.blk k8 e8
    replace hZ:=hZ.I f1 o1 (.inr (N0 hF.size j9))
    replace b8:=f1.j b8 o1 Do
    replace b7:=f1.j b7 o1 Do
    replace ho:=f1.O ho l4
    replace a9:=a9.q (Q1 (T:=[32]) f1 o1 Do) Do
    replace c1:=f1.j c1 o1 Do
    have u1:Below w.heap.size (W.drew) (ca)∧Zd [216] (W.drew) (ca):=⟨f1.i m2.1 (N0 e7 co),Q3 m2.2 f1 j9⟩
    refine⟨u1,?_⟩
    refine Zwv [13] 0 rfl #[true,true,true,true,true,true,true,true,true,true,true,true,true,true] [(22,.nilIface)] K0 (fun _ _ _ _ _ h=>h) K0 u1 ?_
    refine Te _ K0 ?_
    refine wpIn_seq ?_
    refine wpIn_seq ?_
    refine Lq (fun⟨_,_,q⟩=>q) Y5 ?_
    refine Gg 2 [(89,.nilIface),(90,.bool false)] K0 ?_
    refine wpList_nil ?_
    refine wpIn_cond_false K0 ?_
    refine wpIn_skip ?_
    refine Lq (fun⟨_,_,q⟩=>q) Y5 ?_
    refine Jh K0 (Qd ⟨c5,0,none⟩ (.slice p i cp) rfl K0 K0 (k8.cell (i:=0) rfl) ?_)
    refine Jh K0 (Ay (b:=af) (off:=0) [V0 (((Ze l details 3 am).es.getD i Zn).1),V0 (↑(Kn ((Ze l details 3 am).es.getD i Zn).2.1 1):Int),V0 (↑(Kn ((Ze l details 3 am).es.getD i Zn).2.1 2):Int),V0 (↑(Kn ((Ze l details 3 am).es.getD i Zn).2.1 3):Int),.slice pm ((ownO l ((Ze l top 1 am).es.getD i Zn) data am).2.2.length) cm] _ rfl K0 Tryz.underlying32 rfl K0 n8.b0 ?_)
    refine Jh K0 (Yl 32 [V0 (((Ze l details 3 am).es.getD i Zn).1),V0 (↑(Kn ((Ze l details 3 am).es.getD i Zn).2.1 1):Int),V0 (↑(Kn ((Ze l details 3 am).es.getD i Zn).2.1 2):Int),V0 (↑(Kn ((Ze l details 3 am).es.getD i Zn).2.1 3):Int),.slice pm ((ownO l ((Ze l top 1 am).es.getD i Zn) data am).2.2.length) cm] rfl K0 ?_)
    intro ei el e4
    have bq:=e4.ne a1
    have ak:=e4.ne a2
    have z2:=e4.ne d1
    have z1:=e4.ne k8
    replace hB:=blB hB e7 e4.i
    replace a1:=a1.i e4.i
    replace a2:=a2.i e4.i
    replace d1:=d1.i e4.i
    replace a0:=a0.i e4.i
    replace k8:=k8.i e4.i
    replace n8:=n8.i e4.i
    replace hZ:=hZ.i e4.i
    replace b8:=Zb b8 e4.i
    replace b7:=Zb b7 e4.i
    replace ho:=Zb ho e4.i
    replace a9:=a9.i e4.i
    replace c1:=Zb c1 e4.i
    have dk:=e4.blk
    refine Jh K0 (Xd (e:=32) (n:=i) (xs:=(Z.flatMap Zg5)) (m:=1) (news:=[V0 (((Ze l details 3 am).es.getD i Zn).1),V0 (↑(Kn ((Ze l details 3 am).es.getD i Zn).2.1 1):Int),V0 (↑(Kn ((Ze l details 3 am).es.getD i Zn).2.1 2):Int),V0 (↑(Kn ((Ze l details 3 am).es.getD i Zn).2.1 3):Int),.slice pm ((ownO l ((Ze l top 1 am).es.getD i Zn) data am).2.2.length) cm]) (.agg #[V0 0,V0 0,V0 0,V0 0,S1]) 5 56 (i+1) (((Z++[(devX l ((Ze l details 3 am).es.getD i Zn) ((Ze l top 1 am).es.getD i Zn) data am,pm,cm)]).flatMap Zg5)) rfl Tryz.underlying22 K0 rfl Do K0 ho K0 (dk.sl 1 1 Do Do) rfl Y4 Y2 M0 (N0 hZ.l0 hZ.le) (rfl) (by rw[C7];rfl) ?_)
    intro cg cc em al c8 bo
    replace a1:=a1.grown c8 ho Do
    replace a2:=a2.grown c8 ho Do
    replace d1:=d1.grown c8 ho Do
    replace a0:=a0.grown c8 ho Do
    replace k8:=k8.grown c8 ho Do
    replace n8:=n8.b3 c8 l4
    replace hZ:=hZ.grown c8 ho
    replace b8:=Zt b8 c8 ho Do
    replace b7:=Zt b7 c8 ho Do
    replace a9:=a9.q (Q4 (T:=[32]) c8 ho Do) Do
    replace c1:=Zt c1 c8 ho Do
    replace hB:=hB.trans (bo.mono e6)
    refine Jh K0 (Kk (v:=.slice cg (i+1) cc) (b:=c5) (off:=0) rfl K0 K0 K0 rfl k8 (by first|decide|simp) ?_)
    intro dy g5 bx
    change Blk _ _ [.slice cg (i+1) cc] _ at bx
    replace hB:=g5.i hB bw
    replace a1:=g5.blk a1 d8
    replace a2:=g5.blk a2 e1
    replace d1:=g5.blk d1 f3
    replace a0:=g5.blk a0 d9
    replace n8:=g5.blk n8 (S4 e8)
    replace hZ:=hZ.I g5 k8 (.inl Y5)
    replace b8:=g5.j b8 k8 Do
    replace b7:=g5.j b7 k8 Do
    replace a9:=a9.q (Q1 (T:=[22]) g5 k8 Do) Do
    replace c1:=g5.j c1 k8 Do
    replace al:=g5.j al k8 Do
    refine wpList_nil ?_
    exact⟨hZ.ko.from _,⟨hZ.le,fun d hd=>hZ.fr d (p8 d hd) (w6 d hd)⟩,t4.trans hB,Zui hF hZ (fun k hk=>by simp only[B6,C8,or_false] at hk ⊢;rcases hk with rfl|rfl|rfl|rfl;exact .inr ((show _=_ from a1).trans (show _=_ from d7).symm);exact .inr ((show _=_ from a2).trans (show _=_ from d6).symm);exact .inl Y5;exact .inl Y5),d1,Zv2 j3,Zh3 q7 j3,_,_,_,bx,al,(a9.a8 (d:=devX l ((Ze l details 3 am).es.getD i Zn) ((Ze l top 1 am).es.getD i Zn) data am) rfl c1),by simp[v5],by rw[A6,t6,Zhv];rfl⟩
  case stop =>
   intro D c k V hD hk hF
   exact hF.elim
  case done =>
   rintro D2 W8 dp ⟨m6,bh,eh,bt,q7,p,cp,Z,k8,ho,a9,v5,t6⟩ u9
   have o9:Dfr D2 W8:=u9;clear u9
   have hK:Dfr D1 W8:=(bh.block D1 ae dr).trans dn
   have v9:D1≠D2:=M0
   rw[(Zec t9).1] at q7 k8 ho v5 t6
   have e5:=d7.fr bh (by simp only[B6,C8,or_false];rintro(h|h|h|h);omega;omega;exact e9 h;exact f4 h)
   have c2:=d6.fr bh (by simp only[B6,C8,or_false];rintro(h|h|h|h);omega;omega;exact f0 h;exact f5 h)
   replace hB:=m6
   refine wp_seq ?_
   refine wp_region_lit ?_
   refine Jh K0 (Qd ⟨c5,0,none⟩ (.slice p ((Ze l details 3 am).es.length) cp) rfl K0 K0 (k8.cell (i:=0) rfl) ?_)
   refine Jh K0 (Kk (v:=.slice p ((Ze l details 3 am).es.length) cp) (b:=b3) (off:=0) rfl K0 K0 K0 rfl e5 (by first|decide|simp) ?_)
   intro dz s1 y8
   change Blk _ _ [.slice p ((Ze l details 3 am).es.length) cp] _ at y8
   replace hB:=s1.i hB g3
   replace c2:=s1.blk c2 (S4 n7)
   replace k8:=s1.blk k8 (S4 d8)
   replace ho:=s1.j ho e5 Do
   replace a9:=a9.q (Q1 (T:=[22]) s1 e5 Do) Do
   replace hK:=hK.I s1 e5
   replace o9:=o9.I s1 e5
   refine Jh K0 (Kk (v:=.nilIface) (b:=b4) (off:=0) rfl K0 K0 K0 rfl c2 (by first|decide|simp) ?_)
   intro ef o4 cs
   change Blk _ _ [.nilIface] _ at cs
   replace hB:=o4.i hB g4
   replace y8:=o4.blk y8 n7
   replace k8:=o4.blk k8 (S4 e1)
   replace ho:=o4.j ho c2 Do
   replace a9:=a9.q (Q1 (T:=[39]) o4 c2 Do) Do
   replace hK:=hK.I o4 c2
   replace o9:=o9.I o4 c2
   refine wpList_nil ?_
   have ce:=hK.put v9 (.deferred none)
   refine wp_ret ?_
   refine ret2 y8 cs hK o9 v9 (resLD (.inl rfl) K0 K0) rfl ?_
   refine ldevs_ok ((Fn bn aa M0 z0).trans (Zm5 q7)) v5 t6 (Znb (Znb hB hB.size (N0 e6 dp) _) (by simpa [World.putObj] using hB.size) (N0 s3 da) _) ((((a9.mono e6).pt o9 _).pt ce _)) (Zye (Zye (Zg ho e6) o9 _) ce _)
def M24:Bl:=Tr Mo [50331652] 1
def eM:V6 Ent:=[(7,M24,0)]
def Rz(O:V6 Int×Int×V6 Dv)(V:V1)(p:O0)(c:Nat)(Z:V6 Zv):Prop:=Z.length=O.2.2.length∧Z.map fst=O.2.2∧Ys 0 V Z∧V.ownsRow 0 32 5 (.slice p O.2.2.length c) O.2.2.length (Z.flatMap Zg5)
theorem Rz.i{O:V6 Int×Int×V6 Dv}{V W:V1}{p:O0}{c:Nat}{Z:V6 Zv}(h:Rz O V p c Z)(hb:Below V.heap.size V W):Rz O W p c Z:=⟨h.1,h.2.1,h.2.2.1.i hb,Zb h.2.2.2 hb⟩
theorem Rz.q{O:V6 Int×Int×V6 Dv}{V W:V1}{p:O0}{c:Nat}{Z:V6 Zv}{T:V6 V3}(h:Rz O V p c Z)(hO:Zd T V W)(hT:(T.contains 63||T.contains 32)=false):Rz O W p c Z:=by
 rw[K5] at hT;exact⟨h.1,h.2.1,h.2.2.1.q hO hT.1,Zi h.2.2.2 hO hT.2⟩
theorem Rz.read{O:V6 Int×Int×V6 Dv}{V:V1}{p:O0}{c:Nat}{Z:V6 Zv}(h:Rz O V p c Z):DevsR V p c Z:=by
 have ho:=h.2.2.2;rw[←h.1] at ho;exact Zxl h.2.2.1 ho
theorem devsQ_of{O:V6 Int×Int×V6 Dv}{V:V1}{B:Nat}{p:O0}{c:Nat}{Z:V6 Zv}(hZ:Z.map fst=O.2.2)(hM:Ys B V Z)(ho:V.ownsRow B 32 5 (.slice p O.2.2.length c) O.2.2.length (Z.flatMap Zg5)):Rz O V p c Z:=by
 have hl:Z.length=O.2.2.length:=by rw[←hZ,A3]
 exact⟨hl,hZ,hM.mono (A5 _),Zg ho (A5 _)⟩
theorem Zen(Bi b:Nat)(pi:O0)(ni ci:Nat)(l:Bl)(top details data am:Int)(w:V1)(hI:ImgR Bi b pi ni ci l w)(hfu:am≤1000000)(Lg:V6 Dv)(hgood:Zcr l top details data am=([],0,Lg)) :
 C0 62 #[P0 b,V0 top,V0 details,V0 data,V0 am] w (Kd (fun w' r=>∃ p c Z,r=.tuple #[.slice p Lg.length c,.nilIface]∧Rz ([],0,Lg) w' p c Z) w):=by
 refine(Zev Bi b pi ni ci l top details data am w hI hfu Lg hgood).mono ?_
 rintro e W q
 rw[hgood] at q
 rcases q with ⟨q,_⟩|⟨_,p,c,Z,rfl,hb,hZ,hM,ho⟩
 ·exact absurd rfl q
 ·exact⟨_,rfl,hb,p,c,Z,rfl,devsQ_of hZ hM ho⟩
theorem Zrv(Bi b:Nat)(pi:O0)(ni ci:Nat)(l:Bl)(am:Int)(w:V1)(hI:ImgR Bi b pi ni ci l w)(hfu:am≤1000000)(Lg:V6 Dv)(hse:Yt l=0)(hgood:(Zcr l (Zh (inB l 0)).top (Zh (inB l 0)).details (Zh (inB l 0)).data am)=([],0,Lg)) :
 C0 23 #[P0 b,V0 am] w (Kd (fun w' r=>∃ p c Z,r=.tuple #[.agg #[V0 (Zh (inB l 0)).tx,V0 (Zh (inB l 0)).time,V0 (Zh (inB l 0)).unit,V0 (Zh (inB l 0)).data,.slice p Lg.length c],.agg #[V0 (((Zh (inB l 0))).tx),V0 (((Zh (inB l 0))).time),V0 (((Zh (inB l 0))).unit),V0 (((Zh (inB l 0))).data),V0 (((Zh (inB l 0))).blocks),V0 (((Zh (inB l 0))).top),V0 (((Zh (inB l 0))).details),V0 (((Zh (inB l 0))).D),V0 (((Zh (inB l 0))).G),V0 (((Zh (inB l 0))).E),V0 (((Zh (inB l 0))).H)],.nilIface]∧Rz ([],0,Lg) w' p c Z) w):=by
 refine zin 48 Tryz.func23 ?_
 refine xa 2 [V0 0,V0 0,V0 0,V0 0,S1] 24 fun b1 W1 n1=>?_
 refine xa 0 [V0 0,V0 0,V0 0,V0 0,V0 0,V0 0,V0 0,V0 0,V0 0,V0 0,V0 0] 54 fun b2 W2 n2=>?_
 have hB:=bln n1.i n2.i
 refine xc 6 (args:=#[P0 b]) ((Zj7 Bi b pi ni ci l _ (hI.i hB)).mono (fun _ _ q=>Or.resolve_left q (fun z=>z.1 hse))) ?_
 rintro _ W3 ⟨_,rfl,a9⟩
 refine xa 3 [V0 0,V0 0,V0 0,V0 0,V0 0,V0 0,V0 0,V0 0,V0 0,V0 0,V0 0] 54 fun b4 W4 n4=>?_
 have k2:=n2.blk.i a9
 have a1:=n4.ne k2
 have a4:=bln hB a9
 have g4:=n4.ge a4
 refine xsv 0 n4.blk [V0 (((Zh (inB l 0))).tx),V0 (((Zh (inB l 0))).time),V0 (((Zh (inB l 0))).unit),V0 (((Zh (inB l 0))).data),V0 (((Zh (inB l 0))).blocks),V0 (((Zh (inB l 0))).top),V0 (((Zh (inB l 0))).details),V0 (((Zh (inB l 0))).D),V0 (((Zh (inB l 0))).G),V0 (((Zh (inB l 0))).E),V0 (((Zh (inB l 0))).H)] fun W5 u5 k5=>?_
 refine xb 17 5 k5 ?_
 refine xb 1 6 k5 ?_
 refine xb 1 3 k5 ?_
 have a3:=u5.i (bln a4 n4.i) g4
 refine xc 1 (Zen Bi b pi ni ci l (Zh (inB l 0)).top (Zh (inB l 0)).details (Zh (inB l 0)).data am _ (hI.i a3) hfu Lg hgood) ?_
 rintro _ W6 ⟨_,rfl,a6,p9,c9,Z9,rfl,b0⟩
 refine xd 18 (.f w.heap.size [b1,b2]) ?_
 have a0:=(k5.i a6).i (Za W6)
 have k1:=((u5.A (((n1.blk.i n2.i).i a9).i n4.i) n4.blk Do).i a6).i (Za W6)
 refine xlt (.e [0] 1) (.f w.heap.size [b1,b2]) (fun V hV=>(a0.fr hV.2 (by simp only[B6,C8,or_false];rintro(h|h);exact(J0 a0 k1 Do) h;exact(S4 a1) h)).cell (i:=0) rfl) ?_
 refine xlt (.e [2] 3) (.f w.heap.size [b1,b2]) (fun V hV=>(a0.fr hV.2 (by simp only[B6,C8,or_false];rintro(h|h);exact(J0 a0 k1 Do) h;exact(S4 a1) h)).cell (i:=1) rfl) ?_
 refine xlt (.e [4] 5) (.f w.heap.size [b1,b2]) (fun V hV=>(a0.fr hV.2 (by simp only[B6,C8,or_false];rintro(h|h);exact(J0 a0 k1 Do) h;exact(S4 a1) h)).cell (i:=2) rfl) ?_
 refine xlt (.e [6] 7) (.f w.heap.size [b1,b2]) (fun V hV=>(a0.fr hV.2 (by simp only[B6,C8,or_false];rintro(h|h);exact(J0 a0 k1 Do) h;exact(S4 a1) h)).cell (i:=3) rfl) ?_
 refine xlvt (.e [8,9] 10) (.f w.heap.size [b1,b2]) (fun V hV=>(a0.fr hV.2 (by simp only[B6,C8,or_false];rintro(h|h);exact(J0 a0 k1 Do) h;exact(S4 a1) h)).rp) ?_
 have g1:=n1.ge (B4 w)
 refine ysv (.o [] 11) k1 [V0 (((Zh (inB l 0))).tx),V0 (((Zh (inB l 0))).time),V0 (((Zh (inB l 0))).unit),V0 (((Zh (inB l 0))).data),.slice p9 Lg.length c9] (.f w.heap.size [b1,b2]) fun W7 u7 k7=>⟨(Zwt u7 g1 Y5),?_⟩
 have a2:=u7.A (((u5.blk (k2.i n4.i) a1).i a6).i (Za W6)) k1 Do
 have g2:=n2.ge n1.i
 refine ysv (.o [] 12) a2 [V0 (((Zh (inB l 0))).tx),V0 (((Zh (inB l 0))).time),V0 (((Zh (inB l 0))).unit),V0 (((Zh (inB l 0))).data),V0 (((Zh (inB l 0))).blocks),V0 (((Zh (inB l 0))).top),V0 (((Zh (inB l 0))).details),V0 (((Zh (inB l 0))).D),V0 (((Zh (inB l 0))).G),V0 (((Zh (inB l 0))).E),V0 (((Zh (inB l 0))).H)] (.f w.heap.size [b1,b2]) fun W8 u8 k8=>⟨(Zwt u8 g2 Y5),?_⟩
 have a5:=((b0.i (Za W6)).q (Q1 (T:=[24]) u7 k1 Do) Do).q (Q1 (T:=[54]) u8 a2 Do) Do
 have a8:=u8.i (u7.i (bln (bln a3 a6) (Za W6)) g1) g2
 have a7:=u8.A k7 a2 Do
 exact xecm (.r [13] 3) [(b1,[V0 (((Zh (inB l 0))).tx),V0 (((Zh (inB l 0))).time),V0 (((Zh (inB l 0))).unit),V0 (((Zh (inB l 0))).data),.slice p9 Lg.length c9]),(b2,[V0 (((Zh (inB l 0))).tx),V0 (((Zh (inB l 0))).time),V0 (((Zh (inB l 0))).unit),V0 (((Zh (inB l 0))).data),V0 (((Zh (inB l 0))).blocks),V0 (((Zh (inB l 0))).top),V0 (((Zh (inB l 0))).details),V0 (((Zh (inB l 0))).D),V0 (((Zh (inB l 0))).G),V0 (((Zh (inB l 0))).E),V0 (((Zh (inB l 0))).H)])] ⟨⟨_,a7⟩,⟨_,k8⟩,trivial⟩ (.tuple #[.agg #[V0 (((Zh (inB l 0))).tx),V0 (((Zh (inB l 0))).time),V0 (((Zh (inB l 0))).unit),V0 (((Zh (inB l 0))).data),.slice p9 Lg.length c9],.agg #[V0 (((Zh (inB l 0))).tx),V0 (((Zh (inB l 0))).time),V0 (((Zh (inB l 0))).unit),V0 (((Zh (inB l 0))).data),V0 (((Zh (inB l 0))).blocks),V0 (((Zh (inB l 0))).top),V0 (((Zh (inB l 0))).details),V0 (((Zh (inB l 0))).D),V0 (((Zh (inB l 0))).G),V0 (((Zh (inB l 0))).E),V0 (((Zh (inB l 0))).H)],.nilIface]) ⟨_,rfl,a8,_,_,_,rfl,a5⟩
theorem Zlp(Bi b:Nat)(pi:O0)(ni ci:Nat)(l:Bl)(it over n am:Int)(m:Nat)(L:V6 Int)(w:V1)(hI:ImgR Bi b pi ni ci l w)(hn:n≤1099511627776)(hfu:am≤1000000)(hO:Ah l it over n am=([],0,L))(hm:L.length=m) :
 C0 24 #[P0 b,V0 it,V0 over,V0 n,V0 am] w (Kd (fun w' r=>∃ p c,r=.tuple #[.slice p m c,.nilIface]∧w'.ownsRow w.heap.size 3 1 (.slice p m c) m (L.map V0)) w):=by
 subst hm
 refine(Zo7 Bi b pi ni ci l it over n am w hI hn hfu).mono ?_
 rintro e W q
 rw[hO] at q
 rcases q with ⟨h,_⟩|⟨h,p,c,rfl,hb,ho⟩
 ·exact absurd rfl h
 ·exact⟨_,rfl,hb,p,c,rfl,ho⟩
theorem Zjs(Bi b:Nat)(pi:O0)(ni ci:Nat)(l:Bl)(it over n am:Int)(m:Nat)(L:V6 Int)(w:V1)(hI:ImgR Bi b pi ni ci l w)(hn:n≤1099511627776)(hfu:am≤1000000)(hO:Zcc l it over n am=([],0,L))(hm:L.length=m) :
 C0 25 #[P0 b,V0 it,V0 over,V0 n,V0 am] w (Kd (fun w' r=>∃ p c,r=.tuple #[.slice p m c,.nilIface]∧w'.ownsRow w.heap.size 3 1 (.slice p m c) m (L.map V0)) w):=by
 subst hm
 refine(Zrx Bi b pi ni ci l it over n am w hI hn hfu).mono ?_
 rintro e W q
 rw[hO] at q
 rcases q with ⟨h,_⟩|⟨h,p,c,rfl,hb,ho⟩
 ·exact absurd rfl h
 ·exact⟨_,rfl,hb,p,c,rfl,ho⟩
theorem Zf0(a b:O0)(ca cb:Nat)(L:V6 Mp)(w:V1)(ha:Sts Cu w (.slice a L.length ca) L)(hb:Sts Cu w (.slice b L.length cb) L) :
 C0 80 #[.slice a L.length ca,.slice b L.length cb] w (Ret (.bool true) w):=by
 have a5:=Sl.len ha
 refine zin 26 Tryz.func80 ?_
 refine xk 15 (show(((L.length:Int) != (L.length:Int)):Bool)=false from by simp) ?_
 have hB:=U3 w.heap.size w
 refine zl 11 26 (fun zm a2 V=>∃ (i:Nat),a2=[(0,.slice a L.length ca),(1,.slice b L.length cb),(12,V0 (L.length:Int)),(13,V0 (i:Int))]∧zm=L.length-((i:Int)).toNat∧B3 w V∧i≤L.length) ⟨0,rfl,rfl,hB,A5 _⟩ ?_
 rintro _ _ W1 ⟨i,rfl,rfl,a1,hi⟩ J1 a3 r1
 refine xid 6 ((i:Int)<(L.length:Int)) (fun a4=>?_) (fun a4=>?_)
 ·refine xd 11 .z ?_
  refine xx (.e [0,1] 2) _ L.length i 3 (Sts.cell ha Jv mpD (k:=i) (i:=0) M0 rfl).1 ?_
  have a0:=bln a1 (Za W1)
  refine xlv (.e [] 3) (Sts.rp (k:=i) (ha.i a0) Jv mpD M0 Do) ?_
  refine xx (.e [4,5] 6) _ L.length i 3 (Sts.cell hb Jv mpD (k:=i) (i:=0) M0 rfl).1 ?_
  refine xlv (.e [] 7) (Sts.rp (k:=i) (hb.i a0) Jv mpD M0 Do) ?_
  refine xbo (.e [] 8) (t:=63) (t2:=63) (fun _ _ _ _ zo zx zy V hV=>Zvb (L.getD i mpD) zo zx zy V) ?_
  refine xwm 7 ((i:Int)+1) (↑(i+1):Int) ?_
  exact ze 2 (a3 _ _ _ ⟨i+1,rfl,rfl,a0,M0⟩ M0)
 exact xe 11 (.bool true) ⟨rfl,a1⟩
theorem Zoz(a b:O0)(ca cb:Nat)(d:Dv)(w:V1)(ha:Sts Cu w (.slice a d.2.length ca) d.2)(hb:Sts Cu w (.slice b d.2.length cb) d.2) :
 C0 32 #[.agg #[V0 d.1.1,V0 d.1.2.1,V0 d.1.2.2.1,V0 d.1.2.2.2,.slice a d.2.length ca],.agg #[V0 d.1.1,V0 d.1.2.1,V0 d.1.2.2.1,V0 d.1.2.2.2,.slice b d.2.length cb]] w (Ret (.bool true) w):=by
 refine zin 38 Tryz.func32 ?_
 refine xa 2 [V0 d.1.1,V0 d.1.2.1,V0 d.1.2.2.1,V0 d.1.2.2.2,.slice a d.2.length ca] 32 fun b1 W1 n1=>?_
 refine xa 0 [V0 d.1.1,V0 d.1.2.1,V0 d.1.2.2.1,V0 d.1.2.2.2,.slice b d.2.length cb] 32 fun b2 W2 n2=>?_
 have a0:=n1.blk.i n2.i
 refine xb 6 0 a0 ?_
 refine xb 1 0 n2.blk ?_
 refine xgk 2 [9,10] (show((d.1.1==d.1.1):Bool)=true from by simp) ?_
 refine xb 1 1 a0 ?_
 refine xb 1 1 n2.blk ?_
 refine xgk 3 [15,16,17] (show((d.1.2.1==d.1.2.1):Bool)=true from by simp) ?_
 refine xb 1 2 a0 ?_
 refine xb 1 2 n2.blk ?_
 refine xgk 3 [22,23,24] (show((d.1.2.2.1==d.1.2.2.1):Bool)=true from by simp) ?_
 refine xb 1 3 a0 ?_
 refine xb 1 3 n2.blk ?_
 refine xgk 3 [29,30,31] (show((d.1.2.2.2==d.1.2.2.2):Bool)=true from by simp) ?_
 refine xb 1 4 a0 ?_
 refine xb 1 4 n2.blk ?_
 have hB:=bln n1.i n2.i
 refine xr 0 (Zf0 a b ca cb d.2 _ (ha.i hB) (hb.i hB)) fun W7 a2=>?_
 have a1:=bln hB a2
 exact xe 5 (.bool true) ⟨rfl,a1⟩
theorem Zlw(a b:O0)(ca cb:Nat)(d e:Dv)(w:V1)(h:d=e)(ha:Sts Cu w (.slice a d.2.length ca) d.2)(hb:Sts Cu w (.slice b e.2.length cb) e.2) :
 C0 32 #[.agg #[V0 d.1.1,V0 d.1.2.1,V0 d.1.2.2.1,V0 d.1.2.2.2,.slice a d.2.length ca],.agg #[V0 e.1.1,V0 e.1.2.1,V0 e.1.2.2.1,V0 e.1.2.2.2,.slice b e.2.length cb]] w (Ret (.bool true) w):=by
 subst h;exact Zoz a b ca cb d w ha hb
theorem Zpf(p q:O0)(c d n:Nat)(Z Y:V6 Zv)(w:V1)(hZ:Z.length=n)(hY:Y.length=n)(hZY:∀ i,i<n→(Z.getD i zvD).1=(Y.getD i zvD).1)(hP:DevsR w p c Z)(hQ:DevsR w q d Y) :
 C0 31 #[.slice p n c,.slice q n d,.func (.func 32) #[] #[]] w (Ret (.bool true) w):=by
 have b0:=Sl.len (hP.b6 hZ)
 refine zin 32 Tryz.func31 ?_
 refine xk 15 (show(((n:Int) != (n:Int)):Bool)=false from by simp) ?_
 have hB:=U3 w.heap.size w
 refine zl 11 32 (fun zm a6 V=>∃ (i:Nat),a6=[(1,.slice q n d),(2,.func (.func 32) #[] #[]),(15,.slice p n c),(16,V0 (n:Int)),(17,V0 (i:Int))]∧zm=n-((i:Int)).toNat∧B3 w V∧i≤n) ⟨0,rfl,rfl,hB,A5 _⟩ ?_
 rintro _ _ W1 ⟨i,rfl,rfl,a0,hi⟩ J1 a8 r1
 refine xid 6 ((i:Int)<(n:Int)) (fun a9=>?_) (fun a9=>?_)
 ·refine xx 7 _ n i 5 (hP.a4 hZ (i:=i) M0) ?_
  refine xlv 0 (Sts.rp (k:=i) (hP.i a0).row Jd zvD M0 Do) ?_
  refine xa 0 [V0 0,V0 0,V0 0,V0 0,S1] 32 fun b3 W3 n3=>?_
  have g3:=n3.ge a0
  refine xsv 1 n3.blk [V0 ((Z.getD i zvD).1.1.1),V0 ((Z.getD i zvD).1.1.2.1),V0 ((Z.getD i zvD).1.1.2.2.1),V0 ((Z.getD i zvD).1.1.2.2.2),.slice ((Z.getD i zvD).2.1) ((Z.getD i zvD).1.2.length) ((Z.getD i zvD).2.2)] fun W4 u4 k4=>?_
  refine xx 6 _ n i 5 (hQ.a4 hY (i:=i) M0) ?_
  have a2:=u4.i (bln a0 n3.i) g3
  refine xlv 0 (Sts.rp (k:=i) (hQ.i a2).row Jd zvD M0 Do) ?_
  refine xa 0 [V0 0,V0 0,V0 0,V0 0,S1] 32 fun b5 W5 n5=>?_
  have a3:=n5.ne k4
  have g5:=n5.ge a2
  refine xsv 0 n5.blk [V0 ((Y.getD i zvD).1.1.1),V0 ((Y.getD i zvD).1.1.2.1),V0 ((Y.getD i zvD).1.1.2.2.1),V0 ((Y.getD i zvD).1.1.2.2.2),.slice ((Y.getD i zvD).2.1) ((Y.getD i zvD).1.2.length) ((Y.getD i zvD).2.2)] fun W6 u6 k6=>?_
  have a5:=u6.blk (k4.i n5.i) a3
  refine xlv 5 a5.rp ?_
  refine xlv 0 k6.rp ?_
  have a1:=u6.i (bln a2 n5.i) g5
  refine xr 0 (Zlw (Z.getD i zvD).2.1 (Y.getD i zvD).2.1 (Z.getD i zvD).2.2 (Y.getD i zvD).2.2 (Z.getD i zvD).1 (Y.getD i zvD).1 _ (hZY i M0) ((hP.i a1).each i M0) ((hQ.i a1).each i M0)) fun W7 a7=>?_
  refine xwm 8 ((i:Int)+1) (↑(i+1):Int) ?_
  have a4:=bln a1 a7
  exact ze 2 (a8 _ _ _ ⟨i+1,rfl,rfl,a4,M0⟩ M0)
 exact xe 11 (.bool true) ⟨rfl,a0⟩
theorem Zti(p q:O0)(c d n:Nat)(t u v x:Int)(Z Y:V6 Zv)(w:V1)(hZ:Z.length=n)(hY:Y.length=n)(hZY:∀ i,i<n→(Z.getD i zvD).1=(Y.getD i zvD).1)(hP:DevsR w p c Z)(hQ:DevsR w q d Y) :
 C0 9 #[.agg #[V0 t,V0 u,V0 v,V0 x,.slice p n c],.agg #[V0 t,V0 u,V0 v,V0 x,.slice q n d]] w (Ret (.bool true) w):=by
 refine zin 38 Tryz.func9 ?_
 refine xa 2 [V0 t,V0 u,V0 v,V0 x,.slice p n c] 24 fun b1 W1 n1=>?_
 refine xa 0 [V0 t,V0 u,V0 v,V0 x,.slice q n d] 24 fun b2 W2 n2=>?_
 have a0:=n1.blk.i n2.i
 refine xb 6 0 a0 ?_
 refine xb 1 0 n2.blk ?_
 refine xgk 2 [9,10] (show((t==t):Bool)=true from by simp) ?_
 refine xb 1 1 a0 ?_
 refine xb 1 1 n2.blk ?_
 refine xgk 3 [15,16,17] (show((u==u):Bool)=true from by simp) ?_
 refine xb 1 2 a0 ?_
 refine xb 1 2 n2.blk ?_
 refine xgk 3 [22,23,24] (show((v==v):Bool)=true from by simp) ?_
 refine xb 1 3 a0 ?_
 refine xb 1 3 n2.blk ?_
 refine xgk 3 [29,30,31] (show((x==x):Bool)=true from by simp) ?_
 refine xb 1 4 a0 ?_
 refine xb 1 4 n2.blk ?_
 have hB:=bln n1.i n2.i
 refine xr 0 (Zpf p q c d n Z Y _ hZ hY hZY (hP.i hB) (hQ.i hB)) fun W7 a2=>?_
 have a1:=bln hB a2
 exact xe 5 (.bool true) ⟨rfl,a1⟩
def dif (a b:V6 Int)(k:Nat):V6 Int:=((range k).filter fun i=>a[i]? != b[i]?).map Int.ofNat
theorem Sf{a b:V6 Int}{k:Nat}(h:a[k]? ≠ b[k]?):dif a b (k+1)=dif a b k++[(k:Int)]:=by simp[dif,B8,h]
theorem dif_no{a b:V6 Int}{k:Nat}(h:a[k]? = b[k]?):dif a b (k+1)=dif a b k:=by simp[dif,B8,h]
theorem Zc3(a b:V6 Int)(k:Nat):(dif a b k).length≤k:=by
 have:=O1 (fun i=>a[i]? != b[i]?) (range k);simpa [dif] using this
theorem Za3{l:V6 Int}{k:Nat}(h:k<l.length):l[k]? = some (l.getD k 0):=by simp[getD,A9 h]
theorem get_ge{l:V6 Int}{k:Nat}(h:¬ k<l.length):l[k]? = none:=by simpa using h
theorem Zxc(a b:Nat):(if(b:Int)>(a:Int) then(b:Int) else(a:Int))=((max a b:Nat):Int):=by split<;>omega
theorem Zdu{a b:V6 Int}{k:Nat}(h:k<a.length∨k<b.length)(h2:k<a.length→k<b.length→a.getD k 0≠b.getD k 0):a[k]? ≠ b[k]? := by
 by_cases ha:k<a.length
 ·rw[Za3 ha];by_cases hb:k<b.length
  ·rw[Za3 hb];simpa using h2 ha hb
  ·rw[get_ge hb];simp
 ·rw[get_ge ha,Za3 (h.resolve_left ha)];simp
theorem Zjz(a b:O0)(ca cb:Nat)(la lb:V6 Int)(w:V1)(ha:Ints w (.slice a la.length ca) la)(hb:Ints w (.slice b lb.length cb) lb)(hla:la.length≤1000000)(hlb:lb.length≤1000000) :
 C0 27 #[.slice a la.length ca,.slice b lb.length cb] w (Kd (fun w' r=>w'.ownsRow w.heap.size 3 1 r (dif la lb (max la.length lb.length)).length ((dif la lb (max la.length lb.length)).map V0)) w):=by
 refine zin 42 Tryz.func27 ?_
 refine xq 17 (congrArg V0 (show(if(lb.length:Int)>(la.length:Int) then(lb.length:Int) else(la.length:Int):Int)=(↑(max la.length lb.length):Int) from Zxc _ _)) ?_
 have hB:=U3 w.heap.size w
 refine zl 4 42 (fun zm c6 V=>∃ (k:Nat) (p:O0) (c:Nat),c6=[(0,.slice a la.length ca),(1,.slice b lb.length cb),(4,S1),(5,.slice p ((dif la lb k).length) c),(11,V0 (↑(max la.length lb.length):Int)),(12,V0 (k:Int))]∧zm=max la.length lb.length-((k:Int)).toNat∧B3 w V∧V.ownsRow w.heap.size 3 1 (.slice p (dif la lb k).length c) (dif la lb k).length ((dif la lb k).map V0)∧k≤max la.length lb.length) ⟨0,_,_,rfl,rfl,hB,A8 _ _ _ _,A5 _⟩ ?_
 rintro _ _ W1 ⟨k,p,c,rfl,rfl,a1,o5,hk⟩ J1 a8 r1
 refine xid 6 ((k:Int)<(↑(max la.length lb.length):Int)) (fun c5=>?_) (fun c5=>?_)
 ·refine xd 11 .z ?_
  refine xg (.b [0,1,2,3,4]) [18,19] (decide ((k:Int)≥(la.length:Int))) (fun a4=>?_) (fun a4=>?_)
  ·have a4:=U1 a4
   refine xbs (.r [5,6,7,8,9,10,11,12,13,14,15,16,17,18,19,20] 6) 1 [V0 (k:Int)] 3 fun b4 W4 n4=>?_
   have b3:=bln a1 (Za W1)
   have b0:=Zb o5 (Za W1)
   have a2:=Zb b0 n4.i
   have a3:=bln b3 n4.i
   refine xbi 0 fun _ _ _ _ zJ zQ zo zx zy zK=>Xd (m:=1) (news:=[V0 (k:Int)]) (V0 0) 1 8 ((dif la lb (k+1)).length) ((dif la lb (k+1)).map V0) zo Tryz.underlying27 K0 rfl Do zx a2 zy (n4.blk.sl 1 1 Do Do) rfl Y4 (by have:=Zc3 la lb k;unfold maxLen;omega) (by have:=Zc3 la lb k;omega) a3.size (by rw[Sf (a:=la) (b:=lb) (k:=k) (Zdu M0 (fun h1 h2=>by first|assumption|omega))];simp) (by rw[Sf (a:=la) (b:=lb) (k:=k) (Zdu M0 (fun h1 h2=>by first|assumption|omega))];simp) fun d8 d4 W5 a2 d6 c8=>?_
   refine zK _ _ ?_
   refine xw 5 ((k:Int)+1) ?_
   have b8:=a3.trans c8
   exact ze 2 (a8 _ _ _ ⟨k+1,_,_,rfl,rfl,b8,a2,M0⟩ M0)
  have a4:=U2 a4
  refine xg (.b [5,6,7,8,9,10]) [23,24,25] (decide ((k:Int)≥(lb.length:Int))) (fun a7=>?_) (fun a7=>?_)
  ·have a7:=U1 a7
   refine xbs (.r [11,12,13,14,15,16,17,18,19,20] 6) 1 [V0 (k:Int)] 3 fun b7 W7 n7=>?_
   have b6:=bln a1 (Za W1)
   have a9:=Zb o5 (Za W1)
   have b1:=Zb a9 n7.i
   have a5:=bln b6 n7.i
   refine xbi 0 fun _ _ _ _ zJ zQ zo zx zy zK=>Xd (m:=1) (news:=[V0 (k:Int)]) (V0 0) 1 8 ((dif la lb (k+1)).length) ((dif la lb (k+1)).map V0) zo Tryz.underlying27 K0 rfl Do zx b1 zy (n7.blk.sl 1 1 Do Do) rfl Y4 (by have:=Zc3 la lb k;unfold maxLen;omega) (by have:=Zc3 la lb k;omega) a5.size (by rw[Sf (a:=la) (b:=lb) (k:=k) (Zdu M0 (fun h1 h2=>by first|assumption|omega))];simp) (by rw[Sf (a:=la) (b:=lb) (k:=k) (Zdu M0 (fun h1 h2=>by first|assumption|omega))];simp) fun d9 e1 W8 o8 d5 c7=>?_
   refine zK _ _ ?_
   refine xw 5 ((k:Int)+1) ?_
   have b5:=a5.trans c7
   exact ze 2 (a8 _ _ _ ⟨k+1,_,_,rfl,rfl,b5,o8,M0⟩ M0)
  have a7:=U2 a7
  refine xx (.e [11,12] 13) _ la.length k 1 (Ints.elem ha (k:=k) M0).1 ?_
  have a0:=bln a1 (Za W1)
  refine xl (.e [] 14) ((Ints.elem (ha.i a0) (k:=k) M0).2) ?_
  refine xx (.e [15,16] 17) _ lb.length k 1 (Ints.elem hb (k:=k) M0).1 ?_
  refine xl (.e [] 18) ((Ints.elem (hb.i a0) (k:=k) M0).2) ?_
  refine xin (.r [19,20] 2) (la.getD k 0) (lb.getD k 0) (fun d0=>?_) (fun d0=>?_)
  ·refine xbs 3 1 [V0 (k:Int)] 3 fun d7 e0 c0=>?_
   have b9:=Zb o5 (Za W1)
   have b2:=Zb b9 c0.i
   have a6:=bln a0 c0.i
   refine xbi 0 fun _ _ _ _ zJ zQ zo zx zy zK=>Xd (m:=1) (news:=[V0 (k:Int)]) (V0 0) 1 8 ((dif la lb (k+1)).length) ((dif la lb (k+1)).map V0) zo Tryz.underlying27 K0 rfl Do zx b2 zy (c0.blk.sl 1 1 Do Do) rfl Y4 (by have:=Zc3 la lb k;unfold maxLen;omega) (by have:=Zc3 la lb k;omega) a6.size (by rw[Sf (a:=la) (b:=lb) (k:=k) (Zdu M0 (fun h1 h2=>by first|assumption|omega))];simp) (by rw[Sf (a:=la) (b:=lb) (k:=k) (Zdu M0 (fun h1 h2=>by first|assumption|omega))];simp) fun c9 d2 d3 c4 d1 c1=>?_
   refine zK _ _ ?_
   refine xw 5 ((k:Int)+1) ?_
   have c2:=a6.trans c1
   exact ze 2 (a8 _ _ _ ⟨k+1,_,_,rfl,rfl,c2,c4,M0⟩ M0)
  refine xw 4 ((k:Int)+1) ?_
  refine xv1 2 5 (show(.slice p ((dif la lb k).length) c:V2)=.slice p ((dif la lb (k+1)).length) c from by rw[dif_no (a:=la) (b:=lb) (k:=k) (by rw[Za3 M0,Za3 M0];congr 1)]) ?_
  have c3:=Zb o5 (Za W1)
  exact ze 0 (a8 _ _ _ ⟨k+1,_,_,rfl,rfl,a0,by rw[dif_no (a:=la) (b:=lb) (k:=k) (by rw[Za3 M0,Za3 M0];congr 1)];exact c3,M0⟩ M0)
 exact xe 12 (.slice p ((dif la lb k).length) c) ⟨_,rfl,a1,by rw[show max la.length lb.length=k by omega];exact o5⟩
end
end
end Go.Proofs.YtekomodnkfhihaaGreatDoor
