/- value.Root of a block number: its four bytes. -/
import Derived.Laws.StructEq
import Derived.Ground.SlgnProg
import Derived.Shelf.SlicesG.SearchI
import Derived.Test.YthhilbkandcbmaaGreatDoorProg
import Derived.Test.YthhilbkandcbmaaGreatDoorMg3
namespace Go.Proofs.YthhilbkandcbmaaGreatDoor
set_option maxHeartbeats 8000000
set_option maxRecDepth 100000
open Go.RowKit Go.Extern.Stop Go.Stop Go.Extern
set_option linter.unusedVariables false
attribute [local irreducible] wpList wpAnyH Code.wp Oper.wp Go
theorem Zfx(w:World) :
 C0 67 #[] w (Qd (fun w' r=>∃ b,r=.slice (S1 b) 1 1∧w.heap.size≤b∧Blk w' b [V0 4,V0 1,V0 14399] 234) w):=by
 refine zin 3 Tryz.func67 ?_
 refine xbs 8 1 [V0 4,V0 1,V0 14399] 234 fun b1 W1 n1=>?_
 have g1:=n1.ge (B4 w)
 exact xe 4 (.slice (S1 b1) 1 1) ⟨_,rfl,n1.below,_,rfl,g1,n1.blk⟩
theorem Zgi(gl gn:Nat)(n:Int)(h1:1≤n)(h2:n≤14399)(w:World)(hl:Blk w gl [V0 4,V0 1,V0 14399] 234)(hn:Blk w gn [V0 n] 3) :
 C0 128 #[.slice (S1 gl) 1 1,.slice (S1 gn) 1 1] w (Ret (.string ⟨(leB n 4).toArray⟩) w):=by
 have b0:=h1
 have b6:=h2
 clear h2
 refine zin 51 Tryz.func128 ?_
 refine xu 19 2 ?_
 refine xlv 15 hl.rp ?_
 refine xa 0 [V0 0,V0 0,V0 0] 234 fun b1 W1 n1=>?_
 have a7:=n1.ne hl
 refine xsv 1 n1.blk [V0 4,V0 1,V0 14399] fun W2 u2 k2=>?_
 have g1:=n1.ge (B4 w)
 refine xd 4 .z ?_
 have a1:=(u2.blkT (hn.below n1.below) n1.blk (by decide)).below (Za W2)
 refine xb (.e [0,1,2] 3) 0 a1 ?_
 have a0:=k2.below (Za W2)
 refine xb (.e [4] 5) 1 a0 ?_
 refine xgk (.b [6,7]) [23,24] (show(decide (n<(1:Int)):Bool)=false from decide_eq_false (by omega)) ?_
 refine xb (.e [8,9,10] 11) 0 a1 ?_
 refine xb (.e [12] 13) 2 a0 ?_
 refine xk (.r [14,15] 2) (show(decide (n>(14399:Int)):Bool)=false from decide_eq_false (by omega)) ?_
 refine xd 3 .z ?_
 have a4:=a0.below (Za W2.drew)
 refine xb (.e [0] 1) 0 a4 ?_
 have a3:=a1.below (Za W2.drew)
 refine xb (.e [2,3,4] 5) 0 a3 ?_
 refine xbs (.o [6] 7) 1 [V0 4,V0 n] 221 fun b4 W4 n4=>?_
 refine yc (.o [] 8) (args:=#[.slice (S1 b4) 1 1]) .z (Cc b4 n (by omega) (by omega) _ n4.blk) ?_
 rintro _ W5 ⟨_,rfl,a6,p2,c2,rfl,h2⟩
 have a9:=(bln (bln (bln (u2.below n1.below g1) (Za W2)) (Za W2.drew)) n4.below).size
 refine⟨a6,?_⟩
 have o6:=World.ownsRow_nil W5 w.heap.size 5 1
 have a2:=Ze h2 a9
 have hB:=bln (bln (bln (bln (u2.below n1.below g1) (Za W2)) (Za W2.drew)) n4.below) a6
 refine xbi (.r [9,10,11,12,13] 5) fun _ _ _ _ zJ zQ zo zx zy zK=>Zo (m:=4) (news:=(leB n 4).map bv) (.int .u8 0) 1 1 (4) ((leB n 4).map bv) zo Tryz.underlying22 (by kernel_rfl) rfl (by decide) zx o6 zy (Zd a2) (by simp[Zm]) (Yw _) (by unfold maxLen;omega) (by omega) hB.size (by rfl) (by simp) fun b2 b3 W7 o7 b5 a8=>?_
 refine zK _ _ ?_
 refine xcv0 24 (fun _ _ _ zo zx=>Vb zo zx (Yr (Zd o7) (Zm _ _)) (Zm _ _) Tryz.underlying22 Tryz.underlying5 Tryz.underlying9) ?_
 have a5:=hB.trans a8
 exact xe 4 (.string ⟨(leB n 4).toArray⟩) ⟨rfl,a5⟩
theorem Su(n:Int)(h1:1≤n)(h2:n≤14399)(w:World) :
 C0 96 #[V0 n] w (Ret (.string ⟨(leB n 4).toArray⟩) w):=by
 refine zin 7 Tryz.func96 ?_
 refine xc 7 (args:=#[]) (Zfx _) ?_
 rintro _ W1 ⟨_,rfl,a1,gl,rfl,gg,kl⟩
 refine xbs 1 1 [V0 n] 3 fun b2 W2 n2=>?_
 have a0:=kl.below n2.below
 refine xr 0 (args:=#[.slice (S1 gl) 1 1,.slice (S1 b2) 1 1]) (Zgi gl b2 n h1 h2 _ a0 n2.blk) fun W3 a2=>?_
 have hB:=bln (bln a1 n2.below) a2
 exact xe 4 (.string ⟨(leB n 4).toArray⟩) ⟨rfl,hB⟩
theorem Sts.cut{α:Type}{f:α→List Value}{m:Nat}{w:World}{b:O0}{c:Nat}{l:List α}(hm:∀ x,(f x).length=m)(h:Sts f w (.slice b l.length c) l)(k:Nat)(hk:k≤l.length):Sts f w (.slice (Ke b k c m) (l.drop k).length (c-k)) (l.drop k):=by
 have a0:(l.drop k).length=l.length-k:=by simp
 have a3:=Sl.cap h
 by_cases hkn:k=l.length
 ·refine .inl ⟨Ke b k c m,c-k,by rw[show(l.drop k).length=0 by omega],by omega,?_⟩
  rw[List.drop_eq_nil_of_le (by omega)];rfl
 rcases h with ⟨a',c',h1,h2,h3⟩|⟨g,a2,a4,h1,h2,h3,h4⟩
 ·omega
 ·simp only[Value.slice.injEq] at h1
  obtain⟨rfl,_,rfl⟩:=h1
  refine .inr ⟨g,a2+k*m,c-k,?_,by omega,by omega,fun j x hj=>?_⟩
  ·rw[Ke,if_neg (by omega)];simp[Addr.add]
  ·have a1:(l.drop k).flatMap f=(l.flatMap f).drop (k*m):=by
    conv=>rhs;rw[←List.take_append_drop k l,List.flatMap_append]
    rw[List.drop_left' (by rw[Dy hm,List.length_take,Nat.min_eq_left hk])]
   rw[a1,List.getElem?_drop] at hj
   have:=h4 _ _ hj
   rwa [←Nat.add_assoc] at this
theorem Al.only{B ba b g n c:Nat}{pa:O0}{ca f N k:Nat}{l:Bl}{w W:World}{T:List TypeId}(h:Al B ba b g n c pa ca f N k l w)(hO:Zg T w W)(hT:(T.contains 128||T.contains 59||T.contains 5||T.contains 3)=false):Al B ba b g n c pa ca f N k l W:=by
 simp only[Bool.or_eq_false_iff] at hT
 exact⟨h.blkA.only hO hT.1.1.1,h.blkI.only hO hT.1.1.2,Zr h.data hO hT.1.2,Zr h.nums hO hT.2⟩
def Xm(l:List Ent)(m i:Nat):List Ent:=(l.drop (i*m)).take m
def Kb(c:List Ent):List Int:=c.map (·.1)
def Hc(c:List Ent):List Bl:=c.map (·.2.1)
def Zc1(t:Int)(leaf:Bool)(m v:Nat)(c:List Ent):Bl:=Jy m v (Vv t leaf c.length m v) (Kb c) (Hc c) c.length
def Zat(t:Int)(leaf:Bool)(m v:Nat)(l:List Ent)(q:Nat)(bs:Bl):Nat→Bl
 | 0=>bs
 | i+1=>Vu (Zat t leaf m v l q bs i) ((q+i)*256) (Xw 2 ((q+i:Nat):Int) (Zc1 t leaf m v (Xm l m i)))
def upX (l:List Ent)(m q i:Nat):Ent:=(((Xm l m i).getD 0 Vt).1,leB ((q+i:Nat):Int) 4,((q+i:Nat):Int))
def upE (l:List Ent)(m q j:Nat):List Ent:=(List.range j).map (upX l m q)
theorem upE_succ(l:List Ent)(m q j:Nat):upE l m q (j+1)=upE l m q j++[upX l m q j]:=by simp[upE,List.range_succ]
theorem Xu(l:List Ent)(m q j:Nat):(upE l m q j).length=j:=by simp[upE]
theorem Uv{l:List Ent}{m q j i:Nat}(h:i<j):(upE l m q j).getD i Vt=upX l m q i:=by simp[upE,List.getD,List.getElem?_range h]
theorem My(l:List Ent)(m i:Nat):(Xm l m i).length=Ks l.length m i:=by simp[Xm,Ks]
theorem Ec{l:List Ent}{m i j:Nat}(h:j<Ks l.length m i):(Xm l m i).getD j Vt=l.getD (i*m+j) Vt:=by
 unfold Ks at h
 simp[Xm,List.getD,List.getElem?_take_of_lt (show j<m by omega),List.getElem?_drop]
theorem Zay{c:List Ent}{j:Nat}(h:j<c.length):(Kb c).getD j 0=(c.getD j Vt).1:=by simp[Kb,List.getD,h]
theorem valsE_get{c:List Ent}{j:Nat}(h:j<c.length):(Hc c).getD j []=(c.getD j Vt).2.1:=by simp[Hc,List.getD,h]
theorem Mq(c:List Ent):(Kb c).length=c.length:=by simp[Kb]
theorem Ob(c:List Ent):(Hc c).length=c.length:=by simp[Hc]
theorem siz_lt{n m i:Nat}(hm:1≤m)(hn:1≤n)(h:i<ovN n m):i*m<n:=by
 unfold ovN at h
 rcases Nat.eq_zero_or_pos i with rfl|hi
 ·omega
 have h2:i<(n+m-1)/m:=by omega
 have h3:=(Nat.lt_div_iff_mul_lt (by omega)).1 h2
 omega
theorem Ii{t:Int}{leaf:Bool}{m v:Nat}{l:List Ent}(E:EntsOk v l)(h1:1≤t)(h2:t≤5)(hm:Qi t leaf=m)(hv:Ht t leaf=v)(hl:leaf=false→1≤l.length){i:Nat}(hi:i<ovN l.length m):NodeOk t leaf (Xm l m i).length m v (Kb (Xm l m i)) (Hc (Xm l m i)):=by
 have a5:=(Qh t leaf).1
 rw[hm] at a5
 have a0:=My l m i
 have a6:=siz_le a5 hi
 have a7:(Xm l m i).length≤l.length-i*m:=by rw[a0];unfold Ks;omega
 have a4:∀ j,j<(Xm l m i).length→i*m+j<l.length∧(Kb (Xm l m i)).getD j 0=(l.getD (i*m+j) Vt).1∧(Hc (Xm l m i)).getD j []=(l.getD (i*m+j) Vt).2.1:=fun j hj=>by
  refine⟨by omega,?_,?_⟩
  ·rw[Zay hj,Ec (by omega)]
  ·rw[valsE_get hj,Ec (by omega)]
 refine⟨h1,h2,hm,hv,Mq _,Ob _,by rw[a0];unfold Ks;omega,fun h=>?_,fun j hj=>?_,fun j hj=>?_,fun j hj=>?_⟩
 ·have:=siz_lt a5 (hl h) hi
  rw[a0];unfold Ks;omega
 ·obtain⟨a1,a2,_⟩:=a4 j hj
  rw[a2];exact E.hk _ a1
 ·obtain⟨a1,a2,_⟩:=a4 j (by omega)
  obtain⟨b1,b2,_⟩:=a4 (j+1) hj
  rw[a2,b2];exact E.hs _ (by omega)
 ·obtain⟨a1,_,a3⟩:=a4 j hj
  rw[a3];exact E.hw _ a1
theorem Dc{t:Int}{leaf:Bool}{m v:Nat}{c:List Ent}(N:NodeOk t leaf c.length m v (Kb c) (Hc c)):(Zc1 t leaf m v c).length=244:=by
 have hf:=fitN t leaf
 rw[N.hm,N.hv] at hf
 exact Fs (Vk _ _ _ _ _) hf N.hn (fun j hj=>N.hw j hj)
theorem Zds{w:World}{b:O0}{n m c:Nat}(h:Sl w (.slice b (ovN n m) c) (ovN n m) ((sizL n m).map nv)){k:Nat}(hk:k<ovN n m):b.isSome=true∧w.cell? (Xe b (k*1))=some (V0 ((Ks n m k:Nat):Int)):=by
 have:=Zl h (sizL_len n m) hk
 rwa [show(sizL n m).getD k 0=Ks n m k from by simp[sizL,List.getD,List.getElem?_range hk]] at this
theorem keys_take{l:List Ent}{j:Nat}(h:j<l.length):((Kb l).take (j+1)).map V0=((Kb l).take j).map V0++[V0 (l.getD j Vt).1]:=by
 rw[List.take_succ_eq_append_getElem (by rw[Mq];exact h)]
 simp[Kb,List.getD,h]
theorem vals_take{l:List Ent}{j:Nat}(h:j<l.length):((Hc l).take (j+1)).map sv=((Hc l).take j).map sv++[.string ⟨(l.getD j Vt).2.1.toArray⟩]:=by
 rw[List.take_succ_eq_append_getElem (by rw[Ob];exact h)]
 simp[Hc,List.getD,h,sv]
theorem Zg0{l:List Ent}{m i s:Nat}(hs:Ks l.length m i=s):(Kb (l.drop (i*m))).take s=Kb (Xm l m i):=by
 subst hs
 unfold Kb Xm Ks
 rw[←List.map_take]
 congr 1
 rw[List.take_eq_take_iff];simp
theorem Zfm{l:List Ent}{m i s:Nat}(hs:Ks l.length m i=s):(Hc (l.drop (i*m))).take s=Hc (Xm l m i):=by
 subst hs
 unfold Hc Xm Ks
 rw[←List.map_take]
 congr 1
 rw[List.take_eq_take_iff];simp
theorem EntsOk.mono{v:Nat}{l:List Ent}(E:EntsOk v l):∀ {a b:Nat},a<b→b<l.length→(l.getD a Vt).1<(l.getD b Vt).1:=by
 intro a b h hb
 induction b with
 | zero=>omega
 | succ b ih =>
  have h1:=E.hs b (by omega)
  rcases Nat.lt_or_ge a b with h2|h2
  ·have:=ih h2 (by omega);omega
  ·obtain rfl:a=b:=by omega
   exact h1
theorem up_key{v:Nat}{l:List Ent}{m:Nat}(hm:1≤m)(hl:1≤l.length){i q:Nat}(hi:i<ovN l.length m):(upX l m q i).1=(l.getD (i*m) Vt).1∧i*m<l.length:=by
 have h:=siz_lt hm hl hi
 refine⟨?_,h⟩
 unfold upX
 rw[Ec (by unfold Ks;omega)];rfl
theorem up_ok{v:Nat}{l:List Ent}(E:EntsOk v l){m q:Nat}(hm:1≤m):EntsOk 4 (upE l m q (ovN l.length m)):=by
 rcases Nat.eq_zero_or_pos l.length with h0|hl
 ·have h1:ovN l.length m=1:=by
   rw[h0];unfold ovN
   have:(0+m-1)/m=0:=Nat.div_eq_of_lt (by omega)
   omega
  have a0:l=[]:=List.eq_nil_of_length_eq_zero h0
  subst a0
  constructor
  ·intro i hi;rw[Xu,h1] at hi;rw[Uv (by omega)];simp[upX,Xm,Vt]
  ·intro j hj;rw[Xu,h1] at hj;omega
  ·intro i hi;rw[Xu,h1] at hi;rw[Uv (by omega)];simp[upX,Zm]
 constructor
 ·intro i hi
  rw[Xu] at hi
  obtain⟨h1,h2⟩:=up_key (v:=v) (q:=q) hm hl hi
  rw[Uv hi,h1];exact E.hk _ h2
 ·intro j hj
  rw[Xu] at hj
  obtain⟨h1,h2⟩:=up_key (v:=v) (q:=q) hm hl hj
  obtain⟨h3,h4⟩:=up_key (v:=v) (q:=q) hm hl (show j<ovN l.length m by omega)
  rw[Uv hj,Uv (by omega),h1,h3]
  refine E.mono ?_ h2
  rw[Nat.add_mul];omega
 ·intro i hi
  rw[Xu] at hi
  rw[Uv hi];simp[upX,Zm]
def Ul(t:Int)(u:List Ent)(q:Nat)(bs:Bl):Int×Bl :=
 if h:u.length≤1 then((u.getD 0 Vt).2.2,bs)
 else Ul t (upE u 18 q (ovN u.length 18)) (q+ovN u.length 18) (Zat t false 18 4 u q bs (ovN u.length 18))
termination_by u.length
decreasing_by rw[Xu];have:=ov18 (x:=u.length) (by omega);omega
theorem Wn{t:Int}{u:List Ent}{q:Nat}{bs:Bl}(h:u.length≤1):Ul t u q bs=((u.getD 0 Vt).2.2,bs):=by rw[Ul];simp[h]
theorem Nf{t:Int}{u:List Ent}{q:Nat}{bs:Bl}(h:¬ u.length≤1):Ul t u q bs=Ul t (upE u 18 q (ovN u.length 18)) (q+ovN u.length 18) (Zat t false 18 4 u q bs (ovN u.length 18)):=by rw[Ul];simp[h]
def Yo(t:Int)(l:List Ent)(q:Nat)(bs:Bl):Int×Bl :=
 Ul t (upE l (Qi t true) q (ovN l.length (Qi t true))) (q+ovN l.length (Qi t true)) (Zat t true (Qi t true) (Ht t true) l q bs (ovN l.length (Qi t true)))
theorem Zb3{t:Int}{u:List Ent}{q:Nat}{bs:Bl}(h1:1≤u.length)(hu:(u.getD (u.length-1) Vt).2.2=((q-1:Nat):Int))(hq:1≤q):(Ul t u q bs).1=((q-1+((Aa u.length).sum-u.length):Nat):Int):=by
 induction hx:u.length using Nat.strongRecOn generalizing u q bs with
 | _ x ih =>
  subst hx
  by_cases h:u.length≤1
  ·rw[Wn h,Hj h]
   rw[show u.length-1=0 by omega] at hu
   show(u.getD 0 Vt).2.2=_
   rw[hu];simp
  ·have a1:=ov18 (x:=u.length) (by omega)
   have hp:=Vj u.length 18
   rw[Nf h,ih (ovN u.length 18) (by omega) (u:=upE u 18 q (ovN u.length 18)) (q:=q+ovN u.length 18) (by rw[Xu];exact hp) ?_ (by omega) (Xu _ _ _ _),Jl h]
   ·have a0:=Na (ovN u.length 18)
    simp only[List.sum_cons]
    congr 1
    omega
   ·rw[Xu,Uv (by omega)]
    simp only[upX]
    congr 1
    omega
def LaidQ(B ba b g n c:Nat)(pa:O0)(ca f N k:Nat)(l:Bl)(kind:Int)(li:Bl)(q:Nat)(w:World)(e:Ending)(w':World):Prop :=
 e=.returned (.tuple #[V0 (q:Int),.nilIface])∧Below B w w'∧Zg [128,5] w w'∧Fr [ba,g] w w'∧Al B ba b g n c pa ca f N (k+1) (Vu l (q*256) (Xw kind (q:Int) li)) w'
theorem Wi(B ba b g n c:Nat)(p:O0)(ca f N k:Nat)(l:Bl)(kind:Int)(a:O0)(ci:Nat)(li:Bl)(q n':Nat)(w:World)(hq:f+k=q)(hn':li.length=n')(hC:AlC B ba n c ca f N)(hA:Al B ba b g n c p ca f N k l w)(hkN:k<N)(h1:1≤kind)(h2:kind≤4)(hin:∀ W,Below B w W→Zg [128] w W→Bys W (.slice a n' ci) li)(hl:n'≤244)(hBw:B≤w.heap.size) :
 C0 114 #[P0 ba,V0 kind,.slice a n' ci] w (LaidQ B ba b g n c p ca f N k l kind li q w):=by
 subst hq hn';exact alloc_Lay B ba b g n c p ca f N k l kind a ci li w hC hA hkN h1 h2 hin hl hBw
theorem up_row{l:List Ent}{m q i:Nat}{key:Int}(hk:key=((Xm l m i).getD 0 Vt).1):(upE l m q i).flatMap Ku++[V0 key,.string ⟨(leB ((q+i:Nat):Int) 4).toArray⟩,V0 ((q+i:Nat):Int)]=(upE l m q (i+1)).flatMap Ku:=by
 subst hk;rw[upE_succ];simp[Ku,upX]
theorem chunk_key{l:List Ent}{m i j:Nat}(hs:Ks l.length m i=j)(hj:0<j):((Kb (Xm l m i))).getD 0 0=((Xm l m i).getD 0 Vt).1:=Zay (by rw[My];omega)
theorem Zbf{l:List Ent}{m i j:Nat}(hs:Ks l.length m i=j)(hj:j=0):(0:Int)=((Xm l m i).getD 0 Vt).1:=by
 have:Xm l m i=[]:=List.eq_nil_of_length_eq_zero (by rw[My];omega)
 rw[this];rfl
theorem ImgR.mono{B B' b:Nat}{p:O0}{n c:Nat}{l:Bl}{w:World}(h:ImgR B b p n c l w)(hB:B'≤B):ImgR B' b p n c l w:=⟨h.blk,Ze h.row hB,h.hn⟩
theorem image_OfR(a:O0)(c n m:Nat)(l:Bl)(w:World)(hn:l.length=n)(hm:min (n/256) 14400*256=m)(h:Bys w (.slice a n c) l)(hl:n≤100000000)(hc:n≤c) :
 C0 5 #[.slice a n c] w (Qd (fun w' r=>∃ b p c2,r=P0 b∧w.heap.size≤b∧ImgR w.heap.size b p m c2 (l.take m) w') w):=by
 subst hn hm
 refine(image_Of a c l w h hl hc).mono ?_
 rintro e W ⟨_,rfl,hb,b,p,c2,rfl,h1,h2,h3⟩
 exact⟨_,rfl,hb,b,p,c2,rfl,h1,h2,h3,by omega⟩
def WroteR(B b:Nat)(p:O0)(n c:Nat)(l:Bl)(w:World)(e:Ending)(w':World):Prop :=
 e=.returned .nilIface∧Below B w w'∧Zg [5] w w'∧ImgR B b p n c l w'
theorem Uh(B b:Nat)(p:O0)(n c k:Nat)(ki:Int)(l:Bl)(kind:Int)(a:O0)(ca m:Nat)(li:Bl)(w:World)(hki:ki=(k:Int))(hm:li.length=m)(hI:ImgR B b p n c l w)(hk:k<n/256)(h1:1≤kind)(h2:kind≤4)(hin:Bys w (.slice a m ca) li)(hl:m≤244)(hBw:B≤w.heap.size) :
 C0 61 #[P0 b,V0 ki,V0 kind,.slice a m ca] w (WroteR B b p n c (Vu l (k*256) (Xw kind k li)) w):=by
 subst hki hm
 obtain⟨g,rfl,hc⟩:=hI.base (by omega)
 refine(Fq B b g n c k l kind a ca li w hI.blk hI.row hI.hn hc hk h1 h2 hin hl hBw).mono ?_
 rintro e W ⟨rfl,hb,hO,_,ho⟩
 exact⟨rfl,hb,hO,hI.blk.only hO (by decide),ho,hI.hn⟩
theorem Ia(l:List Int):Qt (l.map some)=l:=by unfold Qt;simp[List.filterMap_map]
theorem Zc4(l:List Int)(c:Int):Cg (l.map some) (some c)=c:=by simp[Cg,Lb]
def eL (S:WS):List (Option Int):=if S.fs=[] then [] else(S.fs.getD 0 ([],0)).1.map some
def eT (S:WS):Option Int:=if S.fs=[] then none else some (S.fs.getD 0 ([],0)).2
theorem ref_OfM(a:O0)(c n k:Nat)(l:Bl)(w:World)(hn:l.length=n)(hk:min (n/256) 14400=k)(h:Bys w (.slice a n c) l)(hl:n≤100000000) :
 C0 6 #[.slice a n c] w (Qd (fun w' r=>∃ bm p c2,r=P0 bm∧w.heap.size≤bm∧RefI w.heap.size bm p k c2 (l.take (k*256)) w') w):=by
 subst hn hk;exact ref_Of a c l w h hl
theorem Zdi(s:Bl):Gp Yz s=[Zh s 0 8]:=rfl
theorem Zd2(s:Bl):Ua Yz s=decide (Zh s 0 8≤1099511627775):=by
 unfold Ua
 rw[Zdi,show Yz.length=1 from rfl]
 unfold Jz
 rw[show List.range 1=[0] from rfl]
 simp[inP,Yz]
 omega
theorem map_e7{s:Bl}(h:s.length≠8):Xo Yz s=7∧Um s=0∧Ws s=0:=by
 have he:Xo Yz s=7:=if_neg h
 have hn:Za7 s=0:=by unfold Za7 Ja;rw[he];rfl
 unfold Um Ws
 rw[hn];exact⟨he,rfl,rfl⟩
theorem map_e2{s:Bl}(h8:s.length=8)(h:¬ Zh s 0 8≤1099511627775):Xo Yz s=2∧Um s=0∧Ws s=0:=by
 have he:Xo Yz s=2:=by unfold Xo;rw[show(Hs Yz Yz.length).sum=8 from rfl,if_pos h8,Zd2,decide_eq_false h];rfl
 have hn:Za7 s=0:=by unfold Za7 Ja;rw[he];rfl
 unfold Um Ws
 rw[hn];exact⟨he,rfl,rfl⟩
theorem map_e0{s:Bl}(h8:s.length=8)(h:Zh s 0 8≤1099511627775):Xo Yz s=0∧Um s=Zh s 0 8/16777216∧Ws s=Zh s 0 8%16777216:=by
 have he:Xo Yz s=0:=by unfold Xo;rw[show(Hs Yz Yz.length).sum=8 from rfl,if_pos h8,Zd2,decide_eq_true h];rfl
 have hn:Za7 s=Zh s 0 8:=by unfold Za7 Ja;rw[if_pos he,Zdi];rfl
 unfold Um Ws
 rw[hn];exact⟨he,rfl,rfl⟩
def GetP8(s:Bl)(w:World)(e:Ending)(w':World):Prop :=
 (¬ Zh s 0 8<9223372036854775808∧e=.returned (.tuple #[V0 0,V0 2])∧B3 w w')∨(Zh s 0 8<9223372036854775808∧e=.returned (.tuple #[V0 (Zh s 0 8:Int),V0 0])∧B3 w w')
theorem ref_Get8(a:O0)(n c:Nat)(s:Bl)(w:World)(hn:s.length=n)(h8:n=8)(h:Bys w (.slice a n c) s):C0 72 #[.slice a n c,V0 0,V0 8] w (GetP8 s w):=by
 subst hn
 by_cases hq:Zh s 0 8<9223372036854775808
 ·refine(Wl a c 0 8 s w (by decide) (by omega) (by omega) h hq).mono ?_
  rintro e W ⟨rfl,hb⟩
  exact .inr ⟨hq,rfl,hb⟩
 ·refine(Ng a c 0 8 s w (by decide) (by omega) (by omega) h hq).mono ?_
  rintro e W ⟨rfl,hb⟩
  exact .inl ⟨hq,rfl,hb⟩
theorem rem_m(n:Nat):Int.tmod (n:Int) 16777216=((n%16777216:Nat):Int):=by
 rw[show(16777216:Int)=((16777216:Nat):Int) from rfl];exact(Int.ofNat_tmod _ _).symm
theorem Tz(s:Bl)(w:World)(hs:s.length≤1000) :
 C0 38 #[.string ⟨s.toArray⟩] w (Ret (.tuple #[V0 (↑(Um s):Int),V0 (↑(Ws s):Int),V0 (Xo Yz s)]) w):=by
 refine zin 27 Tryz.func38 ?_
 refine xin 15 (s.length:Int) (8:Int) (fun a3=>?_) (fun a3=>?_)
 ·refine xe 9 (.tuple #[V0 0,V0 0,V0 7]) ?_
  obtain⟨e1,e2,e3⟩:=map_e7 (s:=s) (by omega)
  rw[e1,e2,e3];exact⟨rfl,(B4 w)⟩
 refine xcf 5 fun _ _ _ zJ zQ zo zx zK=>Ka s zo zx Tryz.underlying9 Tryz.underlying22 Tryz.underlying5 (by omega) ?_
 intro bz cz W2 a1 a5
 refine zK _ _ ?_
 refine xc 0 (args:=#[.slice (S1 bz) s.length cz,V0 0,V0 8]) (ref_Get8 (S1 bz) s.length cz s _ rfl (by omega) a5) ?_
 rintro e W3 a4
 rcases a4 with ⟨hq,rfl,a0⟩|⟨hq,rfl,a0⟩
 ·have hB:=bln a1 a0
  refine xe 29 (.tuple #[V0 0,V0 0,V0 2]) ?_
  obtain⟨e1,e2,e3⟩:=map_e2 (s:=s) (by omega) (by omega)
  rw[e1,e2,e3];exact⟨rfl,hB⟩
 refine xq 14 (congrArg V0 (show(IntKind.i64.wrap (Int.tdiv (↑(Zh s 0 8):Int) 16777216):Int)=(↑((Zh s 0 8)/16777216):Int) from Wh (Zh s 0 8) 16777216 (by omega) (by decide))) ?_
 refine xid 4 ((↑((Zh s 0 8)/16777216):Int)≥(65536:Int)) (fun a2=>?_) (fun a2=>?_)
 ·have hB:=bln a1 a0
  refine xe 9 (.tuple #[V0 0,V0 0,V0 2]) ?_
  obtain⟨e1,e2,e3⟩:=map_e2 (s:=s) (by omega) (by omega)
  rw[e1,e2,e3];exact⟨rfl,hB⟩
 refine xq 5 (congrArg V0 (show(IntKind.i64.wrap (Int.tdiv (↑(Zh s 0 8):Int) 16777216):Int)=(↑((Zh s 0 8)/16777216):Int) from Wh (Zh s 0 8) 16777216 (by omega) (by decide))) ?_
 refine xq 1 (congrArg V0 (show(Int.tmod (↑(Zh s 0 8):Int) 16777216:Int)=(↑((Zh s 0 8)%16777216):Int) from rem_m (Zh s 0 8))) ?_
 have hB:=bln a1 a0
 refine xe 6 (.tuple #[V0 (↑((Zh s 0 8)/16777216):Int),V0 (↑((Zh s 0 8)%16777216):Int),V0 0]) ?_
 obtain⟨e1,e2,e3⟩:=map_e0 (s:=s) (by omega) (by omega)
 rw[e1,e2,e3];exact⟨rfl,hB⟩
end Go.Proofs.YthhilbkandcbmaaGreatDoor
namespace Go.Proofs.YthhilbkandcbmaaGreatDoor
set_option maxHeartbeats 8000000
set_option maxRecDepth 100000
open Go.RowKit Go.Extern.Stop Go.Stop Go.Extern
set_option linter.unusedVariables false
attribute [local irreducible] wpList wpAnyH Code.wp Oper.wp Go
attribute [local go_sem] Oper.semAt_some
def TWrapP(l:List Int)(ec:Int)(w:World)(e:Ending)(w':World):Prop :=
 ∃ ty x,e=.returned (.iface ty x)∧B3 w w'∧Kv w' (l.map some) (some ec) (.iface ty x)
theorem Ym(bx:Nat)(c0:Value)(pw:O0)(cw:Nat)(way bs:List Int)(ec:Int)(ty:TypeId)(ev:Value)(w:World)(kX:Blk w bx [c0,.slice pw way.length cw] 65)(hway:Ints w (.slice pw way.length cw) way)(hwb:∀ b off x,pw=some ⟨b,off,x⟩→b<w.heap.size)(hE:Kv w (bs.map some) (some ec) (.iface ty ev))(hwl:way.length≤1000000) :
 C0 62 #[P0 bx,.iface ty ev] w (TWrapP (way++bs) ec w):=by
 refine Hm Tryz.func62 rfl ?_
 refine g_fr ⟨#[P0 bx,.iface ty ev,undef,undef,undef,undef,undef,undef,undef,undef,undef,undef,undef,undef,undef,undef,undef,undef],[]⟩ (by kernel_rfl) ?_
 refine wp_seq ?_
 refine wp_region_lit ?_
 refine Ko (by kernel_rfl) (Zdr [.iface ty ev] rfl (by kernel_rfl) ?_)
 intro b1 W1 n1
 have d1_bx:=n1.ne kX
 have g1:=n1.ge (B4 w)
 have hB:=n1.below
 replace kX:=kX.below n1.below
 replace hE:=hE.below n1.below
 have k1:=n1.blk
 refine Hk 1 [(4,.nilIface)] (by kernel_rfl) ?_
 refine wpList_nil ?_
 refine wp_seq ?_
 refine wp_seq ?_
 refine wp_region_lit ?_
 refine Hk 3 [(7,P0 bx),(8,P0 bx),(9,.pointer (some ⟨bx,1,none⟩))] (by kernel_rfl) ?_
 refine Ko (by kernel_rfl) (Vi ⟨bx,1,none⟩ (.slice pw way.length cw) rfl (by kernel_rfl) (by kernel_rfl) (kX.cell (i:=1) rfl) ?_)
 have lt2_bx:=kX.lt
 have lt2_b1:=k1.lt
 have hs2:w.heap.size≤(W1).heap.size:=hB.size
 refine Ko (by kernel_rfl) (Qm (lb:=#[]) 121 #[.slice pw way.length cw] rfl (by kernel_rfl) (fun _ _=>by kernel_rfl) (by kernel_rfl) ((Fh pw way.length cw _).mono ?_))
 rintro e W2 ⟨bk2,rfl,hb2,hg2,kk2⟩
 refine⟨_,rfl,?_⟩
 replace hB:=bln hB hb2
 replace kX:=kX.below hb2
 replace k1:=k1.below hb2
 replace hE:=hE.below hb2
 have gb2:w.heap.size≤bk2:=Nat.le_trans hs2 hg2
 have nb2_bx:bk2≠bx:=by omega
 have nb2_b1:bk2≠b1:=by omega
 refine wpList_nil ?_
 refine wp_block ?_
 have hzk:=kk2.lt
 have hz3:=k1.lt
 have hge3:=g1
 have hst:=Zfw bk2 (fun b=>b<W2.heap.size∧b≠b1) (.slice pw way.length cw) way W2 (fun b h=>h.1) ⟨hzk,nb2_b1⟩ (by omega) (hway.below hB) (fun _ b off n cap q=>by cases q;have q1:=hwb _ _ _ rfl;exact⟨by omega,by omega⟩) (kk2.cell (i:=0) rfl)
 refine g_fr ⟨#[P0 bx,.iface ty ev,undef,P0 b1,.nilIface,undef,undef,P0 bx,P0 bx,.pointer (some ⟨bx,1,none⟩),.slice pw way.length cw,.func (.func 176) #[] #[P0 bk2],undef,undef,undef,undef,undef,undef],[]⟩ (by kernel_rfl) ?_
 refine Zdk (g:=.tmp 11) (gf:=176) (lb:=#[P0 bk2]) rfl (enters_of Tryz.func176 (by kernel_rfl) rfl) _ (fun b h=>h.1) hst (fun _=>rfl)
  (fun pre W=>(∃ v',Blk W b1 [v'] 32∧Kv W ((atW way pre bs).map some) (some ec) v')∧BelowBut W2 b1 W)
  (fun _ _ _=>False) ?own (fun _ _ _ _ _ h _ _=>h) ⟨⟨_,k1,hE⟩,(Below.refl _ _).but _⟩
  (fun x a' _=>a'={ tmps:=#[P0 bx,.iface ty ev,undef,P0 b1,.nilIface,undef,V0 (way[qOf x]?.getD 0),P0 bx,P0 bx,.pointer (some ⟨bx,1,none⟩),.slice pw way.length cw,.func (.func 176) #[] #[P0 bk2],V0 (qOf x:Int),V0 (way[qOf x]?.getD 0),undef,undef,undef,undef],defers:=[] }) (fun _ _ _ _ _ _ h _ _=>h) ?assign ?body ?done (fun _ _ _ _ _ _ h _=>h.elim)
 case own=>exact OwnFrom.and (Own.from (fun s A B row hs hg hr=>by obtain⟨v',h1,h2⟩:=hs;exact⟨v',h1.turn hg hr,h2.turn hg hr⟩) _) (Fv (Nat.le_refl _))
 case assign =>
  rintro lr pre x W K hI hK
  unfold encB
  gi_wp2
  exact hK _ _ (KeepsFrom.refl _ _) (Keeps.refl _ _) hI rfl
 case body =>
  rintro lr pre x a' W hlr ⟨⟨v',m3,hv'⟩,hbb⟩ rfl hlt
  have mc:=m3.cell (i:=0) rfl
  gi_wp2_with (refine⟨trivial,?_⟩;gi_at_call 63;refine(CallsIn.inRound lr (callsIn_wide.2 (Di _ _ _ _ _ hv'))).mono ?_;rintro e w2 ⟨r2,rfl,hb2,hE2⟩;obtain⟨t2,x2,rfl⟩:=hE2.iface;have m4:=m3.below hb2;have mg:=m4.frozen 0;have md:=m4.cell (i:=0) rfl)
  have hb2s:=hb2.size
  have u2:=Upd.setCell w2 b1 0 (.iface t2 x2)
  exact⟨((Ce hb2).trans (KeepsOthers.setCell _ _ _)).from _,Keeps.setCell (Keeps.of_below hb2 (fun b hb=>by have:=hbb.size;have:=hb.1;omega)) (fun hb=>hb.2 rfl) _,⟨_,m4.set 0 _,by rw[atW_snoc,List.map_cons,←Tg (c:=ec)];exact(hE2.upd u2 m4 (by decide))⟩,(hbb.next hb2).upd u2⟩
 case done =>
 rintro D xs W hD rfl ⟨⟨v',m3,hv'⟩,hbb⟩ hK0
 rw[atW_all] at hv'
 have hK:Dfr D W:=hK0;clear hK0
 refine Zbi ?_
 refine g_fr ⟨#[P0 bx,.iface ty ev,undef,P0 b1,.nilIface,undef,undef,P0 bx,P0 bx,.pointer (some ⟨bx,1,none⟩),.slice pw way.length cw,.func (.func 176) #[] #[P0 bk2],undef,undef,undef,undef,undef,undef],[{ target:=.collected D,args:=#[] }]⟩ (by kernel_rfl) ?_
 have hv1:=hv'.one
 obtain⟨ty',x',rfl⟩:=hv'.iface
 have hDB:w.heap.size≤D:=Nat.le_trans (by omega) hD
 have hB0:=hB
 replace hB:=hbb.below hB0 hge3 hB0.size
 replace k1:=m3
 refine wp_seq ?_
 refine wp_region_lit ?_
 refine Ko (by kernel_rfl) (Vi ⟨b1,0,none⟩ (.iface ty' x') rfl (by kernel_rfl) (by kernel_rfl) (k1.cell (i:=0) rfl) ?_)
 refine Hk 1 [(4,.iface ty' x')] (by kernel_rfl) ?_
 refine wpList_nil ?_
 refine wp_ret ?_
 exact g_endM hK (.iface ty' x') (by kernel_rfl) (by kernel_rfl) ⟨_,_,rfl,(Upd.of_put _ _ _).below hB hDB,hv'.kept fun _ _ q=>(Upd.of_put _ _ _).blk q (hK.ne q)⟩
end Go.Proofs.YthhilbkandcbmaaGreatDoor
namespace Go.Proofs.YthhilbkandcbmaaGreatDoor
set_option maxHeartbeats 8000000
set_option maxRecDepth 100000
open Go.Shelf
set_option linter.unusedVariables false
def Pa:Go.Shelf.Ren:=⟨fun|49=>65|59=>125|60=>126|68=>182|n=>n,fun|22=>28|23=>3|3=>3|4=>4|51=>149|0=>0|n=>n,fun|n=>n⟩
theorem Cx:Go.Proofs.SlLaysN.n49 Tryz.prog Pa:={
 mixed:=by kernel_rfl
 f49:=⟨Tryz.f65.name,by decide,Tryz.func65.trans (congrArg some (by kernel_rfl))⟩
 f59:=⟨Tryz.f125.name,by decide,Tryz.func125.trans (congrArg some (by kernel_rfl))⟩
 f60:=⟨Tryz.f126.name,by decide,Tryz.func126.trans (congrArg some (by kernel_rfl))⟩
 f68:=⟨Tryz.f182.name,by decide,Tryz.func182.trans (congrArg some (by kernel_rfl))⟩
 t0:=Tryz.underlying0
 a0:=Tryz.isAgg0
 z0:=Tryz.sizeOf0
 v0:=Tryz.zeroValue0
 t3:=Tryz.underlying3
 a3:=Tryz.isAgg3
 z3:=Tryz.sizeOf3
 v3:=Tryz.zeroValue3
 t4:=Tryz.underlying4
 a4:=Tryz.isAgg4
 z4:=Tryz.sizeOf4
 v4:=Tryz.zeroValue4
 t22:=Tryz.underlying28
 a22:=Tryz.isAgg28
 z22:=Tryz.sizeOf28
 v22:=Tryz.zeroValue28
 t23:=Tryz.underlying3
 a23:=Tryz.isAgg3
 z23:=Tryz.sizeOf3
 v23:=Tryz.zeroValue3
 t51:=Tryz.underlying149
 a51:=Tryz.isAgg149
 z51:=Tryz.sizeOf149
 v51:=Tryz.zeroValue149 }
open Go.RowKit Go.Lib in
theorem Hb(b off n c:Nat)(zs:List Int)(x:Int)(w:World)(hz:n≤zs.length)(hbig:n<4611686018427387904)(hc:∀ j,j<zs.length→w.cell? ⟨b,off+j,none⟩=some (V0 (zs.getD j 0)))(hs:(zs.take n).Pairwise (·≤·)) :
    C0 65 #[.slice (some ⟨b,off,none⟩) n c,V0 x] w fun e w'=>e=.returned (.tuple #[V0 ((zs.take n).countP (·<x):Nat),.bool ((zs.take n).contains x)])∧∃ q,w'=w.drewN q:=AnyG.slices_BinarySearch_int Cx b off n c zs x w hz hbig hc hs
end Go.Proofs.YthhilbkandcbmaaGreatDoor
namespace Go.Proofs.YthhilbkandcbmaaGreatDoor
set_option maxHeartbeats 8000000
set_option maxRecDepth 100000
open Go.RowKit Go.Extern.Stop Go.Stop Go.Extern
set_option linter.unusedVariables false
attribute [local irreducible] wpList wpAnyH Code.wp Oper.wp Go
theorem Pt(w:World)(q:Nat):B3 w (w.drewN q):=⟨rfl,rfl,rfl,Nat.le_refl _,fun _ _=>rfl⟩
def BsP (K:List Int)(key:Int)(w:World)(e:Ending)(w':World):Prop :=
 (key∈K∧∃ c,trC K key=c+1∧c<K.length∧e=.returned (.tuple #[V0 (c:Int),.bool true])∧B3 w w') ∨
 (key∉K∧trC K key=0∧e=.returned (.tuple #[V0 0,.bool false])∧B3 w w') ∨
 (key∉K∧∃ c,trC K key=c+1∧c<K.length∧e=.returned (.tuple #[V0 ((c+1:Nat):Int),.bool false])∧B3 w w')
theorem Zhj(p:O0)(c:Nat)(x:Int)(w:World) :
 C0 65 #[.slice p 0 c,V0 x] w (Ret (.tuple #[V0 0,.bool false]) w):=by
 refine zin 54 Tryz.func65 ?_
 refine xu 22 1 ?_
 exact xe 44 (.tuple #[V0 0,.bool false]) ⟨rfl,(B4 w)⟩
theorem Rx{base n:Nat}{p:O0}{c:Nat}{K:List Int}(key:Int)(w:World)(hl:K.length=n)(hn:n≤1000000)(hs:K.Pairwise (·<·))(ho:w.ownsRow base 3 1 (.slice p n c) n (K.map V0)) :
 C0 65 #[.slice p n c,V0 key] w (BsP K key w):=by
 subst hl
 have hI:Ints w (.slice p K.length c) K:=Zd ho
 have a0:=trC_lt hs key
 have a2:=Zdv K key
 rcases ho.2 with ⟨h1,h2⟩|⟨g,a7,a5,hv,hb,hh,a4,a1,a6,a3⟩
 ·have hL:K=[]:=List.eq_nil_of_length_eq_zero h2
  subst hL
  refine(Zhj p c key w).mono ?_
  rintro e W ⟨rfl,hb⟩
  exact .inr (.inl ⟨by simp,by simp[trC],rfl,hb⟩)
 ·simp only[Value.slice.injEq] at hv
  obtain⟨rfl,_,rfl⟩:=hv
  refine(Hb g 0 K.length _ K key w (Nat.le_refl _) (by omega) (fun j hj=>?_) ?_).mono ?_
  ·have q:=(Ints.elem hI (k:=j) hj).2
   rw[Nat.mul_one] at q
   have e:Xe (S1 g) j=⟨g,0+j,none⟩:=Cq g 0 j
   rw[←e];exact q
  ·rw[List.take_length];exact hs.imp fun h=>by omega
  ·rintro e W ⟨rfl,q,rfl⟩
   rw[List.take_length]
   by_cases hm:key∈K
   ·rw[if_pos hm] at a0
    exact .inl ⟨hm,_,a0,by omega,by rw[List.contains_iff_mem.2 hm],Pt w q⟩
   ·rw[if_neg hm,Nat.add_zero] at a0
    rw[←a0,show K.contains key=false from by simpa using hm]
    cases h0:trC K key with
    | zero=>exact .inr (.inl ⟨hm,h0,rfl,Pt w q⟩)
    | succ c=>exact .inr (.inr ⟨hm,c,h0,by omega,rfl,Pt w q⟩)
theorem Pm(w:World) :
 C0 68 #[] w (Qd (fun w' r=>∃ b,r=.slice (S1 b) 1 1∧w.heap.size≤b∧Blk w' b [V0 8,V0 0,V0 1099511627775] 234) w):=by
 refine zin 3 Tryz.func68 ?_
 refine xbs 8 1 [V0 8,V0 0,V0 1099511627775] 234 fun b1 W1 n1=>?_
 exact xe 4 (.slice (S1 b1) 1 1) ⟨_,rfl,n1.below,b1,rfl,(n1.ge (B4 w)),n1.blk⟩
theorem map_shr(s:Bl):Int.fdiv (↑((Ja Yz s).getD 0 0):Int) (2 ^ 24)=(Um s:Int):=by
 show Int.fdiv ((Za7 s:Nat):Int) ((16777216:Nat):Int)=_
 rw[Int.fdiv_eq_ediv_of_nonneg _ (by omega)]
 unfold Um;omega
theorem map_and(s:Bl):IntKind.i64.wrap (↑(BitVec.ofInt 64 (↑((Ja Yz s).getD 0 0):Int) &&& BitVec.ofInt 64 (16777215:Int)).toNat:Int)=(Ws s:Int):=by
 show IntKind.i64.wrap (↑(BitVec.ofInt 64 (Za7 s:Int) &&& BitVec.ofInt 64 (16777215:Int)).toNat:Int)=(Ws s:Int)
 have:=mapN_bd s
 rw[show(16777215:Int)=((16777215:Nat):Int) from rfl,BitVec.ofInt_natCast,BitVec.ofInt_natCast,BitVec.toNat_and,BitVec.toNat_ofNat,BitVec.toNat_ofNat,Nat.mod_eq_of_lt (by omega),Nat.mod_eq_of_lt (by omega)]
 rw[show Za7 s &&& 16777215=Za7 s%16777216 from Nat.and_two_pow_sub_one_eq_mod (Za7 s) 24]
 exact Jt (by omega)
theorem Tj(s:Bl)(w:World)(hs:s.length≤1000) :
 C0 34 #[.string ⟨s.toArray⟩] w (Ret (.tuple #[V0 (↑(Um s):Int),V0 (↑(Ws s):Int),V0 (Xo Yz s)]) w):=by
 refine zin 22 Tryz.func34 ?_
 refine xc 9 (args:=#[]) (Pm _) ?_
 rintro _ W1 ⟨_,rfl,a1,gl,rfl,gg,kl⟩
 refine xc 1 (args:=#[.slice (S1 gl) 1 1,.string ⟨s.toArray⟩]) (Zbp Yz s (S1 gl) 1 _ Zct (by decide) (by omega) (kl.sl 1 1 (by decide) (by decide))) ?_
 rintro _ W2 ⟨_,rfl,a2,p5,c5,rfl,h5⟩
 refine xd 8 .z ?_
 have a0:=Zb (Ze h5 a1.size) (Za W2)
 refine xx (.e [0] 1) _ 1 0 1 (Zl (l:=Ja Yz s) (Zd a0) (Md _ _) (k:=0) (by decide)).1 ?_
 refine xl (.e [] 2) ((Zl (l:=Ja Yz s) (Zd a0) (Md _ _) (k:=0) (by decide)).2) ?_
 refine xq (.e [] 3) (congrArg V0 (show(Int.fdiv (↑((Ja Yz s).getD 0 0):Int) (2 ^ 24):Int)=(↑(Um s):Int) from map_shr s)) ?_
 refine xx (.e [4] 5) _ 1 0 1 (Zl (l:=Ja Yz s) (Zd a0) (Md _ _) (k:=0) (by decide)).1 ?_
 refine xl (.e [] 6) ((Zl (l:=Ja Yz s) (Zd a0) (Md _ _) (k:=0) (by decide)).2) ?_
 refine xq (.e [] 7) (congrArg V0 (show(IntKind.i64.wrap (↑(BitVec.ofInt 64 (↑((Ja Yz s).getD 0 0):Int) &&& BitVec.ofInt 64 (16777215:Int)).toNat:Int):Int)=(↑(Ws s):Int) from map_and s)) ?_
 have hB:=bln (bln a1 a2) (Za W2)
 exact xe (.r [8,9,10,11] 3) (.tuple #[V0 (↑(Um s):Int),V0 (↑(Ws s):Int),V0 (Xo Yz s)]) ⟨rfl,hB⟩
theorem Pk(w:World) :
 C0 156 #[] w (Qd (fun w' r=>∃ b,r=.slice (S1 b) 4 4∧w.heap.size≤b∧Blk w' b [V0 8,V0 0,V0 16384,V0 8,V0 0,V0 2147483647,V0 4,V0 0,V0 16777215,V0 4,V0 0,V0 16777215] 234) w):=by
 refine zin 6 Tryz.func156 ?_
 refine xbs 11 4 [V0 8,V0 0,V0 16384,V0 8,V0 0,V0 2147483647,V0 4,V0 0,V0 16777215,V0 4,V0 0,V0 16777215] 234 fun b1 W1 n1=>?_
 exact xe 4 (.slice (S1 b1) 4 4) ⟨_,rfl,n1.below,b1,rfl,(n1.ge (B4 w)),n1.blk⟩
def trR (r:List Int×Tr):Int:=match r with
 | (_,.val s)=>(Xi s:Int)
 | _=>0
def trM (r:List Int×Tr):List Value:=match r with
 | (_,.val s)=>[S0,.bool (Xo Yz s==0),V0 (Um s:Int),V0 (Ws s:Int)]
 | _=>[S0,.bool false,V0 0,V0 0]
def All1P(B br:Nat)(s:Bl)(rv:Value)(rn:Nat)(rx:List Value)(w:World)(e:Ending)(w':World):Prop:=e=.returned (V0 (Xl s))∧Below B w w'∧Zg [3] w w'∧Blk w' br [V0 (Xi s:Int)] 3∧w'.ownsRow B 3 1 rv rn rx
def All2P(B br:Nat)(s:Bl)(w:World)(e:Ending)(w':World):Prop:=e=.returned (V0 (Xo Yz s))∧Below B w w'∧Zg [30] w w'∧Blk w' br [S0,.bool (Xo Yz s==0),V0 (Um s:Int),V0 (Ws s:Int)] 30∧BelowBut w br w'
structure KeepD(br:Nat)(a w:World):Prop where
 h:∀ k cs,k≠br→Blk a k cs 30→Blk w k cs 30
theorem KeepD.refl(br:Nat)(w:World):KeepD br w w:=⟨fun _ _ _ h=>h⟩
theorem KeepD.below{br:Nat}{a w W:World}(h:KeepD br a w)(hb:B3 w W):KeepD br a W:=⟨fun k cs hk q=>(h.h k cs hk q).below hb⟩
theorem KeepD.only{br:Nat}{a w W:World}{T:List TypeId}(h:KeepD br a w)(hO:Zg T w W)(hT:T.contains 30=false):KeepD br a W:=⟨fun k cs hk q=>(h.h k cs hk q).only hO hT⟩
theorem KeepD.but{br:Nat}{a w W:World}(h:KeepD br a w)(hb:BelowBut w br W):KeepD br a W:=⟨fun k cs hk q=>hb.blk (h.h k cs hk q) hk⟩
def Zaw(g:Bl→Int)(C:List Value)(tc:TypeId)(R:List Int×Tr)(T:List TypeId)(K:World→World→Prop)(B bx br:Nat)(c0:Value)(w:World)(e:Ending)(w':World):Prop :=
 ((trE g R).2≠0∧∃ ty x p c,e=.returned (.iface ty x)∧Below B w w'∧Zg T w w'∧K w w'∧Blk w' bx [c0,.slice p R.1.length c] 65∧w'.ownsRow B 3 1 (.slice p R.1.length c) R.1.length (R.1.map V0)∧Blk w' br C tc∧Kv w' ((trE g R).1.map some) (some (trE g R).2) (.iface ty x)) ∨
 ((trE g R).2=0∧∃ p c,e=.returned .nilIface∧Below B w w'∧Zg T w w'∧K w w'∧Blk w' bx [c0,.slice p R.1.length c] 65∧w'.ownsRow B 3 1 (.slice p R.1.length c) R.1.length (R.1.map V0)∧Blk w' br C tc)
theorem Lg{l:Bl}{t key no:Int}{way:List Int}{R:List Int×Tr}{k:Nat}(hk:k=0)(h:R=Zj l t key k way no):R=(way,.bad (way++[no]) 10):=by subst hk;rw[h,Zj]
theorem Du{l:Bl}{t key no:Int}{way:List Int}{R:List Int×Tr}{k:Nat}(hk:k≠0)(h:R=Zj l t key k way no)(hne:Zy l no t≠0):R=(way,.bad (way++[no]) (Zy l no t)):=by
 obtain⟨d,rfl⟩:∃ d,k=d+1:=⟨k-1,by omega⟩
 rw[h,Zj,if_pos hne]
theorem Vg{l:Bl}{t key no:Int}{way:List Int}{R:List Int×Tr}{k:Nat}(hk:k≠0)(h:R=Zj l t key k way no)(hne:Zy l no t=0)(h0:trC (Fy l no) key=0):R=(way++[no],.no):=by
 obtain⟨d,rfl⟩:∃ d,k=d+1:=⟨k-1,by omega⟩
 rw[h,Zj,if_neg (by rw[hne];decide),if_pos h0]
theorem Nd{l:Bl}{t key no:Int}{way:List Int}{R:List Int×Tr}{k:Nat}(hk:k≠0)(h:R=Zj l t key k way no)(hne:Zy l no t=0)(hl:Yb (inB l no)=true)(hm:key∉Fy l no):R=(way++[no],.no):=by
 obtain⟨d,rfl⟩:∃ d,k=d+1:=⟨k-1,by omega⟩
 rw[h,Zj,if_neg (by rw[hne];decide)]
 by_cases h0:trC (Fy l no) key=0
 ·rw[if_pos h0]
 ·rw[if_neg h0,if_pos hl,if_neg hm]
theorem Uq{l:Bl}{t key no:Int}{way:List Int}{R:List Int×Tr}{k:Nat}{z:Bl}(hk:k≠0)(h:R=Zj l t key k way no)(hne:Zy l no t=0)(hl:Yb (inB l no)=true)(hm:key∈Fy l no)(h0:trC (Fy l no) key≠0)(hz:trV l no key=z):R=(way++[no],.val z):=by
 obtain⟨d,rfl⟩:∃ d,k=d+1:=⟨k-1,by omega⟩
 rw[h,Zj,if_neg (by rw[hne];decide),if_neg h0,if_pos hl,if_pos hm,hz]
theorem Ut{l:Bl}{t key no:Int}{way:List Int}{R:List Int×Tr}{k:Nat}{z:Bl}(hk:k≠0)(h:R=Zj l t key k way no)(hne:Zy l no t=0)(hl:Yb (inB l no)=false)(h0:trC (Fy l no) key≠0)(hz:trV l no key=z)(hr:Xl z≠0):R=(way++[no],.bad (way++[no]) (Xl z)):=by
 obtain⟨d,rfl⟩:∃ d,k=d+1:=⟨k-1,by omega⟩
 rw[h,Zj,if_neg (by rw[hne];decide),if_neg h0,if_neg (by rw[hl];decide),hz,if_pos hr]
theorem Np{l:Bl}{t key no:Int}{way:List Int}{R:List Int×Tr}{k d:Nat}{z:Bl}(hk:k=d+1)(h:R=Zj l t key k way no)(hne:Zy l no t=0)(hl:Yb (inB l no)=false)(h0:trC (Fy l no) key≠0)(hz:trV l no key=z)(hr:Xl z=0):R=Zj l t key d (way++[no]) (Xi z:Int):=by
 subst hk
 rw[h,Zj,if_neg (by rw[hne];decide),if_neg h0,if_neg (by rw[hl];decide),hz,if_neg (fun q=>q hr)]
theorem trE_v{g:Bl→Int}{w:List Int}{z:Bl}(h:g z≠0):trE g (w,.val z)=(w,g z):=if_pos h
theorem trE_v0{g:Bl→Int}{w:List Int}{z:Bl}(h:g z=0):trE g (w,.val z)=([],0):=if_neg fun q=>q h
theorem node_ap{l:Bl}{no tree:Int}{base n size:Nat}{ty:TypeId}{v:Value}{xs:List Value}{V:World}{e:Ending}{w':World}(k:V.ownsRow base ty size v n xs)(h:Tp l no tree V e w') :
 (Zy l no tree≠0∧∃ b,e=.returned (.tuple #[.agg #[V0 0,.bool false,S0,S0],.iface 113 (P0 b)])∧Below V.heap.size V w'∧Kv w' [some no] (some (Zy l no tree)) (.iface 113 (P0 b))) ∨
 (Zy l no tree=0∧∃ kp kc vp vc,e=.returned (.tuple #[.agg #[V0 (Yx (inB l no)),.bool (Yb (inB l no)),.slice kp (Xf (inB l no)) kc,.slice vp (Xf (inB l no)) vc],.nilIface])∧Below V.heap.size V w' ∧
 w'.ownsRow V.heap.size 3 1 (.slice kp (Xf (inB l no)) kc) (Xf (inB l no)) ((Fy l no).map V0)∧w'.ownsRow V.heap.size 9 1 (.slice vp (Xf (inB l no)) vc) (Xf (inB l no)) ((Qb l no).map sv)∧Hr v (.slice kp (Xf (inB l no)) kc)):=by
 rcases h with ⟨h1,b,h2,h3,h4⟩|⟨h1,kp,kc,vp,vc,h2,h3,h4,h5⟩
 ·exact .inl ⟨h1,b,h2,h3,h4⟩
 ·exact .inr ⟨h1,kp,kc,vp,vc,h2,h3,h4,h5,Hr.of_lt k h4 (Nat.le_refl _)⟩
theorem only_w1{w w':World}(h:Zg [3] w w'):Zg [65,3,32] w w':=h.mono fun t ht=>by
 simp only[List.contains_cons,List.contains_nil,Bool.or_eq_false_iff] at ht ⊢
 exact⟨ht.2.1,trivial⟩
theorem only_w2{w w':World}(h:Zg [30] w w'):Zg [65,3,32,30] w w':=h.mono fun t ht=>by
 simp only[List.contains_cons,List.contains_nil,Bool.or_eq_false_iff] at ht ⊢
 exact⟨ht.2.2.2.1,trivial⟩
theorem Ls{w w':World}(h:Zg [65,3,32] w w'):Zg [65,3,32,30] w w':=h.mono fun t ht=>by
 simp only[List.contains_cons,List.contains_nil,Bool.or_eq_false_iff] at ht ⊢
 exact⟨ht.1,ht.2.1,ht.2.2.1,trivial⟩
theorem Lw(w:World)(c:Int):Kv w (([]:List Int).map some) (some c) (.iface 75 (V0 c)):=rfl
theorem tr_all1(B br:Nat)(s:Bl)(x:Int)(rv:Value)(rn:Nat)(rx:List Value)(w:World)(hs:s.length≤1000)(kr:Blk w br [V0 x] 3)(hBr:B≤br)(hBw:B≤w.heap.size)(hrow:w.ownsRow B 3 1 rv rn rx)(hsr:∀ j,rv.ownBlock=some j→j≠br) :
 C0 31 #[.string ⟨s.toArray⟩,P0 br] w (All1P B br s rv rn rx w):=by
 refine zin 10 Tryz.func31 ?_
 refine xr 8 (args:=#[.string ⟨s.toArray⟩]) (Qz s _ hs) fun W1 a1=>?_
 have a0:=kr.below a1
 refine xs 3 a0 [V0 (↑(Xi s):Int)] fun W2 u2 k2=>?_
 have hB:=u2.below (blB (Below.refl B w) hBw a1) hBr
 have hO:=(show Zg [3] w _ from(Zg.of_below a1)).trans (Zg.of_upd u2 a0 (by decide))
 exact xe 10 (V0 (Xl s)) ⟨rfl,hB,hO,k2,((a1.but _).upd u2).own3 hrow hsr⟩
theorem tr_all2(B br:Nat)(s:Bl)(w:World)(hs:s.length≤1000)(kr:Blk w br [S0,.bool false,V0 0,V0 0] 30)(hBr:B≤br)(hBw:B≤w.heap.size) :
 C0 33 #[.string ⟨s.toArray⟩,P0 br] w (All2P B br s w):=by
 refine zin 16 Tryz.func33 ?_
 refine xr 8 (args:=#[.string ⟨s.toArray⟩]) (Tj s _ hs) fun W1 a1=>?_
 have a0:=kr.below a1
 refine xs 5 a0 [S0,.bool false,V0 (↑(Um s):Int),V0 0] fun W2 u2 k2=>?_
 refine xs 1 k2 [S0,.bool false,V0 (↑(Um s):Int),V0 (↑(Ws s):Int)] fun W3 u3 k3=>?_
 refine xs 8 k3 [S0,.bool ((Xo Yz s)==(0:Int)),V0 (↑(Um s):Int),V0 (↑(Ws s):Int)] fun W4 u4 k4=>?_
 have hB:=u4.below (u3.below (u2.below (blB (Below.refl B w) hBw a1) hBr) hBr) hBr
 have hO:=(((show Zg [30] w _ from(Zg.of_below a1)).trans (Zg.of_upd u2 a0 (by decide))).trans (Zg.of_upd u3 k2 (by decide))).trans (Zg.of_upd u4 k3 (by decide))
 exact xe 9 (V0 (Xo Yz s)) ⟨rfl,hB,hO,k4,(((a1.but _).upd u2).upd u3).upd u4⟩
theorem tr_find1(B Bi b bx br:Nat)(p:O0)(n c:Nat)(l:Bl)(key no0:Int)(way0:List Int)(pw0:O0)(cw0:Nat)(w:World)(hBx:B≤bx)(hBr:B≤br)(hBw:B≤w.heap.size)(kx:Blk w bx [P0 b,.slice pw0 way0.length cw0] 65)(kr:Blk w br [V0 0] 3)(hway:w.ownsRow B 3 1 (.slice pw0 way0.length cw0) way0.length (way0.map V0))(hI:ImgR Bi b p n c l w)(hwl:way0.length≤100000)(hsep0:∀ j,(Value.slice pw0 way0.length cw0).ownBlock=some j→j≠br) :
 C0 30 #[P0 bx,V0 no0,V0 1,V0 key,.func (.func 31) #[] #[P0 br]] w (Zaw Xl ((fun r=>[Value.int .i64 (trR r)]) (Zj l 1 key 16 way0 no0)) 3 (Zj l 1 key 16 way0 no0) [65,3,32] (fun _ _=>True) B bx br (P0 b) w):=by
 refine zin 98 Tryz.func30 ?_
 have hB:=Below.refl B w
 refine zl 11 98 (fun zm q7 V=>∃ (i:Nat) (no:Int) (c0:List Int) (pw:O0) (cw:Nat),q7=[(0,P0 bx),(1,V0 no),(2,V0 1),(3,V0 key),(4,.func (.func 31) #[] #[P0 br]),(11,V0 (i:Int))]∧zm=16-((i:Int)).toNat∧Below B w V∧Zg [65,3,32] w V∧Blk V bx ([P0 b,.slice pw c0.length cw]) 65∧Blk V br ([V0 0]) 3∧ImgR Bi b p n c l V∧V.ownsRow B 3 1 (.slice pw c0.length cw) c0.length (c0.map V0)∧(∀ j,(Value.slice pw c0.length cw).ownBlock=some j→j≠br)∧i≤16∧c0.length≤100000+i∧(Zj l 1 key 16 way0 no0)=Zj l 1 key (16-i) c0 no) ⟨0,no0,way0,pw0,cw0,rfl,rfl,hB,(Zg.refl _ _),kx,kr,hI,hway,?_,by decide,by omega,rfl⟩ ?_
 ·exact hsep0
 rintro _ _ W1 ⟨i,no,c0,pw,cw,rfl,rfl,c3,b0,d2,e8,hI,hway,b5,hi,hwl,d5⟩ J1 q1 r1
 refine xid 9 ((i:Int)≥(16:Int)) (fun q3=>?_) (fun q3=>?_)
 ·refine xc 5 (args:=#[V0 no,.iface 75 (V0 10)]) (Di no (some 10) [] _ _ rfl) ?_
  rintro _ W3 ⟨r3,rfl,k5,p1⟩
  rw[Tg] at p1
  obtain⟨t3,x3,rfl⟩:=p1.iface
  have c1:=Zb hway k5
  have d4:=d2.below k5
  refine xc 0 (args:=#[P0 bx,.iface t3 (x3)]) (Ym bx _ _ _ c0 [no] 10 _ _ _ d4 (Zd c1) (fun b n5 x q=>by have q2:=c1;rw[q] at q2;exact(q2.lt b rfl).2) p1 (by first|omega|(simp;omega))) ?_
  rintro _ W4 ⟨f4,x9,rfl,m1,d6⟩
  have i0:=Zb c1 m1
  have f8:=d4.below m1
  have g0:=(e8.below k5).below m1
  have p4:=blB (blB c3 hBw k5) hBw m1
  have o4:=(b0.trans (Zg.of_below k5)).trans (Zg.of_below m1)
  refine xe 9 (.iface f4 (x9)) ?_
  have hR:=Lg (by omega) d5
  rw[hR]
  exact .inl ⟨(show(10:Int)≠0 by decide),_,_,_,_,rfl,p4,o4,trivial,f8,i0,g0,d6⟩
 refine xb 7 0 d2 ?_
 refine xc 2 (args:=#[P0 b,V0 no,V0 1]) ((Sd Bi b p n c l no 1 _ hI).mono (fun _ _ h=>node_ap hway h)) ?_
 rintro e W5 q6
 rcases q6 with ⟨c6,bf,rfl,b3,q4⟩|⟨c6,kp,kc,vp,vc,rfl,b3,hk,o8,i1⟩
 ·refine xa 3 [V0 0,.bool false,S0,S0] 140 fun b6 W6 n6=>?_
  have l7:=blB c3 hBw b3
  have g6:=n6.ge0 l7
  refine xsv 0 n6.blk [V0 0,.bool false,S0,S0] fun W7 u7 k7=>?_
  have m2:=(q4.below n6.below).upd u7 n6.blk (by decide)
  have c2:=u7.own2 (Zb (Zb hway b3) n6.below) n6.blk (by decide)
  have c9:=u7.blkT ((d2.below b3).below n6.below) n6.blk (by decide)
  refine xc 15 (args:=#[P0 bx,.iface 113 (P0 bf)]) (Ym bx _ _ _ c0 [no] (Zy l no 1) _ _ _ c9 (Zd c2) (fun b n5 x q=>by have q2:=c2;rw[q] at q2;exact(q2.lt b rfl).2) m2 (by first|omega|(simp;omega))) ?_
  rintro _ W8 ⟨f4,x9,rfl,j7,d6⟩
  have i3:=Zb c2 j7
  have g5:=c9.below j7
  have f3:=(u7.blkT ((e8.below b3).below n6.below) n6.blk (by decide)).below j7
  have n7:=blB (u7.below (blB l7 hBw n6.below) (Nat.le_trans hBw g6)) hBw j7
  have p5:=(Zg.upd_new ((b0.trans (Zg.of_below b3)).trans (Zg.of_below n6.below)) u7 g6).trans (Zg.of_below j7)
  refine xe 9 (.iface f4 (x9)) ?_
  have hR:=Du (show 16-i≠0 by omega) d5 c6
  rw[hR]
  exact .inl ⟨c6,_,_,_,_,rfl,n7,p5,trivial,g5,i3,f3,d6⟩
 have q5:=As l no
 have i9:(Qb l no).length=(Xf (inB l no)):=by simp[Qb,Vx]
 have s3:(Xf (inB l no))≤18:=Nat.le_trans (Vf (Gm (Jp (Jg c6).2))) (Zcl _ _)
 refine xa 3 [V0 0,.bool false,S0,S0] 140 fun b9 W9 n9=>?_
 have k4:=blB c3 hBw b3
 have g9:=n9.ge0 k4
 refine xsv 0 n9.blk [V0 (Yx (inB l no)),.bool (Yb (inB l no)),.slice kp (Xf (inB l no)) kc,.slice vp (Xf (inB l no)) vc] fun r2 b7 r0=>?_
 have c7:=b7.blkT ((d2.below b3).below n9.below) n9.blk (by decide)
 refine xb 19 1 c7 ?_
 refine xbs 1 1 [V0 no] 3 fun q8 r8 a8=>?_
 have c8:=b7.blkT ((e8.below b3).below n9.below) n9.blk (by decide)
 have o5:=a8.ne c8
 have k8:=b7.below (blB k4 hBw n9.below) (Nat.le_trans hBw g9)
 have r5:=a8.ge0 k8
 have e1:=b7.own2 (Zb (Zb hway b3) n9.below) n9.blk (by decide)
 have m5:=Xa e1 a8
 have j9:=b7.own2 (Zb (Ze hk c3.size) n9.below) n9.blk (by decide)
 have p3:=Xa j9 a8
 have a4:=c8.below a8.below
 have q0:=a4.lt
 have a2:=Zb e1 a8.below
 have b4:=blB k8 hBw a8.below
 refine xbi 0 fun _ _ _ _ zJ zQ zo zx zy zK=>Ur (b:=q8) (c:=1) (m:=1) (news:=[V0 no]) (V0 0) 1 8 ((c0++[no]).length) (((c0++[no]).map V0)) zo Tryz.underlying28 (by kernel_rfl) rfl (by decide) zx a2 zy a8.blk rfl (by simp[Value.oneCell']) (by unfold maxLen;omega) (by omega) (Nat.le_trans hBw b4.size) (by simp) (by simp) fun k3 l6 r6 g1 a3 b8 l4=>?_
 have n3:=Zb j9 a8.below
 have h9:=i1.row n3 a3
 replace i1:=(i1.grow n3 l4)
 have m4:=h9
 refine zK _ _ ?_
 have a0:=(c7.below a8.below).grown a3 a2 (by decide)
 refine xs 2 a0 [P0 b,.slice k3 ((c0++[no]).length) l6] fun r7 a6 f2=>?_
 have e5:=a6.blkT ((r0.below a8.below).grown a3 a2 (by decide)) a0 (by decide)
 refine xb 5 2 e5 ?_
 have e2:∀ j,(Value.slice k3 ((c0++[no]).length) l6).ownBlock=some j→j≠br:=fun j hj=>l4.elim (fun e=>b5 j (e▸hj)) (fun e=>by rw[e] at hj;cases hj;omega)
 have o6:=a6.own2 m4 a0 (by decide)
 refine xc 1 (args:=#[.slice kp (Xf (inB l no)) kc,V0 key]) (Rx key _ q5 (by omega) (Uz c6) o6) ?_
 rintro e r4 o7
 rcases o7 with ⟨hm,cc,d1,q9,rfl,a1⟩|⟨hm,d1,rfl,a1⟩|⟨hm,cc,d1,q9,rfl,a1⟩
 ·refine xg 23 [63,64] (decide ((cc:Int)<(0:Int))) (fun c4=>?_) (fun c4=>?_)
  ·have c4:=of_decide_eq_true c4
   have h4:=c4
   have k0:=Zb (a6.own2 g1 a0 (by decide)) a1
   have j1:=f2.below a1
   have f5:=(a6.blk (a4.grown3 a3 b5) (Ne.symm (by rintro rfl;exact absurd (Blk.ty kx kr) (by decide)))).below a1
   have o2:=blB (a6.below (b4.trans b8) hBx) hBw a1
   have p6:=((((Zg.upd_new ((b0.trans (Zg.of_below b3)).trans (Zg.of_below n9.below)) b7 g9).trans (Zg.of_below a8.below)).trans (Zg.of_grown a3 a2 (by decide))).trans (Zg.of_upd a6 a0 (by decide))).trans (Zg.of_below a1)
   refine xe 21 .nilIface ?_
   first|(exfalso;omega)|(have hR:=Vg (show 16-i≠0 by omega) d5 c6 (by omega);rw[hR];exact .inr ⟨rfl,_,_,rfl,o2,p6,trivial,j1,k0,f5⟩)
  have c4:=of_decide_eq_false c4
  have h4:=c4
  have b2:=e5.below a1
  refine xb 1 1 b2 ?_
  refine xg 1 [66,67] (Yb (inB l no)) (fun h3=>?_) (fun h3=>?_)
  ·have a5:Yb (inB l no)=true:=h3
   refine xb 18 1 b2 ?_
   refine xk 2 (show((Yb (inB l no)):Bool)=true from a5) ?_
   refine xb 3 3 b2 ?_
   have g7:=Zb (a6.own2 (Xc (Zb (b7.own2 (Zb (Ze o8 c3.size) n9.below) n9.blk (by decide)) a8.below) a3 a2 (by decide)) a0 (by decide)) a1
   refine xx 1 _ (Xf (inB l no)) cc 1 (Strs.elem (Zd g7) i9 (k:=cc) (by omega)).1 ?_
   refine xl 0 ((Strs.elem (Zd g7) i9 (k:=cc) (by omega)).2) ?_
   have g2:=(a6.blk (a4.grown3 a3 b5) (Ne.symm (by rintro rfl;exact absurd (Blk.ty kx kr) (by decide)))).below a1
   have l1:=Zb (a6.own2 g1 a0 (by decide)) a1
   have i7:=blB (a6.below (b4.trans b8) hBx) hBw a1
   refine xc 0 (args:=#[.string ⟨((Qb l no).getD cc []).toArray⟩,P0 br]) (tr_all1 B br ((Qb l no).getD cc []) 0 _ _ _ _ (Qo _ _ _) g2 hBr (Nat.le_trans hBw i7.size) l1 e2) ?_
   rintro _ s2 ⟨rfl,j2,d8,p9,d0⟩
   refine xin 10 (Xl ((Qb l no).getD cc [])) (0:Int) (fun h7=>?_) (fun h7=>?_)
   ·have a7:=h7
    have h1:=(f2.below a1).only d8 (by decide)
    refine xc 5 (args:=#[P0 bx,.iface 75 (V0 (Xl ((Qb l no).getD cc [])))]) (Ym bx _ _ _ (c0++[no]) [] _ _ _ _ h1 (Zd d0) (fun b n5 x q=>by have q2:=d0;rw[q] at q2;exact(q2.lt b rfl).2) (Lw _ _) (by first|omega|(simp;omega))) ?_
    rintro _ s4 ⟨f4,x9,rfl,e7,d6⟩
    rw[List.append_nil] at d6
    have f7:=Zb d0 e7
    have j8:=h1.below e7
    have m3:=p9.below e7
    have o3:=blB (i7.trans j2) hBw e7
    have p0:=((((((Zg.upd_new ((b0.trans (Zg.of_below b3)).trans (Zg.of_below n9.below)) b7 g9).trans (Zg.of_below a8.below)).trans (Zg.of_grown a3 a2 (by decide))).trans (Zg.of_upd a6 a0 (by decide))).trans (Zg.of_below a1)).trans (only_w1 d8)).trans (Zg.of_below e7)
    refine xe 9 (.iface f4 (x9)) ?_
    have hR:=Uq (show 16-i≠0 by omega) d5 c6 a5 hm (by omega) (show trV l no key=(Qb l no).getD cc [] from by unfold trV Qb;first|(rw[d1,Nat.add_sub_cancel])|rw[d1])
    rw[hR]
    unfold Zaw
    rw[trE_v a7]
    exact .inl ⟨a7,_,_,_,_,rfl,o3,p0,trivial,j8,f7,m3,d6⟩
   have a7:=h7
   have m7:=b2.only d8 (by decide)
   refine xb 5 1 m7 ?_
   refine xk 2 (show((Yb (inB l no)):Bool)=true from a5) ?_
   have k6:=(f2.below a1).only d8 (by decide)
   have l2:=i7.trans j2
   have o9:=(((((Zg.upd_new ((b0.trans (Zg.of_below b3)).trans (Zg.of_below n9.below)) b7 g9).trans (Zg.of_below a8.below)).trans (Zg.of_grown a3 a2 (by decide))).trans (Zg.of_upd a6 a0 (by decide))).trans (Zg.of_below a1)).trans (only_w1 d8)
   refine xe 10 .nilIface ?_
   have hR:=Uq (show 16-i≠0 by omega) d5 c6 a5 hm (by omega) (show trV l no key=(Qb l no).getD cc [] from by unfold trV Qb;first|(rw[d1,Nat.add_sub_cancel])|rw[d1])
   rw[hR]
   unfold Zaw
   rw[trE_v0 (by first|exact a7|exact Decidable.not_not.1 a7|omega)]
   exact .inr ⟨rfl,_,_,rfl,l2,o9,trivial,k6,d0,p9⟩
  have a5:Yb (inB l no)=false:=h3
  refine xb 18 1 b2 ?_
  refine xk 2 (show((Yb (inB l no)):Bool)=false from a5) ?_
  refine xb 2 3 b2 ?_
  have h0:=Zb (a6.own2 (Xc (Zb (b7.own2 (Zb (Ze o8 c3.size) n9.below) n9.blk (by decide)) a8.below) a3 a2 (by decide)) a0 (by decide)) a1
  refine xx 1 _ (Xf (inB l no)) cc 1 (Strs.elem (Zd h0) i9 (k:=cc) (by omega)).1 ?_
  refine xl 0 ((Strs.elem (Zd h0) i9 (k:=cc) (by omega)).2) ?_
  refine xr 0 (args:=#[.string ⟨((Qb l no).getD cc []).toArray⟩]) (Qz ((Qb l no).getD cc []) _ (Qo _ _ _)) fun s0 b1=>?_
  refine xin 14 (Xl ((Qb l no).getD cc [])) (0:Int) (fun i5=>?_) (fun i5=>?_)
  ·have a7:=i5
   have d7:=Zb (Zb (a6.own2 g1 a0 (by decide)) a1) b1
   have g8:=(f2.below a1).below b1
   refine xc 5 (args:=#[P0 bx,.iface 75 (V0 (Xl ((Qb l no).getD cc [])))]) (Ym bx _ _ _ (c0++[no]) [] _ _ _ _ g8 (Zd d7) (fun b n5 x q=>by have q2:=d7;rw[q] at q2;exact(q2.lt b rfl).2) (Lw _ _) (by first|omega|(simp;omega))) ?_
   rintro _ s5 ⟨f4,x9,rfl,e3,d6⟩
   rw[List.append_nil] at d6
   have k9:=Zb d7 e3
   have j4:=g8.below e3
   have f9:=(((a6.blk (a4.grown3 a3 b5) (Ne.symm (by rintro rfl;exact absurd (Blk.ty kx kr) (by decide)))).below a1).below b1).below e3
   have j5:=blB (blB (blB (a6.below (b4.trans b8) hBx) hBw a1) hBw b1) hBw e3
   have o1:=((((((Zg.upd_new ((b0.trans (Zg.of_below b3)).trans (Zg.of_below n9.below)) b7 g9).trans (Zg.of_below a8.below)).trans (Zg.of_grown a3 a2 (by decide))).trans (Zg.of_upd a6 a0 (by decide))).trans (Zg.of_below a1)).trans (Zg.of_below b1)).trans (Zg.of_below e3)
   refine xe 9 (.iface f4 (x9)) ?_
   have hR:=Ut (show 16-i≠0 by omega) d5 c6 a5 (by omega) (show trV l no key=(Qb l no).getD cc [] from by unfold trV Qb;first|(rw[d1,Nat.add_sub_cancel])|rw[d1]) a7
   rw[hR]
   exact .inl ⟨a7,_,_,_,_,rfl,j5,o1,trivial,j4,k9,f9,d6⟩
  have a7:=i5
  have m0:=b2.below b1
  refine xb 5 1 m0 ?_
  refine xk 2 (show((Yb (inB l no)):Bool)=false from a5) ?_
  refine xwm 5 ((i:Int)+1) (↑(i+1):Int) ?_
  have n4:=Zb (Zb (a6.own2 g1 a0 (by decide)) a1) b1
  have k2:=blB (blB (a6.below (b4.trans b8) hBx) hBw a1) hBw b1
  have p2:=(((((Zg.upd_new ((b0.trans (Zg.of_below b3)).trans (Zg.of_below n9.below)) b7 g9).trans (Zg.of_below a8.below)).trans (Zg.of_grown a3 a2 (by decide))).trans (Zg.of_upd a6 a0 (by decide))).trans (Zg.of_below a1)).trans (Zg.of_below b1)
  have m6:=(f2.below a1).below b1
  have f6:=((a6.blk (a4.grown3 a3 b5) (Ne.symm (by rintro rfl;exact absurd (Blk.ty kx kr) (by decide)))).below a1).below b1
  have o0:=(((((((hI.below b3).below n9.below).only (Zg.of_upd (T:=[140]) b7 n9.blk (by decide)) (by decide)).below a8.below).only (Zg.of_grown (T:=[3]) a3 a2 (by decide)) (by decide)).only (Zg.of_upd (T:=[65]) a6 a0 (by decide)) (by decide)).below a1).below b1
  exact ze 2 (q1 _ _ _ ⟨i+1,_,(c0++[no]),_,_,rfl,rfl,k2,p2,m6,f6,o0,n4,e2,by omega,by simp;omega,Np (by omega) d5 c6 a5 (by omega) (show trV l no key=(Qb l no).getD cc [] from by unfold trV Qb;first|(rw[d1,Nat.add_sub_cancel])|rw[d1]) (by first|exact a7|exact Decidable.not_not.1 a7)⟩ (by omega))
 ·have j0:=Zb (a6.own2 g1 a0 (by decide)) a1
  have l5:=f2.below a1
  have g3:=(a6.blk (a4.grown3 a3 b5) (Ne.symm (by rintro rfl;exact absurd (Blk.ty kx kr) (by decide)))).below a1
  have m9:=blB (a6.below (b4.trans b8) hBx) hBw a1
  have n8:=((((Zg.upd_new ((b0.trans (Zg.of_below b3)).trans (Zg.of_below n9.below)) b7 g9).trans (Zg.of_below a8.below)).trans (Zg.of_grown a3 a2 (by decide))).trans (Zg.of_upd a6 a0 (by decide))).trans (Zg.of_below a1)
  refine xe 48 .nilIface ?_
  first|(exfalso;omega)|(have hR:=Vg (show 16-i≠0 by omega) d5 c6 (by omega);rw[hR];exact .inr ⟨rfl,_,_,rfl,m9,n8,trivial,l5,j0,g3⟩)
 refine xwm 17 ((↑(cc+1):Int)-1) (↑((cc+1)-1):Int) ?_
 refine xg 9 [63,64] (decide ((↑((cc+1)-1):Int)<(0:Int))) (fun c5=>?_) (fun c5=>?_)
 ·have c5:=of_decide_eq_true c5
  have h4:=c5
  have j3:=Zb (a6.own2 g1 a0 (by decide)) a1
  have j6:=f2.below a1
  have e0:=(a6.blk (a4.grown3 a3 b5) (Ne.symm (by rintro rfl;exact absurd (Blk.ty kx kr) (by decide)))).below a1
  have l3:=blB (a6.below (b4.trans b8) hBx) hBw a1
  have p8:=((((Zg.upd_new ((b0.trans (Zg.of_below b3)).trans (Zg.of_below n9.below)) b7 g9).trans (Zg.of_below a8.below)).trans (Zg.of_grown a3 a2 (by decide))).trans (Zg.of_upd a6 a0 (by decide))).trans (Zg.of_below a1)
  refine xe 21 .nilIface ?_
  first|(exfalso;omega)|(have hR:=Vg (show 16-i≠0 by omega) d5 c6 (by omega);rw[hR];exact .inr ⟨rfl,_,_,rfl,l3,p8,trivial,j6,j3,e0⟩)
 have c5:=of_decide_eq_false c5
 have h4:=c5
 have d3:=e5.below a1
 refine xb 1 1 d3 ?_
 refine xg 1 [66,67] (Yb (inB l no)) (fun i8=>?_) (fun i8=>?_)
 ·have a5:Yb (inB l no)=true:=i8
  have n0:=Zb (a6.own2 g1 a0 (by decide)) a1
  have h5:=f2.below a1
  have d9:=(a6.blk (a4.grown3 a3 b5) (Ne.symm (by rintro rfl;exact absurd (Blk.ty kx kr) (by decide)))).below a1
  have l0:=blB (a6.below (b4.trans b8) hBx) hBw a1
  have k1:=((((Zg.upd_new ((b0.trans (Zg.of_below b3)).trans (Zg.of_below n9.below)) b7 g9).trans (Zg.of_below a8.below)).trans (Zg.of_grown a3 a2 (by decide))).trans (Zg.of_upd a6 a0 (by decide))).trans (Zg.of_below a1)
  refine xe 18 .nilIface ?_
  have hR:=Nd (show 16-i≠0 by omega) d5 c6 a5 hm
  rw[hR]
  exact .inr ⟨rfl,_,_,rfl,l0,k1,trivial,h5,n0,d9⟩
 have a5:Yb (inB l no)=false:=i8
 refine xb 18 1 d3 ?_
 refine xk 2 (show((Yb (inB l no)):Bool)=false from a5) ?_
 refine xb 2 3 d3 ?_
 have h2:=Zb (a6.own2 (Xc (Zb (b7.own2 (Zb (Ze o8 c3.size) n9.below) n9.blk (by decide)) a8.below) a3 a2 (by decide)) a0 (by decide)) a1
 refine xx 1 _ (Xf (inB l no)) ((cc+1)-1) 1 (Strs.elem (Zd h2) i9 (k:=((cc+1)-1)) (by omega)).1 ?_
 refine xl 0 ((Strs.elem (Zd h2) i9 (k:=((cc+1)-1)) (by omega)).2) ?_
 refine xr 0 (args:=#[.string ⟨((Qb l no).getD ((cc+1)-1) []).toArray⟩]) (Qz ((Qb l no).getD ((cc+1)-1) []) _ (Qo _ _ _)) fun s1 a9=>?_
 refine xin 14 (Xl ((Qb l no).getD ((cc+1)-1) [])) (0:Int) (fun h6=>?_) (fun h6=>?_)
 ·have a7:=h6
  have e6:=Zb (Zb (a6.own2 g1 a0 (by decide)) a1) a9
  have e9:=(f2.below a1).below a9
  refine xc 5 (args:=#[P0 bx,.iface 75 (V0 (Xl ((Qb l no).getD ((cc+1)-1) [])))]) (Ym bx _ _ _ (c0++[no]) [] _ _ _ _ e9 (Zd e6) (fun b n5 x q=>by have q2:=e6;rw[q] at q2;exact(q2.lt b rfl).2) (Lw _ _) (by first|omega|(simp;omega))) ?_
  rintro _ r9 ⟨f4,x9,rfl,e4,d6⟩
  rw[List.append_nil] at d6
  have i6:=Zb e6 e4
  have h8:=e9.below e4
  have f1:=(((a6.blk (a4.grown3 a3 b5) (Ne.symm (by rintro rfl;exact absurd (Blk.ty kx kr) (by decide)))).below a1).below a9).below e4
  have l9:=blB (blB (blB (a6.below (b4.trans b8) hBx) hBw a1) hBw a9) hBw e4
  have l8:=((((((Zg.upd_new ((b0.trans (Zg.of_below b3)).trans (Zg.of_below n9.below)) b7 g9).trans (Zg.of_below a8.below)).trans (Zg.of_grown a3 a2 (by decide))).trans (Zg.of_upd a6 a0 (by decide))).trans (Zg.of_below a1)).trans (Zg.of_below a9)).trans (Zg.of_below e4)
  refine xe 9 (.iface f4 (x9)) ?_
  have hR:=Ut (show 16-i≠0 by omega) d5 c6 a5 (by omega) (show trV l no key=(Qb l no).getD ((cc+1)-1) [] from by unfold trV Qb;first|(rw[d1,Nat.add_sub_cancel])|rw[d1]) a7
  rw[hR]
  exact .inl ⟨a7,_,_,_,_,rfl,l9,l8,trivial,h8,i6,f1,d6⟩
 have a7:=h6
 have m8:=d3.below a9
 refine xb 5 1 m8 ?_
 refine xk 2 (show((Yb (inB l no)):Bool)=false from a5) ?_
 refine xwm 5 ((i:Int)+1) (↑(i+1):Int) ?_
 have i2:=Zb (Zb (a6.own2 g1 a0 (by decide)) a1) a9
 have n1:=blB (blB (a6.below (b4.trans b8) hBx) hBw a1) hBw a9
 have n2:=(((((Zg.upd_new ((b0.trans (Zg.of_below b3)).trans (Zg.of_below n9.below)) b7 g9).trans (Zg.of_below a8.below)).trans (Zg.of_grown a3 a2 (by decide))).trans (Zg.of_upd a6 a0 (by decide))).trans (Zg.of_below a1)).trans (Zg.of_below a9)
 have i4:=(f2.below a1).below a9
 have f0:=((a6.blk (a4.grown3 a3 b5) (Ne.symm (by rintro rfl;exact absurd (Blk.ty kx kr) (by decide)))).below a1).below a9
 have p7:=(((((((hI.below b3).below n9.below).only (Zg.of_upd (T:=[140]) b7 n9.blk (by decide)) (by decide)).below a8.below).only (Zg.of_grown (T:=[3]) a3 a2 (by decide)) (by decide)).only (Zg.of_upd (T:=[65]) a6 a0 (by decide)) (by decide)).below a1).below a9
 exact ze 2 (q1 _ _ _ ⟨i+1,_,(c0++[no]),_,_,rfl,rfl,n1,n2,i4,f0,p7,i2,e2,by omega,by simp;omega,Np (by omega) d5 c6 a5 (by omega) (show trV l no key=(Qb l no).getD ((cc+1)-1) [] from by unfold trV Qb;first|(rw[d1,Nat.add_sub_cancel])|rw[d1]) (by first|exact a7|exact Decidable.not_not.1 a7)⟩ (by omega))
theorem tr_find2(B Bi b bx br:Nat)(p:O0)(n c:Nat)(l:Bl)(key no0:Int)(way0:List Int)(pw0:O0)(cw0:Nat)(w:World)(hBx:B≤bx)(hBr:B≤br)(hBw:B≤w.heap.size)(kx:Blk w bx [P0 b,.slice pw0 way0.length cw0] 65)(kr:Blk w br [S0,.bool false,V0 0,V0 0] 30)(hway:w.ownsRow B 3 1 (.slice pw0 way0.length cw0) way0.length (way0.map V0))(hI:ImgR Bi b p n c l w)(hwl:way0.length≤100000) :
 C0 30 #[P0 bx,V0 no0,V0 2,V0 key,.func (.func 33) #[] #[P0 br]] w (Zaw (Xo Yz) (trM (Zj l 2 key 16 way0 no0)) 30 (Zj l 2 key 16 way0 no0) [65,3,32,30] (KeepD br) B bx br (P0 b) w):=by
 have d7:=KeepD.refl br w
 refine zin 98 Tryz.func30 ?_
 have hB:=Below.refl B w
 refine zl 11 98 (fun zm r9 V=>∃ (i:Nat) (no:Int) (b8:List Int) (pw:O0) (cw:Nat),r9=[(0,P0 bx),(1,V0 no),(2,V0 2),(3,V0 key),(4,.func (.func 33) #[] #[P0 br]),(11,V0 (i:Int))]∧zm=16-((i:Int)).toNat∧Below B w V∧Zg [65,3,32,30] w V∧Blk V bx ([P0 b,.slice pw b8.length cw]) 65∧Blk V br ([S0,.bool false,V0 0,V0 0]) 30∧ImgR Bi b p n c l V∧V.ownsRow B 3 1 (.slice pw b8.length cw) b8.length (b8.map V0)∧KeepD br w V∧i≤16∧b8.length≤100000+i∧(Zj l 2 key 16 way0 no0)=Zj l 2 key (16-i) b8 no) ⟨0,no0,way0,pw0,cw0,rfl,rfl,hB,(Zg.refl _ _),kx,kr,hI,hway,d7,by decide,by omega,rfl⟩ ?_
 rintro _ _ W1 ⟨i,no,b8,pw,cw,rfl,rfl,c3,b3,d1,b0,hI,hway,d7,hi,hwl,d8⟩ J1 r4 r1
 refine xid 9 ((i:Int)≥(16:Int)) (fun r5=>?_) (fun r5=>?_)
 ·refine xc 5 (args:=#[V0 no,.iface 75 (V0 10)]) (Di no (some 10) [] _ _ rfl) ?_
  rintro _ W3 ⟨r3,rfl,j0,q3⟩
  rw[Tg] at q3
  obtain⟨t3,x3,rfl⟩:=q3.iface
  have c1:=Zb hway j0
  have d3:=d1.below j0
  refine xc 0 (args:=#[P0 bx,.iface t3 (x3)]) (Ym bx _ _ _ b8 [no] 10 _ _ _ d3 (Zd c1) (fun b o4 x q=>by have q2:=c1;rw[q] at q2;exact(q2.lt b rfl).2) q3 (by first|omega|(simp;omega))) ?_
  rintro _ W4 ⟨f1,x9,rfl,j1,d9⟩
  have h7:=Zb c1 j1
  have f4:=d3.below j1
  have f6:=(b0.below j0).below j1
  have k2:=(d7.below j0).below j1
  have q6:=blB (blB c3 hBw j0) hBw j1
  have p2:=(b3.trans (Zg.of_below j0)).trans (Zg.of_below j1)
  refine xe 9 (.iface f1 (x9)) ?_
  have hR:=Lg (by omega) d8
  rw[hR]
  exact .inl ⟨(show(10:Int)≠0 by decide),_,_,_,_,rfl,q6,p2,k2,f4,h7,f6,d9⟩
 refine xb 7 0 d1 ?_
 refine xc 2 (args:=#[P0 b,V0 no,V0 2]) ((Sd Bi b p n c l no 2 _ hI).mono (fun _ _ h=>node_ap hway h)) ?_
 rintro e W5 r8
 rcases r8 with ⟨c7,bf,rfl,a7,r6⟩|⟨c7,kp,kc,vp,vc,rfl,a7,hk,p8,h8⟩
 ·refine xa 3 [V0 0,.bool false,S0,S0] 140 fun b6 W6 n6=>?_
  have m4:=blB c3 hBw a7
  have g6:=n6.ge0 m4
  refine xsv 0 n6.blk [V0 0,.bool false,S0,S0] fun W7 u7 k7=>?_
  have m9:=(r6.below n6.below).upd u7 n6.blk (by decide)
  have c2:=u7.own2 (Zb (Zb hway a7) n6.below) n6.blk (by decide)
  have c9:=u7.blkT ((d1.below a7).below n6.below) n6.blk (by decide)
  refine xc 15 (args:=#[P0 bx,.iface 113 (P0 bf)]) (Ym bx _ _ _ b8 [no] (Zy l no 2) _ _ _ c9 (Zd c2) (fun b o4 x q=>by have q2:=c2;rw[q] at q2;exact(q2.lt b rfl).2) m9 (by first|omega|(simp;omega))) ?_
  rintro _ W8 ⟨f1,x9,rfl,i9,d9⟩
  have i1:=Zb c2 i9
  have g0:=c9.below i9
  have f0:=(u7.blkT ((b0.below a7).below n6.below) n6.blk (by decide)).below i9
  have k8:=(((d7.below a7).below n6.below).only (Zg.of_upd (T:=[140]) u7 n6.blk (by decide)) (by decide)).below i9
  have o5:=blB (u7.below (blB m4 hBw n6.below) (Nat.le_trans hBw g6)) hBw i9
  have q7:=(Zg.upd_new ((b3.trans (Zg.of_below a7)).trans (Zg.of_below n6.below)) u7 g6).trans (Zg.of_below i9)
  refine xe 9 (.iface f1 (x9)) ?_
  have hR:=Du (show 16-i≠0 by omega) d8 c7
  rw[hR]
  exact .inl ⟨c7,_,_,_,_,rfl,o5,q7,k8,g0,i1,f0,d9⟩
 have r7:=As l no
 have j2:(Qb l no).length=(Xf (inB l no)):=by simp[Qb,Vx]
 have t4:(Xf (inB l no))≤18:=Nat.le_trans (Vf (Gm (Jp (Jg c7).2))) (Zcl _ _)
 refine xa 3 [V0 0,.bool false,S0,S0] 140 fun b9 W9 n9=>?_
 have l4:=blB c3 hBw a7
 have g9:=n9.ge0 l4
 refine xsv 0 n9.blk [V0 (Yx (inB l no)),.bool (Yb (inB l no)),.slice kp (Xf (inB l no)) kc,.slice vp (Xf (inB l no)) vc] fun s3 a8 s2=>?_
 have c8:=a8.blkT ((d1.below a7).below n9.below) n9.blk (by decide)
 refine xb 19 1 c8 ?_
 refine xbs 1 1 [V0 no] 3 fun s0 s8 a6=>?_
 have l6:=a8.below (blB l4 hBw n9.below) (Nat.le_trans hBw g9)
 have s5:=a6.ge0 l6
 have e2:=a8.own2 (Zb (Zb hway a7) n9.below) n9.blk (by decide)
 have n3:=Xa e2 a6
 have k4:=a8.own2 (Zb (Ze hk c3.size) n9.below) n9.blk (by decide)
 have q5:=Xa k4 a6
 have a1:=Zb e2 a6.below
 have b5:=blB l6 hBw a6.below
 refine xbi 0 fun _ _ _ _ zJ zQ zo zx zy zK=>Ur (b:=s0) (c:=1) (m:=1) (news:=[V0 no]) (V0 0) 1 8 ((b8++[no]).length) (((b8++[no]).map V0)) zo Tryz.underlying28 (by kernel_rfl) rfl (by decide) zx a1 zy a6.blk rfl (by simp[Value.oneCell']) (by unfold maxLen;omega) (by omega) (Nat.le_trans hBw b5.size) (by simp) (by simp) fun p3 p7 s6 e8 a3 b7 p5=>?_
 have o3:=Zb k4 a6.below
 have h6:=h8.row o3 a3
 replace h8:=(h8.grow o3 p5)
 have n2:=h6
 refine zK _ _ ?_
 have a0:=(c8.below a6.below).grown a3 a1 (by decide)
 refine xs 2 a0 [P0 b,.slice p3 ((b8++[no]).length) p7] fun s7 a4 e7=>?_
 have e3:=a4.blkT ((s2.below a6.below).grown a3 a1 (by decide)) a0 (by decide)
 refine xb 5 2 e3 ?_
 have p4:=a4.own2 n2 a0 (by decide)
 refine xc 1 (args:=#[.slice kp (Xf (inB l no)) kc,V0 key]) (Rx key _ r7 (by omega) (Uz c7) p4) ?_
 rintro e s4 p6
 rcases p6 with ⟨hm,cc,d0,s1,rfl,a2⟩|⟨hm,d0,rfl,a2⟩|⟨hm,cc,d0,s1,rfl,a2⟩
 ·refine xg 23 [63,64] (decide ((cc:Int)<(0:Int))) (fun c4=>?_) (fun c4=>?_)
  ·have c4:=of_decide_eq_true c4
   have h0:=c4
   have k5:=Zb (a4.own2 e8 a0 (by decide)) a2
   have j5:=e7.below a2
   have e9:=(a4.blk (((a8.blkT ((b0.below a7).below n9.below) n9.blk (by decide)).below a6.below).grown a3 a1 (by decide)) (Ne.symm (by rintro rfl;exact absurd (Blk.ty kx kr) (by decide)))).below a2
   have k3:=((((((d7.below a7).below n9.below).only (Zg.of_upd (T:=[140]) a8 n9.blk (by decide)) (by decide)).below a6.below).only (Zg.of_grown (T:=[3]) a3 a1 (by decide)) (by decide)).only (Zg.of_upd (T:=[65]) a4 a0 (by decide)) (by decide)).below a2
   have p0:=blB (a4.below (b5.trans b7) hBx) hBw a2
   have q8:=((((Zg.upd_new ((b3.trans (Zg.of_below a7)).trans (Zg.of_below n9.below)) a8 g9).trans (Zg.of_below a6.below)).trans (Zg.of_grown a3 a1 (by decide))).trans (Zg.of_upd a4 a0 (by decide))).trans (Zg.of_below a2)
   refine xe 21 .nilIface ?_
   first|(exfalso;omega)|(have hR:=Vg (show 16-i≠0 by omega) d8 c7 (by omega);rw[hR];exact .inr ⟨rfl,_,_,rfl,p0,q8,k3,j5,k5,e9⟩)
  have c4:=of_decide_eq_false c4
  have h0:=c4
  have b4:=e3.below a2
  refine xb 1 1 b4 ?_
  refine xg 1 [66,67] (Yb (inB l no)) (fun g8=>?_) (fun g8=>?_)
  ·have a5:Yb (inB l no)=true:=g8
   refine xb 18 1 b4 ?_
   refine xk 2 (show((Yb (inB l no)):Bool)=true from a5) ?_
   refine xb 3 3 b4 ?_
   have g1:=Zb (a4.own2 (Xc (Zb (a8.own2 (Zb (Ze p8 c3.size) n9.below) n9.blk (by decide)) a6.below) a3 a1 (by decide)) a0 (by decide)) a2
   refine xx 1 _ (Xf (inB l no)) cc 1 (Strs.elem (Zd g1) j2 (k:=cc) (by omega)).1 ?_
   refine xl 0 ((Strs.elem (Zd g1) j2 (k:=cc) (by omega)).2) ?_
   have l2:=((((((d7.below a7).below n9.below).only (Zg.of_upd (T:=[140]) a8 n9.blk (by decide)) (by decide)).below a6.below).only (Zg.of_grown (T:=[3]) a3 a1 (by decide)) (by decide)).only (Zg.of_upd (T:=[65]) a4 a0 (by decide)) (by decide)).below a2
   have f8:=(a4.blk (((a8.blkT ((b0.below a7).below n9.below) n9.blk (by decide)).below a6.below).grown a3 a1 (by decide)) (Ne.symm (by rintro rfl;exact absurd (Blk.ty kx kr) (by decide)))).below a2
   have q1:=l2
   have i7:=blB (a4.below (b5.trans b7) hBx) hBw a2
   refine xc 0 (args:=#[.string ⟨((Qb l no).getD cc []).toArray⟩,P0 br]) (tr_all2 B br ((Qb l no).getD cc []) _ (Qo _ _ _) f8 hBr (Nat.le_trans hBw i7.size)) ?_
   rintro _ t2 ⟨rfl,j6,c0,r2,o6⟩
   have l3:=q1.but o6
   refine xin 10 (Xo Yz ((Qb l no).getD cc [])) (0:Int) (fun h4=>?_) (fun h4=>?_)
   ·have a9:=h4
    have e4:=Zr (Zb (a4.own2 e8 a0 (by decide)) a2) c0 (by decide)
    have g5:=(e7.below a2).only c0 (by decide)
    refine xc 5 (args:=#[P0 bx,.iface 75 (V0 (Xo Yz ((Qb l no).getD cc [])))]) (Ym bx _ _ _ (b8++[no]) [] _ _ _ _ g5 (Zd e4) (fun b o4 x q=>by have q2:=e4;rw[q] at q2;exact(q2.lt b rfl).2) (Lw _ _) (by first|omega|(simp;omega))) ?_
    rintro _ t5 ⟨f1,x9,rfl,d6,d9⟩
    rw[List.append_nil] at d9
    have j4:=Zb e4 d6
    have k1:=g5.below d6
    have n0:=r2.below d6
    have h9:=l3.below d6
    have p1:=blB (i7.trans j6) hBw d6
    have q0:=((((((Zg.upd_new ((b3.trans (Zg.of_below a7)).trans (Zg.of_below n9.below)) a8 g9).trans (Zg.of_below a6.below)).trans (Zg.of_grown a3 a1 (by decide))).trans (Zg.of_upd a4 a0 (by decide))).trans (Zg.of_below a2)).trans (only_w2 c0)).trans (Zg.of_below d6)
    refine xe 9 (.iface f1 (x9)) ?_
    have hR:=Uq (show 16-i≠0 by omega) d8 c7 a5 hm (by omega) (show trV l no key=(Qb l no).getD cc [] from by unfold trV Qb;first|(rw[d0,Nat.add_sub_cancel])|rw[d0])
    rw[hR]
    unfold Zaw
    rw[trE_v a9]
    exact .inl ⟨a9,_,_,_,_,rfl,p1,q0,h9,k1,j4,n0,d9⟩
   have a9:=h4
   have n5:=b4.only c0 (by decide)
   refine xb 5 1 n5 ?_
   refine xk 2 (show((Yb (inB l no)):Bool)=true from a5) ?_
   have l7:=Zr (Zb (a4.own2 e8 a0 (by decide)) a2) c0 (by decide)
   have l5:=(e7.below a2).only c0 (by decide)
   have l9:=i7.trans j6
   have p9:=(((((Zg.upd_new ((b3.trans (Zg.of_below a7)).trans (Zg.of_below n9.below)) a8 g9).trans (Zg.of_below a6.below)).trans (Zg.of_grown a3 a1 (by decide))).trans (Zg.of_upd a4 a0 (by decide))).trans (Zg.of_below a2)).trans (only_w2 c0)
   refine xe 10 .nilIface ?_
   have hR:=Uq (show 16-i≠0 by omega) d8 c7 a5 hm (by omega) (show trV l no key=(Qb l no).getD cc [] from by unfold trV Qb;first|(rw[d0,Nat.add_sub_cancel])|rw[d0])
   rw[hR]
   unfold Zaw
   rw[trE_v0 (by first|exact a9|exact Decidable.not_not.1 a9|omega)]
   exact .inr ⟨rfl,_,_,rfl,l9,p9,l3,l5,l7,r2⟩
  have a5:Yb (inB l no)=false:=g8
  refine xb 18 1 b4 ?_
  refine xk 2 (show((Yb (inB l no)):Bool)=false from a5) ?_
  refine xb 2 3 b4 ?_
  have g3:=Zb (a4.own2 (Xc (Zb (a8.own2 (Zb (Ze p8 c3.size) n9.below) n9.blk (by decide)) a6.below) a3 a1 (by decide)) a0 (by decide)) a2
  refine xx 1 _ (Xf (inB l no)) cc 1 (Strs.elem (Zd g3) j2 (k:=cc) (by omega)).1 ?_
  refine xl 0 ((Strs.elem (Zd g3) j2 (k:=cc) (by omega)).2) ?_
  refine xr 0 (args:=#[.string ⟨((Qb l no).getD cc []).toArray⟩]) (Qz ((Qb l no).getD cc []) _ (Qo _ _ _)) fun t0 b2=>?_
  refine xin 14 (Xl ((Qb l no).getD cc [])) (0:Int) (fun i3=>?_) (fun i3=>?_)
  ·have a9:=i3
   have e6:=Zb (Zb (a4.own2 e8 a0 (by decide)) a2) b2
   have g2:=(e7.below a2).below b2
   refine xc 5 (args:=#[P0 bx,.iface 75 (V0 (Xl ((Qb l no).getD cc [])))]) (Ym bx _ _ _ (b8++[no]) [] _ _ _ _ g2 (Zd e6) (fun b o4 x q=>by have q2:=e6;rw[q] at q2;exact(q2.lt b rfl).2) (Lw _ _) (by first|omega|(simp;omega))) ?_
   rintro _ t6 ⟨f1,x9,rfl,d4,d9⟩
   rw[List.append_nil] at d9
   have j3:=Zb e6 d4
   have j8:=g2.below d4
   have f2:=(((a4.blk (((a8.blkT ((b0.below a7).below n9.below) n9.blk (by decide)).below a6.below).grown a3 a1 (by decide)) (Ne.symm (by rintro rfl;exact absurd (Blk.ty kx kr) (by decide)))).below a2).below b2).below d4
   have m2:=((((((((d7.below a7).below n9.below).only (Zg.of_upd (T:=[140]) a8 n9.blk (by decide)) (by decide)).below a6.below).only (Zg.of_grown (T:=[3]) a3 a1 (by decide)) (by decide)).only (Zg.of_upd (T:=[65]) a4 a0 (by decide)) (by decide)).below a2).below b2).below d4
   have j9:=blB (blB (blB (a4.below (b5.trans b7) hBx) hBw a2) hBw b2) hBw d4
   have o9:=((((((Zg.upd_new ((b3.trans (Zg.of_below a7)).trans (Zg.of_below n9.below)) a8 g9).trans (Zg.of_below a6.below)).trans (Zg.of_grown a3 a1 (by decide))).trans (Zg.of_upd a4 a0 (by decide))).trans (Zg.of_below a2)).trans (Zg.of_below b2)).trans (Zg.of_below d4)
   refine xe 9 (.iface f1 (x9)) ?_
   have hR:=Ut (show 16-i≠0 by omega) d8 c7 a5 (by omega) (show trV l no key=(Qb l no).getD cc [] from by unfold trV Qb;first|(rw[d0,Nat.add_sub_cancel])|rw[d0]) a9
   rw[hR]
   exact .inl ⟨a9,_,_,_,_,rfl,j9,o9,m2,j8,j3,f2,d9⟩
  have a9:=i3
  have m7:=b4.below b2
  refine xb 5 1 m7 ?_
  refine xk 2 (show((Yb (inB l no)):Bool)=false from a5) ?_
  refine xwm 5 ((i:Int)+1) (↑(i+1):Int) ?_
  have j7:=Zb (Zb (a4.own2 e8 a0 (by decide)) a2) b2
  have l0:=blB (blB (a4.below (b5.trans b7) hBx) hBw a2) hBw b2
  have q4:=(((((Zg.upd_new ((b3.trans (Zg.of_below a7)).trans (Zg.of_below n9.below)) a8 g9).trans (Zg.of_below a6.below)).trans (Zg.of_grown a3 a1 (by decide))).trans (Zg.of_upd a4 a0 (by decide))).trans (Zg.of_below a2)).trans (Zg.of_below b2)
  have n4:=(e7.below a2).below b2
  have f7:=((a4.blk (((a8.blkT ((b0.below a7).below n9.below) n9.blk (by decide)).below a6.below).grown a3 a1 (by decide)) (Ne.symm (by rintro rfl;exact absurd (Blk.ty kx kr) (by decide)))).below a2).below b2
  have o8:=(((((((hI.below a7).below n9.below).only (Zg.of_upd (T:=[140]) a8 n9.blk (by decide)) (by decide)).below a6.below).only (Zg.of_grown (T:=[3]) a3 a1 (by decide)) (by decide)).only (Zg.of_upd (T:=[65]) a4 a0 (by decide)) (by decide)).below a2).below b2
  have n1:=(((((((d7.below a7).below n9.below).only (Zg.of_upd (T:=[140]) a8 n9.blk (by decide)) (by decide)).below a6.below).only (Zg.of_grown (T:=[3]) a3 a1 (by decide)) (by decide)).only (Zg.of_upd (T:=[65]) a4 a0 (by decide)) (by decide)).below a2).below b2
  exact ze 2 (r4 _ _ _ ⟨i+1,_,(b8++[no]),_,_,rfl,rfl,l0,q4,n4,f7,o8,j7,n1,by omega,by simp;omega,Np (by omega) d8 c7 a5 (by omega) (show trV l no key=(Qb l no).getD cc [] from by unfold trV Qb;first|(rw[d0,Nat.add_sub_cancel])|rw[d0]) (by first|exact a9|exact Decidable.not_not.1 a9)⟩ (by omega))
 ·have o0:=Zb (a4.own2 e8 a0 (by decide)) a2
  have m3:=e7.below a2
  have f5:=(a4.blk (((a8.blkT ((b0.below a7).below n9.below) n9.blk (by decide)).below a6.below).grown a3 a1 (by decide)) (Ne.symm (by rintro rfl;exact absurd (Blk.ty kx kr) (by decide)))).below a2
  have m0:=((((((d7.below a7).below n9.below).only (Zg.of_upd (T:=[140]) a8 n9.blk (by decide)) (by decide)).below a6.below).only (Zg.of_grown (T:=[3]) a3 a1 (by decide)) (by decide)).only (Zg.of_upd (T:=[65]) a4 a0 (by decide)) (by decide)).below a2
  have n8:=blB (a4.below (b5.trans b7) hBx) hBw a2
  have o7:=((((Zg.upd_new ((b3.trans (Zg.of_below a7)).trans (Zg.of_below n9.below)) a8 g9).trans (Zg.of_below a6.below)).trans (Zg.of_grown a3 a1 (by decide))).trans (Zg.of_upd a4 a0 (by decide))).trans (Zg.of_below a2)
  refine xe 48 .nilIface ?_
  first|(exfalso;omega)|(have hR:=Vg (show 16-i≠0 by omega) d8 c7 (by omega);rw[hR];exact .inr ⟨rfl,_,_,rfl,n8,o7,m0,m3,o0,f5⟩)
 refine xwm 17 ((↑(cc+1):Int)-1) (↑((cc+1)-1):Int) ?_
 refine xg 9 [63,64] (decide ((↑((cc+1)-1):Int)<(0:Int))) (fun c5=>?_) (fun c5=>?_)
 ·have c5:=of_decide_eq_true c5
  have h0:=c5
  have m8:=Zb (a4.own2 e8 a0 (by decide)) a2
  have k0:=e7.below a2
  have f3:=(a4.blk (((a8.blkT ((b0.below a7).below n9.below) n9.blk (by decide)).below a6.below).grown a3 a1 (by decide)) (Ne.symm (by rintro rfl;exact absurd (Blk.ty kx kr) (by decide)))).below a2
  have k9:=((((((d7.below a7).below n9.below).only (Zg.of_upd (T:=[140]) a8 n9.blk (by decide)) (by decide)).below a6.below).only (Zg.of_grown (T:=[3]) a3 a1 (by decide)) (by decide)).only (Zg.of_upd (T:=[65]) a4 a0 (by decide)) (by decide)).below a2
  have m1:=blB (a4.below (b5.trans b7) hBx) hBw a2
  have r0:=((((Zg.upd_new ((b3.trans (Zg.of_below a7)).trans (Zg.of_below n9.below)) a8 g9).trans (Zg.of_below a6.below)).trans (Zg.of_grown a3 a1 (by decide))).trans (Zg.of_upd a4 a0 (by decide))).trans (Zg.of_below a2)
  refine xe 21 .nilIface ?_
  first|(exfalso;omega)|(have hR:=Vg (show 16-i≠0 by omega) d8 c7 (by omega);rw[hR];exact .inr ⟨rfl,_,_,rfl,m1,r0,k9,k0,m8,f3⟩)
 have c5:=of_decide_eq_false c5
 have h0:=c5
 have d2:=e3.below a2
 refine xb 1 1 d2 ?_
 refine xg 1 [66,67] (Yb (inB l no)) (fun i8=>?_) (fun i8=>?_)
 ·have a5:Yb (inB l no)=true:=i8
  have i5:=Zb (a4.own2 e8 a0 (by decide)) a2
  have h1:=e7.below a2
  have f9:=(a4.blk (((a8.blkT ((b0.below a7).below n9.below) n9.blk (by decide)).below a6.below).grown a3 a1 (by decide)) (Ne.symm (by rintro rfl;exact absurd (Blk.ty kx kr) (by decide)))).below a2
  have l1:=((((((d7.below a7).below n9.below).only (Zg.of_upd (T:=[140]) a8 n9.blk (by decide)) (by decide)).below a6.below).only (Zg.of_grown (T:=[3]) a3 a1 (by decide)) (by decide)).only (Zg.of_upd (T:=[65]) a4 a0 (by decide)) (by decide)).below a2
  have l8:=blB (a4.below (b5.trans b7) hBx) hBw a2
  have k6:=((((Zg.upd_new ((b3.trans (Zg.of_below a7)).trans (Zg.of_below n9.below)) a8 g9).trans (Zg.of_below a6.below)).trans (Zg.of_grown a3 a1 (by decide))).trans (Zg.of_upd a4 a0 (by decide))).trans (Zg.of_below a2)
  refine xe 18 .nilIface ?_
  have hR:=Nd (show 16-i≠0 by omega) d8 c7 a5 hm
  rw[hR]
  exact .inr ⟨rfl,_,_,rfl,l8,k6,l1,h1,i5,f9⟩
 have a5:Yb (inB l no)=false:=i8
 refine xb 18 1 d2 ?_
 refine xk 2 (show((Yb (inB l no)):Bool)=false from a5) ?_
 refine xb 2 3 d2 ?_
 have g7:=Zb (a4.own2 (Xc (Zb (a8.own2 (Zb (Ze p8 c3.size) n9.below) n9.blk (by decide)) a6.below) a3 a1 (by decide)) a0 (by decide)) a2
 refine xx 1 _ (Xf (inB l no)) ((cc+1)-1) 1 (Strs.elem (Zd g7) j2 (k:=((cc+1)-1)) (by omega)).1 ?_
 refine xl 0 ((Strs.elem (Zd g7) j2 (k:=((cc+1)-1)) (by omega)).2) ?_
 refine xr 0 (args:=#[.string ⟨((Qb l no).getD ((cc+1)-1) []).toArray⟩]) (Qz ((Qb l no).getD ((cc+1)-1) []) _ (Qo _ _ _)) fun t1 b1=>?_
 refine xin 14 (Xl ((Qb l no).getD ((cc+1)-1) [])) (0:Int) (fun h2=>?_) (fun h2=>?_)
 ·have a9:=h2
  have c6:=Zb (Zb (a4.own2 e8 a0 (by decide)) a2) b1
  have e5:=(e7.below a2).below b1
  refine xc 5 (args:=#[P0 bx,.iface 75 (V0 (Xl ((Qb l no).getD ((cc+1)-1) [])))]) (Ym bx _ _ _ (b8++[no]) [] _ _ _ _ e5 (Zd c6) (fun b o4 x q=>by have q2:=c6;rw[q] at q2;exact(q2.lt b rfl).2) (Lw _ _) (by first|omega|(simp;omega))) ?_
  rintro _ s9 ⟨f1,x9,rfl,d5,d9⟩
  rw[List.append_nil] at d9
  have i0:=Zb c6 d5
  have h5:=e5.below d5
  have e1:=(((a4.blk (((a8.blkT ((b0.below a7).below n9.below) n9.blk (by decide)).below a6.below).grown a3 a1 (by decide)) (Ne.symm (by rintro rfl;exact absurd (Blk.ty kx kr) (by decide)))).below a2).below b1).below d5
  have h3:=((((((((d7.below a7).below n9.below).only (Zg.of_upd (T:=[140]) a8 n9.blk (by decide)) (by decide)).below a6.below).only (Zg.of_grown (T:=[3]) a3 a1 (by decide)) (by decide)).only (Zg.of_upd (T:=[65]) a4 a0 (by decide)) (by decide)).below a2).below b1).below d5
  have m6:=blB (blB (blB (a4.below (b5.trans b7) hBx) hBw a2) hBw b1) hBw d5
  have m5:=((((((Zg.upd_new ((b3.trans (Zg.of_below a7)).trans (Zg.of_below n9.below)) a8 g9).trans (Zg.of_below a6.below)).trans (Zg.of_grown a3 a1 (by decide))).trans (Zg.of_upd a4 a0 (by decide))).trans (Zg.of_below a2)).trans (Zg.of_below b1)).trans (Zg.of_below d5)
  refine xe 9 (.iface f1 (x9)) ?_
  have hR:=Ut (show 16-i≠0 by omega) d8 c7 a5 (by omega) (show trV l no key=(Qb l no).getD ((cc+1)-1) [] from by unfold trV Qb;first|(rw[d0,Nat.add_sub_cancel])|rw[d0]) a9
  rw[hR]
  exact .inl ⟨a9,_,_,_,_,rfl,m6,m5,h3,h5,i0,e1,d9⟩
 have a9:=h2
 have n7:=d2.below b1
 refine xb 5 1 n7 ?_
 refine xk 2 (show((Yb (inB l no)):Bool)=false from a5) ?_
 refine xwm 5 ((i:Int)+1) (↑(i+1):Int) ?_
 have i4:=Zb (Zb (a4.own2 e8 a0 (by decide)) a2) b1
 have o1:=blB (blB (a4.below (b5.trans b7) hBx) hBw a2) hBw b1
 have o2:=(((((Zg.upd_new ((b3.trans (Zg.of_below a7)).trans (Zg.of_below n9.below)) a8 g9).trans (Zg.of_below a6.below)).trans (Zg.of_grown a3 a1 (by decide))).trans (Zg.of_upd a4 a0 (by decide))).trans (Zg.of_below a2)).trans (Zg.of_below b1)
 have i2:=(e7.below a2).below b1
 have e0:=((a4.blk (((a8.blkT ((b0.below a7).below n9.below) n9.blk (by decide)).below a6.below).grown a3 a1 (by decide)) (Ne.symm (by rintro rfl;exact absurd (Blk.ty kx kr) (by decide)))).below a2).below b1
 have q9:=(((((((hI.below a7).below n9.below).only (Zg.of_upd (T:=[140]) a8 n9.blk (by decide)) (by decide)).below a6.below).only (Zg.of_grown (T:=[3]) a3 a1 (by decide)) (by decide)).only (Zg.of_upd (T:=[65]) a4 a0 (by decide)) (by decide)).below a2).below b1
 have i6:=(((((((d7.below a7).below n9.below).only (Zg.of_upd (T:=[140]) a8 n9.blk (by decide)) (by decide)).below a6.below).only (Zg.of_grown (T:=[3]) a3 a1 (by decide)) (by decide)).only (Zg.of_upd (T:=[65]) a4 a0 (by decide)) (by decide)).below a2).below b1
 exact ze 2 (r4 _ _ _ ⟨i+1,_,(b8++[no]),_,_,rfl,rfl,o1,o2,i2,e0,q9,i4,i6,by omega,by simp;omega,Np (by omega) d8 c7 a5 (by omega) (show trV l no key=(Qb l no).getD ((cc+1)-1) [] from by unfold trV Qb;first|(rw[d0,Nat.add_sub_cancel])|rw[d0]) (by first|exact a9|exact Decidable.not_not.1 a9)⟩ (by omega))
theorem Zgl{N:List Int}{i:Nat}(h:i<N.length):Jv (N.take (i+1))=Jv (N.take i)++leB (N.getD i 0) 4:=by
 unfold Jv
 rw[List.take_succ_eq_append_getElem h,List.flatMap_append]
 simp[List.getD,h]
theorem byte_inj{x y:UInt8}(h:(x.toNat:Int)=(y.toNat:Int)):x=y:=UInt8.toNat_inj.1 (by omega)
theorem bytes_ne{a b:Bl}{i:Nat}(hi:i<a.length)(hl:a.length=b.length)(h:((a.getD i 0).toNat:Int)≠((b.getD i 0).toNat:Int)):(a==b)=false:=by
 apply beq_false_of_ne
 rintro rfl
 exact h rfl
theorem bytes_eq{a b:Bl}(hl:a.length=b.length)(h:∀ j,j<a.length→a.getD j 0=b.getD j 0):(a==b)=true:=by
 rw[beq_iff_eq]
 apply List.ext_getElem hl
 intro j h1 h2
 have:=h j h1
 simpa [List.getD,h1,h2] using this
theorem Ig(p q:O0)(c d:Nat)(a b:Bl)(w:World)(hl:a.length≤100000000)(h:Bys w (.slice p a.length c) a)(h2:Bys w (.slice q b.length d) b) :
 C0 79 #[.slice p a.length c,.slice q b.length d] w (Ret (.bool (a==b)) w):=by
 refine zin 26 Tryz.func79 ?_
 refine xin 15 (a.length:Int) (b.length:Int) (fun a4=>?_) (fun a4=>?_)
 ·refine xe 7 (.bool false) ?_
  rw[show(a==b)=false from beq_false_of_ne (fun q=>by subst q;simp at *)];exact⟨rfl,(B4 w)⟩
 have hB:=Below.refl w.heap.size w
 refine zl 11 26 (fun zm a5 V=>∃ (i:Nat),a5=[(0,.slice p a.length c),(1,.slice q b.length d),(12,V0 (a.length:Int)),(13,V0 (i:Int))]∧zm=a.length-((i:Int)).toNat∧B3 w V∧i≤a.length∧(∀ j,j<i→a.getD j 0=b.getD j 0)) ⟨0,rfl,rfl,hB,Nat.zero_le _,?_⟩ ?_
 ·exact fun j hj=>absurd hj (by omega)
 rintro _ _ W2 ⟨i,rfl,rfl,a1,hi,hz⟩ J2 a3 r2
 refine xid 6 ((i:Int)<(a.length:Int)) (fun a6=>?_) (fun a6=>?_)
 ·refine xd 11 .z ?_
  refine xx (.e [0,1] 2) _ a.length i 1 (Bys.elem h (k:=i) (by omega)).1 ?_
  have a0:=bln a1 (Za W2)
  refine xl (.e [] 3) ((Bys.elem (h.below a0) (k:=i) (by omega)).2) ?_
  refine xx (.e [4,5] 6) _ b.length i 1 (Bys.elem h2 (k:=i) (by omega)).1 ?_
  refine xl (.e [] 7) ((Bys.elem (h2.below a0) (k:=i) (by omega)).2) ?_
  refine xin (.r [8] 2) (↑(a.getD i 0).toNat:Int) (↑(b.getD i 0).toNat:Int) (fun a2=>?_) (fun a2=>?_)
  ·refine xe 11 (.bool false) ?_
   rw[bytes_ne (i:=i) (by omega) (by omega) (by assumption)];exact⟨rfl,a0⟩
  refine xwm 4 ((i:Int)+1) (↑(i+1):Int) ?_
  exact ze 2 (a3 _ _ _ ⟨i+1,rfl,rfl,a0,by omega,fun j hj=>(Nat.lt_or_ge j i).elim (hz j) (fun q=>by obtain rfl:j=i:=(by omega);exact byte_inj (by assumption))⟩ (by omega))
 refine xe 11 (.bool true) ?_
 rw[bytes_eq (by omega) (fun j hj=>hz j (by omega))];exact⟨rfl,a1⟩
theorem Rm(p q:O0)(c d m n:Nat)(a b:Bl)(w:World)(hm:a.length=m)(hn:b.length=n)(hl:m≤100000000)(h:Bys w (.slice p m c) a)(h2:Bys w (.slice q n d) b):C0 79 #[.slice p m c,.slice q n d] w (Ret (.bool (a==b)) w):=by
 subst hm hn;exact Ig p q c d a b w hl h h2
theorem Pack_4s(p:O0)(c:Nat)(N:List Int)(w:World)(hn2:N.length≤1000)(hN:∀ i,i<N.length→0≤N.getD i 0∧N.getD i 0<4294967296)(hF:Sts Sn w (.slice p N.length c) N) :
 C0 118 #[.slice p N.length c] w (Qd (fun w' r=>∃ q d,r=.tuple #[.slice q (N.length*4) d,V0 0]∧w'.ownsRow w.heap.size 5 1 (.slice q (N.length*4) d) (N.length*4) ((Jv N).map bv)) w):=by
 refine zin 32 Tryz.func118 ?_
 have hB:=Below.refl w.heap.size w
 refine zl 20 32 (fun zm b4 V=>∃ (i m:Nat) (q:O0) (d:Nat),b4=[(4,.slice q m d),(7,.slice p N.length c),(8,V0 (N.length:Int)),(9,V0 (i:Int))]∧zm=N.length-((i:Int)).toNat∧B3 w V∧V.ownsRow w.heap.size 5 1 (.slice q m d) m ((Jv (N.take i)).map bv)∧i≤N.length∧m=i*4) ⟨0,0,_,_,rfl,rfl,hB,World.ownsRow_nil _ _ _ _,Nat.zero_le _,rfl⟩ ?_
 rintro _ _ W1 ⟨i,m,q,d,rfl,rfl,a0,ho,hi,hm⟩ J1 b2 r1
 refine xid 6 ((i:Int)<(N.length:Int)) (fun b0=>?_) (fun b0=>?_)
 ·refine xx 6 _ N.length i 2 (Sts.cell hF Zeb 0 (k:=i) (i:=0) (by omega) rfl).1 ?_
  refine xlv 0 (Sts.rp (k:=i) (hF.below a0) Zeb 0 (by omega) (by decide)) ?_
  refine xa 0 [V0 0,V0 0] 221 fun b3 W3 n3=>?_
  have g3:=n3.ge a0
  refine xsv 0 n3.blk [V0 4,V0 (N.getD i 0)] fun W4 u4 k4=>?_
  refine xb 6 0 k4 ?_
  refine xr 0 (args:=#[V0 4]) (Af _) fun W5 a6=>?_
  have a2:=k4.below a6
  refine xb 10 1 a2 ?_
  refine xb 1 0 a2 ?_
  refine xr 0 (args:=#[V0 (N.getD i 0),V0 4]) (Zdj (N.getD i 0) (hN i (by omega)).1 (hN i (by omega)).2 _) fun W6 a5=>?_
  have a4:=a2.below a5
  refine xb 9 1 a4 ?_
  refine xb 1 0 a4 ?_
  refine xc 0 (args:=#[V0 (N.getD i 0),V0 4]) (Ar (N.getD i 0) (hN i (by omega)).1 _) ?_
  rintro _ W7 ⟨_,rfl,a9,h2⟩
  have b5:=(bln (bln (u4.below (bln a0 n3.below) g3) a6) a5).size
  have a1:=Ze h2 b5
  unfold Ph at a1
  rw[Zm] at a1
  obtain⟨p2,c2,rfl⟩:=(Zd a1).slice
  have a8:=Zb (Zb (Zb (u4.own2 (Zb ho n3.below) n3.blk (by decide)) a6) a5) a9
  have a3:=bln (bln (bln (u4.below (bln a0 n3.below) g3) a6) a5) a9
  refine xbi 0 fun _ _ _ _ zJ zQ zo zx zy zK=>Zo (m:=4) (news:=(leB (N.getD i 0) 4).map bv) (.int .u8 0) 1 1 (m+4) (((Jv (N.take (i+1))).map bv)) zo Tryz.underlying22 (by kernel_rfl) rfl (by decide) zx a8 zy (Zd a1) (by simp[Zm]) (Yw _) (by unfold maxLen;omega) (by omega) a3.size (by rfl) (by rw[Zgl (by omega),List.map_append]) fun b8 b7 W8 o8 b6 b1=>?_
  refine zK _ _ ?_
  refine xwm 5 ((i:Int)+1) (↑(i+1):Int) ?_
  have a7:=a3.trans b1
  exact ze 2 (b2 _ _ _ ⟨i+1,_,_,_,rfl,rfl,a7,o8,by omega,by omega⟩ (by omega))
 refine xe 13 (.tuple #[.slice q m d,V0 0]) ?_
 obtain rfl:i=N.length:=by omega
 rw[List.take_length] at ho
 subst hm
 exact⟨_,rfl,a0,_,_,rfl,ho⟩
theorem sup_put3(s:Sup):((Hi++List.replicate 236 (0:UInt8)).map bv).take 8++(Jv (1::Sy s)).map bv++((Hi++List.replicate 236 (0:UInt8)).map bv).drop (8+48)=(Hu s).map bv:=by
 unfold Hu
 rw[List.map_append (l₁:=Hi++Jv (1::Sy s)),List.map_append (l₁:=Hi) (l₂:=Jv (1::Sy s))]
 congr 1
theorem supN_bd{s:Sup}(h:Xk s=true):∀ i,i<(1::Sy s).length→0≤(1::Sy s).getD i 0∧(1::Sy s).getD i 0<4294967296:=by
 unfold Xk at h
 simp only[Bool.and_eq_true,decide_eq_true_iff,Bool.true_and] at h
 intro i hi
 have a0:i<12:=hi
 obtain rfl|rfl|rfl|rfl|rfl|rfl|rfl|rfl|rfl|rfl|rfl|rfl:i=0∨i=1∨i=2∨i=3∨i=4∨i=5∨i=6∨i=7∨i=8∨i=9∨i=10∨i=11:=by omega
 all_goals simp[Sy,List.getD]
 all_goals omega
theorem Zcb(s:Sup)(w:World)(hb0:0≤s.blocks)(hb1:s.blocks<9223372036854775808)(hr:Xk s=false) :
 C0 60 #[.agg #[V0 s.tx,V0 s.time,V0 s.unit,V0 s.data,V0 s.blocks,V0 s.top,V0 s.details,V0 s.dslots,V0 s.dover,V0 s.mindex,V0 s.mover]] w (Ret (.tuple #[S0,V0 1]) w):=by
 refine zin 28 Tryz.func60 ?_
 refine xa 2 [V0 s.tx,V0 s.time,V0 s.unit,V0 s.data,V0 s.blocks,V0 s.top,V0 s.details,V0 s.dslots,V0 s.dover,V0 s.mindex,V0 s.mover] 69 fun b1 W1 n1=>?_
 refine xlv 7 n1.blk.rp ?_
 refine xr 0 (args:=#[.agg #[V0 s.tx,V0 s.time,V0 s.unit,V0 s.data,V0 s.blocks,V0 s.top,V0 s.details,V0 s.dslots,V0 s.dover,V0 s.mindex,V0 s.mover]]) (Zae s _ hb0 hb1) fun W2 a0=>?_
 refine xk 3 (show(!(Xk s):Bool)=true from by rw[hr];rfl) ?_
 have hB:=bln n1.below a0
 exact xe 8 (.tuple #[S0,V0 1]) ⟨rfl,hB⟩
theorem Zgt(s:Sup)(w:World)(hb0:0≤s.blocks)(hb1:s.blocks<9223372036854775808)(hr:Xk s=true) :
 C0 60 #[.agg #[V0 s.tx,V0 s.time,V0 s.unit,V0 s.data,V0 s.blocks,V0 s.top,V0 s.details,V0 s.dslots,V0 s.dover,V0 s.mindex,V0 s.mover]] w (Qd (fun w' r=>∃ p c,r=.tuple #[.slice p 244 c,V0 0]∧w'.ownsRow w.heap.size 5 1 (.slice p 244 c) 244 ((Hu s).map bv)) w):=by
 have hN:=supN_bd hr
 refine zin 28 Tryz.func60 ?_
 refine xa 2 [V0 s.tx,V0 s.time,V0 s.unit,V0 s.data,V0 s.blocks,V0 s.top,V0 s.details,V0 s.dslots,V0 s.dover,V0 s.mindex,V0 s.mover] 69 fun b1 W1 n1=>?_
 refine xlv 7 n1.blk.rp ?_
 refine xr 0 (args:=#[.agg #[V0 s.tx,V0 s.time,V0 s.unit,V0 s.data,V0 s.blocks,V0 s.top,V0 s.details,V0 s.dslots,V0 s.dover,V0 s.mindex,V0 s.mover]]) (Zae s _ hb0 hb1) fun W2 a3=>?_
 refine xk 3 (show(!(Xk s):Bool)=false from by rw[hr];rfl) ?_
 refine xbs 5 1 [V0 4,V0 1] 221 fun b3 W3 n3=>?_
 refine xa 0 [S0] 222 fun b4 W4 n4=>?_
 refine xs 0 n4.blk [.slice (S1 b3) 1 1] fun W5 u5 k5=>?_
 have g4:=n4.ge (bln (bln n1.below a3) n3.below)
 have k3:=u5.blkT (n3.blk.below n4.below) n4.blk (by decide)
 have g3:=n3.ge (bln n1.below a3)
 have b0:World.ownsRow W5 w.heap.size 221 2 (.slice (S1 b3) 1 1) 1 (([1]:List Int).flatMap Sn):=Zp (size:=2) (n:=1) k3 g3 rfl (by decide)
 have hB:=u5.below (bln (bln (bln n1.below a3) n3.below) n4.below) g4
 have a5:=u5.blkT (((n1.blk.below a3).below n3.below).below n4.below) n4.blk (by decide)
 refine xc 5 (args:=#[P0 b1,.func (.func 117) #[] #[P0 b4]]) (Zaf w.heap.size w.heap.size b1 b4 s _ 1 _ (Nat.le_refl _) hB.size hB.size g4 hb0 hb1 a5 k5 b0) ?_
 rintro _ W6 ⟨u6,b8,c0,rfl,b7,d1,c5,b6⟩
 refine xb 4 0 c5 ?_
 refine xc 0 (args:=#[.slice b8 12 c0]) (Pack_4s b8 c0 (1::Sy s) _ (show 12≤1000 by decide) hN (Zd b6)) ?_
 rintro _ W7 ⟨_,rfl,c8,q2,d2,rfl,h2⟩
 have c7:=(hB.trans b7).size
 have b2:=Ze h2 c7
 replace h2:World.ownsRow _ _ _ _ (.slice q2 48 d2) 48 ((Jv (1::Sy s)).map bv):=b2
 have a9:=bln (hB.trans b7) c8
 have c1:=a9
 refine xmk 9 fun _ _ _ _ zJ zQ zo zx zy zK=>Kc 244 (.int .u8 0) 1 1 ((List.replicate 244 (0:UInt8)).map bv) zo zx zy Tryz.underlying22 (by kernel_rfl) rfl (by omega) (by omega) (Oz 244) fun b9 W9 n9=>?_
 refine zK _ _ ?_
 have o9:=Zp (size:=1) (n:=244) n9.blk (n9.ge (B4 W7)) (by rw[List.length_map,List.length_replicate]) (by unfold maxLen;omega)
 refine xbi 7 (t2:=9) fun _ _ _ _ zJ zQ zo zx zy zK=>Zd7 (dLen:=244) (dCap:=244) (off:=0) ([83,67,65,78,84,76,73,78]) (((Hi++List.replicate 236 (0:UInt8)).map bv)) zo Tryz.underlying22 (by kernel_rfl) zx zy o9 (by decide) (by decide) n9.below.size (by rfl) fun d0 c6 c4 a7=>?_
 refine zK _ _ ?_
 have a1:=Zd h2
 have a0:=n9.below.trans a7
 refine xbi 2 (t2:=22) fun _ _ _ _ zJ zQ zo zx zy zK=>Wd (dLen:=236) (dCap:=236) (off:=8) 48 ((Jv (1::Sy s)).map bv) (((Hu s).map bv)) zo Tryz.underlying22 (by kernel_rfl) zx zy (a1.below a0) c6 (by rw[List.length_map,Ei];rfl) (by decide) (by decide) (Yw _) a0.size (sup_put3 s) fun c9 c3 c2 a6=>?_
 refine zK _ _ ?_
 have a4:=a0.trans a6
 have a8:B3 W7 c9:=a4
 have b5:w.heap.size≤W7.heap.size:=c1.size
 have hB:=bln c1 a8
 have a2:=Ze c3 b5
 exact xe 10 (.tuple #[.slice (S1 b9) 244 244,V0 0]) ⟨_,rfl,hB,_,_,rfl,a2⟩
theorem Iq(l:Bl):0≤(Zf l).blocks∧(Zf l).blocks<9223372036854775808:=by
 have:=Yg l 28 4 (by decide)
 show 0≤(Zh l 28 4:Int)∧(Zh l 28 4:Int)<9223372036854775808
 omega
theorem Zdy(s:Sup)(w:World)(hb:0≤s.blocks∧s.blocks<9223372036854775808):C0 60 #[.agg #[V0 s.tx,V0 s.time,V0 s.unit,V0 s.data,V0 s.blocks,V0 s.top,V0 s.details,V0 s.dslots,V0 s.dover,V0 s.mindex,V0 s.mover]] w (fun e w' =>
 (Xk s=false∧e=.returned (.tuple #[S0,V0 1])∧B3 w w') ∨
 (Xk s=true∧∃ p c,e=.returned (.tuple #[.slice p 244 c,V0 0])∧B3 w w'∧w'.ownsRow w.heap.size 5 1 (.slice p 244 c) 244 ((Hu s).map bv))):=by
 cases hr:Xk s with
 | false =>
  refine(Zcb s w hb.1 hb.2 hr).mono ?_
  rintro e W ⟨rfl,h⟩
  exact .inl ⟨rfl,rfl,h⟩
 | true =>
  refine(Zgt s w hb.1 hb.2 hr).mono ?_
  rintro e W ⟨_,rfl,h,p,c,rfl,ho⟩
  exact .inr ⟨rfl,p,c,rfl,h,ho⟩
def SupP(l:Bl)(w:World)(e:Ending)(w':World):Prop :=
 (Fz l=false∧e=.returned (.tuple #[.agg #[V0 0,V0 0,V0 0,V0 0,V0 0,V0 0,V0 0,V0 0,V0 0,V0 0,V0 0],V0 7])∧B3 w w')∨(Fz l=true∧e=.returned (.tuple #[.agg #[V0 ((Zf l).tx),V0 ((Zf l).time),V0 ((Zf l).unit),V0 ((Zf l).data),V0 ((Zf l).blocks),V0 ((Zf l).top),V0 ((Zf l).details),V0 ((Zf l).dslots),V0 ((Zf l).dover),V0 ((Zf l).mindex),V0 ((Zf l).mover)],V0 0])∧B3 w w')
theorem Dl{l:Bl}(hl:l.length=244):Fz l=((Hu (Zf l)==l)&&Xk (Zf l)):=by rw[supB_eq hl];rfl
theorem sup_Read(a:O0)(c:Nat)(l:Bl)(w:World)(hl:l.length=244)(h:Bys w (.slice a 244 c) l) :
 C0 41 #[.slice a 244 c] w (SupP l w):=by
 refine zin 29 Tryz.func41 ?_
 refine xa 2 [.slice a 244 c] 22 fun b1 W1 n1=>?_
 refine xa 0 [V0 0,V0 0,V0 0,V0 0,V0 0,V0 0,V0 0,V0 0,V0 0,V0 0,V0 0] 69 fun b2 W2 n2=>?_
 refine xa 5 [V0 0,V0 0,V0 0,V0 0,V0 0,V0 0,V0 0,V0 0,V0 0,V0 0,V0 0] 69 fun b3 W3 n3=>?_
 have c5:=n3.ne n2.blk
 have k1:=(n1.blk.below n2.below).below n3.below
 refine xb 5 0 k1 ?_
 refine xa 9 [V0 0] 3 fun b4 W4 n4=>?_
 refine xs 0 n4.blk [V0 12] fun W5 u5 k5=>?_
 have g4:=n4.ge (bln (bln n1.below n2.below) n3.below)
 have c0:=u5.blkT ((n2.blk.below n3.below).below n4.below) n4.blk (by decide)
 have d1:=c0
 have hB:=u5.below (bln (bln (bln n1.below n2.below) n3.below) n4.below) g4
 have k3:=u5.blkT (n3.blk.below n4.below) n4.blk (by decide)
 have a4:=u5.blkT (k1.below n4.below) n4.blk (by decide)
 have g3:=n3.ge (bln n1.below n2.below)
 refine xc 5 (args:=#[P0 b3,.func (.func 77) #[] #[P0 b1,P0 b4]]) (Aq b3 b3 b1 b4 a c l _ (by have:=n3.at_;have:=hB.size;have q:=(k3).lt;omega) (Nat.le_refl _) (by have q1:=n3.at_;have q2:=n3.size;have q3:=n4.at_;omega) k3 a4 k5 hl (fun W q=>h.below (hB.trans (q.mono g3)))) ?_
 rintro _ W6 ⟨u6,rfl,a9,c8,b0⟩
 have c2:=d1.below' a9 (by have q1:=n2.at_;have q2:=n2.size;have q3:=n3.at_;omega)
 replace b0:Blk _ _ [V0 ((Zf l).tx),V0 ((Zf l).time),V0 ((Zf l).unit),V0 ((Zf l).data),V0 ((Zf l).blocks),V0 ((Zf l).top),V0 ((Zf l).details),V0 ((Zf l).dslots),V0 ((Zf l).dover),V0 ((Zf l).mindex),V0 ((Zf l).mover)] _:=b0
 refine xlv 5 b0.rp ?_
 refine xc 0 (args:=#[.agg #[V0 ((Zf l).tx),V0 ((Zf l).time),V0 ((Zf l).unit),V0 ((Zf l).data),V0 ((Zf l).blocks),V0 ((Zf l).top),V0 ((Zf l).details),V0 ((Zf l).dslots),V0 ((Zf l).dover),V0 ((Zf l).mindex),V0 ((Zf l).mover)]]) (Zdy (Zf l) _ (Iq l)) ?_
 rintro e W7 c6
 rcases c6 with ⟨c1,rfl,a0⟩|⟨c1,p4,c4,rfl,a0,h4⟩
 ·have a5:=c2.below a0
  refine xsv 23 a5 [V0 0,V0 0,V0 0,V0 0,V0 0,V0 0,V0 0,V0 0,V0 0,V0 0,V0 0] fun W8 u8 k8=>?_
  have g2:=n2.ge n1.below
  have b9:=u8.below (bln (hB.trans (a9.mono g3)) a0) g2
  exact xec 5 k8 (.tuple #[.agg #[V0 0,V0 0,V0 0,V0 0,V0 0,V0 0,V0 0,V0 0,V0 0,V0 0,V0 0],V0 7]) (.inl ⟨by rw[Dl hl,c1];exact Bool.and_false _,rfl,b9⟩)
 have d3:=(hB.trans (a9.mono g3)).size
 have b7:=(a4.only c8 (by decide)).below a0
 refine xb 13 0 b7 ?_
 have b5:=Ze h4 d3
 have a1:=bln (hB.trans (a9.mono g3)) a0
 refine xr 0 (args:=#[.slice p4 244 c4,.slice a 244 c]) (Rm p4 a c4 c 244 244 (Hu (Zf l)) l _ (Vq _) hl (by decide) (Yr (Zd b5) (Vq _)) (h.below a1)) fun W9 a8=>?_
 refine xi 4 (!(Hu (Zf l)==l)) (fun a2=>?_) (fun a2=>?_)
 ·have b8:(Hu (Zf l)==l)=false:=by simpa using a2
  have a7:=(c2.below a0).below a8
  refine xsv 3 a7 [V0 0,V0 0,V0 0,V0 0,V0 0,V0 0,V0 0,V0 0,V0 0,V0 0,V0 0] fun d5 d0 d2=>?_
  have g2:=n2.ge n1.below
  have b6:=d0.below (bln a1 a8) g2
  exact xec 5 d2 (.tuple #[.agg #[V0 0,V0 0,V0 0,V0 0,V0 0,V0 0,V0 0,V0 0,V0 0,V0 0,V0 0],V0 7]) (.inl ⟨by rw[Dl hl,b8];rfl,rfl,b6⟩)
 have b8:(Hu (Zf l)==l)=true:=by simpa using a2
 have a3:=(b0.below a0).below a8
 refine xlv 4 a3.rp ?_
 have a6:=(c2.below a0).below a8
 refine xsv 0 a6 [V0 ((Zf l).tx),V0 ((Zf l).time),V0 ((Zf l).unit),V0 ((Zf l).data),V0 ((Zf l).blocks),V0 ((Zf l).top),V0 ((Zf l).details),V0 ((Zf l).dslots),V0 ((Zf l).dover),V0 ((Zf l).mindex),V0 ((Zf l).mover)] fun d4 c7 c9=>?_
 have g2:=n2.ge n1.below
 have c3:=c7.below (bln a1 a8) g2
 exact xec 4 c9 (.tuple #[.agg #[V0 ((Zf l).tx),V0 ((Zf l).time),V0 ((Zf l).unit),V0 ((Zf l).data),V0 ((Zf l).blocks),V0 ((Zf l).top),V0 ((Zf l).details),V0 ((Zf l).dslots),V0 ((Zf l).dover),V0 ((Zf l).mindex),V0 ((Zf l).mover)],V0 0]) (.inr ⟨by rw[Dl hl,b8,c1];rfl,rfl,c3⟩)
def Gj(l:Bl)(n:Nat):Int:=if Fz l then(if(n:Int)<(Zf l).blocks then 2 else 0) else 7
def Zz(l:Bl):Int:=if inE l 1 0=0 then Gj (inB l 0) (l.length/256) else inE l 1 0
def Sup1P(l:Bl)(n:Nat)(w:World)(e:Ending)(w':World):Prop :=
 (Gj l n≠0∧∃ s:Sup,e=.returned (.tuple #[.agg #[V0 s.tx,V0 s.time,V0 s.unit,V0 s.data,V0 s.blocks,V0 s.top,V0 s.details,V0 s.dslots,V0 s.dover,V0 s.mindex,V0 s.mover],V0 (Gj l n)])∧B3 w w')∨(Gj l n=0∧e=.returned (.tuple #[.agg #[V0 ((Zf l).tx),V0 ((Zf l).time),V0 ((Zf l).unit),V0 ((Zf l).data),V0 ((Zf l).blocks),V0 ((Zf l).top),V0 ((Zf l).details),V0 ((Zf l).dslots),V0 ((Zf l).dover),V0 ((Zf l).mindex),V0 ((Zf l).mover)],V0 0])∧B3 w w')
def BlkSupP(l:Bl)(w:World)(e:Ending)(w':World):Prop :=
 (Zz l≠0∧∃ b,e=.returned (.tuple #[.agg #[V0 0,V0 0,V0 0,V0 0,V0 0,V0 0,V0 0,V0 0,V0 0,V0 0,V0 0],.iface 113 (P0 b)])∧B3 w w'∧Kv w' [some 0] (some (Zz l)) (.iface 113 (P0 b))) ∨
 (Zz l=0∧e=.returned (.tuple #[.agg #[V0 ((Zf (inB l 0)).tx),V0 ((Zf (inB l 0)).time),V0 ((Zf (inB l 0)).unit),V0 ((Zf (inB l 0)).data),V0 ((Zf (inB l 0)).blocks),V0 ((Zf (inB l 0)).top),V0 ((Zf (inB l 0)).details),V0 ((Zf (inB l 0)).dslots),V0 ((Zf (inB l 0)).dover),V0 ((Zf (inB l 0)).mindex),V0 ((Zf (inB l 0)).mover)],.nilIface])∧B3 w w')
def supZ:Sup:=⟨0,0,0,0,0,0,0,0,0,0,0⟩
theorem super_1(B b bm:Nat)(pi:O0)(ni ci:Nat)(li:Bl)(a:O0)(c:Nat)(l:Bl)(w:World)(hI:ImgR B b pi ni ci li w)(km:Blk w bm [P0 b] 24)(hl:l.length=244)(h:Bys w (.slice a 244 c) l) :
 C0 40 #[.slice a 244 c,P0 bm] w (Sup1P l (ni/256) w):=by
 have c9:=hI.hn
 refine zin 24 Tryz.func40 ?_
 refine xa 2 [V0 0,V0 0,V0 0,V0 0,V0 0,V0 0,V0 0,V0 0,V0 0,V0 0,V0 0] 69 fun b1 W1 n1=>?_
 refine xc 6 (args:=#[.slice a 244 c]) (sup_Read a c l _ hl (h.below n1.below)) ?_
 rintro e W2 c2
 rcases c2 with ⟨a5,rfl,a3⟩|⟨a5,rfl,a3⟩
 ·refine xa 3 [V0 0,V0 0,V0 0,V0 0,V0 0,V0 0,V0 0,V0 0,V0 0,V0 0,V0 0] 69 fun b3 W3 n3=>?_
  have k1:=n1.blk.below a3
  have a8:=n3.ne k1
  have a7:=bln n1.below a3
  have g3:=n3.ge a7
  refine xsv 0 n3.blk [V0 0,V0 0,V0 0,V0 0,V0 0,V0 0,V0 0,V0 0,V0 0,V0 0,V0 0] fun W4 u4 k4=>?_
  refine xd 5 .z ?_
  have c1:=k4.below (Za W4)
  refine xlv (.r [0,1,2,3,4,5,6,7,8] 7) c1.rp ?_
  have b0:=(u4.blk (k1.below n3.below) (Ne.symm (Ne.symm a8))).below (Za W4)
  refine xsv 1 b0 [V0 0,V0 0,V0 0,V0 0,V0 0,V0 0,V0 0,V0 0,V0 0,V0 0,V0 0] fun W5 u5 k5=>?_
  have g1:=n1.ge (B4 w)
  have b2:=u5.below (bln (u4.below (bln a7 n3.below) g3) (Za W4)) g1
  exact xec 4 k5 (.tuple #[.agg #[V0 0,V0 0,V0 0,V0 0,V0 0,V0 0,V0 0,V0 0,V0 0,V0 0,V0 0],V0 7]) (.inl ⟨by unfold Gj;rw[a5,if_neg (by decide)];decide,supZ,by unfold Gj;rw[a5,if_neg (by decide)];rfl,b2⟩)
 refine xa 3 [V0 0,V0 0,V0 0,V0 0,V0 0,V0 0,V0 0,V0 0,V0 0,V0 0,V0 0] 69 fun b6 W6 n6=>?_
 have k1:=n1.blk.below a3
 have a0:=n6.ne k1
 have a6:=bln n1.below a3
 have g6:=n6.ge a6
 refine xsv 0 n6.blk [V0 ((Zf l).tx),V0 ((Zf l).time),V0 ((Zf l).unit),V0 ((Zf l).data),V0 ((Zf l).blocks),V0 ((Zf l).top),V0 ((Zf l).details),V0 ((Zf l).dslots),V0 ((Zf l).dover),V0 ((Zf l).mindex),V0 ((Zf l).mover)] fun W7 u7 k7=>?_
 refine xd 5 .z ?_
 have a1:=k7.below (Za W7)
 refine xb (.e [0,1,2,3] 4) 4 a1 ?_
 have b8:=(u7.blkT (((km.below n1.below).below a3).below n6.below) n6.blk (by decide)).below (Za W7)
 refine xb (.e [] 5) 0 b8 ?_
 have a2:=bln (u7.below (bln a6 n6.below) g6) (Za W7)
 refine xr (.o [] 6) (args:=#[P0 b]) (Yc b _ ni ci _ (hI.below a2).blk (by omega)) fun W8 a4=>?_
 refine xid (.r [7,8] 2) ((Zf l).blocks>(↑(ni/256):Int)) (fun c3=>?_) (fun c3=>?_)
 ·have b9:=a1.below a4
  refine xlv 2 b9.rp ?_
  have a9:=((u7.blk (k1.below n6.below) (Ne.symm (Ne.symm a0))).below (Za W7)).below a4
  refine xsv 0 a9 [V0 ((Zf l).tx),V0 ((Zf l).time),V0 ((Zf l).unit),V0 ((Zf l).data),V0 ((Zf l).blocks),V0 ((Zf l).top),V0 ((Zf l).details),V0 ((Zf l).dslots),V0 ((Zf l).dover),V0 ((Zf l).mindex),V0 ((Zf l).mover)] fun c8 c6 c5=>?_
  have g1:=n1.ge (B4 w)
  have c0:=c6.below (bln a2 a4) g1
  exact xec 5 c5 (.tuple #[.agg #[V0 ((Zf l).tx),V0 ((Zf l).time),V0 ((Zf l).unit),V0 ((Zf l).data),V0 ((Zf l).blocks),V0 ((Zf l).top),V0 ((Zf l).details),V0 ((Zf l).dslots),V0 ((Zf l).dover),V0 ((Zf l).mindex),V0 ((Zf l).mover)],V0 2]) (.inl ⟨by unfold Gj;rw[if_pos a5,if_pos (by omega)];decide,Zf l,by unfold Gj;rw[if_pos a5,if_pos (by omega)],c0⟩)
 have b7:=a1.below a4
 refine xlv 4 b7.rp ?_
 have b4:=((u7.blk (k1.below n6.below) (Ne.symm (Ne.symm a0))).below (Za W7)).below a4
 refine xsv 1 b4 [V0 ((Zf l).tx),V0 ((Zf l).time),V0 ((Zf l).unit),V0 ((Zf l).data),V0 ((Zf l).blocks),V0 ((Zf l).top),V0 ((Zf l).details),V0 ((Zf l).dslots),V0 ((Zf l).dover),V0 ((Zf l).mindex),V0 ((Zf l).mover)] fun d0 c4 c7=>?_
 have g1:=n1.ge (B4 w)
 have b5:=c4.below (bln a2 a4) g1
 exact xec 4 c7 (.tuple #[.agg #[V0 ((Zf l).tx),V0 ((Zf l).time),V0 ((Zf l).unit),V0 ((Zf l).data),V0 ((Zf l).blocks),V0 ((Zf l).top),V0 ((Zf l).details),V0 ((Zf l).dslots),V0 ((Zf l).dover),V0 ((Zf l).mindex),V0 ((Zf l).mover)],V0 0]) (.inr ⟨by unfold Gj;rw[if_pos a5,if_neg (by omega)],rfl,b5⟩)
theorem readSuper(B b:Nat)(p:O0)(n c:Nat)(l:Bl)(w:World)(hI:ImgR B b p n c l w)(bt:Nat)(kt:Blk w bt [P0 b] 24) :
 C0 39 #[P0 b,V0 0,V0 1,.func (.func 40) #[] #[P0 bt]] w (BlkSupP l w):=by
 refine zin 56 Tryz.func39 ?_
 refine xa 2 [V0 0,V0 0,V0 0,V0 0,V0 0,V0 0,V0 0,V0 0,V0 0,V0 0,V0 0] 69 fun b1 W1 n1=>?_
 refine xa 5 [V0 0,V0 0,V0 0,V0 0,V0 0,V0 0,V0 0,V0 0,V0 0,V0 0,V0 0] 69 fun b2 W2 n2=>?_
 have h0:=n2.ne n1.blk
 have hB:=bln n1.below n2.below
 refine xc 6 (args:=#[P0 b,V0 0]) (Sx B b p n c l 0 _ (hI.below hB)) ?_
 rintro e W3 i0
 rcases i0 with ⟨ho,vr,rfl,a0⟩|⟨j,hk,hj,p2,c2,rfl,a0,ho⟩
 ·refine xd 16 (.t w.heap.size [69]) ?_
  refine xm2 (.b [1,2,3]) 0 4 ?_ ?_
  ·have k2:=(n2.blk.below a0).below (Za W3)
   refine xlv 0 k2.rp ?_
   refine yc (.o [] 4) (args:=#[V0 0,.iface 75 (V0 3)]) (.t w.heap.size [69]) (Yd 0 3 _) ?_
   rintro _ W4 ⟨_,rfl,g0,f2⟩
   refine⟨(SF.of_below _ g0),?_⟩
   rw[if_neg (by decide),if_neg (by decide)] at f2
   have j3:=f2
   obtain⟨i1,k4,rfl,_,_⟩:=j3
   have b4:=(((n1.blk.below n2.below).below a0).below (Za W3)).below g0
   have g1:=n1.ge (B4 w)
   refine ysv (.o [] 5) b4 [V0 0,V0 0,V0 0,V0 0,V0 0,V0 0,V0 0,V0 0,V0 0,V0 0,V0 0] (.t w.heap.size [69]) fun W5 u5 k5=>⟨(Zi u5 b4 g1 (by decide)),?_⟩
   have g5:=u5.below (bln (bln (bln hB a0) (Za W3)) g0) g1
   have d7:=f2.upd u5 b4 (by decide)
   refine xec (.r [6] 4) k5 (.tuple #[.agg #[V0 0,V0 0,V0 0,V0 0,V0 0,V0 0,V0 0,V0 0,V0 0,V0 0,V0 0],.iface 113 (P0 i1)]) ?_
   have he:Zz l=3:=by unfold Zz;rw[Lo hI.len ho];rfl
   exact .inl ⟨by rw[he];decide,_,rfl,g5,by rw[he];exact d7⟩
  refine yc 0 (args:=#[V0 0,.iface 75 (V0 3)]) (.t w.heap.size [69]) (Yd 0 3 _) ?_
  rintro _ W6 ⟨_,rfl,e0,f1⟩
  refine⟨(SF.of_below _ e0),?_⟩
  rw[if_neg (by decide),if_neg (by decide)] at f1
  have i6:=f1
  obtain⟨h7,k1,rfl,_,_⟩:=i6
  have k2:=((n2.blk.below a0).below (Za W3)).below e0
  refine xlv (.o [] 0) k2.rp ?_
  have b8:=(((n1.blk.below n2.below).below a0).below (Za W3)).below e0
  have g1:=n1.ge (B4 w)
  refine ysv (.o [] 5) b8 [V0 0,V0 0,V0 0,V0 0,V0 0,V0 0,V0 0,V0 0,V0 0,V0 0,V0 0] (.t w.heap.size [69]) fun W7 u7 k7=>⟨(Zi u7 b8 g1 (by decide)),?_⟩
  have f9:=u7.below (bln (bln (bln hB a0) (Za W3)) e0) g1
  have d8:=f1.upd u7 b8 (by decide)
  refine xec (.r [6] 4) k7 (.tuple #[.agg #[V0 0,V0 0,V0 0,V0 0,V0 0,V0 0,V0 0,V0 0,V0 0,V0 0,V0 0],.iface 113 (P0 h7)]) ?_
  have he:Zz l=3:=by unfold Zz;rw[Lo hI.len ho];rfl
  exact .inl ⟨by rw[he];decide,_,rfl,f9,by rw[he];exact d8⟩
 have i2:=(bln n1.below n2.below).size
 have i8:j<l.length/256:=by rw[hI.len];exact hj
 have h5:=Vc i8
 have d2:=Oj (l:=l) (kind:=1) hI.len hk hj
 have g3:=Ze ho i2
 refine xc 22 (args:=#[.slice p2 256 c2,V0 1,V0 0]) (Rz 1 0 p2 256 c2 (Qj l j) _ h5 (Yr (Zd g3) h5)) ?_
 rintro e W8 i7
 rcases i7 with ⟨hs,rfl,a2⟩|⟨hs,p3,c3,rfl,a2,h3⟩
 ·refine xk 14 (show(((Xy 1 0 (Qj l j)) != (0:Int)):Bool)=true from bne_iff_ne.2 hs) ?_
  refine xd 1 (.t w.heap.size [69]) ?_
  refine xm2 (.b [1,2,3]) 0 4 ?_ ?_
  ·have k2:=((n2.blk.below a0).below a2).below (Za W8)
   refine xlv 0 k2.rp ?_
   refine yc (.o [] 4) (args:=#[V0 0,.iface 75 (V0 (Xy 1 0 (Qj l j)))]) (.t w.heap.size [69]) (Yd 0 (Xy 1 0 (Qj l j)) _) ?_
   rintro _ W9 ⟨_,rfl,e7,e5⟩
   refine⟨(SF.of_below _ e7),?_⟩
   rw[if_neg hs,if_neg hs] at e5
   have i3:=e5
   obtain⟨j6,l3,rfl,_,_⟩:=i3
   have c0:=((((n1.blk.below n2.below).below a0).below a2).below (Za W8)).below e7
   have g1:=n1.ge (B4 w)
   refine ysv (.o [] 5) c0 [V0 0,V0 0,V0 0,V0 0,V0 0,V0 0,V0 0,V0 0,V0 0,V0 0,V0 0] (.t w.heap.size [69]) fun k0 g9 j7=>⟨(Zi g9 c0 g1 (by decide)),?_⟩
   have e1:=g9.below (bln (bln (bln (bln hB a0) a2) (Za W8)) e7) g1
   have d9:=e5.upd g9 c0 (by decide)
   refine xec (.r [6] 4) j7 (.tuple #[.agg #[V0 0,V0 0,V0 0,V0 0,V0 0,V0 0,V0 0,V0 0,V0 0,V0 0,V0 0],.iface 113 (P0 j6)]) ?_
   have he:Zz l=Xy 1 0 (Qj l j):=by unfold Zz;rw[d2,if_neg hs]
   exact .inl ⟨by rw[he];exact hs,_,rfl,e1,by rw[he];exact d9⟩
  refine yc 0 (args:=#[V0 0,.iface 75 (V0 (Xy 1 0 (Qj l j)))]) (.t w.heap.size [69]) (Yd 0 (Xy 1 0 (Qj l j)) _) ?_
  rintro _ l0 ⟨_,rfl,a6,b5⟩
  refine⟨(SF.of_below _ a6),?_⟩
  rw[if_neg hs,if_neg hs] at b5
  have f7:=b5
  obtain⟨e2,i9,rfl,_,_⟩:=f7
  have k2:=(((n2.blk.below a0).below a2).below (Za W8)).below a6
  refine xlv (.o [] 0) k2.rp ?_
  have b6:=((((n1.blk.below n2.below).below a0).below a2).below (Za W8)).below a6
  have g1:=n1.ge (B4 w)
  refine ysv (.o [] 5) b6 [V0 0,V0 0,V0 0,V0 0,V0 0,V0 0,V0 0,V0 0,V0 0,V0 0,V0 0] (.t w.heap.size [69]) fun k8 g6 h8=>⟨(Zi g6 b6 g1 (by decide)),?_⟩
  have f5:=g6.below (bln (bln (bln (bln hB a0) a2) (Za W8)) a6) g1
  have c1:=b5.upd g6 b6 (by decide)
  refine xec (.r [6] 4) h8 (.tuple #[.agg #[V0 0,V0 0,V0 0,V0 0,V0 0,V0 0,V0 0,V0 0,V0 0,V0 0,V0 0],.iface 113 (P0 e2)]) ?_
  have he:Zz l=Xy 1 0 (Qj l j):=by unfold Zz;rw[d2,if_neg hs]
  exact .inl ⟨by rw[he];exact hs,_,rfl,f5,by rw[he];exact c1⟩
 have j5:=(bln hB a0).size
 have d5:=Ze h3 j5
 have j4:((Qj l j).drop 8).take 244=inB l 0:=(Zak hk).symm
 have h2:=Zbg hI.len hk hj
 rw[j4] at d5
 have a7:=bln (bln hB a0) a2
 refine xc 21 (args:=#[.slice p3 244 c3,P0 bt]) (super_1 B b bt p n c l p3 c3 (inB l 0) _ (hI.below a7) (kt.below a7) h2 (Yr (Zd d5) h2)) ?_
 rintro e k9 f0
 rcases f0 with ⟨hz,s9,rfl,a1⟩|⟨hz,rfl,a1⟩
 ·refine xa 3 [V0 0,V0 0,V0 0,V0 0,V0 0,V0 0,V0 0,V0 0,V0 0,V0 0,V0 0] 69 fun l1 k3 a5=>?_
  have b9:=(((n1.blk.below n2.below).below a0).below a2).below a1
  have a3:=a5.ne b9
  have k2:=((n2.blk.below a0).below a2).below a1
  have a4:=a5.ne k2
  have a9:=bln a7 a1
  have h4:=a5.ge a9
  refine xsv 0 a5.blk [V0 s9.tx,V0 s9.time,V0 s9.unit,V0 s9.data,V0 s9.blocks,V0 s9.top,V0 s9.details,V0 s9.dslots,V0 s9.dover,V0 s9.mindex,V0 s9.mover] fun d1 d0 k6=>?_
  refine xk 10 (show(((Gj (inB l 0) (n/256)) != (0:Int)):Bool)=true from bne_iff_ne.2 hz) ?_
  refine xd 1 (.t w.heap.size [69]) ?_
  refine xm2 (.b [1,2,3]) 0 4 ?_ ?_
  ·have e3:=(d0.blk (k2.below a5.below) (Ne.symm (Ne.symm a4))).below (Za d1)
   refine xlv 0 e3.rp ?_
   refine yc (.o [] 4) (args:=#[V0 0,.iface 75 (V0 (Gj (inB l 0) (n/256)))]) (.t w.heap.size [69]) (Yd 0 (Gj (inB l 0) (n/256)) _) ?_
   rintro _ l2 ⟨_,rfl,b0,b3⟩
   refine⟨(SF.of_below _ b0),?_⟩
   rw[if_neg hz,if_neg hz] at b3
   have g2:=b3
   obtain⟨f6,i4,rfl,_,_⟩:=g2
   have b7:=((d0.blk (b9.below a5.below) (Ne.symm (Ne.symm a3))).below (Za d1)).below b0
   have g1:=n1.ge (B4 w)
   refine ysv (.o [] 5) b7 [V0 0,V0 0,V0 0,V0 0,V0 0,V0 0,V0 0,V0 0,V0 0,V0 0,V0 0] (.t w.heap.size [69]) fun l6 e6 j2=>⟨(Zi e6 b7 g1 (by decide)),?_⟩
   have e9:=e6.below (bln (bln (d0.below (bln a9 a5.below) h4) (Za d1)) b0) g1
   have c4:=b3.upd e6 b7 (by decide)
   refine xec (.r [6] 4) j2 (.tuple #[.agg #[V0 0,V0 0,V0 0,V0 0,V0 0,V0 0,V0 0,V0 0,V0 0,V0 0,V0 0],.iface 113 (P0 f6)]) ?_
   have he:Zz l=Gj (inB l 0) (n/256):=by unfold Zz;rw[d2,if_pos hs,hI.len]
   exact .inl ⟨by rw[he];exact hz,_,rfl,e9,by rw[he];exact c4⟩
  refine yc 0 (args:=#[V0 0,.iface 75 (V0 (Gj (inB l 0) (n/256)))]) (.t w.heap.size [69]) (Yd 0 (Gj (inB l 0) (n/256)) _) ?_
  rintro _ l5 ⟨_,rfl,a8,c8⟩
  refine⟨(SF.of_below _ a8),?_⟩
  rw[if_neg hz,if_neg hz] at c8
  have f8:=c8
  obtain⟨f4,j0,rfl,_,_⟩:=f8
  have e4:=((d0.blk (k2.below a5.below) (Ne.symm (Ne.symm a4))).below (Za d1)).below a8
  refine xlv (.o [] 0) e4.rp ?_
  have c5:=((d0.blk (b9.below a5.below) (Ne.symm (Ne.symm a3))).below (Za d1)).below a8
  have g1:=n1.ge (B4 w)
  refine ysv (.o [] 5) c5 [V0 0,V0 0,V0 0,V0 0,V0 0,V0 0,V0 0,V0 0,V0 0,V0 0,V0 0] (.t w.heap.size [69]) fun l7 e8 i5=>⟨(Zi e8 c5 g1 (by decide)),?_⟩
  have g7:=e8.below (bln (bln (d0.below (bln a9 a5.below) h4) (Za d1)) a8) g1
  have c7:=c8.upd e8 c5 (by decide)
  refine xec (.r [6] 4) i5 (.tuple #[.agg #[V0 0,V0 0,V0 0,V0 0,V0 0,V0 0,V0 0,V0 0,V0 0,V0 0,V0 0],.iface 113 (P0 f4)]) ?_
  have he:Zz l=Gj (inB l 0) (n/256):=by unfold Zz;rw[d2,if_pos hs,hI.len]
  exact .inl ⟨by rw[he];exact hz,_,rfl,g7,by rw[he];exact c7⟩
 refine xa 3 [V0 0,V0 0,V0 0,V0 0,V0 0,V0 0,V0 0,V0 0,V0 0,V0 0,V0 0] 69 fun l9 l4 c9=>?_
 have d3:=(((n1.blk.below n2.below).below a0).below a2).below a1
 have c6:=c9.ne d3
 have k2:=((n2.blk.below a0).below a2).below a1
 have f3:=c9.ne k2
 have d4:=bln a7 a1
 have j8:=c9.ge d4
 refine xsv 0 c9.blk [V0 ((Zf (inB l 0)).tx),V0 ((Zf (inB l 0)).time),V0 ((Zf (inB l 0)).unit),V0 ((Zf (inB l 0)).data),V0 ((Zf (inB l 0)).blocks),V0 ((Zf (inB l 0)).top),V0 ((Zf (inB l 0)).details),V0 ((Zf (inB l 0)).dslots),V0 ((Zf (inB l 0)).dover),V0 ((Zf (inB l 0)).mindex),V0 ((Zf (inB l 0)).mover)] fun j9 h1 h6=>?_
 refine xlv 15 h6.rp ?_
 have g8:=h1.blk (d3.below c9.below) (Ne.symm (Ne.symm c6))
 refine xsv 0 g8 [V0 ((Zf (inB l 0)).tx),V0 ((Zf (inB l 0)).time),V0 ((Zf (inB l 0)).unit),V0 ((Zf (inB l 0)).data),V0 ((Zf (inB l 0)).blocks),V0 ((Zf (inB l 0)).top),V0 ((Zf (inB l 0)).details),V0 ((Zf (inB l 0)).dslots),V0 ((Zf (inB l 0)).dover),V0 ((Zf (inB l 0)).mindex),V0 ((Zf (inB l 0)).mover)] fun l8 h9 j1=>?_
 have g1:=n1.ge (B4 w)
 have d6:=h9.below (h1.below (bln d4 c9.below) j8) g1
 exact xec 4 j1 (.tuple #[.agg #[V0 ((Zf (inB l 0)).tx),V0 ((Zf (inB l 0)).time),V0 ((Zf (inB l 0)).unit),V0 ((Zf (inB l 0)).data),V0 ((Zf (inB l 0)).blocks),V0 ((Zf (inB l 0)).top),V0 ((Zf (inB l 0)).details),V0 ((Zf (inB l 0)).dslots),V0 ((Zf (inB l 0)).dover),V0 ((Zf (inB l 0)).mindex),V0 ((Zf (inB l 0)).mover)],.nilIface]) (.inr ⟨by unfold Zz;rw[d2,if_pos hs,hI.len,hz],rfl,d6⟩)
theorem Zci(B b:Nat)(p:O0)(n c:Nat)(l:Bl)(w:World)(hI:ImgR B b p n c l w) :
 C0 19 #[P0 b] w (BlkSupP l w):=by
 refine zin 9 Tryz.func19 ?_
 refine xa 2 [P0 b] 24 fun b1 W1 n1=>?_
 refine xa 0 [V0 0,V0 0,V0 0,V0 0,V0 0,V0 0,V0 0,V0 0,V0 0,V0 0,V0 0] 69 fun b2 W2 n2=>?_
 have k1:=n1.blk.below n2.below
 refine xb 5 0 k1 ?_
 have hB:=bln n1.below n2.below
 refine xc 1 (args:=#[P0 b,V0 0,V0 1,.func (.func 40) #[] #[P0 b1]]) (readSuper B b p n c l _ (hI.below hB) b1 k1) ?_
 rintro e W3 a4
 rcases a4 with ⟨he,bf,rfl,a0,hv⟩|⟨he,rfl,a0⟩
 ·have k2:=n2.blk.below a0
  refine xsv 2 k2 [V0 0,V0 0,V0 0,V0 0,V0 0,V0 0,V0 0,V0 0,V0 0,V0 0,V0 0] fun W4 u4 k4=>?_
  have g2:=n2.ge n1.below
  have a3:=u4.below (bln hB a0) g2
  have a2:=hv.upd u4 k2 (by decide)
  exact xec 4 k4 (.tuple #[.agg #[V0 0,V0 0,V0 0,V0 0,V0 0,V0 0,V0 0,V0 0,V0 0,V0 0,V0 0],.iface 113 (P0 bf)]) (.inl ⟨he,_,rfl,a3,a2⟩)
 have k2:=n2.blk.below a0
 refine xsv 2 k2 [V0 ((Zf (inB l 0)).tx),V0 ((Zf (inB l 0)).time),V0 ((Zf (inB l 0)).unit),V0 ((Zf (inB l 0)).data),V0 ((Zf (inB l 0)).blocks),V0 ((Zf (inB l 0)).top),V0 ((Zf (inB l 0)).details),V0 ((Zf (inB l 0)).dslots),V0 ((Zf (inB l 0)).dover),V0 ((Zf (inB l 0)).mindex),V0 ((Zf (inB l 0)).mover)] fun W5 u5 k5=>?_
 have g2:=n2.ge n1.below
 have a1:=u5.below (bln hB a0) g2
 exact xec 4 k5 (.tuple #[.agg #[V0 ((Zf (inB l 0)).tx),V0 ((Zf (inB l 0)).time),V0 ((Zf (inB l 0)).unit),V0 ((Zf (inB l 0)).data),V0 ((Zf (inB l 0)).blocks),V0 ((Zf (inB l 0)).top),V0 ((Zf (inB l 0)).details),V0 ((Zf (inB l 0)).dslots),V0 ((Zf (inB l 0)).dover),V0 ((Zf (inB l 0)).mindex),V0 ((Zf (inB l 0)).mover)],.nilIface]) (.inr ⟨he,rfl,a1⟩)
theorem trE_is{g:Bl→Int}{R:List Int×Tr}(h:(trE g R).2=0):(Dg R=false∨(Dg R=true∧g (trS R)=0)):=by
 obtain⟨a,r⟩:=R
 cases r with
 | no=>exact .inl rfl
 | bad fl c=>exact .inl rfl
 | val s =>
  right
  refine⟨rfl,?_⟩
  have h:(if g s≠0 then(a,g s) else([],0)).2=0:=h
  by_cases q:g s=0
  ·exact q
  ·rw[if_pos q] at h;exact h
theorem trR_no{R:List Int×Tr}(h:Dg R=false):trR R=0:=by
 obtain⟨a,r⟩:=R
 cases r with
 | val s=>cases h
 | _=>rfl
theorem trR_is{R:List Int×Tr}(h:Dg R=true):trR R=(Xi (trS R):Int):=by
 obtain⟨a,r⟩:=R
 cases r with
 | val s=>rfl
 | _=>cases h
theorem trM_no{R:List Int×Tr}(h:Dg R=false):trM R=[S0,.bool false,V0 0,V0 0]:=by
 obtain⟨a,r⟩:=R
 cases r with
 | val s=>cases h
 | _=>rfl
theorem trM_is{R:List Int×Tr}(h:Dg R=true)(h2:Xo Yz (trS R)=0):trM R=[S0,.bool true,V0 (Um (trS R):Int),V0 (Ws (trS R):Int)]:=by
 obtain⟨a,r⟩:=R
 cases r with
 | val s =>
  have h2:Xo Yz s=0:=h2
  show [Value.slice none 0 0,.bool (Xo Yz s==0),V0 (Um s:Int),V0 (Ws s:Int)]=_
  rw[h2];rfl
 | _=>cases h
theorem root_pos{s:Bl}(h:Xl s=0):0<Xi s:=by
 unfold Xi
 rw[if_pos h]
 unfold Xl at h
 split at h
 ·split at h
  ·omega
  ·cases h
 ·cases h
theorem allT_b1{l:Bl}{way:List Int}{top id v:Int}(h:(trE Xl (Zj l 1 id 16 way top)).2≠0):Xx l way top id v=Lq (trE Xl (Zj l 1 id 16 way top)).1 (trE Xl (Zj l 1 id 16 way top)).2:=by
 unfold Xx;simp only;rw[if_pos h]
theorem allT_n1{l:Bl}{way:List Int}{top id v:Int}(h:(trE Xl (Zj l 1 id 16 way top)).2=0)(h2:Dg (Zj l 1 id 16 way top)=false):Xx l way top id v=⟨(Zj l 1 id 16 way top).1,false,0,0,[],0⟩:=by
 unfold Xx;simp only;rw[if_neg (fun q=>q h),if_pos h2]
theorem allT_b2{l:Bl}{way:List Int}{top id v:Int}{q:List Int×Tr}(h:(trE Xl (Zj l 1 id 16 way top)).2=0)(h2:Dg (Zj l 1 id 16 way top)=true)(hq:Zj l 2 v 16 (Zj l 1 id 16 way top).1 (Xi (trS (Zj l 1 id 16 way top)):Int)=q)(h3:(trE (Xo Yz) q).2≠0):Xx l way top id v=Lq (trE (Xo Yz) q).1 (trE (Xo Yz) q).2:=by
 subst hq
 unfold Xx;simp only;rw[if_neg (fun q=>q h),if_neg (by rw[h2];decide),if_pos h3]
theorem allT_n2{l:Bl}{way:List Int}{top id v:Int}{q:List Int×Tr}(h:(trE Xl (Zj l 1 id 16 way top)).2=0)(h2:Dg (Zj l 1 id 16 way top)=true)(hq:Zj l 2 v 16 (Zj l 1 id 16 way top).1 (Xi (trS (Zj l 1 id 16 way top)):Int)=q)(h3:(trE (Xo Yz) q).2=0)(h4:Dg q=false):Xx l way top id v=⟨q.1,false,0,0,[],0⟩:=by
 subst hq
 unfold Xx;simp only;rw[if_neg (fun q=>q h),if_neg (by rw[h2];decide),if_neg (fun q=>q h3),if_pos h4]
theorem allT_v2{l:Bl}{way:List Int}{top id v:Int}{q:List Int×Tr}(h:(trE Xl (Zj l 1 id 16 way top)).2=0)(h2:Dg (Zj l 1 id 16 way top)=true)(hq:Zj l 2 v 16 (Zj l 1 id 16 way top).1 (Xi (trS (Zj l 1 id 16 way top)):Int)=q)(h3:(trE (Xo Yz) q).2=0)(h4:Dg q=true):Xx l way top id v=⟨q.1,true,Um (trS q),Ws (trS q),[],0⟩:=by
 subst hq
 unfold Xx;simp only;rw[if_neg (fun q=>q h),if_neg (by rw[h2];decide),if_neg (fun q=>q h3),if_neg (by rw[h4];decide)]
theorem find1_or{R:List Int×Tr}{T:List TypeId}{K:World→World→Prop}{B bx br:Nat}{c0:Value}{w:World}{e:Ending}{w':World}(h:Zaw Xl [Value.int .i64 (trR R)] 3 R T K B bx br c0 w e w') :
 ((trE Xl R).2≠0∧∃ ty x p c,e=.returned (.iface ty x)∧Below B w w'∧Zg T w w'∧Blk w' bx [c0,.slice p R.1.length c] 65∧Blk w' br [Value.int .i64 (trR R)] 3∧Kv w' ((trE Xl R).1.map some) (some (trE Xl R).2) (.iface ty x)) ∨
 ((trE Xl R).2=0∧Dg R=false∧∃ p c,e=.returned .nilIface∧Below B w w'∧Zg T w w'∧Blk w' bx [c0,.slice p R.1.length c] 65∧w'.ownsRow B 3 1 (.slice p R.1.length c) R.1.length (R.1.map V0)∧Blk w' br [Value.int .i64 0] 3) ∨
 ((trE Xl R).2=0∧Dg R=true∧0<Xi (trS R)∧∃ p c,e=.returned .nilIface∧Below B w w'∧Zg T w w'∧Blk w' bx [c0,.slice p R.1.length c] 65∧w'.ownsRow B 3 1 (.slice p R.1.length c) R.1.length (R.1.map V0)∧Blk w' br [Value.int .i64 (Xi (trS R):Int)] 3):=by
 rcases h with ⟨h1,ty,x,p,c,h2,h3,h4,h5,h6,h7,h8,h9⟩|⟨h1,p,c,h2,h3,h4,h5,h6,h7,h8⟩
 ·exact .inl ⟨h1,ty,x,p,c,h2,h3,h4,h6,h8,h9⟩
 ·rcases trE_is h1 with q|⟨q,q2⟩
  ·rw[trR_no q] at h8;exact .inr (.inl ⟨h1,q,p,c,h2,h3,h4,h6,h7,h8⟩)
  ·rw[trR_is q] at h8;exact .inr (.inr ⟨h1,q,root_pos q2,p,c,h2,h3,h4,h6,h7,h8⟩)
theorem find2_or{R:List Int×Tr}{T:List TypeId}{K:World→World→Prop}{B bx br:Nat}{c0:Value}{w:World}{e:Ending}{w':World}(h:Zaw (Xo Yz) (trM R) 30 R T K B bx br c0 w e w') :
 ((trE (Xo Yz) R).2≠0∧∃ ty x p c,e=.returned (.iface ty x)∧Below B w w'∧Zg T w w'∧K w w'∧Blk w' bx [c0,.slice p R.1.length c] 65∧Blk w' br (trM R) 30∧Kv w' ((trE (Xo Yz) R).1.map some) (some (trE (Xo Yz) R).2) (.iface ty x)) ∨
 ((trE (Xo Yz) R).2=0∧Dg R=false∧∃ p c,e=.returned .nilIface∧Below B w w'∧Zg T w w'∧K w w'∧Blk w' bx [c0,.slice p R.1.length c] 65∧w'.ownsRow B 3 1 (.slice p R.1.length c) R.1.length (R.1.map V0)∧Blk w' br [S0,.bool false,V0 0,V0 0] 30) ∨
 ((trE (Xo Yz) R).2=0∧Dg R=true∧∃ p c,e=.returned .nilIface∧Below B w w'∧Zg T w w'∧K w w'∧Blk w' bx [c0,.slice p R.1.length c] 65∧w'.ownsRow B 3 1 (.slice p R.1.length c) R.1.length (R.1.map V0)∧Blk w' br [S0,.bool true,V0 (Um (trS R):Int),V0 (Ws (trS R):Int)] 30):=by
 rcases h with ⟨h1,ty,x,p,c,h2,h3,h4,h5,h6,h7,h8,h9⟩|⟨h1,p,c,h2,h3,h4,h5,h6,h7,h8⟩
 ·exact .inl ⟨h1,ty,x,p,c,h2,h3,h4,h5,h6,h8,h9⟩
 ·rcases trE_is h1 with q|⟨q,q2⟩
  ·rw[trM_no q] at h8;exact .inr (.inl ⟨h1,q,p,c,h2,h3,h4,h5,h6,h7,h8⟩)
  ·rw[trM_is q q2] at h8;exact .inr (.inr ⟨h1,q,p,c,h2,h3,h4,h5,h6,h7,h8⟩)
def AllP(O:TrO)(B:Nat)(w:World)(e:Ending)(w':World):Prop :=
 (O.c≠0∧∃ ty x,e=.returned (.tuple #[.agg #[S0,.bool false,V0 0,V0 0],.iface ty x])∧Below B w w'∧Zg [65,3,32,30] w w'∧Kv w' (O.fl.map some) (some O.c) (.iface ty x)) ∨
 (O.c=0∧∃ p c,e=.returned (.tuple #[.agg #[.slice p O.way.length c,.bool O.found,V0 O.b,V0 O.t],.nilIface])∧Below B w w'∧Zg [65,3,32,30] w w'∧w'.ownsRow B 3 1 (.slice p O.way.length c) O.way.length (O.way.map V0))
theorem Vn(l:Bl)(t key:Int):∀ (d:Nat) (wy:List Int) (no:Int),(Zj l t key d wy no).1.length≤wy.length+d
 | 0,wy,no=>Nat.le_refl _
 | d+1,wy,no=>by
  rw[Zj]
  repeat' split
  all_goals first|(simp;done)|(simp;omega)|skip
  have:=Vn l t key d (wy++[no]) (Xi (trV l no key):Int)
  simp at this ⊢
  omega
theorem Ta(B Bi b bx:Nat)(p:O0)(n c:Nat)(l:Bl)(top id v:Int)(way:List Int)(pw:O0)(cw:Nat)(w:World)(hBx:B≤bx)(hBw:B≤w.heap.size)(kx:Blk w bx [P0 b,.slice pw way.length cw] 65)(hway:w.ownsRow B 3 1 (.slice pw way.length cw) way.length (way.map V0))(hI:ImgR Bi b p n c l w)(hwl:way.length≤1000) :
 C0 17 #[P0 bx,V0 top,V0 id,V0 v] w (AllP (Xx l way top id v) B w):=by
 refine zin 39 Tryz.func17 ?_
 refine xa 2 [S0,.bool false,V0 0,V0 0] 30 fun b1 W1 n1=>?_
 refine xa 5 [S0,.bool false,V0 0,V0 0] 30 fun b2 W2 n2=>?_
 have a0:=n2.ne n1.blk
 refine xa 4 [V0 0] 3 fun b3 W3 n3=>?_
 have a7:=Zb (Zb hway n1.below) n2.below
 have a2:=Xa a7 n3
 refine xs 0 n3.blk [V0 0] fun W4 u4 k4=>?_
 have g3:=n3.ge0 (blB (blB (Below.refl B w) hBw n1.below) hBw n2.below)
 have f1:=u4.blkT (((kx.below n1.below).below n2.below).below n3.below) n3.blk (by decide)
 have c1:=u4.own3 (Zb a7 n3.below) a2
 have d6:=(((hI.below n1.below).below n2.below).below n3.below).only (Zg.of_upd (T:=[3]) u4 n3.blk (by decide)) (by decide)
 have hB:=u4.below (blB (blB (blB (Below.refl B w) hBw n1.below) hBw n2.below) hBw n3.below) (Nat.le_trans hBw g3)
 refine xc 8 (args:=#[P0 bx,V0 top,V0 1,V0 id,.func (.func 31) #[] #[P0 b3]]) ((tr_find1 B Bi b bx b3 p n c l id top way pw cw _ hBx (Nat.le_trans hBw g3) (Nat.le_trans hBw hB.size) f1 k4 c1 d6 (by omega) (fun j hj=>a2 j hj)).mono (fun _ _ h=>find1_or h)) ?_
 rintro e W5 f8
 rcases f8 with ⟨b4,f5,x7,p8,c8,rfl,c5,a1,d4,c7,e8⟩|⟨b4,a3,p8,c8,rfl,c5,a1,d4,b0,c7⟩|⟨b4,a3,h6,p8,c8,rfl,c5,a1,d4,b0,c7⟩
 ·have d3:=(u4.blkT ((n1.blk.below n2.below).below n3.below) n3.blk (by decide)).only a1 (by decide)
  refine xsv 29 d3 [S0,.bool false,V0 0,V0 0] fun W6 u6 k6=>?_
  have g1:=n1.ge0 (Below.refl B _)
  have e4:=u6.below (hB.trans c5) (Nat.le_trans hBw g1)
  have hO:=(Zg.upd_new ((Zg.upd_new (((show Zg [65,3,32,30] w _ from(Zg.of_below n1.below)).trans (Zg.of_below n2.below)).trans (Zg.of_below n3.below)) u4 g3).trans (Ls a1)) u6 g1)
  have d1:=e8.upd u6 d3 (by decide)
  refine xec 5 k6 (.tuple #[.agg #[S0,.bool false,V0 0,V0 0],.iface f5 (x7)]) ?_
  rw[allT_b1 b4]
  exact .inl ⟨b4,_,_,rfl,e4,hO,d1⟩
 ·refine xb 9 0 c7 ?_
  refine xb 22 1 d4 ?_
  have k2:=(u4.blkT (n2.blk.below n3.below) n3.blk (by decide)).only a1 (by decide)
  refine xs 1 k2 [.slice p8 ((Zj l 1 id 16 way top).1.length) c8,.bool false,V0 0,V0 0] fun W7 u7 k7=>?_
  have g2:=n2.ge0 (blB (Below.refl B w) hBw n1.below)
  refine xlv 4 k7.rp ?_
  have d0:=u7.blk ((u4.blkT ((n1.blk.below n2.below).below n3.below) n3.blk (by decide)).only a1 (by decide)) (Ne.symm (Ne.symm a0))
  refine xsv 0 d0 [.slice p8 ((Zj l 1 id 16 way top).1.length) c8,.bool false,V0 0,V0 0] fun W8 u8 k8=>?_
  have g1:=n1.ge0 (Below.refl B _)
  have b9:=u8.own2 (u7.own2 b0 k2 (by decide)) d0 (by decide)
  have e6:=u8.below (u7.below (hB.trans c5) (Nat.le_trans hBw g2)) (Nat.le_trans hBw g1)
  have hO:=(Zg.upd_new (Zg.upd_new ((Zg.upd_new (((show Zg [65,3,32,30] w _ from(Zg.of_below n1.below)).trans (Zg.of_below n2.below)).trans (Zg.of_below n3.below)) u4 g3).trans (Ls a1)) u7 g2) u8 g1)
  refine xec 4 k8 (.tuple #[.agg #[.slice p8 ((Zj l 1 id 16 way top).1.length) c8,.bool false,V0 0,V0 0],.nilIface]) ?_
  first|(exfalso;omega)|(rw[allT_n1 b4 a3];exact .inr ⟨rfl,_,_,rfl,e6,hO,b9⟩)
 refine xb 9 0 c7 ?_
 refine xid 4 ((↑(Xi (trS (Zj l 1 id 16 way top))):Int)>(0:Int)) (fun g7=>?_) (fun g7=>?_)
 ·refine xb 2 0 c7 ?_
  have f6:=d6.only a1 (by decide)
  have k2:=(u4.blkT (n2.blk.below n3.below) n3.blk (by decide)).only a1 (by decide)
  have e7:=(u4.blkT ((n1.blk.below n2.below).below n3.below) n3.blk (by decide)).only a1 (by decide)
  have e3:=e7
  have h3:=Vn l 1 id 16 way top
  have g2:=n2.ge0 (blB (Below.refl B w) hBw n1.below)
  have a9:=hB.trans c5
  refine xc 2 (args:=#[P0 bx,V0 (↑(Xi (trS (Zj l 1 id 16 way top))):Int),V0 2,V0 v,.func (.func 33) #[] #[P0 b2]]) ((tr_find2 B Bi b bx b2 p n c l v (↑(Xi (trS (Zj l 1 id 16 way top))):Int) (Zj l 1 id 16 way top).1 p8 c8 _ hBx (Nat.le_trans hBw g2) (Nat.le_trans hBw a9.size) d4 k2 b0 f6 (by omega)).mono (fun _ _ h=>find2_or h)) ?_
  rintro e h2 e5
  rcases e5 with ⟨c4,f5,x7,p9,c9,rfl,a6,a5,d7,a8,a4,e8⟩|⟨c4,c3,p9,c9,rfl,a6,a5,d7,a8,b7,a4⟩|⟨c4,c3,p9,c9,rfl,a6,a5,d7,a8,b7,a4⟩
  ·have c6:=d7.h _ _ (Ne.symm (Ne.symm a0)) e3
   refine xsv 15 c6 [S0,.bool false,V0 0,V0 0] fun i0 f0 h0=>?_
   have g1:=n1.ge0 (Below.refl B _)
   have f3:=f0.below (a9.trans a6) (Nat.le_trans hBw g1)
   have hO:=(Zg.upd_new (((Zg.upd_new (((show Zg [65,3,32,30] w _ from(Zg.of_below n1.below)).trans (Zg.of_below n2.below)).trans (Zg.of_below n3.below)) u4 g3).trans (Ls a1)).trans a5) f0 g1)
   have d5:=e8.upd f0 c6 (by decide)
   refine xec 5 h0 (.tuple #[.agg #[S0,.bool false,V0 0,V0 0],.iface f5 (x7)]) ?_
   rw[allT_b2 b4 a3 rfl c4]
   exact .inl ⟨c4,_,_,rfl,f3,hO,d5⟩
  ·have c6:=d7.h _ _ (Ne.symm (Ne.symm a0)) e3
   refine xb 18 1 a8 ?_
   refine xs 1 a4 [.slice p9 ((Zj l 2 v 16 (Zj l 1 id 16 way top).1 (↑(Xi (trS (Zj l 1 id 16 way top))):Int)).1.length) c9,.bool false,V0 0,V0 0] fun h7 d8 g8=>?_
   refine xlv 4 g8.rp ?_
   have b5:=d8.blk c6 (Ne.symm (Ne.symm a0))
   refine xsv 0 b5 [.slice p9 ((Zj l 2 v 16 (Zj l 1 id 16 way top).1 (↑(Xi (trS (Zj l 1 id 16 way top))):Int)).1.length) c9,.bool false,V0 0,V0 0] fun h8 f2 g0=>?_
   have g1:=n1.ge0 (Below.refl B _)
   have c2:=f2.own2 (d8.own2 b7 a4 (by decide)) b5 (by decide)
   have f7:=f2.below (d8.below (a9.trans a6) (Nat.le_trans hBw g2)) (Nat.le_trans hBw g1)
   have hO:=(Zg.upd_new (Zg.upd_new (((Zg.upd_new (((show Zg [65,3,32,30] w _ from(Zg.of_below n1.below)).trans (Zg.of_below n2.below)).trans (Zg.of_below n3.below)) u4 g3).trans (Ls a1)).trans a5) d8 g2) f2 g1)
   refine xec 4 g0 (.tuple #[.agg #[.slice p9 ((Zj l 2 v 16 (Zj l 1 id 16 way top).1 (↑(Xi (trS (Zj l 1 id 16 way top))):Int)).1.length) c9,.bool false,V0 0,V0 0],.nilIface]) ?_
   rw[allT_n2 b4 a3 rfl c4 c3]
   exact .inr ⟨rfl,_,_,rfl,f7,hO,c2⟩
  have c6:=d7.h _ _ (Ne.symm (Ne.symm a0)) e3
  refine xb 18 1 a8 ?_
  refine xs 1 a4 [.slice p9 ((Zj l 2 v 16 (Zj l 1 id 16 way top).1 (↑(Xi (trS (Zj l 1 id 16 way top))):Int)).1.length) c9,.bool true,V0 (↑(Um (trS (Zj l 2 v 16 (Zj l 1 id 16 way top).1 (↑(Xi (trS (Zj l 1 id 16 way top))):Int)))):Int),V0 (↑(Ws (trS (Zj l 2 v 16 (Zj l 1 id 16 way top).1 (↑(Xi (trS (Zj l 1 id 16 way top))):Int)))):Int)] fun h4 d9 g9=>?_
  refine xlv 4 g9.rp ?_
  have b6:=d9.blk c6 (Ne.symm (Ne.symm a0))
  refine xsv 0 b6 [.slice p9 ((Zj l 2 v 16 (Zj l 1 id 16 way top).1 (↑(Xi (trS (Zj l 1 id 16 way top))):Int)).1.length) c9,.bool true,V0 (↑(Um (trS (Zj l 2 v 16 (Zj l 1 id 16 way top).1 (↑(Xi (trS (Zj l 1 id 16 way top))):Int)))):Int),V0 (↑(Ws (trS (Zj l 2 v 16 (Zj l 1 id 16 way top).1 (↑(Xi (trS (Zj l 1 id 16 way top))):Int)))):Int)] fun h5 e1 g5=>?_
  have g1:=n1.ge0 (Below.refl B _)
  have c0:=e1.own2 (d9.own2 b7 a4 (by decide)) b6 (by decide)
  have e9:=e1.below (d9.below (a9.trans a6) (Nat.le_trans hBw g2)) (Nat.le_trans hBw g1)
  have hO:=(Zg.upd_new (Zg.upd_new (((Zg.upd_new (((show Zg [65,3,32,30] w _ from(Zg.of_below n1.below)).trans (Zg.of_below n2.below)).trans (Zg.of_below n3.below)) u4 g3).trans (Ls a1)).trans a5) d9 g2) e1 g1)
  refine xec 4 g5 (.tuple #[.agg #[.slice p9 ((Zj l 2 v 16 (Zj l 1 id 16 way top).1 (↑(Xi (trS (Zj l 1 id 16 way top))):Int)).1.length) c9,.bool true,V0 (↑(Um (trS (Zj l 2 v 16 (Zj l 1 id 16 way top).1 (↑(Xi (trS (Zj l 1 id 16 way top))):Int)))):Int),V0 (↑(Ws (trS (Zj l 2 v 16 (Zj l 1 id 16 way top).1 (↑(Xi (trS (Zj l 1 id 16 way top))):Int)))):Int)],.nilIface]) ?_
  rw[allT_v2 b4 a3 rfl c4 c3]
  exact .inr ⟨rfl,_,_,rfl,e9,hO,c0⟩
 refine xb 17 1 d4 ?_
 have k2:=(u4.blkT (n2.blk.below n3.below) n3.blk (by decide)).only a1 (by decide)
 refine xs 1 k2 [.slice p8 ((Zj l 1 id 16 way top).1.length) c8,.bool false,V0 0,V0 0] fun h1 e0 f9=>?_
 have g2:=n2.ge0 (blB (Below.refl B w) hBw n1.below)
 refine xlv 4 f9.rp ?_
 have d2:=e0.blk ((u4.blkT ((n1.blk.below n2.below).below n3.below) n3.blk (by decide)).only a1 (by decide)) (Ne.symm (Ne.symm a0))
 refine xsv 0 d2 [.slice p8 ((Zj l 1 id 16 way top).1.length) c8,.bool false,V0 0,V0 0] fun h9 f4 g6=>?_
 have g1:=n1.ge0 (Below.refl B _)
 have b8:=f4.own2 (e0.own2 b0 k2 (by decide)) d2 (by decide)
 have e2:=f4.below (e0.below (hB.trans c5) (Nat.le_trans hBw g2)) (Nat.le_trans hBw g1)
 have hO:=(Zg.upd_new (Zg.upd_new ((Zg.upd_new (((show Zg [65,3,32,30] w _ from(Zg.of_below n1.below)).trans (Zg.of_below n2.below)).trans (Zg.of_below n3.below)) u4 g3).trans (Ls a1)) e0 g2) f4 g1)
 refine xec 4 g6 (.tuple #[.agg #[.slice p8 ((Zj l 1 id 16 way top).1.length) c8,.bool false,V0 0,V0 0],.nilIface]) ?_
 first|(exfalso;omega)|(rw[allT_n1 b4 a3];exact .inr ⟨rfl,_,_,rfl,e2,hO,b8⟩)
def AllU(O:TrO)(N b8:Nat)(cs:List Value)(w:World)(e:Ending)(w':World):Prop :=
 (O.c≠0∧∃ ty x,e=.returned (.tuple #[.agg #[S0,.bool false,V0 0,V0 0],.iface ty x])∧Below N w w'∧Zg [65,3,32,30] w w'∧Blk w' b8 cs 30∧Kv w' (O.fl.map some) (some O.c) (.iface ty x)) ∨
 (O.c=0∧∃ p c,e=.returned (.tuple #[.agg #[.slice p O.way.length c,.bool O.found,V0 O.b,V0 O.t],.nilIface])∧Below N w w'∧Zg [65,3,32,30] w w'∧Blk w' b8 cs 30∧w'.ownsRow N 3 1 (.slice p O.way.length c) O.way.length (O.way.map V0))
theorem all_up{O:TrO}{B N b8:Nat}{cs:List Value}{w:World}{e:Ending}{w':World}(h:AllP O B w e w')(hN:N≤B)(k8:Blk w b8 cs 30)(h8:b8<B):AllU O N b8 cs w e w':=by
 rcases h with ⟨h1,ty,x,h2,h3,h4,h5⟩|⟨h1,p,c,h2,h3,h4,h5⟩
 ·exact .inl ⟨h1,ty,x,h2,h3.mono hN,h4,(h3.block b8 h8).trans k8,h5⟩
 ·exact .inr ⟨h1,p,c,h2,h3.mono hN,h4,(h3.block b8 h8).trans k8,Ze h5 hN⟩
def TrP (O:TrO)(w:World)(e:Ending)(w':World):Prop :=
 (O.c≠0∧∃ ty x,e=.returned (.tuple #[.agg #[S0,.bool false,V0 0,V0 0],.iface ty x])∧B3 w w'∧Kv w' (O.fl.map some) (some O.c) (.iface ty x)) ∨
 (O.c=0∧∃ p c,e=.returned (.tuple #[.agg #[.slice p O.way.length c,.bool O.found,V0 O.b,V0 O.t],.nilIface])∧B3 w w'∧w'.ownsRow w.heap.size 3 1 (.slice p O.way.length c) O.way.length (O.way.map V0))
def Pv(l:Bl)(id v:Int):TrO:=if Zz l≠0 then Lq [0] (Zz l) else Xx l [0] (Zf (inB l 0)).top id v
theorem Aj{l:Bl}{id v:Int}(h:Zz l≠0):Pv l id v=Lq [0] (Zz l):=if_pos h
theorem Ey{l:Bl}{id v:Int}(h:Zz l=0):Pv l id v=Xx l [0] (Zf (inB l 0)).top id v:=if_neg fun q=>q h
theorem Zco(Bi b:Nat)(p:O0)(n c:Nat)(l:Bl)(top:Int)(id v:Int)(w:World)(hI:ImgR Bi b p n c l w) :
 C0 7 #[P0 b,V0 top,V0 id,V0 v] w (TrP (Xx l [] top id v) w):=by
 refine zin 21 Tryz.func7 ?_
 refine xa 2 [S0,.bool false,V0 0,V0 0] 30 fun b1 W1 n1=>?_
 refine xa 7 [P0 b,S0] 65 fun b2 W2 n2=>?_
 have k1:=n1.blk.below n2.below
 have a4:=(hI.below n1.below).below n2.below
 have g2:=n2.ge n1.below
 refine xc 9 (args:=#[P0 b2,V0 top,V0 id,V0 v]) ((Ta b2 Bi b b2 p n c l top id v [] none 0 _ (Nat.le_refl _) (Nat.le_of_lt (n2.blk).lt) n2.blk (World.ownsRow_nil _ _ _ _) a4 (by decide)).mono (fun _ _ h=>all_up h g2 k1 (Nat.lt_of_lt_of_le n1.blk.lt (n2.ge (Below.refl _ _))))) ?_
 rintro e W3 a6
 rcases a6 with ⟨hz,a5,x7,rfl,a3,a9,a1,a8⟩|⟨hz,p8,c8,rfl,a3,a9,a1,a7⟩
 ·refine xsv 2 a1 [S0,.bool false,V0 0,V0 0] fun W4 u4 k4=>?_
  have g1:=n1.ge (B4 w)
  have hB:=u4.below ((bln n1.below n2.below).trans a3) g1
  have a2:=a8.upd u4 a1 (by decide)
  refine xec 4 k4 (.tuple #[.agg #[S0,.bool false,V0 0,V0 0],.iface a5 (x7)]) ?_
  exact .inl ⟨hz,_,_,rfl,hB,a2⟩
 refine xsv 2 a1 [.slice p8 ((Xx l [] top id v).way.length) c8,.bool ((Xx l [] top id v).found),V0 ((Xx l [] top id v).b),V0 ((Xx l [] top id v).t)] fun W5 u5 k5=>?_
 have g1:=n1.ge (B4 w)
 have a0:=u5.own2 a7 a1 (by decide)
 have hB:=u5.below ((bln n1.below n2.below).trans a3) g1
 refine xec 4 k5 (.tuple #[.agg #[.slice p8 ((Xx l [] top id v).way.length) c8,.bool ((Xx l [] top id v).found),V0 ((Xx l [] top id v).b),V0 ((Xx l [] top id v).t)],.nilIface]) ?_
 exact .inr ⟨hz,_,_,rfl,hB,a0⟩
theorem Eo(Bi b:Nat)(p:O0)(n c:Nat)(l:Bl)(id v:Int)(w:World)(hI:ImgR Bi b p n c l w) :
 C0 9 #[P0 b,V0 id,V0 v] w (TrP (Pv l id v) w):=by
 refine zin 32 Tryz.func9 ?_
 refine xa 2 [S0,.bool false,V0 0,V0 0] 30 fun b1 W1 n1=>?_
 have a5:=hI.below n1.below
 refine xc 6 (args:=#[P0 b]) (Zci Bi b p n c l _ a5) ?_
 rintro e W2 c0
 rcases c0 with ⟨a6,bs,rfl,a0,c2⟩|⟨a6,rfl,a0⟩
 ·refine xa 3 [V0 0,V0 0,V0 0,V0 0,V0 0,V0 0,V0 0,V0 0,V0 0,V0 0,V0 0] 69 fun b3 W3 n3=>?_
  refine xsv 0 n3.blk [V0 0,V0 0,V0 0,V0 0,V0 0,V0 0,V0 0,V0 0,V0 0,V0 0,V0 0] fun W4 u4 k4=>?_
  have g3:=n3.ge (bln n1.below a0)
  have k1:=u4.blkT ((n1.blk.below a0).below n3.below) n3.blk (by decide)
  refine xsv 15 k1 [S0,.bool false,V0 0,V0 0] fun W5 u5 k5=>?_
  have g1:=n1.ge (B4 w)
  have a3:=((c2.below n3.below).upd u4 n3.blk (by decide)).upd u5 k1 (by decide)
  have hB:=u5.below (u4.below (bln (bln n1.below a0) n3.below) g3) g1
  refine xec 5 k5 (.tuple #[.agg #[S0,.bool false,V0 0,V0 0],.iface 113 (P0 bs)]) ?_
  rw[Aj a6]
  exact .inl ⟨a6,_,_,rfl,hB,a3⟩
 refine xa 3 [V0 0,V0 0,V0 0,V0 0,V0 0,V0 0,V0 0,V0 0,V0 0,V0 0,V0 0] 69 fun b6 W6 n6=>?_
 refine xsv 0 n6.blk [V0 ((Zf (inB l 0)).tx),V0 ((Zf (inB l 0)).time),V0 ((Zf (inB l 0)).unit),V0 ((Zf (inB l 0)).data),V0 ((Zf (inB l 0)).blocks),V0 ((Zf (inB l 0)).top),V0 ((Zf (inB l 0)).details),V0 ((Zf (inB l 0)).dslots),V0 ((Zf (inB l 0)).dover),V0 ((Zf (inB l 0)).mindex),V0 ((Zf (inB l 0)).mover)] fun W7 u7 k7=>?_
 have g6:=n6.ge (bln n1.below a0)
 refine xbs 16 1 [V0 0] 3 fun b8 W8 n8=>?_
 refine xa 1 [P0 b,.slice (S1 b8) 1 1] 65 fun b9 W9 n9=>?_
 have b2:=(k7.below n8.below).below n9.below
 refine xb 7 5 b2 ?_
 have k1:=((u7.blkT ((n1.blk.below a0).below n6.below) n6.blk (by decide)).below n8.below).below n9.below
 have b4:=((((a5.below a0).below n6.below).only (Zg.of_upd (T:=[69]) u7 n6.blk (by decide)) (by decide)).below n8.below).below n9.below
 have k8:=n8.blk.below n9.below
 have a9:b8≤b9:=by have q1:=n8.lt;have q2:=n9.at_;omega
 have c6:b1<b8:=by have q1:=n1.lt;have q2:=a0.size;have q4:=n6.below.size;have q5:=u7.size;have q3:=n8.at_;omega
 have g8:=n8.ge (u7.below (bln (bln n1.below a0) n6.below) g6)
 refine xc 2 (args:=#[P0 b9,V0 ((Zf (inB l 0)).top),V0 id,V0 v]) ((Ta b8 Bi b b9 p n c l (Zf (inB l 0)).top id v [0] (S1 b8) 1 _ (a9) (Nat.le_of_lt (k8).lt) n9.blk (Zp (size:=1) (n:=1) k8 (Nat.le_refl _) rfl (by decide)) b4 (by decide)).mono (fun _ _ h=>all_up h g8 k1 c6)) ?_
 rintro e c9 b0
 rcases b0 with ⟨hz,c5,x7,rfl,a1,a8,a7,c1⟩|⟨hz,p8,c8,rfl,a1,a8,a7,c4⟩
 ·refine xsv 2 a7 [S0,.bool false,V0 0,V0 0] fun d1 b7 c7=>?_
  have g1:=n1.ge (B4 w)
  have hB:=b7.below ((bln (bln (u7.below (bln (bln n1.below a0) n6.below) g6) n8.below) n9.below).trans a1) g1
  have a2:=c1.upd b7 a7 (by decide)
  refine xec 4 c7 (.tuple #[.agg #[S0,.bool false,V0 0,V0 0],.iface c5 (x7)]) ?_
  rw[Ey a6];exact .inl ⟨hz,_,_,rfl,hB,a2⟩
 refine xsv 2 a7 [.slice p8 ((Xx l [0] (Zf (inB l 0)).top id v).way.length) c8,.bool ((Xx l [0] (Zf (inB l 0)).top id v).found),V0 ((Xx l [0] (Zf (inB l 0)).top id v).b),V0 ((Xx l [0] (Zf (inB l 0)).top id v).t)] fun d0 b5 c3=>?_
 have g1:=n1.ge (B4 w)
 have a4:=b5.own2 c4 a7 (by decide)
 have hB:=b5.below ((bln (bln (u7.below (bln (bln n1.below a0) n6.below) g6) n8.below) n9.below).trans a1) g1
 refine xec 4 c3 (.tuple #[.agg #[.slice p8 ((Xx l [0] (Zf (inB l 0)).top id v).way.length) c8,.bool ((Xx l [0] (Zf (inB l 0)).top id v).found),V0 ((Xx l [0] (Zf (inB l 0)).top id v).b),V0 ((Xx l [0] (Zf (inB l 0)).top id v).t)],.nilIface]) ?_
 rw[Ey a6];exact .inr ⟨hz,_,_,rfl,hB,a4⟩
theorem Zc0{P:Program}(w:World)(base:Nat)(t ty e:TypeId)(i:TypeInfo)(z:Value)(size bytes:Nat)(ht:P.underlying t=some (.slice e))(hi:P.info? e=some i)(hz:i.zero=some z)
 (hsize:i.size=size) (hby:i.bytes=bytes) (hzs:z.cells.size=size) (hsz:0<size) (v:Value) (n:Nat) (rx:List Value) (hown:w.ownsRow base e size v n rx)
 (x:Value) (m:Nat) (news:List Value) (hx:Sl w x m news) (hl:news.length=m*size) (h1:∀ u∈news,u.oneCell'=true)
 (h63:n+m≤maxLen) (hbytes:(n+m)*bytes≤140737488355328) (hbase:base≤w.heap.size) :
 ∃ v' w',(Builtin.append_ #[t,t] ty #[v,x]).run P w=.ok v' w'∧w'.ownsRow base e size v' (n+m) (rx++news)∧w.grownBy w' v.ownBlock∧(v'.ownBlock=v.ownBlock∨v'.ownBlock=some w.heap.size):=by
 have a0:∀ (a:Addr) (c:Nat),x=.slice (some a) m c→(∀ j u,news[j]? = some u→w.cell? (a.add j)=some u) →
   ∃ v' w',(Builtin.append_ #[t,t] ty #[v,x]).run P w=.ok v' w'∧w'.ownsRow base e size v' (n+m) (rx++news)∧w.grownBy w' v.ownBlock∧(v'.ownBlock=v.ownBlock∨v'.ownBlock=some w.heap.size):=by
  rintro a c rfl hc
  obtain⟨v',w',h2,h3,h4,_,h5⟩:=run_append_own_at (P:=P) w base t ty e i z size bytes ht hi hz hsize hby hzs hsz v n rx hown a m c news hl hc h1 h63 hbytes hbase
  exact⟨v',w',h2,h3,h4,h5⟩
 rcases hx with ⟨a,c,rfl,rfl,rfl⟩|⟨b,a4,a1,rfl,a5,a3,hc⟩
 ·cases a with
  | some a=>exact a0 a c rfl (fun j u hu=>by simp at hu)
  | none =>
   refine⟨v,w,?_,by simpa using hown,World.grownBy.refl w _,.inl rfl⟩
   rcases hown.2 with ⟨rfl,rfl⟩|⟨g,a1,a6,rfl,_,_,a2,_⟩
   ·simp[Builtin.append_,run_underlying ht,sizeOf,typeInfo,hi,Builtin.lenOf,Builtin.firstCells]
   ·simp[Builtin.append_,run_underlying ht,sizeOf,typeInfo,hi,Builtin.lenOf,Builtin.firstCells,a2,storeCells]
 ·refine a0 ⟨b,a4,none⟩ a1 rfl (fun j u hu=>?_)
  have:=hc j u hu
  by_cases h0:j=0
  ·subst h0;simpa [Addr.add] using this
  ·simpa [Addr.add,h0] using this
theorem Zez{P:Program}{a:Act}{w:World}{K:Act→World→Prop}{Q:Exit→Act→World→Prop}{o:Oper}{s x:Operand}{t e:TypeId}{base:Nat}{v:Value}{n:Nat}{rx:List Value}{u:Value}{m:Nat}{news:List Value}(z:Value)(size bytes n':Nat)(rx':List Value)
 (ho:o.op=.call { callee:=.builtin .append,args:=#[s,x],argTypes:=#[t,t] }) (ht:P.underlying t=some (.slice e)) (hi:(P.info? e).map (fun i=>(i.zero,i.size,i.bytes))=some (some z,size,bytes)) (hzs:z.cells.size=size) (hsz:0<size) (hs:a.eval s=v)
 (hown:w.ownsRow base e size v n rx) (hu:a.eval x=u) (hx:Sl w u m news) (hl:news.length=m*size) (h1:∀ u∈news,u.oneCell'=true) (h63:n+m≤maxLen) (hbytes:(n+m)*bytes≤140737488355328) (hbase:base≤w.heap.size) (hn:n+m=n') (hxs:rx++news=rx')
 (h:∀ p c W,W.ownsRow base e size (.slice p n' c) n' rx'→w.grownBy W v.ownBlock→Below base w W→((Value.slice p n' c).ownBlock=v.ownBlock∨(Value.slice p n' c).ownBlock=some w.heap.size)→K (a.put o.dst (.slice p n' c)) W):o.wp P a w K Q:=by
 cases hq:P.info? e with
 | none=>simp[hq] at hi
 | some i =>
  simp only[hq,Option.map_some,Option.some.injEq,Prod.mk.injEq] at hi
  obtain⟨v',W,hr,h2,h3,h5⟩:=Zc0 (P:=P) w base t o.type e i z size bytes ht hq hi.1 hi.2.1 hi.2.2 hzs hsz v n rx hown u m news hx hl h1 h63 hbytes hbase
  subst hn hxs
  obtain⟨p,c2,rfl⟩:=(Zd h2).slice
  unfold Oper.wp execOp
  simp only[ho,resolve,invoke,builtin,Sem.run_bind,Sem.run_pure,Result.andThen_ok,List.map_toArray,List.map_cons,List.map_nil,hs,hu,hr]
  exact h p c2 W h2 h3 (Qk h3 hown (Nat.le_refl _) hbase) h5
def WrP (L:List Int)(ec:Int)(w:World)(e:Ending)(w':World):Prop:=∃ a c,e=.returned (.agg #[.slice a L.length c,V0 ec])∧B3 w w'∧w'.ownsRow w.heap.size 3 1 (.slice a L.length c) L.length (L.map V0)
def LastP(K:List Int)(key:Int)(w:World)(e:Ending)(w':World):Prop :=
 (trC K key=0∧e=.returned (V0 (-1))∧B3 w w')∨(∃ c,trC K key=c+1∧c<K.length∧e=.returned (V0 (c:Int))∧B3 w w')
theorem Dx(w:World):Ints w (S0) []:=.inl ⟨none,0,rfl,rfl,rfl⟩
theorem trC_yes{K:List Int}(h:K.Pairwise (·<·)){key:Int}{i:Nat}(hi:i<K.length)(hk:K.getD i 0≤key):((trC (K.take (i+1)) key:Nat):Int)=(i:Int)+1:=by
  have hp:(K.take (i+1)).Pairwise (·<·):=h.sublist (List.take_sublist _ _)
  have hl:(K.take (i+1)).length=i+1:=by rw[List.length_take];omega
  have e:K.getD i 0=K[i]:=by simp[List.getD,hi]
  have:=(trC_at hp (key:=key) (i:=i) (by omega)).1 (by rw[List.getElem_take,←e];exact hk)
  have:=Zdv (K.take (i+1)) key
  omega
theorem trC_no{K:List Int}{key:Int}{i:Nat}(hi:i<K.length)(hk:¬ K.getD i 0≤key):((trC (K.take (i+1)) key:Nat):Int)=((trC (K.take i) key:Nat):Int):=by
 have e:K.getD i 0=K[i]:=by simp[List.getD,hi]
 rw[e] at hk
 rw[List.take_succ_eq_append_getElem hi]
 unfold trC
 rw[List.countP_append]
 simp[hk]
theorem trZ_yes{K:List Int}(h:K.Pairwise (·<·)){key:Int}{i:Nat}(hi:i<K.length)(hk:K.getD i 0≤key):(i:Int)=((trC (K.take (i+1)) key:Nat):Int)-1:=by rw[trC_yes h hi hk];omega
theorem trZ_no{K:List Int}{key z:Int}{i:Nat}(hi:i<K.length)(hk:¬ K.getD i 0≤key)(hz:z=((trC (K.take i) key:Nat):Int)-1):z=((trC (K.take (i+1)) key:Nat):Int)-1:=by rw[trC_no hi hk];exact hz
theorem last_of{K:List Int}{key z:Int}{n i:Nat}{w w':World}(hn:K.length=n)(hi:i=n)(hz:z=((trC (K.take i) key:Nat):Int)-1)(hb:B3 w w'):LastP K key w (.returned (V0 z)) w':=by
 subst hi
 rw[←hn,List.take_length] at hz
 have a0:=Zdv K key
 cases h0:trC K key with
 | zero=>rw[h0] at hz;exact .inl ⟨h0,by rw[hz];rfl,hb⟩
 | succ c=>rw[h0] at hz;exact .inr ⟨c,h0,by omega,by rw[hz];congr 2;omega,hb⟩
theorem Hz(wa fa:O0)(wc fc:Nat)(way fl:List Int)(ec:Int)(w:World)(hw:Ints w (.slice wa way.length wc) way)(hf:Ints w (.slice fa fl.length fc) fl)(hwl:way.length≤1000000)(hfl:fl.length≤1000000) :
 C0 37 #[.slice wa way.length wc,.agg #[.slice fa fl.length fc,V0 ec]] w (WrP (way++fl) ec w):=by
 refine zin 14 Tryz.func37 ?_
 refine xa 2 [.slice fa fl.length fc,V0 ec] 37 fun b1 W1 n1=>?_
 refine xa 0 [S0,V0 0] 37 fun b2 W2 n2=>?_
 have r9:=n2.ne n1.blk
 refine xd 3 (.t w.heap.size [3,37]) ?_
 refine xm3 (.b [1,3,6]) 0 4 7 ?_ ?_ ?_
 ·refine xb0 0 3 fun b3 W3 n3=>?_
  refine xm3 0 2 4 7 ?_ ?_ ?_
  ·have o3:=Zp (size:=1) (n:=0) n3.blk (n3.ge (bln (bln n1.below n2.below) (Za W2))) rfl (by decide)
   have hB:=bln (bln (bln n1.below n2.below) (Za W2)) n3.below
   refine ybi 0 (.t w.heap.size [3,37]) fun _ _ _ _ zJ zQ zo zx zy zK=>Zo (m:=way.length) (news:=(way.map V0)) (V0 0) 1 8 (way.length) ((way.map V0)) zo Tryz.underlying28 (by kernel_rfl) rfl (by decide) zx o3 zy (hw.below hB) (by simp) (by simp[Value.oneCell']) (by unfold maxLen;omega) (by omega) hB.size (by omega) (by rfl) fun aa az W4 o4 d7 n7=>?_
   refine zK _ _ (Zn n7 d7 o3 (by decide)) ?_
   refine xm2 0 4 7 ?_ ?_
   ·have c7:=(((n1.blk.below n2.below).below (Za W2)).below n3.below).grown d7 o3 (by decide)
    refine xb 0 0 c7 ?_
    refine xm2 0 5 7 ?_ ?_
    ·have d4:=hB.trans n7
     refine ybi 0 (.t w.heap.size [3,37]) fun _ _ _ _ zJ zQ zo zx zy zK=>Zo (m:=fl.length) (news:=(fl.map V0)) (V0 0) 1 8 ((way++fl).length) (((way++fl).map V0)) zo Tryz.underlying28 (by kernel_rfl) rfl (by decide) zx o4 zy (hf.below d4) (by simp) (by simp[Value.oneCell']) (by unfold maxLen;omega) (by omega) d4.size (by simp) (by simp) fun s4 s6 W5 o5 p2 s7=>?_
     refine zK _ _ (Zn s7 p2 o4 (by decide)) ?_
     have r1:=c7.grown p2 o4 (by decide)
     refine xb (.o [] 7) 1 r1 ?_
     have k2:=(((n2.blk.below (Za W2)).below n3.below).grown d7 o3 (by decide)).grown p2 o4 (by decide)
     have g2:=n2.ge n1.below
     refine ysv (.o [8] 9) k2 [.slice s4 ((way++fl).length) s6,V0 ec] (.t w.heap.size [3,37]) fun W6 u6 k6=>⟨(Zi u6 k2 g2 (by decide)),?_⟩
     have r0:=u6.own2 o5 k2 (by decide)
     have q5:=u6.below (d4.trans s7) g2
     exact xec 3 k6 (.agg #[.slice s4 ((way++fl).length) s6,V0 ec]) ⟨_,_,rfl,q5,r0⟩
    refine xb 0 1 c7 ?_
    have c3:=hB.trans n7
    refine ybi (.o [] 5) (.t w.heap.size [3,37]) fun _ _ _ _ zJ zQ zo zx zy zK=>Zo (m:=fl.length) (news:=(fl.map V0)) (V0 0) 1 8 ((way++fl).length) (((way++fl).map V0)) zo Tryz.underlying28 (by kernel_rfl) rfl (by decide) zx o4 zy (hf.below c3) (by simp) (by simp[Value.oneCell']) (by unfold maxLen;omega) (by omega) c3.size (by simp) (by simp) fun s8 s2 W7 o7 r8 s1=>?_
    refine zK _ _ (Zn s1 r8 o4 (by decide)) ?_
    have k2:=(((n2.blk.below (Za W2)).below n3.below).grown d7 o3 (by decide)).grown r8 o4 (by decide)
    have g2:=n2.ge n1.below
    refine ysv (.o [8] 9) k2 [.slice s8 ((way++fl).length) s2,V0 ec] (.t w.heap.size [3,37]) fun W8 u8 k8=>⟨(Zi u8 k2 g2 (by decide)),?_⟩
    have p5:=u8.own2 o7 k2 (by decide)
    have p9:=u8.below (c3.trans s1) g2
    exact xec 3 k8 (.agg #[.slice s8 ((way++fl).length) s2,V0 ec]) ⟨_,_,rfl,p9,p5⟩
   have l2:=(((n1.blk.below n2.below).below (Za W2)).below n3.below).grown d7 o3 (by decide)
   refine xb 0 1 l2 ?_
   refine xb (.o [] 4) 0 l2 ?_
   have d0:=hB.trans n7
   refine ybi (.o [] 5) (.t w.heap.size [3,37]) fun _ _ _ _ zJ zQ zo zx zy zK=>Zo (m:=fl.length) (news:=(fl.map V0)) (V0 0) 1 8 ((way++fl).length) (((way++fl).map V0)) zo Tryz.underlying28 (by kernel_rfl) rfl (by decide) zx o4 zy (hf.below d0) (by simp) (by simp[Value.oneCell']) (by unfold maxLen;omega) (by omega) d0.size (by simp) (by simp) fun s9 s5 W9 o9 s3 s0=>?_
   refine zK _ _ (Zn s0 s3 o4 (by decide)) ?_
   have k2:=(((n2.blk.below (Za W2)).below n3.below).grown d7 o3 (by decide)).grown s3 o4 (by decide)
   have g2:=n2.ge n1.below
   refine ysv (.o [8] 9) k2 [.slice s9 ((way++fl).length) s5,V0 ec] (.t w.heap.size [3,37]) fun x8 r7 x0=>⟨(Zi r7 k2 g2 (by decide)),?_⟩
   have q2:=r7.own2 o9 k2 (by decide)
   have o0:=r7.below (d0.trans s0) g2
   exact xec 3 x0 (.agg #[.slice s9 ((way++fl).length) s5,V0 ec]) ⟨_,_,rfl,o0,q2⟩
  ·have c0:=((n1.blk.below n2.below).below (Za W2)).below n3.below
   refine xb 0 0 c0 ?_
   refine xm2 0 2 7 ?_ ?_
   ·have o3:=Zp (size:=1) (n:=0) n3.blk (n3.ge (bln (bln n1.below n2.below) (Za W2))) rfl (by decide)
    have hB:=bln (bln (bln n1.below n2.below) (Za W2)) n3.below
    refine ybi 0 (.t w.heap.size [3,37]) fun _ _ _ _ zJ zQ zo zx zy zK=>Zo (m:=way.length) (news:=(way.map V0)) (V0 0) 1 8 (way.length) ((way.map V0)) zo Tryz.underlying28 (by kernel_rfl) rfl (by decide) zx o3 zy (hw.below hB) (by simp) (by simp[Value.oneCell']) (by unfold maxLen;omega) (by omega) hB.size (by omega) (by rfl) fun x5 w1 y7 c5 a9 c4=>?_
    refine zK _ _ (Zn c4 a9 o3 (by decide)) ?_
    refine xm2 0 5 7 ?_ ?_
    ·have c6:=hB.trans c4
     refine ybi 0 (.t w.heap.size [3,37]) fun _ _ _ _ zJ zQ zo zx zy zK=>Zo (m:=fl.length) (news:=(fl.map V0)) (V0 0) 1 8 ((way++fl).length) (((way++fl).map V0)) zo Tryz.underlying28 (by kernel_rfl) rfl (by decide) zx c5 zy (hf.below c6) (by simp) (by simp[Value.oneCell']) (by unfold maxLen;omega) (by omega) c6.size (by simp) (by simp) fun h8 i8 y5 w8 d2 e7=>?_
     refine zK _ _ (Zn e7 d2 c5 (by decide)) ?_
     have r2:=(c0.grown a9 o3 (by decide)).grown d2 c5 (by decide)
     refine xb (.o [] 7) 1 r2 ?_
     have k2:=(((n2.blk.below (Za W2)).below n3.below).grown a9 o3 (by decide)).grown d2 c5 (by decide)
     have g2:=n2.ge n1.below
     refine ysv (.o [8] 9) k2 [.slice h8 ((way++fl).length) i8,V0 ec] (.t w.heap.size [3,37]) fun y6 r6 u7=>⟨(Zi r6 k2 g2 (by decide)),?_⟩
     have g1:=r6.own2 w8 k2 (by decide)
     have r4:=r6.below (c6.trans e7) g2
     exact xec 3 u7 (.agg #[.slice h8 ((way++fl).length) i8,V0 ec]) ⟨_,_,rfl,r4,g1⟩
    have q7:=c0.grown a9 o3 (by decide)
    refine xb 0 1 q7 ?_
    have c8:=hB.trans c4
    refine ybi (.o [] 5) (.t w.heap.size [3,37]) fun _ _ _ _ zJ zQ zo zx zy zK=>Zo (m:=fl.length) (news:=(fl.map V0)) (V0 0) 1 8 ((way++fl).length) (((way++fl).map V0)) zo Tryz.underlying28 (by kernel_rfl) rfl (by decide) zx c5 zy (hf.below c8) (by simp) (by simp[Value.oneCell']) (by unfold maxLen;omega) (by omega) c8.size (by simp) (by simp) fun l1 m9 y2 v7 i7 m7=>?_
    refine zK _ _ (Zn m7 i7 c5 (by decide)) ?_
    have k2:=(((n2.blk.below (Za W2)).below n3.below).grown a9 o3 (by decide)).grown i7 c5 (by decide)
    have g2:=n2.ge n1.below
    refine ysv (.o [8] 9) k2 [.slice l1 ((way++fl).length) m9,V0 ec] (.t w.heap.size [3,37]) fun au p0 t4=>⟨(Zi p0 k2 g2 (by decide)),?_⟩
    have g0:=p0.own2 v7 k2 (by decide)
    have i1:=p0.below (c8.trans m7) g2
    exact xec 3 t4 (.agg #[.slice l1 ((way++fl).length) m9,V0 ec]) ⟨_,_,rfl,i1,g0⟩
   refine xb 0 1 c0 ?_
   have o3:=Zp (size:=1) (n:=0) n3.blk (n3.ge (bln (bln n1.below n2.below) (Za W2))) rfl (by decide)
   have hB:=bln (bln (bln n1.below n2.below) (Za W2)) n3.below
   refine ybi (.o [] 2) (.t w.heap.size [3,37]) fun _ _ _ _ zJ zQ zo zx zy zK=>Zo (m:=way.length) (news:=(way.map V0)) (V0 0) 1 8 (way.length) ((way.map V0)) zo Tryz.underlying28 (by kernel_rfl) rfl (by decide) zx o3 zy (hw.below hB) (by simp) (by simp[Value.oneCell']) (by unfold maxLen;omega) (by omega) hB.size (by omega) (by rfl) fun t3 u4 z7 p4 k9 f0=>?_
   refine zK _ _ (Zn f0 k9 o3 (by decide)) ?_
   have a2:=hB.trans f0
   refine ybi (.o [] 5) (.t w.heap.size [3,37]) fun _ _ _ _ zJ zQ zo zx zy zK=>Zo (m:=fl.length) (news:=(fl.map V0)) (V0 0) 1 8 ((way++fl).length) (((way++fl).map V0)) zo Tryz.underlying28 (by kernel_rfl) rfl (by decide) zx p4 zy (hf.below a2) (by simp) (by simp[Value.oneCell']) (by unfold maxLen;omega) (by omega) a2.size (by simp) (by simp) fun g5 h2 aj w0 e2 e0=>?_
   refine zK _ _ (Zn e0 e2 p4 (by decide)) ?_
   have k2:=(((n2.blk.below (Za W2)).below n3.below).grown k9 o3 (by decide)).grown e2 p4 (by decide)
   have g2:=n2.ge n1.below
   refine ysv (.o [8] 9) k2 [.slice g5 ((way++fl).length) h2,V0 ec] (.t w.heap.size [3,37]) fun ai r3 w5=>⟨(Zi r3 k2 g2 (by decide)),?_⟩
   have m8:=r3.own2 w0 k2 (by decide)
   have h4:=r3.below (a2.trans e0) g2
   exact xec 3 w5 (.agg #[.slice g5 ((way++fl).length) h2,V0 ec]) ⟨_,_,rfl,h4,m8⟩
  have d6:=((n1.blk.below n2.below).below (Za W2)).below n3.below
  refine xb 0 1 d6 ?_
  refine xm2 0 2 4 ?_ ?_
  ·have o3:=Zp (size:=1) (n:=0) n3.blk (n3.ge (bln (bln n1.below n2.below) (Za W2))) rfl (by decide)
   have hB:=bln (bln (bln n1.below n2.below) (Za W2)) n3.below
   refine ybi 0 (.t w.heap.size [3,37]) fun _ _ _ _ zJ zQ zo zx zy zK=>Zo (m:=way.length) (news:=(way.map V0)) (V0 0) 1 8 (way.length) ((way.map V0)) zo Tryz.underlying28 (by kernel_rfl) rfl (by decide) zx o3 zy (hw.below hB) (by simp) (by simp[Value.oneCell']) (by unfold maxLen;omega) (by omega) hB.size (by omega) (by rfl) fun u0 t7 al p3 d3 k7=>?_
   refine zK _ _ (Zn k7 d3 o3 (by decide)) ?_
   have p1:=d6.grown d3 o3 (by decide)
   refine xb (.o [] 4) 0 p1 ?_
   have b4:=hB.trans k7
   refine ybi (.o [] 5) (.t w.heap.size [3,37]) fun _ _ _ _ zJ zQ zo zx zy zK=>Zo (m:=fl.length) (news:=(fl.map V0)) (V0 0) 1 8 ((way++fl).length) (((way++fl).map V0)) zo Tryz.underlying28 (by kernel_rfl) rfl (by decide) zx p3 zy (hf.below b4) (by simp) (by simp[Value.oneCell']) (by unfold maxLen;omega) (by omega) b4.size (by simp) (by simp) fun j2 h0 af w6 h5 l9=>?_
   refine zK _ _ (Zn l9 h5 p3 (by decide)) ?_
   have k2:=(((n2.blk.below (Za W2)).below n3.below).grown d3 o3 (by decide)).grown h5 p3 (by decide)
   have g2:=n2.ge n1.below
   refine ysv (.o [8] 9) k2 [.slice j2 ((way++fl).length) h0,V0 ec] (.t w.heap.size [3,37]) fun x7 p6 t5=>⟨(Zi p6 k2 g2 (by decide)),?_⟩
   have i0:=p6.own2 w6 k2 (by decide)
   have i5:=p6.below (b4.trans l9) g2
   exact xec 3 t5 (.agg #[.slice j2 ((way++fl).length) h0,V0 ec]) ⟨_,_,rfl,i5,i0⟩
  refine xb 0 0 d6 ?_
  have o3:=Zp (size:=1) (n:=0) n3.blk (n3.ge (bln (bln n1.below n2.below) (Za W2))) rfl (by decide)
  have hB:=bln (bln (bln n1.below n2.below) (Za W2)) n3.below
  refine ybi (.o [] 2) (.t w.heap.size [3,37]) fun _ _ _ _ zJ zQ zo zx zy zK=>Zo (m:=way.length) (news:=(way.map V0)) (V0 0) 1 8 (way.length) ((way.map V0)) zo Tryz.underlying28 (by kernel_rfl) rfl (by decide) zx o3 zy (hw.below hB) (by simp) (by simp[Value.oneCell']) (by unfold maxLen;omega) (by omega) hB.size (by omega) (by rfl) fun x6 v0 ar p8 j0 g3=>?_
  refine zK _ _ (Zn g3 j0 o3 (by decide)) ?_
  have a8:=hB.trans g3
  refine ybi (.o [] 5) (.t w.heap.size [3,37]) fun _ _ _ _ zJ zQ zo zx zy zK=>Zo (m:=fl.length) (news:=(fl.map V0)) (V0 0) 1 8 ((way++fl).length) (((way++fl).map V0)) zo Tryz.underlying28 (by kernel_rfl) rfl (by decide) zx p8 zy (hf.below a8) (by simp) (by simp[Value.oneCell']) (by unfold maxLen;omega) (by omega) a8.size (by simp) (by simp) fun h7 j6 y9 v2 f4 m0=>?_
  refine zK _ _ (Zn m0 f4 p8 (by decide)) ?_
  have k2:=(((n2.blk.below (Za W2)).below n3.below).grown j0 o3 (by decide)).grown f4 p8 (by decide)
  have g2:=n2.ge n1.below
  refine ysv (.o [8] 9) k2 [.slice h7 ((way++fl).length) j6,V0 ec] (.t w.heap.size [3,37]) fun y0 q8 x3=>⟨(Zi q8 k2 g2 (by decide)),?_⟩
  have g9:=q8.own2 v2 k2 (by decide)
  have j1:=q8.below (a8.trans m0) g2
  exact xec 3 x3 (.agg #[.slice h7 ((way++fl).length) j6,V0 ec]) ⟨_,_,rfl,j1,g9⟩
 ·have b7:=(n1.blk.below n2.below).below (Za W2)
  refine xb 0 0 b7 ?_
  refine xm2 0 0 7 ?_ ?_
  ·refine xb0 0 3 fun aq ah a1=>?_
   refine xm2 0 2 7 ?_ ?_
   ·have b9:=Zp (size:=1) (n:=0) a1.blk (a1.ge (bln (bln n1.below n2.below) (Za W2))) rfl (by decide)
    have hB:=bln (bln (bln n1.below n2.below) (Za W2)) a1.below
    refine ybi 0 (.t w.heap.size [3,37]) fun _ _ _ _ zJ zQ zo zx zy zK=>Zo (m:=way.length) (news:=(way.map V0)) (V0 0) 1 8 (way.length) ((way.map V0)) zo Tryz.underlying28 (by kernel_rfl) rfl (by decide) zx b9 zy (hw.below hB) (by simp) (by simp[Value.oneCell']) (by unfold maxLen;omega) (by omega) hB.size (by omega) (by rfl) fun w9 t2 av d5 a4 c9=>?_
    refine zK _ _ (Zn c9 a4 b9 (by decide)) ?_
    refine xm2 0 5 7 ?_ ?_
    ·have b6:=hB.trans c9
     refine ybi 0 (.t w.heap.size [3,37]) fun _ _ _ _ zJ zQ zo zx zy zK=>Zo (m:=fl.length) (news:=(fl.map V0)) (V0 0) 1 8 ((way++fl).length) (((way++fl).map V0)) zo Tryz.underlying28 (by kernel_rfl) rfl (by decide) zx d5 zy (hf.below b6) (by simp) (by simp[Value.oneCell']) (by unfold maxLen;omega) (by omega) b6.size (by simp) (by simp) fun l4 f5 z8 t6 c2 g7=>?_
     refine zK _ _ (Zn g7 c2 d5 (by decide)) ?_
     have e4:=((b7.below a1.below).grown a4 b9 (by decide)).grown c2 d5 (by decide)
     refine xb (.o [] 7) 1 e4 ?_
     have k2:=(((n2.blk.below (Za W2)).below a1.below).grown a4 b9 (by decide)).grown c2 d5 (by decide)
     have g2:=n2.ge n1.below
     refine ysv (.o [8] 9) k2 [.slice l4 ((way++fl).length) f5,V0 ec] (.t w.heap.size [3,37]) fun ag q6 t0=>⟨(Zi q6 k2 g2 (by decide)),?_⟩
     have m1:=q6.own2 t6 k2 (by decide)
     have k1:=q6.below (b6.trans g7) g2
     exact xec 3 t0 (.agg #[.slice l4 ((way++fl).length) f5,V0 ec]) ⟨_,_,rfl,k1,m1⟩
    have l0:=(b7.below a1.below).grown a4 b9 (by decide)
    refine xb 0 1 l0 ?_
    have a5:=hB.trans c9
    refine ybi (.o [] 5) (.t w.heap.size [3,37]) fun _ _ _ _ zJ zQ zo zx zy zK=>Zo (m:=fl.length) (news:=(fl.map V0)) (V0 0) 1 8 ((way++fl).length) (((way++fl).map V0)) zo Tryz.underlying28 (by kernel_rfl) rfl (by decide) zx d5 zy (hf.below a5) (by simp) (by simp[Value.oneCell']) (by unfold maxLen;omega) (by omega) a5.size (by simp) (by simp) fun l6 i4 ac w2 e1 f1=>?_
    refine zK _ _ (Zn f1 e1 d5 (by decide)) ?_
    have k2:=(((n2.blk.below (Za W2)).below a1.below).grown a4 b9 (by decide)).grown e1 d5 (by decide)
    have g2:=n2.ge n1.below
    refine ysv (.o [8] 9) k2 [.slice l6 ((way++fl).length) i4,V0 ec] (.t w.heap.size [3,37]) fun ad q3 t1=>⟨(Zi q3 k2 g2 (by decide)),?_⟩
    have f7:=q3.own2 w2 k2 (by decide)
    have h1:=q3.below (a5.trans f1) g2
    exact xec 3 t1 (.agg #[.slice l6 ((way++fl).length) i4,V0 ec]) ⟨_,_,rfl,h1,f7⟩
   have f9:=b7.below a1.below
   refine xb 0 1 f9 ?_
   have b9:=Zp (size:=1) (n:=0) a1.blk (a1.ge (bln (bln n1.below n2.below) (Za W2))) rfl (by decide)
   have hB:=bln (bln (bln n1.below n2.below) (Za W2)) a1.below
   refine ybi (.o [] 2) (.t w.heap.size [3,37]) fun _ _ _ _ zJ zQ zo zx zy zK=>Zo (m:=way.length) (news:=(way.map V0)) (V0 0) 1 8 (way.length) ((way.map V0)) zo Tryz.underlying28 (by kernel_rfl) rfl (by decide) zx b9 zy (hw.below hB) (by simp) (by simp[Value.oneCell']) (by unfold maxLen;omega) (by omega) hB.size (by omega) (by rfl) fun v3 w4 z1 q9 h3 l8=>?_
   refine zK _ _ (Zn l8 h3 b9 (by decide)) ?_
   have a3:=hB.trans l8
   refine ybi (.o [] 5) (.t w.heap.size [3,37]) fun _ _ _ _ zJ zQ zo zx zy zK=>Zo (m:=fl.length) (news:=(fl.map V0)) (V0 0) 1 8 ((way++fl).length) (((way++fl).map V0)) zo Tryz.underlying28 (by kernel_rfl) rfl (by decide) zx q9 zy (hf.below a3) (by simp) (by simp[Value.oneCell']) (by unfold maxLen;omega) (by omega) a3.size (by simp) (by simp) fun j3 j8 x9 u3 e3 k3=>?_
   refine zK _ _ (Zn k3 e3 q9 (by decide)) ?_
   have k2:=(((n2.blk.below (Za W2)).below a1.below).grown h3 b9 (by decide)).grown e3 q9 (by decide)
   have g2:=n2.ge n1.below
   refine ysv (.o [8] 9) k2 [.slice j3 ((way++fl).length) j8,V0 ec] (.t w.heap.size [3,37]) fun y4 o8 x2=>⟨(Zi o8 k2 g2 (by decide)),?_⟩
   have n4:=o8.own2 u3 k2 (by decide)
   have i2:=o8.below (a3.trans k3) g2
   exact xec 3 x2 (.agg #[.slice j3 ((way++fl).length) j8,V0 ec]) ⟨_,_,rfl,i2,n4⟩
  refine xb 0 1 b7 ?_
  refine xb0 (.o [] 0) 3 fun z2 ay n6=>?_
  have o1:=Zp (size:=1) (n:=0) n6.blk (n6.ge (bln (bln n1.below n2.below) (Za W2))) rfl (by decide)
  have hB:=bln (bln (bln n1.below n2.below) (Za W2)) n6.below
  refine ybi (.o [] 2) (.t w.heap.size [3,37]) fun _ _ _ _ zJ zQ zo zx zy zK=>Zo (m:=way.length) (news:=(way.map V0)) (V0 0) 1 8 (way.length) ((way.map V0)) zo Tryz.underlying28 (by kernel_rfl) rfl (by decide) zx o1 zy (hw.below hB) (by simp) (by simp[Value.oneCell']) (by unfold maxLen;omega) (by omega) hB.size (by omega) (by rfl) fun u5 w7 aw n8 i3 m3=>?_
  refine zK _ _ (Zn m3 i3 o1 (by decide)) ?_
  have a7:=hB.trans m3
  refine ybi (.o [] 5) (.t w.heap.size [3,37]) fun _ _ _ _ zJ zQ zo zx zy zK=>Zo (m:=fl.length) (news:=(fl.map V0)) (V0 0) 1 8 ((way++fl).length) (((way++fl).map V0)) zo Tryz.underlying28 (by kernel_rfl) rfl (by decide) zx n8 zy (hf.below a7) (by simp) (by simp[Value.oneCell']) (by unfold maxLen;omega) (by omega) a7.size (by simp) (by simp) fun g6 d8 z5 u2 g8 k5=>?_
  refine zK _ _ (Zn k5 g8 n8 (by decide)) ?_
  have k2:=(((n2.blk.below (Za W2)).below n6.below).grown i3 o1 (by decide)).grown g8 n8 (by decide)
  have g2:=n2.ge n1.below
  refine ysv (.o [8] 9) k2 [.slice g6 ((way++fl).length) d8,V0 ec] (.t w.heap.size [3,37]) fun z0 q0 v4=>⟨(Zi q0 k2 g2 (by decide)),?_⟩
  have e9:=q0.own2 u2 k2 (by decide)
  have m4:=q0.below (a7.trans k5) g2
  exact xec 3 v4 (.agg #[.slice g6 ((way++fl).length) d8,V0 ec]) ⟨_,_,rfl,m4,e9⟩
 have a0:=(n1.blk.below n2.below).below (Za W2)
 refine xb 0 1 a0 ?_
 refine xm2 0 0 4 ?_ ?_
 ·refine xb0 0 3 fun ak ao b8=>?_
  refine xm2 0 2 4 ?_ ?_
  ·have c1:=Zp (size:=1) (n:=0) b8.blk (b8.ge (bln (bln n1.below n2.below) (Za W2))) rfl (by decide)
   have hB:=bln (bln (bln n1.below n2.below) (Za W2)) b8.below
   refine ybi 0 (.t w.heap.size [3,37]) fun _ _ _ _ zJ zQ zo zx zy zK=>Zo (m:=way.length) (news:=(way.map V0)) (V0 0) 1 8 (way.length) ((way.map V0)) zo Tryz.underlying28 (by kernel_rfl) rfl (by decide) zx c1 zy (hw.below hB) (by simp) (by simp[Value.oneCell']) (by unfold maxLen;omega) (by omega) hB.size (by omega) (by rfl) fun v5 u1 z3 o6 d1 l7=>?_
   refine zK _ _ (Zn l7 d1 c1 (by decide)) ?_
   have j7:=(a0.below b8.below).grown d1 c1 (by decide)
   refine xb (.o [] 4) 0 j7 ?_
   have a6:=hB.trans l7
   refine ybi (.o [] 5) (.t w.heap.size [3,37]) fun _ _ _ _ zJ zQ zo zx zy zK=>Zo (m:=fl.length) (news:=(fl.map V0)) (V0 0) 1 8 ((way++fl).length) (((way++fl).map V0)) zo Tryz.underlying28 (by kernel_rfl) rfl (by decide) zx o6 zy (hf.below a6) (by simp) (by simp[Value.oneCell']) (by unfold maxLen;omega) (by omega) a6.size (by simp) (by simp) fun h6 m2 y1 x4 d9 k4=>?_
   refine zK _ _ (Zn k4 d9 o6 (by decide)) ?_
   have k2:=(((n2.blk.below (Za W2)).below b8.below).grown d1 c1 (by decide)).grown d9 o6 (by decide)
   have g2:=n2.ge n1.below
   refine ysv (.o [8] 9) k2 [.slice h6 ((way++fl).length) m2,V0 ec] (.t w.heap.size [3,37]) fun ab q1 v1=>⟨(Zi q1 k2 g2 (by decide)),?_⟩
   have j4:=q1.own2 x4 k2 (by decide)
   have e8:=q1.below (a6.trans k4) g2
   exact xec 3 v1 (.agg #[.slice h6 ((way++fl).length) m2,V0 ec]) ⟨_,_,rfl,e8,j4⟩
  have m5:=a0.below b8.below
  refine xb 0 0 m5 ?_
  have c1:=Zp (size:=1) (n:=0) b8.blk (b8.ge (bln (bln n1.below n2.below) (Za W2))) rfl (by decide)
  have hB:=bln (bln (bln n1.below n2.below) (Za W2)) b8.below
  refine ybi (.o [] 2) (.t w.heap.size [3,37]) fun _ _ _ _ zJ zQ zo zx zy zK=>Zo (m:=way.length) (news:=(way.map V0)) (V0 0) 1 8 (way.length) ((way.map V0)) zo Tryz.underlying28 (by kernel_rfl) rfl (by decide) zx c1 zy (hw.below hB) (by simp) (by simp[Value.oneCell']) (by unfold maxLen;omega) (by omega) hB.size (by omega) (by rfl) fun v8 u9 ap r5 j9 j5=>?_
  refine zK _ _ (Zn j5 j9 c1 (by decide)) ?_
  have b0:=hB.trans j5
  refine ybi (.o [] 5) (.t w.heap.size [3,37]) fun _ _ _ _ zJ zQ zo zx zy zK=>Zo (m:=fl.length) (news:=(fl.map V0)) (V0 0) 1 8 ((way++fl).length) (((way++fl).map V0)) zo Tryz.underlying28 (by kernel_rfl) rfl (by decide) zx r5 zy (hf.below b0) (by simp) (by simp[Value.oneCell']) (by unfold maxLen;omega) (by omega) b0.size (by simp) (by simp) fun i9 e6 y8 v6 i6 f2=>?_
  refine zK _ _ (Zn f2 i6 r5 (by decide)) ?_
  have k2:=(((n2.blk.below (Za W2)).below b8.below).grown j9 c1 (by decide)).grown i6 r5 (by decide)
  have g2:=n2.ge n1.below
  refine ysv (.o [8] 9) k2 [.slice i9 ((way++fl).length) e6,V0 ec] (.t w.heap.size [3,37]) fun z4 n9 w3=>⟨(Zi n9 k2 g2 (by decide)),?_⟩
  have h9:=n9.own2 v6 k2 (by decide)
  have l5:=n9.below (b0.trans f2) g2
  exact xec 3 w3 (.agg #[.slice i9 ((way++fl).length) e6,V0 ec]) ⟨_,_,rfl,l5,h9⟩
 refine xb 0 0 a0 ?_
 refine xb0 (.o [] 0) 3 fun y3 ax n5=>?_
 have o2:=Zp (size:=1) (n:=0) n5.blk (n5.ge (bln (bln n1.below n2.below) (Za W2))) rfl (by decide)
 have hB:=bln (bln (bln n1.below n2.below) (Za W2)) n5.below
 refine ybi (.o [] 2) (.t w.heap.size [3,37]) fun _ _ _ _ zJ zQ zo zx zy zK=>Zo (m:=way.length) (news:=(way.map V0)) (V0 0) 1 8 (way.length) ((way.map V0)) zo Tryz.underlying28 (by kernel_rfl) rfl (by decide) zx o2 zy (hw.below hB) (by simp) (by simp[Value.oneCell']) (by unfold maxLen;omega) (by omega) hB.size (by omega) (by rfl) fun t9 x1 z6 q4 m6 f8=>?_
 refine zK _ _ (Zn f8 m6 o2 (by decide)) ?_
 have b5:=hB.trans f8
 refine ybi (.o [] 5) (.t w.heap.size [3,37]) fun _ _ _ _ zJ zQ zo zx zy zK=>Zo (m:=fl.length) (news:=(fl.map V0)) (V0 0) 1 8 ((way++fl).length) (((way++fl).map V0)) zo Tryz.underlying28 (by kernel_rfl) rfl (by decide) zx q4 zy (hf.below b5) (by simp) (by simp[Value.oneCell']) (by unfold maxLen;omega) (by omega) b5.size (by simp) (by simp) fun n0 f6 ae v9 k0 e5=>?_
 refine zK _ _ (Zn e5 k0 q4 (by decide)) ?_
 have k2:=(((n2.blk.below (Za W2)).below n5.below).grown m6 o2 (by decide)).grown k0 q4 (by decide)
 have g2:=n2.ge n1.below
 refine ysv (.o [8] 9) k2 [.slice n0 ((way++fl).length) f6,V0 ec] (.t w.heap.size [3,37]) fun z9 p7 t8=>⟨(Zi p7 k2 g2 (by decide)),?_⟩
 have f3:=p7.own2 v9 k2 (by decide)
 have l3:=p7.below (b5.trans e5) g2
 exact xec 3 t8 (.agg #[.slice n0 ((way++fl).length) f6,V0 ec]) ⟨_,_,rfl,l3,f3⟩
theorem Zgv(ka:O0)(n kc:Nat)(K:List Int)(key:Int)(w:World)(hK:K.length=n)(hn:n≤1000000)(hp:K.Pairwise (·<·))(h:Sl w (.slice ka n kc) n (K.map V0)) :
 C0 70 #[.slice ka n kc,V0 key] w (LastP K key w):=by
 refine zin 21 Tryz.func70 ?_
 have hB:=Below.refl w.heap.size w
 refine zl 17 21 (fun zm a3 V=>∃ (i:Nat) (z:Int),a3=[(0,.slice ka n kc),(1,V0 key),(4,V0 0),(5,V0 z),(6,V0 (i:Int))]∧zm=n-((i:Int)).toNat∧B3 w V∧i≤n∧z=((trC (K.take i) key:Nat):Int)-1) ⟨0,(-1),rfl,rfl,hB,Nat.zero_le _,by simp[trC]⟩ ?_
 rintro _ _ W1 ⟨i,z,rfl,rfl,a0,hi,hz⟩ J1 a1 r1
 refine xid 9 ((i:Int)<(n:Int)) (fun a2=>?_) (fun a2=>?_)
 ·refine xx 8 _ n i 1 (IntsN.elem h hK (k:=i) (by omega)).1 ?_
  refine xl 0 ((IntsN.elem (h.below a0) hK (k:=i) (by omega)).2) ?_
  refine xid 4 ((K.getD i 0)≤key) (fun a4=>?_) (fun a4=>?_)
  ·refine xwm 8 ((i:Int)+1) (↑(i+1):Int) ?_
   exact ze 2 (a1 _ _ _ ⟨i+1,_,rfl,rfl,a0,by omega,by first|exact trZ_yes hp (by omega) (by assumption)|exact trZ_no (by omega) (by assumption) hz⟩ (by omega))
  refine xwm 5 ((i:Int)+1) (↑(i+1):Int) ?_
  exact ze 2 (a1 _ _ _ ⟨i+1,_,rfl,rfl,a0,by omega,by first|exact trZ_yes hp (by omega) (by assumption)|exact trZ_no (by omega) (by assumption) hz⟩ (by omega))
 exact xe 12 (V0 z) (last_of hK (by omega) hz a0)
def FindR(R:List Int×Tr)(B:Nat)(w:World)(e:Ending)(w':World):Prop :=
 (∃ fl c,R.2=.bad fl c∧c≠0∧∃ v a d,e=.returned (.tuple #[.string ⟨#[]⟩,v,.agg #[.slice a fl.length d,V0 c]])∧B3 w w'∧w'.ownsRow w.heap.size 3 1 (.slice a fl.length d) fl.length (fl.map V0)) ∨
 (R.2=.no∧∃ p d,e=.returned (.tuple #[.string ⟨#[]⟩,.slice p R.1.length d,.agg #[S0,V0 0]])∧B3 w w'∧w'.ownsRow B 3 1 (.slice p R.1.length d) R.1.length (R.1.map V0)) ∨
 (∃ s,R.2=.val s∧s≠[]∧s.length≤1000∧∃ p d,e=.returned (.tuple #[.string ⟨s.toArray⟩,.slice p R.1.length d,.agg #[S0,V0 0]])∧B3 w w'∧w'.ownsRow B 3 1 (.slice p R.1.length d) R.1.length (R.1.map V0))
theorem val_ne{l:Bl}{no tree:Int}{i:Nat}(h:Zy l no tree=0)(hi:i<Xf (inB l no)):(Qb l no).getD i []≠[]:=by
 have hs:=Gm (Jp (Jg h).2)
 have a1:=(Jg h).1
 have hb:0≤no∧no<(l.length/256:Nat):=Decidable.byContradiction fun q=>by
  rw[Lo rfl q] at a1;cases a1
 have hc:=Vf hs
 unfold Qv at hs
 have hw:=(of_decide_eq_true hs).2.1
 have a2:(inB l no).length=244:=Zbg rfl (show no=((no.toNat:Nat):Int) by omega) (by omega)
 have a0:=fitG (Yx (inB l no)) (Yb (inB l no))
 change 12+Xh (inB l no)*8+Xh (inB l no)*Xg (inB l no)≤244 at a0
 have h5:(i+1)*Xg (inB l no)≤Xh (inB l no)*Xg (inB l no):=Nat.mul_le_mul_right _ (by omega)
 rw[Nat.succ_mul] at h5
 unfold Qb
 rw[Es _ hi]
 intro q
 have q2:=congrArg List.length q
 unfold Cj at q2
 rw[List.length_take,List.length_drop,List.length_nil] at q2
 omega
theorem Rr(B Bi bm:Nat)(p:O0)(n c:Nat)(l:Bl)(t key no0:Int)(way0:List Int)(pw0:O0)(cw0:Nat)(w:World)(hBw:B≤w.heap.size)(hway:w.ownsRow B 3 1 (.slice pw0 way0.length cw0) way0.length (way0.map V0))(hI:RefI Bi bm p n c l w)(hwl:way0.length≤100000) :
 C0 35 #[P0 bm,.slice pw0 way0.length cw0,V0 no0,V0 t,V0 key] w (FindR (Zj l t key 16 way0 no0) B w):=by
 refine zin 95 Tryz.func35 ?_
 refine xa 4 [S0,V0 0] 37 fun b1 W1 n1=>?_
 have l6:=hI.below n1.below
 have f4:=Zb hway n1.below
 refine zl 9 95 (fun zm p3 V=>∃ (i:Nat) (no:Int) (a2:List Int) (pw:O0) (cw:Nat),p3=[(0,P0 bm),(1,.slice pw a2.length cw),(2,V0 no),(3,V0 t),(4,V0 key),(12,P0 b1),(13,V0 (i:Int))]∧zm=17-((i:Int)).toNat∧B3 w V∧Blk V b1 ([S0,V0 0]) 37∧RefI Bi bm p n c l V∧V.ownsRow B 3 1 (.slice pw a2.length cw) a2.length (a2.map V0)∧1≤i∧i≤17∧a2.length≤100000+i∧(Zj l t key 16 way0 no0)=Zj l t key (17-i) a2 no) ⟨1,no0,way0,pw0,cw0,rfl,rfl,n1.below,n1.blk,l6,f4,by decide,by decide,by omega,rfl⟩ ?_
 rintro _ _ W2 ⟨i,no,a2,pw,cw,rfl,rfl,b3,e2,hI,hway,r4,hi,hwl,e7⟩ J2 q4 r2
 refine xid 7 ((i:Int)≤(16:Int)) (fun o8=>?_) (fun o8=>?_)
 ·refine xc 9 (args:=#[P0 bm,V0 no,V0 t]) (Zgh Bi bm p n c l no t _ hI) ?_
  rintro e W4 p6
  rcases p6 with ⟨c2,a3,c3,rfl,f1,l8⟩|⟨c2,kp,kc,vp,vc,rfl,f1,hk,n9⟩
  ·refine xa 3 [V0 0,.bool false,S0,S0] 140 fun b5 W5 n5=>?_
   have k9:=bln b3 f1
   have g5:=n5.ge k9
   refine xa 0 [S0,V0 0] 37 fun b6 W6 n6=>?_
   have c8:=(e2.below f1).below n5.below
   have i4:=n6.ne c8
   have g2:=bln k9 n5.below
   have g6:=n6.ge g2
   have k5:=n5.blk.below n6.below
   refine xsv 0 k5 [V0 0,.bool false,S0,S0] fun W7 u7 k7=>?_
   have k6:=u7.blkT n6.blk k5 (by decide)
   refine xsv 0 k6 [.slice a3 1 c3,V0 (Zy l no t)] fun W8 u8 k8=>?_
   refine xb 6 1 k8 ?_
   refine xk 3 (show(((Zy l no t) != (0:Int)):Bool)=true from bne_iff_ne.2 c2) ?_
   refine xlv 4 k8.rp ?_
   have f9:=u8.own2 (u7.own2 (Zb (Zb (Zb hway f1) n5.below) n6.below) k5 (by decide)) k6 (by decide)
   have j0:=u8.own2 (u7.own2 (Zb (Zb (Ze l8 b3.size) n5.below) n6.below) k5 (by decide)) k6 (by decide)
   refine xc 0 (args:=#[.slice pw a2.length cw,.agg #[.slice a3 1 c3,V0 (Zy l no t)]]) (Hz _ _ _ _ a2 [no] _ _ (Zd f9) (Zd j0) (by first|omega|(simp;omega)) (by simp)) ?_
   rintro _ W9 ⟨a6,c6,rfl,n3,i1⟩
   have p1:=(u8.below (u7.below (bln g2 n6.below) g5) g6).size
   have c9:=(u8.blk (u7.blkT (c8.below n6.below) k5 (by decide)) (Ne.symm (Ne.symm i4))).below n3
   refine xsv 2 c9 [.slice a6 ((a2++[no]).length) c6,V0 (Zy l no t)] fun q5 o1 q1=>?_
   have g1:=n1.ge (B4 w)
   have j2:=o1.own2 (Ze i1 p1) c9 (by decide)
   have l5:=o1.below (bln (u8.below (u7.below (bln g2 n6.below) g5) g6) n3) g1
   refine xec 9 q1 (.tuple #[.string ⟨#[]⟩,.slice pw a2.length cw,.agg #[.slice a6 ((a2++[no]).length) c6,V0 (Zy l no t)]]) ?_
   have hR:=Du (show 17-i≠0 by omega) e7 c2
   rw[hR]
   have d9:=j2
   exact .inl ⟨_,_,rfl,c2,_,_,_,rfl,l5,d9⟩
  have l9:=As l no
  have l4:(Qb l no).length=(Xf (inB l no)):=by simp[Qb,Vx]
  have s6:(Xf (inB l no))≤18:=Nat.le_trans (Vf (Gm (Jp (Jg c2).2))) (Zcl _ _)
  refine xa 3 [V0 0,.bool false,S0,S0] 140 fun r7 r1 e5=>?_
  have j3:=bln b3 f1
  have o5:=e5.ge j3
  refine xa 0 [S0,V0 0] 37 fun s7 q9 c1=>?_
  have a1:=(e2.below f1).below e5.below
  have a5:=c1.ne a1
  have j4:=bln j3 e5.below
  have p2:=c1.ge j4
  have d4:=e5.blk.below c1.below
  refine xsv 0 d4 [V0 (Yx (inB l no)),.bool (Yb (inB l no)),.slice kp (Xf (inB l no)) kc,.slice vp (Xf (inB l no)) vc] fun r0 d5 p0=>?_
  have f5:=d5.blkT c1.blk d4 (by decide)
  refine xsv 0 f5 [S0,V0 0] fun q7 d3 o6=>?_
  refine xb 6 1 o6 ?_
  refine xb0 8 3 fun q0 t0 c0=>?_
  have h6:=d3.below (d5.below (bln j4 c1.below) o5) p2
  have o7:=c0.ge h6
  have d8:=d3.own2 (d5.own2 (Zb (Zb (Zb hway f1) e5.below) c1.below) d4 (by decide)) f5 (by decide)
  have i9:=Xa d8 c0
  have i5:=d3.own2 (d5.own2 (Zb (Zb (Ze hk b3.size) e5.below) c1.below) d4 (by decide)) f5 (by decide)
  have g8:=Xa i5 c0
  have h0:Hr (.slice (S1 q0) 0 0) (.slice kp (Xf (inB l no)) kc):=fun j h1 h2=>g8 j h2 (by cases h1;rfl)
  have g3:=Zb d8 c0.below
  have e0:=Zp (size:=1) (n:=0) c0.blk o7 rfl (by decide)
  have i6:=bln h6 c0.below
  refine xbi 1 fun _ _ _ _ zJ zQ zo zx zy zK=>Zez (m:=a2.length) (news:=(a2.map V0)) (V0 0) 1 8 (a2.length) ((a2.map V0)) zo Tryz.underlying28 (by kernel_rfl) rfl (by decide) zx e0 zy (Zd g3) (by simp) (by simp[Value.oneCell']) (by unfold maxLen;omega) (by omega) i6.size (by omega) (by rfl) fun o4 o9 r5 n4 a9 l7 m5=>?_
  have l2:=Zb i5 c0.below
  have g7:=h0.row l2 a9
  replace h0:=(h0.grow l2 m5)
  have f2:=g7
  refine zK _ _ ?_
  refine xbs 1 1 [V0 no] 3 fun p8 s5 b7=>?_
  have l0:=i6.trans l7
  have s4:=b7.ge l0
  have m6:=Xa f2 b7
  have l3:=Xa n4 b7
  have a4:=Zb n4 b7.below
  have b0:=bln l0 b7.below
  refine xbi 0 fun _ _ _ _ zJ zQ zo zx zy zK=>Ur (b:=p8) (c:=1) (m:=1) (news:=[V0 no]) (V0 0) 1 8 ((a2++[no]).length) (((a2++[no]).map V0)) zo Tryz.underlying28 (by kernel_rfl) rfl (by decide) zx a4 zy b7.blk rfl (by simp[Value.oneCell']) (by unfold maxLen;omega) (by omega) b0.size (by simp) (by simp) fun d6 d2 s3 o2 a7 b4 m0=>?_
  have j6:=Zb f2 b7.below
  have g0:=h0.row j6 a7
  replace h0:=(h0.grow j6 m0)
  have e9:=g0
  refine zK _ _ ?_
  have e6:=((((d3.blkT p0 f5 (by decide)).below c0.below).grown a9 e0 (by decide)).below b7.below).grown a7 a4 (by decide)
  refine xb 6 2 e6 ?_
  refine xc 1 (args:=#[.slice kp (Xf (inB l no)) kc,V0 key]) (Zgv kp _ kc (Fy l no) key _ l9 (by omega) (Uz c2) (Zd e9)) ?_
  rintro e s8 m4
  rcases m4 with ⟨h3,rfl,a0⟩|⟨cc,h3,r8,rfl,a0⟩
  ·have m2:=(b0.trans b4).size
   have h5:=Zb o2 a0
   have f7:=Ze h5 hBw
   have d0:=(((((d3.blk (d5.blkT (a1.below c1.below) d4 (by decide)) (Ne.symm (Ne.symm a5))).below c0.below).grown a9 e0 (by decide)).below b7.below).grown a7 a4 (by decide)).below a0
   refine xsv 30 d0 [S0,V0 0] fun s1 m9 p9=>?_
   have g1:=n1.ge (B4 w)
   have i8:=m9.own2 f7 d0 (by decide)
   have j7:=m9.below (bln (b0.trans b4) a0) g1
   refine xec 9 p9 (.tuple #[.string ⟨#[]⟩,.slice d6 ((a2++[no]).length) d2,.agg #[S0,V0 0]]) ?_
   first|(exfalso;omega)|(have hR:=Vg (show 17-i≠0 by omega) e7 c2 (by omega);rw[hR];exact .inr (.inl ⟨rfl,_,_,rfl,j7,i8⟩))
  have m2:=(b0.trans b4).size
  have k0:=Zb o2 a0
  have f7:=Ze k0 hBw
  refine xg 9 [48,49] (decide ((cc:Int)<(0:Int))) (fun e1=>?_) (fun e1=>?_)
  ·have e1:=of_decide_eq_true e1
   have c4:=(((((d3.blk (d5.blkT (a1.below c1.below) d4 (by decide)) (Ne.symm (Ne.symm a5))).below c0.below).grown a9 e0 (by decide)).below b7.below).grown a7 a4 (by decide)).below a0
   refine xsv 21 c4 [S0,V0 0] fun s9 n0 p4=>?_
   have g1:=n1.ge (B4 w)
   have i3:=n0.own2 f7 c4 (by decide)
   have h7:=n0.below (bln (b0.trans b4) a0) g1
   refine xec 9 p4 (.tuple #[.string ⟨#[]⟩,.slice d6 ((a2++[no]).length) d2,.agg #[S0,V0 0]]) ?_
   first|(exfalso;omega)|(have hR:=Vg (show 17-i≠0 by omega) e7 c2 (by omega);rw[hR];exact .inr (.inl ⟨rfl,_,_,rfl,h7,i3⟩))
  have e1:=of_decide_eq_false e1
  have b2:=e6.below a0
  refine xb 1 1 b2 ?_
  refine xg 1 [51,52] (Yb (inB l no)) (fun f8=>?_) (fun f8=>?_)
  ·have a8:Yb (inB l no)=true:=f8
   refine xb 1 2 b2 ?_
   have h4:=Zb e9 a0
   refine xx 1 _ (Xf (inB l no)) cc 1 (IntsN.elem (l:=Fy l no) (Zd h4) l9 (k:=cc) (by omega)).1 ?_
   refine xl 0 ((IntsN.elem (l:=Fy l no) (Zd h4) l9 (k:=cc) (by omega)).2) ?_
   refine xin 6 ((Fy l no).getD cc 0) key (fun g9=>?_) (fun g9=>?_)
   ·have m3:=g9
    have d1:=(((((d3.blk (d5.blkT (a1.below c1.below) d4 (by decide)) (Ne.symm (Ne.symm a5))).below c0.below).grown a9 e0 (by decide)).below b7.below).grown a7 a4 (by decide)).below a0
    refine xsv 6 d1 [S0,V0 0] fun s2 o0 p5=>?_
    have g1:=n1.ge (B4 w)
    have l1:=o0.own2 f7 d1 (by decide)
    have j1:=o0.below (bln (b0.trans b4) a0) g1
    refine xec 9 p5 (.tuple #[.string ⟨#[]⟩,.slice d6 ((a2++[no]).length) d2,.agg #[S0,V0 0]]) ?_
    have hR:=Nd (show 17-i≠0 by omega) e7 c2 a8 (fun q=>absurd (((trC_mem (Uz c2) (by omega)).trans (by rw[h3,Nat.add_sub_cancel])).1 q) (by first|exact m3|(intro q2;simp_all)))
    rw[hR]
    exact .inr (.inl ⟨rfl,_,_,rfl,j1,l1⟩)
   have m3:=g9
   refine xb 6 1 b2 ?_
   refine xk 2 (show((Yb (inB l no)):Bool)=true from a8) ?_
   refine xb 3 3 b2 ?_
   have e8:=Zb (Xc (Zb (Xc (Zb (d3.own2 (d5.own2 (Zb (Zb (Ze n9 b3.size) e5.below) c1.below) d4 (by decide)) f5 (by decide)) c0.below) a9 e0 (by decide)) b7.below) a7 a4 (by decide)) a0
   refine xx 1 _ (Xf (inB l no)) cc 1 (Strs.elem (Zd e8) l4 (k:=cc) (by omega)).1 ?_
   refine xl 0 ((Strs.elem (Zd e8) l4 (k:=cc) (by omega)).2) ?_
   have c5:=(((((d3.blk (d5.blkT (a1.below c1.below) d4 (by decide)) (Ne.symm (Ne.symm a5))).below c0.below).grown a9 e0 (by decide)).below b7.below).grown a7 a4 (by decide)).below a0
   refine xsv 4 c5 [S0,V0 0] fun t1 n7 p7=>?_
   have g1:=n1.ge (B4 w)
   have h9:=n7.own2 f7 c5 (by decide)
   have k4:=n7.below (bln (b0.trans b4) a0) g1
   refine xec 9 p7 (.tuple #[.string ⟨((Qb l no).getD cc []).toArray⟩,.slice d6 ((a2++[no]).length) d2,.agg #[S0,V0 0]]) ?_
   have hR:=Uq (show 17-i≠0 by omega) e7 c2 a8 (((trC_mem (Uz c2) (by omega)).trans (by rw[h3,Nat.add_sub_cancel])).2 (by first|exact m3|(simp_all;done))) (by omega) (show trV l no key=(Qb l no).getD cc [] from by unfold trV Qb;rw[h3,Nat.add_sub_cancel])
   rw[hR]
   exact .inr (.inr ⟨_,rfl,val_ne c2 (by omega),Qo _ _ _,_,_,rfl,k4,h9⟩)
  have a8:Yb (inB l no)=false:=f8
  refine xb 18 1 b2 ?_
  refine xk 2 (show((Yb (inB l no)):Bool)=false from a8) ?_
  refine xb 5 3 b2 ?_
  have f0:=Zb (Xc (Zb (Xc (Zb (d3.own2 (d5.own2 (Zb (Zb (Ze n9 b3.size) e5.below) c1.below) d4 (by decide)) f5 (by decide)) c0.below) a9 e0 (by decide)) b7.below) a7 a4 (by decide)) a0
  refine xx 1 _ (Xf (inB l no)) cc 1 (Strs.elem (Zd f0) l4 (k:=cc) (by omega)).1 ?_
  refine xl 0 ((Strs.elem (Zd f0) l4 (k:=cc) (by omega)).2) ?_
  refine xr 0 (args:=#[.string ⟨((Qb l no).getD cc []).toArray⟩]) (Sb ((Qb l no).getD cc []) _ (Qo _ _ _)) fun r6 b8=>?_
  refine xin 14 (Xl ((Qb l no).getD cc [])) (0:Int) (fun f3=>?_) (fun f3=>?_)
  ·have d7:=f3
   have i7:=Zb f7 b8
   refine xc 6 (args:=#[.slice d6 ((a2++[no]).length) d2,.agg #[S0,V0 (Xl ((Qb l no).getD cc []))]]) (Hz _ _ _ _ (a2++[no]) [] _ _ (Zd i7) (Dx _) (by first|omega|(simp;omega)) (by simp)) ?_
   rintro _ r9 ⟨a6,c6,rfl,i0,i1⟩
   have m1:=(bln (bln (b0.trans b4) a0) b8).size
   have c7:=(((((((d3.blk (d5.blkT (a1.below c1.below) d4 (by decide)) (Ne.symm (Ne.symm a5))).below c0.below).grown a9 e0 (by decide)).below b7.below).grown a7 a4 (by decide)).below a0).below b8).below i0
   refine xsv 2 c7 [.slice a6 (((a2++[no])++[]).length) c6,V0 (Xl ((Qb l no).getD cc []))] fun s0 n8 o3=>?_
   have g1:=n1.ge (B4 w)
   have k3:=n8.own2 (Ze i1 m1) c7 (by decide)
   have j9:=n8.below (bln (bln (bln (b0.trans b4) a0) b8) i0) g1
   refine xec 9 o3 (.tuple #[.string ⟨#[]⟩,.slice d6 ((a2++[no]).length) d2,.agg #[.slice a6 (((a2++[no])++[]).length) c6,V0 (Xl ((Qb l no).getD cc []))]]) ?_
   have hR:=(show(Zj l t key 16 way0 no0)=(a2++[no],Tr.bad (a2++[no]++[]) (Xl ((Qb l no).getD cc []))) from(Ut (show 17-i≠0 by omega) e7 c2 a8 (by omega) (show trV l no key=(Qb l no).getD cc [] from by unfold trV Qb;rw[h3,Nat.add_sub_cancel]) d7).trans (by rw[List.append_nil]))
   rw[hR]
   have d9:=k3
   exact .inl ⟨_,_,rfl,d7,_,_,_,rfl,j9,d9⟩
  have d7:=f3
  refine xwm 10 ((i:Int)+1) (↑(i+1):Int) ?_
  have i2:=Zb f7 b8
  have j5:=bln (bln (b0.trans b4) a0) b8
  have e3:=((((((d3.blk (d5.blkT (a1.below c1.below) d4 (by decide)) (Ne.symm (Ne.symm a5))).below c0.below).grown a9 e0 (by decide)).below b7.below).grown a7 a4 (by decide)).below a0).below b8
  have m7:=((((((((((hI.below f1).below e5.below).below c1.below).only (Zg.of_upd (T:=[140]) d5 d4 (by decide)) (by decide)).only (Zg.of_upd (T:=[37]) d3 f5 (by decide)) (by decide)).below c0.below).only (Zg.of_grown (T:=[3]) a9 e0 (by decide)) (by decide)).below b7.below).only (Zg.of_grown (T:=[3]) a7 a4 (by decide)) (by decide)).below a0).below b8
  exact ze 2 (q4 _ _ _ ⟨i+1,_,(a2++[no]),_,_,rfl,rfl,j5,e3,m7,i2,by omega,by omega,by simp;omega,Np (by omega) e7 c2 a8 (by omega) (show trV l no key=(Qb l no).getD cc [] from by unfold trV Qb;rw[h3,Nat.add_sub_cancel]) (by first|exact d7|exact Decidable.not_not.1 d7)⟩ (by omega))
 refine xc 10 (args:=#[V0 no,V0 10]) (Jm no 10 _ (by decide)) ?_
 rintro _ r3 ⟨_,rfl,e4,a3,c3,rfl,l8⟩
 have f6:=Zb hway e4
 have h8:=Ze l8 b3.size
 refine xc 0 (args:=#[.slice pw a2.length cw,.agg #[.slice a3 1 c3,V0 10]]) (Hz _ _ _ _ a2 [no] _ _ (Zd f6) (Zd h8) (by first|omega|(simp;omega)) (by simp)) ?_
 rintro _ q6 ⟨a6,c6,rfl,k2,i1⟩
 have m8:=(bln b3 e4).size
 have b9:=(e2.below e4).below k2
 refine xsv 2 b9 [.slice a6 ((a2++[no]).length) c6,V0 10] fun q8 n2 q3=>?_
 have g1:=n1.ge (B4 w)
 have j8:=n2.own2 (Ze i1 m8) b9 (by decide)
 have k1:=n2.below (bln (bln b3 e4) k2) g1
 refine xec 3 q3 (.tuple #[.string ⟨#[]⟩,.slice pw a2.length cw,.agg #[.slice a6 ((a2++[no]).length) c6,V0 10]]) ?_
 have hR:=Lg (by omega) e7
 rw[hR]
 have d9:=j8
 exact .inl ⟨_,_,rfl,by decide,_,_,_,rfl,k1,d9⟩
theorem Vr(n lo hi:Int)(w:World) :
 C0 148 #[V0 n,V0 lo,V0 hi] w (Ret (.bool (decide (lo≤n∧n≤hi))) w):=by
 refine zin 15 Tryz.func148 ?_
 refine xg 11 [9,10] (decide (n≥lo)) (fun a0=>?_) (fun a0=>?_)
 ·have a0:=of_decide_eq_true a0
  exact xe 8 (.bool (decide (n≤hi))) ⟨by rw[show decide (lo≤n∧n≤hi)=decide (n≤hi) from by simp;omega],(B4 w)⟩
 have a0:=of_decide_eq_false a0
 exact xe 8 (.bool false) ⟨by rw[show decide (lo≤n∧n≤hi)=false from decide_eq_false (by omega)],(B4 w)⟩
theorem Zc3(s:Sup)(w:World)(hb0:0≤s.blocks)(hb1:s.blocks<9223372036854775808) :
 C0 85 #[.agg #[V0 s.tx,V0 s.time,V0 s.unit,V0 s.data,V0 s.blocks,V0 s.top,V0 s.details,V0 s.dslots,V0 s.dover,V0 s.mindex,V0 s.mover]] w (Ret (.bool (Xk s)) w):=by
 refine zin 69 Tryz.func85 ?_
 refine xa 2 [V0 s.tx,V0 s.time,V0 s.unit,V0 s.data,V0 s.blocks,V0 s.top,V0 s.details,V0 s.dslots,V0 s.dover,V0 s.mindex,V0 s.mover] 69 fun b1 W1 n1=>?_
 refine xb 7 0 n1.blk ?_
 refine xr 0 (args:=#[V0 s.tx,V0 0,V0 2147483647]) (Vr s.tx 0 2147483647 _) fun W2 b4=>?_
 refine xg 2 [7,8] (!(decide ((0:Int)≤s.tx∧s.tx≤2147483647))) (fun e8=>?_) (fun e8=>?_)
 ·have f1:(decide ((0:Int)≤s.tx∧s.tx≤2147483647))=false:=Pc e8
  have hB:=bln n1.below b4
  refine xe 33 (.bool false) ?_
  have hR:Xk s=false:=by
   unfold Xk
   first|(rw[f1];done)|(rw[f1];rfl)
  rw[hR];exact⟨rfl,hB⟩
 have a5:(decide ((0:Int)≤s.tx∧s.tx≤2147483647))=true:=Pe e8
 have d3:=n1.blk.below b4
 refine xb 1 1 d3 ?_
 refine xr 0 (args:=#[V0 s.time,V0 0,V0 16777215]) (Vr s.time 0 16777215 _) fun W6 b5=>?_
 refine xg 3 [12,13,14] (!(decide ((0:Int)≤s.time∧s.time≤16777215))) (fun e9=>?_) (fun e9=>?_)
 ·have f0:(decide ((0:Int)≤s.time∧s.time≤16777215))=false:=Pc e9
  have hB:=bln (bln n1.below b4) b5
  refine xe 27 (.bool false) ?_
  have hR:Xk s=false:=by
   unfold Xk
   first|(rw[a5,f0];done)|(rw[a5,f0];rfl)
  rw[hR];exact⟨rfl,hB⟩
 have a7:(decide ((0:Int)≤s.time∧s.time≤16777215))=true:=Pe e9
 have d2:=d3.below b5
 refine xb 1 2 d2 ?_
 refine xr 0 (args:=#[V0 s.unit,V0 1,V0 65536]) (Vr s.unit 1 65536 _) fun f2 a3=>?_
 refine xg 3 [18,19,20] (!(decide ((1:Int)≤s.unit∧s.unit≤65536))) (fun c7=>?_) (fun c7=>?_)
 ·have d9:(decide ((1:Int)≤s.unit∧s.unit≤65536))=false:=Pc c7
  have hB:=bln (bln (bln n1.below b4) b5) a3
  refine xe 21 (.bool false) ?_
  have hR:Xk s=false:=by
   unfold Xk
   first|(rw[a5,a7,d9];done)|(rw[a5,a7,d9];rfl)
  rw[hR];exact⟨rfl,hB⟩
 have a0:(decide ((1:Int)≤s.unit∧s.unit≤65536))=true:=Pe c7
 have d6:=d2.below a3
 refine xb 1 3 d6 ?_
 refine xr 0 (args:=#[V0 s.data,V0 0,V0 65536]) (Vr s.data 0 65536 _) fun f4 a6=>?_
 refine xg 3 [24,25,26] (!(decide ((0:Int)≤s.data∧s.data≤65536))) (fun c2=>?_) (fun c2=>?_)
 ·have e2:(decide ((0:Int)≤s.data∧s.data≤65536))=false:=Pc c2
  have hB:=bln (bln (bln (bln n1.below b4) b5) a3) a6
  refine xe 15 (.bool false) ?_
  have hR:Xk s=false:=by
   unfold Xk
   first|(rw[a5,a7,a0,e2];done)|(rw[a5,a7,a0,e2];rfl)
  rw[hR];exact⟨rfl,hB⟩
 have a1:(decide ((0:Int)≤s.data∧s.data≤65536))=true:=Pe c2
 have d4:=d6.below a6
 refine xb 1 4 d4 ?_
 refine xr 0 (args:=#[V0 s.blocks,V0 2,V0 14400]) (Vr s.blocks 2 14400 _) fun f9 a8=>?_
 refine xi 4 (!(decide ((2:Int)≤s.blocks∧s.blocks≤14400))) (fun c8=>?_) (fun c8=>?_)
 ·have d8:(decide ((2:Int)≤s.blocks∧s.blocks≤14400))=false:=Pc c8
  have hB:=bln (bln (bln (bln (bln n1.below b4) b5) a3) a6) a8
  refine xe 7 (.bool false) ?_
  have hR:Xk s=false:=by
   unfold Xk
   first|(rw[a5,a7,a0,a1,d8];done)|(rw[a5,a7,a0,a1,d8];rfl)
  rw[hR];exact⟨rfl,hB⟩
 have a2:(decide ((2:Int)≤s.blocks∧s.blocks≤14400))=true:=Pe c8
 have c0:=d4.below a8
 refine xb 5 4 c0 ?_
 refine xw 0 (s.blocks-1) ?_
 refine xb 6 5 c0 ?_
 refine xr 1 (args:=#[V0 s.top,V0 1,V0 (s.blocks-1)]) (Vr s.top 1 (s.blocks-1) _) fun f6 b0=>?_
 refine xg 1 [38,39] (decide ((1:Int)≤s.top∧s.top≤s.blocks-1)) (fun c3=>?_) (fun c3=>?_)
 ·have a4:(decide ((1:Int)≤s.top∧s.top≤s.blocks-1))=true:=c3
  have e4:=c0.below b0
  refine xb 1 6 e4 ?_
  refine xr 1 (args:=#[V0 s.details,V0 1,V0 (s.blocks-1)]) (Vr s.details 1 (s.blocks-1) _) fun f8 b3=>?_
  refine xg 2 [43,44,45] (decide ((1:Int)≤s.details∧s.details≤s.blocks-1)) (fun c4=>?_) (fun c4=>?_)
  ·have a9:(decide ((1:Int)≤s.details∧s.details≤s.blocks-1))=true:=c4
   have e3:=e4.below b3
   refine xb 1 7 e3 ?_
   refine xr 1 (args:=#[V0 s.dslots,V0 1,V0 (s.blocks-1)]) (Vr s.dslots 1 (s.blocks-1) _) fun f7 b6=>?_
   refine xg 2 [49,50,51] (decide ((1:Int)≤s.dslots∧s.dslots≤s.blocks-1)) (fun c5=>?_) (fun c5=>?_)
   ·have b2:(decide ((1:Int)≤s.dslots∧s.dslots≤s.blocks-1))=true:=c5
    have d1:=e3.below b6
    refine xb 1 8 d1 ?_
    refine xr 1 (args:=#[V0 s.dover,V0 1,V0 (s.blocks-1)]) (Vr s.dover 1 (s.blocks-1) _) fun f5 b7=>?_
    refine xg 2 [55,56,57] (decide ((1:Int)≤s.dover∧s.dover≤s.blocks-1)) (fun b9=>?_) (fun b9=>?_)
    ·have b8:(decide ((1:Int)≤s.dover∧s.dover≤s.blocks-1))=true:=b9
     have e6:=d1.below b7
     refine xb 1 9 e6 ?_
     refine xr 1 (args:=#[V0 s.mindex,V0 1,V0 (s.blocks-1)]) (Vr s.mindex 1 (s.blocks-1) _) fun g0 c6=>?_
     refine xg 2 [61,62,63] (decide ((1:Int)≤s.mindex∧s.mindex≤s.blocks-1)) (fun c1=>?_) (fun c1=>?_)
     ·have d5:(decide ((1:Int)≤s.mindex∧s.mindex≤s.blocks-1))=true:=c1
      have e0:=e6.below c6
      refine xb 1 10 e0 ?_
      refine xr 1 (args:=#[V0 s.mover,V0 1,V0 (s.blocks-1)]) (Vr s.mover 1 (s.blocks-1) _) fun f3 e7=>?_
      have hB:=bln (bln (bln (bln (bln (bln (bln (bln (bln (bln (bln n1.below b4) b5) a3) a6) a8) b0) b3) b6) b7) c6) e7
      refine xe 5 (.bool (decide ((1:Int)≤s.mover∧s.mover≤s.blocks-1))) ?_
      have hR:Xk s=(decide ((1:Int)≤s.mover∧s.mover≤s.blocks-1)):=by
       unfold Xk
       first|(rw[a5,a7,a0,a1,a2,a4,a9,b2,b8,d5];done)|(rw[a5,a7,a0,a1,a2,a4,a9,b2,b8,d5];rfl)
      rw[hR];exact⟨rfl,hB⟩
     have d0:(decide ((1:Int)≤s.mindex∧s.mindex≤s.blocks-1))=false:=c1
     have hB:=bln (bln (bln (bln (bln (bln (bln (bln (bln (bln n1.below b4) b5) a3) a6) a8) b0) b3) b6) b7) c6
     refine xe 9 (.bool false) ?_
     have hR:Xk s=false:=by
      unfold Xk
      first|(rw[a5,a7,a0,a1,a2,a4,a9,b2,b8,d0];done)|(rw[a5,a7,a0,a1,a2,a4,a9,b2,b8,d0];rfl)
     rw[hR];exact⟨rfl,hB⟩
    have c9:(decide ((1:Int)≤s.dover∧s.dover≤s.blocks-1))=false:=b9
    have hB:=bln (bln (bln (bln (bln (bln (bln (bln (bln n1.below b4) b5) a3) a6) a8) b0) b3) b6) b7
    refine xe 15 (.bool false) ?_
    have hR:Xk s=false:=by
     unfold Xk
     first|(rw[a5,a7,a0,a1,a2,a4,a9,b2,c9];done)|(rw[a5,a7,a0,a1,a2,a4,a9,b2,c9];rfl)
    rw[hR];exact⟨rfl,hB⟩
   have d7:(decide ((1:Int)≤s.dslots∧s.dslots≤s.blocks-1))=false:=c5
   have hB:=bln (bln (bln (bln (bln (bln (bln (bln n1.below b4) b5) a3) a6) a8) b0) b3) b6
   refine xe 21 (.bool false) ?_
   have hR:Xk s=false:=by
    unfold Xk
    first|(rw[a5,a7,a0,a1,a2,a4,a9,d7];done)|(rw[a5,a7,a0,a1,a2,a4,a9,d7];rfl)
   rw[hR];exact⟨rfl,hB⟩
  have e1:(decide ((1:Int)≤s.details∧s.details≤s.blocks-1))=false:=c4
  have hB:=bln (bln (bln (bln (bln (bln (bln n1.below b4) b5) a3) a6) a8) b0) b3
  refine xe 27 (.bool false) ?_
  have hR:Xk s=false:=by
   unfold Xk
   first|(rw[a5,a7,a0,a1,a2,a4,e1];done)|(rw[a5,a7,a0,a1,a2,a4,e1];rfl)
  rw[hR];exact⟨rfl,hB⟩
 have e5:(decide ((1:Int)≤s.top∧s.top≤s.blocks-1))=false:=c3
 have hB:=bln (bln (bln (bln (bln (bln n1.below b4) b5) a3) a6) a8) b0
 refine xe 33 (.bool false) ?_
 have hR:Xk s=false:=by
  unfold Xk
  first|(rw[a5,a7,a0,a1,a2,e5];done)|(rw[a5,a7,a0,a1,a2,e5];rfl)
 rw[hR];exact⟨rfl,hB⟩
end Go.Proofs.YthhilbkandcbmaaGreatDoor
