/- Package twin: the owners' trees. -/
import Derived.ArgAppend
import Derived.Test.YtekomodnkfhihaaGreatDoorMg5
namespace Go.Proofs.YtekomodnkfhihaaGreatDoor
set_option maxHeartbeats 8000000
set_option maxRecDepth 100000
open Go.RowKit Go.Extern.Stop Go.Stop Go.Extern
set_option linter.unusedVariables false
attribute [local irreducible] wpList wpAnyH Code.wp Oper.wp Go
theorem be_out{B ba b g nn cc be:Nat}{pa:O0}{ca N:Nat}{bs:Bl}{F:List Kv}{w:World}{cs:List Value}(h:AlF B ba b g nn cc pa ca N bs F w)(ke:Blk w be cs 39):be∉[ba,g]:=by
 have h1:=Blk.tne ke h.blkA Do
 have h2:=Xd ke h.data Do
 simp only[E9,List.not_mem_nil,or_false,not_or]
 exact⟨h1,h2⟩
theorem AlF.grownI{B ba b g nn cc:Nat}{pa:O0}{ca N:Nat}{bs:Bl}{F:List Kv}{w V:World}{B2 n:Nat}{v:Value}{xs:List Value}(h:AlF B ba b g nn cc pa ca N bs F w)(hAp:Yf v (.slice pa N ca))(hg:w.grownBy V v.ownBlock)(ho:w.ownsRow B2 3 1 v n xs):AlF B ba b g nn cc pa ca N bs F V :=
 ⟨h.blkA.grown hg ho Do,h.blkI.grown hg ho Do,Zp h.data hg ho Do,hAp.row h.nums hg⟩
theorem Al.updI{B ba b g nn cc:Nat}{pa:O0}{ca f N k0:Nat}{bs:Bl}{w W:World}{gc n c B2:Nat}{xs:List Value}(h:Al B ba b g nn cc pa ca f N k0 bs w)(hp:∀ n2 c2,Yf (.slice (S1 gc) n2 c2) (.slice pa N ca))(u:Upd w gc W)(ho:w.ownsRow B2 3 1 (.slice (S1 gc) n c) n xs):Al B ba b g nn cc pa ca f N k0 bs W :=
 ⟨u.blk h.blkA (Xd h.blkA ho Do),u.blk h.blkI (Xd h.blkI ho Do),u.ownRow h.data ho Do,u.own3 h.nums (fun j hj e=>hp n c _ rfl (e▸hj))⟩
theorem AlF.updI{B ba b g nn cc:Nat}{pa:O0}{ca N:Nat}{bs:Bl}{F:List Kv}{w W:World}{gc n c B2:Nat}{xs:List Value}(h:AlF B ba b g nn cc pa ca N bs F w)(hp:∀ n2 c2,Yf (.slice (S1 gc) n2 c2) (.slice pa N ca))(u:Upd w gc W)(ho:w.ownsRow B2 3 1 (.slice (S1 gc) n c) n xs):AlF B ba b g nn cc pa ca N bs F W:=Al.updI h hp u ho
theorem Qg{w:World}{p:O0}{n c:Nat}{L:List Dv}(h:Sl w (.slice p n c) n ((owL L).map nv))(hn:L.length=n){i:Nat}(hi:i<n):p.isSome=true∧w.cell? (Xa p (i*1))=some (V0 (↑(Xo L i):Int)):=by
 have q:=Yb h (by rw[Jc];exact hn) hi
 rw[Zik M0] at q;exact q
theorem Xh{w:World}{p:O0}{n c:Nat}{L:List Dv}(h:Sl w (.slice p n c) n (((List.range n).map (twR L)).map nv)){i:Nat}(hi:i<n):p.isSome=true∧w.cell? (Xa p (i*1))=some (V0 (↑(twR L i):Int)):=by
 have q:=Hf h (k:=i) (by simpa using hi)
 refine⟨q.1,q.2.trans ?_⟩
 simp[List.getD,B7 hi]
theorem Qp{L:List Dv}{i:Nat}(h:i<L.length):((List.range i).map (twR L)).map nv++[V0 (↑(twR L (Xo L i)):Int)]=((List.range (i+1)).map (twR L)).map nv:=by
 rw[C1,A9,A9,←twR_of h];rfl
theorem Ow{L:List Dv}{i:Nat}(h:Xo L i=i):((List.range i).map (twR L)).map nv++[V0 (↑(twN L (i+1)):Int)]=((List.range (i+1)).map (twR L)).map nv:=by
 rw[C1,A9,A9,←twR_own h];rfl
theorem Zbq(B ba b g nn cc:Nat)(pa:O0)(ca N:Nat)(bs:Bl)(F:List Kv)(t:Int)(a:O0)(c n:Nat)(l:List Ent)(bx be:Nat)(x1 x2:Value)(w:World)(hl:l.length=n)(hC:AlC B ba nn cc ca 1 N)(hA:AlF B ba b g nn cc pa ca N bs F w)(kx:Blk w bx [P0 ba,x1,x2] 82)(ke:Blk w be [.nilIface] 39)(hbe:B≤be)(hok:Nx (t,l))(hr:Xm (F++[(t,l)])≤N)(hin:∀ W,Below B w W→Zd [169,5,39] w W→Sl W (.slice a n c) n (l.flatMap Yo))(hBw:B≤w.heap.size) :
 C0 89 #[P0 bx,V0 t,.slice a n c,P0 be] w ((fun e w'=>e=.returned (V0 (↑(Xm (F++[(t,l)])):Int))∧Below B w w'∧Zd [169,5,39] w w'∧AlF B ba b g nn cc pa ca N bs (F++[(t,l)]) w'∧Blk w' be [.nilIface] 39)):=by
 refine zin 29 Tryz.func89 ?_
 refine xb 10 0 ke ?_
 refine xb 11 0 kx ?_
 have a3:=be_out hA ke
 refine xc 2 (args:=#[P0 ba,V0 t,.slice a n c]) (build_F B ba b g nn cc pa ca N bs F t a c n l _ hl hC hA hok hr (fun W h1 h2=>hin W ((Below.refl _ _).trans h1) ((Zd.refl _ _).trans h2)) (N0 hBw (Below.refl B _).size)) ?_
 rintro _ W1 ⟨rfl,a2,a5,a4,hA⟩
 have a0:=Blk.fr ke a4 a3
 refine xs 12 a0 [.nilIface] fun W2 u2 k2=>?_
 have a1:=hA.only (Zd.of_upd (T:=[39]) u2 a0 Do) Do
 have hB:=u2.below a2 hbe
 have hO:=(show Zd [169,5,39] w _ from a5).trans (Zd.of_upd u2 a0 Do)
 exact xe 9 (V0 (↑(Xm (F++[(t,l)])):Int)) ⟨rfl,hB,hO,a1,k2⟩
theorem tw_trees(B ba b g nn cc:Nat)(pa:O0)(ca N:Nat)(bs:Bl)(bx be gc k:Nat)(p:O0)(c n x:Nat)(t u v:Int)(Z:List Zv)(w:World)(hI:∀ W,Below B w W→ItT W)(hZ:Z.length=n)(hP:∀ W,Below B w W→DevsR W p c Z)(hk:PoolOk t u v (x:Int) (Z.map Prod.fst))(hC:AlC B ba nn cc ca 1 N)(hA:AlF B ba b g nn cc pa ca N bs [] w)(kx:Blk w bx [P0 ba,S0,.slice (S1 gc) k k] 82)(ke:Blk w be [.nilIface] 39)(hbx:B≤bx)(hbe:B≤be)(hc:w.ownsRow B 3 1 (.slice (S1 gc) k k) k ((Fy 0 k).map V0))(hpa:∀ n2 c2,Yf (.slice (S1 gc) n2 c2) (.slice pa N ca))(hN:N=k-1)(hr:Xm (G2 (Z.map Prod.fst))≤N)(hBw:B≤w.heap.size) :
 C0 43 #[P0 bx,.agg #[V0 t,V0 u,V0 v,V0 (x:Int),.slice p n c],P0 be] w ((fun e w'=>e=.returned (.tuple #[])∧∃ rp rc,Below B w w'∧Zd [169,5,39,3,82,124] w w'∧AlF B ba b g nn cc pa ca N bs (twT (Z.map Prod.fst) n) w'∧Blk w' bx [P0 ba,.slice rp n rc,.slice (S1 gc) k k] 82∧Blk w' be [.nilIface] 39∧w'.ownsRow B 3 1 (.slice rp n rc) n (((List.range n).map (twR (Z.map Prod.fst))).map nv)∧w'.ownsRow B 3 1 (.slice (S1 gc) k k) k ((Ip (Z.map Prod.fst) k n).map V0))):=by
 have oq:=hc
 have i8:=hA.nums
 have jm:=hpa k k
 have qm:∀ W,Below B w W→Zd [169,5,39,3,82,124] w W→DevsR W p c Z:=fun W h _=>hP W h
 have hx:x≤65536:=by have:=hk.hdata;omega
 have k5:(Z.map Prod.fst).length=n:=by rw[At];exact hZ
 have nd:(shN (Z.map Prod.fst)).length=n:=by rw[Uk];exact k5
 have qr:=hk.devs.few
 have tf:N≤14400:=by have a:=hC.hf;have b:=hC.hn;omega
 have rq:=Zd5 (Z.map Prod.fst)
 have hR:=okR hZ hk.devs M0
 have sf:=Sl.len ((hP w (Below.refl _ _)).rowN hZ)
 refine zin 95 Tryz.func43 ?_
 refine xa 2 [V0 t,V0 u,V0 v,V0 (x:Int),.slice p n c] 24 fun b1 W1 n1=>?_
 refine xlv 4 n1.blk.rp ?_
 have hB:=blB (Below.refl B w) hBw n1.below
 refine xc 0 (args:=#[.agg #[V0 t,V0 u,V0 v,V0 (x:Int),.slice p n c]]) (Vw p c n t u v (x:Int) Z _ (hI _ hB) hZ (hP _ hB) hR M0) ?_
 rintro _ W2 ⟨_,rfl,w9,qo,eo,rfl,ho⟩
 have pg:=(blB (Below.refl B w) hBw n1.below).size
 have cf:=Zf ho pg
 have ok:=Yf.of_lt oq cf (A6 _)
 refine xc 6 (args:=#[.slice qo n eo]) (Dj qo n eo (owL (Z.map Prod.fst)) _ (by rw[Jc];exact k5) (Ze cf) (fun b hb=>by have:=Zct (Z.map Prod.fst) b hb;omega) M0) ?_
 rintro _ W3 ⟨_,rfl,r7,qn,dn,rfl,i7⟩
 have pv:=(blB hB hBw w9).size
 have m3:=Zf i7 pv
 rw[show Jp (List.replicate n 0) (owL (Z.map Prod.fst))=shN (Z.map Prod.fst) from by unfold shN;rw[k5]] at m3
 have oo:=Yf.of_lt oq m3 (A6 _)
 have ez:=(n1.blk.below w9).below r7
 refine xb 6 4 ez ?_
 have mj:=Za (Za (Za hc n1.below) w9) r7
 have er:=Za (Za (Za i8 n1.below) w9) r7
 have mm:=Za cf r7
 have lc:=((hA.below n1.below).below w9).below r7
 have lz:=blB (blB hB hBw w9) hBw r7
 have hO:=((show Zd [169,5,39,3,82,124] w _ from(Zd.of_below n1.below)).trans (Zd.of_below w9)).trans (Zd.of_below r7)
 have le:=((kx.below n1.below).below w9).below r7
 have nb:=((ke.below n1.below).below w9).below r7
 refine zl 5 95 (fun zm ls V=>∃ (i:Nat) (rp:O0) (rc:Nat),ls=[(0,P0 bx),(2,P0 be),(6,.slice qo n eo),(7,.slice qn n dn),(19,.slice p n c),(20,V0 (n:Int)),(21,V0 (i:Int))]∧zm=n-((i:Int)).toNat∧Below B w V∧Zd [169,5,39,3,82,124] w V∧Blk V bx ([P0 ba,.slice rp i rc,.slice (S1 gc) k k]) 82∧Blk V be ([.nilIface]) 39∧Blk V b1 ([V0 t,V0 u,V0 v,V0 (x:Int),.slice p n c]) 24∧V.ownsRow w.heap.size 3 1 (.slice qo n eo) n ((owL (Z.map Prod.fst)).map nv)∧V.ownsRow w.heap.size 3 1 (.slice qn n dn) n ((shN (Z.map Prod.fst)).map nv)∧V.ownsRow w.heap.size 3 1 (.slice rp i rc) i (((List.range i).map (twR (Z.map Prod.fst))).map nv)∧V.ownsRow B 3 1 (.slice (S1 gc) k k) k ((Ip (Z.map Prod.fst) k i).map V0)∧V.ownsRow B 3 1 (.slice pa N ca) N ((Qn 1 N).map V0)∧AlF B ba b g nn cc pa ca N bs (twT (Z.map Prod.fst) i) V∧i≤n∧Yf (.slice rp i rc) (.slice qo n eo)∧Yf (.slice rp i rc) (.slice qn n dn)∧Yf (.slice (S1 gc) k k) (.slice rp i rc)∧Yf (.slice rp i rc) (.slice pa N ca)) ⟨0,none,0,rfl,rfl,lz,hO,le,nb,ez,mm,m3,A4 _ _ _ _,(by rw[cntT_0];exact mj),er,lc,A3 _,Yf.nil _,Yf.nil _,(Yf.nil _).symm,Yf.nil _⟩ ?_
 rintro _ _ W4 ⟨i,rp,rc,rfl,rfl,d5,e2,g8,c7,c8,ho,i7,p5,hc,i8,hA,hi,a4,a3,a2,a1⟩ J4 k4 r4
 refine xid 6 ((i:Int)<(n:Int)) (fun qa=>?_) (fun qa=>?_)
 ·have i3:i<(Z.map Prod.fst).length:=by omega
  have ko:=Rn (Z:=Z) (i:=i) M0 dvD
  have sd:=(Gp i3).1
  have pt:=He (L:=(Z.map Prod.fst)) (i:=i) i3
  rw[ko] at pt
  have ox:=hk.devs.sum
  have ey:=(hk.devs.each ((Z.map Prod.fst).getD i dvD) (Md _ i3)).maps
  rw[ko] at ey
  have sm:=Vn (Z.map Prod.fst) (show i+1≤(Z.map Prod.fst).length from i3)
  have qi:Nx (2,Jy (Z.getD i zvD).1.2):=by rw[←ko];exact Rr hk.devs i3
  have qq:∀ W,Below B w W→Zd [169,5,39,3,82,124] w W→Sts Rp W (.slice (Z.getD i zvD).2.1 (Z.getD i zvD).1.2.length (Z.getD i zvD).2.2) (Z.getD i zvD).1.2:=fun W h _=>(hP W h).each i M0
  refine xx 7 _ n i 5 ((hP _ (Below.refl _ _)).someN hZ (i:=i) M0) ?_
  refine xlv 0 (Sts.rp (k:=i) (qm _ d5 e2).row Xs zvD M0 Do) ?_
  refine xa 0 [V0 0,V0 0,V0 0,V0 0,S0] 32 fun b6 W6 n6=>?_
  have g6:=n6.ge0 d5
  refine xsv 1 n6.blk [V0 ((Z.getD i zvD).1.1.1),V0 ((Z.getD i zvD).1.1.2.1),V0 ((Z.getD i zvD).1.1.2.2.1),V0 ((Z.getD i zvD).1.1.2.2.2),.slice ((Z.getD i zvD).2.1) ((Z.getD i zvD).1.2.length) ((Z.getD i zvD).2.2)] fun W7 u7 k7=>?_
  have v0:=u7.own2 (Za ho n6.below) n6.blk Do
  refine xx 7 _ n i 1 (Qg (Ze v0) k5 (i:=i) M0).1 ?_
  refine xl 0 ((Qg (Ze v0) k5 (i:=i) M0).2) ?_
  refine xin 4 (↑(Xo (Z.map Prod.fst) i):Int) (i:Int) (fun pr=>?_) (fun pr=>?_)
  ·have b8:Xo (Z.map Prod.fst) i≠i:=by omega
   refine xd 1 (.t B [169,5,39,3,82,124]) ?_
   have b7:=Za v0 (Zb W7)
   refine xx (.e [0,1,2,3,5,6,7,9,10] 11) _ n i 1 (Qg (Ze b7) k5 (i:=i) M0).1 ?_
   refine xm3 0 4 8 12 ?_ ?_ ?_
   ·have d9:=(u7.blkT (g8.below n6.below) n6.blk Do).below (Zb W7)
    refine xb 0 1 d9 ?_
    refine xm2 0 8 12 ?_ ?_
    ·refine xb 0 1 d9 ?_
     refine xl (.o [] 12) ((Qg (Ze b7) k5 (i:=i) M0).2) ?_
     have j6:=Za (u7.own2 (Za p5 n6.below) n6.blk Do) (Zb W7)
     refine xx (.e [] 13) _ i (Xo (Z.map Prod.fst) i) 1 (Xh (Ze j6) (i:=(Xo (Z.map Prod.fst) i)) M0).1 ?_
     refine xl (.o [] 14) ((Xh (Ze j6) (i:=(Xo (Z.map Prod.fst) i)) M0).2) ?_
     refine xbs (.o [] 15) 1 [V0 (↑(twR (Z.map Prod.fst) (Xo (Z.map Prod.fst) i)):Int)] 3 fun b9 W9 n9=>?_
     have iv:=blB (u7.below (blB d5 hBw n6.below) (N0 hBw g6)) hBw (Zb W7)
     have g9:=n9.ge0 iv
     have jh:=Za (u7.own2 (Za hc n6.below) n6.blk Do) (Zb W7)
     have ot:=Zg jh n9
     have x5:=Za (u7.own2 (Za i8 n6.below) n6.blk Do) (Zb W7)
     have nj:=Zg x5 n9
     have os:=Zg b7 n9
     have y0:=Za (u7.own2 (Za i7 n6.below) n6.blk Do) (Zb W7)
     have lf:=Zg y0 n9
     have lp:=Zg j6 n9
     have c3:=a1
     have f3:=Za j6 n9.below
     have ie:=blB iv hBw n9.below
     refine ybi (.o [] 16) (.t B [169,5,39,3,82,124]) fun _ _ _ _ zJ zQ zo zx zy zK=>Xi (b:=b9) (c:=1) (m:=1) (news:=[V0 (↑(twR (Z.map Prod.fst) (Xo (Z.map Prod.fst) i)):Int)]) (V0 0) 1 8 (i+1) ((((List.range (i+1)).map (twR (Z.map Prod.fst))).map nv)) zo Tryz.underlying27 K0 rfl Do zx f3 zy n9.blk rfl (by simp[Value.oneCell']) (by unfold maxLen;omega) M0 ie.size (by rfl) (Qp i3) fun nq mi qu qj f5 ik u3=>?_
     have jk:=Za b7 n9.below
     have cv:=a4.row jk f5
     replace a4:=(a4.grow jk u3)
     have al:=Za y0 n9.below
     have w0:=a3.row al f5
     replace a3:=(a3.grow al u3)
     have jp:=Za jh n9.below
     have cq:=a2.symm.row jp f5
     replace a2:=(a2.symm.grow jp u3).symm
     have aw:=Za x5 n9.below
     have v3:=a1.row aw f5
     replace a1:=(a1.grow aw u3)
     have hz:=cv
     have dv:=w0
     have gj:=cq
     have dp:=v3
     refine zK _ _ (Zt (ik.mono hBw) f5 f3 Do) ?_
     have b5:=(d9.below n9.below).grown f5 f3 Do
     refine ys (.o [17,18] 19) b5 [P0 ba,.slice nq (i+1) mi,.slice (S1 gc) k k] (.t B [169,5,39,3,82,124]) fun rb r1 pj=>⟨(Xb r1 b5 hbx Do),?_⟩
     refine xwm 7 ((i:Int)+1) (↑(i+1):Int) ?_
     have mq:=(((((hA.below n6.below).only (Zd.of_upd (T:=[32]) u7 n6.blk Do) Do).below (Zb W7)).below n9.below).grownI c3 f5 f3).only (Zd.of_upd (T:=[82]) r1 b5 Do) Do
     have lx:=r1.own2 gj b5 Do
     have ma:=r1.own2 hz b5 Do
     have hm:=r1.own2 dv b5 Do
     have gs:=r1.own2 qj b5 Do
     have iy:=r1.own2 dp b5 Do
     have nt:=r1.below (ie.trans (ik.mono hBw)) hbx
     have lh:=(Zd.grown_new (((Zd.upd_new (e2.trans (Zd.of_below n6.below)) u7 g6).trans (Zd.of_below (Zb W7))).trans (Zd.of_below n9.below)) f5 f3).trans (Zd.of_upd r1 b5 Do)
     have t3:=r1.blkT ((((u7.blkT (c7.below n6.below) n6.blk Do).below (Zb W7)).below n9.below).grown f5 f3 Do) b5 Do
     have r8:=r1.blkT ((((u7.blkT (c8.below n6.below) n6.blk Do).below (Zb W7)).below n9.below).grown f5 f3 Do) b5 Do
     exact ze 2 (k4 _ _ _ ⟨i+1,_,_,rfl,rfl,nt,lh,pj,t3,r8,ma,hm,gs,(by rw[Jh b8];exact lx),iy,(by rw[Gg b8];exact mq),by omega,a4,a3,a2,a1⟩ M0)
    refine xl 0 ((Qg (Ze b7) k5 (i:=i) M0).2) ?_
    refine xb (.o [] 8) 1 d9 ?_
    have k0:=Za (u7.own2 (Za p5 n6.below) n6.blk Do) (Zb W7)
    refine xx (.e [] 13) _ i (Xo (Z.map Prod.fst) i) 1 (Xh (Ze k0) (i:=(Xo (Z.map Prod.fst) i)) M0).1 ?_
    refine xl (.o [] 14) ((Xh (Ze k0) (i:=(Xo (Z.map Prod.fst) i)) M0).2) ?_
    refine xbs (.o [] 15) 1 [V0 (↑(twR (Z.map Prod.fst) (Xo (Z.map Prod.fst) i)):Int)] 3 fun ph qz h6=>?_
    have ib:=blB (u7.below (blB d5 hBw n6.below) (N0 hBw g6)) hBw (Zb W7)
    have sn:=h6.ge0 ib
    have gk:=Za (u7.own2 (Za hc n6.below) n6.blk Do) (Zb W7)
    have lb:=Zg gk h6
    have ah:=Za (u7.own2 (Za i8 n6.below) n6.blk Do) (Zb W7)
    have jt:=Zg ah h6
    have nl:=Zg b7 h6
    have bf:=Za (u7.own2 (Za i7 n6.below) n6.blk Do) (Zb W7)
    have kh:=Zg bf h6
    have ki:=Zg k0 h6
    have c3:=a1
    have e7:=Za k0 h6.below
    have fw:=blB ib hBw h6.below
    refine ybi (.o [] 16) (.t B [169,5,39,3,82,124]) fun _ _ _ _ zJ zQ zo zx zy zK=>Xi (b:=ph) (c:=1) (m:=1) (news:=[V0 (↑(twR (Z.map Prod.fst) (Xo (Z.map Prod.fst) i)):Int)]) (V0 0) 1 8 (i+1) ((((List.range (i+1)).map (twR (Z.map Prod.fst))).map nv)) zo Tryz.underlying27 K0 rfl Do zx e7 zy h6.blk rfl (by simp[Value.oneCell']) (by unfold maxLen;omega) M0 fw.size (by rfl) (Qp i3) fun oc mv rg pd g2 gd u6=>?_
    have hy:=Za b7 h6.below
    have ci:=a4.row hy g2
    replace a4:=(a4.grow hy u6)
    have ar:=Za bf h6.below
    have t0:=a3.row ar g2
    replace a3:=(a3.grow ar u6)
    have ht:=Za gk h6.below
    have bq:=a2.symm.row ht g2
    replace a2:=(a2.symm.grow ht u6).symm
    have aq:=Za ah h6.below
    have t8:=a1.row aq g2
    replace a1:=(a1.grow aq u6)
    have fn:=ci
    have eb:=t0
    have gz:=bq
    have bn:=t8
    refine zK _ _ (Zt (gd.mono hBw) g2 e7 Do) ?_
    have b4:=(d9.below h6.below).grown g2 e7 Do
    refine ys (.o [17,18] 19) b4 [P0 ba,.slice oc (i+1) mv,.slice (S1 gc) k k] (.t B [169,5,39,3,82,124]) fun sr p2 pb=>⟨(Xb p2 b4 hbx Do),?_⟩
    refine xwm 7 ((i:Int)+1) (↑(i+1):Int) ?_
    have lo:=(((((hA.below n6.below).only (Zd.of_upd (T:=[32]) u7 n6.blk Do) Do).below (Zb W7)).below h6.below).grownI c3 g2 e7).only (Zd.of_upd (T:=[82]) p2 b4 Do) Do
    have mr:=p2.own2 gz b4 Do
    have ky:=p2.own2 fn b4 Do
    have fm:=p2.own2 eb b4 Do
    have hw:=p2.own2 pd b4 Do
    have fd:=p2.own2 bn b4 Do
    have ms:=p2.below (fw.trans (gd.mono hBw)) hbx
    have od:=(Zd.grown_new (((Zd.upd_new (e2.trans (Zd.of_below n6.below)) u7 g6).trans (Zd.of_below (Zb W7))).trans (Zd.of_below h6.below)) g2 e7).trans (Zd.of_upd p2 b4 Do)
    have x1:=p2.blkT ((((u7.blkT (c7.below n6.below) n6.blk Do).below (Zb W7)).below h6.below).grown g2 e7 Do) b4 Do
    have t9:=p2.blkT ((((u7.blkT (c8.below n6.below) n6.blk Do).below (Zb W7)).below h6.below).grown g2 e7 Do) b4 Do
    exact ze 2 (k4 _ _ _ ⟨i+1,_,_,rfl,rfl,ms,od,pb,x1,t9,ky,fm,hw,(by rw[Jh b8];exact mr),fd,(by rw[Gg b8];exact lo),by omega,a4,a3,a2,a1⟩ M0)
   ·have c4:=(u7.blkT (g8.below n6.below) n6.blk Do).below (Zb W7)
    refine xb 0 1 c4 ?_
    refine xm2 0 4 12 ?_ ?_
    ·refine xb 0 1 c4 ?_
     refine xl (.o [] 12) ((Qg (Ze b7) k5 (i:=i) M0).2) ?_
     have j5:=Za (u7.own2 (Za p5 n6.below) n6.blk Do) (Zb W7)
     refine xx (.e [] 13) _ i (Xo (Z.map Prod.fst) i) 1 (Xh (Ze j5) (i:=(Xo (Z.map Prod.fst) i)) M0).1 ?_
     refine xl (.o [] 14) ((Xh (Ze j5) (i:=(Xo (Z.map Prod.fst) i)) M0).2) ?_
     refine xbs (.o [] 15) 1 [V0 (↑(twR (Z.map Prod.fst) (Xo (Z.map Prod.fst) i)):Int)] 3 fun pz sc i0=>?_
     have gt:=blB (u7.below (blB d5 hBw n6.below) (N0 hBw g6)) hBw (Zb W7)
     have tb:=i0.ge0 gt
     have ft:=Za (u7.own2 (Za hc n6.below) n6.blk Do) (Zb W7)
     have nm:=Zg ft i0
     have z4:=Za (u7.own2 (Za i8 n6.below) n6.blk Do) (Zb W7)
     have kc:=Zg z4 i0
     have nc:=Zg b7 i0
     have af:=Za (u7.own2 (Za i7 n6.below) n6.blk Do) (Zb W7)
     have kj:=Zg af i0
     have kp:=Zg j5 i0
     have c3:=a1
     have f0:=Za j5 i0.below
     have gx:=blB gt hBw i0.below
     refine ybi (.o [] 16) (.t B [169,5,39,3,82,124]) fun _ _ _ _ zJ zQ zo zx zy zK=>Xi (b:=pz) (c:=1) (m:=1) (news:=[V0 (↑(twR (Z.map Prod.fst) (Xo (Z.map Prod.fst) i)):Int)]) (V0 0) 1 8 (i+1) ((((List.range (i+1)).map (twR (Z.map Prod.fst))).map nv)) zo Tryz.underlying27 K0 rfl Do zx f0 zy i0.blk rfl (by simp[Value.oneCell']) (by unfold maxLen;omega) M0 gx.size (by rfl) (Qp i3) fun kz nk st py g3 jj s8=>?_
     have ij:=Za b7 i0.below
     have di:=a4.row ij g3
     replace a4:=(a4.grow ij s8)
     have bc:=Za af i0.below
     have x0:=a3.row bc g3
     replace a3:=(a3.grow bc s8)
     have ia:=Za ft i0.below
     have dl:=a2.symm.row ia g3
     replace a2:=(a2.symm.grow ia s8).symm
     have aa:=Za z4 i0.below
     have u1:=a1.row aa g3
     replace a1:=(a1.grow aa s8)
     have iw:=di
     have cn:=x0
     have im:=dl
     have dz:=u1
     refine zK _ _ (Zt (jj.mono hBw) g3 f0 Do) ?_
     have b3:=(c4.below i0.below).grown g3 f0 Do
     refine ys (.o [17,18] 19) b3 [P0 ba,.slice kz (i+1) nk,.slice (S1 gc) k k] (.t B [169,5,39,3,82,124]) fun qt n7 qe=>⟨(Xb n7 b3 hbx Do),?_⟩
     refine xwm 7 ((i:Int)+1) (↑(i+1):Int) ?_
     have lu:=(((((hA.below n6.below).only (Zd.of_upd (T:=[32]) u7 n6.blk Do) Do).below (Zb W7)).below i0.below).grownI c3 g3 f0).only (Zd.of_upd (T:=[82]) n7 b3 Do) Do
     have gq:=n7.own2 im b3 Do
     have hu:=n7.own2 iw b3 Do
     have cx:=n7.own2 cn b3 Do
     have fo:=n7.own2 py b3 Do
     have ej:=n7.own2 dz b3 Do
     have ha:=n7.below (gx.trans (jj.mono hBw)) hbx
     have nx:=(Zd.grown_new (((Zd.upd_new (e2.trans (Zd.of_below n6.below)) u7 g6).trans (Zd.of_below (Zb W7))).trans (Zd.of_below i0.below)) g3 f0).trans (Zd.of_upd n7 b3 Do)
     have w8:=n7.blkT ((((u7.blkT (c7.below n6.below) n6.blk Do).below (Zb W7)).below i0.below).grown g3 f0 Do) b3 Do
     have v1:=n7.blkT ((((u7.blkT (c8.below n6.below) n6.blk Do).below (Zb W7)).below i0.below).grown g3 f0 Do) b3 Do
     exact ze 2 (k4 _ _ _ ⟨i+1,_,_,rfl,rfl,ha,nx,qe,w8,v1,hu,cx,fo,(by rw[Jh b8];exact gq),ej,(by rw[Gg b8];exact lu),by omega,a4,a3,a2,a1⟩ M0)
    refine xl 0 ((Qg (Ze b7) k5 (i:=i) M0).2) ?_
    have d8:=Za (u7.own2 (Za p5 n6.below) n6.blk Do) (Zb W7)
    refine xx (.e [] 13) _ i (Xo (Z.map Prod.fst) i) 1 (Xh (Ze d8) (i:=(Xo (Z.map Prod.fst) i)) M0).1 ?_
    refine xm2 0 4 14 ?_ ?_
    ·refine xb 0 1 c4 ?_
     refine xl (.o [] 14) ((Xh (Ze d8) (i:=(Xo (Z.map Prod.fst) i)) M0).2) ?_
     refine xbs (.o [] 15) 1 [V0 (↑(twR (Z.map Prod.fst) (Xo (Z.map Prod.fst) i)):Int)] 3 fun ow rs h5=>?_
     have ax:=blB (u7.below (blB d5 hBw n6.below) (N0 hBw g6)) hBw (Zb W7)
     have ta:=h5.ge0 ax
     have x8:=Za (u7.own2 (Za hc n6.below) n6.blk Do) (Zb W7)
     have ng:=Zg x8 h5
     have r2:=Za (u7.own2 (Za i8 n6.below) n6.blk Do) (Zb W7)
     have kl:=Zg r2 h5
     have lw:=Zg b7 h5
     have l6:=Za (u7.own2 (Za i7 n6.below) n6.blk Do) (Zb W7)
     have ks:=Zg l6 h5
     have jv:=Zg d8 h5
     have c3:=a1
     have f4:=Za d8 h5.below
     have z3:=blB ax hBw h5.below
     refine ybi (.o [] 16) (.t B [169,5,39,3,82,124]) fun _ _ _ _ zJ zQ zo zx zy zK=>Xi (b:=ow) (c:=1) (m:=1) (news:=[V0 (↑(twR (Z.map Prod.fst) (Xo (Z.map Prod.fst) i)):Int)]) (V0 0) 1 8 (i+1) ((((List.range (i+1)).map (twR (Z.map Prod.fst))).map nv)) zo Tryz.underlying27 K0 rfl Do zx f4 zy h5.blk rfl (by simp[Value.oneCell']) (by unfold maxLen;omega) M0 z3.size (by rfl) (Qp i3) fun ni ln rd pf f8 ip u9=>?_
     have ap:=Za b7 h5.below
     have cw:=a4.row ap f8
     replace a4:=(a4.grow ap u9)
     have n5:=Za l6 h5.below
     have s6:=a3.row n5 f8
     replace a3:=(a3.grow n5 u9)
     have y7:=Za x8 h5.below
     have ea:=a2.symm.row y7 f8
     replace a2:=(a2.symm.grow y7 u9).symm
     have q9:=Za r2 h5.below
     have w6:=a1.row q9 f8
     replace a1:=(a1.grow q9 u9)
     have jl:=cw
     have dk:=s6
     have fp:=ea
     have cy:=w6
     refine zK _ _ (Zt (ip.mono hBw) f8 f4 Do) ?_
     have b2:=(c4.below h5.below).grown f8 f4 Do
     refine ys (.o [17,18] 19) b2 [P0 ba,.slice ni (i+1) ln,.slice (S1 gc) k k] (.t B [169,5,39,3,82,124]) fun re l2 qd=>⟨(Xb l2 b2 hbx Do),?_⟩
     refine xwm 7 ((i:Int)+1) (↑(i+1):Int) ?_
     have li:=(((((hA.below n6.below).only (Zd.of_upd (T:=[32]) u7 n6.blk Do) Do).below (Zb W7)).below h5.below).grownI c3 f8 f4).only (Zd.of_upd (T:=[82]) l2 b2 Do) Do
     have gb:=l2.own2 fp b2 Do
     have ex:=l2.own2 jl b2 Do
     have dw:=l2.own2 dk b2 Do
     have fj:=l2.own2 pf b2 Do
     have cm:=l2.own2 cy b2 Do
     have fy:=l2.below (z3.trans (ip.mono hBw)) hbx
     have mo:=(Zd.grown_new (((Zd.upd_new (e2.trans (Zd.of_below n6.below)) u7 g6).trans (Zd.of_below (Zb W7))).trans (Zd.of_below h5.below)) f8 f4).trans (Zd.of_upd l2 b2 Do)
     have r9:=l2.blkT ((((u7.blkT (c7.below n6.below) n6.blk Do).below (Zb W7)).below h5.below).grown f8 f4 Do) b2 Do
     have s0:=l2.blkT ((((u7.blkT (c8.below n6.below) n6.blk Do).below (Zb W7)).below h5.below).grown f8 f4 Do) b2 Do
     exact ze 2 (k4 _ _ _ ⟨i+1,_,_,rfl,rfl,fy,mo,qd,r9,s0,ex,dw,fj,(by rw[Jh b8];exact gb),cm,(by rw[Gg b8];exact li),by omega,a4,a3,a2,a1⟩ M0)
    refine xl 0 ((Xh (Ze d8) (i:=(Xo (Z.map Prod.fst) i)) M0).2) ?_
    refine xm2 0 4 15 ?_ ?_
    ·refine xb 0 1 c4 ?_
     refine xbs (.o [] 15) 1 [V0 (↑(twR (Z.map Prod.fst) (Xo (Z.map Prod.fst) i)):Int)] 3 fun qf rt h7=>?_
     have x4:=blB (u7.below (blB d5 hBw n6.below) (N0 hBw g6)) hBw (Zb W7)
     have ru:=h7.ge0 x4
     have y4:=Za (u7.own2 (Za hc n6.below) n6.blk Do) (Zb W7)
     have mc:=Zg y4 h7
     have p9:=Za (u7.own2 (Za i8 n6.below) n6.blk Do) (Zb W7)
     have kf:=Zg p9 h7
     have lt:=Zg b7 h7
     have p3:=Za (u7.own2 (Za i7 n6.below) n6.blk Do) (Zb W7)
     have kn:=Zg p3 h7
     have jz:=Zg d8 h7
     have c3:=a1
     have e8:=Za d8 h7.below
     have z2:=blB x4 hBw h7.below
     refine ybi (.o [] 16) (.t B [169,5,39,3,82,124]) fun _ _ _ _ zJ zQ zo zx zy zK=>Xi (b:=qf) (c:=1) (m:=1) (news:=[V0 (↑(twR (Z.map Prod.fst) (Xo (Z.map Prod.fst) i)):Int)]) (V0 0) 1 8 (i+1) ((((List.range (i+1)).map (twR (Z.map Prod.fst))).map nv)) zo Tryz.underlying27 K0 rfl Do zx e8 zy h7.blk rfl (by simp[Value.oneCell']) (by unfold maxLen;omega) M0 z2.size (by rfl) (Qp i3) fun mu oe rj qs f9 fs w7=>?_
     have x9:=Za b7 h7.below
     have ec:=a4.row x9 f9
     replace a4:=(a4.grow x9 w7)
     have o0:=Za p3 h7.below
     have t1:=a3.row o0 f9
     replace a3:=(a3.grow o0 w7)
     have av:=Za y4 h7.below
     have bu:=a2.symm.row av f9
     replace a2:=(a2.symm.grow av w7).symm
     have n3:=Za p9 h7.below
     have v2:=a1.row n3 f9
     replace a1:=(a1.grow n3 w7)
     have ge:=ec
     have ei:=t1
     have gh:=bu
     have co:=v2
     refine zK _ _ (Zt (fs.mono hBw) f9 e8 Do) ?_
     have b0:=(c4.below h7.below).grown f9 e8 Do
     refine ys (.o [17,18] 19) b0 [P0 ba,.slice mu (i+1) oe,.slice (S1 gc) k k] (.t B [169,5,39,3,82,124]) fun sb l5 qb=>⟨(Xb l5 b0 hbx Do),?_⟩
     refine xwm 7 ((i:Int)+1) (↑(i+1):Int) ?_
     have nz:=(((((hA.below n6.below).only (Zd.of_upd (T:=[32]) u7 n6.blk Do) Do).below (Zb W7)).below h7.below).grownI c3 f9 e8).only (Zd.of_upd (T:=[82]) l5 b0 Do) Do
     have fk:=l5.own2 gh b0 Do
     have fz:=l5.own2 ge b0 Do
     have dc:=l5.own2 ei b0 Do
     have jb:=l5.own2 qs b0 Do
     have cl:=l5.own2 co b0 Do
     have jn:=l5.below (z2.trans (fs.mono hBw)) hbx
     have lj:=(Zd.grown_new (((Zd.upd_new (e2.trans (Zd.of_below n6.below)) u7 g6).trans (Zd.of_below (Zb W7))).trans (Zd.of_below h7.below)) f9 e8).trans (Zd.of_upd l5 b0 Do)
     have u4:=l5.blkT ((((u7.blkT (c7.below n6.below) n6.blk Do).below (Zb W7)).below h7.below).grown f9 e8 Do) b0 Do
     have u2:=l5.blkT ((((u7.blkT (c8.below n6.below) n6.blk Do).below (Zb W7)).below h7.below).grown f9 e8 Do) b0 Do
     exact ze 2 (k4 _ _ _ ⟨i+1,_,_,rfl,rfl,jn,lj,qb,u4,u2,fz,dc,jb,(by rw[Jh b8];exact fk),cl,(by rw[Gg b8];exact nz),by omega,a4,a3,a2,a1⟩ M0)
    refine xbs 0 1 [V0 (↑(twR (Z.map Prod.fst) (Xo (Z.map Prod.fst) i)):Int)] 3 fun pm ri h3=>?_
    have ay:=blB (u7.below (blB d5 hBw n6.below) (N0 hBw g6)) hBw (Zb W7)
    have rh:=h3.ge0 ay
    have az:=Za (u7.own2 (Za hc n6.below) n6.blk Do) (Zb W7)
    have ll:=Zg az h3
    have q8:=Za (u7.own2 (Za i8 n6.below) n6.blk Do) (Zb W7)
    have km:=Zg q8 h3
    have lr:=Zg b7 h3
    have q4:=Za (u7.own2 (Za i7 n6.below) n6.blk Do) (Zb W7)
    have kk:=Zg q4 h3
    have jw:=Zg d8 h3
    have j9:=c4.below h3.below
    refine xb (.o [] 4) 1 j9 ?_
    have c3:=a1
    have d2:=Za d8 h3.below
    have bi:=blB ay hBw h3.below
    refine ybi (.o [] 16) (.t B [169,5,39,3,82,124]) fun _ _ _ _ zJ zQ zo zx zy zK=>Xi (b:=pm) (c:=1) (m:=1) (news:=[V0 (↑(twR (Z.map Prod.fst) (Xo (Z.map Prod.fst) i)):Int)]) (V0 0) 1 8 (i+1) ((((List.range (i+1)).map (twR (Z.map Prod.fst))).map nv)) zo Tryz.underlying27 K0 rfl Do zx d2 zy h3.blk rfl (by simp[Value.oneCell']) (by unfold maxLen;omega) M0 bi.size (by rfl) (Qp i3) fun mg ob ro qh g1 ji v9=>?_
    have z8:=Za b7 h3.below
    have ck:=a4.row z8 g1
    replace a4:=(a4.grow z8 v9)
    have l9:=Za q4 h3.below
    have s2:=a3.row l9 g1
    replace a3:=(a3.grow l9 v9)
    have y5:=Za az h3.below
    have cd:=a2.symm.row y5 g1
    replace a2:=(a2.symm.grow y5 v9).symm
    have r3:=Za q8 h3.below
    have u0:=a1.row r3 g1
    replace a1:=(a1.grow r3 v9)
    have gr:=ck
    have dg:=s2
    have gn:=cd
    have dd:=u0
    refine zK _ _ (Zt (ji.mono hBw) g1 d2 Do) ?_
    have a9:=j9.grown g1 d2 Do
    refine ys (.o [17,18] 19) a9 [P0 ba,.slice mg (i+1) ob,.slice (S1 gc) k k] (.t B [169,5,39,3,82,124]) fun sx o8 ps=>⟨(Xb o8 a9 hbx Do),?_⟩
    refine xwm 7 ((i:Int)+1) (↑(i+1):Int) ?_
    have mf:=(((((hA.below n6.below).only (Zd.of_upd (T:=[32]) u7 n6.blk Do) Do).below (Zb W7)).below h3.below).grownI c3 g1 d2).only (Zd.of_upd (T:=[82]) o8 a9 Do) Do
    have gv:=o8.own2 gn a9 Do
    have ir:=o8.own2 gr a9 Do
    have cr:=o8.own2 dg a9 Do
    have jg:=o8.own2 qh a9 Do
    have eh:=o8.own2 dd a9 Do
    have gy:=o8.below (bi.trans (ji.mono hBw)) hbx
    have ns:=(Zd.grown_new (((Zd.upd_new (e2.trans (Zd.of_below n6.below)) u7 g6).trans (Zd.of_below (Zb W7))).trans (Zd.of_below h3.below)) g1 d2).trans (Zd.of_upd o8 a9 Do)
    have s9:=o8.blkT ((((u7.blkT (c7.below n6.below) n6.blk Do).below (Zb W7)).below h3.below).grown g1 d2 Do) a9 Do
    have v4:=o8.blkT ((((u7.blkT (c8.below n6.below) n6.blk Do).below (Zb W7)).below h3.below).grown g1 d2 Do) a9 Do
    exact ze 2 (k4 _ _ _ ⟨i+1,_,_,rfl,rfl,gy,ns,ps,s9,v4,ir,cr,jg,(by rw[Jh b8];exact gv),eh,(by rw[Gg b8];exact mf),by omega,a4,a3,a2,a1⟩ M0)
   refine xl 0 ((Qg (Ze b7) k5 (i:=i) M0).2) ?_
   refine xm2 0 4 8 ?_ ?_
   ·have e9:=(u7.blkT (g8.below n6.below) n6.blk Do).below (Zb W7)
    refine xb 0 1 e9 ?_
    refine xb (.o [] 8) 1 e9 ?_
    have h0:=Za (u7.own2 (Za p5 n6.below) n6.blk Do) (Zb W7)
    refine xx (.e [] 13) _ i (Xo (Z.map Prod.fst) i) 1 (Xh (Ze h0) (i:=(Xo (Z.map Prod.fst) i)) M0).1 ?_
    refine xl (.o [] 14) ((Xh (Ze h0) (i:=(Xo (Z.map Prod.fst) i)) M0).2) ?_
    refine xbs (.o [] 15) 1 [V0 (↑(twR (Z.map Prod.fst) (Xo (Z.map Prod.fst) i)):Int)] 3 fun pe qv h4=>?_
    have y9:=blB (u7.below (blB d5 hBw n6.below) (N0 hBw g6)) hBw (Zb W7)
    have sq:=h4.ge0 y9
    have z0:=Za (u7.own2 (Za hc n6.below) n6.blk Do) (Zb W7)
    have mz:=Zg z0 h4
    have q5:=Za (u7.own2 (Za i8 n6.below) n6.blk Do) (Zb W7)
    have kb:=Zg q5 h4
    have lq:=Zg b7 h4
    have l0:=Za (u7.own2 (Za i7 n6.below) n6.blk Do) (Zb W7)
    have kd:=Zg l0 h4
    have jx:=Zg h0 h4
    have c3:=a1
    have d1:=Za h0 h4.below
    have z9:=blB y9 hBw h4.below
    refine ybi (.o [] 16) (.t B [169,5,39,3,82,124]) fun _ _ _ _ zJ zQ zo zx zy zK=>Xi (b:=pe) (c:=1) (m:=1) (news:=[V0 (↑(twR (Z.map Prod.fst) (Xo (Z.map Prod.fst) i)):Int)]) (V0 0) 1 8 (i+1) ((((List.range (i+1)).map (twR (Z.map Prod.fst))).map nv)) zo Tryz.underlying27 K0 rfl Do zx d1 zy h4.blk rfl (by simp[Value.oneCell']) (by unfold maxLen;omega) M0 z9.size (by rfl) (Qp i3) fun ld na qx pc g7 fu t7=>?_
    have ak:=Za b7 h4.below
    have bo:=a4.row ak g7
    replace a4:=(a4.grow ak t7)
    have o3:=Za l0 h4.below
    have s5:=a3.row o3 g7
    replace a3:=(a3.grow o3 t7)
    have z1:=Za z0 h4.below
    have cg:=a2.symm.row z1 g7
    replace a2:=(a2.symm.grow z1 t7).symm
    have n4:=Za q5 h4.below
    have v7:=a1.row n4 g7
    replace a1:=(a1.grow n4 t7)
    have gm:=bo
    have ef:=s5
    have hh:=cg
    have ce:=v7
    refine zK _ _ (Zt (fu.mono hBw) g7 d1 Do) ?_
    have a5:=(e9.below h4.below).grown g7 d1 Do
    refine ys (.o [17,18] 19) a5 [P0 ba,.slice ld (i+1) na,.slice (S1 gc) k k] (.t B [169,5,39,3,82,124]) fun sh p6 qk=>⟨(Xb p6 a5 hbx Do),?_⟩
    refine xwm 7 ((i:Int)+1) (↑(i+1):Int) ?_
    have lg:=(((((hA.below n6.below).only (Zd.of_upd (T:=[32]) u7 n6.blk Do) Do).below (Zb W7)).below h4.below).grownI c3 g7 d1).only (Zd.of_upd (T:=[82]) p6 a5 Do) Do
    have ga:=p6.own2 hh a5 Do
    have fg:=p6.own2 gm a5 Do
    have bt:=p6.own2 ef a5 Do
    have hg:=p6.own2 pc a5 Do
    have dh:=p6.own2 ce a5 Do
    have en:=p6.below (z9.trans (fu.mono hBw)) hbx
    have oa:=(Zd.grown_new (((Zd.upd_new (e2.trans (Zd.of_below n6.below)) u7 g6).trans (Zd.of_below (Zb W7))).trans (Zd.of_below h4.below)) g7 d1).trans (Zd.of_upd p6 a5 Do)
    have s7:=p6.blkT ((((u7.blkT (c7.below n6.below) n6.blk Do).below (Zb W7)).below h4.below).grown g7 d1 Do) a5 Do
    have t2:=p6.blkT ((((u7.blkT (c8.below n6.below) n6.blk Do).below (Zb W7)).below h4.below).grown g7 d1 Do) a5 Do
    exact ze 2 (k4 _ _ _ ⟨i+1,_,_,rfl,rfl,en,oa,qk,s7,t2,fg,bt,hg,(by rw[Jh b8];exact ga),dh,(by rw[Gg b8];exact lg),by omega,a4,a3,a2,a1⟩ M0)
   have c5:=(u7.blkT (g8.below n6.below) n6.blk Do).below (Zb W7)
   refine xb 0 1 c5 ?_
   have c6:=Za (u7.own2 (Za p5 n6.below) n6.blk Do) (Zb W7)
   refine xx (.e [] 13) _ i (Xo (Z.map Prod.fst) i) 1 (Xh (Ze c6) (i:=(Xo (Z.map Prod.fst) i)) M0).1 ?_
   refine xm2 0 4 14 ?_ ?_
   ·refine xb 0 1 c5 ?_
    refine xl (.o [] 14) ((Xh (Ze c6) (i:=(Xo (Z.map Prod.fst) i)) M0).2) ?_
    refine xbs (.o [] 15) 1 [V0 (↑(twR (Z.map Prod.fst) (Xo (Z.map Prod.fst) i)):Int)] 3 fun oz rl h1=>?_
    have x7:=blB (u7.below (blB d5 hBw n6.below) (N0 hBw g6)) hBw (Zb W7)
    have qy:=h1.ge0 x7
    have y1:=Za (u7.own2 (Za hc n6.below) n6.blk Do) (Zb W7)
    have ne:=Zg y1 h1
    have n0:=Za (u7.own2 (Za i8 n6.below) n6.blk Do) (Zb W7)
    have kg:=Zg n0 h1
    have ny:=Zg b7 h1
    have o5:=Za (u7.own2 (Za i7 n6.below) n6.blk Do) (Zb W7)
    have jy:=Zg o5 h1
    have kq:=Zg c6 h1
    have c3:=a1
    have d4:=Za c6 h1.below
    have ab:=blB x7 hBw h1.below
    refine ybi (.o [] 16) (.t B [169,5,39,3,82,124]) fun _ _ _ _ zJ zQ zo zx zy zK=>Xi (b:=oz) (c:=1) (m:=1) (news:=[V0 (↑(twR (Z.map Prod.fst) (Xo (Z.map Prod.fst) i)):Int)]) (V0 0) 1 8 (i+1) ((((List.range (i+1)).map (twR (Z.map Prod.fst))).map nv)) zo Tryz.underlying27 K0 rfl Do zx d4 zy h1.blk rfl (by simp[Value.oneCell']) (by unfold maxLen;omega) M0 ab.size (by rfl) (Qp i3) fun lm og tg px g5 jc t6=>?_
    have ae:=Za b7 h1.below
    have de:=a4.row ae g5
    replace a4:=(a4.grow ae t6)
    have p0:=Za o5 h1.below
    have w2:=a3.row p0 g5
    replace a3:=(a3.grow p0 t6)
    have bd:=Za y1 h1.below
    have da:=a2.symm.row bd g5
    replace a2:=(a2.symm.grow bd t6).symm
    have q3:=Za n0 h1.below
    have u5:=a1.row q3 g5
    replace a1:=(a1.grow q3 t6)
    have ii:=de
    have db:=w2
    have hs:=da
    have cz:=u5
    refine zK _ _ (Zt (jc.mono hBw) g5 d4 Do) ?_
    have a6:=(c5.below h1.below).grown g5 d4 Do
    refine ys (.o [17,18] 19) a6 [P0 ba,.slice lm (i+1) og,.slice (S1 gc) k k] (.t B [169,5,39,3,82,124]) fun se m9 pp=>⟨(Xb m9 a6 hbx Do),?_⟩
    refine xwm 7 ((i:Int)+1) (↑(i+1):Int) ?_
    have nu:=(((((hA.below n6.below).only (Zd.of_upd (T:=[32]) u7 n6.blk Do) Do).below (Zb W7)).below h1.below).grownI c3 g5 d4).only (Zd.of_upd (T:=[82]) m9 a6 Do) Do
    have gw:=m9.own2 hs a6 Do
    have eq:=m9.own2 ii a6 Do
    have bk:=m9.own2 db a6 Do
    have hp:=m9.own2 px a6 Do
    have dq:=m9.own2 cz a6 Do
    have gg:=m9.below (ab.trans (jc.mono hBw)) hbx
    have mw:=(Zd.grown_new (((Zd.upd_new (e2.trans (Zd.of_below n6.below)) u7 g6).trans (Zd.of_below (Zb W7))).trans (Zd.of_below h1.below)) g5 d4).trans (Zd.of_upd m9 a6 Do)
    have r6:=m9.blkT ((((u7.blkT (c7.below n6.below) n6.blk Do).below (Zb W7)).below h1.below).grown g5 d4 Do) a6 Do
    have w1:=m9.blkT ((((u7.blkT (c8.below n6.below) n6.blk Do).below (Zb W7)).below h1.below).grown g5 d4 Do) a6 Do
    exact ze 2 (k4 _ _ _ ⟨i+1,_,_,rfl,rfl,gg,mw,pp,r6,w1,eq,bk,hp,(by rw[Jh b8];exact gw),dq,(by rw[Gg b8];exact nu),by omega,a4,a3,a2,a1⟩ M0)
   refine xl 0 ((Xh (Ze c6) (i:=(Xo (Z.map Prod.fst) i)) M0).2) ?_
   refine xm2 0 4 15 ?_ ?_
   ·refine xb 0 1 c5 ?_
    refine xbs (.o [] 15) 1 [V0 (↑(twR (Z.map Prod.fst) (Xo (Z.map Prod.fst) i)):Int)] 3 fun po ss h8=>?_
    have bb:=blB (u7.below (blB d5 hBw n6.below) (N0 hBw g6)) hBw (Zb W7)
    have rr:=h8.ge0 bb
    have aj:=Za (u7.own2 (Za hc n6.below) n6.blk Do) (Zb W7)
    have la:=Zg aj h8
    have m2:=Za (u7.own2 (Za i8 n6.below) n6.blk Do) (Zb W7)
    have kt:=Zg m2 h8
    have oh:=Zg b7 h8
    have o9:=Za (u7.own2 (Za i7 n6.below) n6.blk Do) (Zb W7)
    have kr:=Zg o9 h8
    have js:=Zg c6 h8
    have c3:=a1
    have d3:=Za c6 h8.below
    have x3:=blB bb hBw h8.below
    refine ybi (.o [] 16) (.t B [169,5,39,3,82,124]) fun _ _ _ _ zJ zQ zo zx zy zK=>Xi (b:=po) (c:=1) (m:=1) (news:=[V0 (↑(twR (Z.map Prod.fst) (Xo (Z.map Prod.fst) i)):Int)]) (V0 0) 1 8 (i+1) ((((List.range (i+1)).map (twR (Z.map Prod.fst))).map nv)) zo Tryz.underlying27 K0 rfl Do zx d3 zy h8.blk rfl (by simp[Value.oneCell']) (by unfold maxLen;omega) M0 x3.size (by rfl) (Qp i3) fun nr np sz qc g0 eu w5=>?_
    have au:=Za b7 h8.below
    have ee:=a4.row au g0
    replace a4:=(a4.grow au w5)
    have k8:=Za o9 h8.below
    have s3:=a3.row k8 g0
    replace a3:=(a3.grow k8 w5)
    have ao:=Za aj h8.below
    have df:=a2.symm.row ao g0
    replace a2:=(a2.symm.grow ao w5).symm
    have p7:=Za m2 h8.below
    have s1:=a1.row p7 g0
    replace a1:=(a1.grow p7 w5)
    have gl:=ee
    have cu:=s3
    have gi:=df
    have ct:=s1
    refine zK _ _ (Zt (eu.mono hBw) g0 d3 Do) ?_
    have a7:=(c5.below h8.below).grown g0 d3 Do
    refine ys (.o [17,18] 19) a7 [P0 ba,.slice nr (i+1) np,.slice (S1 gc) k k] (.t B [169,5,39,3,82,124]) fun sy q0 pu=>⟨(Xb q0 a7 hbx Do),?_⟩
    refine xwm 7 ((i:Int)+1) (↑(i+1):Int) ?_
    have el:=(((((hA.below n6.below).only (Zd.of_upd (T:=[32]) u7 n6.blk Do) Do).below (Zb W7)).below h8.below).grownI c3 g0 d3).only (Zd.of_upd (T:=[82]) q0 a7 Do) Do
    have io:=q0.own2 gi a7 Do
    have fi:=q0.own2 gl a7 Do
    have bl:=q0.own2 cu a7 Do
    have et:=q0.own2 qc a7 Do
    have ch:=q0.own2 ct a7 Do
    have gp:=q0.below (x3.trans (eu.mono hBw)) hbx
    have lv:=(Zd.grown_new (((Zd.upd_new (e2.trans (Zd.of_below n6.below)) u7 g6).trans (Zd.of_below (Zb W7))).trans (Zd.of_below h8.below)) g0 d3).trans (Zd.of_upd q0 a7 Do)
    have t4:=q0.blkT ((((u7.blkT (c7.below n6.below) n6.blk Do).below (Zb W7)).below h8.below).grown g0 d3 Do) a7 Do
    have s4:=q0.blkT ((((u7.blkT (c8.below n6.below) n6.blk Do).below (Zb W7)).below h8.below).grown g0 d3 Do) a7 Do
    exact ze 2 (k4 _ _ _ ⟨i+1,_,_,rfl,rfl,gp,lv,pu,t4,s4,fi,bl,et,(by rw[Jh b8];exact io),ch,(by rw[Gg b8];exact el),by omega,a4,a3,a2,a1⟩ M0)
   refine xbs 0 1 [V0 (↑(twR (Z.map Prod.fst) (Xo (Z.map Prod.fst) i)):Int)] 3 fun ql rz h9=>?_
   have ad:=blB (u7.below (blB d5 hBw n6.below) (N0 hBw g6)) hBw (Zb W7)
   have sk:=h9.ge0 ad
   have x6:=Za (u7.own2 (Za hc n6.below) n6.blk Do) (Zb W7)
   have lk:=Zg x6 h9
   have o2:=Za (u7.own2 (Za i8 n6.below) n6.blk Do) (Zb W7)
   have ka:=Zg o2 h9
   have mp:=Zg b7 h9
   have o1:=Za (u7.own2 (Za i7 n6.below) n6.blk Do) (Zb W7)
   have ju:=Zg o1 h9
   have jr:=Zg c6 h9
   have i4:=c5.below h9.below
   refine xb (.o [] 4) 1 i4 ?_
   have c3:=a1
   have d0:=Za c6 h9.below
   have y8:=blB ad hBw h9.below
   refine ybi (.o [] 16) (.t B [169,5,39,3,82,124]) fun _ _ _ _ zJ zQ zo zx zy zK=>Xi (b:=ql) (c:=1) (m:=1) (news:=[V0 (↑(twR (Z.map Prod.fst) (Xo (Z.map Prod.fst) i)):Int)]) (V0 0) 1 8 (i+1) ((((List.range (i+1)).map (twR (Z.map Prod.fst))).map nv)) zo Tryz.underlying27 K0 rfl Do zx d0 zy h9.blk rfl (by simp[Value.oneCell']) (by unfold maxLen;omega) M0 y8.size (by rfl) (Qp i3) fun ml mx te pn f6 ff v5=>?_
   have ag:=Za b7 h9.below
   have cj:=a4.row ag f6
   replace a4:=(a4.grow ag v5)
   have l1:=Za o1 h9.below
   have t5:=a3.row l1 f6
   replace a3:=(a3.grow l1 v5)
   have y3:=Za x6 h9.below
   have br:=a2.symm.row y3 f6
   replace a2:=(a2.symm.grow y3 v5).symm
   have l4:=Za o2 h9.below
   have v8:=a1.row l4 f6
   replace a1:=(a1.grow l4 v5)
   have jf:=cj
   have dj:=t5
   have fr:=br
   have du:=v8
   refine zK _ _ (Zt (ff.mono hBw) f6 d0 Do) ?_
   have a8:=i4.grown f6 d0 Do
   refine ys (.o [17,18] 19) a8 [P0 ba,.slice ml (i+1) mx,.slice (S1 gc) k k] (.t B [169,5,39,3,82,124]) fun rn m0 ov=>⟨(Xb m0 a8 hbx Do),?_⟩
   refine xwm 7 ((i:Int)+1) (↑(i+1):Int) ?_
   have ev:=(((((hA.below n6.below).only (Zd.of_upd (T:=[32]) u7 n6.blk Do) Do).below (Zb W7)).below h9.below).grownI c3 f6 d0).only (Zd.of_upd (T:=[82]) m0 a8 Do) Do
   have jd:=m0.own2 fr a8 Do
   have je:=m0.own2 jf a8 Do
   have cp:=m0.own2 dj a8 Do
   have fh:=m0.own2 pn a8 Do
   have eg:=m0.own2 du a8 Do
   have es:=m0.below (y8.trans (ff.mono hBw)) hbx
   have fq:=(Zd.grown_new (((Zd.upd_new (e2.trans (Zd.of_below n6.below)) u7 g6).trans (Zd.of_below (Zb W7))).trans (Zd.of_below h9.below)) f6 d0).trans (Zd.of_upd m0 a8 Do)
   have l3:=m0.blkT ((((u7.blkT (c7.below n6.below) n6.blk Do).below (Zb W7)).below h9.below).grown f6 d0 Do) a8 Do
   have k6:=m0.blkT ((((u7.blkT (c8.below n6.below) n6.blk Do).below (Zb W7)).below h9.below).grown f6 d0 Do) a8 Do
   exact ze 2 (k4 _ _ _ ⟨i+1,_,_,rfl,rfl,es,fq,ov,l3,k6,je,cp,fh,(by rw[Jh b8];exact jd),eg,(by rw[Gg b8];exact ev),by omega,a4,a3,a2,a1⟩ M0)
  have b8:Xo (Z.map Prod.fst) i=i:=by omega
  have mb:twT (Z.map Prod.fst) i++[(2,Jy (Z.getD i zvD).1.2)]=twT (Z.map Prod.fst) (i+1):=by rw[Zci b8,ko]
  have oi:Xm (twT (Z.map Prod.fst) i++[(2,Jy (Z.getD i zvD).1.2)])=twN (Z.map Prod.fst) (i+1):=by rw[mb];rfl
  refine xb 11 4 k7 ?_
  have bj:=u7.own2 (Za i7 n6.below) n6.blk Do
  have cb:=u7.own2 (Za p5 n6.below) n6.blk Do
  have ig:=u7.own2 (Za hc n6.below) n6.blk Do
  have dm:=u7.own2 (Za i8 n6.below) n6.blk Do
  have ew:=(hA.below n6.below).only (Zd.of_upd (T:=[32]) u7 n6.blk Do) Do
  have hv:=u7.below (blB d5 hBw n6.below) (N0 hBw g6)
  have ja:=(Zd.upd_new (e2.trans (Zd.of_below n6.below)) u7 g6)
  have l8:=u7.blkT (g8.below n6.below) n6.blk Do
  have l7:=u7.blkT (c7.below n6.below) n6.blk Do
  have o7:=u7.blkT (c8.below n6.below) n6.blk Do
  refine zl 5 95 (fun zm ls V=>∃ (j:Nat) (p1:O0) (c1:Nat),ls=[(0,P0 bx),(2,P0 be),(6,.slice qo n eo),(7,.slice qn n dn),(8,V0 (i:Int)),(10,.slice p1 j c1),(19,.slice p n c),(20,V0 (n:Int)),(21,V0 (i:Int)),(52,.slice ((Z.getD i zvD).2.1) ((Z.getD i zvD).1.2.length) ((Z.getD i zvD).2.2)),(53,V0 (↑((Z.getD i zvD).1.2.length):Int)),(54,V0 (j:Int))]∧zm=(Z.getD i zvD).1.2.length-((j:Int)).toNat∧Below B w V∧Zd [169,5,39,3,82,124] w V∧Blk V bx ([P0 ba,.slice rp i rc,.slice (S1 gc) k k]) 82∧Blk V be ([.nilIface]) 39∧Blk V b1 ([V0 t,V0 u,V0 v,V0 (x:Int),.slice p n c]) 24∧Blk V b6 ([V0 ((Z.getD i zvD).1.1.1),V0 ((Z.getD i zvD).1.1.2.1),V0 ((Z.getD i zvD).1.1.2.2.1),V0 ((Z.getD i zvD).1.1.2.2.2),.slice ((Z.getD i zvD).2.1) ((Z.getD i zvD).1.2.length) ((Z.getD i zvD).2.2)]) 32∧V.ownsRow w.heap.size 3 1 (.slice qo n eo) n ((owL (Z.map Prod.fst)).map nv)∧V.ownsRow w.heap.size 3 1 (.slice qn n dn) n ((shN (Z.map Prod.fst)).map nv)∧V.ownsRow w.heap.size 3 1 (.slice rp i rc) i (((List.range i).map (twR (Z.map Prod.fst))).map nv)∧V.ownsRow B 3 1 (.slice (S1 gc) k k) k ((Ip (Z.map Prod.fst) k i).map V0)∧V.ownsRow B 3 1 (.slice pa N ca) N ((Qn 1 N).map V0)∧AlF B ba b g nn cc pa ca N bs (twT (Z.map Prod.fst) i) V∧V.ownsRow w.heap.size 124 3 (.slice p1 j c1) j (((Jy (Z.getD i zvD).1.2).take j).flatMap Yo)∧j≤(Z.getD i zvD).1.2.length) ⟨0,none,0,rfl,rfl,hv,ja,l8,l7,o7,k7,v0,bj,cb,ig,dm,ew,A4 _ _ _ _,A3 _⟩ ?_
  rintro _ _ sp ⟨j,p1,c1,rfl,rfl,i6,j8,j2,o4,j0,j1,ho,i7,p5,hc,i8,hA,hl,hj⟩ si nf td
  refine xid 6 ((j:Int)<(↑((Z.getD i zvD).1.2.length):Int)) (fun mt=>?_) (fun mt=>?_)
  ·have rv:=ey.each ((Z.getD i zvD).1.2.getD j mpD) (Md _ M0)
   refine xx 6 _ ((Z.getD i zvD).1.2.length) j 3 (Sts.cell ((hP _ (Below.refl _ _)).each i M0) Xj mpD (k:=j) (i:=0) M0 rfl).1 ?_
   refine xlv 0 (Sts.rp (k:=j) (qq _ i6 j8) Xj mpD M0 Do) ?_
   refine xa 0 [V0 0,V0 0,V0 0] 63 fun rm ry e3=>?_
   have op:=e3.ge0 i6
   refine xsv 0 e3.blk [V0 (((Z.getD i zvD).1.2.getD j mpD).1),V0 (((Z.getD i zvD).1.2.getD j mpD).2.1),V0 (((Z.getD i zvD).1.2.getD j mpD).2.2)] fun j3 k1 qg=>?_
   refine xd 2 (.t B [169,5,39,3,82,124]) ?_
   have m4:=qg.below (Zb j3)
   refine xbt (.e [0,1] 2) 0 B [169,5,39,3,82,124] m4 ?_
   refine xbt (.e [3] 4) 1 B [169,5,39,3,82,124] m4 ?_
   refine xbt (.e [5] 6) 2 B [169,5,39,3,82,124] m4 ?_
   refine xr (.o [] 7) (args:=#[V0 (((Z.getD i zvD).1.2.getD j mpD).2.1),V0 (((Z.getD i zvD).1.2.getD j mpD).2.2)]) (Zf7 ((Z.getD i zvD).1.2.getD j mpD) _ ⟨by omega,by omega⟩ ⟨by omega,by omega⟩) fun qw e1=>?_
   refine xbs (.o [8] 9) 1 [V0 (((Z.getD i zvD).1.2.getD j mpD).1),.string ⟨(Ze5 ((Z.getD i zvD).1.2.getD j mpD)).toArray⟩,V0 0] 124 fun ra rf i9=>?_
   have z7:=blB (blB (k1.below (blB i6 hBw e3.below) (N0 hBw op)) hBw (Zb j3)) hBw e1
   have sa:=i9.ge0 z7
   have iu:=Za (Za (k1.own2 (Za hl e3.below) e3.blk Do) (Zb j3)) e1
   have ly:=Zg iu i9
   have e0:=Za iu i9.below
   have y2:=blB z7 hBw i9.below
   refine ybi (.o [] 10) (.t B [169,5,39,3,82,124]) fun _ _ _ _ zJ zQ zo zx zy zK=>Zr (m:=1) (news:=[V0 (((Z.getD i zvD).1.2.getD j mpD).1),.string ⟨(Ze5 ((Z.getD i zvD).1.2.getD j mpD)).toArray⟩,V0 0]) (.agg #[V0 0,.string ⟨#[]⟩,V0 0]) 3 32 (j+1) ((((Jy (Z.getD i zvD).1.2).take (j+1)).flatMap Yo)) zo Tryz.underlying99 K0 rfl Do zx e0 zy (i9.blk.sl 1 1 Do Do) rfl (by simp[Value.oneCell']) (by unfold maxLen;omega) M0 y2.size (by rfl) (by exact Ug (by rw[Qu];omega) (Ht M0)) fun pl qp sw oy e4 fc=>?_
   refine zK _ _ (Zt (fc.mono hBw) e4 e0 Do) ?_
   refine xwm (.r [11] 4) ((j:Int)+1) (↑(j+1):Int) ?_
   have jo:=Zp (Za (Za (Za (k1.own2 (Za ho e3.below) e3.blk Do) (Zb j3)) e1) i9.below) e4 e0 Do
   have bm:=Zp (Za (Za (Za (k1.own2 (Za i7 e3.below) e3.blk Do) (Zb j3)) e1) i9.below) e4 e0 Do
   have ds:=Zp (Za (Za (Za (k1.own2 (Za p5 e3.below) e3.blk Do) (Zb j3)) e1) i9.below) e4 e0 Do
   have fv:=Zp (Za (Za (Za (k1.own2 (Za hc e3.below) e3.blk Do) (Zb j3)) e1) i9.below) e4 e0 Do
   have bz:=Zp (Za (Za (Za (k1.own2 (Za i8 e3.below) e3.blk Do) (Zb j3)) e1) i9.below) e4 e0 Do
   have fe:=(((((hA.below e3.below).only (Zd.of_upd (T:=[63]) k1 e3.blk Do) Do).below (Zb j3)).below e1).below i9.below).only (Zd.of_grown (T:=[124]) e4 e0 Do) Do
   have jq:=y2.trans (fc.mono hBw)
   have hd:=(Zd.grown_new ((((Zd.upd_new (j8.trans (Zd.of_below e3.below)) k1 op).trans (Zd.of_below (Zb j3))).trans (Zd.of_below e1)).trans (Zd.of_below i9.below)) e4 e0)
   have r0:=((((k1.blkT (j2.below e3.below) e3.blk Do).below (Zb j3)).below e1).below i9.below).grown e4 e0 Do
   have m5:=((((k1.blkT (o4.below e3.below) e3.blk Do).below (Zb j3)).below e1).below i9.below).grown e4 e0 Do
   have q6:=((((k1.blkT (j0.below e3.below) e3.blk Do).below (Zb j3)).below e1).below i9.below).grown e4 e0 Do
   have m7:=((((k1.blkT (j1.below e3.below) e3.blk Do).below (Zb j3)).below e1).below i9.below).grown e4 e0 Do
   exact ze 2 (nf _ _ _ ⟨j+1,_,_,rfl,rfl,jq,hd,r0,m5,q6,m7,jo,bm,ds,fv,bz,fe,oy,by omega⟩ M0)
  rw[A1 (by rw[Qu];omega)] at hl
  refine xc 10 (args:=#[P0 bx,V0 2,.slice p1 j c1,P0 be]) (by have q:=Zbq B ba b g nn cc pa ca N bs (twT (Z.map Prod.fst) i) 2 p1 c1 j (Jy (Z.getD i zvD).1.2) bx be _ _ _ (by rw[Qu];omega) hC hA j2 o4 hbe qi (by rw[oi];omega) (fun W _ h2=>Ze (Zi hl h2 Do)) (N0 hBw i6.size);rw[oi] at q;exact q) ?_
  rintro _ sg ⟨rfl,nw,e5,hA,x2⟩
  have i1:=j2.only e5 Do
  refine xb 9 1 i1 ?_
  refine xbs 1 1 [V0 (↑(twN (Z.map Prod.fst) (i+1)):Int)] 3 fun pq rx e6=>?_
  have z6:=i6.trans nw
  have tc:=e6.ge0 z6
  have bg:=Zi hc e5 Do
  have mn:=Zg bg e6
  have p4:=Zi i8 e5 Do
  have kv:=Zg p4 e6
  have ai:=Zi ho e5 Do
  have nh:=Zg ai e6
  have n8:=Zi i7 e5 Do
  have kw:=Zg n8 e6
  have o6:=Zi p5 e5 Do
  have ku:=Zg o6 e6
  have c3:=a1
  have c0:=Za o6 e6.below
  have m6:=blB z6 hBw e6.below
  refine xbi 0 fun _ _ _ _ zJ zQ zo zx zy zK=>Xi (b:=pq) (c:=1) (m:=1) (news:=[V0 (↑(twN (Z.map Prod.fst) (i+1)):Int)]) (V0 0) 1 8 (i+1) ((((List.range (i+1)).map (twR (Z.map Prod.fst))).map nv)) zo Tryz.underlying27 K0 rfl Do zx c0 zy e6.blk rfl (by simp[Value.oneCell']) (by unfold maxLen;omega) M0 m6.size (by rfl) (Ow b8) fun mh md sj om c9 gf v6=>?_
  have ac:=Za ai e6.below
  have cs:=a4.row ac c9
  replace a4:=(a4.grow ac v6)
  have k9:=Za n8 e6.below
  have u8:=a3.row k9 c9
  replace a3:=(a3.grow k9 v6)
  have bh:=Za bg e6.below
  have ed:=a2.symm.row bh c9
  replace a2:=(a2.symm.grow bh v6).symm
  have q1:=Za p4 e6.below
  have w3:=a1.row q1 c9
  replace a1:=(a1.grow q1 v6)
  have y6:=cs
  have bp:=u8
  have z5:=ed
  have p8:=w3
  refine zK _ _ ?_
  have a0:=(i1.below e6.below).grown c9 c0 Do
  refine xs 2 a0 [P0 ba,.slice mh (i+1) md,.slice (S1 gc) k k] fun f2 f7 oj=>?_
  refine xd 2 (.t B [169,5,39,3,82,124]) ?_
  have f1:=Za (f7.own2 bp a0 Do) (Zb f2)
  refine xx (.e [0,1,2,4,5,6] 7) _ n i 1 (Yb (Ze f1) nd (k:=i) M0).1 ?_
  refine xm2 0 3 8 ?_ ?_
  ·have q2:=oj.below (Zb f2)
   refine xb 0 2 q2 ?_
   refine xl (.o [] 8) ((Yb (Ze f1) nd (k:=i) M0).2) ?_
   refine xx (.e [] 9) _ k (twN (Z.map Prod.fst) (i+1)) 1 (show(some (⟨gc,0,none⟩:Addr)).isSome=true from rfl) ?_
   have d7:=Za (f7.own2 z5 a0 Do) (Zb f2)
   refine yst (.o [] 10) (.t B [169,5,39,3,82,124]) fun _ _ _ _ zJ zQ zo zx zy zK=>Xk (t:=3) (k:=(twN (Z.map Prod.fst) (i+1))) (v:=V0 (↑((shN (Z.map Prod.fst)).getD i 0):Int)) zo zx zy K0 rfl d7 M0 fun rk k2 ou=>?_
   rw[Ae i3 b8 M0] at ou
   have j4:=(f7.blkT ((x2.below e6.below).grown c9 c0 Do) a0 Do).below (Zb f2)
   have i5:=(f7.blkT (((j0.only e5 Do).below e6.below).grown c9 c0 Do) a0 Do).below (Zb f2)
   have ep:=(f7.blkT (((j1.only e5 Do).below e6.below).grown c9 c0 Do) a0 Do).below (Zb f2)
   refine zK _ _ (Hd (T:=[3]) (k2.below (Below.refl _ _) (Qa d7)) (Zd.of_updRow k2 d7 Do)) ?_
   refine xwm 4 ((i:Int)+1) (↑(i+1):Int) ?_
   have ix:=((((hA.below e6.below).grownI c3 c9 c0).only (Zd.of_upd (T:=[82]) f7 a0 Do) Do).below (Zb f2)).updI hpa k2 d7
   have hq:=k2.own3 (Za (f7.own2 y6 a0 Do) (Zb f2)) (fun j hj e=>ok _ rfl (e▸hj))
   have dr:=k2.own3 f1 (fun j hj e=>oo _ rfl (e▸hj))
   have gu:=k2.own3 (Za (f7.own2 om a0 Do) (Zb f2)) (fun j hj e=>a2 _ rfl (e▸hj))
   have dt:=k2.own3 (Za (f7.own2 p8 a0 Do) (Zb f2)) (fun j hj e=>jm _ rfl (e▸hj))
   have fb:=k2.below (blB (f7.below (m6.trans (gf.mono hBw)) hbx) hBw (Zb f2)) (Qa d7)
   have ic:=(((Zd.grown_new ((j8.trans (e5.wide Do)).trans (Zd.of_below e6.below)) c9 c0).trans (Zd.of_upd f7 a0 Do)).trans (Zd.of_below (Zb f2))).trans (Zd.of_updRow k2 d7 Do)
   have iz:=k2.blk q2 (Xd q2 d7 Do)
   have r5:=k2.blk j4 (Xd j4 d7 Do)
   have q7:=k2.blk i5 (Xd i5 d7 Do)
   exact ze 2 (k4 _ _ _ ⟨i+1,_,_,rfl,rfl,fb,ic,iz,r5,q7,hq,dr,gu,ou,dt,(by rw[←mb];exact ix),by omega,a4,a3,a2,a1⟩ M0)
  refine xl 0 ((Yb (Ze f1) nd (k:=i) M0).2) ?_
  have m8:=oj.below (Zb f2)
  refine xb (.o [] 3) 2 m8 ?_
  refine xx (.e [] 9) _ k (twN (Z.map Prod.fst) (i+1)) 1 (show(some (⟨gc,0,none⟩:Addr)).isSome=true from rfl) ?_
  have d6:=Za (f7.own2 z5 a0 Do) (Zb f2)
  refine yst (.o [] 10) (.t B [169,5,39,3,82,124]) fun _ _ _ _ zJ zQ zo zx zy zK=>Xk (t:=3) (k:=(twN (Z.map Prod.fst) (i+1))) (v:=V0 (↑((shN (Z.map Prod.fst)).getD i 0):Int)) zo zx zy K0 rfl d6 M0 fun su k3 ol=>?_
  rw[Ae i3 b8 M0] at ol
  have j7:=(f7.blkT ((x2.below e6.below).grown c9 c0 Do) a0 Do).below (Zb f2)
  have i2:=(f7.blkT (((j0.only e5 Do).below e6.below).grown c9 c0 Do) a0 Do).below (Zb f2)
  have il:=(f7.blkT (((j1.only e5 Do).below e6.below).grown c9 c0 Do) a0 Do).below (Zb f2)
  refine zK _ _ (Hd (T:=[3]) (k3.below (Below.refl _ _) (Qa d6)) (Zd.of_updRow k3 d6 Do)) ?_
  refine xwm 4 ((i:Int)+1) (↑(i+1):Int) ?_
  have ih:=((((hA.below e6.below).grownI c3 c9 c0).only (Zd.of_upd (T:=[82]) f7 a0 Do) Do).below (Zb f2)).updI hpa k3 d6
  have fa:=k3.own3 (Za (f7.own2 y6 a0 Do) (Zb f2)) (fun j hj e=>ok _ rfl (e▸hj))
  have dy:=k3.own3 f1 (fun j hj e=>oo _ rfl (e▸hj))
  have ek:=k3.own3 (Za (f7.own2 om a0 Do) (Zb f2)) (fun j hj e=>a2 _ rfl (e▸hj))
  have bw:=k3.own3 (Za (f7.own2 p8 a0 Do) (Zb f2)) (fun j hj e=>jm _ rfl (e▸hj))
  have fx:=k3.below (blB (f7.below (m6.trans (gf.mono hBw)) hbx) hBw (Zb f2)) (Qa d6)
  have em:=(((Zd.grown_new ((j8.trans (e5.wide Do)).trans (Zd.of_below e6.below)) c9 c0).trans (Zd.of_upd f7 a0 Do)).trans (Zd.of_below (Zb f2))).trans (Zd.of_updRow k3 d6 Do)
  have iq:=k3.blk m8 (Xd m8 d6 Do)
  have w4:=k3.blk j7 (Xd j7 d6 Do)
  have m1:=k3.blk i2 (Xd i2 d6 Do)
  exact ze 2 (k4 _ _ _ ⟨i+1,_,_,rfl,rfl,fx,em,iq,w4,m1,fa,dy,ek,ol,bw,(by rw[←mb];exact ih),by omega,a4,a3,a2,a1⟩ M0)
 have pw:i=n:=by omega
 exact xe 4 (.tuple #[]) (by subst pw;exact⟨rfl,_,_,d5,e2,hA,g8,c7,Zf p5 hBw,hc⟩)
theorem tw_heads(B ba b g nn cc:Nat)(pa:O0)(ca N:Nat)(bs:Bl)(bx be:Nat)(rp:O0)(rc:Nat)(x3:Value)(p:O0)(c n x:Nat)(t u v:Int)(Z:List Zv)(w:World)(hZ:Z.length=n)(hP:∀ W,Below B w W→DevsR W p c Z)(hk:PoolOk t u v (x:Int) (Z.map Prod.fst))(hC:AlC B ba nn cc ca 1 N)(hA:AlF B ba b g nn cc pa ca N bs (twT (Z.map Prod.fst) n) w)(kx:Blk w bx [P0 ba,.slice rp n rc,x3] 82)(ke:Blk w be [.nilIface] 39)(hbx:B≤bx)(hbe:B≤be)(hro:w.ownsRow B 3 1 (.slice rp n rc) n (((List.range n).map (twR (Z.map Prod.fst))).map nv))(hr:Xm (G2 (Z.map Prod.fst))≤N)(hBw:B≤w.heap.size) :
 C0 44 #[P0 bx,.agg #[V0 t,V0 u,V0 v,V0 (x:Int),.slice p n c],P0 be] w ((fun e w'=>e=.returned (.tuple #[V0 (↑(Xm (G1 (Z.map Prod.fst))):Int),V0 (↑(Xm (G2 (Z.map Prod.fst))):Int)])∧Below B w w'∧Zd [169,5,39,124] w w'∧AlF B ba b g nn cc pa ca N bs (G2 (Z.map Prod.fst)) w'∧Blk w' be [.nilIface] 39)):=by
 have h9:∀ W,Below B w W→Zd [169,5,39,124] w W→DevsR W p c Z:=fun W h _=>hP W h
 have hx:x≤65536:=by have:=hk.hdata;omega
 have h5:(Z.map Prod.fst).length=n:=by rw[At];exact hZ
 have i4:=hk.devs.few
 have j9:N≤14400:=by have a:=hC.hf;have b:=hC.hn;omega
 have j6:=Zd5 (Z.map Prod.fst)
 have h3:twT (Z.map Prod.fst) n++[(1,(Gc (Z.map Prod.fst) (twR (Z.map Prod.fst))))]=G1 (Z.map Prod.fst):=by rw[←h5];rfl
 have h1:G1 (Z.map Prod.fst)++[(3,(Hy (Z.map Prod.fst) (Kc (Z.map Prod.fst))))]=G2 (Z.map Prod.fst):=rfl
 have j2:=Sl.len ((hP w (Below.refl _ _)).rowN hZ)
 refine zin 62 Tryz.func44 ?_
 refine xa 2 [V0 t,V0 u,V0 v,V0 (x:Int),.slice p n c] 24 fun b1 W1 n1=>?_
 refine xb 14 4 n1.blk ?_
 have d8:=Za hro n1.below
 have f7:=hA.below n1.below
 have hB:=blB (Below.refl B w) hBw n1.below
 have hO:=(show Zd [169,5,39,124] w _ from(Zd.of_below n1.below))
 have g0:=kx.below n1.below
 have g5:=ke.below n1.below
 refine zl 5 62 (fun zm h8 V=>∃ (i:Nat) (p7:O0) (c7:Nat) (p8:O0) (c8:Nat),h8=[(0,P0 bx),(2,P0 be),(6,V0 0),(7,V0 0),(8,.slice p7 i c7),(9,.slice p8 i c8),(14,.slice p n c),(15,V0 (n:Int)),(16,V0 (i:Int))]∧zm=n-((i:Int)).toNat∧Below B w V∧Zd [169,5,39,124] w V∧Blk V bx ([P0 ba,.slice rp n rc,x3]) 82∧Blk V be ([.nilIface]) 39∧Blk V b1 ([V0 t,V0 u,V0 v,V0 (x:Int),.slice p n c]) 24∧V.ownsRow w.heap.size 124 3 (.slice p7 i c7) i (((Gc (Z.map Prod.fst) (twR (Z.map Prod.fst))).take i).flatMap Yo)∧V.ownsRow w.heap.size 124 3 (.slice p8 i c8) i (((Hy (Z.map Prod.fst) (Kc (Z.map Prod.fst))).take i).flatMap Yo)∧V.ownsRow B 3 1 (.slice rp n rc) n (((List.range n).map (twR (Z.map Prod.fst))).map nv)∧AlF B ba b g nn cc pa ca N bs (twT (Z.map Prod.fst) n) V∧i≤n∧Yf (.slice p7 i c7) (.slice p8 i c8)) ⟨0,none,0,none,0,rfl,rfl,hB,hO,g0,g5,n1.blk,A4 _ _ _ _,A4 _ _ _ _,d8,f7,A3 _,Yf.nil _⟩ ?_
 rintro _ _ W2 ⟨i,p7,c7,p8,c8,rfl,rfl,a7,d3,a8,c4,e1,d4,c5,hro,hA,hi,d0⟩ J2 h6 r2
 refine xid 6 ((i:Int)<(n:Int)) (fun i3=>?_) (fun i3=>?_)
 ·have f4:=Rn (Z:=Z) (i:=i) M0 dvD
  have i6:=He (L:=(Z.map Prod.fst)) (i:=i) M0
  rw[f4] at i6
  have i1:=hk.devs.sum
  have e5:=hk.devs.each ((Z.map Prod.fst).getD i dvD) (Md _ M0)
  rw[f4] at e5
  have j5:=Ec (L:=(Z.map Prod.fst)) (i:=i) M0
  have j8:=Vn (Z.map Prod.fst) (show i+1≤(Z.map Prod.fst).length by omega)
  refine xx 7 _ n i 5 ((hP _ (Below.refl _ _)).someN hZ (i:=i) M0) ?_
  refine xlv 0 (Sts.rp (k:=i) (h9 _ a7 d3).row Xs zvD M0 Do) ?_
  refine xa 0 [V0 0,V0 0,V0 0,V0 0,S0] 32 fun b4 W4 n4=>?_
  have g4:=n4.ge0 a7
  refine xsv 1 n4.blk [V0 ((Z.getD i zvD).1.1.1),V0 ((Z.getD i zvD).1.1.2.1),V0 ((Z.getD i zvD).1.1.2.2.1),V0 ((Z.getD i zvD).1.1.2.2.2),.slice ((Z.getD i zvD).2.1) ((Z.getD i zvD).1.2.length) ((Z.getD i zvD).2.2)] fun W5 u5 k5=>?_
  refine xd 3 (.t B [169,5,39,124]) ?_
  have e3:=k5.below (Zb W5)
  refine xbt (.e [0,1] 2) 0 B [169,5,39,124] e3 ?_
  have a3:=(u5.blkT (a8.below n4.below) n4.blk Do).below (Zb W5)
  refine xbt (.e [3,4,5] 6) 1 B [169,5,39,124] a3 ?_
  have a6:=Za (u5.own2 (Za hro n4.below) n4.blk Do) (Zb W5)
  refine xx (.e [7] 8) _ n i 1 (Xh (Ze a6) (i:=i) M0).1 ?_
  refine xlt (.e [] 9) (.t B [169,5,39,124]) (fun V hV=>(Xh (Ze (Zi a6 hV.2 Do)) (i:=i) M0).2) ?_
  refine xr (.o [] 10) (args:=#[V0 (↑(twR (Z.map Prod.fst) i):Int)]) (Rt (↑(twR (Z.map Prod.fst) i):Int) M0 M0 _) fun W6 b5=>?_
  refine xbs (.o [11] 12) 1 [V0 ((Z.getD i zvD).1.1.1),.string ⟨(leB (↑(twR (Z.map Prod.fst) i):Int) 4).toArray⟩,V0 0] 124 fun b7 W7 n7=>?_
  have e6:=blB (blB (u5.below (blB a7 hBw n4.below) (N0 hBw g4)) hBw (Zb W5)) hBw b5
  have g7:=n7.ge0 e6
  have b2:=Za (Za (u5.own2 (Za d4 n4.below) n4.blk Do) (Zb W5)) b5
  have f3:=Zg b2 n7
  have b3:=Za (Za (u5.own2 (Za c5 n4.below) n4.blk Do) (Zb W5)) b5
  have f2:=Zg b3 n7
  have a0:=Za b2 n7.below
  have e2:=blB e6 hBw n7.below
  refine ybi (.o [] 13) (.t B [169,5,39,124]) fun _ _ _ _ zJ zQ zo zx zy zK=>Xi (b:=b7) (c:=1) (m:=1) (news:=[V0 ((Z.getD i zvD).1.1.1),.string ⟨(leB (↑(twR (Z.map Prod.fst) i):Int) 4).toArray⟩,V0 0]) (.agg #[V0 0,.string ⟨#[]⟩,V0 0]) 3 32 (i+1) ((((Gc (Z.map Prod.fst) (twR (Z.map Prod.fst))).take (i+1)).flatMap Yo)) zo Tryz.underlying99 K0 rfl Do zx a0 zy n7.blk rfl (by simp[Value.oneCell']) (by unfold maxLen;omega) M0 e2.size (by rfl) (by have e:=Jo (L:=(Z.map Prod.fst)) (R:=twR (Z.map Prod.fst)) (i:=i) M0;rw[f4] at e;exact Ug (by rw[Ys];omega) e) fun j3 j1 W8 o8 c0 h0 h7=>?_
  have a5:=Za b3 n7.below
  have b9:=d0.row a5 c0
  replace d0:=(d0.grow a5 h7)
  have d2:=b9
  refine zK _ _ (Zt (h0.mono hBw) c0 a0 Do) ?_
  refine xd (.r [14] 2) (.t B [169,5,39,124]) ?_
  have a9:=(((e3.below b5).below n7.below).grown c0 a0 Do).below (Zb W8)
  refine xbt (.e [0,1] 2) 0 B [169,5,39,124] a9 ?_
  refine xbt (.e [3] 4) 4 B [169,5,39,124] a9 ?_
  refine xbt (.e [5,6] 7) 1 B [169,5,39,124] a9 ?_
  refine xbt (.e [8] 9) 2 B [169,5,39,124] a9 ?_
  refine xbt (.e [10] 11) 3 B [169,5,39,124] a9 ?_
  refine xr (.o [12] 13) (args:=#[.agg #[V0 (↑((Z.getD i zvD).1.2.length):Int),V0 ((Z.getD i zvD).1.1.2.1),V0 ((Z.getD i zvD).1.1.2.2.1),V0 ((Z.getD i zvD).1.1.2.2.2)]]) (Th (x:Int) (↑(Z.getD i zvD).1.2.length:Int) (Z.getD i zvD).1 _ e5 ⟨by omega,by omega⟩) fun W9 c2=>?_
  refine xbs (.o [14] 15) 1 [V0 ((Z.getD i zvD).1.1.1),.string ⟨(Kt (↑(Z.getD i zvD).1.2.length:Int) (Z.getD i zvD).1).toArray⟩,V0 0] 124 fun i2 i7 a4=>?_
  have f1:=blB (blB (e2.trans (h0.mono hBw)) hBw (Zb W8)) hBw c2
  have i9:=a4.ge0 f1
  have b0:=Za (Za d2 (Zb W8)) c2
  have e9:=Zg b0 a4
  have e7:=Za (Za o8 (Zb W8)) c2
  have g9:=Zg e7 a4
  have a1:=Za b0 a4.below
  have d9:=blB f1 hBw a4.below
  refine ybi (.o [] 16) (.t B [169,5,39,124]) fun _ _ _ _ zJ zQ zo zx zy zK=>Xi (b:=i2) (c:=1) (m:=1) (news:=[V0 ((Z.getD i zvD).1.1.1),.string ⟨(Kt (↑(Z.getD i zvD).1.2.length:Int) (Z.getD i zvD).1).toArray⟩,V0 0]) (.agg #[V0 0,.string ⟨#[]⟩,V0 0]) 3 32 (i+1) ((((Hy (Z.map Prod.fst) (Kc (Z.map Prod.fst))).take (i+1)).flatMap Yo)) zo Tryz.underlying99 K0 rfl Do zx a1 zy a4.blk rfl (by simp[Value.oneCell']) (by unfold maxLen;omega) M0 d9.size (by rfl) (by have e:=Jm (L:=(Z.map Prod.fst)) (C:=Kc (Z.map Prod.fst)) (i:=i) M0;unfold Kc at e;rw[f4] at e;exact Ug (by rw[Yv];omega) e) fun i5 h4 j7 i0 a2 e4 g2=>?_
  have e0:=Za e7 a4.below
  have c9:=d0.symm.row e0 a2
  replace d0:=(d0.symm.grow e0 g2).symm
  have d6:=c9
  refine zK _ _ (Zt (e4.mono hBw) a2 a1 Do) ?_
  refine xwm (.r [17] 4) ((i:Int)+1) (↑(i+1):Int) ?_
  have f0:=Zp (Za (Za (Za (Zp (Za (Za a6 b5) n7.below) c0 a0 Do) (Zb W8)) c2) a4.below) a2 a1 Do
  have f5:=(((((((((hA.below n4.below).only (Zd.of_upd (T:=[32]) u5 n4.blk Do) Do).below (Zb W5)).below b5).below n7.below).only (Zd.of_grown (T:=[124]) c0 a0 Do) Do).below (Zb W8)).below c2).below a4.below).only (Zd.of_grown (T:=[124]) a2 a1 Do) Do
  have g8:=d9.trans (e4.mono hBw)
  have g3:=(Zd.grown_new ((((Zd.grown_new ((((Zd.upd_new (d3.trans (Zd.of_below n4.below)) u5 g4).trans (Zd.of_below (Zb W5))).trans (Zd.of_below b5)).trans (Zd.of_below n7.below)) c0 a0).trans (Zd.of_below (Zb W8))).trans (Zd.of_below c2)).trans (Zd.of_below a4.below)) a2 a1)
  have b6:=((((((a3.below b5).below n7.below).grown c0 a0 Do).below (Zb W8)).below c2).below a4.below).grown a2 a1 Do
  have b8:=((((((((u5.blkT (c4.below n4.below) n4.blk Do).below (Zb W5)).below b5).below n7.below).grown c0 a0 Do).below (Zb W8)).below c2).below a4.below).grown a2 a1 Do
  have c1:=((((((((u5.blkT (e1.below n4.below) n4.blk Do).below (Zb W5)).below b5).below n7.below).grown c0 a0 Do).below (Zb W8)).below c2).below a4.below).grown a2 a1 Do
  exact ze 2 (h6 _ _ _ ⟨i+1,_,_,_,_,rfl,rfl,g8,g3,b6,b8,c1,d6,i0,f0,f5,by omega,d0⟩ M0)
 have i8:i=n:=by omega
 rw[A1 (by rw[Ys];omega)] at d4
 rw[A1 (by rw[Yv];omega)] at c5
 refine xc 10 (args:=#[P0 bx,V0 1,.slice p7 i c7,P0 be]) (by have q:=Zbq B ba b g nn cc pa ca N bs (twT (Z.map Prod.fst) n) 1 p7 c7 i (Gc (Z.map Prod.fst) (twR (Z.map Prod.fst))) bx be _ _ _ (by rw[Ys];omega) hC hA a8 c4 hbe (Zjb hk.devs) (by rw[h3];omega) (fun W _ h2=>Ze (Zi d4 h2 Do)) (N0 hBw a7.size);rw[h3] at q;exact q) ?_
 rintro _ j4 ⟨rfl,g1,c6,hA,e8⟩
 have c3:=a8.only c6 Do
 have d1:=Zi c5 c6 Do
 have d7:=a7.trans g1
 refine xc 9 (args:=#[P0 bx,V0 3,.slice p8 i c8,P0 be]) (by have q:=Zbq B ba b g nn cc pa ca N bs (G1 (Z.map Prod.fst)) 3 p8 c8 i (Hy (Z.map Prod.fst) (Kc (Z.map Prod.fst))) bx be _ _ _ (by rw[Yv];omega) hC hA c3 e8 hbe (Zj1 hk.devs) (by rw[h1];omega) (fun W _ h2=>Ze (Zi d1 h2 Do)) (N0 hBw d7.size);rw[h1] at q;exact q) ?_
 rintro _ j0 ⟨rfl,f9,f6,hA,d5⟩
 have f8:=d7.trans f9
 have g6:=(d3.trans (c6.wide Do)).trans (f6.wide Do)
 exact xe 5 (.tuple #[V0 (↑(Xm (G1 (Z.map Prod.fst))):Int),V0 (↑(Xm (G2 (Z.map Prod.fst))):Int)]) ⟨rfl,f8,g6,hA,d5⟩
theorem Zbp(L:List (List Int))(f:Nat):∀ n,(Xy L f n).length=n:=fun n=>Qh L f n
theorem Zi4{x:Nat}(h:1≤x):(Fz x).sum+1≤2*x:=by
 induction x using Nat.strongRecOn with
 | _ x ih =>
  by_cases h1:x≤1
  ·rw[Kq h1];simp;omega
  ·rw[Ke h1,H8]
   have h2:=ov18 (x:=x) M0
   have:=ih (ovN x 18) M0 (Qs _ _)
   omega
theorem Nr(t:Int){k:Nat}(h:1≤k):Zw t k+1≤2*k:=by
 have hm:=(Yu t true).1
 have h1:ovN k (Vg t true)≤k:=by
  unfold ovN
  have:(k+Vg t true-1)/Vg t true≤k:=by
   rw[H6 M0]
   have:=Nat.le_mul_of_pos_left k hm
   omega
  omega
 have h2:=Zi4 (Qs k (Vg t true))
 unfold Zw Qv
 omega
theorem Ev{x:Nat}{L:List Dv}{k:Nat}(h:Kw x L≤k):twK x L+Zw 5 (Ar L)+2+bmN k≤k:=by
 have a:=Ik (m:=Zeo x L) h
 have b:=Dm x L
 omega
def twB1(L:List Dv)(k:Nat):Bl:=Fo (G2 L) 1 (List.replicate (k*256) (0:UInt8))
def twD (x:Nat)(L:List Dv)(k:Nat):Int×Int×Bl:=Zce (Yl x L) (1+Xm (G2 L)) (twB1 L k)
def twC (x:Nat)(L:List Dv)(k:Nat):List Int:=Ue L (twK x L+1) k
def twM (x:Nat)(L:List Dv)(k:Nat):Int×Int×Bl:=Ek (twC x L k) 1 (twK x L) (twD x L k).2.2
def twS (t u v:Int)(x:Nat)(L:List Dv)(k:Nat):Sup:=⟨t,u,v,(x:Int),(k:Int),(Xm (G1 L):Int),(Xm (G2 L):Int),(twD x L k).1,(twD x L k).2.1,(twM x L k).1,(twM x L k).2.1⟩
def twI (t u v:Int)(x:Nat)(L:List Dv)(k:Nat):Bl:=Km (twM x L k).2.2 (0*256) (Ja 1 (0:Nat) (Zcm (twS t u v x L k)))
theorem Vu(x:Nat)(L:List Dv)(k:Nat):(twC x L k).length=k:=Wf _ _ _
theorem Zaq(x:Nat)(L:List Dv):twN L L.length<twK x L+1:=by have:=Zd5 L;unfold twK;omega
theorem Ti{x:Nat}{L:List Dv}{k:Nat}(h:twK x L+1≤k):(Zl (twC x L k) (twC x L k).length).length=Ar L:=over_tw (Zaq x L) (by have:=Zaq x L;omega)
theorem Ai{x:Nat}{L:List Dv}{k:Nat}(h:twK x L+1≤k):Xx (twC x L k)=Zw 5 (Ar L)+bmN k+1:=by
 unfold Xx;rw[Ti h,Vu]
theorem twD_in(x:Nat)(L:List Dv)(k:Nat):1≤(twD x L k).1∧(twD x L k).1≤(twK x L:Int)∧1≤(twD x L k).2.1∧(twD x L k).2.1≤(twK x L:Int):=by
 have a:=Hz (t:=4) (l:=Xy (Zo (Zh (Yl x L)) (bmN (Yl x L).length)) (1+Xm (G2 L)) (bmN (Yl x L).length)) (q:=1+Xm (G2 L)+bmN (Yl x L).length) (bs:=Kn (Zo (Zh (Yl x L)) (bmN (Yl x L).length)) (1+Xm (G2 L)) (twB1 L k) (bmN (Yl x L).length)) M0
 have b:=Hz (t:=5) (l:=Zl (Yl x L) (Yl x L).length) (q:=1+Xm (G2 L)+bmN (Yl x L).length+Zw 4 (bmN (Yl x L).length)) (bs:=(Vl 4 (Xy (Zo (Zh (Yl x L)) (bmN (Yl x L).length)) (1+Xm (G2 L)) (bmN (Yl x L).length)) (1+Xm (G2 L)+bmN (Yl x L).length) (Kn (Zo (Zh (Yl x L)) (bmN (Yl x L).length)) (1+Xm (G2 L)) (twB1 L k) (bmN (Yl x L).length))).2) M0
 rw[Zbp] at a
 have e1:(twD x L k).1=_:=a
 have e2:(twD x L k).2.1=_:=b
 have h4:=Yx 4 (bmN (Yl x L).length)
 have h5:=Yx 5 (Zl (Yl x L) (Yl x L).length).length
 have e3:twK x L=Xm (G2 L)+(bmN (Yl x L).length+Zw 4 (bmN (Yl x L).length)+Zw 5 (Zl (Yl x L) (Yl x L).length).length):=rfl
 rw[e1,e2,e3]
 omega
theorem twM_in{x:Nat}{L:List Dv}{k:Nat}(h:twK x L+1≤k):1≤(twM x L k).1∧(twM x L k).1≤(twK x L+1+Zw 5 (Ar L)+bmN k:Nat)∧1≤(twM x L k).2.1∧(twM x L k).2.1≤(twK x L+1+Zw 5 (Ar L)+bmN k:Nat):=by
 have a:=Hz (t:=5) (l:=Zl (twC x L k) (twC x L k).length) (q:=1+twK x L) (bs:=(twD x L k).2.2) M0
 have e2:(twM x L k).2.1=_:=a
 have e1:(twM x L k).1=((1+twK x L+Zw 5 (Zl (twC x L k) (twC x L k).length).length+bmN (Yz (twC x L k) (1+twK x L) (Xx (twC x L k))).length:Nat):Int):=rfl
 rw[Qr,Vu] at e1
 have e3:=Ti h
 rw[Vu] at e3
 rw[e3] at e1
 rw[Ti h] at e2
 have h5:=Yx 5 (Ar L)
 rw[e1,e2]
 omega
theorem Zdp{t u v:Int}{x k:Nat}{L:List Dv}(hk:PoolOk t u v (x:Int) L)(hr:Kw x L≤k)(hk2:k≤14400):Xp (twS t u v x L k)=true:=by
 have c:=Ev hr
 have a:=twD_in x L k
 have b:=twM_in (x:=x) (L:=L) (k:=k) M0
 have d:=Zd5 L
 have e:twK x L=Xm (G2 L)+Hl (Yl x L):=rfl
 have h1:=hk.htx
 have h2:=hk.htime
 have h3:=hk.hunit
 have h4:=hk.hdata
 unfold Xp twS
 simp only[D3,decide_eq_true_eq,true_and]
 refine⟨⟨⟨⟨⟨⟨⟨⟨⟨⟨?_,?_⟩,?_⟩,?_⟩,?_⟩,?_⟩,?_⟩,?_⟩,?_⟩,?_⟩,?_⟩<;>omega
theorem Dx{w:World}{L:List Dv}{g n c m:Nat}(h:Sl w (.slice (S1 g) n c) n ((Ue L m n).map V0))(hi:m<n):w.cell? (Xa (S1 g) (m*1))=some (V0 (↑(rcF L m):Int)):=by
 have q:=(IntsN.elem h (Wf _ _ _) hi).2
 rw[Gv hi,if_neg (Nat.lt_irrefl m)] at q
 exact q
theorem Zlf{L:List Dv}{m k:Nat}(h:m<k):((Ue L m k).map V0).set m (V0 (if(1:Int)>(↑(rcF L m):Int) then(1:Int) else(↑(rcF L m):Int)))=(Ue L (m+1) k).map V0:=by
 rw[←Zdt h];congr 2;split<;>omega
theorem Yf.of_gt{w:World}{B e size n g n2 c2 c:Nat}{p:O0}{xs:List Value}(h:w.ownsRow B e size (.slice p n c) n xs)(hg:w.heap.size≤g):Yf (.slice p n c) (.slice (S1 g) n2 c2):=fun j h1 h2=>by
 have:=(h.lt j h1).2
 have e2:g=j:=Option.some.inj h2
 omega
theorem bz_out{B ba b g nn cc z:Nat}{pa:O0}{ca f N k0:Nat}{bs:Bl}{w:World}{cs:List Value}{T:TypeId}(h:Al B ba b g nn cc pa ca f N k0 bs w)(ke:Blk w z cs T)(h1:T≠169)(h2:T≠5):z∉[ba,g]:=by
 have h1:=Blk.tne ke h.blkA h1
 have h2:=Xd ke h.data h2
 simp only[E9,List.not_mem_nil,or_false,not_or]
 exact⟨h1,h2⟩
theorem tw_maps(B ba b g cc:Nat)(pa:O0)(ca N k:Nat)(bx be bz gc:Nat)(x2:Value)(p:O0)(c n x:Nat)(t u v:Int)(Z:List Zv)(w:World)(hZ:Z.length=n)(hP:∀ W,Below B w W→DevsR W p c Z)(hk:PoolOk t u v (x:Int) (Z.map Prod.fst))(hC:AlC B ba (k*256) cc ca 1 N)(hA:Al B ba b g (k*256) cc pa ca 1 N (Xm (G2 (Z.map Prod.fst))) (twB1 (Z.map Prod.fst) k) w)(kx:Blk w bx [P0 ba,x2,.slice (S1 gc) k k] 82)(ke:Blk w be [.nilIface] 39)(kz:Blk w bz [V0 t,V0 u,V0 v,V0 (x:Int),V0 (k:Int),V0 (↑(Xm (G1 (Z.map Prod.fst))):Int),V0 (↑(Xm (G2 (Z.map Prod.fst))):Int),V0 0,V0 0,V0 0,V0 0] 54)(hbe:B≤be)(hbz:B≤bz)(hpa:∀ n2 c2,Yf (.slice (S1 gc) n2 c2) (.slice pa N ca))(hc:w.ownsRow B 3 1 (.slice (S1 gc) k k) k ((Ip (Z.map Prod.fst) k n).map V0))(hN:N=k-1)(hr:Kw x (Z.map Prod.fst)≤k)(hk3:k≤3000)(hBw:B≤w.heap.size) :
 C0 45 #[P0 bx,.agg #[V0 t,V0 u,V0 v,V0 (x:Int),.slice p n c],P0 bz,P0 be] w ((fun e w'=>e=.returned (.tuple #[])∧Below B w w'∧Zd [169,5,39,99,124,132,126,54,3] w w'∧Blk w' be [.nilIface] 39∧Blk w' bz [V0 t,V0 u,V0 v,V0 (x:Int),V0 (k:Int),V0 (↑(Xm (G1 (Z.map Prod.fst))):Int),V0 (↑(Xm (G2 (Z.map Prod.fst))):Int),V0 ((twD x (Z.map Prod.fst) k).1),V0 ((twD x (Z.map Prod.fst) k).2.1),V0 ((twM x (Z.map Prod.fst) k).1),V0 ((twM x (Z.map Prod.fst) k).2.1)] 54∧Al B ba b g (k*256) cc pa ca 1 N (twK x (Z.map Prod.fst)+Xx (twC x (Z.map Prod.fst) k)) (twM x (Z.map Prod.fst) k).2.2 w')):=by
 have hx:x≤65536:=by have:=hk.hdata;omega
 have h1:(Z.map Prod.fst).length=n:=by rw[At];exact hZ
 have g8:=Ev hr
 have i5:twK x (Z.map Prod.fst)=Xm (G2 (Z.map Prod.fst))+Hl (Yl x (Z.map Prod.fst)):=rfl
 have h9:=hk.devs.few
 have h6:Ip (Z.map Prod.fst) k n=Ue (Z.map Prod.fst) 0 k:=by rw[←h1];exact cntM_0 _ _
 refine zin 81 Tryz.func45 ?_
 refine xa 2 [V0 t,V0 u,V0 v,V0 (x:Int),.slice p n c] 24 fun b1 W1 n1=>?_
 have d6:=ke.below n1.below
 refine xb 7 0 d6 ?_
 refine xd 7 (.t B [169,5,39,99,124,132,126,54,3]) ?_
 have d2:=(kx.below n1.below).below (Zb W1)
 refine xbt (.e [0,1,2,3,4,5] 6) 0 B [169,5,39,99,124,132,126,54,3] d2 ?_
 have k1:=n1.blk.below (Zb W1)
 refine xlvt (.e [] 7) (.t B [169,5,39,99,124,132,126,54,3]) (fun V hV=>(k1.only hV.2 Do).rp) ?_
 have hB:=blB (blB (Below.refl B w) hBw n1.below) hBw (Zb W1)
 refine yc (.o [] 8) (args:=#[.agg #[V0 t,V0 u,V0 v,V0 (x:Int),.slice p n c]]) (.t B [169,5,39,99,124,132,126,54,3]) (Ay p c n x t u v Z _ hZ (hP _ hB) hk) ?_
 rintro _ W2 ⟨_,rfl,b4,q9,d9,rfl,h3⟩
 have h0:=(blB (blB (Below.refl B w) hBw n1.below) hBw (Zb W1)).size
 refine⟨(SF.of_below _ b4),?_⟩
 have d8:=Zf h3 h0
 have d0:=(d6.below (Zb W1)).below b4
 have d1:=((hA.below n1.below).below (Zb W1)).below b4
 have f1:=bz_out d1 d0 Do Do
 have d5:=blB hB hBw b4
 refine yc (.o [] 9) (args:=#[P0 ba,.slice q9 x d9]) (.t B [169,5,39,99,124,132,126,54,3]) (by have q:=Zgu B ba b g (k*256) cc pa ca 1 N (Xm (G2 (Z.map Prod.fst))) (twB1 (Z.map Prod.fst) k) q9 d9 (Yl x (Z.map Prod.fst)) _ hC d1 (by rw[Yy];have q:=Ze d8;rw[←Zbl] at q;exact q) (by rw[Yy];omega) (by rw[Wd];have:=Wr hk.devs;omega) (Pk M0 hk.devs) Do M0 M0 (N0 hBw d5.size);rw[Yy] at q;exact q) ?_
 rintro _ W3 ⟨rfl,g6,c4,h2,hA⟩
 refine⟨(Hd g6 c4),?_⟩
 have f8:=Blk.fr d0 h2 f1
 have a5:=(((kz.below n1.below).below (Zb W1)).below b4).only c4 Do
 refine ys (.o [10,11,12,13,14,15] 16) a5 [V0 t,V0 u,V0 v,V0 (x:Int),V0 (k:Int),V0 (↑(Xm (G1 (Z.map Prod.fst))):Int),V0 (↑(Xm (G2 (Z.map Prod.fst))):Int),V0 ((twD x (Z.map Prod.fst) k).1),V0 0,V0 0,V0 0] (.t B [169,5,39,99,124,132,126,54,3]) fun W4 u4 k4=>⟨(Xb u4 a5 hbz Do),?_⟩
 refine ys (.o [17,18] 19) k4 [V0 t,V0 u,V0 v,V0 (x:Int),V0 (k:Int),V0 (↑(Xm (G1 (Z.map Prod.fst))):Int),V0 (↑(Xm (G2 (Z.map Prod.fst))):Int),V0 ((twD x (Z.map Prod.fst) k).1),V0 ((twD x (Z.map Prod.fst) k).2.1),V0 0,V0 0] (.t B [169,5,39,99,124,132,126,54,3]) fun W5 u5 k5=>⟨(Xb u5 k4 hbz Do),?_⟩
 have a0:=u5.blkT (u4.blkT f8 a5 Do) k4 Do
 refine ys (.o [20] 21) a0 [.nilIface] (.t B [169,5,39,99,124,132,126,54,3]) fun W6 u6 k6=>⟨(Xb u6 a0 hbe Do),?_⟩
 refine xb 7 0 k6 ?_
 have e2:=u6.blkT (u5.blkT (u4.blkT ((d2.below b4).only c4 Do) a5 Do) k4 Do) a0 Do
 refine xb 12 0 e2 ?_
 have c7:=((hA.only (Zd.of_upd (T:=[54]) u4 a5 Do) Do).only (Zd.of_upd (T:=[54]) u5 k4 Do) Do).only (Zd.of_upd (T:=[39]) u6 a0 Do) Do
 refine xr 0 (args:=#[P0 ba]) (Zgl ba b _ (twK x (Z.map Prod.fst)) _ (c7.blkA)) fun W7 c1=>?_
 refine xwm 0 ((↑(twK x (Z.map Prod.fst)):Int)+1) (↑((twK x (Z.map Prod.fst))+1):Int) ?_
 have g3:=Za (u6.own2 (u5.own2 (u4.own2 (Zi (Za (Za (Za hc n1.below) (Zb W1)) b4) c4 Do) a5 Do) k4 Do) a0 Do) c1
 have g1:=c7.below c1
 have f2:=blB (u6.below (u5.below (u4.below (d5.trans g6) hbz) hbz) hbe) hBw c1
 have hO:=(((((((show Zd [169,5,39,99,124,132,126,54,3] w _ from(Zd.of_below n1.below)).trans (Zd.of_below (Zb W1))).trans (Zd.of_below b4)).trans (c4.wide Do)).trans (Zd.of_upd u4 a5 Do)).trans (Zd.of_upd u5 k4 Do)).trans (Zd.of_upd u6 a0 Do)).trans (Zd.of_below c1)
 have f5:=e2.below c1
 have e7:=k6.below c1
 have f3:=(u6.blkT k5 a0 Do).below c1
 have f0:=(u6.blkT (u5.blkT (u4.blkT ((k1.below b4).only c4 Do) a5 Do) k4 Do) a0 Do).below c1
 refine zl 4 81 (fun zm h5 V=>∃ (m:Nat),h5=[(0,P0 bx),(2,P0 bz),(3,P0 be),(41,V0 (↑((twK x (Z.map Prod.fst))+1):Int)),(42,V0 (m:Int))]∧zm=twK x (Z.map Prod.fst)+1-((m:Int)).toNat∧Below B w V∧Zd [169,5,39,99,124,132,126,54,3] w V∧Blk V bx ([P0 ba,x2,.slice (S1 gc) k k]) 82∧Blk V be ([.nilIface]) 39∧Blk V bz ([V0 t,V0 u,V0 v,V0 (x:Int),V0 (k:Int),V0 (↑(Xm (G1 (Z.map Prod.fst))):Int),V0 (↑(Xm (G2 (Z.map Prod.fst))):Int),V0 ((twD x (Z.map Prod.fst) k).1),V0 ((twD x (Z.map Prod.fst) k).2.1),V0 0,V0 0]) 54∧Blk V b1 ([V0 t,V0 u,V0 v,V0 (x:Int),.slice p n c]) 24∧V.ownsRow B 3 1 (.slice (S1 gc) k k) k ((Ue (Z.map Prod.fst) m k).map V0)∧Al B ba b g (k*256) cc pa ca 1 N (twK x (Z.map Prod.fst)) (twD x (Z.map Prod.fst) k).2.2 V∧m≤twK x (Z.map Prod.fst)+1) ⟨0,rfl,rfl,f2,hO,f5,e7,f3,f0,(by rw[←h6];exact g3),g1,A3 _⟩ ?_
 rintro _ _ W8 ⟨m,rfl,rfl,e5,e4,b8,c0,b9,e0,hc,hA,hm⟩ J8 h7 r8
 refine xid 6 ((m:Int)<(↑((twK x (Z.map Prod.fst))+1):Int)) (fun g9=>?_) (fun g9=>?_)
 ·refine xd 10 (.t B [169,5,39,99,124,132,126,54,3]) ?_
  have a3:=b8.below (Zb W8)
  refine xbt (.e [0,1,2] 3) 2 B [169,5,39,99,124,132,126,54,3] a3 ?_
  refine xbt (.e [4,5,6,7] 8) 2 B [169,5,39,99,124,132,126,54,3] a3 ?_
  refine xx (.e [9] 10) _ k m 1 (show(some (⟨gc,0,none⟩:Addr)).isSome=true from rfl) ?_
  have a4:=Za hc (Zb W8)
  refine xl (.o [] 11) (Dx (Ze a4) M0) ?_
  refine xx (.e [12] 13) _ k m 1 (show(some (⟨gc,0,none⟩:Addr)).isSome=true from rfl) ?_
  refine yst (.o [] 14) (.t B [169,5,39,99,124,132,126,54,3]) fun _ _ _ _ zJ zQ zo zx zy zK=>Xk (t:=3) (k:=m) (v:=V0 (if(1:Int)>(↑(rcF (Z.map Prod.fst) m):Int) then(1:Int) else(↑(rcF (Z.map Prod.fst) m):Int))) zo zx zy K0 rfl a4 M0 fun i1 b5 g5=>?_
  rw[(Zlf (L:=(Z.map Prod.fst)) (m:=m) (k:=k) M0)] at g5
  have b0:=c0.below (Zb W8)
  have a7:=b9.below (Zb W8)
  have a6:=e0.below (Zb W8)
  refine zK _ _ (Hd (T:=[3]) (b5.below (Below.refl _ _) (Qa a4)) (Zd.of_updRow b5 a4 Do)) ?_
  refine xwm 4 ((m:Int)+1) (↑(m+1):Int) ?_
  have e9:=(hA.below (Zb W8)).updI hpa b5 a4
  have g0:=b5.below (blB e5 hBw (Zb W8)) (Qa a4)
  have f6:=(e4.trans (Zd.of_below (Zb W8))).trans (Zd.of_updRow b5 a4 Do)
  have b2:=b5.blk a3 (Xd a3 a4 Do)
  have b6:=b5.blk b0 (Xd b0 a4 Do)
  have b3:=b5.blk a7 (Xd a7 a4 Do)
  have b7:=b5.blk a6 (Xd a6 a4 Do)
  exact ze 2 (h7 _ _ _ ⟨m+1,rfl,rfl,g0,f6,b2,b6,b3,b7,g5,e9,by omega⟩ M0)
 refine xd 5 (.t B [169,5,39,99,124,132,126,54,3]) ?_
 have a8:=b8.below (Zb W8)
 refine xbt (.e [0,1,2,3,4,5] 6) 0 B [169,5,39,99,124,132,126,54,3] a8 ?_
 refine xbt (.e [7,8,9] 10) 2 B [169,5,39,99,124,132,126,54,3] a8 ?_
 have a9:=c0.below (Zb W8)
 have g2:=Za hc (Zb W8)
 have d7:=hA.below (Zb W8)
 have e6:=bz_out d7 a9 Do Do
 have h4:m=twK x (Z.map Prod.fst)+1:=by omega
 have g7:=g2
 rw[h4] at g7
 have c9:=blB e5 hBw (Zb W8)
 refine yc (.o [] 11) (args:=#[P0 ba,.slice (S1 gc) k k]) (.t B [169,5,39,99,124,132,126,54,3]) (by have q:=Zel B ba b g (k*256) cc pa ca 1 N (twK x (Z.map Prod.fst)) (twD x (Z.map Prod.fst) k).2.2 ⟨gc,0,none⟩ k (twC x (Z.map Prod.fst) k) _ hC d7 (by rw[Vu];exact Ze g7) (by rw[Vu];omega) (by rw[Vu];omega) (Lk M0 M0) M0 (by rw[Ai M0];omega) Do (by rw[M3 1];exact Ez M0 (Zaq _ _)) (N0 hBw c9.size);rw[Vu] at q;exact q) ?_
 rintro _ i6 ⟨rfl,d3,c3,e8,hA⟩
 refine⟨(Hd d3 c3),?_⟩
 have c5:=Blk.fr a9 e8 e6
 have a1:=(b9.below (Zb W8)).only c3 Do
 refine ys (.o [12,13,14,15,16,17] 18) a1 [V0 t,V0 u,V0 v,V0 (x:Int),V0 (k:Int),V0 (↑(Xm (G1 (Z.map Prod.fst))):Int),V0 (↑(Xm (G2 (Z.map Prod.fst))):Int),V0 ((twD x (Z.map Prod.fst) k).1),V0 ((twD x (Z.map Prod.fst) k).2.1),V0 ((twM x (Z.map Prod.fst) k).1),V0 0] (.t B [169,5,39,99,124,132,126,54,3]) fun i4 c8 e1=>⟨(Xb c8 a1 hbz Do),?_⟩
 refine ys (.o [19,20] 21) e1 [V0 t,V0 u,V0 v,V0 (x:Int),V0 (k:Int),V0 (↑(Xm (G1 (Z.map Prod.fst))):Int),V0 (↑(Xm (G2 (Z.map Prod.fst))):Int),V0 ((twD x (Z.map Prod.fst) k).1),V0 ((twD x (Z.map Prod.fst) k).2.1),V0 ((twM x (Z.map Prod.fst) k).1),V0 ((twM x (Z.map Prod.fst) k).2.1)] (.t B [169,5,39,99,124,132,126,54,3]) fun i3 e3 i0=>⟨(Xb e3 e1 hbz Do),?_⟩
 have a2:=e3.blkT (c8.blkT c5 a1 Do) e1 Do
 refine ys (.o [22] 23) a2 [.nilIface] (.t B [169,5,39,99,124,132,126,54,3]) fun i2 d4 h8=>⟨(Xb d4 a2 hbe Do),?_⟩
 have c6:=d4.blkT i0 a2 Do
 have f4:=((hA.only (Zd.of_upd (T:=[54]) c8 a1 Do) Do).only (Zd.of_upd (T:=[54]) e3 e1 Do) Do).only (Zd.of_upd (T:=[39]) d4 a2 Do) Do
 have f9:=d4.below (e3.below (c8.below (c9.trans d3) hbz) hbz) hbe
 have f7:=((((e4.trans (Zd.of_below (Zb W8))).trans (c3.wide Do)).trans (Zd.of_upd c8 a1 Do)).trans (Zd.of_upd e3 e1 Do)).trans (Zd.of_upd d4 a2 Do)
 exact xe 1 (.tuple #[]) ⟨rfl,f9,f7,h8,c6,f4⟩
theorem Rw(k:Nat)(w:World)(hk:k≤14400) :
 C0 41 #[V0 (k:Int)] w (Qo (fun w' r=>∃ b p c,r=.tuple #[P0 b,V0 0]∧w.heap.size≤b∧ImgR w.heap.size b p (k*256) c (List.replicate (k*256) (0:UInt8)) w') w):=by
 refine zin 15 Tryz.func41 ?_
 refine xgk 12 [5,6] (show(decide ((k:Int)<(0:Int)):Bool)=false from decide_eq_false M0) ?_
 refine xk 5 (show(decide ((k:Int)>(14400:Int)):Bool)=false from decide_eq_false M0) ?_
 refine xwm 5 ((k:Int)*256) (↑(k*256):Int) ?_
 refine xmk 0 fun _ _ _ _ zJ zQ zo zx zy zK=>Kf (k*256) (.int .u8 0) 1 1 ((List.replicate (k*256) (0:UInt8)).map bv) zo zx zy Tryz.underlying50 K0 rfl M0 M0 (Ea (k*256)) fun b2 W2 n2=>?_
 refine zK _ _ ?_
 refine xa 1 [.slice (S1 b2) (k*256) (k*256)] 108 fun b3 W3 n3=>?_
 have hB:=bln n2.below n3.below
 have g3:=n3.ge n2.below
 have o2:=Za (Zz (size:=1) (n:=(k*256)) n2.blk (n2.ge (B4 w)) (by rw[At,A7,D5]) (by unfold maxLen;omega)) n3.below
 exact xe 5 (.tuple #[P0 b3,V0 0]) ⟨_,rfl,hB,_,_,_,rfl,g3,⟨n3.blk,o2,by omega⟩⟩
def LayE(c:Int)(w:World)(e:Ending)(w':World):Prop:=e=.returned (.tuple #[.pointer none,.iface 33 (V0 c)])∧B3 w w'
def LayO(l:Bl)(k:Nat)(w:World)(e:Ending)(w':World):Prop:=∃ bi g ci,e=.returned (.tuple #[P0 bi,.nilIface])∧B3 w w'∧ImgR w.heap.size bi (S1 g) (k*256) ci l w'
theorem Zgh(m:Int)(w:World)(h:m<0∨14400<m) :
 C0 41 #[V0 m] w (Ret (.tuple #[.pointer none,V0 2]) w):=by
 refine zin 15 Tryz.func41 ?_
 refine xg 12 [5,6] (decide (m<(0:Int))) (fun a0=>?_) (fun a0=>?_)
 ·have a0:=of_decide_eq_true a0
  exact xe 14 (.tuple #[.pointer none,V0 2]) ⟨rfl,(B4 w)⟩
 have a0:=of_decide_eq_false a0
 refine xk 5 (show(decide (m>(14400:Int)):Bool)=true from decide_eq_true M0) ?_
 exact xe 8 (.tuple #[.pointer none,V0 2]) ⟨rfl,(B4 w)⟩
theorem Zkr(p:O0)(c n:Nat)(t u v x m:Int)(Z:List Zv)(w:World)(hZ:Z.length=n)(hP:DevsR w p c Z)(hk:Yg t u v x (Z.map Prod.fst)≠0) :
 C0 14 #[.agg #[V0 t,V0 u,V0 v,V0 x,.slice p n c],V0 m] w (LayE (Yg t u v x (Z.map Prod.fst)) w):=by
 refine zin 91 Tryz.func14 ?_
 refine xa 2 [V0 t,V0 u,V0 v,V0 x,.slice p n c] 24 fun b1 W1 n1=>?_
 refine xlv 7 n1.blk.rp ?_
 refine xr 0 (args:=#[.agg #[V0 t,V0 u,V0 v,V0 x,.slice p n c]]) (Ko p c n t u v x Z _ hZ (hP.below n1.below)) fun W2 a1=>?_
 refine xk 9 (show(((Yg t u v x (Z.map Prod.fst)) != (0:Int)):Bool)=true from(by simpa using hk)) ?_
 have a0:=bln n1.below a1
 exact xe 10 (.tuple #[.pointer none,.iface 33 (V0 (Yg t u v x (Z.map Prod.fst)))]) ⟨rfl,a0⟩
theorem Zj3(p:O0)(c n:Nat)(t u v x m:Int)(Z:List Zv)(w:World)(hZ:Z.length=n)(hP:DevsR w p c Z)(hk:Yg t u v x (Z.map Prod.fst)=0)(hm:m<0∨14400<m) :
 C0 14 #[.agg #[V0 t,V0 u,V0 v,V0 x,.slice p n c],V0 m] w (LayE 2 w):=by
 refine zin 91 Tryz.func14 ?_
 refine xa 2 [V0 t,V0 u,V0 v,V0 x,.slice p n c] 24 fun b1 W1 n1=>?_
 refine xlv 7 n1.blk.rp ?_
 refine xr 0 (args:=#[.agg #[V0 t,V0 u,V0 v,V0 x,.slice p n c]]) (Ko p c n t u v x Z _ hZ (hP.below n1.below)) fun W2 a2=>?_
 refine xk 9 (show(((Yg t u v x (Z.map Prod.fst)) != (0:Int)):Bool)=false from(by rw[hk];rfl)) ?_
 refine xr 5 (args:=#[V0 m]) (Zgh m _ hm) fun W3 a1=>?_
 have a0:=bln (bln n1.below a2) a1
 exact xe 25 (.tuple #[.pointer none,.iface 33 (V0 2)]) ⟨rfl,a0⟩
theorem Zhk(p:O0)(c n x k:Nat)(t u v:Int)(Z:List Zv)(w:World)(hI:ItT w)(hZ:Z.length=n)(hP:DevsR w p c Z)(hk:PoolOk t u v (x:Int) (Z.map Prod.fst))(hk2:k≤14400)(hr:k<Kw x (Z.map Prod.fst)) :
 C0 14 #[.agg #[V0 t,V0 u,V0 v,V0 (x:Int),.slice p n c],V0 (k:Int)] w (LayE 14 w):=by
 obtain⟨nm,a6⟩:∃ y,Kw x (Z.map Prod.fst)=y:=⟨_,rfl⟩
 have a9:=hr
 rw[a6] at a9
 refine zin 91 Tryz.func14 ?_
 refine xa 2 [V0 t,V0 u,V0 v,V0 (x:Int),.slice p n c] 24 fun b1 W1 n1=>?_
 refine xlv 7 n1.blk.rp ?_
 refine xr 0 (args:=#[.agg #[V0 t,V0 u,V0 v,V0 (x:Int),.slice p n c]]) (Ko p c n t u v (x:Int) Z _ hZ (hP.below n1.below)) fun W2 a4=>?_
 refine xk 9 (show(((Yg t u v (x:Int) (Z.map Prod.fst)) != (0:Int)):Bool)=false from(by rw[Qx.2 hk];rfl)) ?_
 have a1:=bln n1.below a4
 have a5:=a1.size
 refine xc 5 (args:=#[V0 (k:Int)]) (Rw k _ M0) ?_
 rintro _ W3 ⟨_,rfl,a7,bi,pi,ci,rfl,gi,a8⟩
 replace a8:=a8.mono a5
 replace gi:=N0 a5 gi
 have a2:=(n1.blk.below a4).below a7
 refine xlv 21 a2.rp ?_
 have a0:=bln a1 a7
 refine xr 0 (args:=#[.agg #[V0 t,V0 u,V0 v,V0 (x:Int),.slice p n c]]) (by have q:=Np p c n x t u v Z _ (hI.below a0) hZ (hP.below a0) hk;rw[a6] at q;exact q) fun W4 b0=>?_
 refine xk 3 (show(decide ((k:Int)<(nm:Int)):Bool)=true from decide_eq_true M0) ?_
 have a3:=bln a0 b0
 exact xe 9 (.tuple #[.pointer none,.iface 33 (V0 14)]) ⟨rfl,a3⟩
theorem sup_PutT(t u v:Int)(x k:Nat)(L:List Dv)(w:World)(hr:Xp (twS t u v x L k)=true):C0 46 #[.agg #[V0 t,V0 u,V0 v,V0 (x:Int),V0 (k:Int),V0 (↑(Xm (G1 L)):Int),V0 (↑(Xm (G2 L)):Int),V0 (twD x L k).1,V0 (twD x L k).2.1,V0 (twM x L k).1,V0 (twM x L k).2.1]] w (Qo (fun w' r=>∃ p c,r=.tuple #[.slice p 244 c,V0 0]∧w'.ownsRow w.heap.size 5 1 (.slice p 244 c) 244 ((Zcm (twS t u v x L k)).map bv)) w):=by
 refine(sup_PutP (twS t u v x L k) w ⟨by show(0:Int)≤(k:Int);omega,?_⟩).mono ?_
 ·unfold Xp twS at hr
  simp only[D3,decide_eq_true_eq,true_and] at hr
  show(k:Int)<_
  omega
 ·rintro e W q
  rcases q with ⟨h,_⟩|⟨_,p,c,rfl,hb,ho⟩
  ·rw[hr] at h;cases h
  ·exact⟨_,rfl,hb,p,c,rfl,ho⟩
theorem Zar(p:O0)(c n x k:Nat)(t u v:Int)(Z:List Zv)(w:World)(hI:ItT w)(hZ:Z.length=n)(hP:DevsR w p c Z)(hk:PoolOk t u v (x:Int) (Z.map Prod.fst))(hk3:k≤3000)(hr:Kw x (Z.map Prod.fst)≤k) :
 C0 14 #[.agg #[V0 t,V0 u,V0 v,V0 (x:Int),.slice p n c],V0 (k:Int)] w (LayO (twI t u v x (Z.map Prod.fst) k) k w):=by
 have i4:k≤14400:=by omega
 have h1:=Ev hr
 have j2:twK x (Z.map Prod.fst)=Xm (G2 (Z.map Prod.fst))+Hl (Yl x (Z.map Prod.fst)):=rfl
 have i3:=Zdp hk hr i4
 obtain⟨nm,g7⟩:∃ y,Kw x (Z.map Prod.fst)=y:=⟨_,rfl⟩
 have h5:=hr
 rw[g7] at h5
 refine zin 91 Tryz.func14 ?_
 refine xa 2 [V0 t,V0 u,V0 v,V0 (x:Int),.slice p n c] 24 fun b1 W1 n1=>?_
 refine xlv 7 n1.blk.rp ?_
 refine xr 0 (args:=#[.agg #[V0 t,V0 u,V0 v,V0 (x:Int),.slice p n c]]) (Ko p c n t u v (x:Int) Z _ hZ (hP.below n1.below)) fun W2 g9=>?_
 refine xk 9 (show(((Yg t u v (x:Int) (Z.map Prod.fst)) != (0:Int)):Bool)=false from(by rw[Qx.2 hk];rfl)) ?_
 have d4:=bln n1.below g9
 have g0:=d4.size
 refine xc 5 (args:=#[V0 (k:Int)]) (Rw k _ M0) ?_
 rintro _ W3 ⟨_,rfl,g2,bi,pi,ci,rfl,gi,d6⟩
 replace d6:=d6.mono g0
 replace gi:=N0 g0 gi
 have c9:=(n1.blk.below g9).below g2
 refine xlv 21 c9.rp ?_
 have b3:=bln d4 g2
 refine xr 0 (args:=#[.agg #[V0 t,V0 u,V0 v,V0 (x:Int),.slice p n c]]) (by have q:=Np p c n x t u v Z _ (hI.below b3) hZ (hP.below b3) hk;rw[g7] at q;exact q) fun W4 e8=>?_
 refine xk 3 (show(decide ((k:Int)<(nm:Int)):Bool)=false from decide_eq_false M0) ?_
 have a3:=d6.below e8
 have e0:=bln b3 e8
 have g3:=e0.size
 obtain⟨g,rfl,i1⟩:=a3.base M0
 have g5:=a3
 refine xc 5 (args:=#[P0 bi,V0 1]) (Zf3 bi (S1 g) (k*256) ci 1 (k-1) (1:Int) rfl M0 _ g5.blk M0 Do M0) ?_
 rintro _ W5 ⟨_,rfl,e4,ba,pa,ca,rfl,ga,ka,h2⟩
 have h0:=g5.below e4
 have hA:AlF w.heap.size ba bi g (k*256) ci pa ca (k-1) (List.replicate (k*256) (0:UInt8)) [] _:=⟨ka,h0.blk,h0.row,Zf h2 g3⟩
 have hC:AlC w.heap.size ba (k*256) ci ca 1 (k-1):=⟨by omega,i1,Ao h2 M0,by omega,N0 g3 ga⟩
 have i0:=hA.nums
 refine xa 3 [.nilIface] 39 fun b6 W6 n6=>?_
 have c8:=bln e0 e4
 have g6:=n6.ge c8
 refine xs 1 n6.blk [.nilIface] fun W7 u7 k7=>?_
 refine xb 5 0 k7 ?_
 have a2:=u7.blkT (((c9.below e8).below e4).below n6.below) n6.blk Do
 refine xb 9 0 a2 ?_
 refine xb 1 1 a2 ?_
 refine xb 1 2 a2 ?_
 refine xb 1 3 a2 ?_
 refine xa 2 [V0 0,V0 0,V0 0,V0 0,V0 0,V0 0,V0 0,V0 0,V0 0,V0 0,V0 0] 54 fun b8 W8 n8=>?_
 have d9:=u7.below (bln c8 n6.below) g6
 have g8:=n8.ge d9
 refine xsv 0 n8.blk [V0 t,V0 u,V0 v,V0 (x:Int),V0 (k:Int),V0 0,V0 0,V0 0,V0 0,V0 0,V0 0] fun W9 u9 k9=>?_
 have a9:=u9.own2 (Za (u7.own2 (Za i0 n6.below) n6.blk Do) n8.below) n8.blk Do
 refine xmk 6 fun _ _ _ _ zJ zQ zo zx zy zK=>Kf k (V0 0) 1 8 ((Fy 0 k).map V0) zo zx zy Tryz.underlying27 K0 rfl M0 M0 ((Iw k)) fun e3 i6 a4=>?_
 have c6:=u9.below (bln d9 n8.below) g8
 have h8:=a4.ge c6
 have e2:=Zg a9 a4
 refine zK _ _ ?_
 refine xa 1 [P0 ba,S0,.slice (S1 e3) k k] 82 fun b7 j3 a8=>?_
 have d0:=bln c6 a4.below
 have h3:=a8.ge d0
 have c5:=((u9.blkT (a2.below n8.below) n8.blk Do).below a4.below).below a8.below
 refine xlv 6 c5.rp ?_
 have f2:=(((((hA.below n6.below).only (Zd.of_upd (T:=[39]) u7 n6.blk Do) Do).below n8.below).only (Zd.of_upd (T:=[54]) u9 n8.blk Do) Do).below a4.below).below a8.below
 have f7:=((u9.blkT (k7.below n8.below) n8.blk Do).below a4.below).below a8.below
 have h7:=Za (Zz (size:=1) (n:=k) a4.blk h8 (by rw[At,Oe,D5]) (by unfold maxLen;omega)) a8.below
 have g1:∀ n2 c2,Yf (.slice (S1 e3) n2 c2) (.slice pa (k-1) ca):=fun n2 c2=>(Yf.of_gt a9 (by have:=a4.at_;omega)).symm
 have a5:=bln d0 a8.below
 refine xc 0 (args:=#[P0 b7,.agg #[V0 t,V0 u,V0 v,V0 (x:Int),.slice p n c],P0 b6]) (tw_trees w.heap.size ba bi g (k*256) ci pa ca (k-1) (List.replicate (k*256) (0:UInt8)) b7 b6 e3 k p c n x t u v Z _ (fun W h=>hI.below (a5.trans h)) hZ (fun W h=>hP.below (a5.trans h)) hk hC f2 a8.blk f7 h3 g6 h7 g1 rfl M0 a5.size) ?_
 rintro _ j1 ⟨rfl,rp,rc,f5,c3,hA,c4,f1,d2,e7⟩
 have c7:=c5.only c3 Do
 refine xlv 5 c7.rp ?_
 have b2:=a5.trans f5
 refine xc 0 (args:=#[P0 b7,.agg #[V0 t,V0 u,V0 v,V0 (x:Int),.slice p n c],P0 b6]) (tw_heads w.heap.size ba bi g (k*256) ci pa ca (k-1) (List.replicate (k*256) (0:UInt8)) b7 b6 rp rc _ p c n x t u v Z _ hZ (fun W h=>hP.below (b2.trans h)) hk hC hA c4 f1 h3 g6 d2 M0 b2.size) ?_
 rintro _ j0 ⟨rfl,f3,a6,hA,f8⟩
 have a1:=(((k9.below a4.below).below a8.below).only c3 Do).only a6 Do
 refine xs 4 a1 [V0 t,V0 u,V0 v,V0 (x:Int),V0 (k:Int),V0 (↑(Xm (G1 (Z.map Prod.fst))):Int),V0 0,V0 0,V0 0,V0 0,V0 0] fun i7 c0 c1=>?_
 refine xs 1 c1 [V0 t,V0 u,V0 v,V0 (x:Int),V0 (k:Int),V0 (↑(Xm (G1 (Z.map Prod.fst))):Int),V0 (↑(Xm (G2 (Z.map Prod.fst))):Int),V0 0,V0 0,V0 0,V0 0] fun i8 b9 h9=>?_
 have e5:=b9.blkT (c0.blkT (c7.only a6 Do) a1 Do) c1 Do
 refine xlv 5 e5.rp ?_
 have e9:=(hA.only (Zd.of_upd (T:=[54]) c0 a1 Do) Do).only (Zd.of_upd (T:=[54]) b9 c1 Do) Do
 have b4:=b9.blkT (c0.blkT (c4.only a6 Do) a1 Do) c1 Do
 have b5:=b9.blkT (c0.blkT f8 a1 Do) c1 Do
 have b0:=b9.own2 (c0.own2 (Zi e7 a6 Do) a1 Do) c1 Do
 have a0:=b9.below (c0.below (b2.trans f3) g8) g8
 refine xc 0 (args:=#[P0 b7,.agg #[V0 t,V0 u,V0 v,V0 (x:Int),.slice p n c],P0 b8,P0 b6]) (tw_maps w.heap.size ba bi g ci pa ca (k-1) k b7 b6 b8 e3 _ p c n x t u v Z _ hZ (fun W h=>hP.below (a0.trans h)) hk hC e9 b4 b5 h9 g6 g8 g1 b0 rfl hr hk3 a0.size) ?_
 rintro _ i9 ⟨rfl,d8,h4,f0,e6,hA⟩
 refine xb 5 0 f0 ?_
 refine xlv 8 e6.rp ?_
 refine xc 0 (args:=#[.agg #[V0 t,V0 u,V0 v,V0 (x:Int),V0 (k:Int),V0 (↑(Xm (G1 (Z.map Prod.fst))):Int),V0 (↑(Xm (G2 (Z.map Prod.fst))):Int),V0 ((twD x (Z.map Prod.fst) k).1),V0 ((twD x (Z.map Prod.fst) k).2.1),V0 ((twM x (Z.map Prod.fst) k).1),V0 ((twM x (Z.map Prod.fst) k).2.1)]]) (sup_PutT t u v x k (Z.map Prod.fst) _ i3) ?_
 rintro _ i5 ⟨_,rfl,d3,q7,d7,rfl,i2⟩
 have f6:=(a0.trans d8).size
 have d1:=Zf i2 f6
 have e1:=hA.below d3
 have a7:=bln (a0.trans d8) d3
 refine xc 22 (args:=#[P0 bi,V0 0,V0 1,.slice q7 244 d7]) (On w.heap.size bi (S1 g) (k*256) ci 0 (0:Int) (twM x (Z.map Prod.fst) k).2.2 1 q7 d7 244 (Zcm (twS t u v x (Z.map Prod.fst) k)) _ rfl (Co _) ⟨e1.blkI,e1.data,hC.hn⟩ M0 Do Do (Ya (Ze d1) (Co _)) Do a7.size) ?_
 have f9:=a3.below e4
 rintro _ j4 ⟨rfl,f4,h6,d6⟩
 have d5:=a7.trans f4
 exact xe 20 (.tuple #[P0 bi,.nilIface]) (by have hz:=d6;exact⟨_,_,_,rfl,d5,hz⟩)
def Zh3(x y z u:Int):Bool:=decide (0≤x∧x≤16384)&&decide (0≤y∧y≤2147483647)&&decide (0≤z∧z≤16777215)&&decide (0≤u∧u≤16777215)
def DetStrP(x y z u:Int)(w:World)(e:Ending)(w':World):Prop :=
 (Zh3 x y z u=false∧e=.returned (.string ⟨#[]⟩)∧B3 w w')∨(Zh3 x y z u=true∧e=.returned (.string ⟨(Fj [x,y,z,u] [8,8,4,4] 4).toArray⟩)∧B3 w w')
theorem detQ_ok{x y z u:Int}(h:Zh3 x y z u=true):Zgp [x,y,z,u] [8,8,4,4]:=by
 unfold Zh3 at h
 simp only[D3,decide_eq_true_iff] at h
 refine⟨show 4≤100 from by decide,rfl,fun i hi=>?_⟩
 have a0:i<4:=hi
 obtain rfl|rfl|rfl|rfl:i=0∨i=1∨i=2∨i=3:=by omega
 all_goals simp[List.getD]
 all_goals omega
theorem Ih(x y z u:Int)(w:World) :
 C0 175 #[.agg #[V0 x,V0 y,V0 z,V0 u]] w (DetStrP x y z u w):=by
 refine zin 36 Tryz.func175 ?_
 refine xa 2 [V0 x,V0 y,V0 z,V0 u] 174 fun b1 W1 n1=>?_
 refine xb 7 0 n1.blk ?_
 refine xr 0 (args:=#[V0 x,V0 0,V0 16384]) (Qt x 0 16384 _) fun W2 b0=>?_
 refine xg 2 [6,7] (!(decide ((0:Int)≤x∧x≤16384))) (fun c4=>?_) (fun c4=>?_)
 ·have c5:(decide ((0:Int)≤x∧x≤16384))=false:=Qy c4
  have hB:=bln n1.below b0
  exact xe 27 (.string ⟨#[]⟩) (.inl ⟨by unfold Zh3;first|(rw[c5];done)|(rw[c5];rfl)|(rw[c5];simp),rfl,hB⟩)
 have a0:(decide ((0:Int)≤x∧x≤16384))=true:=Vd c4
 have b5:=n1.blk.below b0
 refine xb 1 1 b5 ?_
 refine xr 0 (args:=#[V0 y,V0 0,V0 2147483647]) (Qt y 0 2147483647 _) fun W6 b4=>?_
 refine xg 3 [11,12,13] (!(decide ((0:Int)≤y∧y≤2147483647))) (fun c3=>?_) (fun c3=>?_)
 ·have c1:(decide ((0:Int)≤y∧y≤2147483647))=false:=Qy c3
  have hB:=bln (bln n1.below b0) b4
  exact xe 21 (.string ⟨#[]⟩) (.inl ⟨by unfold Zh3;first|(rw[a0,c1];done)|(rw[a0,c1];rfl)|(rw[a0,c1];simp),rfl,hB⟩)
 have a4:(decide ((0:Int)≤y∧y≤2147483647))=true:=Vd c3
 have b6:=b5.below b4
 refine xb 1 2 b6 ?_
 refine xr 0 (args:=#[V0 z,V0 0,V0 16777215]) (Qt z 0 16777215 _) fun d0 a2=>?_
 refine xg 3 [17,18,19] (!(decide ((0:Int)≤z∧z≤16777215))) (fun a5=>?_) (fun a5=>?_)
 ·have a7:(decide ((0:Int)≤z∧z≤16777215))=false:=Qy a5
  have hB:=bln (bln (bln n1.below b0) b4) a2
  exact xe 15 (.string ⟨#[]⟩) (.inl ⟨by unfold Zh3;first|(rw[a0,a4,a7];done)|(rw[a0,a4,a7];rfl)|(rw[a0,a4,a7];simp),rfl,hB⟩)
 have a1:(decide ((0:Int)≤z∧z≤16777215))=true:=Vd a5
 have b3:=b6.below a2
 refine xb 1 3 b3 ?_
 refine xr 0 (args:=#[V0 u,V0 0,V0 16777215]) (Qt u 0 16777215 _) fun d1 a9=>?_
 refine xi 4 (!(decide ((0:Int)≤u∧u≤16777215))) (fun a6=>?_) (fun a6=>?_)
 ·have a8:(decide ((0:Int)≤u∧u≤16777215))=false:=Qy a6
  have hB:=bln (bln (bln (bln n1.below b0) b4) a2) a9
  exact xe 7 (.string ⟨#[]⟩) (.inl ⟨by unfold Zh3;first|(rw[a0,a4,a1,a8];done)|(rw[a0,a4,a1,a8];rfl)|(rw[a0,a4,a1,a8];simp),rfl,hB⟩)
 have c0:(decide ((0:Int)≤u∧u≤16777215))=true:=Vd a6
 have a3:=b3.below a9
 refine xb 5 0 a3 ?_
 refine xb 1 1 a3 ?_
 refine xb 1 2 a3 ?_
 refine xb 1 3 a3 ?_
 refine xbs 0 4 [V0 x,V0 y,V0 z,V0 u] 3 fun c8 d2 c2=>?_
 refine xbs 0 4 [V0 8,V0 8,V0 4,V0 4] 3 fun c7 d3 b7=>?_
 have b8:=b7.ne c2.blk
 have c6:Zh3 x y z u=true:=by
  unfold Zh3
  rw[a0,a4,a1,c0];rfl
 have b2:=c2.blk.below b7.below
 refine xr 0 (args:=#[.slice (S1 c8) 4 4,.slice (S1 c7) 4 4]) (Jk [x,y,z,u] [8,8,4,4] (S1 c8) (S1 c7) 4 4 _ (detQ_ok c6) (b2.sl 4 4 Do Do) (b7.blk.sl 4 4 Do Do)) fun c9 b9=>?_
 have hB:=bln (bln (bln (bln (bln (bln (bln n1.below b0) b4) a2) a9) c2.below) b7.below) b9
 exact xe 4 (.string ⟨(Fj [x,y,z,u] [8,8,4,4] 4).toArray⟩) (.inr ⟨c6,rfl,hB⟩)
theorem txt1(x:Int)(w:Nat):Fj [x] [w] 1=leB x w:=by simp[Fj,List.range,List.range.loop]
theorem mapV_leB(m:Mp):Ze5 m=leB (m.2.1*16777216+m.2.2) 8:=by simp[Ze5,Zgb,mapP,List.range,List.range.loop]
theorem txtOk1{x:Int}{w:Nat}(h:0≤x∧x<9223372036854775808)(hw:w≤8):Zgp [x] [w]:=⟨show 1≤100 from by decide,rfl,fun i hi=>by
 have a0:i<1:=hi
 obtain rfl:i=0:=by omega
 exact⟨h.1,h.2,hw⟩⟩
theorem Ct(r:Int)(w:World)(h:1≤r∧r≤14399) :
 C0 110 #[V0 r] w (Ret (.string ⟨(leB r 4).toArray⟩) w):=by
 refine zin 10 Tryz.func110 ?_
 refine xr 9 (args:=#[V0 r,V0 1,V0 14399]) (Qt r 1 14399 _) fun W1 a2=>?_
 refine xk 3 (show(!(decide ((1:Int)≤r∧r≤14399)):Bool)=false from by rw[decide_eq_true M0];rfl) ?_
 refine xbs 5 1 [V0 r] 3 fun b2 W2 n2=>?_
 refine xbs 0 1 [V0 4] 3 fun b3 W3 n3=>?_
 have a1:=n3.ne n2.blk
 have a0:=n2.blk.below n3.below
 refine xr 0 (args:=#[.slice (S1 b2) 1 1,.slice (S1 b3) 1 1]) (by have q:=Jk [r] [4] (S1 b2) (S1 b3) 1 1 _ (txtOk1 ⟨by omega,by omega⟩ Do) (a0.sl 1 1 Do Do) (n3.blk.sl 1 1 Do Do);rw[show Fj [r] [4] [r].length=leB r 4 from txt1 _ _] at q;exact q) fun W4 a3=>?_
 have hB:=bln (bln (bln a2 n2.below) n3.below) a3
 exact xe 4 (.string ⟨(leB r 4).toArray⟩) ⟨rfl,hB⟩
theorem Zet(m:Mp)(w:World)(h1:0≤m.2.1∧m.2.1≤65535)(h2:0≤m.2.2∧m.2.2≤16777215) :
 C0 109 #[V0 m.2.1,V0 m.2.2] w (Ret (.string ⟨(Ze5 m).toArray⟩) w):=by
 refine zin 20 Tryz.func109 ?_
 refine xr 9 (args:=#[V0 m.2.1,V0 0,V0 65535]) (Qt m.2.1 0 65535 _) fun W1 a3=>?_
 refine xgk 2 [7,8] (show(!(decide ((0:Int)≤m.2.1∧m.2.1≤65535)):Bool)=false from by rw[decide_eq_true M0];rfl) ?_
 refine xr 1 (args:=#[V0 m.2.2,V0 0,V0 16777215]) (Qt m.2.2 0 16777215 _) fun W3 a4=>?_
 refine xk 4 (show(!(decide ((0:Int)≤m.2.2∧m.2.2≤16777215)):Bool)=false from by rw[decide_eq_true M0];rfl) ?_
 refine xw 5 (m.2.1*16777216) ?_
 refine xw 1 (m.2.1*16777216+m.2.2) ?_
 refine xbs 0 1 [V0 (m.2.1*16777216+m.2.2)] 3 fun b4 W4 n4=>?_
 refine xbs 0 1 [V0 8] 3 fun b5 W5 n5=>?_
 have a1:=n5.ne n4.blk
 have a0:=n4.blk.below n5.below
 refine xr 0 (args:=#[.slice (S1 b4) 1 1,.slice (S1 b5) 1 1]) (by have q:=Jk [m.2.1*16777216+m.2.2] [8] (S1 b4) (S1 b5) 1 1 _ (txtOk1 ⟨by omega,by omega⟩ Do) (a0.sl 1 1 Do Do) (n5.blk.sl 1 1 Do Do);rw[show Fj [m.2.1*16777216+m.2.2] [8] [m.2.1*16777216+m.2.2].length=leB (m.2.1*16777216+m.2.2) 8 from txt1 _ _] at q;exact q) fun W6 a2=>?_
 have hB:=bln (bln (bln (bln a3 a4) n4.below) n5.below) a2
 exact xe 4 (.string ⟨(leB (m.2.1*16777216+m.2.2) 8).toArray⟩) ⟨by rw[mapV_leB],hB⟩
theorem Tr(data n:Int)(d:Dv)(w:World)(h:DevOk data d)(hn:0≤n∧n≤16384):C0 175 #[.agg #[V0 n,V0 d.1.2.1,V0 d.1.2.2.1,V0 d.1.2.2.2]] w (Ret (.string ⟨(Kt n d).toArray⟩) w):=by
 refine(Ih n d.1.2.1 d.1.2.2.1 d.1.2.2.2 w).mono ?_
 rintro e W q
 have h1:=h.tx
 have h2:=h.made
 have h3:=h.snap
 rcases q with ⟨hq,_⟩|⟨_,rfl,hb⟩
 ·unfold Zh3 at hq
  rw[decide_eq_true hn,decide_eq_true h1,decide_eq_true h2,decide_eq_true h3] at hq
  cases hq
 ·exact⟨rfl,hb⟩
theorem Te(p:O0)(c:Nat)(data:Int)(m:List Mp)(w:World)(h:Sts Rp w (.slice p m.length c) m)(hok:MapsOk data m)(hd:data≤65536)(hf:m.length≤16384) :
 C0 52 #[.slice p m.length c] w (Qo (fun w' r=>∃ q d,r=.slice q m.length d∧w'.ownsRow w.heap.size 124 3 (.slice q m.length d) m.length ((Jy m).flatMap Yo)) w):=by
 have b8:=Sl.len h
 refine zin 32 Tryz.func52 ?_
 have hB:=Below.refl w.heap.size w
 refine zl 17 32 (fun zm b2 V=>∃ (k:Nat) (p1:O0) (c1:Nat),b2=[(0,.slice p m.length c),(2,S0),(3,.slice p1 k c1),(4,V0 (k:Int))]∧zm=m.length-((k:Int)).toNat∧B3 w V∧V.ownsRow w.heap.size 124 3 (.slice p1 k c1) k (((Jy m).take k).flatMap Yo)∧k≤m.length) ⟨0,none,0,rfl,rfl,hB,A4 _ _ _ _,A3 _⟩ ?_
 rintro _ _ W1 ⟨k,p1,c1,rfl,rfl,a3,hl,hk⟩ J1 b3 r1
 refine xid 9 ((k:Int)<(m.length:Int)) (fun b0=>?_) (fun b0=>?_)
 ·have b7:=hok.each (m.getD k mpD) (Md _ M0)
  refine xd 4 (.t w.heap.size [124]) ?_
  refine xx (.e [0,1,2] 3) _ m.length k 3 (Sts.cell h Xj mpD (k:=k) (i:=0) M0 rfl).1 ?_
  have a0:=bln a3 (Zb W1)
  refine xlt (.e [4] 5) (.t w.heap.size [124]) (fun V hV=>(Sts.cell (h.below (Vm a0 hV (A6 _))) Xj mpD (k:=k) (i:=0) M0 rfl).2) ?_
  refine xx (.e [6,7] 8) _ m.length k 3 (Sts.cell h Xj mpD (k:=k) (i:=0) M0 rfl).1 ?_
  refine xlt (.e [9] 10) (.t w.heap.size [124]) (fun V hV=>(Sts.cell (h.below (Vm a0 hV (A6 _))) Xj mpD (k:=k) (i:=1) M0 rfl).2) ?_
  refine xx (.e [11,12] 13) _ m.length k 3 (Sts.cell h Xj mpD (k:=k) (i:=0) M0 rfl).1 ?_
  refine xlt (.e [14] 15) (.t w.heap.size [124]) (fun V hV=>(Sts.cell (h.below (Vm a0 hV (A6 _))) Xj mpD (k:=k) (i:=2) M0 rfl).2) ?_
  refine xr (.o [] 16) (args:=#[V0 ((m.getD k mpD).2.1),V0 ((m.getD k mpD).2.2)]) (Zet (m.getD k mpD) _ ⟨by omega,by omega⟩ ⟨by omega,by omega⟩) fun W3 a9=>?_
  refine xbs (.o [17] 18) 1 [V0 ((m.getD k mpD).1),.string ⟨(Ze5 (m.getD k mpD)).toArray⟩,V0 0] 124 fun b4 W4 n4=>?_
  have a4:=bln a0 a9
  have g4:=n4.ge a4
  have a2:=Za (Za hl (Zb W1)) a9
  have a8:=Zg a2 n4
  have a1:=Za a2 n4.below
  have a5:=bln a4 n4.below
  refine ybi (.o [] 19) (.t w.heap.size [124]) fun _ _ _ _ zJ zQ zo zx zy zK=>Zr (m:=1) (news:=[V0 ((m.getD k mpD).1),.string ⟨(Ze5 (m.getD k mpD)).toArray⟩,V0 0]) (.agg #[V0 0,.string ⟨#[]⟩,V0 0]) 3 32 (k+1) ((((Jy m).take (k+1)).flatMap Yo)) zo Tryz.underlying99 K0 rfl Do zx a1 zy (n4.blk.sl 1 1 Do Do) rfl (by simp[Value.oneCell']) (by unfold maxLen;omega) M0 a5.size (by rfl) (by exact Ug (by rw[Qu];omega) (Ht M0)) fun b6 b5 W5 o5 b1 a7=>?_
  refine zK _ _ (Zt a7 b1 a1 Do) ?_
  refine xwm (.r [20] 5) ((k:Int)+1) (↑(k+1):Int) ?_
  have a6:=a5.trans a7
  exact ze 2 (b3 _ _ _ ⟨k+1,_,_,rfl,rfl,a6,o5,by omega⟩ M0)
 exact xe 12 (.slice p1 k c1) (by obtain rfl:k=m.length:=M0;have q:=hl;rw[A1 (by rw[Qu];omega)] at q;exact⟨_,rfl,a3,_,_,rfl,q⟩)
theorem Ls(z:Zv)(data:Int)(w:World)(h:DevOk data z.1)(hf:z.1.2.length≤16384) :
 C0 111 #[.agg #[V0 z.1.1.1,V0 z.1.1.2.1,V0 z.1.1.2.2.1,V0 z.1.1.2.2.2,.slice z.2.1 z.1.2.length z.2.2]] w (Ret (.agg #[V0 z.1.1.1,.string ⟨(Kt (↑z.1.2.length:Int) z.1).toArray⟩,V0 0]) w):=by
 refine zin 17 Tryz.func111 ?_
 refine xa 2 [V0 z.1.1.1,V0 z.1.1.2.1,V0 z.1.1.2.2.1,V0 z.1.1.2.2.2,.slice z.2.1 z.1.2.length z.2.2] 32 fun b1 W1 n1=>?_
 refine xa 0 [V0 0,.string ⟨#[]⟩,V0 0] 124 fun b2 W2 n2=>?_
 refine xd 3 (.t w.heap.size [124]) ?_
 have k1:=(n1.blk.below n2.below).below (Zb W2)
 refine xbt (.e [0] 1) 0 w.heap.size [124] k1 ?_
 refine xbt (.e [2] 3) 4 w.heap.size [124] k1 ?_
 refine xbt (.e [4,5] 6) 1 w.heap.size [124] k1 ?_
 refine xbt (.e [7] 8) 2 w.heap.size [124] k1 ?_
 refine xbt (.e [9] 10) 3 w.heap.size [124] k1 ?_
 refine xr (.o [11] 12) (args:=#[.agg #[V0 (↑z.1.2.length:Int),V0 z.1.1.2.1,V0 z.1.1.2.2.1,V0 z.1.1.2.2.2]]) (Tr data (↑z.1.2.length:Int) z.1 _ h ⟨by omega,by omega⟩) fun W3 a0=>?_
 have k2:=(n2.blk.below (Zb W2)).below a0
 have g2:=n2.ge n1.below
 refine ysv (.o [13] 14) k2 [V0 z.1.1.1,.string ⟨(Kt (↑z.1.2.length:Int) z.1).toArray⟩,V0 0] (.t w.heap.size [124]) fun W4 u4 k4=>⟨(Xb u4 k2 g2 Do),?_⟩
 have hB:=u4.below (bln (bln (bln n1.below n2.below) (Zb W2)) a0) g2
 exact xec 3 k4 (.agg #[V0 z.1.1.1,.string ⟨(Kt (↑z.1.2.length:Int) z.1).toArray⟩,V0 0]) ⟨rfl,hB⟩
theorem Ql(n lo hi:Int)(w:World) :
 C0 101 #[V0 n,V0 lo,V0 hi] w (Ret (.bool (inZ n lo hi)) w):=by
 refine zin 15 Tryz.func101 ?_
 refine xg 11 [9,10] (decide (n≥lo)) (fun a0=>?_) (fun a0=>?_)
 ·have a0:=of_decide_eq_true a0
  exact xe 8 (.bool (decide (n≤hi))) ⟨by rw[show inZ n lo hi=decide (n≤hi) from by unfold inZ;exact decide_eq_decide.2 M0],(B4 w)⟩
 have a0:=of_decide_eq_false a0
 exact xe 8 (.bool false) ⟨by rw[show inZ n lo hi=false from decide_eq_false M0],(B4 w)⟩
theorem Zb3(p:O0)(c n:Nat)(t u v x:Int)(Z:List Zv)(w:World)(hZ:Z.length=n)(hP:DevsR w p c Z) :
 C0 102 #[.agg #[V0 t,V0 u,V0 v,V0 x,.slice p n c]] w (Ret (V0 (Zhc (Z.map Prod.fst))) w):=by
 have a5:=Sl.len (hP.rowN hZ)
 refine zin 22 Tryz.func102 ?_
 refine xa 2 [V0 t,V0 u,V0 v,V0 x,.slice p n c] 24 fun b1 W1 n1=>?_
 refine zl 15 22 (fun zm a3 V=>∃ (i:Nat),a3=[(1,P0 b1),(2,V0 0),(3,V0 (IntKind.i64.wrap (↑(Vo ((Z.map Prod.fst).take i)):Int))),(4,V0 (i:Int))]∧zm=n-((i:Int)).toNat∧B3 w V∧Blk V b1 ([V0 t,V0 u,V0 v,V0 x,.slice p n c]) 24∧i≤n) ⟨0,rfl,rfl,n1.below,n1.blk,A3 _⟩ ?_
 rintro _ _ W2 ⟨i,rfl,rfl,a1,a0,hi⟩ J2 a4 r2
 refine xb 5 4 a0 ?_
 refine xid 4 ((i:Int)<(n:Int)) (fun a2=>?_) (fun a2=>?_)
 ·refine xb 7 4 a0 ?_
  refine xx 1 _ n i 5 (hP.someN hZ (i:=i) M0) ?_
  refine xl 1 ((Sts.cell (hP.below a1).row Xs zvD (k:=i) (i:=4) M0 rfl).2) ?_
  refine xwm 8 ((i:Int)+1) (↑(i+1):Int) ?_
  refine xv1 2 3 (show(V0 (IntKind.i64.wrap ((IntKind.i64.wrap (↑(Vo ((Z.map Prod.fst).take i)):Int))+(↑((Z.getD i zvD).1.2.length):Int))):Value)=V0 (IntKind.i64.wrap (↑(Vo ((Z.map Prod.fst).take (i+1))):Int)) from congrArg V0 ((Zdu _ _).trans (congrArg IntKind.i64.wrap (by have:=Ga (Z:=Z) (i:=i) M0;omega)))) ?_
  exact ze 0 (a4 _ _ _ ⟨i+1,rfl,rfl,a1,a0,by omega⟩ M0)
 exact xe 12 (V0 (IntKind.i64.wrap (↑(Vo ((Z.map Prod.fst).take i)):Int))) ⟨by unfold Zhc;rw[A1 (by rw[At];omega)],a1⟩
def Li(Z:List Zv)(i:Nat):Int:=if i=0 then -1 else(Z.getD (i-1) zvD).1.1.1
def Jw(M:List Mp)(k:Nat):Int:=if k=0 then -1 else(M.getD (k-1) mpD).1
theorem Sw{d:Dv}{last:Int}(h:inZ d.1.1 0 16777215=false∨inZ d.1.2.1 0 2147483647=false∨inZ d.1.2.2.1 0 16777215=false∨inZ d.1.2.2.2 0 16777215=false):dvE d last=2:=dvE_2 (by rcases h with h|h|h|h<;>simp[h])
theorem Lh{data:Int}{m:Mp}{last:Int}(h:inZ m.1 0 281474976710655=false∨inZ m.2.1 0 (data-1)=false∨inZ m.2.2 0 16777215=false):mpE data m last=2:=mpE_2 (by rcases h with h|h|h<;>simp[h])
theorem Rm(Z:List Zv)(i:Nat):Li Z (i+1)=(Z.getD i zvD).1.1.1:=by unfold Li;rw[if_neg M0];rfl
theorem Ws(M:List Mp)(k:Nat):Jw M (k+1)=(M.getD k mpD).1:=by unfold Jw;rw[if_neg M0];rfl
theorem Qq(p:O0)(c n:Nat)(t u v x:Int)(Z:List Zv)(w:World)(hZ:Z.length=n)(hP:DevsR w p c Z) :
 C0 48 #[.agg #[V0 t,V0 u,V0 v,V0 x,.slice p n c]] w (Ret (V0 (Yg t u v x (Z.map Prod.fst))) w):=by
 have n3:=Sl.len (hP.rowN hZ)
 refine zin 131 Tryz.func48 ?_
 refine xa 2 [V0 t,V0 u,V0 v,V0 x,.slice p n c] 24 fun b1 W1 n1=>?_
 refine xb 7 0 n1.blk ?_
 refine xr 0 (args:=#[V0 t,V0 0,V0 2147483647]) (Ql t 0 2147483647 _) fun W2 h5=>?_
 refine xg 2 [10,11] (!(inZ t 0 2147483647)) (fun c4=>?_) (fun c4=>?_)
 ·have c4:=Qy c4
  have hB:=bln n1.below h5
  exact xe 27 (V0 2) ⟨by rw[Jq (by simp[c4])],hB⟩
 have c4:=Vd c4
 have i6:=n1.blk.below h5
 refine xb 1 1 i6 ?_
 refine xr 0 (args:=#[V0 u,V0 0,V0 16777215]) (Ql u 0 16777215 _) fun W4 h7=>?_
 refine xg 3 [15,16,17] (!(inZ u 0 16777215)) (fun c2=>?_) (fun c2=>?_)
 ·have c2:=Qy c2
  have hB:=bln (bln n1.below h5) h7
  exact xe 21 (V0 2) ⟨by rw[Jq (by simp[c2])],hB⟩
 have c2:=Vd c2
 have i8:=i6.below h7
 refine xb 1 2 i8 ?_
 refine xr 0 (args:=#[V0 v,V0 1,V0 65536]) (Ql v 1 65536 _) fun W6 j0=>?_
 refine xg 3 [21,22,23] (!(inZ v 1 65536)) (fun c3=>?_) (fun c3=>?_)
 ·have c3:=Qy c3
  have hB:=bln (bln (bln n1.below h5) h7) j0
  exact xe 15 (V0 2) ⟨by rw[Jq (by simp[c3])],hB⟩
 have c3:=Vd c3
 have i1:=i8.below j0
 refine xb 1 3 i1 ?_
 refine xr 0 (args:=#[V0 x,V0 0,V0 65536]) (Ql x 0 65536 _) fun W8 k0=>?_
 refine xi 4 (!(inZ x 0 65536)) (fun b9=>?_) (fun b9=>?_)
 ·have b9:=Qy b9
  have hB:=bln (bln (bln (bln n1.below h5) h7) j0) k0
  exact xe 7 (V0 2) ⟨by rw[Jq (by simp[b9])],hB⟩
 have b9:=Vd b9
 have h1:=i1.below k0
 refine xb 6 4 h1 ?_
 refine xg 3 [32,33] (decide ((n:Int)>(4096:Int))) (fun f3=>?_) (fun f3=>?_)
 ·have f3:=of_decide_eq_true f3
  have hB:=bln (bln (bln (bln n1.below h5) h7) j0) k0
  exact xe 14 (V0 2) ⟨by rw[Nw (by rw[c4,c2,c3,b9];rfl) (by rw[At];omega)],hB⟩
 have f3:=of_decide_eq_false f3
 refine xlv 0 h1.rp ?_
 have hB:=bln (bln (bln (bln n1.below h5) h7) j0) k0
 refine xr 0 (args:=#[.agg #[V0 t,V0 u,V0 v,V0 x,.slice p n c]]) (Zb3 p c n t u v x Z _ hZ (hP.below hB)) fun o2 h3=>?_
 refine xid 4 ((Zhc (Z.map Prod.fst))>(16384:Int)) (fun k2=>?_) (fun k2=>?_)
 ·have l3:=bln hB h3
  exact xe 7 (V0 2) ⟨by rw[Nw (by rw[c4,c2,c3,b9];rfl) (by rw[At];omega)],l3⟩
 have d9:¬ (4096<(Z.map Prod.fst).length∨16384<Zhc (Z.map Prod.fst)):=by rw[At];omega
 have k9:=bln hB h3
 have k1:=h1.below h3
 refine zl 9 131 (fun zm i2 V=>∃ (i:Nat),i2=[(1,P0 b1),(3,V0 (i:Int))]∧zm=n-((i:Int)).toNat∧B3 w V∧Blk V b1 ([V0 t,V0 u,V0 v,V0 x,.slice p n c]) 24∧i≤n∧Zd3 x (Z.map Prod.fst) (-1)=Zd3 x ((Z.map Prod.fst).drop i) (Li Z i)) ⟨0,rfl,rfl,k9,k1,A3 _,rfl⟩ ?_
 rintro _ _ m9 ⟨i,rfl,rfl,a4,c8,hi,he⟩ n8 j2 n5
 have hx:=Mc.1 b9
 refine xb 5 4 c8 ?_
 refine xid 4 ((i:Int)<(n:Int)) (fun k3=>?_) (fun k3=>?_)
 ·have hM:=hP.each i M0
  refine xb 7 4 c8 ?_
  refine xx 1 _ n i 5 (hP.someN hZ (i:=i) M0) ?_
  refine xlv 0 (Sts.rp (k:=i) (hP.below a4).row Xs zvD M0 Do) ?_
  refine xa 0 [V0 0,V0 0,V0 0,V0 0,S0] 32 fun j9 m7 e4=>?_
  have h8:=e4.ge a4
  refine xsv 0 e4.blk [V0 ((Z.getD i zvD).1.1.1),V0 ((Z.getD i zvD).1.1.2.1),V0 ((Z.getD i zvD).1.1.2.2.1),V0 ((Z.getD i zvD).1.1.2.2.2),.slice ((Z.getD i zvD).2.1) ((Z.getD i zvD).1.2.length) ((Z.getD i zvD).2.2)] fun m8 g9 l8=>?_
  refine xb 6 0 l8 ?_
  refine xr 0 (args:=#[V0 ((Z.getD i zvD).1.1.1),V0 0,V0 16777215]) (Ql ((Z.getD i zvD).1.1.1) 0 16777215 _) fun m1 c9=>?_
  refine xg 2 [53,54] (!(inZ ((Z.getD i zvD).1.1.1) 0 16777215)) (fun a0=>?_) (fun a0=>?_)
  ·have a0:=Qy a0
   have l6:=bln (g9.below (bln a4 e4.below) h8) c9
   exact xe 32 (V0 2) (by have b5:dvE (Z.getD i zvD).1 (Li Z i)=2:=Sw (by first|exact .inl a0|exact .inr (.inl a0)|exact .inr (.inr (.inl a0))|exact .inr (.inr (.inr a0))|exact .inr (.inr a0));exact⟨by rw[Xv (by rw[c4,c2,c3,b9];rfl) d9,he,Xr M0,if_pos (by rw[b5];decide),b5],l6⟩)
  have a0:=Vd a0
  have g2:=l8.below c9
  refine xb 1 1 g2 ?_
  refine xr 0 (args:=#[V0 ((Z.getD i zvD).1.1.2.1),V0 0,V0 2147483647]) (Ql ((Z.getD i zvD).1.1.2.1) 0 2147483647 _) fun o3 d4=>?_
  refine xg 3 [58,59,60] (!(inZ ((Z.getD i zvD).1.1.2.1) 0 2147483647)) (fun a7=>?_) (fun a7=>?_)
  ·have a7:=Qy a7
   have k6:=bln (bln (g9.below (bln a4 e4.below) h8) c9) d4
   exact xe 26 (V0 2) (by have b5:dvE (Z.getD i zvD).1 (Li Z i)=2:=Sw (by first|exact .inl a7|exact .inr (.inl a7)|exact .inr (.inr (.inl a7))|exact .inr (.inr (.inr a7))|exact .inr (.inr a7));exact⟨by rw[Xv (by rw[c4,c2,c3,b9];rfl) d9,he,Xr M0,if_pos (by rw[b5];decide),b5],k6⟩)
  have a7:=Vd a7
  have g7:=g2.below d4
  refine xb 1 2 g7 ?_
  refine xr 0 (args:=#[V0 ((Z.getD i zvD).1.1.2.2.1),V0 0,V0 16777215]) (Ql ((Z.getD i zvD).1.1.2.2.1) 0 16777215 _) fun o6 d7=>?_
  refine xg 3 [64,65,66] (!(inZ ((Z.getD i zvD).1.1.2.2.1) 0 16777215)) (fun b0=>?_) (fun b0=>?_)
  ·have b0:=Qy b0
   have l4:=bln (bln (bln (g9.below (bln a4 e4.below) h8) c9) d4) d7
   exact xe 20 (V0 2) (by have b5:dvE (Z.getD i zvD).1 (Li Z i)=2:=Sw (by first|exact .inl b0|exact .inr (.inl b0)|exact .inr (.inr (.inl b0))|exact .inr (.inr (.inr b0))|exact .inr (.inr b0));exact⟨by rw[Xv (by rw[c4,c2,c3,b9];rfl) d9,he,Xr M0,if_pos (by rw[b5];decide),b5],l4⟩)
  have b0:=Vd b0
  have e6:=g7.below d7
  refine xb 1 3 e6 ?_
  refine xr 0 (args:=#[V0 ((Z.getD i zvD).1.1.2.2.2),V0 0,V0 16777215]) (Ql ((Z.getD i zvD).1.1.2.2.2) 0 16777215 _) fun h6 d8=>?_
  refine xi 4 (!(inZ ((Z.getD i zvD).1.1.2.2.2) 0 16777215)) (fun a9=>?_) (fun a9=>?_)
  ·have a9:=Qy a9
   have k5:=bln (bln (bln (bln (g9.below (bln a4 e4.below) h8) c9) d4) d7) d8
   exact xe 12 (V0 2) (by have b5:dvE (Z.getD i zvD).1 (Li Z i)=2:=Sw (by first|exact .inl a9|exact .inr (.inl a9)|exact .inr (.inr (.inl a9))|exact .inr (.inr (.inr a9))|exact .inr (.inr a9));exact⟨by rw[Xv (by rw[c4,c2,c3,b9];rfl) d9,he,Xr M0,if_pos (by rw[b5];decide),b5],k5⟩)
  have a9:=Vd a9
  refine xd 4 .z ?_
  refine xg (.b [0,1,2]) [73,74] (decide ((i:Int)>(0:Int))) (fun f2=>?_) (fun f2=>?_)
  ·have f2:=of_decide_eq_true f2
   have g8:=(e6.below d8).below (Zb h6)
   refine xb (.e [3] 4) 0 g8 ?_
   have d5:=(((((g9.blkT (c8.below e4.below) e4.blk Do).below c9).below d4).below d7).below d8).below (Zb h6)
   refine xb (.e [5] 6) 4 d5 ?_
   refine xwm (.e [7] 8) ((i:Int)-1) (↑(i-1):Int) ?_
   refine xx (.e [] 9) _ n (i-1) 5 (hP.someN hZ (i:=(i-1)) M0) ?_
   have h2:=bln (bln (bln (bln (bln (g9.below (bln a4 e4.below) h8) c9) d4) d7) d8) (Zb h6)
   refine xl (.e [10] 11) ((Sts.cell (hP.below h2).row Xs zvD (k:=(i-1)) (i:=0) M0 rfl).2) ?_
   refine xid (.r [12,13] 2) ((Z.getD i zvD).1.1.1≤(Z.getD (i-1) zvD).1.1.1) (fun l1=>?_) (fun l1=>?_)
   ·exact xe 12 (V0 8) (by have b5:dvE (Z.getD i zvD).1 (Li Z i)=8:=dvE_8 (by rw[a0,a7,b0,a9];rfl) (by have:=Mc.1 a0;unfold Li;split<;>omega);exact⟨by rw[Xv (by rw[c4,c2,c3,b9];rfl) d9,he,Xr M0,if_pos (by rw[b5];decide),b5],h2⟩)
   have b5:dvE (Z.getD i zvD).1 (Li Z i)=0:=dvE_0 (by rw[a0,a7,b0,a9];rfl) (by have:=Mc.1 a0;unfold Li;split<;>omega)
   have m0:=Sl.len hM
   refine zl 8 131 (fun zm i2 V=>∃ (k:Nat),i2=[(1,P0 b1),(3,V0 (i:Int)),(4,P0 j9),(5,V0 (k:Int))]∧zm=(Z.getD i zvD).1.2.length-((k:Int)).toNat∧B3 w V∧Blk V b1 ([V0 t,V0 u,V0 v,V0 x,.slice p n c]) 24∧Blk V j9 ([V0 ((Z.getD i zvD).1.1.1),V0 ((Z.getD i zvD).1.1.2.1),V0 ((Z.getD i zvD).1.1.2.2.1),V0 ((Z.getD i zvD).1.1.2.2.2),.slice ((Z.getD i zvD).2.1) ((Z.getD i zvD).1.2.length) ((Z.getD i zvD).2.2)]) 32∧k≤(Z.getD i zvD).1.2.length∧Wq x (Z.getD i zvD).1.2 (-1)=Wq x ((Z.getD i zvD).1.2.drop k) (Jw (Z.getD i zvD).1.2 k)) ⟨0,rfl,rfl,h2,d5,g8,A3 _,rfl⟩ ?_
   rintro _ _ m4 ⟨k,rfl,rfl,b4,e5,b8,hk,hm⟩ o4 i5 o0
   refine xb 5 4 b8 ?_
   refine xid 4 ((k:Int)<(↑((Z.getD i zvD).1.2.length):Int)) (fun l2=>?_) (fun l2=>?_)
   ·refine xb 7 4 b8 ?_
    refine xx 1 _ ((Z.getD i zvD).1.2.length) k 3 (Sts.cell hM Xj mpD (k:=k) (i:=0) M0 rfl).1 ?_
    refine xlv 0 (Sts.rp (k:=k) (hM.below b4) Xj mpD M0 Do) ?_
    refine xa 0 [V0 0,V0 0,V0 0] 63 fun n0 n7 e3=>?_
    have i7:=e3.ge b4
    refine xsv 0 e3.blk [V0 (((Z.getD i zvD).1.2.getD k mpD).1),V0 (((Z.getD i zvD).1.2.getD k mpD).2.1),V0 (((Z.getD i zvD).1.2.getD k mpD).2.2)] fun n4 g5 l7=>?_
    refine xb 6 0 l7 ?_
    refine xr 0 (args:=#[V0 (((Z.getD i zvD).1.2.getD k mpD).1),V0 0,V0 281474976710655]) (Ql (((Z.getD i zvD).1.2.getD k mpD).1) 0 281474976710655 _) fun o5 d1=>?_
    refine xg 2 [101,102] (!(inZ (((Z.getD i zvD).1.2.getD k mpD).1) 0 281474976710655)) (fun a2=>?_) (fun a2=>?_)
    ·have a2:=Qy a2
     have k4:=bln (g5.below (bln b4 e3.below) i7) d1
     exact xe 33 (V0 2) (by have a3:mpE x ((Z.getD i zvD).1.2.getD k mpD) (Jw (Z.getD i zvD).1.2 k)=2:=Lh (by first|exact .inl a2|exact .inr (.inl a2)|exact .inr (.inr (.inl a2))|exact .inr (.inr (.inr a2))|exact .inr (.inr a2));have a6:Wq x (Z.getD i zvD).1.2 (-1)=2:=(by rw[hm,Yd (x:=mpD) M0,if_pos (by rw[a3];decide),a3]);exact⟨by rw[Xv (by rw[c4,c2,c3,b9];rfl) d9,he,Xr M0,if_neg (fun q=>q b5),if_pos (by rw[a6];decide),a6],k4⟩)
    have a2:=Vd a2
    have g3:=l7.below d1
    refine xb 1 1 g3 ?_
    have c0:=(g5.blkT (e5.below e3.below) e3.blk Do).below d1
    refine xb 1 3 c0 ?_
    refine xw 0 (x-1) ?_
    refine xr 0 (args:=#[V0 (((Z.getD i zvD).1.2.getD k mpD).2.1),V0 0,V0 (x-1)]) (Ql (((Z.getD i zvD).1.2.getD k mpD).2.1) 0 (x-1) _) fun m5 c7=>?_
    refine xg 3 [109,110,111] (!(inZ (((Z.getD i zvD).1.2.getD k mpD).2.1) 0 (x-1))) (fun a8=>?_) (fun a8=>?_)
    ·have a8:=Qy a8
     have k7:=bln (bln (g5.below (bln b4 e3.below) i7) d1) c7
     exact xe 24 (V0 2) (by have a3:mpE x ((Z.getD i zvD).1.2.getD k mpD) (Jw (Z.getD i zvD).1.2 k)=2:=Lh (by first|exact .inl a8|exact .inr (.inl a8)|exact .inr (.inr (.inl a8))|exact .inr (.inr (.inr a8))|exact .inr (.inr a8));have a6:Wq x (Z.getD i zvD).1.2 (-1)=2:=(by rw[hm,Yd (x:=mpD) M0,if_pos (by rw[a3];decide),a3]);exact⟨by rw[Xv (by rw[c4,c2,c3,b9];rfl) d9,he,Xr M0,if_neg (fun q=>q b5),if_pos (by rw[a6];decide),a6],k7⟩)
    have a8:=Vd a8
    have g6:=g3.below c7
    refine xb 1 2 g6 ?_
    refine xr 0 (args:=#[V0 (((Z.getD i zvD).1.2.getD k mpD).2.2),V0 0,V0 16777215]) (Ql (((Z.getD i zvD).1.2.getD k mpD).2.2) 0 16777215 _) fun h4 d6=>?_
    refine xi 4 (!(inZ (((Z.getD i zvD).1.2.getD k mpD).2.2) 0 16777215)) (fun b2=>?_) (fun b2=>?_)
    ·have b2:=Qy b2
     have i4:=bln (bln (bln (g5.below (bln b4 e3.below) i7) d1) c7) d6
     exact xe 16 (V0 2) (by have a3:mpE x ((Z.getD i zvD).1.2.getD k mpD) (Jw (Z.getD i zvD).1.2 k)=2:=Lh (by first|exact .inl b2|exact .inr (.inl b2)|exact .inr (.inr (.inl b2))|exact .inr (.inr (.inr b2))|exact .inr (.inr b2));have a6:Wq x (Z.getD i zvD).1.2 (-1)=2:=(by rw[hm,Yd (x:=mpD) M0,if_pos (by rw[a3];decide),a3]);exact⟨by rw[Xv (by rw[c4,c2,c3,b9];rfl) d9,he,Xr M0,if_neg (fun q=>q b5),if_pos (by rw[a6];decide),a6],i4⟩)
    have b2:=Vd b2
    refine xd 3 .z ?_
    refine xg (.b [0,1,2]) [118,119] (decide ((k:Int)>(0:Int))) (fun f4=>?_) (fun f4=>?_)
    ·have f4:=of_decide_eq_true f4
     have j5:=(g6.below d6).below (Zb h4)
     refine xb (.e [3] 4) 0 j5 ?_
     have c5:=((((g5.blkT (b8.below e3.below) e3.blk Do).below d1).below c7).below d6).below (Zb h4)
     refine xb (.e [5] 6) 4 c5 ?_
     refine xwm (.e [7] 8) ((k:Int)-1) (↑(k-1):Int) ?_
     refine xx (.e [] 9) _ ((Z.getD i zvD).1.2.length) (k-1) 3 (Sts.cell hM Xj mpD (k:=(k-1)) (i:=0) M0 rfl).1 ?_
     have e7:=bln (bln (bln (bln (g5.below (bln b4 e3.below) i7) d1) c7) d6) (Zb h4)
     refine xl (.e [10] 11) ((Sts.cell (hM.below e7) Xj mpD (k:=(k-1)) (i:=0) M0 rfl).2) ?_
     refine xid (.r [12,13] 2) (((Z.getD i zvD).1.2.getD k mpD).1≤((Z.getD i zvD).1.2.getD (k-1) mpD).1) (fun l5=>?_) (fun l5=>?_)
     ·exact xe 15 (V0 8) (by have a3:mpE x ((Z.getD i zvD).1.2.getD k mpD) (Jw (Z.getD i zvD).1.2 k)=8:=mpE_8 (by rw[a2,a8,b2];rfl) (by have:=Mc.1 a2;unfold Jw;split<;>omega);have a6:Wq x (Z.getD i zvD).1.2 (-1)=8:=(by rw[hm,Yd (x:=mpD) M0,if_pos (by rw[a3];decide),a3]);exact⟨by rw[Xv (by rw[c4,c2,c3,b9];rfl) d9,he,Xr M0,if_neg (fun q=>q b5),if_pos (by rw[a6];decide),a6],e7⟩)
     refine xwm 5 ((k:Int)+1) (↑(k+1):Int) ?_
     have e9:=((c0.below c7).below d6).below (Zb h4)
     exact ze 2 (i5 _ _ _ ⟨k+1,rfl,rfl,e7,e9,c5,by omega,(by have a3:mpE x ((Z.getD i zvD).1.2.getD k mpD) (Jw (Z.getD i zvD).1.2 k)=0:=Zkn (by rw[a2,a8,b2];rfl) (by have:=Mc.1 a2;unfold Jw;split<;>omega);rw[hm,Yd (x:=mpD) M0,if_neg (fun q=>q a3),Ws])⟩ M0)
    have f4:=of_decide_eq_false f4
    refine xwm (.r [3,4,5,6,7,8,9,10,11,12,13] 8) ((k:Int)+1) (↑(k+1):Int) ?_
    have j1:=bln (bln (bln (bln (g5.below (bln b4 e3.below) i7) d1) c7) d6) (Zb h4)
    have f5:=((c0.below c7).below d6).below (Zb h4)
    have e2:=((((g5.blkT (b8.below e3.below) e3.blk Do).below d1).below c7).below d6).below (Zb h4)
    exact ze 2 (i5 _ _ _ ⟨k+1,rfl,rfl,j1,f5,e2,by omega,(by have a3:mpE x ((Z.getD i zvD).1.2.getD k mpD) (Jw (Z.getD i zvD).1.2 k)=0:=Zkn (by rw[a2,a8,b2];rfl) (by have:=Mc.1 a2;unfold Jw;split<;>omega);rw[hm,Yd (x:=mpD) M0,if_neg (fun q=>q a3),Ws])⟩ M0)
   refine xwm 8 ((i:Int)+1) (↑(i+1):Int) ?_
   exact ze 2 (j2 _ _ _ ⟨i+1,rfl,rfl,b4,e5,by omega,(by have a6:Wq x (Z.getD i zvD).1.2 (-1)=0:=(by rw[hm,So M0]);rw[he,Xr M0,if_neg (fun q=>q b5),if_neg (fun q=>q a6),Rm])⟩ M0)
  have f2:=of_decide_eq_false f2
  have b5:dvE (Z.getD i zvD).1 (Li Z i)=0:=dvE_0 (by rw[a0,a7,b0,a9];rfl) (by have:=Mc.1 a0;unfold Li;split<;>omega)
  have m0:=Sl.len hM
  have i3:=bln (bln (bln (bln (bln (g9.below (bln a4 e4.below) h8) c9) d4) d7) d8) (Zb h6)
  have f8:=(((((g9.blkT (c8.below e4.below) e4.blk Do).below c9).below d4).below d7).below d8).below (Zb h6)
  have j7:=(e6.below d8).below (Zb h6)
  refine zl (.r [3,4,5,6,7,8,9,10,11,12,13] 11) 131 (fun zm i2 V=>∃ (k:Nat),i2=[(1,P0 b1),(3,V0 (i:Int)),(4,P0 j9),(5,V0 (k:Int))]∧zm=(Z.getD i zvD).1.2.length-((k:Int)).toNat∧B3 w V∧Blk V b1 ([V0 t,V0 u,V0 v,V0 x,.slice p n c]) 24∧Blk V j9 ([V0 ((Z.getD i zvD).1.1.1),V0 ((Z.getD i zvD).1.1.2.1),V0 ((Z.getD i zvD).1.1.2.2.1),V0 ((Z.getD i zvD).1.1.2.2.2),.slice ((Z.getD i zvD).2.1) ((Z.getD i zvD).1.2.length) ((Z.getD i zvD).2.2)]) 32∧k≤(Z.getD i zvD).1.2.length∧Wq x (Z.getD i zvD).1.2 (-1)=Wq x ((Z.getD i zvD).1.2.drop k) (Jw (Z.getD i zvD).1.2 k)) ⟨0,rfl,rfl,i3,f8,j7,A3 _,rfl⟩ ?_
  rintro _ _ o7 ⟨k,rfl,rfl,b6,f1,b7,hk,hm⟩ n9 j3 o1
  refine xb 5 4 b7 ?_
  refine xid 4 ((k:Int)<(↑((Z.getD i zvD).1.2.length):Int)) (fun k8=>?_) (fun k8=>?_)
  ·refine xb 7 4 b7 ?_
   refine xx 1 _ ((Z.getD i zvD).1.2.length) k 3 (Sts.cell hM Xj mpD (k:=k) (i:=0) M0 rfl).1 ?_
   refine xlv 0 (Sts.rp (k:=k) (hM.below b6) Xj mpD M0 Do) ?_
   refine xa 0 [V0 0,V0 0,V0 0] 63 fun n6 m3 e0=>?_
   have j8:=e0.ge b6
   refine xsv 0 e0.blk [V0 (((Z.getD i zvD).1.2.getD k mpD).1),V0 (((Z.getD i zvD).1.2.getD k mpD).2.1),V0 (((Z.getD i zvD).1.2.getD k mpD).2.2)] fun m2 g0 l9=>?_
   refine xb 6 0 l9 ?_
   refine xr 0 (args:=#[V0 (((Z.getD i zvD).1.2.getD k mpD).1),V0 0,V0 281474976710655]) (Ql (((Z.getD i zvD).1.2.getD k mpD).1) 0 281474976710655 _) fun m6 d2=>?_
   refine xg 2 [101,102] (!(inZ (((Z.getD i zvD).1.2.getD k mpD).1) 0 281474976710655)) (fun a1=>?_) (fun a1=>?_)
   ·have a1:=Qy a1
    have h9:=bln (g0.below (bln b6 e0.below) j8) d2
    exact xe 33 (V0 2) (by have a3:mpE x ((Z.getD i zvD).1.2.getD k mpD) (Jw (Z.getD i zvD).1.2 k)=2:=Lh (by first|exact .inl a1|exact .inr (.inl a1)|exact .inr (.inr (.inl a1))|exact .inr (.inr (.inr a1))|exact .inr (.inr a1));have a6:Wq x (Z.getD i zvD).1.2 (-1)=2:=(by rw[hm,Yd (x:=mpD) M0,if_pos (by rw[a3];decide),a3]);exact⟨by rw[Xv (by rw[c4,c2,c3,b9];rfl) d9,he,Xr M0,if_neg (fun q=>q b5),if_pos (by rw[a6];decide),a6],h9⟩)
   have a1:=Vd a1
   have g1:=l9.below d2
   refine xb 1 1 g1 ?_
   have c1:=(g0.blkT (f1.below e0.below) e0.blk Do).below d2
   refine xb 1 3 c1 ?_
   refine xw 0 (x-1) ?_
   refine xr 0 (args:=#[V0 (((Z.getD i zvD).1.2.getD k mpD).2.1),V0 0,V0 (x-1)]) (Ql (((Z.getD i zvD).1.2.getD k mpD).2.1) 0 (x-1) _) fun n2 d0=>?_
   refine xg 3 [109,110,111] (!(inZ (((Z.getD i zvD).1.2.getD k mpD).2.1) 0 (x-1))) (fun a5=>?_) (fun a5=>?_)
   ·have a5:=Qy a5
    have i9:=bln (bln (g0.below (bln b6 e0.below) j8) d2) d0
    exact xe 24 (V0 2) (by have a3:mpE x ((Z.getD i zvD).1.2.getD k mpD) (Jw (Z.getD i zvD).1.2 k)=2:=Lh (by first|exact .inl a5|exact .inr (.inl a5)|exact .inr (.inr (.inl a5))|exact .inr (.inr (.inr a5))|exact .inr (.inr a5));have a6:Wq x (Z.getD i zvD).1.2 (-1)=2:=(by rw[hm,Yd (x:=mpD) M0,if_pos (by rw[a3];decide),a3]);exact⟨by rw[Xv (by rw[c4,c2,c3,b9];rfl) d9,he,Xr M0,if_neg (fun q=>q b5),if_pos (by rw[a6];decide),a6],i9⟩)
   have a5:=Vd a5
   have f9:=g1.below d0
   refine xb 1 2 f9 ?_
   refine xr 0 (args:=#[V0 (((Z.getD i zvD).1.2.getD k mpD).2.2),V0 0,V0 16777215]) (Ql (((Z.getD i zvD).1.2.getD k mpD).2.2) 0 16777215 _) fun h0 d3=>?_
   refine xi 4 (!(inZ (((Z.getD i zvD).1.2.getD k mpD).2.2) 0 16777215)) (fun b3=>?_) (fun b3=>?_)
   ·have b3:=Qy b3
    have j6:=bln (bln (bln (g0.below (bln b6 e0.below) j8) d2) d0) d3
    exact xe 16 (V0 2) (by have a3:mpE x ((Z.getD i zvD).1.2.getD k mpD) (Jw (Z.getD i zvD).1.2 k)=2:=Lh (by first|exact .inl b3|exact .inr (.inl b3)|exact .inr (.inr (.inl b3))|exact .inr (.inr (.inr b3))|exact .inr (.inr b3));have a6:Wq x (Z.getD i zvD).1.2 (-1)=2:=(by rw[hm,Yd (x:=mpD) M0,if_pos (by rw[a3];decide),a3]);exact⟨by rw[Xv (by rw[c4,c2,c3,b9];rfl) d9,he,Xr M0,if_neg (fun q=>q b5),if_pos (by rw[a6];decide),a6],j6⟩)
   have b3:=Vd b3
   refine xd 3 .z ?_
   refine xg (.b [0,1,2]) [118,119] (decide ((k:Int)>(0:Int))) (fun f0=>?_) (fun f0=>?_)
   ·have f0:=of_decide_eq_true f0
    have i0:=(f9.below d3).below (Zb h0)
    refine xb (.e [3] 4) 0 i0 ?_
    have c6:=((((g0.blkT (b7.below e0.below) e0.blk Do).below d2).below d0).below d3).below (Zb h0)
    refine xb (.e [5] 6) 4 c6 ?_
    refine xwm (.e [7] 8) ((k:Int)-1) (↑(k-1):Int) ?_
    refine xx (.e [] 9) _ ((Z.getD i zvD).1.2.length) (k-1) 3 (Sts.cell hM Xj mpD (k:=(k-1)) (i:=0) M0 rfl).1 ?_
    have e8:=bln (bln (bln (bln (g0.below (bln b6 e0.below) j8) d2) d0) d3) (Zb h0)
    refine xl (.e [10] 11) ((Sts.cell (hM.below e8) Xj mpD (k:=(k-1)) (i:=0) M0 rfl).2) ?_
    refine xid (.r [12,13] 2) (((Z.getD i zvD).1.2.getD k mpD).1≤((Z.getD i zvD).1.2.getD (k-1) mpD).1) (fun l0=>?_) (fun l0=>?_)
    ·exact xe 15 (V0 8) (by have a3:mpE x ((Z.getD i zvD).1.2.getD k mpD) (Jw (Z.getD i zvD).1.2 k)=8:=mpE_8 (by rw[a1,a5,b3];rfl) (by have:=Mc.1 a1;unfold Jw;split<;>omega);have a6:Wq x (Z.getD i zvD).1.2 (-1)=8:=(by rw[hm,Yd (x:=mpD) M0,if_pos (by rw[a3];decide),a3]);exact⟨by rw[Xv (by rw[c4,c2,c3,b9];rfl) d9,he,Xr M0,if_neg (fun q=>q b5),if_pos (by rw[a6];decide),a6],e8⟩)
    refine xwm 5 ((k:Int)+1) (↑(k+1):Int) ?_
    have f6:=((c1.below d0).below d3).below (Zb h0)
    exact ze 2 (j3 _ _ _ ⟨k+1,rfl,rfl,e8,f6,c6,by omega,(by have a3:mpE x ((Z.getD i zvD).1.2.getD k mpD) (Jw (Z.getD i zvD).1.2 k)=0:=Zkn (by rw[a1,a5,b3];rfl) (by have:=Mc.1 a1;unfold Jw;split<;>omega);rw[hm,Yd (x:=mpD) M0,if_neg (fun q=>q a3),Ws])⟩ M0)
   have f0:=of_decide_eq_false f0
   refine xwm (.r [3,4,5,6,7,8,9,10,11,12,13] 8) ((k:Int)+1) (↑(k+1):Int) ?_
   have j4:=bln (bln (bln (bln (g0.below (bln b6 e0.below) j8) d2) d0) d3) (Zb h0)
   have f7:=((c1.below d0).below d3).below (Zb h0)
   have e1:=((((g0.blkT (b7.below e0.below) e0.blk Do).below d2).below d0).below d3).below (Zb h0)
   exact ze 2 (j3 _ _ _ ⟨k+1,rfl,rfl,j4,f7,e1,by omega,(by have a3:mpE x ((Z.getD i zvD).1.2.getD k mpD) (Jw (Z.getD i zvD).1.2 k)=0:=Zkn (by rw[a1,a5,b3];rfl) (by have:=Mc.1 a1;unfold Jw;split<;>omega);rw[hm,Yd (x:=mpD) M0,if_neg (fun q=>q a3),Ws])⟩ M0)
  refine xwm 8 ((i:Int)+1) (↑(i+1):Int) ?_
  exact ze 2 (j2 _ _ _ ⟨i+1,rfl,rfl,b6,f1,by omega,(by have a6:Wq x (Z.getD i zvD).1.2 (-1)=0:=(by rw[hm,So M0]);rw[he,Xr M0,if_neg (fun q=>q b5),if_neg (fun q=>q a6),Rm])⟩ M0)
 exact xe 11 (V0 0) ⟨by rw[Xv (by rw[c4,c2,c3,b9];rfl) d9,he,Zcx (by rw[At];omega)],a4⟩
theorem Zhv{w:World}{p:O0}{c:Nat}{M:List Mp}(h:Sts Rp w (.slice p M.length c) M){k:Nat}(hk:k<M.length)(h0:0≤(M.getD k mpD).2.1):w.cell? ((Xa p (k*3)).add 1)=some (V0 (((M.getD k mpD).2.1.toNat:Nat):Int)):=by
 rw[Int.toNat_of_nonneg h0];exact(Sts.cell h Xj mpD (k:=k) (i:=1) hk rfl).2
theorem Zim{x:Nat}{Z:List Zv}{i k:Nat}(hi:i<Z.length)(hk:k<(Z.getD i zvD).1.2.length)(h0:0≤((Z.getD i zvD).1.2.getD k mpD).2.1) :
 ((Ha (List.replicate x 0) ((Vc 0 (Z.map Prod.fst)).take (Vo ((Z.map Prod.fst).take i)+k))).map nv).set (((Z.getD i zvD).1.2.getD k mpD).2.1.toNat) (V0 (((Ha (List.replicate x 0) ((Vc 0 (Z.map Prod.fst)).take (Vo ((Z.map Prod.fst).take i)+k))).getD (((Z.getD i zvD).1.2.getD k mpD).2.1.toNat) 0+1:Nat):Int))=(Ha (List.replicate x 0) ((Vc 0 (Z.map Prod.fst)).take (Vo ((Z.map Prod.fst).take i)+(k+1)))).map nv:=by
 have hz:=Rn hi dvD
 have a0:=Zcr (L:=Z.map Prod.fst) (i:=i) (j:=k) (by rw[At];exact hi) (by rw[hz];exact hk)
 rw[hz] at a0
 rw[Zbv,Int.toNat_of_nonneg h0,←D4,Ru _ _ a0];rfl
theorem Zew{x:Nat}{L:List Dv}(h:DevsOk (x:Int) L)(j b:Nat):(Ha (List.replicate x 0) ((Vc 0 L).take j)).getD b 0≤16384:=by
 have a:=Pu (Ha (List.replicate x 0) ((Vc 0 L).take j)) b
 rw[Fd (data:=x) _ (fun y hy=>Am h 0 y (I4 hy)) _ A7,K9,D1,Uv] at a
 have:=h.sum
 omega
theorem sumM_all{L:List Dv}{i:Nat}(h:L.length≤i):Vo (L.take i)=Vo L:=by rw[A1 h]
theorem Lb(p:O0)(c n x:Nat)(t u v:Int)(Z:List Zv)(w:World)(hZ:Z.length=n)(hP:DevsR w p c Z)(hk:PoolOk t u v (x:Int) (Z.map Prod.fst)) :
 C0 113 #[.agg #[V0 t,V0 u,V0 v,V0 (x:Int),.slice p n c]] w (Qo (fun w' r=>∃ q d,r=.slice q x d∧w'.ownsRow w.heap.size 3 1 (.slice q x d) x ((Yn x (Z.map Prod.fst)).map nv)) w):=by
 have hx:x≤65536:=by have:=hk.hdata;omega
 have c5:=Sl.len (hP.rowN hZ)
 refine zin 46 Tryz.func113 ?_
 refine xa 2 [V0 t,V0 u,V0 v,V0 (x:Int),.slice p n c] 24 fun b1 W1 n1=>?_
 refine xlv 6 n1.blk.rp ?_
 refine xr 0 (args:=#[.agg #[V0 t,V0 u,V0 v,V0 (x:Int),.slice p n c]]) (Qq p c n t u v (x:Int) Z _ hZ (hP.below n1.below)) fun W2 b6=>?_
 refine xk 3 (show(((Yg t u v (x:Int) (Z.map Prod.fst)) != (0:Int)):Bool)=false from(by rw[Qx.2 hk];rfl)) ?_
 have a6:=n1.blk.below b6
 refine xb 5 3 a6 ?_
 refine xmk 0 fun _ _ _ _ zJ zQ zo zx zy zK=>Kf x (V0 0) 1 8 ((List.replicate x (0:Nat)).map nv) zo zx zy Tryz.underlying27 K0 rfl M0 M0 ((Zis x)) fun b3 W3 n3=>?_
 have a5:=bln n1.below b6
 have g3:=n3.ge a5
 refine zK _ _ ?_
 have o3:=Zz (size:=1) (n:=x) n3.blk g3 (by rw[At,A7,D5]) (by unfold maxLen;omega)
 have b4:=bln a5 n3.below
 have b5:=a6.below n3.below
 refine zl 10 46 (fun zm a8 V=>∃ (i:Nat),a8=[(1,P0 b1),(2,S0),(3,.slice (S1 b3) x x),(4,V0 (i:Int))]∧zm=n-((i:Int)).toNat∧B3 w V∧Blk V b1 ([V0 t,V0 u,V0 v,V0 (x:Int),.slice p n c]) 24∧V.ownsRow w.heap.size 3 1 (.slice (S1 b3) x x) x ((Ha (List.replicate x 0) ((Vc 0 (Z.map Prod.fst)).take (Vo ((Z.map Prod.fst).take i)))).map nv)∧i≤n) ⟨0,rfl,rfl,b4,b5,o3,A3 _⟩ ?_
 rintro _ _ W4 ⟨i,rfl,rfl,a7,a4,hc,hi⟩ J4 c1 r4
 refine xb 5 4 a4 ?_
 refine xid 4 ((i:Int)<(n:Int)) (fun c0=>?_) (fun c0=>?_)
 ·have hM:=hP.each i M0
  have a9:=(hk.devs.each (Z.getD i zvD).1 (by rw[←Rn (show i<Z.length by omega) dvD];exact Md _ (by rw[At];omega))).maps
  have c3:=Sl.len hM
  have b9:=Ga (Z:=Z) (i:=i) M0
  refine zl 10 46 (fun zm a8 V=>∃ (k:Nat),a8=[(1,P0 b1),(2,S0),(3,.slice (S1 b3) x x),(4,V0 (i:Int)),(5,V0 (k:Int))]∧zm=(Z.getD i zvD).1.2.length-((k:Int)).toNat∧B3 w V∧Blk V b1 ([V0 t,V0 u,V0 v,V0 (x:Int),.slice p n c]) 24∧V.ownsRow w.heap.size 3 1 (.slice (S1 b3) x x) x ((Ha (List.replicate x 0) ((Vc 0 (Z.map Prod.fst)).take (Vo ((Z.map Prod.fst).take i)+k))).map nv)∧k≤(Z.getD i zvD).1.2.length) ⟨0,rfl,rfl,a7,a4,hc,A3 _⟩ ?_
  rintro _ _ W6 ⟨k,rfl,rfl,a1,a0,a2,c6⟩ J6 b7 r6
  refine xb 5 4 a0 ?_
  refine xx 1 _ n i 5 (hP.someN hZ (i:=i) M0) ?_
  refine xl 1 ((Sts.cell (hP.below a1).row Xs zvD (k:=i) (i:=4) M0 rfl).2) ?_
  refine xid 4 ((k:Int)<(↑((Z.getD i zvD).1.2.length):Int)) (fun b8=>?_) (fun b8=>?_)
  ·have b2:=a9.each ((Z.getD i zvD).1.2.getD k mpD) (Md _ M0)
   have c2:=Zew hk.devs (Vo ((Z.map Prod.fst).take i)+k) ((Z.getD i zvD).1.2.getD k mpD).2.1.toNat
   have c4:((Z.getD i zvD).1.2.getD k mpD).2.1.toNat<x:=by have:=b2.2.1;omega
   refine xb 7 4 a0 ?_
   refine xx 1 _ n i 5 (hP.someN hZ (i:=i) M0) ?_
   refine xl 1 ((Sts.cell (hP.below a1).row Xs zvD (k:=i) (i:=4) M0 rfl).2) ?_
   refine xx 1 _ ((Z.getD i zvD).1.2.length) k 3 (Sts.cell hM Xj mpD (k:=k) (i:=0) M0 rfl).1 ?_
   refine xl 1 (Zhv (hM.below a1) (k:=k) M0 b2.2.1.1) ?_
   refine xx 0 _ x (((Z.getD i zvD).1.2.getD k mpD).2.1.toNat) 1 (show(some (⟨b3,0,none⟩:Addr)).isSome=true from rfl) ?_
   refine xl 0 ((Hf (Ze a2) (k:=((Z.getD i zvD).1.2.getD k mpD).2.1.toNat) (by rw[Fh,A7];omega)).2) ?_
   refine xwm 0 ((↑((Ha (List.replicate x 0) ((Vc 0 (Z.map Prod.fst)).take (Vo ((Z.map Prod.fst).take i)+k))).getD (((Z.getD i zvD).1.2.getD k mpD).2.1.toNat) 0):Int)+1) (↑(((Ha (List.replicate x 0) ((Vc 0 (Z.map Prod.fst)).take (Vo ((Z.map Prod.fst).take i)+k))).getD (((Z.getD i zvD).1.2.getD k mpD).2.1.toNat) 0)+1):Int) ?_
   refine xx 0 _ x (((Z.getD i zvD).1.2.getD k mpD).2.1.toNat) 1 (show(some (⟨b3,0,none⟩:Addr)).isSome=true from rfl) ?_
   refine xst 0 fun _ _ _ _ zJ zQ zo zx zy zK=>Xk (t:=3) (k:=((Z.getD i zvD).1.2.getD k mpD).2.1.toNat) (v:=V0 (↑(((Ha (List.replicate x 0) ((Vc 0 (Z.map Prod.fst)).take (Vo ((Z.map Prod.fst).take i)+k))).getD (((Z.getD i zvD).1.2.getD k mpD).2.1.toNat) 0)+1):Int)) zo zx zy K0 rfl a2 M0 fun W8 u8 o8=>?_
   rw[Zim (x:=x) (Z:=Z) (i:=i) (k:=k) M0 M0 b2.2.1.1] at o8
   refine zK _ _ ?_
   refine xwm 5 ((k:Int)+1) (↑(k+1):Int) ?_
   have b0:=u8.below a1 (Qa a2)
   have a3:=u8.blk a0 (Xd a0 a2 Do)
   exact ze 2 (b7 _ _ _ ⟨k+1,rfl,rfl,b0,a3,o8,by omega⟩ M0)
  refine xwm 8 ((i:Int)+1) (↑(i+1):Int) ?_
  exact ze 2 (c1 _ _ _ ⟨i+1,rfl,rfl,a1,a0,(by rw[b9,←show k=(Z.getD i zvD).1.2.length by omega];exact a2),by omega⟩ M0)
 exact xe 12 (.slice (S1 b3) x x) ⟨_,rfl,a7,_,_,rfl,by have q:=hc;rw[sumM_all (by rw[At];omega),A1 (by rw[Uv];exact A6 _)] at q;exact q⟩
theorem Fi(B bc bm:Nat)(pg:O0)(N cg:Nat)(fa:O0)(mf fc f k0:Nat)(p:O0)(K cI:Nat)(bs:Bl)(a:O0)(c:Nat)(l:List Int)(w:World)(hR:RAl B bc bm pg N cg fa mf fc k0 (Qn f N) w)(h:Sl w (.slice a l.length c) l.length (l.map V0))(hl:l.length≤65536)(ho:(Zl l l.length).length≤32768)(hs:Qd l=0)(hk:k0+Hl l≤N)(hf:f+N≤K)(hf1:1≤f)(hK:K≤14400)(hJ:RefI B bm p K cI bs w)(hBw:B≤w.heap.size) :
 C0 112 #[P0 bc,.slice a l.length c] w (RDataP B bc bm pg N cg f k0 p K cI bs l w):=by
 have m0:=Ii hl ho
 have i0:=Gj hs
 have k5:=Ji l l.length
 have k9:Hl l=(bmN l.length)+Zw 4 (bmN l.length)+Zw 5 (Zl l l.length).length:=rfl
 have l6:=Yp 4 (bmN l.length)
 have l8:=Yp 5 (Zl l l.length).length
 have m1:=hR.hm
 refine zin 78 Tryz.func112 ?_
 refine xa 4 [S0,V0 0] 44 fun b1 W1 n1=>?_
 refine xc 5 (args:=#[.slice a l.length c]) (Pg a c l _ (h.below n1.below) M0 hs) ?_
 rintro _ W2 ⟨pb,cb,gs,po,co,rfl,c6,hL,f0⟩
 have i2:=(blB (Below.refl B w) hBw n1.below).size
 refine xd 21 .z ?_
 have e0:=((hR.below n1.below).below c6).below (Zb W2)
 refine xl (.e [0,1,2] 3) (e0.blk.cell (i:=1) rfl) ?_
 refine xr (.o [4,5,6,7,8,11,12] 9) (args:=#[V0 4,V0 (↑(bmN l.length):Int)]) (Yj 4 (bmN l.length) _ Do Do M0) fun W3 b3=>?_
 refine xwm (.e [] 10) ((↑(bmN l.length):Int)+(↑(Zw 4 (bmN l.length)):Int)) (↑((bmN l.length)+(Zw 4 (bmN l.length))):Int) ?_
 refine xr (.o [] 13) (args:=#[V0 5,V0 (↑((Zl l l.length).length):Int)]) (Yj 5 (Zl l l.length).length _ Do Do M0) fun W4 b2=>?_
 refine xwm (.e [] 14) ((↑((bmN l.length)+(Zw 4 (bmN l.length))):Int)+(↑(Zw 5 (Zl l l.length).length):Int)) (↑(((bmN l.length)+(Zw 4 (bmN l.length)))+(Zw 5 (Zl l l.length).length)):Int) ?_
 refine xk (.r [15] 2) (show(decide ((mf:Int)<(↑(((bmN l.length)+(Zw 4 (bmN l.length)))+(Zw 5 (Zl l l.length).length)):Int)):Bool)=false from decide_eq_false M0) ?_
 have f7:=(e0.below b3).below b2
 have h4:=((((hJ.below n1.below).below c6).below (Zb W2)).below b3).below b2
 have g0:=((hL.below (Zb W2)).below b3).below b2
 have hB:=blB (blB (blB (blB (blB (Below.refl B w) hBw n1.below) hBw c6) hBw (Zb W2)) hBw b3) hBw b2
 refine xc 6 (args:=#[P0 bc,.slice pb (bmN l.length) cb]) (Sb (bmN l.length) B bc bm pg N cg fa mf fc f k0 p K cI bs _ pb cb gs (Zo (Zh l) (bmN l.length)) _ (Xq _ _) f7 h4 g0 (Gy i0.2 _) hf M0 M0 (N0 hBw hB.size)) ?_
 rintro _ W5 ⟨a8,c8,j0,j4,i9,rfl,j1,g5,hR,hJ,e6⟩
 have i6:=(blB (blB (blB (blB (blB (Below.refl B w) hBw n1.below) hBw c6) hBw (Zb W2)) hBw b3) hBw b2).size
 have d6:=Zi (Za (Za (Za (Zf f0 i2) (Zb W2)) b3) b2) g5 Do
 have d2:=Zf e6 i6
 have g6:=hB.trans j1
 have hO:=(((((show Zd [189,9] w _ from(Zd.of_below n1.below)).trans (Zd.of_below c6)).trans (Zd.of_below (Zb W2))).trans (Zd.of_below b3)).trans (Zd.of_below b2)).trans g5
 have k1:=((((n1.blk.below c6).below (Zb W2)).below b3).below b2).only g5 Do
 refine zl 15 78 (fun zm i5 V=>∃ (i:Nat) (p2:O0) (c2:Nat),i5=[(0,P0 bc),(4,V0 0),(5,V0 0),(6,P0 b1),(8,.slice po ((Zl l l.length).length) co),(10,.slice a8 (bmN l.length) c8),(11,.slice p2 i c2),(12,V0 (i:Int))]∧zm=(bmN l.length)-((i:Int)).toNat∧Below B w V∧Zd [189,9] w V∧Blk V b1 ([S0,V0 0]) 44∧V.ownsRow w.heap.size 124 3 (.slice p2 i c2) i ((Xy (Zo (Zh l) (bmN l.length)) (f+k0) i).flatMap Yo)∧V.ownsRow w.heap.size 124 3 (.slice po ((Zl l l.length).length) co) ((Zl l l.length).length) ((Zl l l.length).flatMap Yo)∧V.ownsRow w.heap.size 126 3 (.slice a8 (bmN l.length) c8) (bmN l.length) ((rsL (Zo (Zh l) (bmN l.length)) (f+k0) (bmN l.length)))∧RAl B bc bm pg N cg j0 j4 i9 (k0+(bmN l.length)) (Qn f N) V∧RefI B bm p K cI (Kn (Zo (Zh l) (bmN l.length)) (f+k0) bs (bmN l.length)) V∧i≤(bmN l.length)∧Yf (.slice p2 i c2) (.slice po (Zl l l.length).length co)) ⟨0,none,0,rfl,rfl,g6,hO,k1,A4 _ _ _ _,d6,d2,hR,hJ,A3 _,Yf.nil _⟩ ?_
 rintro _ _ W6 ⟨i,p2,c2,rfl,rfl,c1,e4,b5,h7,f0,e6,hR,hJ,hi,e8⟩ J6 j2 r6
 refine xid 9 ((i:Int)<(↑(bmN l.length):Int)) (fun i8=>?_) (fun i8=>?_)
 ·refine xx 9 _ (bmN l.length) i 3 (Sts.cell (Zdj (Ze e6)) Us rsD (k:=i) (i:=0) (by rw[Pc];omega) rfl).1 ?_
  refine xlv 0 (Sts.rp (k:=i) (Zdj (Ze e6)) Us rsD (by rw[Pc];omega) Do) ?_
  have h0:((Rs (Zo (Zh l) (bmN l.length)) (f+k0) (bmN l.length)).getD i rsD)=((f+k0)+i,Ye ((Zo (Zh l) (bmN l.length)).getD i []),Xe ((Zo (Zh l) (bmN l.length)).getD i [])):=Zjj M0
  have h8:=Gy i0.2 (bmN l.length) i (by rw[Xq];omega)
  have l2:Ye ((Zo (Zh l) (bmN l.length)).getD i [])≤960:=N0 (Wl _ _) h8.2
  have k3:Xe ((Zo (Zh l) (bmN l.length)).getD i [])≤960:=N0 (Ma _) h8.2
  refine xr 0 (args:=#[.agg #[V0 (↑((Rs (Zo (Zh l) (bmN l.length)) (f+k0) (bmN l.length)).getD i rsD).1:Int),V0 (↑((Rs (Zo (Zh l) (bmN l.length)) (f+k0) (bmN l.length)).getD i rsD).2.1:Int),V0 (↑((Rs (Zo (Zh l) (bmN l.length)) (f+k0) (bmN l.length)).getD i rsD).2.2:Int)]]) (Pn (↑((Rs (Zo (Zh l) (bmN l.length)) (f+k0) (bmN l.length)).getD i rsD).1:Int) (↑((Rs (Zo (Zh l) (bmN l.length)) (f+k0) (bmN l.length)).getD i rsD).2.1:Int) (↑((Rs (Zo (Zh l) (bmN l.length)) (f+k0) (bmN l.length)).getD i rsD).2.2:Int) _ (by rw[h0];show 1≤((f+k0+i:Nat):Int)∧((f+k0+i:Nat):Int)≤14399;omega) (by rw[h0];show 0≤((Ye _:Nat):Int)∧((Ye _:Nat):Int)≤960;omega) (by rw[h0];show 0≤((Xe _:Nat):Int)∧((Xe _:Nat):Int)≤960;omega)) fun W8 b4=>?_
  refine xbs 1 1 [V0 (i:Int),.string ⟨(leB (↑((Rs (Zo (Zh l) (bmN l.length)) (f+k0) (bmN l.length)).getD i rsD).1:Int) 8++leB (↑((Rs (Zo (Zh l) (bmN l.length)) (f+k0) (bmN l.length)).getD i rsD).2.1:Int) 4++leB (↑((Rs (Zo (Zh l) (bmN l.length)) (f+k0) (bmN l.length)).getD i rsD).2.2:Int) 4).toArray⟩,V0 0] 124 fun b9 W9 n9=>?_
  have d5:=blB c1 hBw b4
  have g9:=n9.ge0 d5
  have b0:=Za f0 b4
  have h1:=Zg b0 n9
  have b7:=Za h7 b4
  have f2:=Zg b7 n9
  have a0:=Za b7 n9.below
  have e5:=blB d5 hBw n9.below
  refine xbi 0 fun _ _ _ _ zJ zQ zo zx zy zK=>Xi (b:=b9) (c:=1) (m:=1) (news:=[V0 (i:Int),.string ⟨(leB (↑((Rs (Zo (Zh l) (bmN l.length)) (f+k0) (bmN l.length)).getD i rsD).1:Int) 8++leB (↑((Rs (Zo (Zh l) (bmN l.length)) (f+k0) (bmN l.length)).getD i rsD).2.1:Int) 4++leB (↑((Rs (Zo (Zh l) (bmN l.length)) (f+k0) (bmN l.length)).getD i rsD).2.2:Int) 4).toArray⟩,V0 0]) (.agg #[V0 0,.string ⟨#[]⟩,V0 0]) 3 32 (i+1) (((Xy (Zo (Zh l) (bmN l.length)) (f+k0) (i+1)).flatMap Yo)) zo Tryz.underlying99 K0 rfl Do zx a0 zy n9.blk rfl (by simp[Value.oneCell']) (by unfold maxLen;omega) M0 e5.size (by rfl) (slot_row M0) fun i4 j3 j8 i3 a4 f5 f3=>?_
  have b6:=Za b0 n9.below
  have a7:=e8.row b6 a4
  replace e8:=(e8.grow b6 f3)
  have c0:=a7
  refine zK _ _ ?_
  refine xwm 6 ((i:Int)+1) (↑(i+1):Int) ?_
  have f6:=e5.trans (f5.mono hBw)
  have g7:=(Zd.grown_new ((e4.trans (Zd.of_below b4)).trans (Zd.of_below n9.below)) a4 a0)
  have a9:=((b5.below b4).below n9.below).grown a4 a0 Do
  have e7:=Zp (Za (Za e6 b4) n9.below) a4 a0 Do
  have f8:=((hR.below b4).below n9.below).only (Zd.of_grown (T:=[124]) a4 a0 Do) Do
  have h5:=((hJ.below b4).below n9.below).only (Zd.of_grown (T:=[124]) a4 a0 Do) Do
  exact ze 2 (j2 _ _ _ ⟨i+1,_,_,rfl,rfl,f6,g7,a9,i3,c0,e7,f8,h5,by omega,e8⟩ M0)
 have h6:i=(bmN l.length):=by omega
 refine xc 9 (args:=#[P0 bc,V0 4,.slice p2 i c2]) (Gn B bc bm pg N cg _ _ _ f (k0+(bmN l.length)) p K cI (Kn (Zo (Zh l) (bmN l.length)) (f+k0) bs (bmN l.length)) 4 p2 c2 i (Xy (Zo (Zh l) (bmN l.length)) (f+k0) (bmN l.length)) _ (by rw[Qh];exact h6.symm) hR (by rw[Qh];omega) Do Do (Rh _ _ _ M0) (by rw[Qh];omega) hf hJ (fun W _ h2=>by have hh:=Ze (Zi h7 h2 Do);rw[h6] at hh;rw[Qh];exact hh) (N0 hBw c1.size)) ?_
 rintro _ l7 ⟨l5,l3,j6,rfl,g3,c3,hR,hJ⟩
 rw[Qh] at hR
 refine xa 3 [S0,V0 0] 44 fun k2 l1 a5=>?_
 have a3:=b5.only c3 Do
 have b8:=a5.ne a3
 have d8:=c1.trans g3
 have i1:=a5.ge0 d8
 refine xsv 1 a5.blk [S0,V0 0] fun k7 c7 j5=>?_
 have h3:=(hR.below a5.below).only (Zd.of_upd (T:=[44]) c7 a5.blk Do) Do
 have g2:=(hJ.below a5.below).only (Zd.of_upd (T:=[44]) c7 a5.blk Do) Do
 have d7:=c7.own2 (Za (Zi f0 c3 Do) a5.below) a5.blk Do
 have d0:=c7.below (blB d8 hBw a5.below) (N0 hBw i1)
 refine xc 6 (args:=#[P0 bc,V0 5,.slice po ((Zl l l.length).length) co]) (Gn B bc bm pg N cg _ _ _ f (k0+(bmN l.length)+Zw 4 (bmN l.length)) p K cI (Vl 4 (Xy (Zo (Zh l) (bmN l.length)) (f+k0) (bmN l.length)) (f+(k0+(bmN l.length))) (Kn (Zo (Zh l) (bmN l.length)) (f+k0) bs (bmN l.length))).2 5 po co (Zl l l.length).length (Zl l l.length) _ rfl h3 M0 Do Do (Nd _ _ M0) M0 hf g2 (fun W _ h2=>Ze (Zi d7 h2 Do)) (N0 hBw d0.size)) ?_
 rintro _ j9 ⟨m2,l9,k8,rfl,f9,c4,hR,hJ⟩
 refine xa 3 [S0,V0 0] 44 fun l0 k4 a6=>?_
 have a2:=(c7.blk (a3.below a5.below) b8).only c4 Do
 have c5:=a6.ne a2
 have c9:=j5.only c4 Do
 have e9:=a6.ne c9
 have d3:=d0.trans f9
 have h9:=a6.ge0 d3
 refine xsv 1 a6.blk [S0,V0 0] fun k6 d9 l4=>?_
 have a1:=d9.blk (a2.below a6.below) c5
 refine xsv 9 a1 [S0,V0 0] fun j7 f1 i7=>?_
 have g1:=n1.ge0 (Below.refl B _)
 have d1:=((hJ.below a6.below).only (Zd.of_upd (T:=[44]) d9 a6.blk Do) Do).only (Zd.of_upd (T:=[44]) f1 a1 Do) Do
 have d4:=((hR.below a6.below).only (Zd.of_upd (T:=[44]) d9 a6.blk Do) Do).only (Zd.of_upd (T:=[44]) f1 a1 Do) Do
 have f4:=f1.below (d9.below (blB d3 hBw a6.below) (N0 hBw h9)) (N0 hBw g1)
 have g8:=(Zd.upd_new (Zd.upd_new (((Zd.upd_new ((e4.trans c3).trans (Zd.of_below a5.below)) c7 i1).trans c4).trans (Zd.of_below a6.below)) d9 h9) f1 g1)
 refine xec 3 i7 (.tuple #[V0 ((Vl 4 (Xy (Zo (Zh l) (bmN l.length)) (f+k0) (bmN l.length)) (f+(k0+(bmN l.length))) (Kn (Zo (Zh l) (bmN l.length)) (f+k0) bs (bmN l.length))).1),V0 ((Vl 5 (Zl l l.length) (f+(k0+(bmN l.length)+Zw 4 (bmN l.length))) (Vl 4 (Xy (Zo (Zh l) (bmN l.length)) (f+k0) (bmN l.length)) (f+(k0+(bmN l.length))) (Kn (Zo (Zh l) (bmN l.length)) (f+k0) bs (bmN l.length))).2).1),.agg #[S0,V0 0]]) ?_
 have e1:f+(k0+(bmN l.length))=f+k0+(bmN l.length):=by omega
 have e2:f+(k0+(bmN l.length)+Zw 4 (bmN l.length))=f+k0+(bmN l.length)+Zw 4 (bmN l.length):=by omega
 rw[e2,e1] at d1 ⊢
 have e3:k0+(bmN l.length)+Zw 4 (bmN l.length)+Zw 5 (Zl l l.length).length=k0+Hl l:=by omega
 rw[e3] at d4
 exact⟨_,_,_,rfl,f4,g8,d4,d1⟩
theorem Fc(B bc bm:Nat)(pg:O0)(N cg:Nat)(fa:O0)(mf fc f k0:Nat)(p:O0)(K cI:Nat)(bs:Bl)(a:O0)(c:Nat)(l:List Int)(w:World)(hR:RAl B bc bm pg N cg fa mf fc k0 (Qn f N) w)(h:Sl w (.slice a l.length c) l.length (l.map V0))(hl:l.length≤3000)(hs:Qd l=0)(hlen:l.length=K)(hk:k0+Xx l≤N)(hf:f+N≤K)(hf1:1≤f)(hfree2:Zda l ((f+k0:Nat):Int))(hJ:RefI B bm p K cI bs w)(hBw:B≤w.heap.size) :
 C0 114 #[P0 bc,.slice a l.length c] w (RMetaP B bc bm pg N cg f k0 p K cI bs l w):=by
 have hW:Sin w w:=⟨Below.refl _ _⟩
 have i5:=Gj hs
 have k9:=Ji l l.length
 have l4:Xx l=(Zw 5 (Zl l l.length).length)+(bmN l.length)+1:=rfl
 have m7:=Yp 5 (Zl l l.length).length
 have n3:=hR.hm
 have l7:bmN l.length≤4:=by unfold bmN;omega
 have j4:Qd (Yz l (f+k0) (Xx l))=0:=by unfold Qd;rw[if_neg (by rw[Qr];omega),if_pos (Ci hfree2 i5.2)]
 have i3:=Gy (Ci (n:=Xx l) hfree2 i5.2) (bmN l.length)
 refine zin 113 Tryz.func114 ?_
 refine xa 4 [S0,V0 0] 44 fun b1 W1 n1=>?_
 have b3:=hW.below n1.below
 refine xl 10 ((hR.below b3.b).blk.cell (i:=0) rfl) ?_
 refine xl 2 ((hJ.below b3.b).blk.cell (i:=0) rfl) ?_
 refine xk 4 (show(((l.length:Int) != (K:Int)):Bool)=false from by rw[hlen];simp) ?_
 refine xc 5 (args:=#[.slice a l.length c]) (Lw l.length a c l _ rfl (Sl.below h b3.b) M0 hs) ?_
 rintro _ W2 ⟨j8,m8,l9,po,co,rfl,f2,l0,g3⟩
 have i7:=(blB (Below.refl B w) hBw n1.below).size
 refine xr 23 (args:=#[V0 5,V0 (↑((Zl l l.length).length):Int)]) (Yj 5 (Zl l l.length).length _ Do Do M0) fun W3 d0=>?_
 refine xr 2 (args:=#[V0 (l.length:Int)]) (Sx l.length _ M0) fun W4 c7=>?_
 refine xwm 0 ((↑(Zw 5 (Zl l l.length).length):Int)+(↑(bmN l.length):Int)) (↑((Zw 5 (Zl l l.length).length)+(bmN l.length)):Int) ?_
 refine xwm 0 ((↑((Zw 5 (Zl l l.length).length)+(bmN l.length)):Int)+1) (↑(((Zw 5 (Zl l l.length).length)+(bmN l.length))+1):Int) ?_
 have f5:=((b3.below f2).below d0).below c7
 refine xl 9 ((hR.below f5.b).blk.cell (i:=1) rfl) ?_
 refine xk 5 (show(decide ((mf:Int)<(↑(((Zw 5 (Zl l l.length).length)+(bmN l.length))+1):Int)):Bool)=false from decide_eq_false M0) ?_
 refine xb0 4 3 fun b5 W5 n5=>?_
 have o5:=Zz (size:=1) (n:=0) n5.blk (n5.ge0 (blB (blB (blB (blB (Below.refl B w) hBw n1.below) hBw f2) hBw d0) hBw c7)) rfl Do
 have e6:=f5.below n5.below
 have hB:=blB (blB (blB (blB (blB (Below.refl B w) hBw n1.below) hBw f2) hBw d0) hBw c7) hBw n5.below
 refine xbi 1 fun _ _ _ _ zJ zQ zo zx zy zK=>Zr (m:=l.length) (news:=(l.map V0)) (V0 0) 1 8 (l.length) ((l.map V0)) zo Tryz.underlying27 K0 rfl Do zx o5 zy (Sl.below h e6.b) (by simp) (Cq _) (by unfold maxLen;omega) M0 hB.size M0 (by rfl) fun m5 g5 W6 o6 g8 h5=>?_
 refine zK _ _ ?_
 have b7:=e6.trans h5
 have j1:=b7.b.size
 have g7:=o6
 refine xc 7 (args:=#[P0 bc,V0 (↑(((Zw 5 (Zl l l.length).length)+(bmN l.length))+1):Int)]) (Ze3 (Xx l) B bc bm pg N cg fa mf fc k0 (Qn f N) _ (hR.below b7.b) M0 M0) ?_
 rintro _ W7 ⟨_,rfl,d2,qa,ca,rfl,e4⟩
 have n4:=(hB.trans (h5.mono hBw)).size
 have i8:=Yf.of_lt g7 e4 (A6 _)
 have e5:=Zf e4 j1
 have e8:=Za o6 d2
 obtain⟨gb,rfl,k2⟩:=Qf e8 M0
 have f0:=Za (Zp (Za (Za (Za (Zf g3 i7) d0) c7) n5.below) g8 o5 Do) d2
 have i0:=b7.below d2
 have h6:=blB (hB.trans (h5.mono hBw)) hBw d2
 have hO:=(Zd.grown_new (((((show Zd [189,9] w _ from(Zd.of_below n1.below)).trans (Zd.of_below f2)).trans (Zd.of_below d0)).trans (Zd.of_below c7)).trans (Zd.of_below n5.below)) g8 o5).trans (Zd.of_below d2)
 have k1:=(((((n1.blk.below f2).below d0).below c7).below n5.below).grown g8 o5 Do).below d2
 refine zl 10 113 (fun zm i9 V=>∃ (i:Nat),i9=[(0,P0 bc),(4,V0 0),(5,V0 0),(6,P0 b1),(8,.slice po ((Zl l l.length).length) co),(10,V0 (↑(((Zw 5 (Zl l l.length).length)+(bmN l.length))+1):Int)),(11,.slice (S1 gb) l.length g5),(12,.slice qa (Xx l) ca),(13,V0 (i:Int))]∧zm=Xx l-((i:Int)).toNat∧Below B w V∧Zd [189,9] w V∧Blk V b1 ([S0,V0 0]) 44∧V.ownsRow w.heap.size 3 1 (.slice (S1 gb) l.length g5) l.length ((Yz l (f+k0) i).map V0)∧V.ownsRow w.heap.size 3 1 (.slice qa (Xx l) ca) (Xx l) ((((Qn f N).drop k0).take (Xx l)).map V0)∧V.ownsRow w.heap.size 124 3 (.slice po ((Zl l l.length).length) co) ((Zl l l.length).length) ((Zl l l.length).flatMap Yo)∧Sin w V∧i≤Xx l) ⟨0,rfl,rfl,h6,hO,k1,(by rw[Rf];exact e8),e5,f0,i0,A3 _⟩ ?_
 rintro _ _ W8 ⟨i,rfl,rfl,c6,f9,a7,b0,e5,g3,hW,hi⟩ J8 j3 r8
 have m0:i<Xx l→l.getD (f+k0+i) 0=0:=fun q=>(hfree2 (f+k0+i) M0).1 M0
 refine xid 8 ((i:Int)<(↑(((Zw 5 (Zl l l.length).length)+(bmN l.length))+1):Int)) (fun i6=>?_) (fun i6=>?_)
 ·refine xx 8 _ (Xx l) i 1 (Wx (Ze e5) M0 (i:=i) M0).1 ?_
  refine xl 0 ((Wx (Ze e5) M0 (i:=i) M0).2) ?_
  refine xx 0 _ l.length (f+k0+i) 1 (Hw (Ze b0) rfl (q:=f+k0) (i:=i) M0).1 ?_
  refine xl 0 ((Hw (Ze b0) rfl (q:=f+k0) (i:=i) M0).2) ?_
  refine xw 0 ((l.getD (f+k0+i) 0)+1) ?_
  refine xx 0 _ l.length (f+k0+i) 1 (Hw (Ze b0) rfl (q:=f+k0) (i:=i) M0).1 ?_
  refine xst 0 fun _ _ _ _ zJ zQ zo zx zy zK=>Xk (t:=3) (k:=(f+k0+i)) (v:=V0 ((l.getD (f+k0+i) 0)+1)) zo zx zy K0 rfl b0 M0 fun k4 d1 i2=>?_
  rw[Of (l:=l) (f:=f+k0) (j:=i) M0] at i2
  refine zK _ _ ?_
  refine xwm 5 ((i:Int)+1) (↑(i+1):Int) ?_
  have h0:=d1.below c6 (N0 hBw (Qa b0))
  have h7:=(Zd.upd_new f9 d1 (Qa b0))
  have b2:=d1.blk a7 (Xd a7 b0 Do)
  have f8:=d1.own3 e5 (fun j hj e=>i8 _ rfl (e▸hj))
  have d3:=d1.ownRow g3 b0 Do
  have h8:=hW.upd d1 (Qa b0)
  exact ze 2 (j3 _ _ _ ⟨i+1,rfl,rfl,h0,h7,b2,i2,f8,d3,h8,by omega⟩ M0)
 refine xc 9 (args:=#[P0 bc,V0 5,.slice po ((Zl l l.length).length) co]) (Gn B bc bm pg N cg _ _ _ f k0 p K cI bs 5 po co (Zl l l.length).length (Zl l l.length) _ rfl (hR.below hW.b) M0 Do Do (Nd _ _ M0) M0 hf (hJ.below hW.b) (fun W _ h2=>Ze (Zi g3 h2 Do)) (N0 hBw c6.size)) ?_
 rintro _ m6 ⟨m3,l8,j9,rfl,h3,c3,f1,d6⟩
 refine xa 3 [S0,V0 0] 44 fun k6 l6 a4=>?_
 have a3:=a7.only c3 Do
 have c0:=a4.ne a3
 have c5:=c6.trans h3
 have h9:=a4.ge0 c5
 refine xsv 1 a4.blk [S0,V0 0] fun l1 c4 j5=>?_
 have f6:=c4.own2 (Za (Zi b0 c3 Do) a4.below) a4.blk Do
 refine xc 5 (args:=#[.slice (S1 gb) l.length g5]) (Lw l.length (S1 gb) g5 (Yz l (f+k0) (Xx l)) _ (Qr _ _ _) (by have hh:=Ze f6;rw[show i=Xx l by omega] at hh;exact hh) M0 j4) ?_
 rintro _ k5 ⟨pb,cb,gs,m2,n8,rfl,a1,hL,j0⟩
 have f4:=((f1.below a4.below).only (Zd.of_upd (T:=[44]) c4 a4.blk Do) Do).below a1
 have f3:=((d6.below a4.below).only (Zd.of_upd (T:=[44]) c4 a4.blk Do) Do).below a1
 have d9:=blB (c4.below (blB c5 hBw a4.below) (N0 hBw h9)) hBw a1
 refine xc 23 (args:=#[P0 bc,.slice pb (bmN l.length) cb]) (Sb (bmN l.length) B bc bm pg N cg _ _ _ f (k0+(Zw 5 (Zl l l.length).length)) p K cI (Vl 5 (Zl l l.length) (f+k0) bs).2 _ pb cb gs (Zo (Zh (Yz l (f+k0) (Xx l))) (bmN l.length)) _ (Xq _ _) f4 f3 hL i3 hf M0 M0 (N0 hBw d9.size)) ?_
 rintro _ k8 ⟨a8,c8,m4,n7,m1,rfl,i1,b8,f1,d6,j7⟩
 have g6:=(blB (c4.below (blB c5 hBw a4.below) (N0 hBw h9)) hBw a1).size
 have e7:=Zf j7 g6
 refine xc 0 (args:=#[.slice a8 (bmN l.length) c8]) (Ze2 (bmN l.length) a8 c8 (Rs (Zo (Zh (Yz l (f+k0) (Xx l))) (bmN l.length)) (f+(k0+(Zw 5 (Zl l l.length).length))) (bmN l.length)) _ (Pc _ _ _) (rs_ok i3 (Xq _ _) M0 M0 M0) (Zdj (Ze e7))) ?_
 rintro _ l2 ⟨_,rfl,a5,bz,cz,rfl,j6⟩
 have d5:=f1.below a5
 have e9:=d6.below a5
 have c1:=(((Zd.upd_new ((f9.trans c3).trans (Zd.of_below a4.below)) c4 h9).trans (Zd.of_below a1)).trans b8).trans (Zd.of_below a5)
 have f7:=blB (d9.trans i1) hBw a5
 refine xc 11 (args:=#[P0 bc,V0 4,.slice (S1 bz) ((Ak (Rs (Zo (Zh (Yz l (f+k0) (Xx l))) (bmN l.length)) (f+(k0+(Zw 5 (Zl l l.length).length))) (bmN l.length))).length) cz]) (Zdv 4 Do Do B bc bm pg N cg _ _ _ f (k0+(Zw 5 (Zl l l.length).length)+(bmN l.length)) p K cI (Kn (Zo (Zh (Yz l (f+k0) (Xx l))) (bmN l.length)) (f+(k0+(Zw 5 (Zl l l.length).length))) (Vl 5 (Zl l l.length) (f+k0) bs).2 (bmN l.length)) (S1 bz) cz (Ak (Rs (Zo (Zh (Yz l (f+k0) (Xx l))) (bmN l.length)) (f+(k0+(Zw 5 (Zl l l.length).length))) (bmN l.length))).length (Ak (Rs (Zo (Zh (Yz l (f+k0) (Xx l))) (bmN l.length)) (f+(k0+(Zw 5 (Zl l l.length).length))) (bmN l.length))) (f+(k0+(Zw 5 (Zl l l.length).length)+(bmN l.length))) _ rfl rfl (by rw[Sn (by rw[Pc];omega)];decide) M0 hf d5 e9 (fun W _ c1=>j6 _ W c1 Do) (N0 hBw f7.size)) ?_
 rintro _ k3 ⟨a9,c9,n2,k7,l5,rfl,h4,c2,f1,d6⟩
 refine xa 3 [S0,V0 0] 44 fun l3 n6 a6=>?_
 have a2:=((((c4.blk (a3.below a4.below) c0).below a1).only b8 Do).below a5).only c2 Do
 have b9:=a6.ne a2
 have d7:=(((j5.below a1).only b8 Do).below a5).only c2 Do
 have g0:=a6.ne d7
 have d8:=f7.trans h4
 have i4:=a6.ge0 d8
 refine xsv 1 a6.blk [.slice a9 0 c9,V0 0] fun m9 d4 n9=>?_
 have a0:=d4.blk (a2.below a6.below) b9
 refine xsv 9 a0 [S0,V0 0] fun n0 g2 j2=>?_
 have g1:=n1.ge0 (Below.refl B _)
 have b6:=((d6.below a6.below).only (Zd.of_upd (T:=[44]) d4 a6.blk Do) Do).only (Zd.of_upd (T:=[44]) g2 a0 Do) Do
 have b4:=((f1.below a6.below).only (Zd.of_upd (T:=[44]) d4 a6.blk Do) Do).only (Zd.of_upd (T:=[44]) g2 a0 Do) Do
 have g9:=g2.below (d4.below (blB d8 hBw a6.below) (N0 hBw i4)) (N0 hBw g1)
 have h1:=(Zd.upd_new (Zd.upd_new ((c1.trans c2).trans (Zd.of_below a6.below)) d4 i4) g2 g1)
 refine xec 3 j2 (.tuple #[V0 (↑(f+(k0+(Zw 5 (Zl l l.length).length)+(bmN l.length))):Int),V0 ((Vl 5 (Zl l l.length) (f+k0) bs).1),.agg #[S0,V0 0]]) ?_
 have e0:Xx l=Xx l:=rfl
 have e1:f+(k0+(Zw 5 (Zl l l.length).length)+(bmN l.length))=f+k0+(Zw 5 (Zl l l.length).length)+(bmN l.length):=by omega
 have e2:f+(k0+(Zw 5 (Zl l l.length).length))=f+k0+(Zw 5 (Zl l l.length).length):=by omega
 rw[e1,e2] at b6
 rw[e1]
 have e3:k0+(Zw 5 (Zl l l.length).length)+(bmN l.length)+1=k0+Xx l:=by omega
 rw[e3] at b4
 refine⟨_,_,_,?_,g9,h1,b4,?_⟩
 ·unfold Ek;rw[Cf]
 ·unfold Ek;rw[Cf];exact b6
theorem Kd(n lo hi:Int)(w:World) :
 C0 229 #[V0 n,V0 lo,V0 hi] w (Ret (.bool (decide (lo≤n∧n≤hi))) w):=by
 refine zin 15 Tryz.func229 ?_
 refine xg 11 [9,10] (decide (n≥lo)) (fun a0=>?_) (fun a0=>?_)
 ·have a0:=of_decide_eq_true a0
  exact xe 8 (.bool (decide (n≤hi))) ⟨by rw[show decide (lo≤n∧n≤hi)=decide (n≤hi) from by simp;omega],(B4 w)⟩
 have a0:=of_decide_eq_false a0
 exact xe 8 (.bool false) ⟨by rw[show decide (lo≤n∧n≤hi)=false from decide_eq_false M0],(B4 w)⟩
theorem Za9(s:Sup)(w:World)(hb0:0≤s.blocks)(hb1:s.blocks<9223372036854775808) :
 C0 182 #[.agg #[V0 s.tx,V0 s.time,V0 s.unit,V0 s.data,V0 s.blocks,V0 s.top,V0 s.details,V0 s.dslots,V0 s.dover,V0 s.mindex,V0 s.mover]] w (Ret (.bool (Xp s)) w):=by
 refine zin 69 Tryz.func182 ?_
 refine xa 2 [V0 s.tx,V0 s.time,V0 s.unit,V0 s.data,V0 s.blocks,V0 s.top,V0 s.details,V0 s.dslots,V0 s.dover,V0 s.mindex,V0 s.mover] 54 fun b1 W1 n1=>?_
 refine xb 7 0 n1.blk ?_
 refine xr 0 (args:=#[V0 s.tx,V0 0,V0 2147483647]) (Kd s.tx 0 2147483647 _) fun W2 b4=>?_
 refine xg 2 [7,8] (!(decide ((0:Int)≤s.tx∧s.tx≤2147483647))) (fun e9=>?_) (fun e9=>?_)
 ·have f1:(decide ((0:Int)≤s.tx∧s.tx≤2147483647))=false:=Qy e9
  have hB:=bln n1.below b4
  refine xe 33 (.bool false) ?_
  have hR:Xp s=false:=by
   unfold Xp
   first|(rw[f1];done)|(rw[f1];rfl)
  rw[hR];exact⟨rfl,hB⟩
 have a5:(decide ((0:Int)≤s.tx∧s.tx≤2147483647))=true:=Vd e9
 have e0:=n1.blk.below b4
 refine xb 1 1 e0 ?_
 refine xr 0 (args:=#[V0 s.time,V0 0,V0 16777215]) (Kd s.time 0 16777215 _) fun W6 b6=>?_
 refine xg 3 [12,13,14] (!(decide ((0:Int)≤s.time∧s.time≤16777215))) (fun e8=>?_) (fun e8=>?_)
 ·have f0:(decide ((0:Int)≤s.time∧s.time≤16777215))=false:=Qy e8
  have hB:=bln (bln n1.below b4) b6
  refine xe 27 (.bool false) ?_
  have hR:Xp s=false:=by
   unfold Xp
   first|(rw[a5,f0];done)|(rw[a5,f0];rfl)
  rw[hR];exact⟨rfl,hB⟩
 have a7:(decide ((0:Int)≤s.time∧s.time≤16777215))=true:=Vd e8
 have e6:=e0.below b6
 refine xb 1 2 e6 ?_
 refine xr 0 (args:=#[V0 s.unit,V0 1,V0 65536]) (Kd s.unit 1 65536 _) fun f4 a3=>?_
 refine xg 3 [18,19,20] (!(decide ((1:Int)≤s.unit∧s.unit≤65536))) (fun c0=>?_) (fun c0=>?_)
 ·have d6:(decide ((1:Int)≤s.unit∧s.unit≤65536))=false:=Qy c0
  have hB:=bln (bln (bln n1.below b4) b6) a3
  refine xe 21 (.bool false) ?_
  have hR:Xp s=false:=by
   unfold Xp
   first|(rw[a5,a7,d6];done)|(rw[a5,a7,d6];rfl)
  rw[hR];exact⟨rfl,hB⟩
 have a0:(decide ((1:Int)≤s.unit∧s.unit≤65536))=true:=Vd c0
 have c9:=e6.below a3
 refine xb 1 3 c9 ?_
 refine xr 0 (args:=#[V0 s.data,V0 0,V0 65536]) (Kd s.data 0 65536 _) fun f7 a6=>?_
 refine xg 3 [24,25,26] (!(decide ((0:Int)≤s.data∧s.data≤65536))) (fun c5=>?_) (fun c5=>?_)
 ·have e2:(decide ((0:Int)≤s.data∧s.data≤65536))=false:=Qy c5
  have hB:=bln (bln (bln (bln n1.below b4) b6) a3) a6
  refine xe 15 (.bool false) ?_
  have hR:Xp s=false:=by
   unfold Xp
   first|(rw[a5,a7,a0,e2];done)|(rw[a5,a7,a0,e2];rfl)
  rw[hR];exact⟨rfl,hB⟩
 have a1:(decide ((0:Int)≤s.data∧s.data≤65536))=true:=Vd c5
 have d3:=c9.below a6
 refine xb 1 4 d3 ?_
 refine xr 0 (args:=#[V0 s.blocks,V0 2,V0 14400]) (Kd s.blocks 2 14400 _) fun f8 a8=>?_
 refine xi 4 (!(decide ((2:Int)≤s.blocks∧s.blocks≤14400))) (fun c4=>?_) (fun c4=>?_)
 ·have e1:(decide ((2:Int)≤s.blocks∧s.blocks≤14400))=false:=Qy c4
  have hB:=bln (bln (bln (bln (bln n1.below b4) b6) a3) a6) a8
  refine xe 7 (.bool false) ?_
  have hR:Xp s=false:=by
   unfold Xp
   first|(rw[a5,a7,a0,a1,e1];done)|(rw[a5,a7,a0,a1,e1];rfl)
  rw[hR];exact⟨rfl,hB⟩
 have a2:(decide ((2:Int)≤s.blocks∧s.blocks≤14400))=true:=Vd c4
 have b9:=d3.below a8
 refine xb 5 4 b9 ?_
 refine xw 0 (s.blocks-1) ?_
 refine xb 6 5 b9 ?_
 refine xr 1 (args:=#[V0 s.top,V0 1,V0 (s.blocks-1)]) (Kd s.top 1 (s.blocks-1) _) fun f9 b0=>?_
 refine xg 1 [38,39] (decide ((1:Int)≤s.top∧s.top≤s.blocks-1)) (fun c7=>?_) (fun c7=>?_)
 ·have a4:(decide ((1:Int)≤s.top∧s.top≤s.blocks-1))=true:=c7
  have d0:=b9.below b0
  refine xb 1 6 d0 ?_
  refine xr 1 (args:=#[V0 s.details,V0 1,V0 (s.blocks-1)]) (Kd s.details 1 (s.blocks-1) _) fun f5 b2=>?_
  refine xg 2 [43,44,45] (decide ((1:Int)≤s.details∧s.details≤s.blocks-1)) (fun c6=>?_) (fun c6=>?_)
  ·have a9:(decide ((1:Int)≤s.details∧s.details≤s.blocks-1))=true:=c6
   have e3:=d0.below b2
   refine xb 1 7 e3 ?_
   refine xr 1 (args:=#[V0 s.dslots,V0 1,V0 (s.blocks-1)]) (Kd s.dslots 1 (s.blocks-1) _) fun f2 b5=>?_
   refine xg 2 [49,50,51] (decide ((1:Int)≤s.dslots∧s.dslots≤s.blocks-1)) (fun c3=>?_) (fun c3=>?_)
   ·have b3:(decide ((1:Int)≤s.dslots∧s.dslots≤s.blocks-1))=true:=c3
    have e5:=e3.below b5
    refine xb 1 8 e5 ?_
    refine xr 1 (args:=#[V0 s.dover,V0 1,V0 (s.blocks-1)]) (Kd s.dover 1 (s.blocks-1) _) fun g0 b7=>?_
    refine xg 2 [55,56,57] (decide ((1:Int)≤s.dover∧s.dover≤s.blocks-1)) (fun c1=>?_) (fun c1=>?_)
    ·have b8:(decide ((1:Int)≤s.dover∧s.dover≤s.blocks-1))=true:=c1
     have d9:=e5.below b7
     refine xb 1 9 d9 ?_
     refine xr 1 (args:=#[V0 s.mindex,V0 1,V0 (s.blocks-1)]) (Kd s.mindex 1 (s.blocks-1) _) fun f6 c2=>?_
     refine xg 2 [61,62,63] (decide ((1:Int)≤s.mindex∧s.mindex≤s.blocks-1)) (fun c8=>?_) (fun c8=>?_)
     ·have d7:(decide ((1:Int)≤s.mindex∧s.mindex≤s.blocks-1))=true:=c8
      have d2:=d9.below c2
      refine xb 1 10 d2 ?_
      refine xr 1 (args:=#[V0 s.mover,V0 1,V0 (s.blocks-1)]) (Kd s.mover 1 (s.blocks-1) _) fun f3 e7=>?_
      have hB:=bln (bln (bln (bln (bln (bln (bln (bln (bln (bln (bln n1.below b4) b6) a3) a6) a8) b0) b2) b5) b7) c2) e7
      refine xe 5 (.bool (decide ((1:Int)≤s.mover∧s.mover≤s.blocks-1))) ?_
      have hR:Xp s=(decide ((1:Int)≤s.mover∧s.mover≤s.blocks-1)):=by
       unfold Xp
       first|(rw[a5,a7,a0,a1,a2,a4,a9,b3,b8,d7];done)|(rw[a5,a7,a0,a1,a2,a4,a9,b3,b8,d7];rfl)
      rw[hR];exact⟨rfl,hB⟩
     have e4:(decide ((1:Int)≤s.mindex∧s.mindex≤s.blocks-1))=false:=c8
     have hB:=bln (bln (bln (bln (bln (bln (bln (bln (bln (bln n1.below b4) b6) a3) a6) a8) b0) b2) b5) b7) c2
     refine xe 9 (.bool false) ?_
     have hR:Xp s=false:=by
      unfold Xp
      first|(rw[a5,a7,a0,a1,a2,a4,a9,b3,b8,e4];done)|(rw[a5,a7,a0,a1,a2,a4,a9,b3,b8,e4];rfl)
     rw[hR];exact⟨rfl,hB⟩
    have d1:(decide ((1:Int)≤s.dover∧s.dover≤s.blocks-1))=false:=c1
    have hB:=bln (bln (bln (bln (bln (bln (bln (bln (bln n1.below b4) b6) a3) a6) a8) b0) b2) b5) b7
    refine xe 15 (.bool false) ?_
    have hR:Xp s=false:=by
     unfold Xp
     first|(rw[a5,a7,a0,a1,a2,a4,a9,b3,d1];done)|(rw[a5,a7,a0,a1,a2,a4,a9,b3,d1];rfl)
    rw[hR];exact⟨rfl,hB⟩
   have d4:(decide ((1:Int)≤s.dslots∧s.dslots≤s.blocks-1))=false:=c3
   have hB:=bln (bln (bln (bln (bln (bln (bln (bln n1.below b4) b6) a3) a6) a8) b0) b2) b5
   refine xe 21 (.bool false) ?_
   have hR:Xp s=false:=by
    unfold Xp
    first|(rw[a5,a7,a0,a1,a2,a4,a9,d4];done)|(rw[a5,a7,a0,a1,a2,a4,a9,d4];rfl)
   rw[hR];exact⟨rfl,hB⟩
  have d8:(decide ((1:Int)≤s.details∧s.details≤s.blocks-1))=false:=c6
  have hB:=bln (bln (bln (bln (bln (bln (bln n1.below b4) b6) a3) a6) a8) b0) b2
  refine xe 27 (.bool false) ?_
  have hR:Xp s=false:=by
   unfold Xp
   first|(rw[a5,a7,a0,a1,a2,a4,d8];done)|(rw[a5,a7,a0,a1,a2,a4,d8];rfl)
  rw[hR];exact⟨rfl,hB⟩
 have d5:(decide ((1:Int)≤s.top∧s.top≤s.blocks-1))=false:=c7
 have hB:=bln (bln (bln (bln (bln (bln n1.below b4) b6) a3) a6) a8) b0
 refine xe 33 (.bool false) ?_
 have hR:Xp s=false:=by
  unfold Xp
  first|(rw[a5,a7,a0,a1,a2,d5];done)|(rw[a5,a7,a0,a1,a2,d5];rfl)
 rw[hR];exact⟨rfl,hB⟩
end Go.Proofs.YtekomodnkfhihaaGreatDoor
namespace Go.Proofs.YtekomodnkfhihaaGreatDoor
set_option maxHeartbeats 8000000
set_option maxRecDepth 100000
open Go.RowKit Go.Extern.Stop Go.Stop Go.Extern
set_option linter.unusedVariables false
attribute [local irreducible] wpList wpAnyH Code.wp Oper.wp Go
def Zcb(W:World)(b:Nat)(cs:List Value)(e:TypeId):Prop:=W.heap[b]? = some (.cells cs.toArray e (cs.length,cs.length+1))
theorem Zcb.below{W V:World}{b:Nat}{cs:List Value}{e:TypeId}(h:Zcb W b cs e)(hb:B3 W V):Zcb V b cs e:=(hb.block b (Array.getElem?_eq_some_iff.1 h).1).trans h
theorem mark_run{P:Program}{w:World}{b n c:Nat}{cs:List Value}{e t:TypeId}(k:Blk w b cs e)(ht:P.underlying t=some (.slice e))(he:P.underlying e=some (.int .u8)) :
 ∃ W,(convert t t (.slice (S1 b) n c)).run P w=.ok (.slice (S1 b) n c) W∧Upd w b W∧Zcb W b cs e:=by
 have hk:w.heap[b]? = some (.cells cs.toArray e (0,0)):=k
 have a0:w.shape? b=some (e,cs.length):=by unfold World.shape?;rw[hk];simp
 refine⟨w.freeze ⟨b,cs.length,none⟩ 1,by simp[convert,run_underlying ht,run_underlying he,markStringish,a0],?_,?_⟩
 ·unfold World.freeze
  rw[if_neg Do]
  exact⟨rfl,rfl,rfl,by simp,fun j hj=>by simp[Array.getElem?_modify,S2 hj]⟩
 ·unfold Zcb World.freeze
  rw[if_neg Do]
  simp[Array.getElem?_modify,hk]
section
attribute [local semireducible] Oper.wp
theorem op_mark{P:Program}{Q:Exit→Act→World→Prop}{a:Act}{w:World}{K:Act→World→Prop}{o:Oper}{x:Operand}{b n c:Nat}{cs:List Value}{e t:TypeId}(ho:o.op=.convert t t x)(hx:a.eval x=.slice (S1 b) n c)(k:Blk w b cs e)(ht:P.underlying t=some (.slice e))(he:P.underlying e=some (.int .u8))
 (h:∀ W,Upd w b W→Zcb W b cs e→K (a.put o.dst (.slice (S1 b) n c)) W):o.wp P a w K Q:=by
 obtain⟨W,h1,h2,h3⟩:=mark_run (n:=n) (c:=c) k ht he
 have h4:(execOp a.eval o).run P w=.ok (.value (.slice (S1 b) n c)) W:=by
  simp only[execOp,ho,hx,B8,h1];rfl
 simp only[Oper.wp,h4,Oper.upon]
 exact h W h2 h3
theorem op_appM{P:Program}{Q:Exit→Act→World→Prop}{a:Act}{w:World}{K:Act→World→Prop}{o:Oper}{s x:Operand}{t e:TypeId}{b n m c:Nat}{p:O0}{cs news:List Value}(n':Nat)(xs':List Value)(ho:o.op=.call { callee:=.builtin .append,args:=#[s,x],argTypes:=#[t,t] })
 (ht:P.underlying t=some (.slice e)) (hi:(P.info? e).map (fun i=>(i.zero,i.size,i.bytes))=some (some (.int .u8 0),1,1)) (hs:a.eval s=.slice (S1 b) n n) (hM:Zcb w b cs e) (hn:cs.length=n) (hu:a.eval x=.slice p m c) (hx:Sl w (.slice p m c) m news)
 (hl:news.length=m) (hm:0<m) (h63:n+m≤1000000) (hn':n+m=n') (hxs:cs++news=xs')
 (h:∀ q d W,W.ownsRow w.heap.size e 1 (.slice q n' d) n' xs'→B3 w W→K (a.put o.dst (.slice q n' d)) W):o.wp P a w K Q:=by
 subst hn' hxs
 cases hq:P.info? e with
 | none=>simp[hq] at hi
 | some i =>
  simp only[hq,C7,A0,C8] at hi
  rcases Sl.at hx with q|⟨g,a0,rfl,hc⟩
  ·rw[q] at hl;simp at hl;omega
  ·obtain⟨v',W,h1,h2,h3⟩:=run_append_arg_grows (P:=P) w t o.type e i (.int .u8 0) 1 1 ht hq hi.1 hi.2.1 hi.2.2 rfl Do ⟨b,0,none⟩ n n cs M0 (fun j u hj=>by
     have:(⟨b,0,none⟩:Addr).add j=⟨b,j,none⟩:=by unfold Addr.add;split<;>simp_all
     rw[this]
     simp[World.cell?,show w.heap[b]? = _ from hM,hj]) ⟨g,a0,none⟩ m c news M0 (fun j u hj=>by rw[Addr.add_mid];exact hc j u hj) M0 (by unfold maxLen;omega) M0
   have hv:∃ q d,v'=.slice q (n+m) d:=by
    rcases h2.2 with ⟨rfl,h0⟩|⟨g',a1,a2,rfl,_⟩
    ·omega
    ·exact⟨_,_,rfl⟩
   obtain⟨q,d,rfl⟩:=hv
   unfold Oper.wp execOp
   simp only[ho,resolve,invoke,builtin,B8,Ge,C9,Id,F4,I8,hs,hu,h1]
   exact h q d W h2 ⟨h3.os,h3.tape,h3.output,h3.size,fun k hk=>h3.block k hk (by simp)⟩
end
end Go.Proofs.YtekomodnkfhihaaGreatDoor
namespace Go.Proofs.YtekomodnkfhihaaGreatDoor
set_option maxHeartbeats 8000000
set_option maxRecDepth 100000
open Go.RowKit Go.Extern.Stop Go.Stop Go.Extern
set_option linter.unusedVariables false
attribute [local irreducible] wpList wpAnyH Code.wp Oper.wp Go
theorem Qm{s:Sup}(h:Xp s=true):∀ i,i<12→0≤((1:Int)::Hj s).getD i 0∧((1:Int)::Hj s).getD i 0<9223372036854775808:=by
 unfold Xp at h
 simp only[D3,decide_eq_true_eq,true_and] at h
 intro i hi
 obtain rfl|rfl|rfl|rfl|rfl|rfl|rfl|rfl|rfl|rfl|rfl|rfl:i=0∨i=1∨i=2∨i=3∨i=4∨i=5∨i=6∨i=7∨i=8∨i=9∨i=10∨i=11:=by omega
 all_goals simp only[Hj,List.getD_cons_zero,L5]
 all_goals omega
theorem Zjd{N:List Int}{i:Nat}(h:i<N.length):Vf (N.take (i+1))=Vf (N.take i)++leB (N.getD i 0) 4:=by
 rw[A8 h]
 unfold Vf
 rw[E1]
 simp[List.getD,h]
theorem Vt{N:List Int}{i:Nat}(h:i<N.length):(Ve++Vf (N.take i)).map bv++(leB (N.getD i 0) 4).map bv=(Ve++Vf (N.take (i+1))).map bv:=by
 rw[Zjd h,←A9,C6]
theorem Zkw(l:Bl)(j:Nat):(l++List.replicate j 0).map bv++[.int .u8 0]=(l++List.replicate (j+1) 0).map bv:=by
 rw[List.replicate_succ',←C6,A9 (l₁:=l++List.replicate j 0)];rfl
theorem Zgv(s:Sup)(w:World)(hr:Xp s=true)(hb:0≤s.blocks∧s.blocks<9223372036854775808) :
 C0 115 #[.agg #[V0 s.tx,V0 s.time,V0 s.unit,V0 s.data,V0 s.blocks,V0 s.top,V0 s.details,V0 s.dslots,V0 s.dover,V0 s.mindex,V0 s.mover]] w (Qo (fun w' r=>∃ p c,r=.tuple #[.slice p 244 c,V0 0]∧w'.ownsRow w.heap.size 5 1 (.slice p 244 c) 244 ((Zcm s).map bv)) w):=by
 refine zin 55 Tryz.func115 ?_
 refine xa 2 [V0 s.tx,V0 s.time,V0 s.unit,V0 s.data,V0 s.blocks,V0 s.top,V0 s.details,V0 s.dslots,V0 s.dover,V0 s.mindex,V0 s.mover] 54 fun b1 W1 n1=>?_
 refine xlv 7 n1.blk.rp ?_
 refine xr 0 (args:=#[.agg #[V0 s.tx,V0 s.time,V0 s.unit,V0 s.data,V0 s.blocks,V0 s.top,V0 s.details,V0 s.dslots,V0 s.dover,V0 s.mindex,V0 s.mover]]) (Za9 s _ hb.1 hb.2) fun W2 l0=>?_
 refine xk 3 (show(!(Xp s):Bool)=false from by rw[hr];rfl) ?_
 have a0:=n1.blk.below l0
 refine xb 5 0 a0 ?_
 refine xb 1 1 a0 ?_
 refine xb 1 2 a0 ?_
 refine xb 1 3 a0 ?_
 refine xb 1 4 a0 ?_
 refine xb 1 5 a0 ?_
 refine xb 1 6 a0 ?_
 refine xb 1 7 a0 ?_
 refine xb 1 8 a0 ?_
 refine xb 1 9 a0 ?_
 refine xb 1 10 a0 ?_
 refine xbs 0 12 [V0 1,V0 s.tx,V0 s.time,V0 s.unit,V0 s.data,V0 s.blocks,V0 s.top,V0 s.details,V0 s.dslots,V0 s.dover,V0 s.mindex,V0 s.mover] 3 fun b3 W3 n3=>?_
 refine xbs 5 8 [.int .u8 83,.int .u8 67,.int .u8 65,.int .u8 78,.int .u8 84,.int .u8 76,.int .u8 73,.int .u8 78] 5 fun b4 W4 n4=>?_
 refine xcf 0 fun _ _ _ zJ zQ zo zx zK=>op_mark (b:=b4) (n:=8) (c:=8) zo zx n4.blk Tryz.underlying50 Tryz.underlying5 ?_
 intro W5 u5 hM
 have g4:=n4.ge (bln (bln n1.below l0) n3.below)
 refine zK _ _ ?_
 refine xu 10 13 ?_
 have k3:=u5.blkT (n3.blk.below n4.below) n4.blk Do
 refine xb 19 0 k3 ?_
 refine xc 0 (args:=#[V0 1,V0 4]) (Xf (1:Int) 4 (4:Int) _ (Qm hr 0 Do).1 (Qm hr 0 Do).2 rfl Do) ?_
 rintro _ W6 ⟨_,rfl,k9,q6,d6,rfl,n0⟩
 have o3:=(u5.below (bln (bln (bln n1.below l0) n3.below) n4.below) g4).size
 have hB:=bln (u5.below (bln (bln (bln n1.below l0) n3.below) n4.below) g4) k9
 have q5:w.heap.size≤(W6).heap.size:=hB.size
 have l7:=hM.below k9
 have f5:=Zf n0 o3
 refine xbi 0 fun _ _ _ _ zJ zQ zo zx zy zK=>op_appM (b:=b4) (n:=8) (m:=4) (p:=q6) (c:=d6) 12 ((Ve++Vf ((1::Hj s).take 1)).map bv) zo Tryz.underlying50 K0 zx l7 rfl zy (Ze f5) (by rw[At,Zj]) Do Do rfl (Vt (N:=(1::Hj s)) (i:=0) (show 0<12 by decide)) ?_
 intro p7 c7 W7 o7 l1
 replace o7:=Zf o7 q5
 refine zK _ _ ?_
 have g7:=(k3.below k9).below l1
 refine xb 29 1 g7 ?_
 refine xc 0 (args:=#[V0 s.tx,V0 4]) (Xf s.tx 4 (4:Int) _ (Qm hr 1 Do).1 (Qm hr 1 Do).2 rfl Do) ?_
 rintro _ W8 ⟨_,rfl,k8,q8,d8,rfl,m1⟩
 have n8:=(bln hB l1).size
 have e6:=Zf m1 n8
 have f6:=Za o7 k8
 have f7:=bln (bln hB l1) k8
 refine xbi 0 fun _ _ _ _ zJ zQ zo zx zy zK=>Zr (m:=4) (news:=((leB s.tx 4).map bv)) (.int .u8 0) 1 1 (16) (((Ve++Vf ((1::Hj s).take 2)).map bv)) zo Tryz.underlying50 K0 rfl Do zx f6 zy (Ze e6) (by rw[At,Zj]) (Xw _) Do Do f7.size (by rfl) (Vt (N:=(1::Hj s)) (i:=1) (show 1<12 by decide)) fun s7 v8 W9 o9 n2 n6=>?_
 refine zK _ _ ?_
 have j1:=(g7.below k8).grown n2 f6 Do
 refine xb 29 2 j1 ?_
 refine xc 0 (args:=#[V0 s.time,V0 4]) (Xf s.time 4 (4:Int) _ (Qm hr 2 Do).1 (Qm hr 2 Do).2 rfl Do) ?_
 rintro _ r9 ⟨_,rfl,c2,t4,s4,rfl,h3⟩
 have m7:=(f7.trans n6).size
 have c9:=Zf h3 m7
 have g3:=Za o9 c2
 have f3:=bln (f7.trans n6) c2
 refine xbi 0 fun _ _ _ _ zJ zQ zo zx zy zK=>Zr (m:=4) (news:=((leB s.time 4).map bv)) (.int .u8 0) 1 1 (20) (((Ve++Vf ((1::Hj s).take 3)).map bv)) zo Tryz.underlying50 K0 rfl Do zx g3 zy (Ze c9) (by rw[At,Zj]) (Xw _) Do Do f3.size (by rfl) (Vt (N:=(1::Hj s)) (i:=2) (show 2<12 by decide)) fun r1 o1 v6 p2 h2 i7=>?_
 refine zK _ _ ?_
 have i2:=(j1.below c2).grown h2 g3 Do
 refine xb 29 3 i2 ?_
 refine xc 0 (args:=#[V0 s.unit,V0 4]) (Xf s.unit 4 (4:Int) _ (Qm hr 3 Do).1 (Qm hr 3 Do).2 rfl Do) ?_
 rintro _ u7 ⟨_,rfl,d0,w1,w8,rfl,i4⟩
 have m5:=(f3.trans i7).size
 have e0:=Zf i4 m5
 have b5:=Za p2 d0
 have g2:=bln (f3.trans i7) d0
 refine xbi 0 fun _ _ _ _ zJ zQ zo zx zy zK=>Zr (m:=4) (news:=((leB s.unit 4).map bv)) (.int .u8 0) 1 1 (24) (((Ve++Vf ((1::Hj s).take 4)).map bv)) zo Tryz.underlying50 K0 rfl Do zx b5 zy (Ze e0) (by rw[At,Zj]) (Xw _) Do Do g2.size (by rfl) (Vt (N:=(1::Hj s)) (i:=3) (show 3<12 by decide)) fun p9 p3 t1 r0 h5 i3=>?_
 refine zK _ _ ?_
 have i6:=(i2.below d0).grown h5 b5 Do
 refine xb 29 4 i6 ?_
 refine xc 0 (args:=#[V0 s.data,V0 4]) (Xf s.data 4 (4:Int) _ (Qm hr 4 Do).1 (Qm hr 4 Do).2 rfl Do) ?_
 rintro _ s1 ⟨_,rfl,c4,v5,v7,rfl,h1⟩
 have m3:=(g2.trans i3).size
 have d1:=Zf h1 m3
 have a9:=Za r0 c4
 have e9:=bln (g2.trans i3) c4
 refine xbi 0 fun _ _ _ _ zJ zQ zo zx zy zK=>Zr (m:=4) (news:=((leB s.data 4).map bv)) (.int .u8 0) 1 1 (28) (((Ve++Vf ((1::Hj s).take 5)).map bv)) zo Tryz.underlying50 K0 rfl Do zx a9 zy (Ze d1) (by rw[At,Zj]) (Xw _) Do Do e9.size (by rfl) (Vt (N:=(1::Hj s)) (i:=4) (show 4<12 by decide)) fun p1 q2 s9 r4 h6 k2=>?_
 refine zK _ _ ?_
 have g6:=(i6.below c4).grown h6 a9 Do
 refine xb 29 5 g6 ?_
 refine xc 0 (args:=#[V0 s.blocks,V0 4]) (Xf s.blocks 4 (4:Int) _ (Qm hr 5 Do).1 (Qm hr 5 Do).2 rfl Do) ?_
 rintro _ t2 ⟨_,rfl,d5,v0,v3,rfl,k6⟩
 have l8:=(e9.trans k2).size
 have c1:=Zf k6 l8
 have a4:=Za r4 d5
 have g0:=bln (e9.trans k2) d5
 refine xbi 0 fun _ _ _ _ zJ zQ zo zx zy zK=>Zr (m:=4) (news:=((leB s.blocks 4).map bv)) (.int .u8 0) 1 1 (32) (((Ve++Vf ((1::Hj s).take 6)).map bv)) zo Tryz.underlying50 K0 rfl Do zx a4 zy (Ze c1) (by rw[At,Zj]) (Xw _) Do Do g0.size (by rfl) (Vt (N:=(1::Hj s)) (i:=5) (show 5<12 by decide)) fun p4 q1 r8 r7 i9 i8=>?_
 refine zK _ _ ?_
 have j7:=(g6.below d5).grown i9 a4 Do
 refine xb 29 6 j7 ?_
 refine xc 0 (args:=#[V0 s.top,V0 4]) (Xf s.top 4 (4:Int) _ (Qm hr 6 Do).1 (Qm hr 6 Do).2 rfl Do) ?_
 rintro _ w6 ⟨_,rfl,c8,w3,u9,rfl,k4⟩
 have l3:=(g0.trans i8).size
 have d3:=Zf k4 l3
 have a3:=Za r7 c8
 have e8:=bln (g0.trans i8) c8
 refine xbi 0 fun _ _ _ _ zJ zQ zo zx zy zK=>Zr (m:=4) (news:=((leB s.top 4).map bv)) (.int .u8 0) 1 1 (36) (((Ve++Vf ((1::Hj s).take 7)).map bv)) zo Tryz.underlying50 K0 rfl Do zx a3 zy (Ze d3) (by rw[At,Zj]) (Xw _) Do Do e8.size (by rfl) (Vt (N:=(1::Hj s)) (i:=6) (show 6<12 by decide)) fun r2 r6 w0 n9 j8 i1=>?_
 refine zK _ _ ?_
 have g8:=(j7.below c8).grown j8 a3 Do
 refine xb 29 7 g8 ?_
 refine xc 0 (args:=#[V0 s.details,V0 4]) (Xf s.details 4 (4:Int) _ (Qm hr 7 Do).1 (Qm hr 7 Do).2 rfl Do) ?_
 rintro _ w4 ⟨_,rfl,c5,v9,s0,rfl,h0⟩
 have l2:=(e8.trans i1).size
 have c3:=Zf h0 l2
 have a8:=Za n9 c5
 have f2:=bln (e8.trans i1) c5
 refine xbi 0 fun _ _ _ _ zJ zQ zo zx zy zK=>Zr (m:=4) (news:=((leB s.details 4).map bv)) (.int .u8 0) 1 1 (40) (((Ve++Vf ((1::Hj s).take 8)).map bv)) zo Tryz.underlying50 K0 rfl Do zx a8 zy (Ze c3) (by rw[At,Zj]) (Xw _) Do Do f2.size (by rfl) (Vt (N:=(1::Hj s)) (i:=7) (show 7<12 by decide)) fun q9 o8 w7 q0 i5 h9=>?_
 refine zK _ _ ?_
 have h8:=(g8.below c5).grown i5 a8 Do
 refine xb 29 8 h8 ?_
 refine xc 0 (args:=#[V0 s.dslots,V0 4]) (Xf s.dslots 4 (4:Int) _ (Qm hr 8 Do).1 (Qm hr 8 Do).2 rfl Do) ?_
 rintro _ t8 ⟨_,rfl,b8,u3,t5,rfl,h7⟩
 have m2:=(f2.trans h9).size
 have d7:=Zf h7 m2
 have a5:=Za q0 b8
 have e7:=bln (f2.trans h9) b8
 refine xbi 0 fun _ _ _ _ zJ zQ zo zx zy zK=>Zr (m:=4) (news:=((leB s.dslots 4).map bv)) (.int .u8 0) 1 1 (44) (((Ve++Vf ((1::Hj s).take 9)).map bv)) zo Tryz.underlying50 K0 rfl Do zx a5 zy (Ze d7) (by rw[At,Zj]) (Xw _) Do Do e7.size (by rfl) (Vt (N:=(1::Hj s)) (i:=8) (show 8<12 by decide)) fun n7 r3 s8 o5 j5 k5=>?_
 refine zK _ _ ?_
 have j4:=(h8.below b8).grown j5 a5 Do
 refine xb 29 9 j4 ?_
 refine xc 0 (args:=#[V0 s.dover,V0 4]) (Xf s.dover 4 (4:Int) _ (Qm hr 9 Do).1 (Qm hr 9 Do).2 rfl Do) ?_
 rintro _ t6 ⟨_,rfl,b9,v4,w5,rfl,j9⟩
 have m6:=(e7.trans k5).size
 have b7:=Zf j9 m6
 have b2:=Za o5 b9
 have f0:=bln (e7.trans k5) b9
 refine xbi 0 fun _ _ _ _ zJ zQ zo zx zy zK=>Zr (m:=4) (news:=((leB s.dover 4).map bv)) (.int .u8 0) 1 1 (48) (((Ve++Vf ((1::Hj s).take 10)).map bv)) zo Tryz.underlying50 K0 rfl Do zx b2 zy (Ze b7) (by rw[At,Zj]) (Xw _) Do Do f0.size (by rfl) (Vt (N:=(1::Hj s)) (i:=9) (show 9<12 by decide)) fun q3 p5 v1 r5 g5 k0=>?_
 refine zK _ _ ?_
 have e2:=(j4.below b9).grown g5 b2 Do
 refine xb 29 10 e2 ?_
 refine xc 0 (args:=#[V0 s.mindex,V0 4]) (Xf s.mindex 4 (4:Int) _ (Qm hr 10 Do).1 (Qm hr 10 Do).2 rfl Do) ?_
 rintro _ u2 ⟨_,rfl,d9,u4,t7,rfl,h4⟩
 have l5:=(f0.trans k0).size
 have d2:=Zf h4 l5
 have b0:=Za r5 d9
 have a2:=bln (f0.trans k0) d9
 refine xbi 0 fun _ _ _ _ zJ zQ zo zx zy zK=>Zr (m:=4) (news:=((leB s.mindex 4).map bv)) (.int .u8 0) 1 1 (52) (((Ve++Vf ((1::Hj s).take 11)).map bv)) zo Tryz.underlying50 K0 rfl Do zx b0 zy (Ze d2) (by rw[At,Zj]) (Xw _) Do Do a2.size (by rfl) (Vt (N:=(1::Hj s)) (i:=10) (show 10<12 by decide)) fun o2 p0 s3 q7 k1 k7=>?_
 refine zK _ _ ?_
 have e4:=(e2.below d9).grown k1 b0 Do
 refine xb 29 11 e4 ?_
 refine xc 0 (args:=#[V0 s.mover,V0 4]) (Xf s.mover 4 (4:Int) _ (Qm hr 11 Do).1 (Qm hr 11 Do).2 rfl Do) ?_
 rintro _ t3 ⟨_,rfl,c0,v2,w2,rfl,j0⟩
 have m9:=(a2.trans k7).size
 have d4:=Zf j0 m9
 have a6:=Za q7 c0
 have e1:=bln (a2.trans k7) c0
 refine xbi 0 fun _ _ _ _ zJ zQ zo zx zy zK=>Zr (m:=4) (news:=((leB s.mover 4).map bv)) (.int .u8 0) 1 1 (56) (((Ve++Vf ((1::Hj s).take 12)).map bv)) zo Tryz.underlying50 K0 rfl Do zx a6 zy (Ze d4) (by rw[At,Zj]) (Xw _) Do Do e1.size (by rfl) (Vt (N:=(1::Hj s)) (i:=11) (show 11<12 by decide)) fun f8 f4 u6 o6 j3 m0=>?_
 refine zK _ _ ?_
 have n5:=o6
 rw[show(1::Hj s).take 12=(1::Hj s) from rfl] at n5
 refine xv1 27 5 (show(.slice f8 56 f4:Value)=.slice f8 (56+0) f4 from by rfl) ?_
 have j2:=e1.trans m0
 have l9:=((((((((((((((((((((((((u5.blkT ((a0.below n3.below).below n4.below) n4.blk Do).below k9).below l1).below k8).grown n2 f6 Do).below c2).grown h2 g3 Do).below d0).grown h5 b5 Do).below c4).grown h6 a9 Do).below d5).grown i9 a4 Do).below c8).grown j8 a3 Do).below c5).grown i5 a8 Do).below b8).grown j5 a5 Do).below b9).grown g5 b2 Do).below d9).grown k1 b0 Do).below c0).grown j3 a6 Do
 have j6:=(e4.below c0).grown j3 a6 Do
 refine zl 0 55 (fun zm o4 V=>∃ (j:Nat) (p6:O0) (c6:Nat),o4=[(2,S0),(3,V0 0),(5,.slice p6 (56+j) c6)]∧zm=244-((56+j))∧B3 w V∧Blk V b1 ([V0 s.tx,V0 s.time,V0 s.unit,V0 s.data,V0 s.blocks,V0 s.top,V0 s.details,V0 s.dslots,V0 s.dover,V0 s.mindex,V0 s.mover]) 54∧Blk V b3 ([V0 1,V0 s.tx,V0 s.time,V0 s.unit,V0 s.data,V0 s.blocks,V0 s.top,V0 s.details,V0 s.dslots,V0 s.dover,V0 s.mindex,V0 s.mover]) 3∧V.ownsRow w.heap.size 5 1 (.slice p6 (56+j) c6) (56+j) ((Ve++Vf (1::Hj s)++List.replicate j 0).map bv)∧j≤188) ⟨0,f8,f4,rfl,rfl,j2,l9,j6,(by rw[show List.replicate 0 (0:UInt8)=[] from rfl,F6];exact n5),A3 _⟩ ?_
 rintro _ _ u1 ⟨j,p6,c6,rfl,rfl,a1,f9,e5,hR,hj⟩ s6 m4 u0
 refine xid 8 ((↑(56+j):Int)<(244:Int)) (fun l6=>?_) (fun l6=>?_)
 ·refine xbs 5 1 [.int .u8 0] 5 fun t0 t9 f1=>?_
  have s2:=f1.ge a1
  have m8:=Zg hR f1
  have g1:=Za hR f1.below
  have e3:=bln a1 f1.below
  refine xbi 0 fun _ _ _ _ zJ zQ zo zx zy zK=>Zr (m:=1) (news:=[.int .u8 0]) (.int .u8 0) 1 1 ((56+(j+1))) (((Ve++Vf (1::Hj s)++List.replicate (j+1) 0).map bv)) zo Tryz.underlying50 K0 rfl Do zx g1 zy (f1.blk.sl 1 1 Do Do) rfl (by simp[Value.oneCell']) (by unfold maxLen;omega) M0 e3.size M0 (Zkw _ _) fun p8 o0 s5 q4 i0 l4=>?_
  refine zK _ _ ?_
  have g9:=e3.trans l4
  have a7:=(f9.below f1.below).grown i0 g1 Do
  have b6:=(e5.below f1.below).grown i0 g1 Do
  exact ze 3 (m4 _ _ _ ⟨j+1,_,_,rfl,rfl,g9,a7,b6,q4,by omega⟩ M0)
 exact xe 13 (.tuple #[.slice p6 (56+j) c6,V0 0]) (by obtain rfl:j=188:=M0;exact⟨_,rfl,a1,_,_,rfl,hR⟩)
def La(B bc bm:Nat)(pg:O0)(N cg k:Nat)(w:World):Prop:=∃ fa m fc,RAl B bc bm pg N cg fa m fc k (Qn 1 N) w
theorem La.below{B bc bm:Nat}{pg:O0}{N cg k:Nat}{w W:World}(h:La B bc bm pg N cg k w)(hb:B3 w W):La B bc bm pg N cg k W:=by obtain⟨a,b,c,h⟩:=h;exact⟨a,b,c,h.below hb⟩
theorem La.only{B bc bm:Nat}{pg:O0}{N cg k:Nat}{w W:World}{T:List TypeId}(h:La B bc bm pg N cg k w)(hO:Zd T w W)(hT:T.contains 189=false∧T.contains 3=false):La B bc bm pg N cg k W:=by obtain⟨a,b,c,h⟩:=h;exact⟨a,b,c,h.only hO hT⟩
theorem La.upd{B bc bm:Nat}{pg:O0}{N cg k g n c B2:Nat}{xs:List Value}{w W:World}(h:La B bc bm pg N cg k w)(hg:∀ j,(Value.slice pg N cg).ownBlock=some j→j≠g)(u:Upd w g W)(ho:w.ownsRow B2 3 1 (.slice (S1 g) n c) n xs):La B bc bm pg N cg k W:=by
 obtain⟨a,b,c,h⟩:=h
 exact⟨a,b,c,u.blk h.blk (Xd h.blk ho Do),u.own3 h.nums hg,h.hfree,h.hm,h.hL,h.hB,h.hN⟩
theorem La.used{B bc bm:Nat}{pg:O0}{N cg k:Nat}{w:World}(h:La B bc bm pg N cg k w):w.cell? ⟨bc,2,none⟩=some (V0 (k:Int)):=by obtain⟨a,b,c,h⟩:=h;exact h.blk.cell (i:=2) rfl
def RTreeF(B bc bm:Nat)(pg:O0)(N cg:Nat)(p:O0)(K c:Nat)(zs:Bl)(F:List Kv)(w:World)(e:Ending)(w':World):Prop:=e=.returned (.tuple #[V0 (↑(Xm F):Int),.agg #[S0,V0 0]])∧Below B w w'∧Zd [189,9] w w'∧La B bc bm pg N cg (Xm F) w'∧RefI B bm p K c (Fo F 1 zs) w'
theorem De(B bc bm:Nat)(pg:O0)(N cg:Nat)(p:O0)(K cI:Nat)(zs:Bl)(F:List Kv)(t:Int)(a:O0)(c n:Nat)(l:List Ent)(w:World)(hl:l.length=n)(hR:La B bc bm pg N cg (Xm F) w)(hJ:RefI B bm p K cI (Fo F 1 zs) w)(hok:Nx (t,l))(hr:Xm (F++[(t,l)])≤N)(hf:1+N≤K)
 (hin:∀ W,Below B w W→Zd [189,9] w W→Sl W (.slice a n c) n (l.flatMap Yo)) (hBw:B≤w.heap.size) :
 C0 51 #[P0 bc,V0 t,.slice a n c] w (RTreeF B bc bm pg N cg p K cI zs (F++[(t,l)]) w):=by
 subst hl
 obtain⟨fa,mf,fc,hR⟩:=hR
 have hn:=Ni (t,l)
 have e1:Xm (F++[(t,l)])=Xm F+Zw t l.length:=Kg _ _
 have e2:Fo (F++[(t,l)]) 1 zs=(Vl t l (1+Xm F) (Fo F 1 zs)).2:=Ov _ _ _ _
 refine(Gn B bc bm pg N cg fa mf fc 1 (Xm F) p K cI (Fo F 1 zs) t a c l.length l w rfl hR hok.2.2.2 hok.1 hok.2.1 hok.2.2.1 M0 hf hJ hin hBw).mono ?_
 rintro e w' ⟨a1,m2,a2,rfl,hb,hO,a3,a4⟩
 have a5:1≤Zw t l.length:=hn
 have a0:(Vl t l (1+Xm F) (Fo F 1 zs)).1=((Xm (F++[(t,l)]):Nat):Int):=by
  rw[Hz M0,e1]
  omega
 exact⟨by rw[a0],hb,hO,⟨a1,m2,a2,by rw[e1];exact a3⟩,by rw[e2];exact a4⟩
theorem Uy(B bm:Nat)(p:O0)(k c:Nat)(l:Bl)(a:O0)(ca:Nat)(li:Bl)(w:World)(hI:RefI B bm p k c l w)(hin:Sl w (.slice a 244 ca) 244 (li.map bv))(hl:li.length=244)(hj:0<k)(hBw:B≤w.heap.size) :
 C0 116 #[P0 bm,V0 0,V0 1,.slice a 244 ca] w (fun e w'=>∃ v,e=.returned v∧Below B w w'∧Zd [9] w w'∧RefI B bm p k c (Km l (0*256) (Ja 1 (0:Nat) li)) w'):=by
 have q:=Ph B bm p k c l 0 1 a ca li w hI (Ya (by rw[hl];exact hin) rfl) hBw (by unfold Vy;rw[hl];decide) hj
 rw[hl] at q
 refine q.mono ?_
 rintro e W ⟨x,y,rfl,hb,hO,a0,_⟩
 exact⟨_,rfl,hb,hO,a0⟩
end Go.Proofs.YtekomodnkfhihaaGreatDoor
