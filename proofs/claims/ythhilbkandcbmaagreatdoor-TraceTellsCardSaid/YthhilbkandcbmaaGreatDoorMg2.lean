/- Package alloc at an image of its own: New, Next, Lay, Left, Used. -/
import Derived.Lib.AppendZerosOnto
import Derived.Lib.BufferWrite
import Derived.Lib.AppendStr
import Derived.Test.YthhilbkandcbmaaGreatDoorMg1
namespace Go.Proofs.YthhilbkandcbmaaGreatDoor
set_option maxHeartbeats 8000000
set_option maxRecDepth 100000
open Go.RowKit Go.Extern.Stop Go.Stop Go.Extern
set_option linter.unusedVariables false
attribute [local irreducible] wpList wpAnyH Code.wp Oper.wp Go
def Rt(f j:Nat):List Int:=(List.range j).map fun i=>((f+i:Nat):Int)
theorem rngJ_succ(f j:Nat):Rt f (j+1)=Rt f j++[((f+j:Nat):Int)]:=by simp[Rt,List.range_succ]
theorem Zd9{f N k:Nat}(h:k<N):(Rt f N).getD k 0=((f+k:Nat):Int):=by simp[Rt,List.getD,List.getElem?_range h]
theorem Zet(f j:Nat):(Rt f j).length=j:=by simp[Rt]
structure Al(B ba b g n c:Nat)(pa:Option Addr)(ca f N k:Nat)(l:List UInt8)(w:World):Prop where
 blkA:Blk w ba [.slice pa N ca,.int .i64 (k:Int),.pointer (some ⟨b,0,none⟩)] 128
 blkI:Blk w b [.slice (some ⟨g,0,none⟩) n c] 59
 data:w.ownsRow B 5 1 (.slice (some ⟨g,0,none⟩) n c) n (l.map bv)
 nums:w.ownsRow B 3 1 (.slice pa N ca) N ((Rt f N).map (Value.int .i64))
structure AlC(B ba n c ca f N:Nat):Prop where
 hn:n≤3686400
 hc:n≤c
 hca:N≤ca
 hf:f+N≤n/256
 hB:B≤ba
theorem alloc_New(b:Nat)(p0:O0)(n c f:Nat)(w:World)(hk:Blk w b [.slice p0 n c] 59)(hn:n≤3686400)(h1:1≤f)(h2:f≤n/256) :
 C0 27 #[P0 b,V0 (f:Int)] w (Qd (fun w' r=>∃ ba p c2,r=.tuple #[P0 ba,.nilIface]∧w.heap.size≤ba∧Blk w' ba [.slice p (n/256-f) c2,V0 0,P0 b] 128∧w'.ownsRow w.heap.size 3 1 (.slice p (n/256-f) c2) (n/256-f) ((Rt f (n/256-f)).map V0)) w):=by
 refine zin 37 Tryz.func27 ?_
 refine xgk 16 [12,13,14] (show(decide ((f:Int)<(1:Int)):Bool)=false from decide_eq_false (by omega)) ?_
 refine xr 2 (args:=#[P0 b]) (Yc b p0 n c _ hk (by omega)) fun W2 b3=>?_
 refine xk 4 (show(decide ((f:Int)>(↑(n/256):Int)):Bool)=false from decide_eq_false (by omega)) ?_
 have b0:=hk.below b3
 refine zl 15 37 (fun zm c1 V=>∃ (j:Nat) (p:O0) (c2:Nat),c1=[(0,P0 b),(4,.pointer none),(5,.nilIface),(6,.slice p j c2),(7,V0 (↑(f+j):Int))]∧zm=n/256-((↑(f+j):Int)).toNat∧B3 w V∧Blk V b ([.slice p0 n c]) 59∧V.ownsRow w.heap.size 3 1 (.slice p j c2) j ((Rt f j).map V0)∧f+j≤n/256) ⟨0,_,_,rfl,rfl,b3,b0,World.ownsRow_nil _ _ _ _,by omega⟩ ?_
 rintro _ _ W3 ⟨j,p,c2,rfl,rfl,a3,a4,ho,hj⟩ J3 b5 r3
 refine xr 5 (args:=#[P0 b]) (Yc b p0 n c _ a4 (by omega)) fun W4 a5=>?_
 refine xid 3 ((↑(f+j):Int)<(↑(n/256):Int)) (fun b9=>?_) (fun b9=>?_)
 ·refine xbs 7 1 [V0 (↑(f+j):Int)] 3 fun b6 W6 n6=>?_
  have a1:=bln a3 a5
  have g6:=n6.ge a1
  have a7:=Zb ho a5
  have b4:=Xa a7 n6
  have a8:=Zb a7 n6.below
  have a2:=bln a1 n6.below
  refine xbi 0 fun _ _ _ _ zJ zQ zo zx zy zK=>Zo (m:=1) (news:=[V0 (↑(f+j):Int)]) (V0 0) 1 8 (j+1) ((Rt f (j+1)).map V0) zo Tryz.underlying28 (by kernel_rfl) rfl (by decide) zx a8 zy (n6.blk.sl 1 1 (by decide) (by decide)) rfl (by simp[Value.oneCell']) (by unfold maxLen;omega) (by omega) a2.size (by rfl) (by rw[rngJ_succ];simp) fun c4 c3 W7 o7 b7 c0=>?_
  refine zK _ _ ?_
  refine xwm 6 ((↑(f+j):Int)+1) (↑((f+j)+1):Int) ?_
  have a9:=a2.trans c0
  have a0:=((a4.below a5).below n6.below).grown b7 a8 (by decide)
  exact ze 2 (b5 _ _ _ ⟨j+1,_,_,rfl,rfl,a9,a0,o7,by omega⟩ (by omega))
 refine xa 11 [.slice p j c2,V0 0,P0 b] 128 fun b8 W8 n8=>?_
 have a6:=bln a3 a5
 have g8:=n8.ge a6
 have b2:=bln a6 n8.below
 have b1:=Zb (Zb ho a5) n8.below
 refine xe 5 (.tuple #[P0 b8,.nilIface]) ?_
 obtain rfl:j=n/256-f:=by omega
 exact⟨_,rfl,b2,_,_,_,rfl,g8,n8.blk,b1⟩
theorem Ki(ba b:Nat)(v x:Value)(w:World)(hk:Blk w ba [v,x,P0 b] 128) :
 C0 93 #[P0 ba] w (Ret (.bool false) w):=by
 refine zin 12 Tryz.func93 ?_
 refine xb 13 2 hk ?_
 exact xe 6 (.bool false) ⟨rfl,(B4 w)⟩
theorem Se(ba:Nat)(p:O0)(N c k:Nat)(m:Value)(w:World)(hk:Blk w ba [.slice p N c,V0 (k:Int),m] 128)(h1:k≤N) :
 C0 159 #[P0 ba] w (Ret (.slice (Ke p k c 1) (N-k) (c-k)) w):=by
 refine zin 12 Tryz.func159 ?_
 refine xd 6 .z ?_
 have a0:=hk.below (Za w)
 refine xb (.e [0,1,2] 3) 0 a0 ?_
 refine xb (.e [4,5,6] 7) 1 a0 ?_
 refine xsL (.e [] 8) (fun _ _ _ _ zo zx zy V=>Yl (k:=k) (b:=p) (n:=N) (c:=c) (i:=(k:Int)) (ki:=.i64) 1 zo zx zy rfl (by omega) Tryz.underlying28 (by kernel_rfl) V) ?_
 have hB:=(Za w)
 exact xe (.r [9] 3) (.slice (Ke p k c 1) (N-k) (c-k)) ⟨rfl,hB⟩
theorem Ll(ba b:Nat)(p:O0)(N c k:Nat)(w:World)(hk:Blk w ba [.slice p N c,V0 (k:Int),P0 b] 128)(h1:k≤N) :
 C0 99 #[P0 ba] w (Ret (V0 ((N-k:Nat):Int)) w):=by
 refine zin 10 Tryz.func99 ?_
 refine xr 9 (args:=#[P0 ba]) (Ki ba b _ _ _ hk) fun W1 a1=>?_
 have a0:=hk.below a1
 refine xr 10 (args:=#[P0 ba]) (Se ba p N c k _ _ a0 h1) fun W2 a2=>?_
 have hB:=bln a1 a2
 exact xe 5 (V0 (↑(N-k):Int)) ⟨rfl,hB⟩
theorem Zhi(ba b:Nat)(v:Value)(k:Nat)(w:World)(hk:Blk w ba [v,V0 (k:Int),P0 b] 128) :
 C0 115 #[P0 ba] w (Ret (V0 (k:Int)) w):=by
 refine zin 10 Tryz.func115 ?_
 refine xr 9 (args:=#[P0 ba]) (Ki ba b _ _ _ hk) fun W1 a1=>?_
 have a0:=hk.below a1
 refine xb 11 1 a0 ?_
 exact xe 4 (V0 (k:Int)) ⟨rfl,a1⟩
def Took(B ba:Nat)(p:O0)(N c k:Nat)(m:Value)(L:List Int)(v:Value)(w:World)(e:Ending)(w':World):Prop :=
 e=.returned v∧Below B w w'∧Zg [128] w w'∧Fr [ba] w w'∧Blk w' ba [.slice p N c,V0 ((k+1:Nat):Int),m] 128∧w'.ownsRow B 3 1 (.slice p N c) N (L.map V0)
theorem IntsN.elem{w:World}{b:O0}{n c:Nat}{l:List Int}(h:Sl w (.slice b n c) n (l.map V0))(hl:l.length=n){k:Nat}(hk:k<n):b.isSome=true∧w.cell? (Xe b (k*1))=some (V0 (l.getD k 0)):=by
 subst hl;exact Ints.elem h hk
theorem Zfi(B ba:Nat)(p:O0)(N c k:Nat)(L:List Int)(hL:L.length=N)(m:Value)(w:World)(hk:Blk w ba [.slice p N c,V0 (k:Int),m] 128)(ho:w.ownsRow B 3 1 (.slice p N c) N (L.map V0))(hB0:B≤ba)(hBw:B≤w.heap.size)(hN:N≤1000000)(hkN:k<N) :
 C0 197 #[P0 ba] w (Took B ba p N c k m L (.tuple #[V0 (L.getD k 0),.bool true]) w):=by
 refine zin 32 Tryz.func197 ?_
 refine xd 8 .z ?_
 have a0:=hk.below (Za w)
 refine xb (.e [0,1,2] 3) 1 a0 ?_
 refine xb (.e [4,5,6] 7) 0 a0 ?_
 refine xk (.r [8,9] 2) (show(decide ((k:Int)≥(N:Int)):Bool)=false from decide_eq_false (by omega)) ?_
 refine xb 7 1 a0 ?_
 refine xwm 0 ((k:Int)+1) (↑(k+1):Int) ?_
 refine xs 2 a0 [.slice p N c,V0 (↑(k+1):Int),m] fun W1 u1 k1=>?_
 refine xd 3 .z ?_
 have a2:=k1.below (Za W1)
 refine xb (.e [0,1,2] 3) 0 a2 ?_
 refine xb (.e [4,5,6] 7) 1 a2 ?_
 refine xwm (.e [] 8) ((↑(k+1):Int)-1) (k:Int) ?_
 have a1:=Zb (u1.own2 (Zb ho (Za w)) a0 (by decide)) (Za W1)
 refine xx (.e [] 9) _ N k 1 (IntsN.elem (Zd a1) hL (k:=k) (by omega)).1 ?_
 refine xl (.e [] 10) ((IntsN.elem (Zd a1) hL (k:=k) (by omega)).2) ?_
 have hB:=blB (u1.below (blB (Below.refl B w) hBw (Za w)) hB0) hBw (Za W1)
 have hO:=((show Zg [128] w _ from(Zg.of_below (Za w))).trans (Zg.of_upd u1 a0 (by decide))).trans (Zg.of_below (Za W1))
 have hX:=((show Fr [ba] w _ from(Fr.of_below (Za w))).trans (Fr.of_upd u1 (by simp))).trans (Fr.of_below (Za W1))
 exact xe (.r [11,12] 3) (.tuple #[V0 (L.getD k 0),.bool true]) ⟨rfl,hB,hO,hX,a2,a1⟩
theorem Zfs(B ba:Nat)(p:O0)(N c k:Nat)(L:List Int)(hL:L.length=N)(b q:Nat)(hq:L.getD k 0=(q:Int))(w:World)(hk:Blk w ba [.slice p N c,V0 (k:Int),P0 b] 128)(ho:w.ownsRow B 3 1 (.slice p N c) N (L.map V0))(hB0:B≤ba)(hBw:B≤w.heap.size)(hN:N≤1000000)(hkN:k<N) :
 C0 169 #[P0 ba] w (Took B ba p N c k (P0 b) L (.tuple #[V0 (q:Int),.nilIface]) w):=by
 refine zin 20 Tryz.func169 ?_
 refine xr 10 (args:=#[P0 ba]) (Ki ba b _ _ _ hk) fun W1 a0=>?_
 have a3:=hk.below a0
 have a1:=Zb ho a0
 have hB:=blB (Below.refl B w) hBw a0
 refine xc 10 (args:=#[P0 ba]) (Zfi B ba p N c k L hL _ _ a3 a1 hB0 (Nat.le_trans hBw hB.size) hN hkN) ?_
 rintro _ W2 ⟨rfl,a6,a5,a4,kA,ho⟩
 rw[hq]
 have a2:=hB.trans a6
 have hO:=(show Zg [128] w _ from(Zg.of_below a0)).trans a5
 have hX:=(show Fr [ba] w _ from(Fr.of_below a0)).trans (a4.mono (by simp))
 exact xe 25 (.tuple #[V0 (q:Int),.nilIface]) ⟨rfl,a2,hO,hX,kA,ho⟩
def Laid(B ba b g n c:Nat)(pa:O0)(ca f N k:Nat)(l:Bl)(kind:Int)(li:Bl)(w:World)(e:Ending)(w':World):Prop :=
 e=.returned (.tuple #[V0 ((f+k:Nat):Int),.nilIface])∧Below B w w'∧Zg [128,5] w w'∧Fr [ba,g] w w'∧Al B ba b g n c pa ca f N (k+1) (Vu l ((f+k)*256) (Xw kind ((f+k:Nat):Int) li)) w'
theorem Zg.mono{T T':List TypeId}{w w':World}(h:Zg T w w')(hT:∀ t,T'.contains t=false→T.contains t=false):Zg T' w w':=fun k cs t fr hk ht=>h k cs t fr hk (hT t ht)
theorem only_aa{w w':World}(h:Zg [128] w w'):Zg [128,5] w w':=h.mono fun t ht=>by simp at ht ⊢;exact ht.1
theorem only_ab{w w':World}(h:Zg [5] w w'):Zg [128,5] w w':=h.mono fun t ht=>by simp at ht ⊢;exact ht.2
theorem alloc_Lay(B ba b g n c:Nat)(p:O0)(ca f N k:Nat)(l:Bl)(kind:Int)(a:O0)(ci:Nat)(li:Bl)(w:World)(hC:AlC B ba n c ca f N)(hA:Al B ba b g n c p ca f N k l w)(hkN:k<N)(h1:1≤kind)(h2:kind≤4)(hin:∀ W,Below B w W→Zg [128] w W→Bys W (.slice a li.length ci) li)(hl:li.length≤244)(hBw:B≤w.heap.size) :
 C0 114 #[P0 ba,V0 kind,.slice a li.length ci] w (Laid B ba b g n c p ca f N k l kind li w):=by
 obtain⟨hk,hi,hd,ho⟩:=hA
 refine zin 35 Tryz.func114 ?_
 refine xc 9 (args:=#[P0 ba]) (Zfs B ba p N ca k (Rt f N) (Zet f N) b (f+k) (Zd9 hkN) _ hk ho hC.hB (Nat.le_trans hBw (Below.refl B _).size) (by have:=hC.hf;have:=hC.hn;omega) hkN) ?_
 rintro _ W1 ⟨rfl,a5,a1,b0,kA,ho⟩
 replace hin:=hin _ a5 a1
 refine xb 23 2 kA ?_
 have a0:=hi.only a1 (by decide)
 have a8:=Zr hd a1 (by decide)
 refine xc 3 (args:=#[P0 b,V0 (↑(f+k):Int),V0 kind,.slice a li.length ci]) (Fq B b g n c (f+k) l kind a ci li _ a0 a8 hC.hn hC.hc (by have:=hC.hf;omega) h1 h2 hin hl (Nat.le_trans hBw a5.size)) ?_
 rintro _ W2 ⟨rfl,b1,a2,a9,hd⟩
 have a7:=a5.trans b1
 have hO:=(show Zg [128,5] w _ from(only_aa a1)).trans (only_ab a2)
 have hX:=(show Fr [ba,g] w _ from(b0.mono (by simp))).trans (a9.mono (by simp))
 have a6:=kA.only a2 (by decide)
 have a3:=a0.only a2 (by decide)
 have a4:=Zr ho a2 (by decide)
 exact xe 20 (.tuple #[V0 (↑(f+k):Int),.nilIface]) ⟨rfl,a7,hO,hX,a6,a3,hd,a4⟩
theorem Bz(w:World) :
 C0 178 #[V0 1,.bool true] w (Ret (V0 4) w):=by
 refine zin 31 Tryz.func178 ?_
 exact xe 94 (V0 4) ⟨rfl,(B4 w)⟩
theorem Zf3(w:World) :
 C0 179 #[V0 1,.bool true] w (Ret (V0 18) w):=by
 refine zin 16 Tryz.func179 ?_
 refine xr 9 (args:=#[V0 1,.bool true]) (Bz _) fun W1 a0=>?_
 exact xe 24 (V0 18) ⟨rfl,a0⟩
theorem Ci(w:World) :
 C0 178 #[V0 1,.bool false] w (Ret (V0 4) w):=by
 refine zin 31 Tryz.func178 ?_
 exact xe 41 (V0 4) ⟨rfl,(B4 w)⟩
theorem Zft(w:World) :
 C0 179 #[V0 1,.bool false] w (Ret (V0 18) w):=by
 refine zin 16 Tryz.func179 ?_
 refine xr 9 (args:=#[V0 1,.bool false]) (Ci _) fun W1 a0=>?_
 exact xe 24 (V0 18) ⟨rfl,a0⟩
theorem Br(w:World) :
 C0 178 #[V0 2,.bool true] w (Ret (V0 8) w):=by
 refine zin 31 Tryz.func178 ?_
 exact xe 101 (V0 8) ⟨rfl,(B4 w)⟩
theorem Zgy(w:World) :
 C0 179 #[V0 2,.bool true] w (Ret (V0 12) w):=by
 refine zin 16 Tryz.func179 ?_
 refine xr 9 (args:=#[V0 2,.bool true]) (Br _) fun W1 a0=>?_
 exact xe 24 (V0 12) ⟨rfl,a0⟩
theorem Bu(w:World) :
 C0 178 #[V0 2,.bool false] w (Ret (V0 4) w):=by
 refine zin 31 Tryz.func178 ?_
 exact xe 41 (V0 4) ⟨rfl,(B4 w)⟩
theorem Zfq(w:World) :
 C0 179 #[V0 2,.bool false] w (Ret (V0 18) w):=by
 refine zin 16 Tryz.func179 ?_
 refine xr 9 (args:=#[V0 2,.bool false]) (Bu _) fun W1 a0=>?_
 exact xe 24 (V0 18) ⟨rfl,a0⟩
theorem Cp(w:World) :
 C0 178 #[V0 3,.bool true] w (Ret (V0 24) w):=by
 refine zin 31 Tryz.func178 ?_
 exact xe 93 (V0 24) ⟨rfl,(B4 w)⟩
theorem Zfa(w:World) :
 C0 179 #[V0 3,.bool true] w (Ret (V0 6) w):=by
 refine zin 16 Tryz.func179 ?_
 refine xr 9 (args:=#[V0 3,.bool true]) (Cp _) fun W1 a0=>?_
 exact xe 24 (V0 6) ⟨rfl,a0⟩
theorem Bn(w:World) :
 C0 178 #[V0 3,.bool false] w (Ret (V0 4) w):=by
 refine zin 31 Tryz.func178 ?_
 exact xe 41 (V0 4) ⟨rfl,(B4 w)⟩
theorem Ze0(w:World) :
 C0 179 #[V0 3,.bool false] w (Ret (V0 18) w):=by
 refine zin 16 Tryz.func179 ?_
 refine xr 9 (args:=#[V0 3,.bool false]) (Bn _) fun W1 a0=>?_
 exact xe 24 (V0 18) ⟨rfl,a0⟩
theorem Bh(w:World) :
 C0 178 #[V0 4,.bool true] w (Ret (V0 16) w):=by
 refine zin 31 Tryz.func178 ?_
 exact xe 98 (V0 16) ⟨rfl,(B4 w)⟩
theorem Zf0(w:World) :
 C0 179 #[V0 4,.bool true] w (Ret (V0 9) w):=by
 refine zin 16 Tryz.func179 ?_
 refine xr 9 (args:=#[V0 4,.bool true]) (Bh _) fun W1 a0=>?_
 exact xe 24 (V0 9) ⟨rfl,a0⟩
theorem Cn(w:World) :
 C0 178 #[V0 4,.bool false] w (Ret (V0 4) w):=by
 refine zin 31 Tryz.func178 ?_
 exact xe 41 (V0 4) ⟨rfl,(B4 w)⟩
theorem Zf8(w:World) :
 C0 179 #[V0 4,.bool false] w (Ret (V0 18) w):=by
 refine zin 16 Tryz.func179 ?_
 refine xr 9 (args:=#[V0 4,.bool false]) (Cn _) fun W1 a0=>?_
 exact xe 24 (V0 18) ⟨rfl,a0⟩
theorem By(w:World) :
 C0 178 #[V0 5,.bool true] w (Ret (V0 4) w):=by
 refine zin 31 Tryz.func178 ?_
 exact xe 94 (V0 4) ⟨rfl,(B4 w)⟩
theorem Zf1(w:World) :
 C0 179 #[V0 5,.bool true] w (Ret (V0 18) w):=by
 refine zin 16 Tryz.func179 ?_
 refine xr 9 (args:=#[V0 5,.bool true]) (By _) fun W1 a0=>?_
 exact xe 24 (V0 18) ⟨rfl,a0⟩
theorem Cl(w:World) :
 C0 178 #[V0 5,.bool false] w (Ret (V0 4) w):=by
 refine zin 31 Tryz.func178 ?_
 exact xe 41 (V0 4) ⟨rfl,(B4 w)⟩
theorem Zfk(w:World) :
 C0 179 #[V0 5,.bool false] w (Ret (V0 18) w):=by
 refine zin 16 Tryz.func179 ?_
 refine xr 9 (args:=#[V0 5,.bool false]) (Cl _) fun W1 a0=>?_
 exact xe 24 (V0 18) ⟨rfl,a0⟩
def Ht(t:Int)(leaf:Bool):Nat:=if leaf=false then 4 else if t=2 then 8 else if t=3 then 24 else if t=4 then 16 else 4
def Qi(t:Int)(leaf:Bool):Nat:=if leaf=false then 18 else if t=2 then 12 else if t=3 then 6 else if t=4 then 9 else 18
theorem Te(t:Int)(leaf:Bool)(h1:1≤t)(h2:t≤5)(w:World):C0 178 #[V0 t,.bool leaf] w (Ret (V0 (Ht t leaf:Int)) w):=by
 obtain rfl|rfl|rfl|rfl|rfl:t=1∨t=2∨t=3∨t=4∨t=5:=by omega
 all_goals cases leaf
 ·exact Ci w
 ·exact Bz w
 ·exact Bu w
 ·exact Br w
 ·exact Bn w
 ·exact Cp w
 ·exact Cn w
 ·exact Bh w
 ·exact Cl w
 ·exact By w
theorem Dj(t:Int)(leaf:Bool)(h1:1≤t)(h2:t≤5)(w:World):C0 179 #[V0 t,.bool leaf] w (Ret (V0 (Qi t leaf:Int)) w):=by
 obtain rfl|rfl|rfl|rfl|rfl:t=1∨t=2∨t=3∨t=4∨t=5:=by omega
 all_goals cases leaf
 ·exact Zft w
 ·exact Zf3 w
 ·exact Zfq w
 ·exact Zgy w
 ·exact Ze0 w
 ·exact Zfa w
 ·exact Zf8 w
 ·exact Zf0 w
 ·exact Zfk w
 ·exact Zf1 w
theorem Qh(t:Int)(leaf:Bool):1≤Qi t leaf∧Qi t leaf≤18:=by
 unfold Qi;repeat' split
 all_goals decide
theorem run_quo{P:Program}{a:Act}{o:Oper}{t:TypeId}{x y:Operand}{t2:TypeId}{p q r:Int}{k:IntKind}(ho:o.op=.binOp .quo t x y t2)(hx:a.eval x=.int k p)(hy:a.eval y=.int k q)(hq:q≠0)(hr:k.wrap (Int.tdiv p q)=r)(w:World) :
 (execOp a.eval o).run P w=.ok (.value (.int k r)) w:=by
 subst hr
 have hb:(binOp .quo t (.int k p) (.int k q)).run P w=.ok (.int k (k.wrap (p.tdiv q))) w:=by
  simp[binOp,Op.intDiv,hq]
 have hg:(eqGuard .quo t x y (.int k p) (.int k q)).run P w=.ok () w:=rfl
 simp only[execOp,ho,hx,hy,Sem.run_bind,hg,Result.andThen_ok,hb]
 rfl
def ovN (n m:Nat):Nat:=max 1 ((n+m-1)/m)
theorem max_cast(a b:Nat):(if(b:Int)>(a:Int) then(b:Int) else(a:Int))=((max a b:Nat):Int):=by split<;>omega
theorem Vj(n m:Nat):1≤ovN n m:=by unfold ovN;omega
theorem Zac(n m:Nat)(hm:1≤m):ovN n m≤n+1:=by
 have:(n+m-1)/m≤n:=by
  rw[Nat.div_le_iff_le_mul_add_pred (by omega)]
  have:=Nat.le_mul_of_pos_left n hm
  omega
 unfold ovN;omega
theorem ov18{x:Nat}(h:2≤x):ovN x 18≤x/2:=by unfold ovN;omega
theorem Ek(n m:Nat)(w:World)(hn:n≤1000000)(hm:1≤m)(hm2:m≤1000000) :
 C0 193 #[V0 (n:Int),V0 (m:Int)] w (Ret (V0 (ovN n m:Int)) w):=by
 refine zin 12 Tryz.func193 ?_
 refine xwm 9 ((n:Int)+(m:Int)) (↑(n+m):Int) ?_
 refine xwm 0 ((↑(n+m):Int)-1) (↑((n+m)-1):Int) ?_
 refine xbo 1 (t:=3) (t2:=3) (fun _ _ _ _ zo zx zy V hV=>run_quo (r:=(↑((n+m-1)/m):Int)) zo zx zy (by omega) (Zbr (n+m-1) m (by omega) (by omega)) V) ?_
 refine xq 0 (congrArg V0 (show(if(↑((n+m-1)/m):Int)>(1:Int) then(↑((n+m-1)/m):Int) else(1:Int):Int)=(↑(ovN n m):Int) from max_cast 1 ((n+m-1)/m))) ?_
 exact xe 4 (V0 (↑(ovN n m):Int)) ⟨rfl,(B4 w)⟩
def lenOf:Value→Nat
 | .slice _ n _=>n
 | _=>0
def nv (n:Nat):Value:=V0 (n:Int)
def Aa(x:Nat):List Nat:=if h:x≤1 then [x] else x::Aa (ovN x 18)
termination_by x
decreasing_by have:=ov18 (x:=x) (by omega);omega
theorem Hj{x:Nat}(h:x≤1):Aa x=[x]:=by rw[Aa];simp[h]
theorem Jl{x:Nat}(h:¬ x≤1):Aa x=x::Aa (ovN x 18):=by rw[Aa];simp[h]
theorem levs_sum{x:Nat}(h:1≤x):(Aa x).sum≤2*x:=by
 induction x using Nat.strongRecOn with
 | _ x ih =>
  by_cases h1:x≤1
  ·rw[Hj h1];simp;omega
  ·rw[Jl h1,List.sum_cons]
   have h2:=ov18 (x:=x) (by omega)
   have:=ih (ovN x 18) (by omega) (Vj _ _)
   omega
theorem levs_len{x:Nat}(h:1≤x):(Aa x).length≤x:=by
 induction x using Nat.strongRecOn with
 | _ x ih =>
  by_cases h1:x≤1
  ·rw[Hj h1];simpa using h
  ·rw[Jl h1,List.length_cons]
   have h2:=ov18 (x:=x) (by omega)
   have:=ih (ovN x 18) (by omega) (Vj _ _)
   omega
theorem Zl{w:World}{b:O0}{n c:Nat}{l:List Nat}(h:Sl w (.slice b n c) n (l.map nv))(hl:l.length=n){k:Nat}(hk:k<n):b.isSome=true∧w.cell? (Xe b (k*1))=some (V0 ((l.getD k 0:Nat):Int)):=by
 have e:l.map nv=(l.map fun x:Nat=>(x:Int)).map V0:=by simp[nv]
 rw[e] at h
 have:=IntsN.elem h (by simpa using hl) hk
 rw[show(l.map fun x:Nat=>(x:Int)).getD k 0=((l.getD k 0:Nat):Int) by simp[List.getD,List.getElem?_eq_getElem (show k<l.length by omega)]] at this
 exact this
theorem Zad{xs:List Nat}{x j:Nat}(h:xs.length=j):(xs++[x]).getD j 0=x:=by subst h;simp[List.getD]
theorem Ao{L:List Nat}{k:Nat}(h:k<L.length):(L.take (k+1)).sum=(L.take k).sum+L.getD k 0:=by
 rw[List.take_add_one,List.sum_append];simp[List.getD,List.getElem?_eq_getElem h]
theorem take_le{L:List Nat}(k:Nat):(L.take k).sum≤L.sum:=by
 conv=>rhs;rw[←List.take_append_drop k L,List.sum_append]
 omega
def Hw(t:Int)(n:Nat):List Nat:=Aa (ovN n (Qi t true))
def Xq(t:Int)(n:Nat):Nat:=(Hw t n).sum
theorem levL_len(t:Int)(n:Nat):(Hw t n).length≤n+1:=by
 have:=levs_len (Vj n (Qi t true));have:=Zac n (Qi t true) (Qh t true).1;unfold Hw;omega
theorem Jj(t:Int)(n:Nat):Xq t n≤2*n+2:=by
 have:=levs_sum (Vj n (Qi t true));have:=Zac n (Qi t true) (Qh t true).1;unfold Xq Hw;omega
theorem Zc6(t:Int)(n:Nat)(w:World)(h1:1≤t)(h2:t≤5)(hn:n≤32768) :
 C0 160 #[V0 t,V0 (n:Int)] w (Qd (fun w' r=>∃ p c,r=.slice p (Hw t n).length c∧w'.ownsRow w.heap.size 3 1 (.slice p (Hw t n).length c) (Hw t n).length ((Hw t n).map nv)) w):=by
 have b4:=(Qh t true).1
 have d2:=(Qh t true).2
 have c8:=Zac n (Qi t true) b4
 have c0:=Vj n (Qi t true)
 refine zin 45 Tryz.func160 ?_
 refine xr 8 (args:=#[V0 t,.bool true]) (Dj t true h1 h2 _) fun W1 b1=>?_
 refine xr 1 (args:=#[V0 t,.bool false]) (Dj t false h1 h2 _) fun W2 b0=>?_
 refine xgk 10 [13,14] (show(((↑(Qi t true):Int)==(0:Int)):Bool)=false from by simp;omega) ?_
 refine xgk 4 [16,17,18] (show(decide ((n:Int)<(0:Int)):Bool)=false from decide_eq_false (by omega)) ?_
 refine xk 5 (show(decide ((n:Int)>(32768:Int)):Bool)=false from decide_eq_false (by omega)) ?_
 refine xr 6 (args:=#[V0 (n:Int),V0 (↑(Qi t true):Int)]) (Ek n (Qi t true) _ (by omega) b4 (by omega)) fun W5 b3=>?_
 refine xbs 0 1 [V0 (↑(ovN n (Qi t true)):Int)] 3 fun b6 W6 n6=>?_
 have g6:=n6.ge (bln (bln b1 b0) b3)
 have hB:=bln (bln (bln b1 b0) b3) n6.below
 refine zl 5 45 (fun zm c4 V=>∃ (j x:Nat) (xs:List Nat) (p:O0) (c:Nat),c4=[(4,S0),(6,V0 18),(7,.slice p (j+1) c)]∧zm=40000-(j+1)∧B3 w V∧V.ownsRow w.heap.size 3 1 (.slice p (j+1) c) (j+1) ((xs++[x]).map nv)∧xs.length=j∧1≤x∧x≤32769∧xs++Aa x=Hw t n∧j+x≤40000) ⟨0,(ovN n (Qi t true)),[],_,_,rfl,rfl,hB,Zp (size:=1) (n:=1) n6.blk g6 rfl (by unfold maxLen;decide),rfl,c0,by omega,rfl,by omega⟩ ?_
 rintro _ _ W7 ⟨j,x,xs,p,c,rfl,rfl,a5,ho,a0,c9,c7,b2,hj⟩ J7 b7 r7
 refine xwm 6 ((↑(j+1):Int)-1) (j:Int) ?_
 refine xx 0 _ (j+1) j 1 (Zl (Zd ho) (by simp[a0]) (k:=j) (by omega)).1 ?_
 refine xl 0 (by have:=(Zl (Zd ho) (by simp[a0]) (k:=j) (by omega)).2;rwa [Zad a0] at this) ?_
 refine xid 3 ((x:Int)>(1:Int)) (fun c1=>?_) (fun c1=>?_)
 ·refine xwm 8 ((↑(j+1):Int)-1) (j:Int) ?_
  refine xx 0 _ (j+1) j 1 (Zl (Zd ho) (by simp[a0]) (k:=j) (by omega)).1 ?_
  refine xl 0 (by have:=(Zl (Zd ho) (by simp[a0]) (k:=j) (by omega)).2;rwa [Zad a0] at this) ?_
  refine xr 1 (args:=#[V0 (x:Int),V0 18]) (Ek x 18 _ (by omega) (by decide) (by decide)) fun W9 b5=>?_
  refine xbs 0 1 [V0 (↑(ovN x 18):Int)] 3 fun d0 c6 a3=>?_
  have a1:=bln a5 b5
  have d1:=a3.ge a1
  have a4:=Zb ho b5
  have a7:=Xa a4 a3
  have a9:=Zb a4 a3.below
  have a2:=bln a1 a3.below
  refine xbi 0 fun _ _ _ _ zJ zQ zo zx zy zK=>Zo (m:=1) (news:=[V0 (↑(ovN x 18):Int)]) (V0 0) 1 8 (j+1+1) (((xs++[x])++[ovN x 18]).map nv) zo Tryz.underlying28 (by kernel_rfl) rfl (by decide) zx a9 zy (a3.blk.sl 1 1 (by decide) (by decide)) rfl (by simp[Value.oneCell']) (by unfold maxLen;omega) (by omega) a2.size (by rfl) (by simp[nv]) fun c2 c3 d3 b9 b8 a8=>?_
  refine zK _ _ ?_
  have c5:=ov18 (x:=x) (by omega)
  have a6:=a2.trans a8
  exact ze 3 (b7 _ _ _ ⟨j+1,(ovN x 18),xs++[x],_,_,rfl,rfl,a6,b9,by simp[a0],Vj _ _,by omega,by rw[←b2,Jl (x:=x) (by omega)];simp,by omega⟩ (by omega))
 refine xe 12 (.slice p (j+1) c) ?_
 have e:Hw t n=xs++[x]:=by rw[←b2,Hj (x:=x) (by omega)]
 have el:(Hw t n).length=j+1:=by rw[e];simp[a0]
 exact⟨_,rfl,a5,p,c,by rw[el],by rw[el,e];exact ho⟩
theorem Qe(t:Int)(n:Nat)(w:World)(h1:1≤t)(h2:t≤5)(hn:n≤32768) :
 C0 100 #[V0 t,V0 (n:Int)] w (Ret (V0 (Xq t n:Int)) w):=by
 refine zin 21 Tryz.func100 ?_
 refine xc 15 (args:=#[V0 t,V0 (n:Int)]) (Zc6 t n _ h1 h2 hn) ?_
 rintro _ W1 ⟨_,rfl,a4,p,c,rfl,ho⟩
 have a2:=Nat.le_refl w.heap.size
 have a1:=Ze ho a2
 refine zl 5 21 (fun zm a5 V=>∃ (k:Nat),a5=[(4,V0 0),(5,V0 (↑((Hw t n).take k).sum:Int)),(10,.slice p ((Hw t n).length) c),(11,V0 (↑((Hw t n).length):Int)),(12,V0 (k:Int))]∧zm=(Hw t n).length-((k:Int)).toNat∧B3 w V∧V.ownsRow w.heap.size 3 1 (.slice p (Hw t n).length c) (Hw t n).length ((Hw t n).map nv)∧k≤(Hw t n).length) ⟨0,rfl,rfl,a4,a1,Nat.zero_le _⟩ ?_
 rintro _ _ W2 ⟨k,rfl,rfl,a0,ho,hk⟩ J2 a3 r2
 have a9:=levL_len t n
 have a2:=Jj t n
 unfold Xq at a2
 have a7:=take_le (L:=Hw t n) (k+1)
 have a8:k<(Hw t n).length→((Hw t n).take (k+1)).sum=((Hw t n).take k).sum+(Hw t n).getD k 0:=Ao
 refine xid 6 ((k:Int)<(↑((Hw t n).length):Int)) (fun a6=>?_) (fun a6=>?_)
 ·refine xx 6 _ ((Hw t n).length) k 1 (Zl (Zd ho) rfl (k:=k) (by omega)).1 ?_
  refine xl 0 ((Zl (Zd ho) rfl (k:=k) (by omega)).2) ?_
  refine xwm 6 ((↑((Hw t n).take k).sum:Int)+(↑((Hw t n).getD k 0):Int)) (↑(((Hw t n).take k).sum+((Hw t n).getD k 0)):Int) ?_
  refine xwm 5 ((k:Int)+1) (↑(k+1):Int) ?_
  refine xv1 2 5 (show(V0 (↑(((Hw t n).take k).sum+((Hw t n).getD k 0)):Int):Value)=V0 (↑((Hw t n).take (k+1)).sum:Int) from by rw[Ao (by omega)]) ?_
  exact ze 0 (a3 _ _ _ ⟨k+1,rfl,rfl,a0,ho,by omega⟩ (by omega))
 refine xe 12 (V0 (↑((Hw t n).take k).sum:Int)) ?_
 have e:k=(Hw t n).length:=by omega
 subst e
 rw[List.take_length]
 exact⟨rfl,a0⟩
def Ks(n m i:Nat):Nat:=min m (n-i*m)
theorem siz_le{n m i:Nat}(hm:1≤m)(h:i<ovN n m):i*m≤n:=by
 unfold ovN at h
 rcases Nat.eq_zero_or_pos i with rfl|hi
 ·omega
 ·have h1:i+1≤(n+m-1)/m:=by omega
  have h2:=(Nat.le_div_iff_mul_le (by omega)).1 h1
  rw[Nat.add_mul] at h2
  omega
def It(n m k:Nat):List Value:=(List.range (ovN n m)).map fun i=>V0 (if i<k then(Ks n m i:Int) else 0)
def sizL(n m:Nat):List Nat:=(List.range (ovN n m)).map (Ks n m)
theorem sizK_zero(n m:Nat):Hn (Value.int .i64 0).cells.toList (ovN n m)=It n m 0:=by
 rw[show(Value.int .i64 0).cells.toList=[Value.int .i64 0] from rfl,Hn,It]
 simp[List.map_const']
theorem sizK_all(n m:Nat):It n m (ovN n m)=(sizL n m).map nv:=by
 unfold It sizL nv
 rw[List.map_map]
 apply List.map_congr_left
 intro i hi
 rw[List.mem_range] at hi
 simp[hi]
theorem sizK_set{n m k:Nat}(h:k<ovN n m):(It n m k).set k (V0 (Ks n m k:Int))=It n m (k+1):=by
 apply List.ext_getElem?
 intro i
 by_cases hi:i<ovN n m
 ·by_cases e:k=i
  ·subst e
   rw[List.getElem?_set_self (by simpa [It] using h)]
   simp[It,List.getElem?_range h]
  ·rw[List.getElem?_set_ne e]
   simp only[It,List.getElem?_map,List.getElem?_range hi,Option.map_some]
   by_cases e2:i<k
   ·simp[e2,show i<k+1 by omega]
   ·simp[e2,show ¬ i<k+1 by omega]
 ·rw[List.getElem?_eq_none (by simp[It];omega),List.getElem?_eq_none (by simp[It];omega)]
theorem sizL_len(n m:Nat):(sizL n m).length=ovN n m:=by simp[sizL]
theorem Zg6(n m:Nat)(w:World)(hn:n≤32768)(hm:1≤m)(hm2:m≤32768) :
 C0 195 #[V0 (n:Int),V0 (m:Int)] w (Qd (fun w' r=>∃ p c,r=.slice p (ovN n m) c∧w'.ownsRow w.heap.size 3 1 (.slice p (ovN n m) c) (ovN n m) ((sizL n m).map nv)) w):=by
 have a8:=Zac n m hm
 refine zin 40 Tryz.func195 ?_
 refine xgk 11 [8,9] (show(decide ((n:Int)<(0:Int)):Bool)=false from decide_eq_false (by omega)) ?_
 refine xgk 4 [11,12,13] (show(decide ((n:Int)>(32768:Int)):Bool)=false from decide_eq_false (by omega)) ?_
 refine xk 5 (show(decide ((m:Int)<(1:Int)):Bool)=false from decide_eq_false (by omega)) ?_
 refine xq 5 (congrArg V0 (show(if(32768:Int)<(m:Int) then(32768:Int) else(m:Int):Int)=(m:Int) from if_neg (by omega))) ?_
 refine xr 7 (args:=#[V0 (n:Int),V0 (m:Int)]) (Ek n m _ (by omega) hm (by omega)) fun W3 a2=>?_
 refine xmk 0 fun _ _ _ _ zJ zQ zo zx zy zK=>Kc (ovN n m) (V0 0) 1 8 (It n m 0) zo zx zy Tryz.underlying28 (by kernel_rfl) rfl (by omega) (by omega) (sizK_zero n m) fun b4 W4 n4=>?_
 refine zK _ _ ?_
 have hB:=bln a2 n4.below
 refine zl 12 40 (fun zm a6 V=>∃ (k:Nat),a6=[(0,V0 (n:Int)),(1,V0 (m:Int)),(4,S0),(5,.slice (S1 b4) (ovN n m) (ovN n m)),(24,V0 (↑(ovN n m):Int)),(25,V0 (k:Int))]∧zm=ovN n m-((k:Int)).toNat∧B3 w V∧Blk V b4 (It n m k) 3∧k≤ovN n m) ⟨0,rfl,rfl,hB,n4.blk,Nat.zero_le _⟩ ?_
 rintro _ _ W5 ⟨k,rfl,rfl,a1,a0,hk⟩ J5 a5 r5
 have a7:k<ovN n m→k*m≤n:=siz_le hm
 refine xid 6 ((k:Int)<(↑(ovN n m):Int)) (fun a4=>?_) (fun a4=>?_)
 ·refine xwm 17 ((k:Int)*(m:Int)) (↑(k*m):Int) ?_
  refine xwm 0 ((n:Int)-(↑(k*m):Int)) (↑(n-(k*m)):Int) ?_
  refine xxb 1 b4 0 (ovN n m) k 1 ?_
  refine xsg 0 a0 (0+k*1) (V0 (if(↑(n-(k*m)):Int)<(m:Int) then(↑(n-(k*m)):Int) else(m:Int))) (by simp[It];omega) fun W7 u7 k7=>?_
  replace k7:Blk W7 b4 (It n m (k+1)) 3:=by rw[←(show(It n m k).set (0+k*1) (V0 (if(↑(n-(k*m)):Int)<(m:Int) then(↑(n-(k*m)):Int) else(m:Int)))=It n m (k+1) from by rw[show 0+k*1=k by omega,show(if(↑(n-(k*m)):Int)<(m:Int) then(↑(n-(k*m)):Int) else(m:Int))=(↑(Ks n m k):Int) from Ib m (n-k*m)];exact sizK_set (by omega))];exact k7
  have g4:=n4.ge a2
  refine xwm 4 ((k:Int)+1) (↑(k+1):Int) ?_
  have a3:=u7.below a1 g4
  exact ze 2 (a5 _ _ _ ⟨k+1,rfl,rfl,a3,k7,by omega⟩ (by omega))
 have g4:=n4.ge a2
 refine xe 12 (.slice (S1 b4) (ovN n m) (ovN n m)) ?_
 have e:k=ovN n m:=by omega
 subst e
 have ho:=Zp (size:=1) (n:=ovN n m) a0 g4 (by simp[It]) (by unfold maxLen;omega)
 rw[sizK_all] at ho
 exact⟨_,rfl,a1,_,_,rfl,ho⟩
def Zh(l:Bl):Nat→Nat→Nat
 | _,0=>0
 | k,w+1=>(l.getD k 0).toNat+256*Zh l (k+1) w
theorem Fn(l:Bl):∀ (w k:Nat),Zh l k w<256 ^ w
 | 0,k=>by simp[Zh]
 | w+1,k=>by
  have:=Fn l w (k+1)
  have h:=(l.getD k 0).toNat_lt
  rw[Zh,Nat.pow_succ];omega
theorem Zev(l:Bl)(k w:Nat)(hw:w≤7):Zh l k w<72057594037927936:=Nat.lt_of_lt_of_le (Fn l w k) (by rw[show(72057594037927936:Nat)=256 ^ 7 from rfl];exact Nat.pow_le_pow_right (by decide) hw)
theorem Yg(l:Bl)(k w:Nat)(hw:w≤4):Zh l k w<4294967296:=Nat.lt_of_lt_of_le (Fn l w k) (by rw[show(4294967296:Nat)=256 ^ 4 from rfl];exact Nat.pow_le_pow_right (by decide) hw)
theorem Zei{n b:Nat}(hn:n<72057594037927936)(hb:b<256):IntKind.u64.wrap (↑(BitVec.ofInt 64 (IntKind.u64.wrap ((n:Int)*2 ^ 8)) ||| BitVec.ofInt 64 (b:Int)).toNat:Int)=((b+256*n:Nat):Int):=by
 have h1:IntKind.u64.wrap ((n:Int)*2 ^ 8)=((n*2 ^ 8:Nat):Int):=by
  rw[show(n:Int)*2 ^ 8=((n*2 ^ 8:Nat):Int) by omega];exact IntWalk.u64_in _ (by constructor<;>omega)
 rw[h1,BitVec.ofInt_natCast,BitVec.ofInt_natCast,BitVec.toNat_or,BitVec.toNat_ofNat,BitVec.toNat_ofNat,Nat.mod_eq_of_lt (by omega),Nat.mod_eq_of_lt (by omega)]
 rw[←Nat.shiftLeft_eq,←Nat.shiftLeft_add_eq_or_of_lt (by exact hb:b<2 ^ 8),Nat.shiftLeft_eq,IntWalk.u64_in _ (by constructor<;>omega)]
 congr 1;omega
theorem u64_nat{n:Nat}(h:n<18446744073709551616):IntKind.u64.wrap (n:Int)=(n:Int):=IntWalk.u64_in _ (by constructor<;>omega)
theorem Zen(a:O0)(m c k w:Nat)(hw:w=1∨w=2∨w=4∨w=8)(hk:k+w≤m)(hm:m≤100000000)(W:World) :
 C0 143 #[.slice a m c,V0 (k:Int),V0 (w:Int)] W (Ret (V0 0) W):=by
 rcases hw with rfl|rfl|rfl|rfl
 ·exact there_1 a m c k hk hm W
 ·exact there_2 a m c k hk hm W
 ·exact there_4 a m c k hk hm W
 ·exact there_8 a m c k hk hm W
theorem Zeu(a:O0)(c k w:Nat)(l:Bl)(W:World)(hw:w=1∨w=2∨w=4∨w=8)(hk:k+w≤l.length)(hl:l.length≤100000000)(h:Bys W (.slice a l.length c) l)(hq:Zh l k w<9223372036854775808) :
 C0 78 #[.slice a l.length c,V0 (k:Int),V0 (w:Int)] W (Ret (.tuple #[V0 (Zh l k w:Int),V0 0]) W):=by
 refine zin 38 Tryz.func78 ?_
 refine xr 12 (args:=#[.slice a l.length c,V0 (k:Int),V0 (w:Int)]) (Zen a l.length c k w hw hk hl _) fun W1 a2=>?_
 refine xw 21 ((w:Int)-1) ?_
 refine zl 4 38 (fun zm a3 V=>∃ (j r:Nat),a3=[(0,.slice a l.length c),(1,V0 (k:Int)),(6,V0 0),(7,V0 0),(9,.int .u64 (↑(Zh l (k+j) r):Int)),(10,V0 ((j:Int)-1))]∧zm=(((j:Int)-1)+1).toNat∧B3 W V∧j+r=w) ⟨w,0,rfl,rfl,a2,by omega⟩ ?_
 rintro _ _ W2 ⟨j,r,rfl,rfl,a0,a5⟩ J2 a1 r2
 refine xid 7 ((j:Int)-1≥(0:Int)) (fun a4=>?_) (fun a4=>?_)
 ·refine xq 10 (congrArg V0 (show IntKind.i64.wrap ((k:Int)+((j:Int)-1))=(↑(k+(j-1)):Int) from(show IntKind.i64.wrap ((k:Int)+((j:Int)-1))=((k:Int)+((j:Int)-1)) from by first|exact IntWalk.i64_in _ (by omega)|(simp only[IntKind.wrap];omega)).trans (by omega))) ?_
  refine xx 0 _ l.length (k+(j-1)) 1 (Bys.elem h (k:=(k+(j-1))) (by omega)).1 ?_
  refine xl 0 ((Bys.elem (h.below a0) (k:=(k+(j-1))) (by omega)).2) ?_
  refine xq 0 (congrArg (Value.int .u64) (show(IntKind.u64.wrap (↑(l.getD (k+(j-1)) 0).toNat:Int):Int)=(↑(l.getD (k+(j-1)) 0).toNat:Int) from u64_nat (by have:=(l.getD (k+(j-1)) 0).toNat_lt;omega))) ?_
  refine xq 0 (congrArg (Value.int .u64) (show(IntKind.u64.wrap (↑(BitVec.ofInt 64 (IntKind.u64.wrap ((↑(Zh l (k+j) r):Int)*2 ^ 8)) ||| BitVec.ofInt 64 (↑(l.getD (k+(j-1)) 0).toNat:Int)).toNat:Int):Int)=(↑(Zh l (k+(j-1)) (r+1)):Int) from(Zei (Zev l (k+j) r (by omega)) (l.getD (k+(j-1)) 0).toNat_lt).trans (congrArg (fun x:Nat=>(x:Int)) (by rw[Zh,show k+(j-1)+1=k+j by omega])))) ?_
  refine xq 6 (congrArg V0 (show IntKind.i64.wrap ((j:Int)-1-1)=((↑(j-1:Nat):Int)-1) from(show IntKind.i64.wrap ((j:Int)-1-1)=((j:Int)-1-1) from by first|exact IntWalk.i64_in _ (by omega)|(simp only[IntKind.wrap];omega)).trans (by omega))) ?_
  exact ze 2 (a1 _ _ _ ⟨j-1,r+1,rfl,rfl,a0,by omega⟩ (by omega))
 refine xk 12 (show(decide ((↑(Zh l (k+j) r):Int)≥(9223372036854775808:Int)):Bool)=false from by rw[(show Zh l (k+j) r=Zh l k w from by rw[show j=0 by omega,show r=w by omega];rfl)];exact decide_eq_false (by omega)) ?_
 refine xq 5 (congrArg V0 (show(IntKind.i64.wrap (↑(Zh l (k+j) r):Int):Int)=(↑(Zh l k w):Int) from by rw[(show Zh l (k+j) r=Zh l k w from by rw[show j=0 by omega,show r=w by omega];rfl)];exact Jt hq)) ?_
 exact xe 5 (.tuple #[V0 (↑(Zh l k w):Int),V0 0]) ⟨rfl,a0⟩
theorem Get_big(a:O0)(c k w:Nat)(l:Bl)(W:World)(hw:w=1∨w=2∨w=4∨w=8)(hk:k+w≤l.length)(hl:l.length≤100000000)(h:Bys W (.slice a l.length c) l)(hq:¬ Zh l k w<9223372036854775808) :
 C0 78 #[.slice a l.length c,V0 (k:Int),V0 (w:Int)] W (Ret (.tuple #[V0 0,V0 2]) W):=by
 refine zin 38 Tryz.func78 ?_
 refine xr 12 (args:=#[.slice a l.length c,V0 (k:Int),V0 (w:Int)]) (Zen a l.length c k w hw hk hl _) fun W1 a2=>?_
 refine xw 21 ((w:Int)-1) ?_
 refine zl 4 38 (fun zm a3 V=>∃ (j r:Nat),a3=[(0,.slice a l.length c),(1,V0 (k:Int)),(6,V0 0),(7,V0 0),(9,.int .u64 (↑(Zh l (k+j) r):Int)),(10,V0 ((j:Int)-1))]∧zm=(((j:Int)-1)+1).toNat∧B3 W V∧j+r=w) ⟨w,0,rfl,rfl,a2,by omega⟩ ?_
 rintro _ _ W2 ⟨j,r,rfl,rfl,a0,a5⟩ J2 a1 r2
 refine xid 7 ((j:Int)-1≥(0:Int)) (fun a4=>?_) (fun a4=>?_)
 ·refine xq 10 (congrArg V0 (show IntKind.i64.wrap ((k:Int)+((j:Int)-1))=(↑(k+(j-1)):Int) from(show IntKind.i64.wrap ((k:Int)+((j:Int)-1))=((k:Int)+((j:Int)-1)) from by first|exact IntWalk.i64_in _ (by omega)|(simp only[IntKind.wrap];omega)).trans (by omega))) ?_
  refine xx 0 _ l.length (k+(j-1)) 1 (Bys.elem h (k:=(k+(j-1))) (by omega)).1 ?_
  refine xl 0 ((Bys.elem (h.below a0) (k:=(k+(j-1))) (by omega)).2) ?_
  refine xq 0 (congrArg (Value.int .u64) (show(IntKind.u64.wrap (↑(l.getD (k+(j-1)) 0).toNat:Int):Int)=(↑(l.getD (k+(j-1)) 0).toNat:Int) from u64_nat (by have:=(l.getD (k+(j-1)) 0).toNat_lt;omega))) ?_
  refine xq 0 (congrArg (Value.int .u64) (show(IntKind.u64.wrap (↑(BitVec.ofInt 64 (IntKind.u64.wrap ((↑(Zh l (k+j) r):Int)*2 ^ 8)) ||| BitVec.ofInt 64 (↑(l.getD (k+(j-1)) 0).toNat:Int)).toNat:Int):Int)=(↑(Zh l (k+(j-1)) (r+1)):Int) from(Zei (Zev l (k+j) r (by omega)) (l.getD (k+(j-1)) 0).toNat_lt).trans (congrArg (fun x:Nat=>(x:Int)) (by rw[Zh,show k+(j-1)+1=k+j by omega])))) ?_
  refine xq 6 (congrArg V0 (show IntKind.i64.wrap ((j:Int)-1-1)=((↑(j-1:Nat):Int)-1) from(show IntKind.i64.wrap ((j:Int)-1-1)=((j:Int)-1-1) from by first|exact IntWalk.i64_in _ (by omega)|(simp only[IntKind.wrap];omega)).trans (by omega))) ?_
  exact ze 2 (a1 _ _ _ ⟨j-1,r+1,rfl,rfl,a0,by omega⟩ (by omega))
 refine xk 12 (show(decide ((↑(Zh l (k+j) r):Int)≥(9223372036854775808:Int)):Bool)=true from by rw[(show Zh l (k+j) r=Zh l k w from by rw[show j=0 by omega,show r=w by omega];rfl)];exact decide_eq_true (by omega)) ?_
 exact xe 8 (.tuple #[V0 0,V0 2]) ⟨rfl,a0⟩
def Jk(l:Bl):Nat→List Nat→List Nat
 | _,[]=>[]
 | k,w::r=>Zh l k w::Jk l (k+w) r
theorem Ij(l:Bl):∀ (ws:List Nat) (k:Nat),(Jk l k ws).length=ws.length
 | [],k=>rfl
 | w::r,k=>by simp[Jk,Ij l r]
theorem Wa(l:Bl)(w:Nat):∀ (ws:List Nat) (k:Nat),Jk l k (ws++[w])=Jk l k ws++[Zh l (k+ws.sum) w]
 | [],k=>by simp[Jk]
 | x::r,k=>by simp[Jk,Wa l w r,Nat.add_assoc]
theorem Nq(l:Bl):∀ (ws:List Nat) (k i:Nat),i<ws.length→(Jk l k ws).getD i 0=Zh l (k+(ws.take i).sum) (ws.getD i 0)
 | [],k,i,h=>by simp at h
 | w::r,k,0,h=>by simp[Jk]
 | w::r,k,i+1,h=>by
  have:=Nq l r (k+w) i (by simpa using h)
  simp only[List.getD_eq_getElem?_getD] at this ⊢
  simp[Jk,this,Nat.add_assoc]
theorem Gg{ws:List Nat}{i:Nat}(h:i<ws.length):ws.take (i+1)=ws.take i++[ws.getD i 0]:=by
 rw[List.take_succ_eq_append_getElem h];simp[List.getD,h]
theorem Px{ws:List Nat}{i:Nat}(h:i<ws.length):(ws.take i).sum+ws.getD i 0≤ws.sum:=by
 have h1:=Ao h;have h2:=take_le (L:=ws) (i+1);omega
def getV(l:Bl)(k w:Nat):Int:=if Zh l k w<9223372036854775808 then(Zh l k w:Int) else 0
def Zes(l:Bl)(k w:Nat):Int:=if Zh l k w<9223372036854775808 then 0 else 2
theorem getE_zero{l:Bl}{k w:Nat}(h:Zes l k w=0):Zh l k w<9223372036854775808:=by unfold Zes at h;split at h;assumption;cases h
theorem getE_two{l:Bl}{k w:Nat}(h:Zes l k w≠0):¬ Zh l k w<9223372036854775808∧Zes l k w=2:=by unfold Zes at h ⊢;split at h;exact absurd rfl h;rename_i h2;exact⟨h2,if_neg h2⟩
theorem Ti{l:Bl}{k w:Nat}(h:Zh l k w<9223372036854775808):Zes l k w=0:=if_pos h
theorem Eu{l:Bl}{k w:Nat}(h:Zh l k w<9223372036854775808):getV l k w=(Zh l k w:Int):=if_pos h
theorem Get_gen(a:O0)(c k w:Nat)(l:Bl)(W:World)(hw:w=1∨w=2∨w=4∨w=8)(hk:k+w≤l.length)(hl:l.length≤100000000)(h:Bys W (.slice a l.length c) l) :
 C0 78 #[.slice a l.length c,V0 (k:Int),V0 (w:Int)] W (Ret (.tuple #[V0 (getV l k w),V0 (Zes l k w)]) W):=by
 by_cases hq:Zh l k w<9223372036854775808
 ·rw[Eu hq,Ti hq];exact Zeu a c k w l W hw hk hl h hq
 ·rw[getV,Zes,if_neg hq,if_neg hq];exact Get_big a c k w l W hw hk hl h hq
theorem Oa(a:O0)(c:Nat)(l:Bl)(aw:O0)(cw:Nat)(ws:List Nat)(W:World)(hk:∀ i,i<ws.length→ws.getD i 0=1∨ws.getD i 0=2∨ws.getD i 0=4∨ws.getD i 0=8)(hs:ws.sum≤l.length)(hl:l.length≤100000000)(hw:ws.length≤1000)(h:Bys W (.slice a l.length c) l)(hws:Sl W (.slice aw ws.length cw) ws.length (ws.map nv))(hq:∀ i,i<ws.length→(Jk l 0 ws).getD i 0<9223372036854775808) :
 C0 127 #[.slice a l.length c,.slice aw ws.length cw] W (Qd (fun w' r=>∃ p c,r=.tuple #[.slice p ws.length c,V0 0]∧w'.ownsRow W.heap.size 3 1 (.slice p ws.length c) ws.length ((Jk l 0 ws).map nv)) W):=by
 refine zin 37 Tryz.func127 ?_
 have hB:=Below.refl W.heap.size W
 refine zl 25 37 (fun zm b1 V=>∃ (i:Nat) (p:O0) (c2:Nat),b1=[(0,.slice a l.length c),(6,.slice p i c2),(7,V0 (↑(ws.take i).sum:Int)),(12,.slice aw ws.length cw),(13,V0 (ws.length:Int)),(14,V0 (i:Int))]∧zm=ws.length-((i:Int)).toNat∧B3 W V∧V.ownsRow W.heap.size 3 1 (.slice p i c2) i ((Jk l 0 (ws.take i)).map nv)∧i≤ws.length) ⟨0,_,_,rfl,rfl,hB,World.ownsRow_nil _ _ _ _,Nat.zero_le _⟩ ?_
 rintro _ _ W1 ⟨i,p,c2,rfl,rfl,a0,ho,hi⟩ J1 b0 r1
 have b3:i<ws.length→(ws.take i).sum+ws.getD i 0≤ws.sum:=Px
 have a8:i<ws.length→(Jk l 0 ws).getD i 0=Zh l (ws.take i).sum (ws.getD i 0):=fun h=>by rw[Nq l ws 0 i h,Nat.zero_add]
 refine xid 6 ((i:Int)<(ws.length:Int)) (fun a9=>?_) (fun a9=>?_)
 ·refine xx 6 _ ws.length i 1 (Zl hws rfl (k:=i) (by omega)).1 ?_
  refine xl 0 ((Zl (hws.below a0) rfl (k:=i) (by omega)).2) ?_
  refine xr 8 (args:=#[.slice a l.length c,V0 (↑(ws.take i).sum:Int),V0 (↑(ws.getD i 0):Int)]) (Get_gen a c (ws.take i).sum (ws.getD i 0) l _ (hk i (by omega)) (by omega) hl (h.below a0)) fun W3 a6=>?_
  refine xk 14 (show(((Zes l (ws.take i).sum (ws.getD i 0)) != (0:Int)):Bool)=false from by rw[Ti (by rw[←a8 (by omega)];exact hq i (by omega))];rfl) ?_
  refine xbs 6 1 [V0 (getV l (ws.take i).sum (ws.getD i 0))] 3 fun b4 W4 n4=>?_
  have a3:=bln a0 a6
  have g4:=n4.ge a3
  have a2:=Zb ho a6
  have a7:=Xa a2 n4
  have a5:=Zb a2 n4.below
  have a1:=bln a3 n4.below
  refine xbi 0 fun _ _ _ _ zJ zQ zo zx zy zK=>Zo (m:=1) (news:=[V0 (getV l (ws.take i).sum (ws.getD i 0))]) (V0 0) 1 8 (i+1) ((Jk l 0 (ws.take (i+1))).map nv) zo Tryz.underlying28 (by kernel_rfl) rfl (by decide) zx a5 zy (n4.blk.sl 1 1 (by decide) (by decide)) rfl (by simp[Value.oneCell']) (by unfold maxLen;omega) (by omega) a1.size (by rfl) (by rw[Gg (by omega),Wa,Nat.zero_add,List.map_append];simp only[List.map_cons,List.map_nil,nv];rw[Eu (by rw[←a8 (by omega)];exact hq i (by omega))]) fun b7 b6 W5 o5 b5 b2=>?_
  refine zK _ _ ?_
  refine xwm 6 ((↑(ws.take i).sum:Int)+(↑(ws.getD i 0):Int)) (↑((ws.take i).sum+(ws.getD i 0)):Int) ?_
  refine xwm 5 ((i:Int)+1) (↑(i+1):Int) ?_
  refine xv1 2 7 (show(V0 (↑((ws.take i).sum+(ws.getD i 0)):Int):Value)=V0 (↑(ws.take (i+1)).sum:Int) from by rw[Gg (by omega),List.sum_append];simp) ?_
  have a4:=a1.trans b2
  exact ze 0 (b0 _ _ _ ⟨i+1,_,_,rfl,rfl,a4,o5,by omega⟩ (by omega))
 refine xe 13 (.tuple #[.slice p i c2,V0 0]) ?_
 obtain rfl:i=ws.length:=by omega
 rw[List.take_length] at ho
 exact⟨_,rfl,a0,_,_,rfl,ho⟩
theorem Zhc(a:O0)(c:Nat)(l:Bl)(aw:O0)(cw:Nat)(ws:List Nat)(W:World)(hk:∀ i,i<ws.length→ws.getD i 0=1∨ws.getD i 0=2∨ws.getD i 0=4∨ws.getD i 0=8)(hs:ws.sum≤l.length)(hl:l.length≤100000000)(hw:ws.length≤1000)(h:Bys W (.slice a l.length c) l)(hws:Sl W (.slice aw ws.length cw) ws.length (ws.map nv))(hq:¬ ∀ i,i<ws.length→(Jk l 0 ws).getD i 0<9223372036854775808) :
 C0 127 #[.slice a l.length c,.slice aw ws.length cw] W (Ret (.tuple #[S0,V0 2]) W):=by
 refine zin 37 Tryz.func127 ?_
 have hB:=Below.refl W.heap.size W
 refine zl 25 37 (fun zm b7 V=>∃ (i:Nat) (p:O0) (c2:Nat),b7=[(0,.slice a l.length c),(6,.slice p i c2),(7,V0 (↑(ws.take i).sum:Int)),(12,.slice aw ws.length cw),(13,V0 (ws.length:Int)),(14,V0 (i:Int))]∧zm=ws.length-((i:Int)).toNat∧B3 W V∧V.ownsRow W.heap.size 3 1 (.slice p i c2) i ((Jk l 0 (ws.take i)).map nv)∧i≤ws.length∧(∀ j,j<i→(Jk l 0 ws).getD j 0<9223372036854775808)) ⟨0,_,_,rfl,rfl,hB,World.ownsRow_nil _ _ _ _,Nat.zero_le _,?_⟩ ?_
 ·exact fun j hj=>absurd hj (by omega)
 rintro _ _ W1 ⟨i,p,c2,rfl,rfl,a0,ho,hi,a3⟩ J1 b4 r1
 have b8:i<ws.length→(ws.take i).sum+ws.getD i 0≤ws.sum:=Px
 have b6:i<ws.length→(Jk l 0 ws).getD i 0=Zh l (ws.take i).sum (ws.getD i 0):=fun h=>by rw[Nq l ws 0 i h,Nat.zero_add]
 refine xid 6 ((i:Int)<(ws.length:Int)) (fun b2=>?_) (fun b2=>?_)
 ·refine xx 6 _ ws.length i 1 (Zl hws rfl (k:=i) (by omega)).1 ?_
  refine xl 0 ((Zl (hws.below a0) rfl (k:=i) (by omega)).2) ?_
  refine xr 8 (args:=#[.slice a l.length c,V0 (↑(ws.take i).sum:Int),V0 (↑(ws.getD i 0):Int)]) (Get_gen a c (ws.take i).sum (ws.getD i 0) l _ (hk i (by omega)) (by omega) hl (h.below a0)) fun W3 a9=>?_
  refine xin 14 (Zes l (ws.take i).sum (ws.getD i 0)) (0:Int) (fun a7=>?_) (fun a7=>?_)
  ·have a5:=getE_two a7
   have a6:=bln a0 a9
   refine xe 14 (.tuple #[S0,V0 (Zes l (ws.take i).sum (ws.getD i 0))]) ?_
   rw[a5.2];exact⟨rfl,a6⟩
  have a5:=getE_zero a7
  refine xbs 6 1 [V0 (getV l (ws.take i).sum (ws.getD i 0))] 3 fun b5 W5 n5=>?_
  have a2:=bln a0 a9
  have g5:=n5.ge a2
  have a4:=Zb ho a9
  have b1:=Xa a4 n5
  have b0:=Zb a4 n5.below
  have a1:=bln a2 n5.below
  refine xbi 0 fun _ _ _ _ zJ zQ zo zx zy zK=>Zo (m:=1) (news:=[V0 (getV l (ws.take i).sum (ws.getD i 0))]) (V0 0) 1 8 (i+1) ((Jk l 0 (ws.take (i+1))).map nv) zo Tryz.underlying28 (by kernel_rfl) rfl (by decide) zx b0 zy (n5.blk.sl 1 1 (by decide) (by decide)) rfl (by simp[Value.oneCell']) (by unfold maxLen;omega) (by omega) a1.size (by rfl) (by rw[Gg (by omega),Wa,Nat.zero_add,List.map_append];simp only[List.map_cons,List.map_nil,nv];rw[Eu a5]) fun c1 c0 W6 o6 b9 b3=>?_
  refine zK _ _ ?_
  refine xwm 6 ((↑(ws.take i).sum:Int)+(↑(ws.getD i 0):Int)) (↑((ws.take i).sum+(ws.getD i 0)):Int) ?_
  refine xwm 5 ((i:Int)+1) (↑(i+1):Int) ?_
  refine xv1 2 7 (show(V0 (↑((ws.take i).sum+(ws.getD i 0)):Int):Value)=V0 (↑(ws.take (i+1)).sum:Int) from by rw[Gg (by omega),List.sum_append];simp) ?_
  have a8:=a1.trans b3
  exact ze 0 (b4 _ _ _ ⟨i+1,_,_,rfl,rfl,a8,o6,by omega,fun j hj=>(Nat.lt_or_ge j i).elim (fun q=>a3 j q) (fun q=>by obtain rfl:j=i:=(by omega);rw[b6 (by omega)];exact a5)⟩ (by omega))
 refine xe 13 (.tuple #[.slice p i c2,V0 0]) ?_
 exact absurd (fun j hj=>a3 j (by omega)) hq
theorem Vb{P:Program}{a:Act}{o:Oper}{src dst e:TypeId}{x:Operand}{b:O0}{n c:Nat}{l:Bl}{w:World}(ho:o.op=.convert src dst x)(hx:a.eval x=.slice b n c)(h:Bys w (.slice b n c) l)(hl:l.length=n)
 (hs:P.underlying src=some (.slice e)) (he:P.underlying e=some (.int .u8)) (hd:P.underlying dst=some .string):(execOp a.eval o).run P w=.ok (.value (.string ⟨l.toArray⟩)) w:=by
 have hr:(convert src dst (.slice b n c)).run P w=.ok (.string ⟨l.toArray⟩) w:=by
  subst hl
  rcases Sl.at h with hn|⟨g,a0,rfl,hc⟩
  ·obtain rfl:l=[]:=by simpa using hn
   cases b with
   | none=>rw[run_convert_bytes_string w src dst e none _ c hs he hd];rfl
   | some p=>exact run_convert_bytes_back w src dst e p c [] hs he hd (fun j hj=>by simp at hj)
  ·exact run_convert_bytes_back w src dst e _ c l hs he hd (fun j hj=>by rw[Addr.add_mid];exact hc j _ (by simp[List.getElem?_eq_getElem hj,bv]))
 simp only[execOp,ho,hx,Sem.run_bind,hr];rfl
theorem Al.below{B ba b g n c:Nat}{pa:O0}{ca f N k:Nat}{l:Bl}{w W:World}(h:Al B ba b g n c pa ca f N k l w)(hb:B3 w W):Al B ba b g n c pa ca f N k l W:=⟨h.blkA.below hb,h.blkI.below hb,Zb h.data hb,Zb h.nums hb⟩
theorem Mo{w:World}{base n c size:Nat}{e:TypeId}{p:O0}{xs:List Value}(h:w.ownsRow base e size (.slice p n c) n xs)(hn:0<n):∃ g,p=some ⟨g,0,none⟩∧n≤c:=by
 rcases h.2 with ⟨_,h0⟩|⟨g,a1,a0,hv,_,_,hc,_⟩
 ·omega
 ·simp only[Value.slice.injEq] at hv;exact⟨g,hv.1,by omega⟩
theorem Bys.cap{w:World}{a:O0}{n c:Nat}{l:Bl}(h:Bys w (.slice a n c) l)(hl:l.length=n):n≤c:=by
 rcases h with ⟨a',c',h1,h2,_⟩|⟨b,a0,cap,h1,h2,_,_⟩
 ·omega
 ·simp only[Value.slice.injEq] at h1;omega
theorem Zha(b:Nat)(p0:O0)(n c f N:Nat)(fi:Int)(hfi:fi=(f:Int))(hN:n/256-f=N)(w:World)(hk:Blk w b [.slice p0 n c] 59)(hn:n≤3686400)(h1:1≤f)(h2:f≤n/256) :
 C0 27 #[P0 b,V0 fi] w (Qd (fun w' r=>∃ ba p c2,r=.tuple #[P0 ba,.nilIface]∧w.heap.size≤ba∧Blk w' ba [.slice p N c2,V0 0,P0 b] 128∧w'.ownsRow w.heap.size 3 1 (.slice p N c2) N ((Rt f N).map V0)) w):=by
 subst hfi hN;exact alloc_New b p0 n c f w hk hn h1 h2
end Go.Proofs.YthhilbkandcbmaaGreatDoor
namespace Go.Proofs.YthhilbkandcbmaaGreatDoor
set_option maxHeartbeats 8000000
set_option maxRecDepth 100000
open Go.RowKit Go.Extern.Stop Go.Stop Go.Extern
set_option linter.unusedVariables false
attribute [local irreducible] wpList wpAnyH Code.wp Oper.wp Go
section
variable {P:Program} {a:Act}
theorem Yu{o:Oper}{t e:TypeId}{x y y2:Operand}{b:O0}{n k h c:Nat}{i j:Int}{ki kj:IntKind}(size:Nat)(ho:o.op=.slice t x (some y) (some y2) none)(hx:a.eval x=.slice b n c)(hy:a.eval y=.int ki i)(hi:i=(k:Int))(hy2:a.eval y2=.int kj j)(hj:j=(h:Int))(hk:k≤h)(hc:h≤c)
 (ht:P.underlying t=some (.slice e)) (hs:(P.info? e).map (·.size)=some size) (w:World):(execOp a.eval o).run P w=.ok (.value (.slice (Ke b k c size) (h-k) (c-k))) w:=by
 cases hq:P.info? e with
 | none=>simp[hq] at hs
 | some q =>
  have a0:q.size=size:=by simpa [hq] using hs
  subst hi hj
  have h1:(0:Int)≤(k:Int):=by omega
  have h2:(0:Int)≤(h:Int):=by omega
  have h3:(k:Int)≤(h:Int):=by omega
  have h4:(h:Int)≤(c:Int):=by omega
  by_cases h5:c=k
  ·simp_all [execOp,Instr.sliceAt,Instr.slice,Instr.sliceBounds,Instr.sliceBound,asIntOf,run_underlying ht,sizeOf,typeInfo,Ke]
  ·simp_all [execOp,Instr.sliceAt,Instr.slice,Instr.sliceBounds,Instr.sliceBound,asIntOf,run_underlying ht,sizeOf,typeInfo,Ke]
end
theorem Bys.cut{w:World}{b:O0}{n c:Nat}{l:Bl}(h:Bys w (.slice b n c) l)(hl:l.length=n)(k m:Nat)(hk:k≤m)(hm:m≤n):Bys w (.slice (Ke b k c 1) (m-k) (c-k)) ((l.drop k).take (m-k)):=by
 have a0:((l.drop k).take (m-k)).length=m-k:=by simp;omega
 have a2:=Bys.cap h hl
 rcases h with ⟨a',c',h1,h2,h3⟩|⟨g,a1,a3,h1,h2,h3,h4⟩
 ·obtain rfl:k=0:=by omega
  obtain rfl:m=0:=by omega
  refine .inl ⟨Ke b 0 c 1,c-0,?_,by simp,by simp⟩
  simp
 ·simp only[Value.slice.injEq] at h1
  obtain⟨rfl,_,rfl⟩:=h1
  by_cases hz:m-k=0
  ·refine .inl ⟨Ke (some ⟨g,a1,none⟩) k c 1,c-k,by rw[hz],by omega,?_⟩
   rw[hz];rfl
  ·refine .inr ⟨g,a1+k*1,c-k,?_,by omega,by omega,fun j x hj=>?_⟩
   ·rw[Ke,if_neg (by omega),a0];simp[Addr.add]
   ·rw[List.getElem?_map,List.getElem?_take] at hj
    split at hj
    ·rw[List.getElem?_drop] at hj
     have:=h4 (k+j) x (by rw[List.getElem?_map];exact hj)
     rwa [Nat.mul_one,Nat.add_assoc]
    ·cases hj
def Qf(l:Bl):Bool:=l.all (·==0)
theorem Ss{l:Bl}(h:∀ j,j<l.length→l.getD j 0=0):Qf l=true:=by
 unfold Qf
 rw[List.all_eq_true]
 intro x hx
 obtain⟨j,hj,rfl⟩:=List.mem_iff_getElem.1 hx
 have:=h j hj
 simpa [List.getD,hj] using this
theorem Fj{l:Bl}{j:Nat}(hj:j<l.length)(h:((l.getD j 0).toNat:Int)≠0):Qf l=false:=by
 unfold Qf
 rw[List.all_eq_false]
 refine⟨l[j],List.getElem_mem hj,?_⟩
 intro h2
 apply h
 have:l[j]=0:=by simpa using h2
 simp[List.getD,hj,this]
theorem Oo{x:UInt8}(h:(x.toNat:Int)=0):x=0:=by
 have h1:x.toNat=0:=by omega
 exact UInt8.toNat_inj.1 (by rw[h1];rfl)
theorem zero_1(n:Int)(w:World) :
 C0 199 #[.int .u8 n] w (Ret (.bool (n != 0)) w):=by
 refine zin 5 Tryz.func199 ?_
 exact xe 13 (.bool (n != (0:Int))) ⟨rfl,(B4 w)⟩
theorem indexZero(a:O0)(c:Nat)(l:Bl)(w:World)(hl:l.length≤100000000)(h:Bys w (.slice a l.length c) l) :
 C0 204 #[.slice a l.length c,.func (.func 199) #[] #[]] w (fun e w'=>(Qf l=true∧e=.returned (V0 (-1))∧B3 w w')∨(Qf l=false∧∃ i:Nat,e=.returned (V0 (i:Int))∧B3 w w')):=by
 refine zin 19 Tryz.func204 ?_
 have hB:=Below.refl w.heap.size w
 refine zl 14 19 (fun zm a7 V=>∃ (i:Nat),a7=[(0,.slice a l.length c),(1,.func (.func 199) #[] #[]),(7,V0 (l.length:Int)),(8,V0 (i:Int))]∧zm=l.length-((i:Int)).toNat∧B3 w V∧i≤l.length∧(∀ j,j<i→l.getD j 0=0)) ⟨0,rfl,rfl,hB,Nat.zero_le _,?_⟩ ?_
 ·exact fun j hj=>absurd hj (by omega)
 rintro _ _ W1 ⟨i,rfl,rfl,a0,hi,hz⟩ J1 a6 r1
 refine xid 6 ((i:Int)<(l.length:Int)) (fun a4=>?_) (fun a4=>?_)
 ·refine xx 15 _ l.length i 1 (Bys.elem h (k:=i) (by omega)).1 ?_
  refine xl 0 ((Bys.elem (h.below a0) (k:=i) (by omega)).2) ?_
  refine xr 0 (args:=#[.int .u8 (↑(l.getD i 0).toNat:Int)]) (zero_1 (↑(l.getD i 0).toNat:Int) _) fun W3 a3=>?_
  refine xin 2 (↑(l.getD i 0).toNat:Int) (0:Int) (fun a5=>?_) (fun a5=>?_)
  ·have a2:=bln a0 a3
   exact xe 12 (V0 (i:Int)) (.inr ⟨Fj (j:=i) (by omega) (by assumption),_,rfl,a2⟩)
  refine xwm 4 ((i:Int)+1) (↑(i+1):Int) ?_
  have a1:=bln a0 a3
  exact ze 2 (a6 _ _ _ ⟨i+1,rfl,rfl,a1,by omega,fun j hj=>(Nat.lt_or_ge j i).elim (hz j) (fun q=>by obtain rfl:j=i:=(by omega);exact Oo (by assumption))⟩ (by omega))
 exact xe 11 (V0 (-1)) (.inl ⟨Ss (fun j hj=>hz j (by omega)),rfl,a0⟩)
theorem Ou(a:O0)(c:Nat)(l:Bl)(w:World)(hl:l.length≤100000000)(h:Bys w (.slice a l.length c) l) :
 C0 198 #[.slice a l.length c,.func (.func 199) #[] #[]] w (Ret (.bool (!Qf l)) w):=by
 refine zin 9 Tryz.func198 ?_
 refine xc 9 (args:=#[.slice a l.length c,.func (.func 199) #[] #[]]) (indexZero a c l _ hl (h.below (B4 w))) ?_
 rintro e W1 a1
 rcases a1 with ⟨hz,rfl,a0⟩|⟨hz,i0,rfl,a0⟩
 ·refine xe 5 (.bool false) ?_
  rw[hz];exact⟨rfl,a0⟩
 refine xe 5 (.bool (decide ((i0:Int)≥(0:Int)))) ?_
 rw[hz,show decide ((i0:Int)≥(0:Int))=true from decide_eq_true (by omega)];exact⟨rfl,a0⟩
theorem code_Zero(a:O0)(c:Nat)(l:Bl)(w:World)(hl:l.length≤100000000)(h:Bys w (.slice a l.length c) l) :
 C0 180 #[.slice a l.length c] w (Ret (.bool (Qf l)) w):=by
 refine zin 6 Tryz.func180 ?_
 refine xr 8 (args:=#[.slice a l.length c,.func (.func 199) #[] #[]]) (Ou a c l _ hl (h.below (B4 w))) fun W1 a0=>?_
 refine xe 5 (.bool (!(!Qf l))) ?_
 rw[Bool.not_not];exact⟨rfl,a0⟩
def Vz(kind no:Int):Bool:=decide (1≤kind∧kind≤4∧0≤no∧no<14400)
theorem Zcs(kind no:Int)(w:World) :
 C0 135 #[V0 kind,V0 no] w (Ret (.bool (Vz kind no)) w):=by
 refine zin 19 Tryz.func135 ?_
 refine xg 10 [6,7] (decide (kind≥(1:Int))) (fun a1=>?_) (fun a1=>?_)
 ·have a1:=of_decide_eq_true a1
  refine xg 4 [9,10,11] (decide (kind≤(4:Int))) (fun a0=>?_) (fun a0=>?_)
  ·have a0:=of_decide_eq_true a0
   refine xg 4 [13,14,15] (decide (no≥(0:Int))) (fun a2=>?_) (fun a2=>?_)
   ·have a2:=of_decide_eq_true a2
    exact xe 7 (.bool (decide (no<(14400:Int)))) ⟨by rw[show Vz kind no=decide (no<14400) from decide_eq_decide.2 ⟨fun h=>h.2.2.2,fun h=>⟨by omega,by omega,by omega,h⟩⟩],(B4 w)⟩
   have a2:=of_decide_eq_false a2
   exact xe 7 (.bool false) ⟨by rw[show Vz kind no=false from decide_eq_false (by omega)],(B4 w)⟩
  have a0:=of_decide_eq_false a0
  exact xe 11 (.bool false) ⟨by rw[show Vz kind no=false from decide_eq_false (by omega)],(B4 w)⟩
 have a1:=of_decide_eq_false a1
 exact xe 15 (.bool false) ⟨by rw[show Vz kind no=false from decide_eq_false (by omega)],(B4 w)⟩
theorem seal_told(a:O0)(c k w:Nat)(l:Bl)(W:World)(hw:w=1∨w=2∨w=4)(hk:k+w≤l.length)(hl:l.length≤100000000)(h:Bys W (.slice a l.length c) l) :
 C0 138 #[.slice a l.length c,V0 (k:Int),V0 (w:Int)] W (Ret (V0 (Zh l k w:Int)) W):=by
 refine zin 17 Tryz.func138 ?_
 refine xr 10 (args:=#[.slice a l.length c,V0 (k:Int),V0 (w:Int)]) (Zeu a c k w l _ (by omega) hk hl (h.below (B4 W)) (by have:=Yg l k w (by omega);omega)) fun W1 a0=>?_
 exact xe 14 (V0 (↑(Zh l k w):Int)) ⟨rfl,a0⟩
theorem Ww(a:O0)(n c k w:Nat)(ki wi:Int)(l:Bl)(W:World)(hn:l.length=n)(hki:ki=(k:Int))(hwi:wi=(w:Int))(hw:w=1∨w=2∨w=4)(hk:k+w≤n)(hl:n≤100000000)(h:Bys W (.slice a n c) l) :
 C0 138 #[.slice a n c,V0 ki,V0 wi] W (Ret (V0 (Zh l k w:Int)) W):=by
 subst hn hki hwi;exact seal_told a c k w l W hw hk hl h
def Jr(kind no:Int)(l:Bl):Nat→Bool
 | 0=>!Vz kind no
 | 1=>(l.length:Int) != 256
 | 2=>(Zh l 252 4:Int) != (Lv l kind:Int)
 | 3=>(Zh l 0 4:Int) != no
 | 4=>(Zh l 4 2:Int) != kind
 | _=>(Zh l 6 2:Int) != 0
def Xy(kind no:Int)(l:Bl):Int :=
 if Jr kind no l 0 then 1 else if Jr kind no l 1 then 7 else if Jr kind no l 2 then 4 else if Jr kind no l 3 then 5 else if Jr kind no l 4 then 6 else if Jr kind no l 5 then 7 else 0
theorem ask1{kind no:Int}{l:Bl}(h:Jr kind no l 1=false):l.length=256:=by
 have:(l.length:Int)=256:=Xr h
 omega
theorem open_1(kind no:Int)(w:World)(l:Bl)(bk:Nat)(kk:Blk w bk [V0 kind] 3)(bn:Nat)(kn:Blk w bn [V0 no] 3) :
 C0 134 #[P0 bk,P0 bn] w (Ret (.bool (Jr kind no l 0)) w):=by
 refine zin 7 Tryz.func134 ?_
 refine xb 7 0 kk ?_
 refine xb 0 0 kn ?_
 refine xr 0 (args:=#[V0 kind,V0 no]) (Zcs kind no _) fun W1 a0=>?_
 exact xe 5 (.bool (!(Vz kind no))) ⟨rfl,a0⟩
theorem open_2(kind no:Int)(w:World)(bb:Nat)(a:O0)(c:Nat)(l:Bl)(kb:Blk w bb [.slice a l.length c] 22) :
 C0 136 #[P0 bb] w (Ret (.bool (Jr kind no l 1)) w):=by
 refine zin 5 Tryz.func136 ?_
 refine xb 7 0 kb ?_
 exact xe 6 (.bool ((l.length:Int) != (256:Int))) ⟨rfl,(B4 w)⟩
theorem seal_sumN(kind:Int)(a:O0)(c n:Nat)(l:Bl)(w:World)(hn:l.length=n)(h256:n=256)(hc:256≤c)(h:Bys w (.slice a n c) l) :
 C0 139 #[.slice a n c,V0 kind] w (Ret (V0 (Lv l kind:Int)) w):=by
 subst h256;exact Zeq kind a c l w hn hc h
theorem open_3(kind no:Int)(w:World)(bb:Nat)(a:O0)(c:Nat)(l:Bl)(kb:Blk w bb [.slice a l.length c] 22)(bk:Nat)(kk:Blk w bk [V0 kind] 3)(hl:l.length=256)(hc:256≤c)(h:Bys w (.slice a l.length c) l) :
 C0 137 #[P0 bb,P0 bk] w (Ret (.bool (Jr kind no l 2)) w):=by
 refine zin 9 Tryz.func137 ?_
 refine xd 6 .z ?_
 have a0:=kb.below (Za w)
 refine xb (.e [] 0) 0 a0 ?_
 refine xb (.e [] 2) 0 a0 ?_
 have a3:=kk.below (Za w)
 refine xb (.e [] 3) 0 a3 ?_
 have hB:=(Za w)
 refine xr (.o [] 1) (args:=#[.slice a l.length c,V0 252,V0 4]) (Ww a l.length c 252 4 252 4 l _ rfl rfl rfl (by decide) (by omega) (by omega) (h.below hB)) fun W1 a4=>?_
 have a1:=bln hB a4
 refine xr (.o [] 4) (args:=#[.slice a l.length c,V0 kind]) (seal_sumN kind a c l.length l _ rfl hl hc (h.below a1)) fun W2 a5=>?_
 have a2:=bln a1 a5
 exact xe (.r [5,6] 3) (.bool ((↑(Zh l 252 4):Int) != (↑(Lv l kind):Int))) ⟨rfl,a2⟩
theorem open_4(kind no:Int)(w:World)(bb:Nat)(a:O0)(c:Nat)(l:Bl)(kb:Blk w bb [.slice a l.length c] 22)(bn:Nat)(kn:Blk w bn [V0 no] 3)(hl:l.length=256)(hc:256≤c)(h:Bys w (.slice a l.length c) l) :
 C0 140 #[P0 bb,P0 bn] w (Ret (.bool (Jr kind no l 3)) w):=by
 refine zin 7 Tryz.func140 ?_
 refine xd 6 .z ?_
 have a0:=kb.below (Za w)
 refine xb (.e [] 0) 0 a0 ?_
 have a1:=kn.below (Za w)
 refine xb (.e [] 2) 0 a1 ?_
 have hB:=(Za w)
 refine xr (.o [] 1) (args:=#[.slice a l.length c,V0 0,V0 4]) (Ww a l.length c 0 4 0 4 l _ rfl rfl rfl (by decide) (by omega) (by omega) (h.below hB)) fun W1 a3=>?_
 have a2:=bln hB a3
 exact xe (.r [3,4] 3) (.bool ((↑(Zh l 0 4):Int) != no)) ⟨rfl,a2⟩
theorem open_5(kind no:Int)(w:World)(bb:Nat)(a:O0)(c:Nat)(l:Bl)(kb:Blk w bb [.slice a l.length c] 22)(bk:Nat)(kk:Blk w bk [V0 kind] 3)(hl:l.length=256)(hc:256≤c)(h:Bys w (.slice a l.length c) l) :
 C0 141 #[P0 bb,P0 bk] w (Ret (.bool (Jr kind no l 4)) w):=by
 refine zin 7 Tryz.func141 ?_
 refine xd 6 .z ?_
 have a0:=kb.below (Za w)
 refine xb (.e [] 0) 0 a0 ?_
 have a1:=kk.below (Za w)
 refine xb (.e [] 2) 0 a1 ?_
 have hB:=(Za w)
 refine xr (.o [] 1) (args:=#[.slice a l.length c,V0 4,V0 2]) (Ww a l.length c 4 2 4 2 l _ rfl rfl rfl (by decide) (by omega) (by omega) (h.below hB)) fun W1 a3=>?_
 have a2:=bln hB a3
 exact xe (.r [3,4] 3) (.bool ((↑(Zh l 4 2):Int) != kind)) ⟨rfl,a2⟩
theorem open_6(kind no:Int)(w:World)(bb:Nat)(a:O0)(c:Nat)(l:Bl)(kb:Blk w bb [.slice a l.length c] 22)(hl:l.length=256)(hc:256≤c)(h:Bys w (.slice a l.length c) l) :
 C0 142 #[P0 bb] w (Ret (.bool (Jr kind no l 5)) w):=by
 refine zin 5 Tryz.func142 ?_
 refine xb 7 0 kb ?_
 refine xr 0 (args:=#[.slice a l.length c,V0 6,V0 2]) (Ww a l.length c 6 2 6 2 l _ rfl rfl rfl (by decide) (by omega) (by omega) (h.below (B4 w))) fun W1 a0=>?_
 exact xe 5 (.bool ((↑(Zh l 6 2):Int) != (0:Int))) ⟨rfl,a0⟩
def OpenP(kind no:Int)(l:Bl)(w:World)(e:Ending)(w':World):Prop :=
 (Xy kind no l≠0∧e=.returned (.tuple #[S0,V0 (Xy kind no l)])∧B3 w w') ∨
 (Xy kind no l=0∧∃ p c,e=.returned (.tuple #[.slice p 244 c,V0 0])∧B3 w w'∧w'.ownsRow w.heap.size 5 1 (.slice p 244 c) 244 (((l.drop 8).take 244).map bv))
theorem seal_Open(kind no:Int)(a:O0)(c:Nat)(l:Bl)(w:World)(h:Bys w (.slice a l.length c) l) :
 C0 75 #[.slice a l.length c,V0 kind,V0 no] w (OpenP kind no l w):=by
 have m4:=h.cap rfl
 refine zin 39 Tryz.func75 ?_
 refine xa 2 [.slice a l.length c] 22 fun b1 W1 n1=>?_
 refine xa 0 [V0 kind] 3 fun b2 W2 n2=>?_
 refine xa 0 [V0 no] 3 fun b3 W3 n3=>?_
 have m3:=n3.ne n2.blk
 refine xbs 18 6 [.func (.func 134) #[] #[P0 b2,P0 b3],V0 1,.func (.func 136) #[] #[P0 b1],V0 7,.func (.func 137) #[] #[P0 b1,P0 b2],V0 4,.func (.func 140) #[] #[P0 b1,P0 b3],V0 5,.func (.func 141) #[] #[P0 b1,P0 b2],V0 6,.func (.func 142) #[] #[P0 b1],V0 7] 241 fun b4 W4 n4=>?_
 refine xu 12 7 ?_
 refine xlv 14 (n4.blk.rpp 0 2) ?_
 refine xa 0 [.nilFunc,V0 0] 241 fun b5 W5 n5=>?_
 have g8:=n5.ne n4.blk
 refine xsv 0 n5.blk [.func (.func 134) #[] #[P0 b2,P0 b3],V0 1] fun W6 u6 k6=>?_
 have g5:=n5.ge (bln (bln (bln n1.below n2.below) n3.below) n4.below)
 refine xb 5 0 k6 ?_
 have g0:=u6.blkT (((n2.blk.below n3.below).below n4.below).below n5.below) n5.blk (by decide)
 have k3:=u6.blkT ((n3.blk.below n4.below).below n5.below) n5.blk (by decide)
 refine xr 0 (args:=#[P0 b2,P0 b3]) (open_1 kind no _ l b2 g0 b3 k3) fun W7 b6=>?_
 refine xi 2 (Jr kind no l 0) (fun j9=>?_) (fun j9=>?_)
 ·have c7:=j9
  refine xd 1 .z ?_
  have k7:=(k6.below b6).below (Za W7)
  refine xb (.e [0] 1) 1 k7 ?_
  have hB:=bln (bln (u6.below (bln (bln (bln (bln n1.below n2.below) n3.below) n4.below) n5.below) g5) b6) (Za W7)
  refine xe (.r [2,3] 8) (.tuple #[S0,V0 1]) ?_
  have he:Xy kind no l=1:=by simp[Xy,c7]
  exact .inl ⟨by rw[he];decide,by rw[he],hB⟩
 have c7:=j9
 have e7:=(u6.blk (n4.blk.below n5.below) (Ne.symm (Ne.symm g8))).below b6
 refine xlv 22 (e7.rpp 2 2) ?_
 refine xa 0 [.nilFunc,V0 0] 241 fun b9 W9 n9=>?_
 have h4:=n9.ne e7
 have h5:=k6.below b6
 have i1:=n9.ne h5
 refine xsv 0 n9.blk [.func (.func 136) #[] #[P0 b1],V0 7] fun n0 f0 l2=>?_
 have g9:=n9.ge (bln (u6.below (bln (bln (bln (bln n1.below n2.below) n3.below) n4.below) n5.below) g5) b6)
 refine xb 5 0 l2 ?_
 have k1:=f0.blkT (((u6.blkT ((((n1.blk.below n2.below).below n3.below).below n4.below).below n5.below) n5.blk (by decide)).below b6).below n9.below) n9.blk (by decide)
 refine xr 0 (args:=#[P0 b1]) (open_2 kind no _ b1 a c l k1) fun l6 a3=>?_
 refine xi 2 (Jr kind no l 1) (fun f2=>?_) (fun f2=>?_)
 ·have a4:=f2
  refine xd 1 .z ?_
  have h7:=(l2.below a3).below (Za l6)
  refine xb (.e [0] 1) 1 h7 ?_
  have hB:=bln (bln (f0.below (bln (bln (u6.below (bln (bln (bln (bln n1.below n2.below) n3.below) n4.below) n5.below) g5) b6) n9.below) g9) a3) (Za l6)
  refine xe (.r [2,3] 8) (.tuple #[S0,V0 7]) ?_
  have he:Xy kind no l=7:=by simp[Xy,c7,a4]
  exact .inl ⟨by rw[he];decide,by rw[he],hB⟩
 have a4:=f2
 have l5:=ask1 a4
 have e5:=(f0.blk (e7.below n9.below) (Ne.symm (Ne.symm h4))).below a3
 refine xlv 22 (e5.rpp 4 2) ?_
 refine xa 0 [.nilFunc,V0 0] 241 fun o5 n8 a7=>?_
 have f4:=a7.ne e5
 have g7:=(f0.blk (h5.below n9.below) (Ne.symm (Ne.symm i1))).below a3
 have e8:=a7.ne g7
 have c5:=l2.below a3
 have d7:=a7.ne c5
 have hB:=bln (f0.below (bln (bln (u6.below (bln (bln (bln (bln n1.below n2.below) n3.below) n4.below) n5.below) g5) b6) n9.below) g9) a3
 have m5:=a7.ge hB
 refine xsv 0 a7.blk [.func (.func 137) #[] #[P0 b1,P0 b2],V0 4] fun n6 e2 j6=>?_
 refine xb 5 0 j6 ?_
 have h0:=e2.blkT ((k1.below a3).below a7.below) a7.blk (by decide)
 have g1:=e2.blkT (((f0.blkT ((g0.below b6).below n9.below) n9.blk (by decide)).below a3).below a7.below) a7.blk (by decide)
 have e9:=e2.below (bln hB a7.below) m5
 refine xr 0 (args:=#[P0 b1,P0 b2]) (open_3 kind no _ b1 a c l h0 b2 g1 (ask1 a4) (by have:=ask1 a4;have:=h.cap rfl;omega) (h.below e9)) fun m2 a2=>?_
 refine xi 2 (Jr kind no l 2) (fun d5=>?_) (fun d5=>?_)
 ·have f6:=d5
  refine xd 1 .z ?_
  have i8:=(j6.below a2).below (Za m2)
  refine xb (.e [0] 1) 1 i8 ?_
  have k5:=bln (bln e9 a2) (Za m2)
  refine xe (.r [2,3] 8) (.tuple #[S0,V0 4]) ?_
  have he:Xy kind no l=4:=by simp[Xy,c7,a4,f6]
  exact .inl ⟨by rw[he];decide,by rw[he],k5⟩
 have f6:=d5
 have e6:=(e2.blk (e5.below a7.below) (Ne.symm (Ne.symm f4))).below a2
 refine xlv 22 (e6.rpp 6 2) ?_
 refine xa 0 [.nilFunc,V0 0] 241 fun o4 o3 a5=>?_
 have e1:=a5.ne e6
 have h3:=(e2.blk (g7.below a7.below) (Ne.symm (Ne.symm e8))).below a2
 have d3:=a5.ne h3
 have d0:=(e2.blk (c5.below a7.below) (Ne.symm (Ne.symm d7))).below a2
 have e0:=a5.ne d0
 have c9:=j6.below a2
 have c1:=a5.ne c9
 have f7:=bln e9 a2
 have m8:=a5.ge f7
 refine xsv 0 a5.blk [.func (.func 140) #[] #[P0 b1,P0 b3],V0 5] fun o2 d2 k9=>?_
 refine xb 5 0 k9 ?_
 have i3:=d2.blkT ((h0.below a2).below a5.below) a5.blk (by decide)
 have j7:=d2.blkT (((e2.blkT (((f0.blkT ((k3.below b6).below n9.below) n9.blk (by decide)).below a3).below a7.below) a7.blk (by decide)).below a2).below a5.below) a5.blk (by decide)
 have e3:=d2.below (bln f7 a5.below) m8
 refine xr 0 (args:=#[P0 b1,P0 b3]) (open_4 kind no _ b1 a c l i3 b3 j7 (ask1 a4) (by have:=ask1 a4;have:=h.cap rfl;omega) (h.below e3)) fun m1 a0=>?_
 refine xi 2 (Jr kind no l 3) (fun e4=>?_) (fun e4=>?_)
 ·have h9:=e4
  refine xd 1 .z ?_
  have i2:=(k9.below a0).below (Za m1)
  refine xb (.e [0] 1) 1 i2 ?_
  have k0:=bln (bln e3 a0) (Za m1)
  refine xe (.r [2,3] 8) (.tuple #[S0,V0 5]) ?_
  have he:Xy kind no l=5:=by simp[Xy,c7,a4,f6,h9]
  exact .inl ⟨by rw[he];decide,by rw[he],k0⟩
 have h9:=e4
 have d6:=(d2.blk (e6.below a5.below) (Ne.symm (Ne.symm e1))).below a0
 refine xlv 22 (d6.rpp 8 2) ?_
 refine xa 0 [.nilFunc,V0 0] 241 fun n7 m9 a6=>?_
 have f5:=a6.ne d6
 have f9:=(d2.blk (h3.below a5.below) (Ne.symm (Ne.symm d3))).below a0
 have f3:=a6.ne f9
 have c8:=(d2.blk (d0.below a5.below) (Ne.symm (Ne.symm e0))).below a0
 have d9:=a6.ne c8
 have c4:=(d2.blk (c9.below a5.below) (Ne.symm (Ne.symm c1))).below a0
 have b7:=a6.ne c4
 have d1:=k9.below a0
 have b8:=a6.ne d1
 have g3:=bln e3 a0
 have m6:=a6.ge g3
 refine xsv 0 a6.blk [.func (.func 141) #[] #[P0 b1,P0 b2],V0 6] fun o7 c2 k4=>?_
 refine xb 5 0 k4 ?_
 have i6:=c2.blkT ((i3.below a0).below a6.below) a6.blk (by decide)
 have l0:=c2.blkT (((d2.blkT ((g1.below a2).below a5.below) a5.blk (by decide)).below a0).below a6.below) a6.blk (by decide)
 have d8:=c2.below (bln g3 a6.below) m6
 refine xr 0 (args:=#[P0 b1,P0 b2]) (open_5 kind no _ b1 a c l i6 b2 l0 (ask1 a4) (by have:=ask1 a4;have:=h.cap rfl;omega) (h.below d8)) fun l7 a1=>?_
 refine xi 2 (Jr kind no l 4) (fun f1=>?_) (fun f1=>?_)
 ·have j2:=f1
  refine xd 1 .z ?_
  have h6:=(k4.below a1).below (Za l7)
  refine xb (.e [0] 1) 1 h6 ?_
  have l1:=bln (bln d8 a1) (Za l7)
  refine xe (.r [2,3] 8) (.tuple #[S0,V0 6]) ?_
  have he:Xy kind no l=6:=by simp[Xy,c7,a4,f6,h9,j2]
  exact .inl ⟨by rw[he];decide,by rw[he],l1⟩
 have j2:=f1
 have h1:=(c2.blk (d6.below a6.below) (Ne.symm (Ne.symm f5))).below a1
 refine xlv 22 (h1.rpp 10 2) ?_
 refine xa 0 [.nilFunc,V0 0] 241 fun o6 o1 a9=>?_
 have l3:=a9.ne h1
 have l4:=(c2.blk (f9.below a6.below) (Ne.symm (Ne.symm f3))).below a1
 have j4:=a9.ne l4
 have h8:=(c2.blk (c8.below a6.below) (Ne.symm (Ne.symm d9))).below a1
 have j3:=a9.ne h8
 have f8:=(c2.blk (c4.below a6.below) (Ne.symm (Ne.symm b7))).below a1
 have j0:=a9.ne f8
 have g2:=(c2.blk (d1.below a6.below) (Ne.symm (Ne.symm b8))).below a1
 have i9:=a9.ne g2
 have i5:=k4.below a1
 have j1:=a9.ne i5
 have h2:=bln d8 a1
 have m7:=a9.ge h2
 refine xsv 0 a9.blk [.func (.func 142) #[] #[P0 b1],V0 7] fun o8 l8 m0=>?_
 refine xb 5 0 m0 ?_
 have i0:=l8.blkT ((i6.below a1).below a9.below) a9.blk (by decide)
 have a8:=l8.below (bln h2 a9.below) m7
 refine xr 0 (args:=#[P0 b1]) (open_6 kind no _ b1 a c l i0  (ask1 a4) (by have:=ask1 a4;have:=h.cap rfl;omega) (h.below a8)) fun l9 b0=>?_
 refine xi 2 (Jr kind no l 5) (fun d4=>?_) (fun d4=>?_)
 ·have j8:=d4
  refine xd 1 .z ?_
  have i7:=(m0.below b0).below (Za l9)
  refine xb (.e [0] 1) 1 i7 ?_
  have g6:=bln (bln a8 b0) (Za l9)
  refine xe (.r [2,3] 8) (.tuple #[S0,V0 7]) ?_
  have he:Xy kind no l=7:=by simp[Xy,c7,a4,f6,h9,j2,j8]
  exact .inl ⟨by rw[he];decide,by rw[he],g6⟩
 have j8:=d4
 have k8:=i0.below b0
 refine xb 22 0 k8 ?_
 refine xsB 0 (fun _ _ _ _ _ zo zx zy zz V=>Yu (k:=8) (h:=252) (b:=a) (n:=l.length) (c:=c) (i:=8) (ki:=.i64) (j:=252) (kj:=.i64) 1 zo zx zy rfl zz rfl (by omega) (by omega) Tryz.underlying22 (by kernel_rfl) V) ?_
 have c6:=bln a8 b0
 refine xc 0 (args:=#[.slice (Ke a 8 c 1) 244 (c-8)]) (Qp (Ke a 8 c 1) 244 (c-8) ((l.drop 8).take 244) _ (by have:=ask1 a4;simp;omega) ((Bys.cut h rfl 8 252 (by decide) (by have:=ask1 a4;omega)).below c6) (by decide)) ?_
 rintro _ o0 ⟨_,rfl,j5,ho⟩
 have k2:=(bln a8 b0).size
 have c0:=Ze ho k2
 unfold Ph at c0
 rw[show((l.drop 8).take 244).length=244 from by have:=ask1 a4;simp;omega] at c0
 obtain⟨p,c3,rfl⟩:=(Zd c0).slice
 have i4:=bln c6 j5
 exact xe 5 (.tuple #[.slice p 244 c3,V0 0]) (.inr ⟨by simp[Xy,c7,a4,f6,h9,j2,j8],_,_,rfl,i4,c0⟩)
end Go.Proofs.YthhilbkandcbmaaGreatDoor
namespace Go.Proofs.YthhilbkandcbmaaGreatDoor
set_option maxHeartbeats 8000000
set_option maxRecDepth 100000
open Go.RowKit Go.Extern.Stop Go.Stop Go.Extern
set_option linter.unusedVariables false
attribute [local irreducible] wpList wpAnyH Code.wp Oper.wp Go
section
variable {P:Program} {a:Act}
end
theorem Get_okN(a:O0)(n c k w:Nat)(ki wi:Int)(l:Bl)(W:World)(hn:l.length=n)(hki:ki=(k:Int))(hwi:wi=(w:Int))(hw:w=1∨w=2∨w=4)(hk:k+w≤n)(hl:n≤100000000)(h:Bys W (.slice a n c) l) :
 C0 78 #[.slice a n c,V0 ki,V0 wi] W (Ret (.tuple #[V0 (Zh l k w:Int),V0 0]) W):=by
 subst hn hki hwi;exact Zeu a c k w l W (by omega) hk hl h (by have:=Yg l k w (by omega);omega)
theorem Wh(n k:Nat)(hn:n<9223372036854775808)(hk:0<k):IntKind.i64.wrap (Int.tdiv (n:Int) (k:Int))=((n/k:Nat):Int):=by
 rw[Int.tdiv_eq_ediv_of_nonneg (Int.natCast_nonneg _),←Int.natCast_ediv]
 exact Jt (Nat.lt_of_le_of_lt (Nat.div_le_self _ _) hn)
theorem Fk(n k:Nat):Int.tmod (n:Int) (k:Int)=((n%k:Nat):Int):=by
 rw[Int.tmod_eq_emod_of_nonneg (Int.natCast_nonneg _),←Int.natCast_emod]
end Go.Proofs.YthhilbkandcbmaaGreatDoor
namespace Go.Proofs.YthhilbkandcbmaaGreatDoor
set_option maxHeartbeats 8000000
set_option maxRecDepth 100000
open Go.RowKit
theorem Blk.ty{w:World}{b:Nat}{cs cs':List Value}{t t':TypeId}(k:Blk w b cs t)(q:Blk w b cs' t'):t=t':=by
 have h1:w.heap[b]? = some (.cells cs.toArray t (0,0)):=k
 have h2:w.heap[b]? = some (.cells cs'.toArray t' (0,0)):=q
 rw[h1] at h2
 simp only[Option.some.injEq,Obj.cells.injEq] at h2
 exact h2.2.1
theorem Kv.upd{w W:World}{b:Nat}{cs:List Value}{t:TypeId}{l:List (Option Int)}{c:Option Int}{v:Value}(h:Kv w l c v)(u:Upd w b W)(k:Blk w b cs t)(hne:t≠116):Kv W l c v :=
 h.kept fun _ _ q=>u.blk q (by rintro rfl;exact hne (k.ty q))
theorem Kv.grown{w W:World}{e:TypeId}{base size n:Nat}{s:Value}{xs:List Value}{l:List (Option Int)}{c:Option Int}{v:Value}(h:Kv w l c v)(hg:w.grownBy W s.ownBlock)(hown:w.ownsRow base e size s n xs)(hne:e≠116):Kv W l c v :=
 h.kept fun _ _ q=>q.grown hg hown hne
theorem Kv.only{T:List TypeId}{w W:World}{l:List (Option Int)}{c:Option Int}{v:Value}(h:Kv w l c v)(k:Zg T w W)(hne:T.contains 116=false):Kv W l c v:=h.kept fun _ _ q=>q.only k hne
end Go.Proofs.YthhilbkandcbmaaGreatDoor
namespace Go.Proofs.YthhilbkandcbmaaGreatDoor
set_option maxHeartbeats 8000000
set_option maxRecDepth 100000
open Go.RowKit Go.Extern.Stop Go.Stop Go.Extern
set_option linter.unusedVariables false
attribute [local irreducible] wpList wpAnyH Code.wp Oper.wp Go
structure ImgR(B b:Nat)(p:Option Addr)(n c:Nat)(l:List UInt8)(w:World):Prop where
 blk:Blk w b [.slice p n c] 59
 row:w.ownsRow B 5 1 (.slice p n c) n (l.map bv)
 hn:n≤3686400
theorem ImgR.below{B b:Nat}{p:O0}{n c:Nat}{l:Bl}{w W:World}(h:ImgR B b p n c l w)(hb:B3 w W):ImgR B b p n c l W:=⟨h.blk.below hb,Zb h.row hb,h.hn⟩
theorem ImgR.only{B b:Nat}{p:O0}{n c:Nat}{l:Bl}{w W:World}{T:List TypeId}(h:ImgR B b p n c l w)(hO:Zg T w W)(hT:T.contains 59=false∧T.contains 5=false):ImgR B b p n c l W:=⟨h.blk.only hO hT.1,Zr h.row hO hT.2,h.hn⟩
theorem ImgR.len{B b:Nat}{p:O0}{n c:Nat}{l:Bl}{w:World}(h:ImgR B b p n c l w):l.length=n:=by have:=h.row.1;simpa using this
theorem ImgR.base{B b:Nat}{p:O0}{n c:Nat}{l:Bl}{w:World}(h:ImgR B b p n c l w)(hn:0<n):∃ g,p=some ⟨g,0,none⟩∧n≤c:=by
 rcases h.row.2 with ⟨_,h0⟩|⟨g,a1,a0,hv,_,_,hc,_⟩
 ·omega
 ·simp only[Value.slice.injEq] at hv
  obtain⟨rfl,_,rfl⟩:=hv
  exact⟨g,rfl,hc⟩
def Qj(l:Bl)(j:Nat):Bl:=(l.drop (j*256)).take 256
theorem Vc{l:Bl}{j:Nat}(h:j<l.length/256):(Qj l j).length=256:=by simp[Qj];omega
theorem Bys.mid{w:World}{g off n c:Nat}{l:Bl}(h:Bys w (.slice (some ⟨g,off,none⟩) n c) l)(hl:l.length=n)(k m:Nat)(hm:0<m)(hk:k+m≤n):Bys w (.slice (some ⟨g,off+k,none⟩) m m) ((l.drop k).take m):=by
 have a0:((l.drop k).take m).length=m:=by simp;omega
 rcases h with ⟨a',c',h1,h2,h3⟩|⟨g',a1,a2,h1,h2,h3,h4⟩
 ·omega
 ·simp only[Value.slice.injEq,Option.some.injEq,Addr.mk.injEq] at h1
  obtain⟨⟨rfl,rfl,_⟩,_,rfl⟩:=h1
  refine .inr ⟨g,off+k,m,by rw[a0],by omega,by omega,fun j x hj=>?_⟩
  rw[List.getElem?_map,List.getElem?_take] at hj
  split at hj
  ·rw[List.getElem?_drop] at hj
   have:=h4 (k+j) x (by rw[List.getElem?_map];exact hj)
   rwa [←Nat.add_assoc] at this
  ·cases hj
theorem ImgR.part{B b g:Nat}{n c:Nat}{l:Bl}{w:World}(h:ImgR B b (S1 g) n c l w){j:Nat}(hj:j<n/256):Bys w (.slice (some ⟨g,j*256,none⟩) 256 256) (Qj l j):=by
 have:=Bys.mid (Yr (Zd h.row) h.len) h.len (j*256) 256 (by decide) (by omega)
 rwa [Nat.zero_add] at this
def ReadP(n:Nat)(l:Bl)(k:Int)(w:World)(e:Ending)(w':World):Prop :=
 (¬ (0≤k∧k<(n/256:Nat))∧∃ v,e=.returned (.tuple #[v,V0 3])∧B3 w w') ∨
 (∃ j:Nat,k=(j:Int)∧j<n/256∧∃ p c,e=.returned (.tuple #[.slice p 256 c,V0 0])∧B3 w w'∧w'.ownsRow w.heap.size 5 1 (.slice p 256 c) 256 ((Qj l j).map bv))
theorem Ee(b:Nat)(p:O0)(n c:Nat)(k:Int)(w:World)(hk:Blk w b [.slice p n c] 59)(hn:n≤100000000)(ho:¬ (0≤k∧k<(n/256:Nat))) :
 C0 132 #[P0 b,V0 k] w (Ret (.tuple #[S0,V0 3]) w):=by
 refine zin 33 Tryz.func132 ?_
 refine xg 21 [13,14] (decide (k<(0:Int))) (fun a0=>?_) (fun a0=>?_)
 ·have a0:=of_decide_eq_true a0
  exact xe 18 (.tuple #[S0,V0 3]) ⟨rfl,(B4 w)⟩
 have a0:=of_decide_eq_false a0
 refine xr 2 (args:=#[P0 b]) (Yc b _ n c _ (hk.below (B4 w)) hn) fun W2 a1=>?_
 refine xk 5 (show(decide (k≥(↑(n/256):Int)):Bool)=true from decide_eq_true (by omega)) ?_
 exact xe 9 (.tuple #[S0,V0 3]) ⟨rfl,a1⟩
theorem Rk(B b:Nat)(p:O0)(n c:Nat)(l:Bl)(k:Int)(w:World)(hI:ImgR B b p n c l w)(ho:¬ (0≤k∧k<(n/256:Nat))) :
 C0 73 #[P0 b,V0 k] w (Qd (fun _ r=>∃ v,r=.tuple #[v,V0 3]) w):=by
 refine zin 17 Tryz.func73 ?_
 refine xr 10 (args:=#[P0 b,V0 k]) (Ee b p n c k _ (hI.below (B4 w)).blk (by have:=hI.hn;omega) ho) fun W1 a1=>?_
 refine xc 10 (args:=#[S0]) (Zaa 0 _) ?_
 rintro _ W2 ⟨v2,rfl,a0,_⟩
 have hB:=bln a1 a0
 exact xe 6 (.tuple #[v2,V0 3]) ⟨_,rfl,hB,_,rfl⟩
theorem Ah(B b g:Nat)(n c:Nat)(l:Bl)(j:Nat)(w:World)(hI:ImgR B b (S1 g) n c l w)(hj:j<n/256)(hc:n≤c) :
 C0 73 #[P0 b,V0 (j:Int)] w (Qd (fun w' r=>∃ p2 c3,r=.tuple #[.slice p2 256 c3,V0 0]∧w'.ownsRow w.heap.size 5 1 (.slice p2 256 c3) 256 ((Qj l j).map bv)) w):=by
 have a3:=Vc (l:=l) (j:=j) (by rw[hI.len];exact hj)
 refine zin 17 Tryz.func73 ?_
 refine xr 10 (args:=#[P0 b,V0 (j:Int)]) (Ed b g n c j _ (hI.below (B4 w)).blk (by have:=hI.hn;omega) hc hj) fun W1 a1=>?_
 refine xc 10 (args:=#[.slice (some ⟨g,(j*256),none⟩) 256 256]) (Qp (some ⟨g,(j*256),none⟩) 256 256 (Qj l j) _ a3 ((hI.below a1).part hj) (by decide)) ?_
 rintro _ W2 ⟨_,rfl,a4,ho⟩
 have a0:=Ze ho a1.size
 unfold Ph at a0
 rw[a3] at a0
 obtain⟨p2,c3,rfl⟩:=(Zd a0).slice
 have a2:=bln a1 a4
 exact xe 6 (.tuple #[.slice p2 256 c3,V0 0]) ⟨_,rfl,a2,_,_,rfl,a0⟩
theorem Sx(B b:Nat)(p:O0)(n c:Nat)(l:Bl)(k:Int)(w:World)(hI:ImgR B b p n c l w) :
 C0 73 #[P0 b,V0 k] w (ReadP n l k w):=by
 by_cases h:0≤k∧k<(n/256:Nat)
 ·obtain⟨g,rfl,hc⟩:=hI.base (by omega)
  obtain⟨j,rfl⟩:∃ j:Nat,k=j:=⟨k.toNat,by omega⟩
  refine(Ah B b g n c l j w hI (by omega) hc).mono ?_
  rintro e W ⟨_,rfl,hb,p2,c3,rfl,ho⟩
  exact .inr ⟨j,rfl,by omega,_,_,rfl,hb,ho⟩
 ·refine(Rk B b p n c l k w hI h).mono ?_
  rintro e W ⟨_,rfl,hb,v,rfl⟩
  exact .inl ⟨h,_,rfl,hb⟩
def inE (l:Bl)(kind no:Int):Int:=if 0≤no∧no<(l.length/256:Nat) then Xy kind no (Qj l no.toNat) else 3
def inB (l:Bl)(no:Int):Bl:=((Qj l no.toNat).drop 8).take 244
theorem Lo{l:Bl}{kind no:Int}{n:Nat}(hl:l.length=n)(h:¬ (0≤no∧no<(n/256:Nat))):inE l kind no=3:=by subst hl;exact if_neg h
theorem Oj{l:Bl}{kind no:Int}{n j:Nat}(hl:l.length=n)(hk:no=(j:Int))(h:j<n/256):inE l kind no=Xy kind no (Qj l j):=by
 subst hl hk;rw[inE,if_pos ⟨by omega,by omega⟩];rfl
theorem Zak{l:Bl}{no:Int}{j:Nat}(hk:no=(j:Int)):inB l no=((Qj l j).drop 8).take 244:=by subst hk;rfl
theorem Zbg{l:Bl}{no:Int}{n j:Nat}(hl:l.length=n)(hk:no=(j:Int))(h:j<n/256):(inB l no).length=244:=by
 subst hl hk;have:=Vc h;simp[inB,this]
theorem Aw{l l':Bl}(h:l.length=l'.length)(h2:∀ j,j<l.length→l.getD j 0=l'.getD j 0):l=l':=by
 apply List.ext_getElem h
 intro j h3 h4
 have:=h2 j h3
 simpa [List.getD,h3,h4] using this
theorem Hg{l:Bl}{k:Nat}{x:Bl}(h:k+x.length≤l.length)(j:Nat):(Vu l k x).getD j 0=if k≤j∧j<k+x.length then x.getD (j-k) 0 else l.getD j 0:=by
 unfold Vu
 simp only[List.getD]
 rw[List.append_assoc,List.getElem?_append,List.getElem?_append]
 have e:(l.take k).length=k:=by simp;omega
 rw[e]
 by_cases h1:j<k
 ·rw[if_pos h1,if_neg (by omega),List.getElem?_take,if_pos h1]
 ·rw[if_neg h1]
  by_cases h2:j-k<x.length
  ·rw[if_pos h2,if_pos (by omega)]
  ·rw[if_neg h2,if_neg (by omega),List.getElem?_drop,show k+x.length+(j-k-x.length)=j by omega]
theorem Sa{l l':Bl}:∀ (w k:Nat),(∀ j,k≤j→j<k+w→l.getD j 0=l'.getD j 0)→Zh l k w=Zh l' k w
 | 0,k,h=>rfl
 | w+1,k,h=>by rw[Zh,Zh,h k (by omega) (by omega),Sa w (k+1) fun j h1 h2=>h j (by omega) (by omega)]
theorem Wx{l:Bl}:∀ (w k m:Nat),(∀ i,i<w→l.getD (k+i) 0=UInt8.ofNat (m/256 ^ i))→Zh l k w=m%256 ^ w
 | 0,k,m,h=>by simp[Zh,Nat.mod_one]
 | w+1,k,m,h=>by
  have h0:=h 0 (by omega)
  simp only[Nat.add_zero,Nat.pow_zero,Nat.div_one] at h0
  have h1:=Wx (l:=l) w (k+1) (m/256) fun i hi=>by
   have:=h (i+1) (by omega)
   rw[Nat.pow_succ,Nat.mul_comm,←Nat.div_div_eq_div_mul] at this
   rw[show k+1+i=k+(i+1) by omega];exact this
  rw[Zh,h0,h1,Nat.pow_succ,Nat.mul_comm (256 ^ w) 256,Nat.mod_mul]
  congr 1
theorem Ap{l:Bl}{k w:Nat}{n:Int}(h:k+w≤l.length)(h0:0≤n)(hb:n.toNat<256 ^ w):(Zh (Vu l k (leB n w)) k w:Int)=n:=by
 rw[Wx w k n.toNat,Nat.mod_eq_of_lt hb]
 ·omega
 ·intro i hi
  rw[Hg (by rw[Zm];exact h),if_pos (by rw[Zm];omega),show k+i-k=i by omega]
  simp[leB,Zt,List.getD,List.getElem?_range hi]
theorem Yn{l x:Bl}{k j w:Nat}(h:k+x.length≤l.length)(hd:j+w≤k∨k+x.length≤j):Zh (Vu l k x) j w=Zh l j w :=
 Sa w j fun i h1 h2=>by rw[Hg h,if_neg (by omega)]
theorem rawN_zero{l:Bl}{k w:Nat}(h:∀ j,k≤j→j<k+w→l.getD j 0=0):Zh l k w=0:=by
 have:=Wx (l:=l) w k 0 fun i hi=>by rw[h (k+i) (by omega) (by omega)];simp
 simpa using this
theorem sumB_put{l x:Bl}{kind:Int}(h:252≤l.length):Lv (Vu l 252 x) kind=Lv l kind:=by
 unfold Lv Vu
 rw[List.append_assoc,List.take_append_of_le_length (by simp;omega),List.take_take];rfl
theorem Fl(n j:Nat):(List.replicate n (0:UInt8)).getD j 0=0:=by
 simp[List.getD,List.getElem?_replicate];split<;>rfl
def Zaj(li:Bl):Bl:=li++List.replicate (244-li.length) 0
theorem Ol{kind no:Int}{li:Bl}(h1:1≤kind)(h2:kind≤4)(h3:0≤no)(h4:no<14400)(hl:li.length≤244):Xy kind no (Xw kind no li)=0:=by
 have l1:=Gd hl
 have l2:=Gf (no:=no) hl
 have l3:=Kn (kind:=kind) (no:=no) hl
 have l4:=Ql (kind:=kind) (no:=no) hl
 have a0:Jr kind no (Xw kind no li) 0=false:=by simp only[Jr];rw[show Vz kind no=true from decide_eq_true (by omega)];rfl
 have a1:Jr kind no (Xw kind no li) 1=false:=by simp only[Jr,l4];rfl
 have a2:Jr kind no (Xw kind no li) 2=false:=by
  have hs:Lv (Xw kind no li) kind=Lv (Pf kind no li) kind:=by unfold Xw;exact sumB_put (by omega)
  have hr:(Zh (Xw kind no li) 252 4:Int)=(Lv (Pf kind no li) kind:Int):=by
   unfold Xw
   exact Ap (by omega) (by omega) (by have:=sumB_lt (Pf kind no li) kind;simpa using this)
  simp only[Jr,hr,hs];simp
 have a3:Jr kind no (Xw kind no li) 3=false:=by
  have hr:(Zh (Xw kind no li) 0 4:Int)=no:=by
   unfold Xw
   rw[Yn (by rw[Zm];omega) (.inl (by omega))]
   unfold Pf
   rw[Yn (by rw[Zm];omega) (.inl (by omega))]
   unfold Zck
   exact Ap (by omega) (by omega) (by omega)
  simp only[Jr,hr];simp
 have a4:Jr kind no (Xw kind no li) 4=false:=by
  have hr:(Zh (Xw kind no li) 4 2:Int)=kind:=by
   unfold Xw
   rw[Yn (by rw[Zm];omega) (.inl (by omega))]
   unfold Pf
   exact Ap (by omega) (by omega) (by omega)
  simp only[Jr,hr];simp
 have a5:Jr kind no (Xw kind no li) 5=false:=by
  have hr:Zh (Xw kind no li) 6 2=0:=by
   unfold Xw
   rw[Yn (by rw[Zm];omega) (.inl (by omega))]
   unfold Pf
   rw[Yn (by rw[Zm];omega) (.inr (by rw[Zm];omega))]
   unfold Zck
   rw[Yn (by rw[Zm];omega) (.inr (by rw[Zm];omega))]
   unfold Ot
   rw[Yn (by rw[List.length_replicate];omega) (.inl (by omega))]
   exact rawN_zero fun j _ _=>Fl 256 j
  simp only[Jr,hr];rfl
 simp[Xy,a0,a1,a2,a3,a4,a5]
theorem in_seal{kind no:Int}{li:Bl}(hl:li.length≤244):((Xw kind no li).drop 8).take 244=Zaj li:=by
 have l1:=Gd hl
 have l2:=Gf (no:=no) hl
 have l3:=Kn (kind:=kind) (no:=no) hl
 have l4:=Ql (kind:=kind) (no:=no) hl
 apply Aw
 ·simp[Zaj,l4];omega
 ·intro j hj
  have a0:j<244:=by simp[l4] at hj;omega
  have e:(((Xw kind no li).drop 8).take 244).getD j 0=(Xw kind no li).getD (8+j) 0:=by
   simp only[List.getD];rw[List.getElem?_take,if_pos a0,List.getElem?_drop]
  rw[e]
  unfold Xw
  rw[Hg (by rw[Zm];omega),if_neg (by rw[Zm];omega)]
  unfold Pf
  rw[Hg (by rw[Zm];omega),if_neg (by rw[Zm];omega)]
  unfold Zck
  rw[Hg (by rw[Zm];omega),if_neg (by rw[Zm];omega)]
  unfold Ot
  rw[Hg (by rw[List.length_replicate];omega),Fl]
  unfold Zaj
  simp only[List.getD]
  rw[List.getElem?_append]
  by_cases h:j<li.length
  ·rw[if_pos ⟨by omega,by omega⟩,if_pos h,show 8+j-8=j by omega]
  ·rw[if_neg (by omega),if_neg h]
   have:=Fl (244-li.length) (j-li.length)
   simp only[List.getD] at this
   exact this.symm
theorem Dd{l x:Bl}{k:Nat}(hx:x.length=256)(hk:k<l.length/256):Qj (Vu l (k*256) x) k=x:=by
 have a0:k*256+256≤l.length:=by omega
 have hp:=Qg (l:=l) (k:=k*256) (x:=x) (by omega)
 apply Aw
 ·rw[Vc (by rw[hp];exact hk),hx]
 ·intro j hj
  rw[Vc (by rw[hp];exact hk)] at hj
  have e:(Qj (Vu l (k*256) x) k).getD j 0=(Vu l (k*256) x).getD (k*256+j) 0:=by
   simp only[Qj,List.getD];rw[List.getElem?_take,if_pos hj,List.getElem?_drop]
  rw[e,Hg (by omega),if_pos (by omega),show k*256+j-k*256=j by omega]
theorem Qx{l x:Bl}{k i:Nat}(hx:x.length=256)(hk:k<l.length/256)(hne:i≠k)(hi:i<l.length/256):Qj (Vu l (k*256) x) i=Qj l i:=by
 have a0:k*256+256≤l.length:=by omega
 have hp:=Qg (l:=l) (k:=k*256) (x:=x) (by omega)
 apply Aw
 ·rw[Vc (by rw[hp];exact hi),Vc hi]
 ·intro j hj
  rw[Vc (by rw[hp];exact hi)] at hj
  have e:∀ l:Bl,(Qj l i).getD j 0=l.getD (i*256+j) 0:=fun l=>by
   simp only[Qj,List.getD];rw[List.getElem?_take,if_pos hj,List.getElem?_drop]
  rw[e,e,Hg (by omega),if_neg (by omega)]
theorem Yj(k:Nat):Builtin.zeroCells #[Value.int .u8 0] k=(List.replicate k (Value.int .u8 0)).toArray:=by
 apply Array.ext'
 unfold Builtin.zeroCells
 simp only[List.size_toArray,List.length_cons,List.length_nil,Nat.zero_add,Nat.mul_one,Nat.mod_one]
 rw[Array.toList_map]
 simp only[Array.toList_range]
 apply List.ext_getElem?
 intro i
 simp only[List.getElem?_map,List.getElem?_replicate]
 by_cases h:i<k
 ·rw[List.getElem?_range h,if_pos h];rfl
 ·rw[if_neg h,List.getElem?_eq_none (by simpa using h)];rfl
theorem Uo{P:Program}(w:World)(t tn ty e:TypeId)(i:TypeInfo)(kq kn:IntKind)(ht:P.underlying t=some (.slice e))(htn:P.underlying tn=some (.int kn))(hi:P.info? e=some i)(hz:i.zero=some (.int .u8 0))(hs1:i.size=1)(hb1:i.bytes=1)
 (g n c k:Nat) (cur:Array Value) (hg:w.heap[g]? = some (.cells cur e (0,0))) (h0:0<k) (hroom:n+k≤c) (hfit:n+k≤cur.size) (hk:n+k≤1000000) :
 (Builtin.append_ #[t,tn] ty #[.slice (S1 g) n c,.int kq k]).run P w =
 .ok (.slice (S1 g) (n+k) c) (w.setRow g (cur.toList.take n++List.replicate k (Value.int .u8 0)++cur.toList.drop (n+k)).toArray):=by
 have a3:k≠0:=by omega
 have hw:IntKind.i64.wrap (k:Int)=k:=by rw[IntKind.wrap_i64];omega
 have a1:¬ (281474976710656<(k:Int)):=by omega
 have a0:¬ ((k:Int)<0):=by omega
 have a2:=run_storeCells_at P g n e (List.replicate k (.int .u8 0)) 0 cur w hg (by simpa using hfit) (by intro u hu;rw[(List.mem_replicate.1 hu).2];rfl)
 simp only[Nat.add_zero,List.length_replicate] at a2
 simp[Builtin.append_,run_underlying ht,run_underlying htn,sizeOf,typeInfo,zeroValue,hi,hz,hs1,hb1,asInt,asIntOf,hw,a0,a1,a3,hroom,Addr.add_lit,show(Value.int IntKind.u8 0).cells=#[Value.int .u8 0] from rfl,Yj,a2]
theorem op_appZo{P:Program}{a:Act}{w:World}{K:Act→World→Prop}{Q:Exit→Act→World→Prop}{o:Oper}{s x:Operand}{t tn e:TypeId}{kq kn:IntKind}{base:Nat}{v:Value}{n:Nat}{xs:List Value}(k n':Nat)(xs':List Value)
 (ho:o.op=.call { callee:=.builtin .append,args:=#[s,x],argTypes:=#[t,tn] }) (ht:P.underlying t=some (.slice e)) (htn:P.underlying tn=some (.int kn)) (hi:(P.info? e).map (fun i=>(i.zero,i.size,i.bytes))=some (some (.int .u8 0),1,1))
 (hs:a.eval s=v) (hown:w.ownsRow base e 1 v n xs) (hx:a.eval x=.int kq (k:Int)) (h0:0<k) (hk:n+k≤1000000) (hbase:base≤w.heap.size) (hn:n+k=n') (hxs:xs++List.replicate k (.int .u8 0)=xs')
 (h:∀ b c' W,W.ownsRow base e 1 (.slice b n' c') n' xs'→w.grownBy W v.ownBlock→Below base w W→K (a.put o.dst (.slice b n' c')) W):o.wp P a w K Q:=by
 subst hn hxs
 cases hq:P.info? e with
 | none=>simp[hq] at hi
 | some i =>
  simp only[hq,Option.map_some,Option.some.injEq,Prod.mk.injEq] at hi
  obtain⟨hz,h1,h2⟩:=hi
  have a5:xs.length=n:=by simpa using hown.1
  have a0:(xs++List.replicate k (Value.int .u8 0)).length=(n+k)*1:=by simp[a5]
  rcases hown.2 with ⟨rfl,rfl⟩|⟨g,c,a1,rfl,b3,hg,b4,a3,b0,a2⟩
  ·obtain rfl:xs=[]:=List.eq_nil_of_length_eq_zero a5
   have hr:=Lib.run_append_nil_zeros (P:=P) w t tn o.type e i (.int .u8 0) kq kn ht htn hq hz k h0 (by omega) (by omega) (by rw[h2];omega)
   unfold Oper.wp execOp
   simp only[ho,resolve,invoke,builtin,Sem.run_bind,Sem.run_pure,Result.andThen_ok,List.map_toArray,List.map_cons,List.map_nil,hs,hx,hr]
   have a6:=grownCap_ge w k 0 e
   have a3:grownCap w k 0 e≤maxLen:=grownCap_le_maxLen w k 0 e (by unfold maxLen;omega)
   simp only[Nat.zero_add,List.nil_append] at h
   refine h _ _ _ ⟨by simp,.inr ⟨w.heap.size,_,_,rfl,hbase,heap_alloc_new w.drew _,a6,a3,?_,?_⟩⟩ ⟨rfl,rfl,rfl,by simp,fun k hk _=>by first|exact heap_alloc_old w.drew _ k hk|exact heap_alloc_old w.drew _ hk⟩ (((Za w).trans (show Below w.drew.heap.size w.drew _ from blx w.drew _)).mono hbase)
   ·rw[show(Value.int .u8 0).cells=#[Value.int .u8 0] from rfl,Yj,Yj];simp;omega
   ·rw[show(Value.int .u8 0).cells=#[Value.int .u8 0] from rfl,Yj,Yj]
    simp only[Array.toList_append,Nat.mul_one]
    exact List.take_left' (by simp)
  by_cases hroom:n+k≤c
  ·have b2:a1.size=c:=by simpa using b0
   have hr:=Uo (P:=P) w t tn o.type e i kq kn ht htn hq hz h1 h2 g n c k a1 hg h0 hroom (by omega) hk
   unfold Oper.wp execOp
   simp only[ho,resolve,invoke,builtin,Sem.run_bind,Sem.run_pure,Result.andThen_ok,List.map_toArray,List.map_cons,List.map_nil,hs,hx,hr]
   have a8:w.grownBy (w.setRow g (a1.toList.take n++List.replicate k (Value.int .u8 0)++a1.toList.drop (n+k)).toArray) (Value.ownBlock (.slice (S1 g) n c)):=⟨rfl,rfl,rfl,by simp,fun k' _ b1=>setRow_other w g k' _ (fun e=>b1 (by simp[Value.ownBlock,e]))⟩
   refine h _ _ _ ⟨a0,.inr ⟨g,c,_,rfl,b3,setRow_heap w g a1 _ e _ hg,hroom,a3,?_,?_⟩⟩ a8 (Qk a8 hown (Nat.le_refl _) hbase)
   ·simp only[List.size_toArray,List.length_append,List.length_take,List.length_drop,Array.length_toList,List.length_replicate]
    omega
   ·have a9:a1.toList.take n=xs:=by simpa using a2
    rw[a9,←a0]
    exact List.take_left
  ·have a4:∀ j u,xs[j]? = some u→w.cell? ((⟨g,0,none⟩:Addr).add j)=some u:=hown.cells (g:=g) rfl
   have a7:=run_firstCells_some (P:=P) (w:=w.drew) i.size n ⟨g,0,none⟩ n c xs (by rw[a5,h1,Nat.mul_one]) (by simpa using a4)
   have hr:=Lib.run_append_grow_zeros (P:=P) w t tn o.type e i (.int .u8 0) kq kn ht htn hq hz (S1 g) n c xs a7 k h0 (by omega) (by omega) (by omega) (by rw[h2];omega) (by rw[h2];exact growslice_fits (by omega) (by omega))
   unfold Oper.wp execOp
   simp only[ho,resolve,invoke,builtin,Sem.run_bind,Sem.run_pure,Result.andThen_ok,List.map_toArray,List.map_cons,List.map_nil,hs,hx,hr]
   have a6:=grownCap_ge w (n+k) c e
   have a3:grownCap w (n+k) c e≤maxLen:=grownCap_le_maxLen w (n+k) c e (by unfold maxLen;omega)
   refine h _ _ _ ⟨a0,.inr ⟨w.heap.size,_,_,rfl,hbase,heap_alloc_new w.drew _,a6,a3,?_,?_⟩⟩ ⟨rfl,rfl,rfl,by simp,fun k hk _=>by first|exact heap_alloc_old w.drew _ k hk|exact heap_alloc_old w.drew _ hk⟩ (((Za w).trans (show Below w.drew.heap.size w.drew _ from blx w.drew _)).mono hbase)
   ·rw[show(Value.int .u8 0).cells=#[Value.int .u8 0] from rfl,Yj,Yj];simp[a5];omega
   ·rw[show(Value.int .u8 0).cells=#[Value.int .u8 0] from rfl,Yj,Yj]
    simp only[Array.toList_append,List.append_assoc]
    rw[←List.append_assoc,←a0]
    exact List.take_left
theorem Tc{kind no:Int}(h:Vz kind no=true):1≤kind∧kind≤4∧0≤no∧no<14400:=of_decide_eq_true h
end Go.Proofs.YthhilbkandcbmaaGreatDoor
namespace Go.Proofs.YthhilbkandcbmaaGreatDoor
set_option maxHeartbeats 8000000
set_option maxRecDepth 100000
open Go.RowKit Go.Extern.Stop Go.Stop Go.Extern
set_option linter.unusedVariables false
section
variable {P:Program} {Q:Exit→Act→World→Prop} {a:Act} {w:World} {K:Act→World→Prop}
theorem Zd7{o:Oper}{d x:Operand}{dT sT e:TypeId}{base g off n cap dLen dCap:Nat}{xs:List Value}(l:Bl)(xs':List Value)(ho:o.op=.call { callee:=.builtin .copy,args:=#[d,x],argTypes:=#[dT,sT] })(hu:P.underlying dT=some (.slice e))(hsz:(P.info? e).map (·.size)=some 1)
 (hd:a.eval d=.slice (some ⟨g,off,none⟩) dLen dCap) (hs:a.eval x=.string ⟨l.toArray⟩) (hown:w.ownsRow base e 1 (.slice (S1 g) n cap) n xs) (hm:l.length≤dLen) (hfit:off+l.length≤n)
 (hbase:base≤w.heap.size) (hxs:xs.take off++l.map bv++xs.drop (off+l.length)=xs')
 (h:∀ W,W.ownsRow base e 1 (.slice (S1 g) n cap) n xs'→w.grownBy W (Value.slice (S1 g) n cap).ownBlock→Below base w W→K (a.put o.dst (V0 (l.length:Int))) W):o.wp P a w K Q:=by
 obtain⟨hl,hr⟩:=hown
 rcases hr with ⟨hv,_⟩|⟨g2,b3,a1,hv,a6,hh,a8,a9,a4,a7⟩
 ·cases hv
 simp only[Value.slice.injEq,Option.some.injEq,Addr.mk.injEq] at hv
 obtain⟨⟨rfl,_,_⟩,_,rfl⟩:=hv
 have b1:xs.length=n:=by simpa using hl
 have a3:a1.toList.length=cap:=by simpa using a4
 have a5:(l.map bv).length=l.length:=by simp
 have b2:∀ W,W.heap[g]? = some (.cells (a1.toList.take off++l.map bv++a1.toList.drop (off+l.length)).toArray e (0,0))→w.grownBy W (some g)→K (a.put o.dst (V0 (l.length:Int))) W:=by
  intro W hW hg
  refine h W ⟨?_,.inr ⟨g,cap,_,rfl,a6,hW,a8,a9,?_,?_⟩⟩ hg (Qk (v:=.slice (S1 g) n cap) hg ⟨hl,.inr ⟨g,cap,a1,rfl,a6,hh,a8,a9,a4,a7⟩⟩ (Nat.le_refl _) hbase)
  ·rw[←hxs];simp;omega
  ·simp only[List.size_toArray,List.length_append,List.length_take,List.length_drop,a3,Nat.mul_one,a5];omega
  ·have hA:(a1.toList.take off++l.map bv).length=off+l.length:=by simp only[List.length_append,List.length_take,a3,a5];omega
   rw[←hxs,←a7]
   simp only[Nat.mul_one]
   rw[List.take_append,List.take_of_length_le (by rw[hA];omega),hA,List.take_take,Nat.min_eq_left (by omega:off≤n),List.drop_take]
 have a0:(⟨l.toArray⟩:ByteArray).size=l.length:=by show l.toArray.size=l.length;simp
 have a2:=Go.Lib.run_copy_row_string (P:=P) w dT sT o.type e g off dLen dCap ⟨l.toArray⟩ a1 e hu hsz hh (by rw[a0];exact hm) (by rw[a0,a4];omega)
 rw[a0] at a2
 have b0:Go.Lib.byteCells (⟨l.toArray⟩:ByteArray).data.toList=l.map bv:=rfl
 rw[b0] at a2
 have h2:(execOp a.eval o).run P w=.ok (.value (V0 (l.length:Int))) (w.setRow g (a1.toList.take off++l.map bv++a1.toList.drop (off+l.length)).toArray):=by
  simp[execOp,ho,resolve,invoke,builtin,hd,hs,a2,Result.andThen,goInt]
 exact Hv h2 (b2 _ (setRow_heap w g _ _ e _ hh) ⟨rfl,rfl,rfl,by simp,fun k _ hk=>setRow_other w g k _ (fun e=>hk (by rw[e]))⟩)
theorem Sl.head{b:O0}{n c:Nat}{xs:List Value}(h:Sl w (.slice b n c) n xs)(hn:xs.length=n)(m:Nat)(hm:m≤n):Sl w (.slice b m c) m (xs.take m):=by
 rcases h with ⟨a',c',h1,h2,h3⟩|⟨b',a0,a2,h1,h2,h3,h4⟩
 ·obtain rfl:m=0:=by omega
  simp only[Value.slice.injEq] at h1
  exact .inl ⟨b,c,rfl,rfl,by simp⟩
 ·simp only[Value.slice.injEq] at h1
  obtain⟨rfl,_,rfl⟩:=h1
  refine .inr ⟨b',a0,c,rfl,by omega,h3,fun j x hj=>h4 j x ?_⟩
  have a1:j<m:=by have:=(List.getElem?_eq_some_iff.1 hj).1;simp at this;omega
  rwa [List.getElem?_take_of_lt a1] at hj
def sv (l:Bl):Value:=.string ⟨l.toArray⟩
theorem Strs.elem{b:O0}{n c:Nat}{V:List Bl}(h:Sl w (.slice b n c) n (V.map sv))(hl:V.length=n){k:Nat}(hk:k<n):b.isSome=true∧w.cell? (Xe b (k*1))=some (.string ⟨(V.getD k []).toArray⟩):=by
 rcases h with ⟨a',c',h1,h2,h3⟩|⟨b',a0,a1,h1,h2,h3,h4⟩
 ·omega
 ·simp only[Value.slice.injEq] at h1
  obtain⟨rfl,_,rfl⟩:=h1
  refine⟨rfl,?_⟩
  have:=h4 k (sv (V.getD k [])) (by simp[List.getD,List.getElem?_eq_getElem (show k<V.length by omega)])
  rw[Nat.mul_one]
  show w.cell? ((⟨b',a0,none⟩:Addr).add k)=_
  rw[Addr.add_mid]
  exact this
end
end Go.Proofs.YthhilbkandcbmaaGreatDoor
namespace Go.Proofs.YthhilbkandcbmaaGreatDoor
set_option maxHeartbeats 8000000
set_option maxRecDepth 100000
open Go.RowKit Go.Extern.Stop Go.Stop Go.Extern
set_option linter.unusedVariables false
section
variable {P:Program} {a:Act} {w:World} {K:Act→World→Prop} {Q:Exit→Act→World→Prop}
theorem Zc5(l:Bl):Lib.strCells ⟨l.toArray⟩=l.map bv:=by
 unfold Lib.strCells bv
 simp
theorem op_appS{o:Oper}{s x:Operand}{t u e:TypeId}{base:Nat}{v:Value}{n:Nat}{xs:List Value}(l:Bl)(n':Nat)(xs':List Value)(ho:o.op=.call { callee:=.builtin .append,args:=#[s,x],argTypes:=#[t,u] })
 (ht:P.underlying t=some (.slice e)) (hu:P.underlying u=some .string) (hi:(P.info? e).map (fun i=>(i.zero,i.size,i.bytes))=some (some (.int .u8 0),1,1)) (hs:a.eval s=v) (hown:w.ownsRow base e 1 v n xs) (hx:a.eval x=.string ⟨l.toArray⟩)
 (hb:n+l.length≤100000000) (hbase:base≤w.heap.size) (hn:n+l.length=n') (hxs:xs++l.map bv=xs')
 (h:∀ b c W,W.ownsRow base e 1 (.slice b n' c) n' xs'→w.grownBy W v.ownBlock→Below base w W→K (a.put o.dst (.slice b n' c)) W):o.wp P a w K Q:=by
 cases hq:P.info? e with
 | none=>simp[hq] at hi
 | some i =>
  simp only[hq,Option.map_some,Option.some.injEq,Prod.mk.injEq] at hi
  have a0:(⟨l.toArray⟩:ByteArray).size=l.length:=by simp[ByteArray.size]
  obtain⟨v',W,hr,h2,h3,_⟩:=Lib.run_append_own_string (P:=P) w base t u o.type e i ht hu hq hi.1 hi.2.1 hi.2.2 v n xs hown ⟨l.toArray⟩ (by rw[a0];unfold maxLen;omega) (by rw[a0];omega) hbase
  rw[a0,Zc5] at h2
  subst hn hxs
  obtain⟨b,c,rfl⟩:=(Zd h2).slice
  unfold Oper.wp execOp
  simp only[ho,resolve,invoke,builtin,Sem.run_bind,Sem.run_pure,Result.andThen_ok,List.map_toArray,List.map_cons,List.map_nil,hs,hx,hr]
  exact h b c W h2 h3 (Qk h3 hown (Nat.le_refl _) hbase)
theorem Zal(g k:Nat):Xe (S1 g) (k*1)=⟨g,k,none⟩:=by
 simp[Xe,Addr.add];exact fun h=>h.symm
theorem Gv{o:Oper}{t e:TypeId}{x y:Operand}{g n c k base:Nat}{xs:List Value}{v:Value}(ho:o.op=.store t x y)(hx:a.eval x=.pointer (some (Xe (S1 g) (k*1))))(hy:a.eval y=v)
 (hi:(P.info? t).map (·.size)=some 1) (h1:v.oneCell'=true) (hown:w.ownsRow base e 1 (.slice (S1 g) n c) n xs) (hk:k<n)
 (h:∀ W,Upd w g W→W.ownsRow base e 1 (.slice (S1 g) n c) n (xs.set k v)→K (a.put o.dst undef) W):o.wp P a w K Q:=by
 obtain⟨hl,h2⟩:=hown
 rcases h2 with ⟨h2,_⟩|⟨g',a3,a0,hv,hg,hh,hc,hm,a2,a1⟩
 ·cases h2
 ·simp only[Value.slice.injEq,Option.some.injEq,Addr.mk.injEq] at hv
  obtain⟨⟨rfl,_⟩,_,rfl⟩:=hv
  have hb:Blk w g a0.toList e:=by unfold Blk;simpa using hh
  rw[Zal] at hx
  refine Kg ho hx hy hi h1 hb (by simp;omega) fun W hu hW=>h W hu ⟨by simpa using hl,.inr ⟨g,c,(a0.toList.set k v).toArray,rfl,hg,hW,hc,hm,by simpa using a2,?_⟩⟩
  rw[←a1]
  simp[List.take_set]
end
section
variable {P:Program} {ops:Array Oper} {Q:Exit→Act→World→Prop} {a a':Act} {w:World} {S:World→Prop} {md:Region.Mode} {L L':Array Bool} {fuel:Nat}
end
theorem Bw{w:World}{base e size g n c:Nat}{xs:List Value}(h:w.ownsRow base e size (.slice (S1 g) n c) n xs):base≤g:=(h.lt g rfl).1
theorem En{w:World}{base e size g n c:Nat}{xs:List Value}(h:w.ownsRow base e size (.slice (S1 g) n c) n xs):∃ cs,Blk w g cs e:=by
 rcases h.2 with ⟨h2,_⟩|⟨g',a1,a0,hv,hg,hh,_⟩
 ·cases h2
 ·simp only[Value.slice.injEq,Option.some.injEq,Addr.mk.injEq] at hv
  obtain⟨⟨rfl,_⟩,_⟩:=hv
  exact⟨a0.toList,by unfold Blk;simpa using hh⟩
theorem Be{w:World}{base e size g n c b:Nat}{t:TypeId}{xs cs:List Value}(k:Blk w b cs t)(h:w.ownsRow base e size (.slice (S1 g) n c) n xs)(hne:t≠e):b≠g:=by
 rintro rfl
 obtain⟨a0,k'⟩:=En h
 have h1:w.heap[b]? = some (.cells cs.toArray t (0,0)):=k
 rw[show w.heap[b]? = some (.cells a0.toArray e (0,0)) from k'] at h1
 simp only[Option.some.injEq,Obj.cells.injEq] at h1
 exact hne h1.2.1.symm
theorem Zg.of_updRow{T:List TypeId}{w W:World}{base e size g n c:Nat}{xs:List Value}(u:Upd w g W)(h:w.ownsRow base e size (.slice (S1 g) n c) n xs)(hT:T.contains e=true):Zg T w W:=by
 obtain⟨cs,k⟩:=En h
 exact Zg.of_upd u k hT
theorem Upd.ownRow{w W:World}{base base2 e e2 size size2 g n c n2:Nat}{v:Value}{xs ys:List Value}(u:Upd w g W)(h:w.ownsRow base2 e2 size2 v n2 ys)(o:w.ownsRow base e size (.slice (S1 g) n c) n xs)(hne:e2≠e):W.ownsRow base2 e2 size2 v n2 ys:=by
 obtain⟨cs,k⟩:=En o
 exact u.own2 h k hne
end Go.Proofs.YthhilbkandcbmaaGreatDoor
namespace Go.Proofs.YthhilbkandcbmaaGreatDoor
set_option maxHeartbeats 8000000
set_option maxRecDepth 100000
open Go.RowKit Go.Extern.Stop Go.Stop Go.Extern
set_option linter.unusedVariables false
attribute [local irreducible] wpList wpAnyH Code.wp Oper.wp Go
theorem step1_xor(a b:Nat):Hy (a ^^^ b)=Hy a ^^^ Hy b:=by
 have e:∀ r,Hy r=(r/2) ^^^ (if r%2=1 then 2197175160 else 0):=fun r=>by unfold Hy;split<;>simp
 rw[e,e,e,Nat.xor_div_two]
 have hp:=Nat.xor_mod_two_eq_one (a:=a) (b:=b)
 by_cases h1:a%2=1<;>by_cases h2:b%2=1
 ·rw[if_neg (by rw[hp];simp[h1,h2]),if_pos h1,if_pos h2,Nat.xor_zero]
  rw[show a/2 ^^^ 2197175160 ^^^ (b/2 ^^^ 2197175160)=a/2 ^^^ b/2 ^^^ (2197175160 ^^^ 2197175160) by ac_rfl];simp
 ·rw[if_pos (by rw[hp];simp[h1,h2]),if_pos h1,if_neg h2,Nat.xor_zero];ac_rfl
 ·rw[if_pos (by rw[hp];simp[h1,h2]),if_neg h1,if_pos h2,Nat.xor_zero];ac_rfl
 ·rw[if_neg (by rw[hp];simp[h1,h2]),if_neg h1,if_neg h2,Nat.xor_zero,Nat.xor_zero,Nat.xor_zero]
theorem stepN_xor(n a b:Nat):Xs n (a ^^^ b)=Xs n a ^^^ Xs n b:=by
 induction n with
 | zero=>rfl
 | succ n ih=>rw[Xs,ih,step1_xor];rfl
theorem Wy(q:Nat):Hy (2*q)=q:=by unfold Hy;rw[if_neg (by omega)];omega
theorem stepN_16(q:Nat):Xs 4 (16*q)=q:=by
 show Hy (Hy (Hy (Hy (16*q))))=q
 rw[show 16*q=2*(2*(2*(2*q))) by omega,Wy,Wy,Wy,Wy]
theorem split16(r:Nat):r=(16*(r/16)) ^^^ (r%16):=by
 apply Nat.eq_of_testBit_eq
 intro i
 rw[Nat.testBit_xor,show 16*(r/16)=2 ^ 4*(r/2 ^ 4) from rfl,Nat.testBit_two_pow_mul,Nat.testBit_div_two_pow,show r%16=r%2 ^ 4 from rfl,Nat.testBit_mod_two_pow]
 by_cases h:4≤i
 ·rw[show i-4+4=i by omega,show decide (i≥4)=true from decide_eq_true h,show decide (i<4)=false from decide_eq_false (by omega)];simp
 ·rw[show decide (i≥4)=false from decide_eq_false h,show decide (i<4)=true from decide_eq_true (by omega)];simp
theorem stepN_4(r:Nat):Xs 4 r=(r/16) ^^^ Py (r%16):=by
 conv=>lhs;rw[split16 r]
 rw[stepN_xor,stepN_16];rfl
theorem stepN_add(m n r:Nat):Xs (m+n) r=Xs m (Xs n r):=by
 induction m with
 | zero=>simp[Xs]
 | succ m ih=>rw[Nat.succ_add,Xs,ih];rfl
theorem crcStep_8(r:Nat)(x:UInt8):Th r x=Xs 8 (r ^^^ x.toNat):=by
 show _=Xs (4+4) (r ^^^ x.toNat)
 rw[stepN_add,stepN_4,stepN_4];rfl
theorem step1_odd{r:Nat}(h:r%2=1):Hy r=(r/2) ^^^ 2197175160:=if_pos h
theorem step1_ev{r:Nat}(h:¬ r%2=1):Hy r=r/2:=if_neg h
theorem ref_Step(r:Nat)(w:World)(hr:r<4294967296) :
 C0 201 #[V0 (r:Int)] w (Ret (V0 (Xs 8 r:Int)) w):=by
 refine zin 18 Tryz.func201 ?_
 have hB:=Below.refl w.heap.size w
 refine zl 12 18 (fun zm a3 V=>∃ (j:Nat),a3=[(0,V0 (↑(Xs j r):Int)),(2,V0 0),(3,V0 (j:Int))]∧zm=8-((j:Int)).toNat∧B3 w V∧j≤8) ⟨0,rfl,rfl,hB,by decide⟩ ?_
 rintro _ _ W1 ⟨j,rfl,rfl,a0,hj⟩ J1 a1 r1
 refine xid 7 ((j:Int)<(8:Int)) (fun a2=>?_) (fun a2=>?_)
 ·refine xq 7 (congrArg V0 (show(Int.tmod (↑(Xs j r):Int) 2:Int)=(↑((Xs j r)%2):Int) from Fk (Xs j r) 2)) ?_
  refine xq 7 (congrArg V0 (show(IntKind.i64.wrap (Int.tdiv (↑(Xs j r):Int) 2):Int)=(↑((Xs j r)/2):Int) from Wh (Xs j r) 2 (by have:=Df (j:=j) hr;omega) (by decide))) ?_
  refine xie 8 (↑((Xs j r)%2):Int) (1:Int) (fun a4=>?_) (fun a4=>?_)
  ·refine xq 2 (congrArg V0 (show(IntKind.i64.wrap (↑(BitVec.ofInt 64 (↑((Xs j r)/2):Int) ^^^ BitVec.ofInt 64 (2197175160:Int)).toNat:Int):Int)=(↑(((Xs j r)/2) ^^^ 2197175160):Int) from Fa (a:=(Xs j r)/2) (b:=2197175160) (by have:=Df (j:=j) hr;omega) (by decide))) ?_
   refine xwm 6 ((j:Int)+1) (↑(j+1):Int) ?_
   refine xv1 2 0 (show(V0 (↑(((Xs j r)/2) ^^^ 2197175160):Int):Value)=V0 (↑(Xs (j+1) r):Int) from by rw[show Xs (j+1) r=Hy (Xs j r) from rfl,step1_odd (by omega)]) ?_
   exact ze 0 (a1 _ _ _ ⟨j+1,rfl,rfl,a0,by omega⟩ (by omega))
  refine xwm 5 ((j:Int)+1) (↑(j+1):Int) ?_
  refine xv1 2 0 (show(V0 (↑((Xs j r)/2):Int):Value)=V0 (↑(Xs (j+1) r):Int) from by rw[show Xs (j+1) r=Hy (Xs j r) from rfl,step1_ev (by omega)]) ?_
  exact ze 0 (a1 _ _ _ ⟨j+1,rfl,rfl,a0,by omega⟩ (by omega))
 refine xe 12 (V0 (↑(Xs j r):Int)) ?_
 obtain rfl:j=8:=by omega
 exact⟨rfl,a0⟩
theorem ref_More(a:O0)(c:Nat)(l:Bl)(w:World)(hl:l.length≤100000000)(h:Bys w (.slice a l.length c) l) :
 C0 190 #[V0 0,.slice a l.length c] w (Ret (V0 (He l:Int)) w):=by
 refine zin 31 Tryz.func190 ?_
 have hB:=Below.refl w.heap.size w
 refine zl 33 31 (fun zm a5 V=>∃ (i:Nat),a5=[(1,.slice a l.length c),(4,V0 0),(5,V0 (↑(Xb 4294967295 (l.take i)):Int)),(6,V0 (i:Int))]∧zm=l.length-((i:Int)).toNat∧B3 w V∧i≤l.length) ⟨0,rfl,rfl,hB,Nat.zero_le _⟩ ?_
 rintro _ _ W1 ⟨i,rfl,rfl,a0,hi⟩ J1 a4 r1
 refine xid 9 ((i:Int)<(l.length:Int)) (fun a2=>?_) (fun a2=>?_)
 ·refine xx 8 _ l.length i 1 (Bys.elem h (k:=i) (by omega)).1 ?_
  refine xl 0 ((Bys.elem (h.below a0) (k:=i) (by omega)).2) ?_
  refine xq 0 (congrArg V0 (show(IntKind.i64.wrap (↑(l.getD i 0).toNat:Int):Int)=(↑(l.getD i 0).toNat:Int) from Jt (by have:=(l.getD i 0).toNat_lt;omega))) ?_
  refine xq 0 (congrArg V0 (show(IntKind.i64.wrap (↑(BitVec.ofInt 64 (↑(Xb 4294967295 (l.take i)):Int) ^^^ BitVec.ofInt 64 (↑(l.getD i 0).toNat:Int)).toNat:Int):Int)=(↑((Xb 4294967295 (l.take i)) ^^^ (l.getD i 0).toNat):Int) from Fa (Gb (by decide) _) (Zf6 _))) ?_
  refine xr 0 (args:=#[V0 (↑((Xb 4294967295 (l.take i)) ^^^ (l.getD i 0).toNat):Int)]) (ref_Step ((Xb 4294967295 (l.take i)) ^^^ (l.getD i 0).toNat) _ (Nat.xor_lt_two_pow (n:=32) (Gb (by decide) _) (Zf6 _))) fun W3 a3=>?_
  refine xwm 6 ((i:Int)+1) (↑(i+1):Int) ?_
  refine xv1 2 5 (show(V0 (↑(Xs 8 ((Xb 4294967295 (l.take i)) ^^^ (l.getD i 0).toNat)):Int):Value)=V0 (↑(Xb 4294967295 (l.take (i+1))):Int) from by rw[Fx (by omega),crcStep_8]) ?_
  have a1:=bln a0 a3
  exact ze 0 (a4 _ _ _ ⟨i+1,rfl,rfl,a1,by omega⟩ (by omega))
 refine xq 8 (congrArg V0 (show(IntKind.i64.wrap (↑(BitVec.ofInt 64 (↑(Xb 4294967295 (l.take i)):Int) ^^^ BitVec.ofInt 64 (4294967295:Int)).toNat:Int):Int)=(↑((Xb 4294967295 (l.take i)) ^^^ 4294967295):Int) from Fa (b:=4294967295) (Gb (by decide) _) (by decide))) ?_
 refine xe 4 (V0 (↑((Xb 4294967295 (l.take i)) ^^^ 4294967295):Int)) ?_
 obtain rfl:i=l.length:=by omega
 rw[List.take_length]
 exact⟨rfl,a0⟩
theorem ref_Sum(a:O0)(c:Nat)(l:Bl)(w:World)(hl:l.length≤100000000)(h:Bys w (.slice a l.length c) l) :
 C0 146 #[.slice a l.length c] w (Ret (V0 (He l:Int)) w):=by
 refine zin 5 Tryz.func146 ?_
 refine xr 8 (args:=#[V0 0,.slice a l.length c]) (ref_More a c l _ hl (h.below (B4 w))) fun W1 a0=>?_
 exact xe 4 (V0 (↑(He l):Int)) ⟨rfl,a0⟩
theorem ref_SumN(a:O0)(n c:Nat)(l:Bl)(w:World)(hn:l.length=n)(hl:n≤100000000)(h:Bys w (.slice a n c) l):C0 146 #[.slice a n c] w (Ret (V0 (He l:Int)) w):=by
 subst hn;exact ref_Sum a c l w hl h
theorem leB_snoc(n:Int)(w:Nat):leB n (w+1)=leB n w++[Zt n w]:=by simp[leB,List.range_succ]
theorem u8_byteAt(m i:Nat):IntKind.u8.wrap (((m/256 ^ i)%256:Nat):Int)=((Zt (m:Int) i).toNat:Int):=by
 rw[Oy (Int.natCast_nonneg _)]
 unfold Zt
 simp only[Int.toNat_natCast,Nat.pow_zero,Nat.div_one]
 congr 2
 apply UInt8.toNat_inj.1
 simp[UInt8.toNat_ofNat']
theorem ref_Bytes(m w:Nat)(W:World)(hm:m<9223372036854775808)(hw:w≤8) :
 C0 145 #[V0 (m:Int),V0 (w:Int)] W (Qd (fun W' r=>∃ p c,r=.slice p w c∧W'.ownsRow W.heap.size 5 1 (.slice p w c) w ((leB (m:Int) w).map bv)) W):=by
 refine zin 21 Tryz.func145 ?_
 refine xv1 17 0 (show(V0 (m:Int):Value)=V0 ((m/256 ^ 0:Nat):Int) from by rw[Nat.pow_zero,Nat.div_one]) ?_
 have hB:=Below.refl W.heap.size W
 refine zl 0 21 (fun zm a7 V=>∃ (i:Nat) (p:O0) (c:Nat),a7=[(0,V0 (↑(m/256 ^ i):Int)),(1,V0 (w:Int)),(4,S0),(5,.slice p i c),(6,V0 (i:Int))]∧zm=w-((i:Int)).toNat∧B3 W V∧V.ownsRow W.heap.size 5 1 (.slice p i c) i ((leB (m:Int) i).map bv)∧i≤w) ⟨0,_,_,rfl,rfl,hB,World.ownsRow_nil _ _ _ _,Nat.zero_le _⟩ ?_
 rintro _ _ W1 ⟨i,p,c,rfl,rfl,a0,ho,hi⟩ J1 a6 r1
 refine xid 8 ((i:Int)<(w:Int)) (fun a5=>?_) (fun a5=>?_)
 ·refine xq 8 (congrArg V0 (show(Int.tmod (↑(m/256 ^ i):Int) 256:Int)=(↑((m/256 ^ i)%256):Int) from Fk (m/256 ^ i) 256)) ?_
  refine xq 0 (congrArg (Value.int .u8) (show(IntKind.u8.wrap (↑((m/256 ^ i)%256):Int):Int)=(↑(Zt (m:Int) i).toNat:Int) from u8_byteAt m i)) ?_
  refine xbs 0 1 [.int .u8 (↑(Zt (m:Int) i).toNat:Int)] 5 fun b3 W3 n3=>?_
  have g3:=n3.ge a0
  have a4:=Xa ho n3
  have a3:=Zb ho n3.below
  have a1:=bln a0 n3.below
  refine xbi 0 fun _ _ _ _ zJ zQ zo zx zy zK=>Zo (m:=1) (news:=[.int .u8 (↑(Zt (m:Int) i).toNat:Int)]) (.int .u8 0) 1 1 (i+1) ((leB (m:Int) (i+1)).map bv) zo Tryz.underlying22 (by kernel_rfl) rfl (by decide) zx a3 zy (n3.blk.sl 1 1 (by decide) (by decide)) rfl (by simp[Value.oneCell']) (by unfold maxLen;omega) (by omega) a1.size (by rfl) (by rw[leB_snoc,List.map_append];rfl) fun b0 a9 W4 o4 b1 a8=>?_
  refine zK _ _ ?_
  refine xq 5 (congrArg V0 (show(IntKind.i64.wrap (Int.tdiv (↑(m/256 ^ i):Int) 256):Int)=(↑((m/256 ^ i)/256):Int) from Wh (m/256 ^ i) 256 (Nat.lt_of_le_of_lt (Nat.div_le_self _ _) hm) (by decide))) ?_
  refine xwm 6 ((i:Int)+1) (↑(i+1):Int) ?_
  refine xv1 2 0 (show(V0 (↑((m/256 ^ i)/256):Int):Value)=V0 (↑(m/256 ^ (i+1)):Int) from by rw[Nat.pow_succ,←Nat.div_div_eq_div_mul]) ?_
  have a2:=a1.trans a8
  exact ze 0 (a6 _ _ _ ⟨i+1,_,_,rfl,rfl,a2,o4,by omega⟩ (by omega))
 refine xe 12 (.slice p i c) ?_
 obtain rfl:i=w:=by omega
 exact⟨_,rfl,a0,_,_,rfl,ho⟩
theorem Zf2(n:Int)(w:Nat)(wi:Int)(W:World)(h0:0≤n)(hn:n<9223372036854775808)(hwi:wi=(w:Int))(hw:w≤8):C0 145 #[V0 n,V0 wi] W (Qd (fun W' r=>∃ p c,r=.slice p w c∧W'.ownsRow W.heap.size 5 1 (.slice p w c) w ((leB n w).map bv)) W):=by
 subst hwi
 obtain⟨m,rfl⟩:∃ m:Nat,n=m:=⟨n.toNat,by omega⟩
 exact ref_Bytes m w W (by omega) hw
theorem ref_Salt1(w:World) :
 C0 147 #[V0 1] w (Ret (V0 (Pb 1:Int)) w):=by
 refine zin 15 Tryz.func147 ?_
 refine xbs 7 5 [V0 0,V0 160774,V0 121107,V0 240779,V0 160478] 3 fun b1 W1 n1=>?_
 refine xb 22 1 n1.blk ?_
 exact xe 4 (V0 160774) ⟨rfl,n1.below⟩
theorem ref_Salt2(w:World) :
 C0 147 #[V0 2] w (Ret (V0 (Pb 2:Int)) w):=by
 refine zin 15 Tryz.func147 ?_
 refine xbs 7 5 [V0 0,V0 160774,V0 121107,V0 240779,V0 160478] 3 fun b1 W1 n1=>?_
 refine xb 22 2 n1.blk ?_
 exact xe 4 (V0 121107) ⟨rfl,n1.below⟩
theorem ref_Salt3(w:World) :
 C0 147 #[V0 3] w (Ret (V0 (Pb 3:Int)) w):=by
 refine zin 15 Tryz.func147 ?_
 refine xbs 7 5 [V0 0,V0 160774,V0 121107,V0 240779,V0 160478] 3 fun b1 W1 n1=>?_
 refine xb 22 3 n1.blk ?_
 exact xe 4 (V0 240779) ⟨rfl,n1.below⟩
theorem ref_Salt4(w:World) :
 C0 147 #[V0 4] w (Ret (V0 (Pb 4:Int)) w):=by
 refine zin 15 Tryz.func147 ?_
 refine xbs 7 5 [V0 0,V0 160774,V0 121107,V0 240779,V0 160478] 3 fun b1 W1 n1=>?_
 refine xb 22 4 n1.blk ?_
 exact xe 4 (V0 160478) ⟨rfl,n1.below⟩
theorem ref_Salt(kind:Int)(h1:1≤kind)(h2:kind≤4)(w:World):C0 147 #[V0 kind] w (Ret (V0 (Pb kind:Int)) w):=by
 obtain rfl|rfl|rfl|rfl:kind=1∨kind=2∨kind=3∨kind=4:=by omega
 ·exact ref_Salt1 w
 ·exact ref_Salt2 w
 ·exact ref_Salt3 w
 ·exact ref_Salt4 w
theorem Zax(kind no:Int)(w:World) :
 C0 144 #[V0 kind,V0 no] w (Ret (.bool (Vz kind no)) w):=by
 refine zin 19 Tryz.func144 ?_
 refine xg 10 [6,7] (decide (kind≥(1:Int))) (fun a1=>?_) (fun a1=>?_)
 ·have a1:=of_decide_eq_true a1
  refine xg 4 [9,10,11] (decide (kind≤(4:Int))) (fun a0=>?_) (fun a0=>?_)
  ·have a0:=of_decide_eq_true a0
   refine xg 4 [13,14,15] (decide (no≥(0:Int))) (fun a2=>?_) (fun a2=>?_)
   ·have a2:=of_decide_eq_true a2
    exact xe 7 (.bool (decide (no<(14400:Int)))) ⟨by rw[show Vz kind no=decide (no<14400) from decide_eq_decide.2 ⟨fun h=>h.2.2.2,fun h=>⟨by omega,by omega,by omega,h⟩⟩],(B4 w)⟩
   have a2:=of_decide_eq_false a2
   exact xe 7 (.bool false) ⟨by rw[show Vz kind no=false from decide_eq_false (by omega)],(B4 w)⟩
  have a0:=of_decide_eq_false a0
  exact xe 11 (.bool false) ⟨by rw[show Vz kind no=false from decide_eq_false (by omega)],(B4 w)⟩
 have a1:=of_decide_eq_false a1
 exact xe 15 (.bool false) ⟨by rw[show Vz kind no=false from decide_eq_false (by omega)],(B4 w)⟩
theorem rawN_hi(l:Bl):∀ (j k r:Nat),Zh l (k+j) r≤Zh l k (j+r)
 | 0,k,r=>by simp
 | j+1,k,r=>by
  have ih:=rawN_hi l j (k+1) r
  rw[show j+1+r=(j+r)+1 by omega,Zh,show k+(j+1)=k+1+j by omega]
  omega
theorem raw8(l:Bl)(k:Nat):Zh l k 8<9223372036854775808↔(l.getD (k+7) 0).toNat<128:=by
 have h:∀ i,(l.getD i 0).toNat<256:=fun i=>(l.getD i 0).toNat_lt
 have h0:=h k
 have h1:=h (k+1)
 have h2:=h (k+2)
 have h3:=h (k+3)
 have h4:=h (k+4)
 have h5:=h (k+5)
 have h6:=h (k+6)
 have h7:=h (k+7)
 simp only[Zh,Nat.add_assoc,Nat.reduceAdd]
 omega
theorem Zao{l:Bl}{k w j r:Nat}(h:Zh l k w<9223372036854775808)(hj:0<j)(e:j+r=w):(l.getD (k+(j-1)) 0).toNat+256*Zh l (k+j) r<9223372036854775808∧Zh l (k+(j-1)) (r+1)=Zh l (k+j) r*256+(l.getD (k+(j-1)) 0).toNat:=by
 have h1:=rawN_hi l (j-1) k (r+1)
 rw[show j-1+(r+1)=w by omega,Zh,show k+(j-1)+1=k+j by omega] at h1
 refine⟨by omega,?_⟩
 rw[Zh,show k+(j-1)+1=k+j by omega];omega
theorem ref_width1(w:World) :
 C0 186 #[V0 1] w (Ret (.bool true) w):=by
 refine zin 17 Tryz.func186 ?_
 exact xe 25 (.bool true) ⟨rfl,(B4 w)⟩
theorem Zgx(w:World) :
 C0 186 #[V0 2] w (Ret (.bool true) w):=by
 refine zin 17 Tryz.func186 ?_
 exact xe 25 (.bool true) ⟨rfl,(B4 w)⟩
theorem Zfb(w:World) :
 C0 186 #[V0 4] w (Ret (.bool true) w):=by
 refine zin 17 Tryz.func186 ?_
 exact xe 25 (.bool true) ⟨rfl,(B4 w)⟩
theorem Zhg(w:World) :
 C0 186 #[V0 8] w (Ret (.bool true) w):=by
 refine zin 17 Tryz.func186 ?_
 exact xe 25 (.bool true) ⟨rfl,(B4 w)⟩
theorem ref_width(k:Nat)(hw:k=1∨k=2∨k=4∨k=8)(w:World):C0 186 #[V0 (k:Int)] w (Ret (.bool true) w):=by
 rcases hw with rfl|rfl|rfl|rfl
 ·exact ref_width1 w
 ·exact Zgx w
 ·exact Zfb w
 ·exact Zhg w
theorem Zdl(a:O0)(m c k w:Nat)(W:World)(hw:w=1∨w=2∨w=4∨w=8)(hk:k+w≤m)(hm:m≤100000000) :
 C0 131 #[.slice a m c,V0 (k:Int),V0 (w:Int)] W (Ret (V0 0) W):=by
 refine zin 26 Tryz.func131 ?_
 refine xr 9 (args:=#[V0 (w:Int)]) (ref_width w hw _) fun W1 a0=>?_
 refine xgk 12 [11,12] (show(decide ((k:Int)<(0:Int)):Bool)=false from decide_eq_false (by omega)) ?_
 refine xgk 6 [16,17,18] (show(decide ((k:Int)>(m:Int)):Bool)=false from decide_eq_false (by omega)) ?_
 refine xwm 3 ((m:Int)-(k:Int)) (↑(m-k):Int) ?_
 refine xk 5 (show(decide ((↑(m-k):Int)<(w:Int)):Bool)=false from decide_eq_false (by omega)) ?_
 exact xe 8 (V0 0) ⟨rfl,a0⟩
theorem Ng(a:O0)(c k w:Nat)(l:Bl)(W:World)(hw:w=1∨w=2∨w=4∨w=8)(hk:k+w≤l.length)(hl:l.length≤100000000)(h:Bys W (.slice a l.length c) l)(hq:¬ Zh l k w<9223372036854775808) :
 C0 72 #[.slice a l.length c,V0 (k:Int),V0 (w:Int)] W (Ret (.tuple #[V0 0,V0 2]) W):=by
 have a1:w=8:=by
  rcases hw with h1|h1|h1|h1
  ·have:=Yg l k w (by omega);omega
  ·have:=Yg l k w (by omega);omega
  ·have:=Yg l k w (by omega);omega
  ·exact h1
 have a2:=(not_congr (raw8 l k)).1 (by rw[←a1];exact hq)
 refine zin 45 Tryz.func72 ?_
 refine xr 11 (args:=#[.slice a l.length c,V0 (k:Int),V0 (w:Int)]) (Zdl a l.length c k w _ hw hk hl) fun W1 a0=>?_
 refine xgk 19 [19,20] (show(((w:Int)==(8:Int)):Bool)=true from by rw[a1];rfl) ?_
 refine xwm 2 ((k:Int)+7) (↑(k+7):Int) ?_
 refine xx 0 _ l.length (k+7) 1 (Bys.elem h (k:=(k+7)) (by omega)).1 ?_
 refine xl 0 ((Bys.elem (h.below a0) (k:=(k+7)) (by omega)).2) ?_
 refine xk 4 (show(decide ((↑(l.getD (k+7) 0).toNat:Int)≥(128:Int)):Bool)=true from decide_eq_true (by omega)) ?_
 exact xe 8 (.tuple #[V0 0,V0 2]) ⟨rfl,a0⟩
theorem Wl(a:O0)(c k w:Nat)(l:Bl)(W:World)(hw:w=1∨w=2∨w=4∨w=8)(hk:k+w≤l.length)(hl:l.length≤100000000)(h:Bys W (.slice a l.length c) l)(hq:Zh l k w<9223372036854775808) :
 C0 72 #[.slice a l.length c,V0 (k:Int),V0 (w:Int)] W (Ret (.tuple #[V0 (Zh l k w:Int),V0 0]) W):=by
 refine zin 45 Tryz.func72 ?_
 refine xr 11 (args:=#[.slice a l.length c,V0 (k:Int),V0 (w:Int)]) (Zdl a l.length c k w _ hw hk hl) fun W1 a4=>?_
 refine xg 19 [19,20] ((w:Int)==(8:Int)) (fun a2=>?_) (fun a2=>?_)
 ·have a2:=eq_of_beq a2
  refine xwm 2 ((k:Int)+7) (↑(k+7):Int) ?_
  refine xx 0 _ l.length (k+7) 1 (Bys.elem h (k:=(k+7)) (by omega)).1 ?_
  refine xl 0 ((Bys.elem (h.below a4) (k:=(k+7)) (by omega)).2) ?_
  refine xk 4 (show(decide ((↑(l.getD (k+7) 0).toNat:Int)≥(128:Int)):Bool)=false from decide_eq_false (by have:=(raw8 l k).1 (by rw[←show w=8 by omega];exact hq);omega)) ?_
  refine xwm 11 ((w:Int)-1) (↑(w-1):Int) ?_
  refine xv1 4 10 (show(V0 (↑(w-1):Int):Value)=V0 ((w:Int)-1) from congrArg V0 (by omega)) ?_
  refine zl 0 45 (fun zm a6 V=>∃ (j r:Nat),a6=[(0,.slice a l.length c),(1,V0 (k:Int)),(6,V0 0),(7,V0 0),(9,V0 (↑(Zh l (k+j) r):Int)),(10,V0 ((j:Int)-1))]∧zm=(((j:Int)-1)+1).toNat∧B3 W V∧j+r=w) ⟨w,0,rfl,rfl,a4,by omega⟩ ?_
  rintro _ _ W3 ⟨j,r,rfl,rfl,a0,a5⟩ J3 a9 r3
  have a3:0<j→_:=fun hj=>Zao hq hj a5
  refine xid 7 ((j:Int)-1≥(0:Int)) (fun a7=>?_) (fun a7=>?_)
  ·refine xwm 6 ((↑(Zh l (k+j) r):Int)*256) (↑((Zh l (k+j) r)*256):Int) ?_
   refine xq 3 (congrArg V0 (show IntKind.i64.wrap ((k:Int)+((j:Int)-1))=(↑(k+(j-1)):Int) from(show IntKind.i64.wrap ((k:Int)+((j:Int)-1))=((k:Int)+((j:Int)-1)) from by first|exact IntWalk.i64_in _ (by omega)|(simp only[IntKind.wrap];omega)).trans (by omega))) ?_
   refine xx 0 _ l.length (k+(j-1)) 1 (Bys.elem h (k:=(k+(j-1))) (by omega)).1 ?_
   refine xl 0 ((Bys.elem (h.below a0) (k:=(k+(j-1))) (by omega)).2) ?_
   refine xq 0 (congrArg V0 (show(IntKind.i64.wrap (↑(l.getD (k+(j-1)) 0).toNat:Int):Int)=(↑(l.getD (k+(j-1)) 0).toNat:Int) from Jt (by have:=(l.getD (k+(j-1)) 0).toNat_lt;omega))) ?_
   refine xw 0 ((↑((Zh l (k+j) r)*256):Int)+(↑(l.getD (k+(j-1)) 0).toNat:Int)) ?_
   refine xq 6 (congrArg V0 (show IntKind.i64.wrap ((j:Int)-1-1)=((↑(j-1:Nat):Int)-1) from(show IntKind.i64.wrap ((j:Int)-1-1)=((j:Int)-1-1) from by first|exact IntWalk.i64_in _ (by omega)|(simp only[IntKind.wrap];omega)).trans (by omega))) ?_
   refine xv1 2 9 (show(V0 ((↑((Zh l (k+j) r)*256):Int)+(↑(l.getD (k+(j-1)) 0).toNat:Int)):Value)=V0 (↑(Zh l (k+(j-1)) (r+1)):Int) from by rw[(a3 (by omega)).2];rfl) ?_
   exact ze 0 (a9 _ _ _ ⟨j-1,r+1,rfl,rfl,a0,by omega⟩ (by omega))
  refine xe 13 (.tuple #[V0 (↑(Zh l (k+j) r):Int),V0 0]) ?_
  rw[show Zh l (k+j) r=Zh l k w from by rw[show j=0 by omega,show r=w by omega];rfl];exact⟨rfl,a0⟩
 have a2:=Yf a2
 refine xwm 21 ((w:Int)-1) (↑(w-1):Int) ?_
 refine xv1 4 10 (show(V0 (↑(w-1):Int):Value)=V0 ((w:Int)-1) from congrArg V0 (by omega)) ?_
 refine zl 0 45 (fun zm a6 V=>∃ (j r:Nat),a6=[(0,.slice a l.length c),(1,V0 (k:Int)),(6,V0 0),(7,V0 0),(9,V0 (↑(Zh l (k+j) r):Int)),(10,V0 ((j:Int)-1))]∧zm=(((j:Int)-1)+1).toNat∧B3 W V∧j+r=w) ⟨w,0,rfl,rfl,a4,by omega⟩ ?_
 rintro _ _ W5 ⟨j,r,rfl,rfl,a1,a5⟩ J5 b0 r5
 have a3:0<j→_:=fun hj=>Zao hq hj a5
 refine xid 7 ((j:Int)-1≥(0:Int)) (fun a8=>?_) (fun a8=>?_)
 ·refine xwm 6 ((↑(Zh l (k+j) r):Int)*256) (↑((Zh l (k+j) r)*256):Int) ?_
  refine xq 3 (congrArg V0 (show IntKind.i64.wrap ((k:Int)+((j:Int)-1))=(↑(k+(j-1)):Int) from(show IntKind.i64.wrap ((k:Int)+((j:Int)-1))=((k:Int)+((j:Int)-1)) from by first|exact IntWalk.i64_in _ (by omega)|(simp only[IntKind.wrap];omega)).trans (by omega))) ?_
  refine xx 0 _ l.length (k+(j-1)) 1 (Bys.elem h (k:=(k+(j-1))) (by omega)).1 ?_
  refine xl 0 ((Bys.elem (h.below a1) (k:=(k+(j-1))) (by omega)).2) ?_
  refine xq 0 (congrArg V0 (show(IntKind.i64.wrap (↑(l.getD (k+(j-1)) 0).toNat:Int):Int)=(↑(l.getD (k+(j-1)) 0).toNat:Int) from Jt (by have:=(l.getD (k+(j-1)) 0).toNat_lt;omega))) ?_
  refine xw 0 ((↑((Zh l (k+j) r)*256):Int)+(↑(l.getD (k+(j-1)) 0).toNat:Int)) ?_
  refine xq 6 (congrArg V0 (show IntKind.i64.wrap ((j:Int)-1-1)=((↑(j-1:Nat):Int)-1) from(show IntKind.i64.wrap ((j:Int)-1-1)=((j:Int)-1-1) from by first|exact IntWalk.i64_in _ (by omega)|(simp only[IntKind.wrap];omega)).trans (by omega))) ?_
  refine xv1 2 9 (show(V0 ((↑((Zh l (k+j) r)*256):Int)+(↑(l.getD (k+(j-1)) 0).toNat:Int)):Value)=V0 (↑(Zh l (k+(j-1)) (r+1)):Int) from by rw[(a3 (by omega)).2];rfl) ?_
  exact ze 0 (b0 _ _ _ ⟨j-1,r+1,rfl,rfl,a1,by omega⟩ (by omega))
 refine xe 13 (.tuple #[V0 (↑(Zh l (k+j) r):Int),V0 0]) ?_
 rw[show Zh l (k+j) r=Zh l k w from by rw[show j=0 by omega,show r=w by omega];rfl];exact⟨rfl,a1⟩
theorem ref_Get(a:O0)(c k w:Nat)(l:Bl)(W:World)(hw:w=1∨w=2∨w=4∨w=8)(hk:k+w≤l.length)(hl:l.length≤100000000)(h:Bys W (.slice a l.length c) l) :
 C0 72 #[.slice a l.length c,V0 (k:Int),V0 (w:Int)] W (Ret (.tuple #[V0 (getV l k w),V0 (Zes l k w)]) W):=by
 by_cases hq:Zh l k w<9223372036854775808
 ·rw[Eu hq,Ti hq];exact Wl a c k w l W hw hk hl h hq
 ·rw[getV,Zes,if_neg hq,if_neg hq];exact Ng a c k w l W hw hk hl h hq
theorem Il(a:O0)(n c k w:Nat)(ki wi:Int)(l:Bl)(W:World)(hn:l.length=n)(hki:ki=(k:Int))(hwi:wi=(w:Int))(hw:w=1∨w=2∨w=4)(hk:k+w≤n)(hl:n≤100000000)(h:Bys W (.slice a n c) l) :
 C0 72 #[.slice a n c,V0 ki,V0 wi] W (Ret (.tuple #[V0 (Zh l k w:Int),V0 0]) W):=by
 subst hn hki hwi;exact Wl a c k w l W (by omega) hk hl h (by have:=Yg l k w (by omega);omega)
theorem Tn(a:O0)(c:Nat)(l:Bl)(aw:O0)(cw:Nat)(ws:List Nat)(W:World)(hk:∀ i,i<ws.length→ws.getD i 0=1∨ws.getD i 0=2∨ws.getD i 0=4∨ws.getD i 0=8)(hs:ws.sum≤l.length)(hl:l.length≤100000000)(hw:ws.length≤1000)(h:Bys W (.slice a l.length c) l)(hws:Sl W (.slice aw ws.length cw) ws.length (ws.map nv))(hq:∀ i,i<ws.length→(Jk l 0 ws).getD i 0<9223372036854775808) :
 C0 83 #[.slice a l.length c,.slice aw ws.length cw] W (Qd (fun w' r=>∃ p c,r=.tuple #[.slice p ws.length c,V0 0]∧w'.ownsRow W.heap.size 3 1 (.slice p ws.length c) ws.length ((Jk l 0 ws).map nv)) W):=by
 refine zin 41 Tryz.func83 ?_
 have hB:=Below.refl W.heap.size W
 refine zl 23 41 (fun zm b1 V=>∃ (i:Nat) (p:O0) (c2:Nat),b1=[(0,.slice a l.length c),(1,.slice aw ws.length cw),(6,.slice p i c2),(7,V0 (↑(ws.take i).sum:Int)),(8,V0 (i:Int))]∧zm=ws.length-((i:Int)).toNat∧B3 W V∧V.ownsRow W.heap.size 3 1 (.slice p i c2) i ((Jk l 0 (ws.take i)).map nv)∧i≤ws.length) ⟨0,_,_,rfl,rfl,hB,World.ownsRow_nil _ _ _ _,Nat.zero_le _⟩ ?_
 rintro _ _ W1 ⟨i,p,c2,rfl,rfl,a0,ho,hi⟩ J1 b0 r1
 have b3:i<ws.length→(ws.take i).sum+ws.getD i 0≤ws.sum:=Px
 have a8:i<ws.length→(Jk l 0 ws).getD i 0=Zh l (ws.take i).sum (ws.getD i 0):=fun h=>by rw[Nq l ws 0 i h,Nat.zero_add]
 refine xid 9 ((i:Int)<(ws.length:Int)) (fun a9=>?_) (fun a9=>?_)
 ·refine xx 10 _ ws.length i 1 (Zl hws rfl (k:=i) (by omega)).1 ?_
  refine xl 0 ((Zl (hws.below a0) rfl (k:=i) (by omega)).2) ?_
  refine xr 0 (args:=#[.slice a l.length c,V0 (↑(ws.take i).sum:Int),V0 (↑(ws.getD i 0):Int)]) (ref_Get a c (ws.take i).sum (ws.getD i 0) l _ (hk i (by omega)) (by omega) hl (h.below a0)) fun W3 a6=>?_
  refine xk 14 (show(((Zes l (ws.take i).sum (ws.getD i 0)) != (0:Int)):Bool)=false from by rw[Ti (by rw[←a8 (by omega)];exact hq i (by omega))];rfl) ?_
  refine xbs 6 1 [V0 (getV l (ws.take i).sum (ws.getD i 0))] 3 fun b4 W4 n4=>?_
  have a4:=bln a0 a6
  have g4:=n4.ge a4
  have a2:=Zb ho a6
  have a7:=Xa a2 n4
  have a5:=Zb a2 n4.below
  have a1:=bln a4 n4.below
  refine xbi 0 fun _ _ _ _ zJ zQ zo zx zy zK=>Zo (m:=1) (news:=[V0 (getV l (ws.take i).sum (ws.getD i 0))]) (V0 0) 1 8 (i+1) ((Jk l 0 (ws.take (i+1))).map nv) zo Tryz.underlying28 (by kernel_rfl) rfl (by decide) zx a5 zy (n4.blk.sl 1 1 (by decide) (by decide)) rfl (by simp[Value.oneCell']) (by unfold maxLen;omega) (by omega) a1.size (by rfl) (by rw[Gg (by omega),Wa,Nat.zero_add,List.map_append];simp only[List.map_cons,List.map_nil,nv];rw[Eu (by rw[←a8 (by omega)];exact hq i (by omega))]) fun b7 b6 W5 o5 b5 b2=>?_
  refine zK _ _ ?_
  refine xx 7 _ ws.length i 1 (Zl hws rfl (k:=i) (by omega)).1 ?_
  have a3:=a1.trans b2
  refine xl 0 ((Zl (hws.below a3) rfl (k:=i) (by omega)).2) ?_
  refine xwm 0 ((↑(ws.take i).sum:Int)+(↑(ws.getD i 0):Int)) (↑((ws.take i).sum+(ws.getD i 0)):Int) ?_
  refine xwm 6 ((i:Int)+1) (↑(i+1):Int) ?_
  refine xv1 2 7 (show(V0 (↑((ws.take i).sum+(ws.getD i 0)):Int):Value)=V0 (↑(ws.take (i+1)).sum:Int) from by rw[Gg (by omega),List.sum_append];simp) ?_
  exact ze 0 (b0 _ _ _ ⟨i+1,_,_,rfl,rfl,a3,o5,by omega⟩ (by omega))
 refine xe 13 (.tuple #[.slice p i c2,V0 0]) ?_
 obtain rfl:i=ws.length:=by omega
 rw[List.take_length] at ho
 exact⟨_,rfl,a0,_,_,rfl,ho⟩
theorem Ev(a:O0)(n c:Nat)(l:Bl)(aw:O0)(cw m:Nat)(ws:List Nat)(xs:List Nat)(W:World)(hn:l.length=n)(hm:ws.length=m)(hx:Jk l 0 ws=xs)(hk:∀ i,i<ws.length→ws.getD i 0=1∨ws.getD i 0=2∨ws.getD i 0=4∨ws.getD i 0=8)(hs:ws.sum≤n)(hl:n≤100000000)(hw:ws.length≤1000)(h:Bys W (.slice a n c) l)(hws:Sl W (.slice aw m cw) m (ws.map nv))(hq:∀ i,i<ws.length→(Jk l 0 ws).getD i 0<9223372036854775808) :
 C0 83 #[.slice a n c,.slice aw m cw] W (Qd (fun w' r=>∃ p c,r=.tuple #[.slice p m c,V0 0]∧w'.ownsRow W.heap.size 3 1 (.slice p m c) m (xs.map nv)) W):=by
 subst hn hm hx;exact Tn a c l aw cw ws W hk hs hl hw h hws hq
theorem ref_Zero(a:O0)(c:Nat)(l:Bl)(w:World)(hl:l.length≤100000000)(h:Bys w (.slice a l.length c) l) :
 C0 84 #[.slice a l.length c] w (Ret (.bool (Qf l)) w):=by
 refine zin 15 Tryz.func84 ?_
 have hB:=Below.refl w.heap.size w
 refine zl 12 15 (fun zm a3 V=>∃ (i:Nat),a3=[(0,.slice a l.length c),(3,V0 (i:Int))]∧zm=l.length-((i:Int)).toNat∧B3 w V∧i≤l.length∧(∀ j,j<i→l.getD j 0=0)) ⟨0,rfl,rfl,hB,Nat.zero_le _,?_⟩ ?_
 ·exact fun j hj=>absurd hj (by omega)
 rintro _ _ W1 ⟨i,rfl,rfl,a0,hi,hz⟩ J1 a2 r1
 refine xid 9 ((i:Int)<(l.length:Int)) (fun a1=>?_) (fun a1=>?_)
 ·refine xx 8 _ l.length i 1 (Bys.elem h (k:=i) (by omega)).1 ?_
  refine xl 0 ((Bys.elem (h.below a0) (k:=i) (by omega)).2) ?_
  refine xin 3 (↑(l.getD i 0).toNat:Int) (0:Int) (fun a4=>?_) (fun a4=>?_)
  ·refine xe 11 (.bool false) ?_
   rw[Fj (j:=i) (by omega) (by assumption)];exact⟨rfl,a0⟩
  refine xwm 5 ((i:Int)+1) (↑(i+1):Int) ?_
  exact ze 2 (a2 _ _ _ ⟨i+1,rfl,rfl,a0,by omega,fun j hj=>(Nat.lt_or_ge j i).elim (hz j) (fun q=>by obtain rfl:j=i:=(by omega);exact Oo (by assumption))⟩ (by omega))
 refine xe 11 (.bool true) ?_
 rw[Ss (fun j hj=>hz j (by omega))];exact⟨rfl,a0⟩
theorem Uw(a:O0)(n c:Nat)(l:Bl)(w:World)(hn:l.length=n)(hl:n≤100000000)(h:Bys w (.slice a n c) l):C0 84 #[.slice a n c] w (Ret (.bool (Qf l)) w):=by
 subst hn;exact ref_Zero a c l w hl h
end Go.Proofs.YthhilbkandcbmaaGreatDoor
namespace Go.Proofs.YthhilbkandcbmaaGreatDoor
set_option maxHeartbeats 8000000
set_option maxRecDepth 100000
open Go.RowKit
set_option linter.unusedVariables false
theorem loop_eq(bs:ByteArray)(i:Nat)(r:Bl):ByteArray.toList.loop bs i r=r.reverse++bs.data.toList.drop i:=by
 have hs:bs.data.toList.length=bs.size:=by rw[Array.length_toList];rfl
 rw[ByteArray.toList.loop]
 split
 ·rename_i h
  have h':i<bs.data.toList.length:=by omega
  rw[loop_eq bs (i+1) _,List.drop_eq_getElem_cons h']
  have e:bs.get! i=bs.data.toList[i]:=by
   have h2:i<bs.data.size:=by rw[←Array.length_toList];exact h'
   show bs.data[i]! = _
   rw[getElem!_pos bs.data i h2];simp
  rw[e];simp
 ·rename_i h
  rw[List.drop_eq_nil_of_le (by omega)];simp
termination_by bs.size-i
theorem Zed(a:Bl):(⟨a.toArray⟩:ByteArray).toList=a:=by
 unfold ByteArray.toList;rw[loop_eq];simp
theorem Lz(a b:Bl):((⟨a.toArray⟩:ByteArray).toList==(⟨b.toArray⟩:ByteArray).toList)=(a==b):=by rw[Zed,Zed]
theorem El(l:Bl):∀ (w k i:Nat),i<w→Zh l k w/256 ^ i%256=(l.getD (k+i) 0).toNat
 | 0,k,i,h=>absurd h (by omega)
 | w+1,k,0,_=>by
  have:=(l.getD k 0).toNat_lt
  rw[Zh];simp only[Nat.pow_zero,Nat.div_one,Nat.add_zero];omega
 | w+1,k,i+1,h=>by
  have:=(l.getD k 0).toNat_lt
  have ih:=El l w (k+1) i (by omega)
  rw[Zh,Nat.pow_succ,Nat.mul_comm (256 ^ i) 256,←Nat.div_div_eq_div_mul,show((l.getD k 0).toNat+256*Zh l (k+1) w)/256=Zh l (k+1) w by omega,ih,show k+1+i=k+(i+1) by omega]
theorem leB_raw{l:Bl}{k w:Nat}(h:k+w≤l.length):leB (Zh l k w:Int) w=(l.drop k).take w:=by
 apply List.ext_getElem
 ·simp[Zm];omega
 intro i h1 h2
 have hw:i<w:=by simpa [Zm] using h1
 have e:=El l w k i hw
 apply UInt8.toNat_inj.1
 simp only[leB,List.getElem_map,List.getElem_range,Zt,Int.toNat_natCast,UInt8.toNat_ofNat',List.getElem_take,List.getElem_drop]
 have e2:l.getD (k+i) 0=l[k+i]'(by omega):=by simp[List.getD,show k+i<l.length by omega]
 rw[e2] at e
 rw[←e]
theorem leB_inj{m n w:Nat}(hm:m<256 ^ w)(hn:n<256 ^ w)(h:leB (m:Int) w=leB (n:Int) w):m=n:=by
 have e:∀ i,i<w→m/256 ^ i%256=n/256 ^ i%256:=fun i hi=>by
  have:=congrArg (fun l=>(l.getD i 0).toNat) h
  simpa [leB,Zt,List.getD,List.getElem?_range hi,UInt8.toNat_ofNat'] using this
 clear h
 induction w generalizing m n with
 | zero=>simp at hm hn;omega
 | succ w ih =>
  have h0:=e 0 (by omega)
  have h1:m/256=n/256:=ih (by rw[Nat.pow_succ] at hm;omega) (by rw[Nat.pow_succ] at hn;omega) fun i hi=>by
   have:=e (i+1) (by omega)
   rw[Nat.pow_succ,Nat.mul_comm (256 ^ i) 256,←Nat.div_div_eq_div_mul,←Nat.div_div_eq_div_mul] at this
   exact this
  simp only[Nat.pow_zero,Nat.div_one] at h0
  omega
theorem Pc{b:Bool}(h:(!b)=true):b=false:=by simpa using h
theorem Pe{b:Bool}(h:(!b)=false):b=true:=by simpa using h
end Go.Proofs.YthhilbkandcbmaaGreatDoor
namespace Go.Proofs.YthhilbkandcbmaaGreatDoor
set_option maxHeartbeats 8000000
set_option maxRecDepth 100000
open Go.RowKit Go.Extern.Stop Go.Stop Go.Extern
set_option linter.unusedVariables false
def FltV(w:World)(v:Value)(l:List Int)(c:Int):Prop:=∃ s,v=.agg #[s,V0 c]∧Ints w s l
theorem FltV.below{w w':World}{v:Value}{l:List Int}{c:Int}(h:FltV w v l c)(hb:B3 w w'):FltV w' v l c:=by
 obtain⟨s,rfl,hs⟩:=h
 exact⟨s,rfl,hs.below hb⟩
theorem Zdu{w:World}{B:Nat}{s:Value}{c:Int}{t:TypeId}(h:Blk w B [s,V0 c] t)(hs:∃ a n m,s=.slice a n m){tmps:Array Value}(e:tmps.getD 2 undef=P0 B) :
 (results Tryz.f13 tmps).run Tryz.prog w=.ok (.agg #[s,V0 c]) w:=by
 obtain⟨a,n,m,rfl⟩:=hs
 have c0:=h.cell (i:=0) rfl
 have c1:=h.cell (i:=1) rfl
 have e':tmps[2]?.getD undef=P0 B:=by simpa using e
 simp[results,Tryz.results13,go_sem,c0,c1,e']
theorem Rw(t:Option Int)(l:List (Option Int))(v:Value)(w:World)(hlen:l.length≤1000000)(hg:ErrT w)(hv:Kv w l t v) :
 C0 13 #[v] w (Qd (fun w' r=>FltV w' r (Qt l) (Cg l t)) w):=by
 have hB:=blx w (.cells #[S0,V0 0] 37)
 have k0:=Blk.new w [S0,V0 0] 37
 rcases hv.nil_or with ⟨hz,rfl⟩|⟨hz,ty,x,rfl⟩
 ·obtain⟨rfl,rfl⟩:=Tb hz
  go_enter Tryz.func13,Tryz.ntmps13
  go_wp2_with fail
  exact bodyPost_ret (Zdu k0 ⟨_,_,_,rfl⟩ rfl) rfl ⟨_,rfl,hB,_,rfl,.inl ⟨_,_,rfl,rfl,rfl⟩⟩
 ·go_enter Tryz.func13,Tryz.ntmps13
  have a4:=hv.below hB
  go_wp2_with fail
  refine(Oh t l _ _ hlen a4).mono ?_
  rintro e w1 ⟨r,rfl,a2,h1⟩
  have a0:=bln hB a2
  go_wp2_with fail
  refine(Ze6 t l _ w1 (hg.below a0) (hv.below a0)).mono ?_
  rintro e w2 ⟨rfl,a1⟩
  have k2:=(k0.below a2).below a1
  obtain⟨a,m,rfl⟩:=(Zd h1).slice
  have d0:=k2.cell (i:=0) rfl
  have d1:=k2.cell (i:=1) rfl
  have f0:=k2.frozen 0
  have f1:=k2.frozen 1
  have a3:=bln a0 a1
  have a5:B3 w ((w2.setCell ⟨w.heap.size,0,none⟩ (.slice a (Qt l).length m)).setCell ⟨w.heap.size,1,none⟩ (V0 (Cg l t))):=(a3.setCell (Nat.le_refl _) _).setCell (Nat.le_refl _) _
  have h3:=ownsRow_setCell_below (ownsRow_setCell_below (Zb h1 a1) (a:=⟨w.heap.size,0,none⟩) (by simp) (.slice a (Qt l).length m)) (a:=⟨w.heap.size,1,none⟩) (by simp) (V0 (Cg l t))
  go_wp2_with fail
  exact bodyPost_ret (Zdu ((k2.set 0 _).set 1 _) ⟨_,_,_,rfl⟩ rfl) rfl ⟨_,rfl,a5,_,rfl,Zd h3⟩
theorem Sw(l:List Int)(c:Int)(v1 v2:Value)(w:World)(h1:FltV w v1 l c)(h2:FltV w v2 l c) :
 C0 12 #[v1,v2] w (Ret (.bool true) w):=by
 obtain⟨s1,rfl,k1⟩:=h1
 obtain⟨s2,rfl,k2⟩:=h2
 obtain⟨a1,p1,rfl⟩:=k1.slice
 obtain⟨a2,p2,rfl⟩:=k2.slice
 have a5:=k1.len
 have hB:B3 w ((w.alloc (.cells #[.slice a1 l.length p1,V0 c] 37)).alloc (.cells #[.slice a2 l.length p2,V0 c] 37)):=bln (blx _ _) (blx _ _)
 have b1:Blk ((w.alloc (.cells #[.slice a1 l.length p1,V0 c] 37)).alloc (.cells #[.slice a2 l.length p2,V0 c] 37)) w.heap.size [.slice a1 l.length p1,V0 c] 37:=(Blk.new _ _ _).alloc _
 have b2:=Blk.new (w.alloc (.cells #[.slice a1 l.length p1,V0 c] 37)) [.slice a2 l.length p2,V0 c] 37
 simp only[World.size_alloc] at b2
 go_enter Tryz.func12,Tryz.ntmps12
 go_wp2_with fail
 obtain⟨W,hW⟩:∃ W,(w.alloc (.cells #[.slice a1 l.length p1,V0 c] 37)).alloc (.cells #[.slice a2 l.length p2,V0 c] 37)=W:=⟨_,rfl⟩
 change Blk ((w.alloc (.cells #[.slice a1 l.length p1,V0 c] 37)).alloc (.cells #[.slice a2 l.length p2,V0 c] 37)) _ _ _ at b2
 rw[hW] at hB b1 b2 ⊢
 have k1:=k1.below hB
 have k2:=k2.below hB
 clear hW
 go_loopw [5] (fun i wr=>∃ k:Nat,k≤l.length∧i=V0 k∧B3 W wr) (fun i _=>l.length-(intOf i).toNat)
 case atStart=>exact⟨0,by omega,rfl,Below.refl _ _⟩
 case round =>
  obtain⟨k,hk,rfl,a0⟩:=hrel
  have q1:=b1.below a0
  have q2:=b2.below a0
  have c1:=q1.cell (i:=0) rfl
  have c2:=q2.cell (i:=0) rfl
  by_cases hlt:k<l.length
  ·rcases Sl.at (k1.below a0) with h0|⟨g1,o1,rfl,a4⟩
   ·rw[List.map_eq_nil_iff] at h0;subst h0;exact absurd hlt (by simp)
   rcases Sl.at (k2.below a0) with h0|⟨g2,o2,rfl,a3⟩
   ·rw[List.map_eq_nil_iff] at h0;subst h0;exact absurd hlt (by simp)
   have e1:∀ z:Ext wr,z.val.cell? ⟨w.heap.size,0,none⟩=some (.slice (some ⟨g1,o1,none⟩) l.length p1):=fun z=>z.get c1
   have e2:∀ z:Ext wr,z.val.cell? ⟨w.heap.size+1,0,none⟩=some (.slice (some ⟨g2,o2,none⟩) l.length p2):=fun z=>z.get c2
   have e3:∀ z:Ext wr,z.val.cell? ⟨g1,o1+k,none⟩=some (V0 l[k]):=fun z=>z.get (a4 k _ (by simp[hlt]))
   have e4:∀ z:Ext wr,z.val.cell? ⟨g2,o2+k,none⟩=some (V0 l[k]):=fun z=>z.get (a3 k _ (by simp[hlt]))
   have i1:(0:Int)≤(k:Int):=by omega
   have i2:(k:Int)<(l.length:Int):=by omega
   clear a4 a3
   go_wp2_with fail
   refine Tm (by kernel_rfl) (by kernel_rfl) ?_
   repeat (go_big_quiet_step (fail))
   refine wpQuiet_nil ?_
   intro wx
   go_wp2_with fail
   exact⟨⟨k+1,by omega,by go_num,bln a0 wx.below⟩,by simp[intOf];omega⟩
  ·go_wp2_with fail
   go_ret
   exact⟨rfl,bln hB a0⟩
end Go.Proofs.YthhilbkandcbmaaGreatDoor
namespace Go.Proofs.YthhilbkandcbmaaGreatDoor
set_option maxHeartbeats 8000000
set_option maxRecDepth 100000
open Go.RowKit Go.Extern.Stop Go.Stop Go.Extern
set_option linter.unusedVariables false
attribute [local irreducible] wpList wpAnyH Code.wp Oper.wp Go
def Ui(l:Bl)(k:Nat):List Bl:=(List.range k).map (Qj l)
theorem Iy(l:Bl)(k:Nat):(Ui l k).length=k:=by simp[Ui]
theorem Ru(l:Bl)(k:Nat):Ui l (k+1)=Ui l k++[Qj l k]:=by simp[Ui,List.range_succ]
theorem blksL_get(l:Bl){k i:Nat}(h:i<k):(Ui l k).getD i []=Qj l i:=by simp[Ui,List.getD,List.getElem?_range h]
theorem blkB_take{l:Bl}{i m:Nat}(h:i<m):Qj (l.take (m*256)) i=Qj l i:=by
 unfold Qj
 rw[List.drop_take,List.take_take,Nat.min_eq_left (by omega)]
theorem Sh{l:Bl}{k:Nat}:Ui (l.take (k*256)) k=Ui l k:=List.map_congr_left fun i hi=>blkB_take (List.mem_range.1 hi)
structure RefI(B bm:Nat)(p:Option Addr)(k c:Nat)(l:List UInt8)(w:World):Prop where
 blk:Blk w bm [.slice p k c] 62
 row:w.ownsRow B 9 1 (.slice p k c) k ((Ui l k).map sv)
 hk:k≤14400
 hl:l.length=k*256
theorem RefI.below{B bm:Nat}{p:O0}{k c:Nat}{l:Bl}{w W:World}(h:RefI B bm p k c l w)(hb:B3 w W):RefI B bm p k c l W:=⟨h.blk.below hb,Zb h.row hb,h.hk,h.hl⟩
theorem RefI.only{B bm:Nat}{p:O0}{k c:Nat}{l:Bl}{w W:World}{T:List TypeId}(h:RefI B bm p k c l w)(hO:Zg T w W)(hT:T.contains 62=false∧T.contains 9=false):RefI B bm p k c l W:=⟨h.blk.only hO hT.1,Zr h.row hO hT.2,h.hk,h.hl⟩
theorem RefI.mono{B B' bm:Nat}{p:O0}{k c:Nat}{l:Bl}{w:World}(h:RefI B bm p k c l w)(hB:B'≤B):RefI B' bm p k c l w:=⟨h.blk,Ze h.row hB,h.hk,h.hl⟩
theorem RefI.base{B bm:Nat}{p:O0}{k c:Nat}{l:Bl}{w:World}(h:RefI B bm p k c l w)(hn:0<k):∃ g,p=some ⟨g,0,none⟩:=by
 rcases h.row.2 with ⟨_,h0⟩|⟨g,a1,a0,hv,_,_,hc,_⟩
 ·omega
 ·simp only[Value.slice.injEq] at hv
  obtain⟨rfl,_,rfl⟩:=hv
  exact⟨g,rfl⟩
theorem ref_Of(a:O0)(c:Nat)(l:Bl)(w:World)(h:Bys w (.slice a l.length c) l)(hl:l.length≤100000000) :
 C0 6 #[.slice a l.length c] w (Qd (fun w' r=>∃ bm p c2,r=P0 bm∧w.heap.size≤bm∧RefI w.heap.size bm p (min (l.length/256) 14400) c2 (l.take (min (l.length/256) 14400*256)) w') w):=by
 refine zin 32 Tryz.func6 ?_
 refine xa 8 [S0] 62 fun b1 W1 n1=>?_
 refine zl 5 32 (fun zm e1 V=>∃ (k:Nat) (p:O0) (cp:Nat) (a2:O0) (c2:Nat) (l2:Bl),e1=[(0,.slice a2 l2.length c2),(2,.pointer none),(3,P0 b1)]∧zm=l2.length∧B3 w V∧Blk V b1 ([.slice p k cp]) 62∧V.ownsRow w.heap.size 9 1 (.slice p k cp) k ((Ui l k).map sv)∧Bys w (.slice a2 l2.length c2) l2∧l2=l.drop (k*256)∧k*256≤l.length∧k≤14400) ⟨0,none,0,a,c,l,rfl,rfl,n1.below,n1.blk,World.ownsRow_nil _ _ _ _,h,by simp,by omega,by decide⟩ ?_
 rintro _ _ W2 ⟨k,p,cp,a2,c2,l2,rfl,rfl,a8,a3,ho,b9,b4,e3,e4⟩ J2 c9 r2
 have d5:=b9.cap rfl
 have e0:l2.length=l.length-k*256:=by rw[b4];simp
 refine xg 7 [8,9] (decide ((l2.length:Int)≥(256:Int))) (fun b0=>?_) (fun b0=>?_)
 ·have b0:=of_decide_eq_true b0
  refine xb 3 0 a3 ?_
  refine xid 5 ((k:Int)<(14400:Int)) (fun d3=>?_) (fun d3=>?_)
  ·refine xd 4 (.t w.heap.size [9,62]) ?_
   refine xsH (.e [0,1,2,3,5] 6) (fun _ _ _ _ zo zx zy V=>Qr (k:=256) (b:=a2) (n:=l2.length) (c:=c2) (i:=256) (ki:=.i64) zo zx zy rfl (by omega) Tryz.underlying22 (by kernel_rfl) V) ?_
   have a6:=bln a8 (Za W2)
   refine xcvt (.e [] 7) (.t w.heap.size [9,62]) (fun _ _ _ zo zx V hV=>Vb zo zx ((Bys.take b9 rfl 256 (by omega)).below (Gq a6 hV (Nat.le_refl _))) (by simp;omega) Tryz.underlying22 Tryz.underlying5 Tryz.underlying9) ?_
   refine xm2 0 4 8 ?_ ?_
   ·have a4:=a3.below (Za W2)
    refine xb 0 0 a4 ?_
    refine xbs (.o [] 8) 1 [.string ⟨(l2.take 256).toArray⟩] 9 fun b5 W5 n5=>?_
    have g5:=n5.ge a6
    have b7:=Zb ho (Za W2)
    have c6:=Xa b7 n5
    have a9:=Zb b7 n5.below
    have b3:=bln a6 n5.below
    refine ybi (.o [] 9) (.t w.heap.size [9,62]) fun _ _ _ _ zJ zQ zo zx zy zK=>Zo (m:=1) (news:=[.string ⟨(l2.take 256).toArray⟩]) (.string ⟨#[]⟩) 1 16 (k+1) ((Ui l (k+1)).map sv) zo Tryz.underlying60 (by kernel_rfl) rfl (by decide) zx a9 zy (n5.blk.sl 1 1 (by decide) (by decide)) rfl (by simp[Value.oneCell']) (by unfold maxLen;omega) (by omega) b3.size (by rfl) (by rw[Ru,List.map_append,show Qj l k=l2.take 256 from by rw[b4];rfl];rfl) fun d8 d4 W6 o6 c8 c7=>?_
    refine zK _ _ (Zn c7 c8 a9 (by decide)) ?_
    have a0:=(a4.below n5.below).grown c8 a9 (by decide)
    have g1:=n1.ge (B4 w)
    refine ys (.o [10,11] 12) a0 [.slice d8 (k+1) d4] (.t w.heap.size [9,62]) fun W7 u7 k7=>⟨(Zi u7 a0 g1 (by decide)),?_⟩
    refine xsL 4 (fun _ _ _ _ zo zx zy V=>Yl (k:=256) (b:=a2) (n:=l2.length) (c:=c2) (i:=256) (ki:=.i64) 1 zo zx zy rfl (by omega) Tryz.underlying22 (by kernel_rfl) V) ?_
    refine xv1 3 0 (show(.slice (Ke a2 256 c2 1) (l2.length-256) (c2-256):Value)=.slice (Ke a2 256 c2 1) ((l2.drop 256).length) (c2-256) from by rw[List.length_drop]) ?_
    have c0:=u7.below (b3.trans c7) g1
    have c3:=u7.own2 o6 a0 (by decide)
    refine ze 0 (c9 _ _ _ ⟨k+1,_,_,_,_,(l2.drop 256),rfl,rfl,c0,k7,c3,(by have:=Bys.cut b9 rfl 256 l2.length (by omega) (Nat.le_refl _);rw[List.take_of_length_le (by simp)] at this;rwa [show(l2.drop 256).length=l2.length-256 by simp]),by rw[b4,List.drop_drop,Nat.add_mul,Nat.one_mul],by omega,by omega⟩ ?_)
    show((l2.drop 256).length)<l2.length
    rw[List.length_drop];omega
   refine xbs 0 1 [.string ⟨(l2.take 256).toArray⟩] 9 fun b8 W8 n8=>?_
   have g8:=n8.ge a6
   have b2:=Zb ho (Za W2)
   have d2:=Xa b2 n8
   have a5:=(a3.below (Za W2)).below n8.below
   refine xb (.o [] 4) 0 a5 ?_
   have a7:=Zb b2 n8.below
   have b6:=bln a6 n8.below
   refine ybi (.o [] 9) (.t w.heap.size [9,62]) fun _ _ _ _ zJ zQ zo zx zy zK=>Zo (m:=1) (news:=[.string ⟨(l2.take 256).toArray⟩]) (.string ⟨#[]⟩) 1 16 (k+1) ((Ui l (k+1)).map sv) zo Tryz.underlying60 (by kernel_rfl) rfl (by decide) zx a7 zy (n8.blk.sl 1 1 (by decide) (by decide)) rfl (by simp[Value.oneCell']) (by unfold maxLen;omega) (by omega) b6.size (by rfl) (by rw[Ru,List.map_append,show Qj l k=l2.take 256 from by rw[b4];rfl];rfl) fun d9 d7 W9 o9 d1 d0=>?_
   refine zK _ _ (Zn d0 d1 a7 (by decide)) ?_
   have a1:=a5.grown d1 a7 (by decide)
   have g1:=n1.ge (B4 w)
   refine ys (.o [10,11] 12) a1 [.slice d9 (k+1) d7] (.t w.heap.size [9,62]) fun e2 c4 d6=>⟨(Zi c4 a1 g1 (by decide)),?_⟩
   refine xsL 4 (fun _ _ _ _ zo zx zy V=>Yl (k:=256) (b:=a2) (n:=l2.length) (c:=c2) (i:=256) (ki:=.i64) 1 zo zx zy rfl (by omega) Tryz.underlying22 (by kernel_rfl) V) ?_
   refine xv1 3 0 (show(.slice (Ke a2 256 c2 1) (l2.length-256) (c2-256):Value)=.slice (Ke a2 256 c2 1) ((l2.drop 256).length) (c2-256) from by rw[List.length_drop]) ?_
   have c5:=c4.below (b6.trans d0) g1
   have c1:=c4.own2 o9 a1 (by decide)
   refine ze 0 (c9 _ _ _ ⟨k+1,_,_,_,_,(l2.drop 256),rfl,rfl,c5,d6,c1,(by have:=Bys.cut b9 rfl 256 l2.length (by omega) (Nat.le_refl _);rw[List.take_of_length_le (by simp)] at this;rwa [show(l2.drop 256).length=l2.length-256 by simp]),by rw[b4,List.drop_drop,Nat.add_mul,Nat.one_mul],by omega,by omega⟩ ?_)
   show((l2.drop 256).length)<l2.length
   rw[List.length_drop];omega
  have g1:=n1.ge (B4 w)
  refine xe 12 (P0 b1) ?_
  obtain rfl:k=min (l.length/256) 14400:=by omega
  exact⟨_,rfl,a8,_,_,_,rfl,g1,a3,by rw[Sh];exact ho,by omega,by simp;omega⟩
 have b0:=of_decide_eq_false b0
 have g1:=n1.ge (B4 w)
 refine xe 22 (P0 b1) ?_
 obtain rfl:k=min (l.length/256) 14400:=by omega
 exact⟨_,rfl,a8,_,_,_,rfl,g1,a3,by rw[Sh];exact ho,by omega,by simp;omega⟩
def fltL(no er:Int):List Int:=if er=0 then [] else [no]
theorem fltL_nz{no er:Int}(h:er≠0):fltL no er=[no]:=if_neg h
theorem Zfe(no:Int)(w:World) :
 C0 82 #[V0 no,.agg #[S0,V0 0]] w (Ret (.agg #[S0,V0 0]) w):=by
 refine zin 17 Tryz.func82 ?_
 refine xa 2 [S0,V0 0] 37 fun b1 W1 n1=>?_
 refine xa 0 [S0,V0 0] 37 fun b2 W2 n2=>?_
 have a1:=n2.ne n1.blk
 have a0:=n1.blk.below n2.below
 refine xb 6 1 a0 ?_
 refine xsv 7 n2.blk [S0,V0 0] fun W3 u3 k3=>?_
 have g2:=n2.ge n1.below
 have hB:=u3.below (bln n1.below n2.below) g2
 exact xec 4 k3 (.agg #[S0,V0 0]) ⟨rfl,hB⟩
theorem Ze7(no er:Int)(w:World)(he:er≠0) :
 C0 82 #[V0 no,.agg #[S0,V0 er]] w (Qd (fun w' r=>∃ a c,r=.agg #[.slice a 1 c,V0 er]∧w'.ownsRow w.heap.size 3 1 (.slice a 1 c) 1 [V0 no]) w):=by
 refine zin 17 Tryz.func82 ?_
 refine xa 2 [S0,V0 er] 37 fun b1 W1 n1=>?_
 refine xa 0 [S0,V0 0] 37 fun b2 W2 n2=>?_
 have h4:=n2.ne n1.blk
 have a0:=n1.blk.below n2.below
 refine xb 6 1 a0 ?_
 refine xk 3 (show((er==(0:Int)):Bool)=false from beq_false_of_ne he) ?_
 refine xd 3 (.t w.heap.size [3,37]) ?_
 refine xm3 (.b [0,2,5]) 1 3 6 ?_ ?_ ?_
 ·refine xbs 0 1 [V0 no] 3 fun b3 W3 n3=>?_
  refine xm2 0 3 6 ?_ ?_
  ·have a4:=(a0.below (Za W2)).below n3.below
   refine xb 0 0 a4 ?_
   refine xm2 0 4 6 ?_ ?_
   ·have g3:=n3.ge (bln (bln n1.below n2.below) (Za W2))
    have o4:=Zp (size:=1) (n:=1) n3.blk g3 rfl (by decide)
    have hB:=bln (bln (bln n1.below n2.below) (Za W2)) n3.below
    refine ybi 0 (.t w.heap.size [3,37]) fun _ _ _ _ zJ zQ zo zx zy zK=>Zo (m:=0) (news:=[]) (V0 0) 1 8 (1) ([V0 no]) zo Tryz.underlying28 (by kernel_rfl) rfl (by decide) zx o4 zy (.inl ⟨none,0,rfl,rfl,rfl⟩) rfl (by simp) (by unfold maxLen;omega) (by omega) hB.size (by rfl) (by rfl) fun h8 h9 W5 o5 e9 i0=>?_
    refine zK _ _ (Zn i0 e9 o4 (by decide)) ?_
    have g8:=a4.grown e9 o4 (by decide)
    refine xb (.o [] 6) 1 g8 ?_
    have k2:=((n2.blk.below (Za W2)).below n3.below).grown e9 o4 (by decide)
    have g2:=n2.ge n1.below
    refine ysv (.o [7] 8) k2 [.slice h8 1 h9,V0 er] (.t w.heap.size [3,37]) fun W6 u6 k6=>⟨(Zi u6 k2 g2 (by decide)),?_⟩
    have g6:=u6.below (hB.trans i0) g2
    have g1:=u6.own2 o5 k2 (by decide)
    exact xec 3 k6 (.agg #[.slice h8 1 h9,V0 er]) ⟨_,rfl,g6,_,_,rfl,g1⟩
   refine xb 0 1 a4 ?_
   have g3:=n3.ge (bln (bln n1.below n2.below) (Za W2))
   have o7:=Zp (size:=1) (n:=1) n3.blk g3 rfl (by decide)
   have hB:=bln (bln (bln n1.below n2.below) (Za W2)) n3.below
   refine ybi (.o [] 4) (.t w.heap.size [3,37]) fun _ _ _ _ zJ zQ zo zx zy zK=>Zo (m:=0) (news:=[]) (V0 0) 1 8 (1) ([V0 no]) zo Tryz.underlying28 (by kernel_rfl) rfl (by decide) zx o7 zy (.inl ⟨none,0,rfl,rfl,rfl⟩) rfl (by simp) (by unfold maxLen;omega) (by omega) hB.size (by rfl) (by rfl) fun h5 h3 W8 o8 h7 h6=>?_
   refine zK _ _ (Zn h6 h7 o7 (by decide)) ?_
   have k2:=((n2.blk.below (Za W2)).below n3.below).grown h7 o7 (by decide)
   have g2:=n2.ge n1.below
   refine ysv (.o [7] 8) k2 [.slice h5 1 h3,V0 er] (.t w.heap.size [3,37]) fun W9 u9 k9=>⟨(Zi u9 k2 g2 (by decide)),?_⟩
   have f7:=u9.below (hB.trans h6) g2
   have f3:=u9.own2 o8 k2 (by decide)
   exact xec 3 k9 (.agg #[.slice h5 1 h3,V0 er]) ⟨_,rfl,f7,_,_,rfl,f3⟩
  have c1:=(a0.below (Za W2)).below n3.below
  refine xb 0 1 c1 ?_
  refine xb (.o [] 3) 0 c1 ?_
  have g3:=n3.ge (bln (bln n1.below n2.below) (Za W2))
  have e6:=Zp (size:=1) (n:=1) n3.blk g3 rfl (by decide)
  have hB:=bln (bln (bln n1.below n2.below) (Za W2)) n3.below
  refine ybi (.o [] 4) (.t w.heap.size [3,37]) fun _ _ _ _ zJ zQ zo zx zy zK=>Zo (m:=0) (news:=[]) (V0 0) 1 8 (1) ([V0 no]) zo Tryz.underlying28 (by kernel_rfl) rfl (by decide) zx e6 zy (.inl ⟨none,0,rfl,rfl,rfl⟩) rfl (by simp) (by unfold maxLen;omega) (by omega) hB.size (by rfl) (by rfl) fun d7 d0 k0 i2 c0 a6=>?_
  refine zK _ _ (Zn a6 c0 e6 (by decide)) ?_
  have k2:=((n2.blk.below (Za W2)).below n3.below).grown c0 e6 (by decide)
  have g2:=n2.ge n1.below
  refine ysv (.o [7] 8) k2 [.slice d7 1 d0,V0 er] (.t w.heap.size [3,37]) fun j8 g9 i3=>⟨(Zi g9 k2 g2 (by decide)),?_⟩
  have e3:=g9.below (hB.trans a6) g2
  have d2:=g9.own2 i2 k2 (by decide)
  exact xec 3 i3 (.agg #[.slice d7 1 d0,V0 er]) ⟨_,rfl,e3,_,_,rfl,d2⟩
 ·have a2:=a0.below (Za W2)
  refine xb 0 0 a2 ?_
  refine xm2 0 1 6 ?_ ?_
  ·refine xbs 0 1 [V0 no] 3 fun l2 j9 a1=>?_
   refine xm2 0 4 6 ?_ ?_
   ·have f1:=a1.ge (bln (bln n1.below n2.below) (Za W2))
    have e1:=Zp (size:=1) (n:=1) a1.blk f1 rfl (by decide)
    have hB:=bln (bln (bln n1.below n2.below) (Za W2)) a1.below
    refine ybi 0 (.t w.heap.size [3,37]) fun _ _ _ _ zJ zQ zo zx zy zK=>Zo (m:=0) (news:=[]) (V0 0) 1 8 (1) ([V0 no]) zo Tryz.underlying28 (by kernel_rfl) rfl (by decide) zx e1 zy (.inl ⟨none,0,rfl,rfl,rfl⟩) rfl (by simp) (by unfold maxLen;omega) (by omega) hB.size (by rfl) (by rfl) fun d3 c8 l6 j0 a5 d5=>?_
    refine zK _ _ (Zn d5 a5 e1 (by decide)) ?_
    have f9:=(a2.below a1.below).grown a5 e1 (by decide)
    refine xb (.o [] 6) 1 f9 ?_
    have k2:=((n2.blk.below (Za W2)).below a1.below).grown a5 e1 (by decide)
    have g2:=n2.ge n1.below
    refine ysv (.o [7] 8) k2 [.slice d3 1 c8,V0 er] (.t w.heap.size [3,37]) fun k4 f5 i5=>⟨(Zi f5 k2 g2 (by decide)),?_⟩
    have f2:=f5.below (hB.trans d5) g2
    have d8:=f5.own2 j0 k2 (by decide)
    exact xec 3 i5 (.agg #[.slice d3 1 c8,V0 er]) ⟨_,rfl,f2,_,_,rfl,d8⟩
   have h0:=a2.below a1.below
   refine xb 0 1 h0 ?_
   have f1:=a1.ge (bln (bln n1.below n2.below) (Za W2))
   have g0:=Zp (size:=1) (n:=1) a1.blk f1 rfl (by decide)
   have hB:=bln (bln (bln n1.below n2.below) (Za W2)) a1.below
   refine ybi (.o [] 4) (.t w.heap.size [3,37]) fun _ _ _ _ zJ zQ zo zx zy zK=>Zo (m:=0) (news:=[]) (V0 0) 1 8 (1) ([V0 no]) zo Tryz.underlying28 (by kernel_rfl) rfl (by decide) zx g0 zy (.inl ⟨none,0,rfl,rfl,rfl⟩) rfl (by simp) (by unfold maxLen;omega) (by omega) hB.size (by rfl) (by rfl) fun d6 a9 l1 j5 b0 c2=>?_
   refine zK _ _ (Zn c2 b0 g0 (by decide)) ?_
   have k2:=((n2.blk.below (Za W2)).below a1.below).grown b0 g0 (by decide)
   have g2:=n2.ge n1.below
   refine ysv (.o [7] 8) k2 [.slice d6 1 a9,V0 er] (.t w.heap.size [3,37]) fun l3 e7 i4=>⟨(Zi e7 k2 g2 (by decide)),?_⟩
   have f4:=e7.below (hB.trans c2) g2
   have a8:=e7.own2 j5 k2 (by decide)
   exact xec 3 i4 (.agg #[.slice d6 1 a9,V0 er]) ⟨_,rfl,f4,_,_,rfl,a8⟩
  refine xb 0 1 a2 ?_
  refine xbs (.o [] 1) 1 [V0 no] 3 fun l8 k8 e0=>?_
  have j3:=e0.ge (bln (bln n1.below n2.below) (Za W2))
  have f0:=Zp (size:=1) (n:=1) e0.blk j3 rfl (by decide)
  have hB:=bln (bln (bln n1.below n2.below) (Za W2)) e0.below
  refine ybi (.o [] 4) (.t w.heap.size [3,37]) fun _ _ _ _ zJ zQ zo zx zy zK=>Zo (m:=0) (news:=[]) (V0 0) 1 8 (1) ([V0 no]) zo Tryz.underlying28 (by kernel_rfl) rfl (by decide) zx f0 zy (.inl ⟨none,0,rfl,rfl,rfl⟩) rfl (by simp) (by unfold maxLen;omega) (by omega) hB.size (by rfl) (by rfl) fun d9 b5 l4 i7 c6 b4=>?_
  refine zK _ _ (Zn b4 c6 f0 (by decide)) ?_
  have k2:=((n2.blk.below (Za W2)).below e0.below).grown c6 f0 (by decide)
  have g2:=n2.ge n1.below
  refine ysv (.o [7] 8) k2 [.slice d9 1 b5,V0 er] (.t w.heap.size [3,37]) fun k1 g7 j4=>⟨(Zi g7 k2 g2 (by decide)),?_⟩
  have e5:=g7.below (hB.trans b4) g2
  have b8:=g7.own2 i7 k2 (by decide)
  exact xec 3 j4 (.agg #[.slice d9 1 b5,V0 er]) ⟨_,rfl,e5,_,_,rfl,b8⟩
 have a3:=a0.below (Za W2)
 refine xb 0 1 a3 ?_
 refine xm2 0 1 3 ?_ ?_
 ·refine xbs 0 1 [V0 no] 3 fun l5 j6 c4=>?_
  have h2:=a3.below c4.below
  refine xb (.o [] 3) 0 h2 ?_
  have i9:=c4.ge (bln (bln n1.below n2.below) (Za W2))
  have f6:=Zp (size:=1) (n:=1) c4.blk i9 rfl (by decide)
  have hB:=bln (bln (bln n1.below n2.below) (Za W2)) c4.below
  refine ybi (.o [] 4) (.t w.heap.size [3,37]) fun _ _ _ _ zJ zQ zo zx zy zK=>Zo (m:=0) (news:=[]) (V0 0) 1 8 (1) ([V0 no]) zo Tryz.underlying28 (by kernel_rfl) rfl (by decide) zx f6 zy (.inl ⟨none,0,rfl,rfl,rfl⟩) rfl (by simp) (by unfold maxLen;omega) (by omega) hB.size (by rfl) (by rfl) fun d4 a7 l7 j2 b6 b7=>?_
  refine zK _ _ (Zn b7 b6 f6 (by decide)) ?_
  have k2:=((n2.blk.below (Za W2)).below c4.below).grown b6 f6 (by decide)
  have g2:=n2.ge n1.below
  refine ysv (.o [7] 8) k2 [.slice d4 1 a7,V0 er] (.t w.heap.size [3,37]) fun k5 e4 i6=>⟨(Zi e4 k2 g2 (by decide)),?_⟩
  have e8:=e4.below (hB.trans b7) g2
  have c7:=e4.own2 j2 k2 (by decide)
  exact xec 3 i6 (.agg #[.slice d4 1 a7,V0 er]) ⟨_,rfl,e8,_,_,rfl,c7⟩
 refine xb 0 0 a3 ?_
 refine xbs (.o [] 1) 1 [V0 no] 3 fun j7 l0 e2=>?_
 have i8:=e2.ge (bln (bln n1.below n2.below) (Za W2))
 have g5:=Zp (size:=1) (n:=1) e2.blk i8 rfl (by decide)
 have hB:=bln (bln (bln n1.below n2.below) (Za W2)) e2.below
 refine ybi (.o [] 4) (.t w.heap.size [3,37]) fun _ _ _ _ zJ zQ zo zx zy zK=>Zo (m:=0) (news:=[]) (V0 0) 1 8 (1) ([V0 no]) zo Tryz.underlying28 (by kernel_rfl) rfl (by decide) zx g5 zy (.inl ⟨none,0,rfl,rfl,rfl⟩) rfl (by simp) (by unfold maxLen;omega) (by omega) hB.size (by rfl) (by rfl) fun c5 d1 k7 i1 b9 c3=>?_
 refine zK _ _ (Zn c3 b9 g5 (by decide)) ?_
 have k2:=((n2.blk.below (Za W2)).below e2.below).grown b9 g5 (by decide)
 have g2:=n2.ge n1.below
 refine ysv (.o [7] 8) k2 [.slice c5 1 d1,V0 er] (.t w.heap.size [3,37]) fun k3 f8 j1=>⟨(Zi f8 k2 g2 (by decide)),?_⟩
 have h1:=f8.below (hB.trans c3) g2
 have c9:=f8.own2 i1 k2 (by decide)
 exact xec 3 j1 (.agg #[.slice c5 1 d1,V0 er]) ⟨_,rfl,h1,_,_,rfl,c9⟩
def FltO(no er:Int)(w:World)(e:Ending)(w':World):Prop:=∃ a c,e=.returned (.agg #[.slice a (fltL no er).length c,V0 er])∧B3 w w'∧w'.ownsRow w.heap.size 3 1 (.slice a (fltL no er).length c) (fltL no er).length ((fltL no er).map V0)
theorem ref05_AtP(no er:Int)(w:World):C0 82 #[V0 no,.agg #[S0,V0 er]] w (FltO no er w):=by
 by_cases he:er=0
 ·subst he
  refine(Zfe no w).mono ?_
  rintro e W ⟨rfl,hb⟩
  exact⟨none,0,rfl,hb,World.ownsRow_nil _ _ _ _⟩
 ·refine(Ze7 no er w he).mono ?_
  rintro e W ⟨_,rfl,hb,a,c,rfl,ho⟩
  rw[FltO,fltL_nz he]
  exact⟨a,c,rfl,hb,ho⟩
theorem ref11_At(no er:Int)(w:World) :
 C0 44 #[V0 no,V0 er] w (FltO no er w):=by
 refine zin 9 Tryz.func44 ?_
 refine xa 2 [S0,V0 0] 37 fun b1 W1 n1=>?_
 refine xc 7 (args:=#[V0 no,.agg #[S0,V0 er]]) (ref05_AtP no er _) ?_
 rintro _ W2 ⟨a5,c5,rfl,a1,a2⟩
 have k1:=n1.blk.below a1
 refine xsv 0 k1 [.slice a5 ((fltL no er).length) c5,V0 er] fun W3 u3 k3=>?_
 have g1:=n1.ge (B4 w)
 have hB:=u3.below (bln n1.below a1) g1
 have a0:=u3.own2 (Ze a2 n1.below.size) k1 (by decide)
 exact xec 3 k3 (.agg #[.slice a5 ((fltL no er).length) c5,V0 er]) ⟨_,_,rfl,hB,a0⟩
theorem raw1(l:Bl)(k:Nat):Zh l k 1=(l.getD k 0).toNat:=by simp[Zh]
theorem raw2(l:Bl)(k:Nat):Zh l k 2=(l.getD k 0).toNat+256*(l.getD (k+1) 0).toNat:=by simp[Zh]
theorem BysM.elem{w:World}{a:O0}{n c:Nat}{l:Bl}(h:Bys w (.slice a n c) l)(hl:l.length=n){k:Nat}(hk:k<n):a.isSome=true∧w.cell? (Xe a (k*1))=some (.int .u8 (↑(l.getD k 0).toNat:Int)):=by
 subst hl;exact Bys.elem h hk
theorem slN_of{w:World}{v:Value}{n:Nat}{l:Bl}(h:Bys w v l)(hl:l.length=n):Sl w v n (l.map bv):=by subst hl;exact h
theorem Tt{l:Bl}{k m n:Nat}(h:l.length=n)(hk:k≤m)(hm:m≤n):((l.drop k).take (m-k)).length=m-k:=by simp;omega
theorem ask_sum{kind no:Int}{l:Bl}(hl:l.length=256):(!(((l.drop 252).take 4)==leB ((Lv l kind:Nat):Int) 4))=Jr kind no l 2:=by
 have h1:=leB_raw (l:=l) (k:=252) (w:=4) (by omega)
 have hs:Lv l kind<256 ^ 4:=by
  have:=Nat.xor_lt_two_pow (n:=32) (Ga (l.take 252)) (Mw kind)
  unfold Lv;exact this
 have hr:=Fn l 4 252
 show _=((Zh l 252 4:Int) != (Lv l kind:Int))
 rw[←h1]
 by_cases e:Zh l 252 4=Lv l kind
 ·rw[e];simp
 ·have e2:leB (Zh l 252 4:Int) 4≠leB (Lv l kind:Int) 4:=fun h=>e (leB_inj hr hs h)
  rw[beq_false_of_ne e2,bne_iff_ne.2 (by omega)];rfl
theorem Zb4(kind no:Int)(a:O0)(c:Nat)(l:Bl)(w:World)(hl:l.length≠256)(h:Bys w (.slice a l.length c) l) :
 C0 81 #[.slice a l.length c,V0 kind,V0 no] w (OpenP kind no l w):=by
 refine zin 61 Tryz.func81 ?_
 refine xr 11 (args:=#[V0 kind,V0 no]) (Zax kind no _) fun W1 a2=>?_
 refine xi 3 (!(Vz kind no)) (fun a0=>?_) (fun a0=>?_)
 ·have a1:Jr kind no l 0=true:=a0
  refine xe 8 (.tuple #[S0,V0 1]) ?_
  have he:Xy kind no l=1:=by simp[Xy,a1]
  exact .inl ⟨by rw[he];decide,by rw[he],a2⟩
 have a1:Jr kind no l 0=false:=a0
 have a4:Vz kind no=true:=by simpa using a0
 refine xk 10 (show(((l.length:Int) != (256:Int)):Bool)=true from bne_iff_ne.2 (by omega)) ?_
 refine xe 8 (.tuple #[S0,V0 7]) ?_
 have a3:Jr kind no l 1=true:=bne_iff_ne.2 (by omega)
 have he:Xy kind no l=7:=by simp[Xy,a1,a3]
 exact .inl ⟨by rw[he];decide,by rw[he],a2⟩
theorem Za3(kind no:Int)(a:O0)(c:Nat)(l:Bl)(w:World)(hl256:l.length=256)(h:Bys w (.slice a 256 c) l) :
 C0 81 #[.slice a 256 c,V0 kind,V0 no] w (OpenP kind no l w):=by
 have d8:=h.cap hl256
 have a9:Jr kind no l 1=false:=bne_eq_false_iff_eq.2 (by rw[hl256];rfl)
 refine zin 61 Tryz.func81 ?_
 refine xr 11 (args:=#[V0 kind,V0 no]) (Zax kind no _) fun W1 d4=>?_
 refine xi 3 (!(Vz kind no)) (fun b3=>?_) (fun b3=>?_)
 ·have a2:Jr kind no l 0=true:=b3
  refine xe 8 (.tuple #[S0,V0 1]) ?_
  have he:Xy kind no l=1:=by simp[Xy,a2]
  exact .inl ⟨by rw[he];decide,by rw[he],d4⟩
 have a2:Jr kind no l 0=false:=b3
 have d5:Vz kind no=true:=by simpa using b3
 refine xd 15 .z ?_
 refine xsL (.e [0] 1) (fun _ _ _ _ zo zx zy V=>Yl (k:=252) (b:=a) (n:=256) (c:=c) (i:=252) (ki:=.i64) 1 zo zx zy rfl (by omega) Tryz.underlying22 (by kernel_rfl) V) ?_
 have hB:=bln d4 (Za W1)
 refine xcv (.e [] 2) (fun _ _ _ zo zx V hV=>Vb zo zx ((Bys.cut h hl256 252 256 (by decide) (Nat.le_refl _)).below (bln hB hV)) (Tt (m:=256) hl256 (by decide) (by decide)) Tryz.underlying22 Tryz.underlying5 Tryz.underlying9) ?_
 refine xsH (.e [3] 4) (fun _ _ _ _ zo zx zy V=>Qr (k:=252) (b:=a) (n:=256) (c:=c) (i:=252) (ki:=.i64) zo zx zy rfl (by omega) Tryz.underlying22 (by kernel_rfl) V) ?_
 refine xr (.o [6] 5) (args:=#[.slice a 252 c]) (ref_SumN a 252 c (l.take 252) _ (by simp;omega) (by decide) ((Bys.take h hl256 252 (by omega)).below hB)) fun W3 c7=>?_
 refine xr (.o [] 7) (args:=#[V0 kind]) (ref_Salt kind (Tc d5).1 (Tc d5).2.1 _) fun W4 b9=>?_
 refine xq (.e [] 8) (congrArg V0 (show(IntKind.i64.wrap (↑(BitVec.ofInt 64 (↑(He (l.take 252)):Int) ^^^ BitVec.ofInt 64 (↑(Pb kind):Int)).toNat:Int):Int)=(↑(Lv l kind):Int) from Fa (Ga (l.take 252)) (Mw kind))) ?_
 refine yc (.o [] 9) (args:=#[V0 (↑(Lv l kind):Int),V0 4]) .z (Zf2 (↑(Lv l kind):Int) 4 4 _ (Int.natCast_nonneg _) (by have:=Nat.xor_lt_two_pow (n:=32) (Ga (l.take 252)) (Mw kind);unfold Lv;omega) rfl (by decide)) ?_
 rintro _ W5 ⟨_,rfl,c3,p4,c4,rfl,h4⟩
 have e1:=(bln (bln hB c7) b9).size
 refine⟨c3,?_⟩
 have b0:=Ze h4 e1
 refine xcv (.e [] 10) (fun _ _ _ zo zx V hV=>Vb zo zx (Yr (Zd (Zb b0 hV)) (Zm _ _)) (Zm _ _) Tryz.underlying22 Tryz.underlying5 Tryz.underlying9) ?_
 refine xi (.r [11] 2) (!((⟨((l.drop 252).take 4).toArray⟩:ByteArray).toList==(⟨(leB (↑(Lv l kind):Int) 4).toArray⟩:ByteArray).toList)) (fun c2=>?_) (fun c2=>?_)
 ·have a4:Jr kind no l 2=true:=by rw[←ask_sum hl256,←Lz];exact c2
  have b7:=bln (bln (bln hB c7) b9) c3
  refine xe 8 (.tuple #[S0,V0 4]) ?_
  have he:Xy kind no l=4:=by simp[Xy,a2,a9,a4]
  exact .inl ⟨by rw[he];decide,by rw[he],b7⟩
 have a4:Jr kind no l 2=false:=by rw[←ask_sum hl256,←Lz];exact c2
 have a5:=bln (bln (bln hB c7) b9) c3
 refine xr 5 (args:=#[.slice a 256 c,V0 0,V0 4]) (Il a 256 c 0 4 0 4 l _ hl256 rfl rfl (by decide) (by decide) (by decide) (h.below a5)) fun W7 d2=>?_
 refine xin 15 (↑(Zh l 0 4):Int) no (fun c9=>?_) (fun c9=>?_)
 ·have a8:Jr kind no l 3=true:=bne_iff_ne.2 c9
  have b6:=bln a5 d2
  refine xe 8 (.tuple #[S0,V0 5]) ?_
  have he:Xy kind no l=5:=by simp[Xy,a2,a9,a4,a8]
  exact .inl ⟨by rw[he];decide,by rw[he],b6⟩
 have a8:Jr kind no l 3=false:=bne_eq_false_iff_eq.2 c9
 have a7:=bln a5 d2
 refine xr 5 (args:=#[.slice a 256 c,V0 4,V0 2]) (Il a 256 c 4 2 4 2 l _ hl256 rfl rfl (by decide) (by decide) (by decide) (h.below a7)) fun W9 d0=>?_
 refine xin 15 (↑(Zh l 4 2):Int) kind (fun a6=>?_) (fun a6=>?_)
 ·have b1:Jr kind no l 4=true:=bne_iff_ne.2 a6
  have d1:=bln a7 d0
  refine xe 8 (.tuple #[S0,V0 6]) ?_
  have he:Xy kind no l=6:=by simp[Xy,a2,a9,a4,a8,b1]
  exact .inl ⟨by rw[he];decide,by rw[he],d1⟩
 have b1:Jr kind no l 4=false:=bne_eq_false_iff_eq.2 a6
 refine xx 6 _ 256 6 1 (BysM.elem h hl256 (k:=6) (by omega)).1 ?_
 have a0:=bln a7 d0
 refine xl 0 ((BysM.elem (h.below a0) hl256 (k:=6) (by omega)).2) ?_
 refine xg 2 [50,51] ((↑(l.getD 6 0).toNat:Int) != (0:Int)) (fun a1=>?_) (fun a1=>?_)
 ·have a1:=Kh a1
  refine xe 16 (.tuple #[S0,V0 7]) ?_
  have b2:Jr kind no l 5=true:=bne_iff_ne.2 (by have d3:Zh l 6 2=(l.getD 6 0).toNat+256*(l.getD 7 0).toNat:=raw2 l 6;omega)
  have he:Xy kind no l=7:=by simp[Xy,a2,a9,a4,a8,b1,b2]
  exact .inl ⟨by rw[he];decide,by rw[he],a0⟩
 have a1:=Xr a1
 refine xx 1 _ 256 7 1 (BysM.elem h hl256 (k:=7) (by omega)).1 ?_
 refine xl 0 ((BysM.elem (h.below a0) hl256 (k:=7) (by omega)).2) ?_
 refine xin 4 (↑(l.getD 7 0).toNat:Int) (0:Int) (fun c8=>?_) (fun c8=>?_)
 ·refine xe 8 (.tuple #[S0,V0 7]) ?_
  have b2:Jr kind no l 5=true:=bne_iff_ne.2 (by have d3:Zh l 6 2=(l.getD 6 0).toNat+256*(l.getD 7 0).toNat:=raw2 l 6;omega)
  have he:Xy kind no l=7:=by simp[Xy,a2,a9,a4,a8,b1,b2]
  exact .inl ⟨by rw[he];decide,by rw[he],a0⟩
 refine xb0 4 5 fun e3 e4 b4=>?_
 have e0:=b4.ge a0
 have b5:=Zb (Zb b0 d2) d0
 have c0:=Xa b5 b4
 refine xsB 1 (fun _ _ _ _ _ zo zx zy zz V=>Yu (k:=8) (h:=252) (b:=a) (n:=256) (c:=c) (i:=8) (ki:=.i64) (j:=252) (kj:=.i64) 1 zo zx zy rfl zz rfl (by omega) (by omega) Tryz.underlying22 (by kernel_rfl) V) ?_
 have d7:=Zp (size:=1) (n:=0) b4.blk e0 rfl (by decide)
 have a3:=bln a0 b4.below
 refine xbi 0 fun _ _ _ _ zJ zQ zo zx zy zK=>Zo (m:=(252-8)) (news:=(((l.drop 8).take (252-8)).map bv)) (.int .u8 0) 1 1 (244) ((((l.drop 8).take 244).map bv)) zo Tryz.underlying22 (by kernel_rfl) rfl (by decide) zx d7 zy (slN_of ((Bys.cut h hl256 8 252 (by decide) (by decide)).below a3) (by simp;omega)) (by simp;omega) (Yw _) (by unfold maxLen;omega) (by omega) a3.size (by rfl) (by rfl) fun b8 c6 e2 d9 d6 c5=>?_
 refine zK _ _ ?_
 have c1:=a3.trans c5
 refine xe 5 (.tuple #[.slice b8 244 c6,V0 0]) ?_
 have b2:Jr kind no l 5=false:=by have d3:Zh l 6 2=(l.getD 6 0).toNat+256*(l.getD 7 0).toNat:=raw2 l 6;exact bne_eq_false_iff_eq.2 (by omega)
 exact .inr ⟨by simp[Xy,a2,a9,a4,a8,b1,b2],_,_,rfl,c1,d9⟩
theorem ref_Open(kind no:Int)(a:O0)(n c:Nat)(l:Bl)(w:World)(hn:l.length=n)(h:Bys w (.slice a n c) l):C0 81 #[.slice a n c,V0 kind,V0 no] w (OpenP kind no l w):=by
 by_cases hl:l.length=256
 ·obtain rfl:n=256:=by omega
  exact Za3 kind no a c l w hl h
 ·subst hn;exact Zb4 kind no a c l w hl h
theorem Sl.cap{w:World}{b:O0}{n c:Nat}{xs:List Value}(h:Sl w (.slice b n c) n xs):n≤c:=by
 rcases h with ⟨a',c',h1,h2,_⟩|⟨b',a0,cap,h1,h2,_,_⟩
 ·omega
 ·simp only[Value.slice.injEq] at h1;omega
def Gs(b:Bool):Int:=if b then 1 else 0
theorem Ts(b:Bool):0≤Gs b∧Gs b<256:=by cases b<;>decide
structure NodeOk(t:Int)(leaf:Bool)(n m v:Nat)(K:List Int)(Vs:List (List UInt8)):Prop where
 ht1:1≤t
 ht2:t≤5
 hm:Qi t leaf=m
 hv:Ht t leaf=v
 hK:K.length=n
 hV:Vs.length=n
 hn:n≤m
 hl:leaf=false→1≤n
 hk0:∀ i,i<n→0≤K.getD i 0∧K.getD i 0≤281474976710655
 hk1:∀ j,j+1<n→K.getD j 0<K.getD (j+1) 0
 hw:∀ i,i<n→(Vs.getD i []).length=v
theorem Ez(t:Int)(leaf:Bool):4≤Ht t leaf∧Ht t leaf≤24:=by
 unfold Ht
 repeat' split
 all_goals decide
theorem fitN(t:Int)(leaf:Bool):12+Qi t leaf*8+Qi t leaf*Ht t leaf≤244:=by
 unfold Ht Qi
 repeat' split
 all_goals decide
theorem Zap{K:List Int}{i j:Nat}(h:j<i):(K.take i).getD j 0=K.getD j 0:=by simp[List.getD,List.getElem?_take_of_lt h]
theorem Dr(t:Int)(leaf:Bool)(m:Nat)(hm:Qi t leaf=m)(h1:1≤t)(h2:t≤5)(w:World):C0 179 #[V0 t,.bool leaf] w (Ret (V0 (m:Int)) w):=by
 subst hm;exact Dj t leaf h1 h2 w
theorem Nk(t:Int)(leaf:Bool)(v:Nat)(hv:Ht t leaf=v)(h1:1≤t)(h2:t≤5)(w:World):C0 178 #[V0 t,.bool leaf] w (Ret (V0 (v:Int)) w):=by
 subst hv;exact Te t leaf h1 h2 w
theorem node_flag(leaf:Bool)(w:World) :
 C0 203 #[.bool leaf] w (Ret (V0 (Gs leaf)) w):=by
 refine zin 4 Tryz.func203 ?_
 refine xi 11 leaf (fun a0=>?_) (fun a0=>?_)
 ·exact xe 7 (V0 1) ⟨by simp_all [Gs],(B4 w)⟩
 exact xe 8 (V0 0) ⟨by simp_all [Gs],(B4 w)⟩
theorem Zdb(a:O0)(i c:Nat)(L:List Int)(k:Int)(w:World)(hL:L.length=i)(h:Sl w (.slice a i c) i (L.map V0))(h1:0≤k)(h2:k≤281474976710655)(h3:∀ j,i=j+1→L.getD j 0<k)(hi:i≤1000) :
 C0 181 #[.slice a i c,V0 k] w (Ret (V0 0) w):=by
 refine zin 26 Tryz.func181 ?_
 refine xgk 12 [7,8] (show(decide (k<(0:Int)):Bool)=false from decide_eq_false (by omega)) ?_
 refine xk 6 (show(decide (k>(281474976710655:Int)):Bool)=false from decide_eq_false (by omega)) ?_
 refine xg 6 [15,16] (decide ((i:Int)>(0:Int))) (fun a0=>?_) (fun a0=>?_)
 ·have a0:=of_decide_eq_true a0
  refine xwm 3 ((i:Int)-1) (↑(i-1):Int) ?_
  refine xx 0 _ i (i-1) 1 (IntsN.elem h hL (k:=(i-1)) (by omega)).1 ?_
  refine xl 0 ((IntsN.elem h hL (k:=(i-1)) (by omega)).2) ?_
  refine xk 6 (show(decide ((L.getD (i-1) 0)≥k):Bool)=false from decide_eq_false (by have:=h3 (i-1) (by omega);omega)) ?_
  exact xe 9 (V0 0) ⟨rfl,(B4 w)⟩
 have a0:=of_decide_eq_false a0
 exact xe 22 (V0 0) ⟨rfl,(B4 w)⟩
theorem node_Right(t:Int)(leaf:Bool)(n m v:Nat)(K:List Int)(Vs:List Bl)(ak av:O0)(ck cv:Nat)(w:World)(N:NodeOk t leaf n m v K Vs)(hKs:Sl w (.slice ak n ck) n (K.map V0))(hVs:Sl w (.slice av n cv) n (Vs.map sv)) :
 C0 202 #[.agg #[V0 t,.bool leaf,.slice ak n ck,.slice av n cv]] w (Ret (.bool true) w):=by
 have b9:=N.ht1
 have c0:=N.ht2
 have d0:=N.hn
 have c2:=Ez t leaf
 rw[N.hv] at c2
 have c6:=Qh t leaf
 rw[N.hm] at c6
 have b3:=fitN t leaf
 rw[N.hm,N.hv] at b3
 have c4:=Sl.cap hKs
 refine zin 70 Tryz.func202 ?_
 refine xa 2 [V0 t,.bool leaf,.slice ak n ck,.slice av n cv] 140 fun b1 W1 n1=>?_
 refine xb 6 0 n1.blk ?_
 refine xb 1 1 n1.blk ?_
 refine xr 0 (args:=#[V0 t,.bool leaf]) (Nk t leaf v N.hv b9 c0 _) fun W2 b4=>?_
 refine xd 5 .z ?_
 refine xgk (.b [0,1,2]) [12,13] (show(((v:Int)==(0:Int)):Bool)=false from by simp;omega) ?_
 have a5:=(n1.blk.below b4).below (Za W2)
 refine xb (.e [3] 4) 2 a5 ?_
 refine xb (.e [5,6] 7) 0 a5 ?_
 refine xb (.e [8] 9) 1 a5 ?_
 refine xr (.o [] 10) (args:=#[V0 t,.bool leaf]) (Dr t leaf m N.hm b9 c0 _) fun W4 b6=>?_
 refine xgk (.b [11,12,13]) [22,23,24] (show(decide ((n:Int)>(m:Int)):Bool)=false from decide_eq_false (by omega)) ?_
 have a0:=a5.below b6
 refine xb (.e [14] 15) 3 a0 ?_
 refine xb (.e [16,17] 18) 2 a0 ?_
 refine xgk (.b [19,20,21,22]) [31,32,33] (show(((n:Int) != (n:Int)):Bool)=false from by simp) ?_
 refine xb (.e [23] 24) 1 a0 ?_
 refine xg (.b [25,26]) [36,37] (!leaf) (fun c3=>?_) (fun c3=>?_)
 ·refine xb (.e [27] 28) 2 a0 ?_
  refine xk (.r [29,30,31,32] 2) (show(((n:Int)==(0:Int)):Bool)=false from by have:=N.hl (by simp_all);simp;omega) ?_
  refine xb 6 2 a0 ?_
  have hB:=bln (bln (bln n1.below b4) (Za W2)) b6
  refine zl 5 70 (fun zm b7 V=>∃ (i:Nat),b7=[(1,P0 b1),(3,V0 (v:Int)),(45,.slice ak n ck),(46,V0 (n:Int)),(47,V0 (i:Int))]∧zm=n-((i:Int)).toNat∧B3 w V∧Blk V b1 ([V0 t,.bool leaf,.slice ak n ck,.slice av n cv]) 140∧i≤n) ⟨0,rfl,rfl,hB,a0,Nat.zero_le _⟩ ?_
  rintro _ _ W8 ⟨i,rfl,rfl,a6,a7,hi⟩ J8 c1 r8
  refine xid 6 ((i:Int)<(n:Int)) (fun c5=>?_) (fun c5=>?_)
  ·refine xx 7 _ n i 1 (IntsN.elem hKs N.hK (k:=i) (by omega)).1 ?_
   refine xl 0 ((IntsN.elem (hKs.below a6) N.hK (k:=i) (by omega)).2) ?_
   refine xb 7 2 a7 ?_
   refine xsH 1 (fun _ _ _ _ zo zx zy V=>Qr (k:=i) (b:=ak) (n:=n) (c:=ck) (i:=(i:Int)) (ki:=.i64) zo zx zy rfl (by omega) Tryz.underlying28 (by kernel_rfl) V) ?_
   refine xr 1 (args:=#[.slice ak i ck,V0 (K.getD i 0)]) (Zdb ak i ck (K.take i) (K.getD i 0) _ (by rw[List.length_take,N.hK];omega) (by rw[List.map_take];exact(hKs.below a6).head (by simpa using N.hK) i (by omega)) (N.hk0 i (by omega)).1 (N.hk0 i (by omega)).2 (fun j e=>by subst e;rw[Zap (by omega)];exact N.hk1 j (by omega)) (by omega)) fun c7 a8=>?_
   have a2:=a7.below a8
   refine xb 3 3 a2 ?_
   refine xx 1 _ n i 1 (Strs.elem hVs N.hV (k:=i) (by omega)).1 ?_
   have a9:=bln a6 a8
   refine xl 0 ((Strs.elem (hVs.below a9) N.hV (k:=i) (by omega)).2) ?_
   refine xk 6 (show(((↑(Vs.getD i []).length:Int) != (v:Int)):Bool)=false from by rw[N.hw i (by omega)];simp) ?_
   refine xw 4 ((i:Int)+1) ?_
   exact ze 2 (c1 _ _ _ ⟨i+1,rfl,rfl,a9,a2,by omega⟩ (by omega))
  exact xe 11 (.bool true) ⟨rfl,a6⟩
 refine xb (.r [27,28,29,30,31,32] 9) 2 a0 ?_
 have hB:=bln (bln (bln n1.below b4) (Za W2)) b6
 refine zl 5 70 (fun zm b7 V=>∃ (i:Nat),b7=[(1,P0 b1),(3,V0 (v:Int)),(45,.slice ak n ck),(46,V0 (n:Int)),(47,V0 (i:Int))]∧zm=n-((i:Int)).toNat∧B3 w V∧Blk V b1 ([V0 t,.bool leaf,.slice ak n ck,.slice av n cv]) 140∧i≤n) ⟨0,rfl,rfl,hB,a0,Nat.zero_le _⟩ ?_
 rintro _ _ d2 ⟨i,rfl,rfl,a3,a4,hi⟩ c8 b5 c9
 refine xid 6 ((i:Int)<(n:Int)) (fun b8=>?_) (fun b8=>?_)
 ·refine xx 7 _ n i 1 (IntsN.elem hKs N.hK (k:=i) (by omega)).1 ?_
  refine xl 0 ((IntsN.elem (hKs.below a3) N.hK (k:=i) (by omega)).2) ?_
  refine xb 7 2 a4 ?_
  refine xsH 1 (fun _ _ _ _ zo zx zy V=>Qr (k:=i) (b:=ak) (n:=n) (c:=ck) (i:=(i:Int)) (ki:=.i64) zo zx zy rfl (by omega) Tryz.underlying28 (by kernel_rfl) V) ?_
  refine xr 1 (args:=#[.slice ak i ck,V0 (K.getD i 0)]) (Zdb ak i ck (K.take i) (K.getD i 0) _ (by rw[List.length_take,N.hK];omega) (by rw[List.map_take];exact(hKs.below a3).head (by simpa using N.hK) i (by omega)) (N.hk0 i (by omega)).1 (N.hk0 i (by omega)).2 (fun j e=>by subst e;rw[Zap (by omega)];exact N.hk1 j (by omega)) (by omega)) fun d1 b2=>?_
  have a1:=a4.below b2
  refine xb 3 3 a1 ?_
  refine xx 1 _ n i 1 (Strs.elem hVs N.hV (k:=i) (by omega)).1 ?_
  have b0:=bln a3 b2
  refine xl 0 ((Strs.elem (hVs.below b0) N.hV (k:=i) (by omega)).2) ?_
  refine xk 6 (show(((↑(Vs.getD i []).length:Int) != (v:Int)):Bool)=false from by rw[N.hw i (by omega)];simp) ?_
  refine xw 4 ((i:Int)+1) ?_
  exact ze 2 (b5 _ _ _ ⟨i+1,rfl,rfl,b0,a1,by omega⟩ (by omega))
 exact xe 11 (.bool true) ⟨rfl,a3⟩
def widG(t:Int)(leaf:Bool):Nat:=if 1≤t∧t≤5 then Ht t leaf else 0
def Zfy(t:Int)(leaf:Bool):Nat:=if 1≤t∧t≤5 then Qi t leaf else 0
theorem fitG(t:Int)(leaf:Bool):12+Zfy t leaf*8+Zfy t leaf*widG t leaf≤244:=by
 unfold Zfy widG;split
 ·exact fitN t leaf
 ·decide
theorem Zbu(t:Int)(leaf:Bool):Zfy t leaf≤18:=by
 unfold Zfy;split
 ·exact(Qh t leaf).2
 ·decide
theorem Zbc(t:Int)(leaf:Bool):widG t leaf≤24:=by
 unfold widG;split
 ·exact(Ez t leaf).2
 ·decide
theorem Pl(t:Int)(leaf:Bool)(w:World)(h:¬ (1≤t∧t≤5)) :
 C0 178 #[V0 t,.bool leaf] w (Ret (V0 0) w):=by
 refine zin 31 Tryz.func178 ?_
 refine xg 17 [8,9] (decide (t<(1:Int))) (fun a0=>?_) (fun a0=>?_)
 ·have a0:=of_decide_eq_true a0
  exact xe 15 (V0 0) ⟨rfl,(B4 w)⟩
 have a0:=of_decide_eq_false a0
 refine xk 6 (show(decide (t>(5:Int)):Bool)=true from decide_eq_true (by omega)) ?_
 exact xe 8 (V0 0) ⟨rfl,(B4 w)⟩
theorem Pz(t:Int)(leaf:Bool)(w:World):C0 178 #[V0 t,.bool leaf] w (Ret (V0 (widG t leaf:Int)) w):=by
 unfold widG
 by_cases h:1≤t∧t≤5
 ·rw[if_pos h];exact Te t leaf h.1 h.2 w
 ·rw[if_neg h];exact Pl t leaf w h
theorem Of(t:Int)(leaf:Bool)(w:World)(h:¬ (1≤t∧t≤5)) :
 C0 179 #[V0 t,.bool leaf] w (Ret (V0 0) w):=by
 refine zin 16 Tryz.func179 ?_
 refine xr 9 (args:=#[V0 t,.bool leaf]) (Pl t leaf _ h) fun W1 a0=>?_
 exact xe 18 (V0 0) ⟨rfl,a0⟩
theorem Zah(t:Int)(leaf:Bool)(w:World):C0 179 #[V0 t,.bool leaf] w (Ret (V0 (Zfy t leaf:Int)) w):=by
 unfold Zfy
 by_cases h:1≤t∧t≤5
 ·rw[if_pos h];exact Dj t leaf h.1 h.2 w
 ·rw[if_neg h];exact Of t leaf w h
def Zfd(L:List Int)(i:Nat)(k:Int):Int:=if k<0∨281474976710655<k then 2 else if 0<i∧k≤L.getD (i-1) 0 then 8 else 0
def Yx(l:Bl):Int:=(Zh l 1 1:Int)
def Yb(l:Bl):Bool:=(Zh l 0 1:Int)==(1:Int)
def Xf(l:Bl):Nat:=Zh l 2 2
def Xg(l:Bl):Nat:=widG (Yx l) (Yb l)
def Xh(l:Bl):Nat:=Zfy (Yx l) (Yb l)
def Qv(l:Bl):Bool:=decide (Zh l 0 1≤1∧Xg l≠0∧Zh l 2 2≤Xh l∧Zh l 4 2=Xg l∧Zh l 6 2=Xh l∧Zh l 8 4=0∧(Zh l 0 1=1∨0<Zh l 2 2))
def ShapeP(l:Bl)(w:World)(e:Ending)(w':World):Prop :=
 (Qv l=false∧∃ a b c,e=.returned (.tuple #[.agg #[V0 a,.bool b,S0,S0],V0 c,.bool false])∧B3 w w') ∨
 (Qv l=true∧e=.returned (.tuple #[.agg #[V0 (Yx l),.bool (Yb l),S0,S0],V0 (Xf l:Int),.bool true])∧B3 w w')
theorem Ly(a:O0)(n c:Nat)(l:Bl)(aw:O0)(cw m:Nat)(ws:List Nat)(xs:List Nat)(W:World)(hn:l.length=n)(hm:ws.length=m)(hx:Jk l 0 ws=xs)(hk:∀ i,i<ws.length→ws.getD i 0=1∨ws.getD i 0=2∨ws.getD i 0=4∨ws.getD i 0=8)(hs:ws.sum≤n)(hl:n≤100000000)(hw:ws.length≤1000)(h:Bys W (.slice a n c) l)(hws:Sl W (.slice aw m cw) m (ws.map nv))(hq:∀ i,i<ws.length→(Jk l 0 ws).getD i 0<9223372036854775808) :
 C0 127 #[.slice a n c,.slice aw m cw] W (Qd (fun w' r=>∃ p c,r=.tuple #[.slice p m c,V0 0]∧w'.ownsRow W.heap.size 3 1 (.slice p m c) m (xs.map nv)) W):=by
 subst hn hm hx;exact Oa a c l aw cw ws W hk hs hl hw h hws hq
def Xv(l:Bl):List Nat:=[Zh l 0 1,Zh l 1 1,Zh l 2 2,Zh l 4 2,Zh l 6 2,Zh l 8 4]
theorem Zem(l:Bl)(i:Nat)(hi:i<6):(Jk l 0 [1,1,2,2,2,4]).getD i 0<9223372036854775808:=by
 have h1:=Yg l 0 1 (by decide)
 have h2:=Yg l 1 1 (by decide)
 have h3:=Yg l 2 2 (by decide)
 have h4:=Yg l 4 2 (by decide)
 have h5:=Yg l 6 2 (by decide)
 have h6:=Yg l 8 4 (by decide)
 obtain rfl|rfl|rfl|rfl|rfl|rfl:i=0∨i=1∨i=2∨i=3∨i=4∨i=5:=by omega
 all_goals simp[Jk]
 all_goals omega
theorem Zge(a:O0)(c:Nat)(l:Bl)(w:World)(hl:l.length=244)(h:Bys w (.slice a 244 c) l) :
 C0 177 #[.slice a 244 c] w (ShapeP l w):=by
 refine zin 92 Tryz.func177 ?_
 refine xa 2 [V0 0,.bool false,S0,S0] 140 fun b1 W1 n1=>?_
 refine xbs 18 6 [V0 1,V0 1,V0 2,V0 2,V0 2,V0 4] 3 fun b2 W2 n2=>?_
 have hB:=bln n1.below n2.below
 refine xc 0 (args:=#[.slice a 244 c,.slice (S1 b2) 6 6]) (Ly a 244 c l (S1 b2) 6 6 [1,1,2,2,2,4] (Xv l) _ hl rfl rfl (by decide) (by decide) (by decide) (by decide) (h.below hB) (n2.blk.sl 6 6 (by decide) (by decide)) (Zem l)) ?_
 rintro _ W3 ⟨_,rfl,f4,p5,c5,rfl,h5⟩
 have g8:=(bln n1.below n2.below).size
 refine xd 8 (.t w.heap.size [140]) ?_
 have a9:=Zb (Ze h5 g8) (Za W3)
 refine xx (.e [0] 1) _ 6 1 1 (Zl (l:=Xv l) (Zd a9) rfl (k:=1) (by decide)).1 ?_
 refine xlt (.e [] 2) (.t w.heap.size [140]) (fun V hV=>(Zl (l:=Xv l) (Zd (Zr a9 hV.2 (by decide))) rfl (k:=1) (by decide)).2) ?_
 refine xx (.e [3] 4) _ 6 0 1 (Zl (l:=Xv l) (Zd a9) rfl (k:=0) (by decide)).1 ?_
 refine xlt (.e [] 5) (.t w.heap.size [140]) (fun V hV=>(Zl (l:=Xv l) (Zd (Zr a9 hV.2 (by decide))) rfl (k:=0) (by decide)).2) ?_
 refine xa (.o [6,7] 8) [V0 0,.bool false,S0,S0] 140 fun b4 W4 n4=>?_
 have k1:=((n1.blk.below n2.below).below f4).below (Za W3)
 have a3:=n4.ne k1
 have a5:=bln (bln hB f4) (Za W3)
 have g4:=n4.ge a5
 refine ysv (.o [] 9) n4.blk [V0 (↑(Zh l 1 1):Int),.bool ((↑(Zh l 0 1):Int)==(1:Int)),S0,S0] (.t w.heap.size [140]) fun W5 u5 k5=>⟨(Zi u5 n4.blk g4 (by decide)),?_⟩
 have b7:=u5.own2 (Zb a9 n4.below) n4.blk (by decide)
 refine xx 6 _ 6 0 1 (Zl (l:=Xv l) (Zd b7) rfl (k:=0) (by decide)).1 ?_
 refine xl 0 ((Zl (l:=Xv l) (Zd b7) rfl (k:=0) (by decide)).2) ?_
 refine xg 2 [32,33] (decide ((↑(Zh l 0 1):Int)>(1:Int))) (fun d1=>?_) (fun d1=>?_)
 ·have d1:=of_decide_eq_true d1
  have d8:=u5.blk (k1.below n4.below) (Ne.symm (Ne.symm a3))
  refine xsv 13 d8 [V0 0,.bool false,S0,S0] fun W7 u7 k7=>?_
  have g1:=n1.ge (B4 w)
  have e0:=u7.below (u5.below (bln a5 n4.below) g4) g1
  exact xec 6 k7 (.tuple #[.agg #[V0 0,.bool false,S0,S0],V0 0,.bool false]) (.inl ⟨decide_eq_false (by omega),_,_,_,rfl,e0⟩)
 have d1:=of_decide_eq_false d1
 refine xb 1 0 k5 ?_
 refine xb 1 1 k5 ?_
 refine xr 0 (args:=#[V0 (↑(Zh l 1 1):Int),.bool ((↑(Zh l 0 1):Int)==(1:Int))]) (Pz (Yx l) (Yb l) _) fun W8 a7=>?_
 refine xie 4 (↑(Xg l):Int) (0:Int) (fun g2=>?_) (fun g2=>?_)
 ·have d6:=(u5.blk (k1.below n4.below) (Ne.symm (Ne.symm a3))).below a7
  refine xsv 3 d6 [V0 0,.bool false,S0,S0] fun h1 g7 g6=>?_
  have g1:=n1.ge (B4 w)
  have d5:=g7.below (bln (u5.below (bln a5 n4.below) g4) a7) g1
  exact xec 6 g6 (.tuple #[.agg #[V0 0,.bool false,S0,S0],V0 0,.bool false]) (.inl ⟨decide_eq_false (by omega),_,_,_,rfl,d5⟩)
 refine xd 3 .z ?_
 have a6:=(k5.below a7).below (Za W8)
 refine xb (.e [0] 1) 0 a6 ?_
 refine xb (.e [2] 3) 1 a6 ?_
 refine xb (.e [5] 6) 0 a6 ?_
 refine xb (.e [7] 8) 1 a6 ?_
 refine xr (.o [] 4) (args:=#[V0 (↑(Zh l 1 1):Int),.bool ((↑(Zh l 0 1):Int)==(1:Int))]) (Pz (Yx l) (Yb l) _) fun h2 a0=>?_
 refine xr (.o [] 9) (args:=#[V0 (↑(Zh l 1 1):Int),.bool ((↑(Zh l 0 1):Int)==(1:Int))]) (Zah (Yx l) (Yb l) _) fun a4 a1=>?_
 have a2:=Zb (Zb (Zb (Zb b7 a7) (Za W8)) a0) a1
 refine xx (.r [10,11] 5) _ 6 2 1 (Zl (l:=Xv l) (Zd a2) rfl (k:=2) (by decide)).1 ?_
 refine xl 0 ((Zl (l:=Xv l) (Zd a2) rfl (k:=2) (by decide)).2) ?_
 refine xg 3 [56,57] (decide ((↑(Zh l 2 2):Int)≤(↑(Xh l):Int))) (fun b5=>?_) (fun b5=>?_)
 ·have b5:=of_decide_eq_true b5
  refine xx 1 _ 6 3 1 (Zl (l:=Xv l) (Zd a2) rfl (k:=3) (by decide)).1 ?_
  refine xl 0 ((Zl (l:=Xv l) (Zd a2) rfl (k:=3) (by decide)).2) ?_
  refine xg 4 [62,63,64] ((↑(Zh l 4 2):Int)==(↑(Xg l):Int)) (fun b6=>?_) (fun b6=>?_)
  ·have b6:=eq_of_beq b6
   refine xx 1 _ 6 4 1 (Zl (l:=Xv l) (Zd a2) rfl (k:=4) (by decide)).1 ?_
   refine xl 0 ((Zl (l:=Xv l) (Zd a2) rfl (k:=4) (by decide)).2) ?_
   refine xg 4 [69,70,71] ((↑(Zh l 6 2):Int)==(↑(Xh l):Int)) (fun b3=>?_) (fun b3=>?_)
   ·have b3:=eq_of_beq b3
    refine xx 1 _ 6 5 1 (Zl (l:=Xv l) (Zd a2) rfl (k:=5) (by decide)).1 ?_
    refine xl 0 ((Zl (l:=Xv l) (Zd a2) rfl (k:=5) (by decide)).2) ?_
    refine xg 3 [75,76,77] ((↑(Zh l 8 4):Int)==(0:Int)) (fun a8=>?_) (fun a8=>?_)
    ·have a8:=eq_of_beq a8
     have b8:=(a6.below a0).below a1
     refine xb 1 1 b8 ?_
     refine xg 1 [27,37,45,50,79,80] ((↑(Zh l 0 1):Int)==(1:Int)) (fun b0=>?_) (fun b0=>?_)
     ·have b0:=eq_of_beq b0
      refine xd 10 (.t w.heap.size [140]) ?_
      have b9:=Zb a2 (Za a4)
      refine xx (.e [1] 2) _ 6 2 1 (Zl (l:=Xv l) (Zd b9) rfl (k:=2) (by decide)).1 ?_
      refine xlt (.e [] 3) (.t w.heap.size [140]) (fun V hV=>(Zl (l:=Xv l) (Zd (Zr b9 hV.2 (by decide))) rfl (k:=2) (by decide)).2) ?_
      have d4:=b8.below (Za a4)
      refine xlv (.o [4] 0) d4.rp ?_
      have c4:=(((((u5.blk (k1.below n4.below) (Ne.symm (Ne.symm a3))).below a7).below (Za W8)).below a0).below a1).below (Za a4)
      have g1:=n1.ge (B4 w)
      refine ysv (.o [] 5) c4 [V0 (↑(Zh l 1 1):Int),.bool ((↑(Zh l 0 1):Int)==(1:Int)),S0,S0] (.t w.heap.size [140]) fun h7 f2 f9=>⟨(Zi f2 c4 g1 (by decide)),?_⟩
      have e8:=f2.below (bln (bln (bln (bln (bln (u5.below (bln a5 n4.below) g4) a7) (Za W8)) a0) a1) (Za a4)) g1
      exact xec (.r [6,7] 3) f9 (.tuple #[.agg #[V0 (↑(Zh l 1 1):Int),.bool ((↑(Zh l 0 1):Int)==(1:Int)),S0,S0],V0 (↑(Zh l 2 2):Int),.bool true]) (.inr ⟨decide_eq_true (by omega),rfl,e8⟩)
     have b0:=Yf b0
     refine xx 1 _ 6 2 1 (Zl (l:=Xv l) (Zd a2) rfl (k:=2) (by decide)).1 ?_
     refine xl 0 ((Zl (l:=Xv l) (Zd a2) rfl (k:=2) (by decide)).2) ?_
     refine xd 7 (.t w.heap.size [140]) ?_
     have c7:=Zb a2 (Za a4)
     refine xx (.e [1] 2) _ 6 2 1 (Zl (l:=Xv l) (Zd c7) rfl (k:=2) (by decide)).1 ?_
     refine xlt (.e [] 3) (.t w.heap.size [140]) (fun V hV=>(Zl (l:=Xv l) (Zd (Zr c7 hV.2 (by decide))) rfl (k:=2) (by decide)).2) ?_
     have e2:=b8.below (Za a4)
     refine xlv (.o [4] 0) e2.rp ?_
     have c1:=(((((u5.blk (k1.below n4.below) (Ne.symm (Ne.symm a3))).below a7).below (Za W8)).below a0).below a1).below (Za a4)
     have g1:=n1.ge (B4 w)
     refine ysv (.o [] 5) c1 [V0 (↑(Zh l 1 1):Int),.bool ((↑(Zh l 0 1):Int)==(1:Int)),S0,S0] (.t w.heap.size [140]) fun h3 f5 f6=>⟨(Zi f5 c1 g1 (by decide)),?_⟩
     have d3:=f5.below (bln (bln (bln (bln (bln (u5.below (bln a5 n4.below) g4) a7) (Za W8)) a0) a1) (Za a4)) g1
     refine xec (.r [6,7] 3) f6 (.tuple #[.agg #[V0 (↑(Zh l 1 1):Int),.bool ((↑(Zh l 0 1):Int)==(1:Int)),S0,S0],V0 (↑(Zh l 2 2):Int),.bool (decide ((↑(Zh l 2 2):Int)>(0:Int)))]) ?_
     rcases Bool.eq_false_or_eq_true (decide ((↑(Zh l 2 2):Int)>(0:Int))) with hq|hq
     ·have f8:=of_decide_eq_true hq
      rw[hq];exact .inr ⟨decide_eq_true (by omega),rfl,d3⟩
     ·have f8:=of_decide_eq_false hq
      rw[hq];exact .inl ⟨decide_eq_false (by omega),_,_,_,rfl,d3⟩
    have a8:=Yf a8
    refine xd 13 (.t w.heap.size [140]) ?_
    have d2:=Zb a2 (Za a4)
    refine xx (.e [1] 2) _ 6 2 1 (Zl (l:=Xv l) (Zd d2) rfl (k:=2) (by decide)).1 ?_
    refine xlt (.e [] 3) (.t w.heap.size [140]) (fun V hV=>(Zl (l:=Xv l) (Zd (Zr d2 hV.2 (by decide))) rfl (k:=2) (by decide)).2) ?_
    have e6:=((a6.below a0).below a1).below (Za a4)
    refine xlv (.o [4] 0) e6.rp ?_
    have c2:=(((((u5.blk (k1.below n4.below) (Ne.symm (Ne.symm a3))).below a7).below (Za W8)).below a0).below a1).below (Za a4)
    have g1:=n1.ge (B4 w)
    refine ysv (.o [] 5) c2 [V0 (↑(Zh l 1 1):Int),.bool ((↑(Zh l 0 1):Int)==(1:Int)),S0,S0] (.t w.heap.size [140]) fun h6 f1 g5=>⟨(Zi f1 c2 g1 (by decide)),?_⟩
    have e4:=f1.below (bln (bln (bln (bln (bln (u5.below (bln a5 n4.below) g4) a7) (Za W8)) a0) a1) (Za a4)) g1
    exact xec (.r [6,7] 3) g5 (.tuple #[.agg #[V0 (↑(Zh l 1 1):Int),.bool ((↑(Zh l 0 1):Int)==(1:Int)),S0,S0],V0 (↑(Zh l 2 2):Int),.bool false]) (.inl ⟨decide_eq_false (by omega),_,_,_,rfl,e4⟩)
   have b3:=Yf b3
   refine xd 19 (.t w.heap.size [140]) ?_
   have c3:=Zb a2 (Za a4)
   refine xx (.e [1] 2) _ 6 2 1 (Zl (l:=Xv l) (Zd c3) rfl (k:=2) (by decide)).1 ?_
   refine xlt (.e [] 3) (.t w.heap.size [140]) (fun V hV=>(Zl (l:=Xv l) (Zd (Zr c3 hV.2 (by decide))) rfl (k:=2) (by decide)).2) ?_
   have e3:=((a6.below a0).below a1).below (Za a4)
   refine xlv (.o [4] 0) e3.rp ?_
   have d0:=(((((u5.blk (k1.below n4.below) (Ne.symm (Ne.symm a3))).below a7).below (Za W8)).below a0).below a1).below (Za a4)
   have g1:=n1.ge (B4 w)
   refine ysv (.o [] 5) d0 [V0 (↑(Zh l 1 1):Int),.bool ((↑(Zh l 0 1):Int)==(1:Int)),S0,S0] (.t w.heap.size [140]) fun g9 f0 g3=>⟨(Zi f0 d0 g1 (by decide)),?_⟩
   have d7:=f0.below (bln (bln (bln (bln (bln (u5.below (bln a5 n4.below) g4) a7) (Za W8)) a0) a1) (Za a4)) g1
   exact xec (.r [6,7] 3) g3 (.tuple #[.agg #[V0 (↑(Zh l 1 1):Int),.bool ((↑(Zh l 0 1):Int)==(1:Int)),S0,S0],V0 (↑(Zh l 2 2):Int),.bool false]) (.inl ⟨decide_eq_false (by omega),_,_,_,rfl,d7⟩)
  have b6:=Yf b6
  refine xd 26 (.t w.heap.size [140]) ?_
  have c8:=Zb a2 (Za a4)
  refine xx (.e [1] 2) _ 6 2 1 (Zl (l:=Xv l) (Zd c8) rfl (k:=2) (by decide)).1 ?_
  refine xlt (.e [] 3) (.t w.heap.size [140]) (fun V hV=>(Zl (l:=Xv l) (Zd (Zr c8 hV.2 (by decide))) rfl (k:=2) (by decide)).2) ?_
  have e1:=((a6.below a0).below a1).below (Za a4)
  refine xlv (.o [4] 0) e1.rp ?_
  have c9:=(((((u5.blk (k1.below n4.below) (Ne.symm (Ne.symm a3))).below a7).below (Za W8)).below a0).below a1).below (Za a4)
  have g1:=n1.ge (B4 w)
  refine ysv (.o [] 5) c9 [V0 (↑(Zh l 1 1):Int),.bool ((↑(Zh l 0 1):Int)==(1:Int)),S0,S0] (.t w.heap.size [140]) fun h4 f3 f7=>⟨(Zi f3 c9 g1 (by decide)),?_⟩
  have e5:=f3.below (bln (bln (bln (bln (bln (u5.below (bln a5 n4.below) g4) a7) (Za W8)) a0) a1) (Za a4)) g1
  exact xec (.r [6,7] 3) f7 (.tuple #[.agg #[V0 (↑(Zh l 1 1):Int),.bool ((↑(Zh l 0 1):Int)==(1:Int)),S0,S0],V0 (↑(Zh l 2 2):Int),.bool false]) (.inl ⟨decide_eq_false (by omega),_,_,_,rfl,e5⟩)
 have b5:=of_decide_eq_false b5
 refine xd 33 (.t w.heap.size [140]) ?_
 have c6:=Zb a2 (Za a4)
 refine xx (.e [1] 2) _ 6 2 1 (Zl (l:=Xv l) (Zd c6) rfl (k:=2) (by decide)).1 ?_
 refine xlt (.e [] 3) (.t w.heap.size [140]) (fun V hV=>(Zl (l:=Xv l) (Zd (Zr c6 hV.2 (by decide))) rfl (k:=2) (by decide)).2) ?_
 have e7:=((a6.below a0).below a1).below (Za a4)
 refine xlv (.o [4] 0) e7.rp ?_
 have c0:=(((((u5.blk (k1.below n4.below) (Ne.symm (Ne.symm a3))).below a7).below (Za W8)).below a0).below a1).below (Za a4)
 have g1:=n1.ge (B4 w)
 refine ysv (.o [] 5) c0 [V0 (↑(Zh l 1 1):Int),.bool ((↑(Zh l 0 1):Int)==(1:Int)),S0,S0] (.t w.heap.size [140]) fun h0 e9 g0=>⟨(Zi e9 c0 g1 (by decide)),?_⟩
 have d9:=e9.below (bln (bln (bln (bln (bln (u5.below (bln a5 n4.below) g4) a7) (Za W8)) a0) a1) (Za a4)) g1
 exact xec (.r [6,7] 3) g0 (.tuple #[.agg #[V0 (↑(Zh l 1 1):Int),.bool ((↑(Zh l 0 1):Int)==(1:Int)),S0,S0],V0 (↑(Zh l 2 2):Int),.bool false]) (.inl ⟨decide_eq_false (by omega),_,_,_,rfl,d9⟩)
theorem node_keyG(a:O0)(i c:Nat)(L:List Int)(k:Int)(w:World)(hL:L.length=i)(h:Sl w (.slice a i c) i (L.map V0))(hi:i≤1000) :
 C0 181 #[.slice a i c,V0 k] w (Ret (V0 (Zfd L i k)) w):=by
 refine zin 26 Tryz.func181 ?_
 refine xg 12 [7,8] (decide (k<(0:Int))) (fun a0=>?_) (fun a0=>?_)
 ·have a0:=of_decide_eq_true a0
  exact xe 15 (V0 2) ⟨by rw[show Zfd L i k=2 from by unfold Zfd;rw[if_pos (by omega)]],(B4 w)⟩
 have a0:=of_decide_eq_false a0
 refine xid 6 (k>(281474976710655:Int)) (fun a2=>?_) (fun a2=>?_)
 ·exact xe 8 (V0 2) ⟨by rw[show Zfd L i k=2 from by unfold Zfd;rw[if_pos (by omega)]],(B4 w)⟩
 refine xg 6 [15,16] (decide ((i:Int)>(0:Int))) (fun a1=>?_) (fun a1=>?_)
 ·have a1:=of_decide_eq_true a1
  refine xwm 3 ((i:Int)-1) (↑(i-1):Int) ?_
  refine xx 0 _ i (i-1) 1 (IntsN.elem h hL (k:=(i-1)) (by omega)).1 ?_
  refine xl 0 ((IntsN.elem h hL (k:=(i-1)) (by omega)).2) ?_
  refine xid 6 ((L.getD (i-1) 0)≥k) (fun a3=>?_) (fun a3=>?_)
  ·exact xe 8 (V0 8) ⟨by rw[show Zfd L i k=8 from by unfold Zfd;rw[if_neg (by omega),if_pos (by omega)]],(B4 w)⟩
  exact xe 9 (V0 0) ⟨by rw[show Zfd L i k=0 from by unfold Zfd;rw[if_neg (by omega),if_neg (by omega)]],(B4 w)⟩
 have a1:=of_decide_eq_false a1
 exact xe 22 (V0 0) ⟨by rw[show Zfd L i k=0 from by unfold Zfd;rw[if_neg (by omega),if_neg (by omega)]],(B4 w)⟩
def Cu(l:Bl)(i:Nat):Nat:=Zh l (12+i*8) 8
def Vy(l:Bl)(n:Nat):List Int:=(List.range n).map fun i=>(Cu l i:Int)
theorem Jw(l:Bl)(n:Nat):(Vy l n).length=n:=by simp[Vy]
theorem Lm(l:Bl)(n:Nat):Vy l (n+1)=Vy l n++[(Cu l n:Int)]:=by simp[Vy,List.range_succ]
theorem La(l:Bl){n i:Nat}(h:i<n):(Vy l n).getD i 0=(Cu l i:Int):=by simp[Vy,List.getD,List.getElem?_range h]
def Cj(l:Bl)(i:Nat):Bl:=(l.drop (12+Xh l*8+i*Xg l)).take (Xg l)
def Vx(l:Bl)(n:Nat):List Bl:=(List.range n).map (Cj l)
theorem Fw(l:Bl)(n:Nat):(Vx l n).length=n:=by simp[Vx]
theorem Jc(l:Bl)(n:Nat):Vx l (n+1)=Vx l n++[Cj l n]:=by simp[Vx,List.range_succ]
theorem Es(l:Bl){n i:Nat}(h:i<n):(Vx l n).getD i []=Cj l i:=by simp[Vx,List.getD,List.getElem?_range h]
def Pu(l:Bl)(i:Nat):Int:=if 281474976710655<Cu l i then 2 else if 0<i∧Cu l i≤Cu l (i-1) then 8 else 0
def Ye(l:Bl):Nat→Int
 | 0=>0
 | i+1=>if Ye l i≠0 then Ye l i else Pu l i
theorem Bp{l:Bl}{i:Nat}(h:Ye l i≠0):∀ n,i≤n→Ye l n=Ye l i
 | 0,h2=>by
  obtain rfl:i=0:=by omega
  rfl
 | n+1,h2=>by
   by_cases e:i=n+1
   ·rw[e]
   ·have ih:=Bp h n (by omega)
    rw[Ye,if_pos (by rw[ih];exact h),ih]
theorem Gh{l:Bl}{i n:Nat}(h:Ye l i=0)(he:Pu l i≠0)(hi:i<n):Ye l n=Pu l i:=by
 have e:Ye l (i+1)=Pu l i:=by rw[Ye,if_neg (by rw[h];decide)]
 rw[Bp (by rw[e];exact he) n hi,e]
theorem Qq{l:Bl}{i:Nat}(h:Ye l i=0)(he:Pu l i=0):Ye l (i+1)=0:=by rw[Ye,if_neg (by rw[h];decide),he]
theorem keyE_R{l:Bl}{i:Nat}:Zfd (Vy l i) i (Cu l i:Int)=Pu l i:=by
 unfold Zfd Pu
 by_cases h:281474976710655<Cu l i
 ·rw[if_pos (by omega),if_pos h]
 ·rw[if_neg (by omega),if_neg h]
  by_cases h2:0<i
  ·rw[La l (show i-1<i by omega)]
   by_cases h3:Cu l i≤Cu l (i-1)
   ·rw[if_pos (by omega),if_pos (by omega)]
   ·rw[if_neg (by omega),if_neg (by omega)]
  ·rw[if_neg (by omega),if_neg (by omega)]
def Ds(l:Bl):Nat:=12+Xf l*8
def Oc(l:Bl):Nat:=12+Xh l*8
def Fb(l:Bl):Nat:=Oc l+Xf l*Xg l
def Nv(l:Bl):Bool:=Qf ((l.drop (Ds l)).take (Oc l-Ds l))&&Qf ((l.drop (Fb l)).take (244-Fb l))
def Yk(l:Bl):Int:=if Qv l then(if Nv l then Ye l (Xf l) else 7) else 7
def NodeP(l:Bl)(w:World)(e:Ending)(w':World):Prop :=
 (Yk l≠0∧e=.returned (.tuple #[.agg #[V0 0,.bool false,S0,S0],V0 (Yk l)])∧B3 w w') ∨
 (Yk l=0∧∃ kp kc vp vc,e=.returned (.tuple #[.agg #[V0 (Yx l),.bool (Yb l),.slice kp (Xf l) kc,.slice vp (Xf l) vc],V0 0])∧B3 w w' ∧
  w'.ownsRow w.heap.size 3 1 (.slice kp (Xf l) kc) (Xf l) ((Vy l (Xf l)).map V0)∧w'.ownsRow w.heap.size 9 1 (.slice vp (Xf l) vc) (Xf l) ((Vx l (Xf l)).map sv))
theorem Vf{l:Bl}(h:Qv l=true):Xf l≤Xh l:=(of_decide_eq_true h).2.2.1
theorem Sm(a:O0)(n c:Nat)(l:Bl)(w:World)(hn:l.length=n)(hl:n≤100000000)(h:Bys w (.slice a n c) l):C0 180 #[.slice a n c] w (Ret (.bool (Qf l)) w):=by
 subst hn;exact code_Zero a c l w hl h
theorem valN_bys{a:O0}{c i:Nat}{l:Bl}{w:World}(h:Bys w (.slice a 244 c) l)(hl:l.length=244)(hb:12+Xh l*8+(i+1)*Xg l≤244)(hi:(i+1)*Xg l=i*Xg l+Xg l) :
 Bys w (.slice (Ke a (12+Xh l*8+i*Xg l) c 1) (12+Xh l*8+(i+1)*Xg l-(12+Xh l*8+i*Xg l)) (c-(12+Xh l*8+i*Xg l))) (Cj l i):=by
 have:=Bys.cut h hl (12+Xh l*8+i*Xg l) (12+Xh l*8+(i+1)*Xg l) (by omega) hb
 rw[show 12+Xh l*8+(i+1)*Xg l-(12+Xh l*8+i*Xg l)=Xg l by omega] at this ⊢
 exact this
theorem valN_lenN{i:Nat}{l:Bl}(hl:l.length=244)(hb:12+Xh l*8+(i+1)*Xg l≤244)(hi:(i+1)*Xg l=i*Xg l+Xg l):(Cj l i).length=12+Xh l*8+(i+1)*Xg l-(12+Xh l*8+i*Xg l):=by
 unfold Cj;simp only[List.length_take,List.length_drop];omega
def GetP(l:Bl)(k w:Nat)(W:World)(e:Ending)(w':World):Prop :=
 (Zh l k w<9223372036854775808∧e=.returned (.tuple #[V0 (Zh l k w:Int),V0 0])∧B3 W w')∨(¬ Zh l k w<9223372036854775808∧e=.returned (.tuple #[V0 0,V0 2])∧B3 W w')
theorem Get_P(a:O0)(n c k w:Nat)(l:Bl)(W:World)(hn:l.length=n)(hw:w=1∨w=2∨w=4∨w=8)(hk:k+w≤n)(hl:n≤100000000)(h:Bys W (.slice a n c) l)(wi:Int)(hwi:wi=(w:Int)) :
 C0 78 #[.slice a n c,V0 (k:Int),V0 wi] W (GetP l k w W):=by
 subst hn hwi
 by_cases hq:Zh l k w<9223372036854775808
 ·refine(Zeu a c k w l W hw hk hl h hq).mono ?_
  rintro e V ⟨rfl,hb⟩;exact .inl ⟨hq,rfl,hb⟩
 ·refine(Get_big a c k w l W hw hk hl h hq).mono ?_
  rintro e V ⟨rfl,hb⟩;exact .inr ⟨hq,rfl,hb⟩
theorem node_keyP(l:Bl)(a:O0)(i c:Nat)(w:World)(h:Sl w (.slice a i c) i ((Vy l i).map V0))(hi:i≤1000) :
 C0 181 #[.slice a i c,V0 (↑(Cu l i):Int)] w (fun e w'=>(Pu l i=0∧e=.returned (V0 0)∧B3 w w')∨(Pu l i≠0∧e=.returned (V0 (Pu l i))∧B3 w w')):=by
 refine(node_keyG a i c (Vy l i) (Cu l i) w (Jw l i) h hi).mono ?_
 rintro e W ⟨rfl,hb⟩
 rw[keyE_R]
 by_cases hz:Pu l i=0
 ·exact .inl ⟨hz,by rw[hz],hb⟩
 ·exact .inr ⟨hz,rfl,hb⟩
theorem node_Read(a:O0)(c:Nat)(l:Bl)(w:World)(hl:l.length=244)(h:Bys w (.slice a 244 c) l) :
 C0 124 #[.slice a 244 c] w (NodeP l w):=by
 have l5:=Bys.cap h hl
 refine zin 104 Tryz.func124 ?_
 refine xa 2 [V0 0,.bool false,S0,S0] 140 fun b1 W1 n1=>?_
 refine xc 6 (args:=#[.slice a 244 c]) (Zge a c l _ hl (h.below n1.below)) ?_
 rintro e W2 l9
 rcases l9 with ⟨hs,t0,l0,c0,rfl,f2⟩|⟨hs,rfl,f2⟩
 ·refine xa 4 [V0 0,.bool false,S0,S0] 140 fun b3 W3 n3=>?_
  have k1:=n1.blk.below f2
  have f9:=n3.ne k1
  have g8:=bln n1.below f2
  have g3:=n3.ge g8
  refine xsv 0 n3.blk [V0 t0,.bool l0,S0,S0] fun W4 u4 k4=>?_
  have i2:=u4.blk (k1.below n3.below) (Ne.symm (Ne.symm f9))
  refine xsv 15 i2 [V0 0,.bool false,S0,S0] fun W5 u5 k5=>?_
  have g1:=n1.ge (B4 w)
  have j4:=u5.below (u4.below (bln g8 n3.below) g3) g1
  refine xec 5 k5 (.tuple #[.agg #[V0 0,.bool false,S0,S0],V0 7]) ?_
  have he:Yk l=7:=by unfold Yk;simp[hs]
  exact .inl ⟨by rw[he];decide,by rw[he],j4⟩
 have m5:=Vf hs
 have j8:=fitG (Yx l) (Yb l)
 have j7:=Zbu (Yx l) (Yb l)
 have i3:=Zbc (Yx l) (Yb l)
 change 12+Xh l*8+Xh l*Xg l≤244 at j8
 change Xh l≤18 at j7
 change Xg l≤24 at i3
 have o4:Xf l*Xg l≤Xh l*Xg l:=Nat.mul_le_mul_right _ m5
 refine xa 4 [V0 0,.bool false,S0,S0] 140 fun b6 W6 n6=>?_
 have k1:=n1.blk.below f2
 have a2:=n6.ne k1
 have e7:=bln n1.below f2
 have g6:=n6.ge e7
 refine xsv 0 n6.blk [V0 (Yx l),.bool (Yb l),S0,S0] fun W7 u7 k7=>?_
 refine xd 15 .z ?_
 have c5:=k7.below (Za W7)
 refine xb (.e [0] 1) 0 c5 ?_
 refine xb (.e [2] 3) 1 c5 ?_
 refine xb (.e [5] 6) 0 c5 ?_
 refine xb (.e [7] 8) 1 c5 ?_
 refine xr (.o [] 4) (args:=#[V0 (Yx l),.bool (Yb l)]) (Pz (Yx l) (Yb l) _) fun W8 e9=>?_
 refine xr (.o [] 9) (args:=#[V0 (Yx l),.bool (Yb l)]) (Zah (Yx l) (Yb l) _) fun W9 e8=>?_
 refine xwm (.r [10,11] 5) ((↑(Xh l):Int)*8) (↑((Xh l)*8):Int) ?_
 refine xwm 0 (12+(↑((Xh l)*8):Int)) (↑(12+((Xh l)*8)):Int) ?_
 refine xwm 8 ((↑(Xf l):Int)*8) (↑((Xf l)*8):Int) ?_
 refine xwm 0 (12+(↑((Xf l)*8):Int)) (↑(12+((Xf l)*8)):Int) ?_
 refine xsB 1 (fun _ _ _ _ _ zo zx zy zz V=>Yu (k:=(12+((Xf l)*8))) (h:=(12+((Xh l)*8))) (b:=a) (n:=244) (c:=c) (i:=(↑(12+((Xf l)*8)):Int)) (ki:=.i64) (j:=(↑(12+((Xh l)*8)):Int)) (kj:=.i64) 1 zo zx zy rfl zz rfl (by omega) (by omega) Tryz.underlying22 (by kernel_rfl) V) ?_
 have e2:=bln (bln (bln (u7.below (bln e7 n6.below) g6) (Za W7)) e9) e8
 refine xr 0 (args:=#[.slice (Ke a (12+((Xf l)*8)) c 1) ((12+((Xh l)*8))-(12+((Xf l)*8))) (c-(12+((Xf l)*8)))]) (Sm (Ke a (12+((Xf l)*8)) c 1) ((12+((Xh l)*8))-(12+((Xf l)*8))) (c-(12+((Xf l)*8))) _ _ (by simp;omega) (by omega) ((Bys.cut h hl (12+((Xf l)*8)) (12+((Xh l)*8)) (by omega) (by omega)).below e2)) fun n4 b2=>?_
 refine xg 2 [42,43] (!(Qf ((l.drop (Ds l)).take (Oc l-Ds l)))) (fun e3=>?_) (fun e3=>?_)
 ·have h4:Qf ((l.drop (Ds l)).take (Oc l-Ds l))=false:=by simpa using e3
  have j6:=((((u7.blk (k1.below n6.below) (Ne.symm (Ne.symm a2))).below (Za W7)).below e9).below e8).below b2
  refine xsv 16 j6 [V0 0,.bool false,S0,S0] fun n8 m7 l7=>?_
  have g1:=n1.ge (B4 w)
  have i9:=m7.below (bln e2 b2) g1
  refine xec 5 l7 (.tuple #[.agg #[V0 0,.bool false,S0,S0],V0 7]) ?_
  have he:Yk l=7:=by unfold Yk;simp[hs,Nv,h4]
  exact .inl ⟨by rw[he];decide,by rw[he],i9⟩
 have h4:Qf ((l.drop (Ds l)).take (Oc l-Ds l))=true:=by simpa using e3
 refine xwm 4 ((↑(Xf l):Int)*(↑(Xg l):Int)) (↑((Xf l)*(Xg l)):Int) ?_
 refine xwm 0 ((↑(12+((Xh l)*8)):Int)+(↑((Xf l)*(Xg l)):Int)) (↑((12+((Xh l)*8))+((Xf l)*(Xg l))):Int) ?_
 refine xsL 0 (fun _ _ _ _ zo zx zy V=>Yl (k:=((12+((Xh l)*8))+((Xf l)*(Xg l)))) (b:=a) (n:=244) (c:=c) (i:=(↑((12+((Xh l)*8))+((Xf l)*(Xg l))):Int)) (ki:=.i64) 1 zo zx zy rfl (by omega) Tryz.underlying22 (by kernel_rfl) V) ?_
 have e0:=bln e2 b2
 refine xr 0 (args:=#[.slice (Ke a ((12+((Xh l)*8))+((Xf l)*(Xg l))) c 1) (244-((12+((Xh l)*8))+((Xf l)*(Xg l)))) (c-((12+((Xh l)*8))+((Xf l)*(Xg l))))]) (Sm (Ke a ((12+((Xh l)*8))+((Xf l)*(Xg l))) c 1) (244-((12+((Xh l)*8))+((Xf l)*(Xg l)))) (c-((12+((Xh l)*8))+((Xf l)*(Xg l)))) _ _ (by simp;omega) (by omega) ((Bys.cut h hl (12+((Xh l)*8)+((Xf l)*(Xg l))) 244 (by omega) (by omega)).below e0)) fun n9 b7=>?_
 refine xi 4 (!(Qf ((l.drop (Fb l)).take (244-Fb l)))) (fun e4=>?_) (fun e4=>?_)
 ·have j0:Qf ((l.drop (Fb l)).take (244-Fb l))=false:=by simpa using e4
  have k0:=(((((u7.blk (k1.below n6.below) (Ne.symm (Ne.symm a2))).below (Za W7)).below e9).below e8).below b2).below b7
  refine xsv 3 k0 [V0 0,.bool false,S0,S0] fun p8 l8 l4=>?_
  have g1:=n1.ge (B4 w)
  have i0:=l8.below (bln e0 b7) g1
  refine xec 5 l4 (.tuple #[.agg #[V0 0,.bool false,S0,S0],V0 7]) ?_
  have he:Yk l=7:=by unfold Yk;simp[hs,Nv,h4,j0]
  exact .inl ⟨by rw[he];decide,by rw[he],i0⟩
 have j0:Qf ((l.drop (Fb l)).take (244-Fb l))=true:=by simpa using e4
 have h7:Nv l=true:=by unfold Nv;rw[h4,j0];rfl
 have k3:=bln e0 b7
 have j2:=(((((u7.blk (k1.below n6.below) (Ne.symm (Ne.symm a2))).below (Za W7)).below e9).below e8).below b2).below b7
 have i8:=(((c5.below e9).below e8).below b2).below b7
 refine zl 10 104 (fun zm m2 V=>∃ (i:Nat) (kp:O0) (kc:Nat) (vp:O0) (vc:Nat),m2=[(0,.slice a 244 c),(2,P0 b1),(4,P0 b6),(7,V0 (↑(Xg l):Int)),(9,V0 (↑(12+((Xh l)*8)):Int)),(55,V0 (↑(Xf l):Int)),(56,V0 (i:Int))]∧zm=Xf l-((i:Int)).toNat∧B3 w V∧Blk V b1 ([V0 0,.bool false,S0,S0]) 140∧Blk V b6 ([V0 (Yx l),.bool (Yb l),.slice kp i kc,.slice vp i vc]) 140∧V.ownsRow w.heap.size 3 1 (.slice kp i kc) i ((Vy l i).map V0)∧V.ownsRow w.heap.size 9 1 (.slice vp i vc) i ((Vx l i).map sv)∧i≤Xf l∧Ye l i=0) ⟨0,none,0,none,0,rfl,rfl,k3,j2,i8,World.ownsRow_nil _ _ _ _,World.ownsRow_nil _ _ _ _,Nat.zero_le _,rfl⟩ ?_
 rintro _ _ o5 ⟨i,kp,kc,vp,vc,rfl,rfl,a8,a0,b8,hK,hV,hi,hz⟩ o1 h1 n7
 have k6:(i+1)*Xg l=i*Xg l+Xg l:=Nat.succ_mul i (Xg l)
 have m0:i<Xf l→(i+1)*Xg l≤Xh l*Xg l:=fun hh=>Nat.mul_le_mul_right _ (by omega)
 refine xid 6 ((i:Int)<(↑(Xf l):Int)) (fun i4=>?_) (fun i4=>?_)
 ·refine xwm 14 ((i:Int)*8) (↑(i*8):Int) ?_
  refine xwm 0 (12+(↑(i*8):Int)) (↑(12+(i*8)):Int) ?_
  refine xc 0 (args:=#[.slice a 244 c,V0 (↑(12+(i*8)):Int),V0 8]) (Get_P a 244 c (12+(i*8)) 8 l _ hl (by decide) (by omega) (by decide) (h.below a8) 8 rfl) ?_
  rintro e p3 j1
  rcases j1 with ⟨m1,rfl,a3⟩|⟨m1,rfl,a3⟩
  ·have a7:=b8.below a3
   refine xb 17 2 a7 ?_
   have g9:=Zb hK a3
   refine xc 1 (args:=#[.slice kp i kc,V0 (↑(Cu l i):Int)]) (node_keyP l kp i kc _ (Zd g9) (by omega)) ?_
   rintro e p4 j9
   rcases j9 with ⟨e6,rfl,a4⟩|⟨e6,rfl,a4⟩
   ·have a6:=a7.below a4
    refine xb 16 2 a6 ?_
    refine xbs 1 1 [V0 (↑(Cu l i):Int)] 3 fun q0 p0 c8=>?_
    have f3:=bln (bln a8 a3) a4
    have p6:=c8.ge f3
    have f6:=Zb g9 a4
    have h5:=Xa f6 c8
    have c4:=Zb f6 c8.below
    have d4:=bln f3 c8.below
    refine xbi 0 fun _ _ _ _ zJ zQ zo zx zy zK=>Zo (m:=1) (news:=[V0 (↑(Cu l i):Int)]) (V0 0) 1 8 (i+1) ((Vy l (i+1)).map V0) zo Tryz.underlying28 (by kernel_rfl) rfl (by decide) zx c4 zy (c8.blk.sl 1 1 (by decide) (by decide)) rfl (by simp[Value.oneCell']) (by unfold maxLen;omega) (by omega) d4.size (by rfl) (by rw[Lm,List.map_append];rfl) fun d9 e1 n2 k8 c9 h6=>?_
    refine zK _ _ ?_
    have a1:=(a6.below c8.below).grown c9 c4 (by decide)
    refine xs 1 a1 [V0 (Yx l),.bool (Yb l),.slice d9 (i+1) e1,.slice vp i vc] fun d8 e5 k9=>?_
    refine xd 2 (.t w.heap.size [9,140]) ?_
    refine xwm (.e [0,2,3,4,5] 6) ((i:Int)*(↑(Xg l):Int)) (↑(i*(Xg l)):Int) ?_
    refine xwm (.e [] 7) ((↑(12+((Xh l)*8)):Int)+(↑(i*(Xg l)):Int)) (↑((12+((Xh l)*8))+(i*(Xg l))):Int) ?_
    refine xwm (.e [8,9] 10) ((i:Int)+1) (↑(i+1):Int) ?_
    refine xwm (.e [11] 12) ((↑(i+1):Int)*(↑(Xg l):Int)) (↑((i+1)*(Xg l)):Int) ?_
    refine xwm (.e [] 13) ((↑(12+((Xh l)*8)):Int)+(↑((i+1)*(Xg l)):Int)) (↑((12+((Xh l)*8))+((i+1)*(Xg l))):Int) ?_
    refine xsB (.e [] 14) (fun _ _ _ _ _ zo zx zy zz V=>Yu (k:=((12+((Xh l)*8))+(i*(Xg l)))) (h:=((12+((Xh l)*8))+((i+1)*(Xg l)))) (b:=a) (n:=244) (c:=c) (i:=(↑((12+((Xh l)*8))+(i*(Xg l))):Int)) (ki:=.i64) (j:=(↑((12+((Xh l)*8))+((i+1)*(Xg l))):Int)) (kj:=.i64) 1 zo zx zy rfl zz rfl (by omega) (by omega) Tryz.underlying22 (by kernel_rfl) V) ?_
    have b4:=Zb (e5.own2 (Xc (Zb (Zb (Zb hV a3) a4) c8.below) c9 c4 (by decide)) a1 (by decide)) (Za d8)
    have a5:=bln (e5.below (d4.trans h6) g6) (Za d8)
    refine xcvt (.e [] 15) (.t w.heap.size [9,140]) (fun _ _ _ zo zx V b4=>Vb zo zx ((valN_bys h hl (by omega) k6).below (Gq a5 b4 (Nat.le_refl _))) (valN_lenN hl (by omega) k6) Tryz.underlying22 Tryz.underlying5 Tryz.underlying9) ?_
    refine xm2 0 1 16 ?_ ?_
    ·have d3:=k9.below (Za d8)
     refine xb 0 3 d3 ?_
     refine xbs (.o [] 16) 1 [.string ⟨(Cj l i).toArray⟩] 9 fun p7 o0 d1=>?_
     have p5:=d1.ge a5
     have i1:=Xa b4 d1
     have c3:=Zb b4 d1.below
     have d2:=bln a5 d1.below
     refine ybi (.o [] 17) (.t w.heap.size [9,140]) fun _ _ _ _ zJ zQ zo zx zy zK=>Zo (m:=1) (news:=[.string ⟨(Cj l i).toArray⟩]) (.string ⟨#[]⟩) 1 16 (i+1) ((Vx l (i+1)).map sv) zo Tryz.underlying60 (by kernel_rfl) rfl (by decide) zx c3 zy (d1.blk.sl 1 1 (by decide) (by decide)) rfl (by simp[Value.oneCell']) (by unfold maxLen;omega) (by omega) d2.size (by rfl) (by rw[Jc,List.map_append];rfl) fun i7 i5 n5 n0 d0 g7=>?_
     refine zK _ _ (Zn g7 d0 c3 (by decide)) ?_
     have b0:=(d3.below d1.below).grown d0 c3 (by decide)
     refine ys (.o [18] 19) b0 [V0 (Yx l),.bool (Yb l),.slice d9 (i+1) e1,.slice i7 (i+1) i5] (.t w.heap.size [9,140]) fun p2 g5 m4=>⟨(Zi g5 b0 g6 (by decide)),?_⟩
     refine xwm 4 ((i:Int)+1) (↑(i+1):Int) ?_
     have g2:=g5.below (d2.trans g7) g6
     have c6:=g5.blk ((((e5.blk ((((a0.below a3).below a4).below c8.below).grown c9 c4 (by decide)) (Ne.symm (Ne.symm a2))).below (Za d8)).below d1.below).grown d0 c3 (by decide)) (Ne.symm (Ne.symm a2))
     have h0:=g5.own2 (Xc (Zb (Zb (e5.own2 k8 a1 (by decide)) (Za d8)) d1.below) d0 c3 (by decide)) b0 (by decide)
     have f4:=g5.own2 n0 b0 (by decide)
     exact ze 2 (h1 _ _ _ ⟨i+1,_,_,_,_,rfl,rfl,g2,c6,m4,h0,f4,by omega,Qq hz e6⟩ (by omega))
    refine xbs 0 1 [.string ⟨(Cj l i).toArray⟩] 9 fun o3 p9 d6=>?_
    have o7:=d6.ge a5
    have h8:=Xa b4 d6
    have d7:=(k9.below (Za d8)).below d6.below
    refine xb (.o [] 1) 3 d7 ?_
    have b5:=Zb b4 d6.below
    have d5:=bln a5 d6.below
    refine ybi (.o [] 17) (.t w.heap.size [9,140]) fun _ _ _ _ zJ zQ zo zx zy zK=>Zo (m:=1) (news:=[.string ⟨(Cj l i).toArray⟩]) (.string ⟨#[]⟩) 1 16 (i+1) ((Vx l (i+1)).map sv) zo Tryz.underlying60 (by kernel_rfl) rfl (by decide) zx b5 zy (d6.blk.sl 1 1 (by decide) (by decide)) rfl (by simp[Value.oneCell']) (by unfold maxLen;omega) (by omega) d5.size (by rfl) (by rw[Jc,List.map_append];rfl) fun k2 h9 o6 l6 c7 f1=>?_
    refine zK _ _ (Zn f1 c7 b5 (by decide)) ?_
    have a9:=d7.grown c7 b5 (by decide)
    refine ys (.o [18] 19) a9 [V0 (Yx l),.bool (Yb l),.slice d9 (i+1) e1,.slice k2 (i+1) h9] (.t w.heap.size [9,140]) fun p1 f7 l3=>⟨(Zi f7 a9 g6 (by decide)),?_⟩
    refine xwm 4 ((i:Int)+1) (↑(i+1):Int) ?_
    have f5:=f7.below (d5.trans f1) g6
    have c1:=f7.blk ((((e5.blk ((((a0.below a3).below a4).below c8.below).grown c9 c4 (by decide)) (Ne.symm (Ne.symm a2))).below (Za d8)).below d6.below).grown c7 b5 (by decide)) (Ne.symm (Ne.symm a2))
    have f0:=f7.own2 (Xc (Zb (Zb (e5.own2 k8 a1 (by decide)) (Za d8)) d6.below) c7 b5 (by decide)) a9 (by decide)
    have h3:=f7.own2 l6 a9 (by decide)
    exact ze 2 (h1 _ _ _ ⟨i+1,_,_,_,_,rfl,rfl,f5,c1,l3,f0,h3,by omega,Qq hz e6⟩ (by omega))
   refine xk 10 (show(((Pu l i) != (0:Int)):Bool)=true from bne_iff_ne.2 e6) ?_
   have b9:=(a0.below a3).below a4
   refine xsv 4 b9 [V0 0,.bool false,S0,S0] fun o8 m9 m8=>?_
   have g1:=n1.ge (B4 w)
   have f8:=m9.below (bln (bln a8 a3) a4) g1
   refine xec 10 m8 (.tuple #[.agg #[V0 0,.bool false,S0,S0],V0 (Pu l i)]) ?_
   have he:Yk l=Pu l i:=by unfold Yk;rw[if_pos hs,if_pos h7,Gh hz e6 (by omega)]
   exact .inl ⟨by rw[he];exact e6,by rw[he],f8⟩
  have c2:=a0.below a3
  refine xsv 29 c2 [V0 0,.bool false,S0,S0] fun o9 m3 l2=>?_
  have g1:=n1.ge (B4 w)
  have h2:=m3.below (bln a8 a3) g1
  refine xec 10 l2 (.tuple #[.agg #[V0 0,.bool false,S0,S0],V0 2]) ?_
  have l1:Pu l i=2:=by unfold Pu;rw[if_pos (by unfold Cu;omega)]
  have he:Yk l=2:=by unfold Yk;rw[if_pos hs,if_pos h7,Gh hz (by rw[l1];decide) (by omega),l1]
  exact .inl ⟨by rw[he];decide,by rw[he],h2⟩
 refine xlv 7 b8.rp ?_
 refine xsv 0 a0 [V0 (Yx l),.bool (Yb l),.slice kp i kc,.slice vp i vc] fun o2 j5 m6=>?_
 have g1:=n1.ge (B4 w)
 have g0:=j5.below a8 g1
 have j3:=j5.own2 hK a0 (by decide)
 have i6:=j5.own2 hV a0 (by decide)
 refine xec 4 m6 (.tuple #[.agg #[V0 (Yx l),.bool (Yb l),.slice kp i kc,.slice vp i vc],V0 0]) ?_
 obtain rfl:i=Xf l:=by omega
 exact .inr ⟨by unfold Yk;rw[if_pos hs,if_pos h7,hz],_,_,_,_,rfl,g0,j3,i6⟩
end Go.Proofs.YthhilbkandcbmaaGreatDoor
