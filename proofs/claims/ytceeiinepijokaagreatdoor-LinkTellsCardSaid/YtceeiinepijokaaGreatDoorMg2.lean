/- Package alloc at an image of its own: New, Next, Lay, Left, Used. -/
import Derived.Lib.AppendZerosOnto
import Derived.Lib.BufferWrite
import Derived.Lib.AppendStr
import Derived.Laws.IdiomStrings
import Derived.Test.YtceeiinepijokaaGreatDoorMg1
namespace Go.Proofs.YtceeiinepijokaaGreatDoor
set_option maxHeartbeats 8000000
set_option maxRecDepth 100000
open Go.RowKit Go.Extern.Stop Go.Stop Go.Extern
set_option linter.unusedVariables false
attribute [local irreducible] wpList wpAnyH Code.wp Oper.wp Go
def Og(f j:Nat):List Int:=(List.range j).map fun i=>((f+i:Nat):Int)
theorem rngJ_succ(f j:Nat):Og f (j+1)=Og f j++[((f+j:Nat):Int)]:=by simp[Og,List.range_succ]
theorem rngJ_get{f N k:Nat}(h:k<N):(Og f N).getD k 0=((f+k:Nat):Int):=by simp[Og,List.getD,List.getElem?_range h]
theorem rngJ_len(f j:Nat):(Og f j).length=j:=by simp[Og]
structure Al(B ba b g n c:Nat)(pa:Option Addr)(ca f N k:Nat)(l:List UInt8)(w:World):Prop where
 blkA:Blk w ba [.slice pa N ca,.int .i64 (k:Int),.pointer (some ⟨b,0,none⟩)] 200
 blkI:Blk w b [.slice (some ⟨g,0,none⟩) n c] 80
 data:w.ownsRow B 5 1 (.slice (some ⟨g,0,none⟩) n c) n (l.map bv)
 nums:w.ownsRow B 3 1 (.slice pa N ca) N ((Og f N).map (Value.int .i64))
structure AlC(B ba n c ca f N:Nat):Prop where
 hn:n≤3686400
 hc:n≤c
 hca:N≤ca
 hf:f+N≤n/256
 hB:B≤ba
theorem alloc_New(b:Nat)(p0:O0)(n c f:Nat)(w:World)(hk:Blk w b [.slice p0 n c] 80)(hn:n≤3686400)(h1:1≤f)(h2:f≤n/256) :
 C0 53 #[P0 b,V0 (f:Int)] w (Qe (fun w' r=>∃ ba p c2,r=.tuple #[P0 ba,.nilIface]∧w.heap.size≤ba∧Blk w' ba [.slice p (n/256-f) c2,V0 0,P0 b] 200∧w'.ownsRow w.heap.size 3 1 (.slice p (n/256-f) c2) (n/256-f) ((Og f (n/256-f)).map V0)) w):=by
 refine zin 37 Tryz.func53 ?_
 refine xgk 16 [12,13,14] (show(decide ((f:Int)<(1:Int)):Bool)=false from decide_eq_false (by omega)) ?_
 refine xr 2 (args:=#[P0 b]) (Yu b p0 n c _ hk (by omega)) fun W2 b3=>?_
 refine xk 4 (show(decide ((f:Int)>(↑(n/256):Int)):Bool)=false from decide_eq_false (by omega)) ?_
 have b0:=hk.below b3
 refine zl 15 37 (fun zm b7 V=>∃ (j:Nat) (p:O0) (c2:Nat),b7=[(0,P0 b),(4,.pointer none),(5,.nilIface),(6,.slice p j c2),(7,V0 (↑(f+j):Int))]∧zm=n/256-((↑(f+j):Int)).toNat∧B3 w V∧Blk V b ([.slice p0 n c]) 80∧V.ownsRow w.heap.size 3 1 (.slice p j c2) j ((Og f j).map V0)∧f+j≤n/256) ⟨0,_,_,rfl,rfl,b3,b0,World.ownsRow_nil _ _ _ _,by omega⟩ ?_
 rintro _ _ W3 ⟨j,p,c2,rfl,rfl,a1,a3,ho,hj⟩ J3 b5 r3
 refine xr 5 (args:=#[P0 b]) (Yu b p0 n c _ a3 (by omega)) fun W4 a8=>?_
 refine xid 3 ((↑(f+j):Int)<(↑(n/256):Int)) (fun b9=>?_) (fun b9=>?_)
 ·refine xbs 7 1 [V0 (↑(f+j):Int)] 3 fun b6 W6 n6=>?_
  have a4:=bln a1 a8
  have g6:=n6.ge a4
  have a5:=Zb ho a8
  have b4:=Zn a5 n6
  have a2:=Zb a5 n6.below
  have a6:=bln a4 n6.below
  refine xbi 0 fun _ _ _ _ zJ zQ zo zx zy zK=>Zr (m:=1) (news:=[V0 (↑(f+j):Int)]) (V0 0) 1 8 (j+1) ((Og f (j+1)).map V0) zo Tryz.underlying34 (by kernel_rfl) rfl (by decide) zx a2 zy (n6.blk.sl 1 1 (by decide) (by decide)) rfl (by simp[Value.oneCell']) (by unfold maxLen;omega) (by omega) a6.size (by rfl) (by rw[rngJ_succ];simp) fun c4 c3 W7 o7 c1 c0=>?_
  refine zK _ _ ?_
  refine xwm 6 ((↑(f+j):Int)+1) (↑((f+j)+1):Int) ?_
  have b1:=a6.trans c0
  have a0:=((a3.below a8).below n6.below).grown c1 a2 (by decide)
  exact ze 2 (b5 _ _ _ ⟨j+1,_,_,rfl,rfl,b1,a0,o7,by omega⟩ (by omega))
 refine xa 11 [.slice p j c2,V0 0,P0 b] 200 fun b8 W8 n8=>?_
 have a7:=bln a1 a8
 have g8:=n8.ge a7
 have b2:=bln a7 n8.below
 have a9:=Zb (Zb ho a8) n8.below
 refine xe 5 (.tuple #[P0 b8,.nilIface]) ?_
 obtain rfl:j=n/256-f:=by omega
 exact⟨_,rfl,b2,_,_,_,rfl,g8,n8.blk,a9⟩
theorem Jh(ba b:Nat)(v x:Value)(w:World)(hk:Blk w ba [v,x,P0 b] 200) :
 C0 151 #[P0 ba] w (Ret (.bool false) w):=by
 refine zin 12 Tryz.func151 ?_
 refine xb 13 2 hk ?_
 exact xe 6 (.bool false) ⟨rfl,(B4 w)⟩
theorem Ol(ba:Nat)(p:O0)(N c k:Nat)(m:Value)(w:World)(hk:Blk w ba [.slice p N c,V0 (k:Int),m] 200)(h1:k≤N) :
 C0 218 #[P0 ba] w (Ret (.slice (Qu p k c 1) (N-k) (c-k)) w):=by
 refine zin 12 Tryz.func218 ?_
 refine xd 6 .z ?_
 have a0:=hk.below (Za w)
 refine xb (.e [0,1,2] 3) 0 a0 ?_
 refine xb (.e [4,5,6] 7) 1 a0 ?_
 refine xsL (.e [] 8) (fun _ _ _ _ zo zx zy V=>Xv (k:=k) (b:=p) (n:=N) (c:=c) (i:=(k:Int)) (ki:=.i64) 1 zo zx zy rfl (by omega) Tryz.underlying34 (by kernel_rfl) V) ?_
 have hB:=(Za w)
 exact xe (.r [9] 3) (.slice (Qu p k c 1) (N-k) (c-k)) ⟨rfl,hB⟩
theorem Cw(ba b:Nat)(p:O0)(N c k:Nat)(w:World)(hk:Blk w ba [.slice p N c,V0 (k:Int),P0 b] 200)(h1:k≤N) :
 C0 157 #[P0 ba] w (Ret (V0 ((N-k:Nat):Int)) w):=by
 refine zin 10 Tryz.func157 ?_
 refine xr 9 (args:=#[P0 ba]) (Jh ba b _ _ _ hk) fun W1 a1=>?_
 have a0:=hk.below a1
 refine xr 10 (args:=#[P0 ba]) (Ol ba p N c k _ _ a0 h1) fun W2 a2=>?_
 have hB:=bln a1 a2
 exact xe 5 (V0 (↑(N-k):Int)) ⟨rfl,hB⟩
theorem alloc_Used(ba b:Nat)(v:Value)(k:Nat)(w:World)(hk:Blk w ba [v,V0 (k:Int),P0 b] 200) :
 C0 166 #[P0 ba] w (Ret (V0 (k:Int)) w):=by
 refine zin 10 Tryz.func166 ?_
 refine xr 9 (args:=#[P0 ba]) (Jh ba b _ _ _ hk) fun W1 a1=>?_
 have a0:=hk.below a1
 refine xb 11 1 a0 ?_
 exact xe 4 (V0 (k:Int)) ⟨rfl,a1⟩
def Took(B ba:Nat)(p:O0)(N c k:Nat)(m:Value)(L:List Int)(v:Value)(w:World)(e:Ending)(w':World):Prop :=
 e=.returned v∧Below B w w'∧Zf [200] w w'∧Fr [ba] w w'∧Blk w' ba [.slice p N c,V0 ((k+1:Nat):Int),m] 200∧w'.ownsRow B 3 1 (.slice p N c) N (L.map V0)
theorem IntsN.elem{w:World}{b:O0}{n c:Nat}{l:List Int}(h:Sl w (.slice b n c) n (l.map V0))(hl:l.length=n){k:Nat}(hk:k<n):b.isSome=true∧w.cell? (Xd b (k*1))=some (V0 (l.getD k 0)):=by
 subst hl;exact Ints.elem h hk
theorem alloc_take(B ba:Nat)(p:O0)(N c k:Nat)(L:List Int)(hL:L.length=N)(m:Value)(w:World)(hk:Blk w ba [.slice p N c,V0 (k:Int),m] 200)(ho:w.ownsRow B 3 1 (.slice p N c) N (L.map V0))(hB0:B≤ba)(hBw:B≤w.heap.size)(hN:N≤1000000)(hkN:k<N) :
 C0 261 #[P0 ba] w (Took B ba p N c k m L (.tuple #[V0 (L.getD k 0),.bool true]) w):=by
 refine zin 32 Tryz.func261 ?_
 refine xd 8 .z ?_
 have a0:=hk.below (Za w)
 refine xb (.e [0,1,2] 3) 1 a0 ?_
 refine xb (.e [4,5,6] 7) 0 a0 ?_
 refine xk (.r [8,9] 2) (show(decide ((k:Int)≥(N:Int)):Bool)=false from decide_eq_false (by omega)) ?_
 refine xb 7 1 a0 ?_
 refine xwm 0 ((k:Int)+1) (↑(k+1):Int) ?_
 refine xs 2 a0 [.slice p N c,V0 (↑(k+1):Int),m] fun W1 u1 k1=>?_
 refine xd 3 .z ?_
 have a2:=k1.below (Za W1)
 refine xb (.e [0,1,2] 3) 0 a2 ?_
 refine xb (.e [4,5,6] 7) 1 a2 ?_
 refine xwm (.e [] 8) ((↑(k+1):Int)-1) (k:Int) ?_
 have a1:=Zb (u1.own2 (Zb ho (Za w)) a0 (by decide)) (Za W1)
 refine xx (.e [] 9) _ N k 1 (IntsN.elem (Ze a1) hL (k:=k) (by omega)).1 ?_
 refine xl (.e [] 10) ((IntsN.elem (Ze a1) hL (k:=k) (by omega)).2) ?_
 have hB:=blB (u1.below (blB (Below.refl B w) hBw (Za w)) hB0) hBw (Za W1)
 have hO:=((show Zf [200] w _ from(Zf.of_below (Za w))).trans (Zf.of_upd u1 a0 (by decide))).trans (Zf.of_below (Za W1))
 have hX:=((show Fr [ba] w _ from(Fr.of_below (Za w))).trans (Fr.of_upd u1 (by simp))).trans (Fr.of_below (Za W1))
 exact xe (.r [11,12] 3) (.tuple #[V0 (L.getD k 0),.bool true]) ⟨rfl,hB,hO,hX,a2,a1⟩
theorem alloc_Next(B ba:Nat)(p:O0)(N c k:Nat)(L:List Int)(hL:L.length=N)(b q:Nat)(hq:L.getD k 0=(q:Int))(w:World)(hk:Blk w ba [.slice p N c,V0 (k:Int),P0 b] 200)(ho:w.ownsRow B 3 1 (.slice p N c) N (L.map V0))(hB0:B≤ba)(hBw:B≤w.heap.size)(hN:N≤1000000)(hkN:k<N) :
 C0 223 #[P0 ba] w (Took B ba p N c k (P0 b) L (.tuple #[V0 (q:Int),.nilIface]) w):=by
 refine zin 20 Tryz.func223 ?_
 refine xr 10 (args:=#[P0 ba]) (Jh ba b _ _ _ hk) fun W1 a0=>?_
 have a1:=hk.below a0
 have a2:=Zb ho a0
 have hB:=blB (Below.refl B w) hBw a0
 refine xc 10 (args:=#[P0 ba]) (alloc_take B ba p N c k L hL _ _ a1 a2 hB0 (Nat.le_trans hBw hB.size) hN hkN) ?_
 rintro _ W2 ⟨rfl,a5,a4,a6,kA,ho⟩
 rw[hq]
 have a3:=hB.trans a5
 have hO:=(show Zf [200] w _ from(Zf.of_below a0)).trans a4
 have hX:=(show Fr [ba] w _ from(Fr.of_below a0)).trans (a6.mono (by simp))
 exact xe 25 (.tuple #[V0 (q:Int),.nilIface]) ⟨rfl,a3,hO,hX,kA,ho⟩
def Laid(B ba b g n c:Nat)(pa:O0)(ca f N k:Nat)(l:Bl)(kind:Int)(li:Bl)(w:World)(e:Ending)(w':World):Prop :=
 e=.returned (.tuple #[V0 ((f+k:Nat):Int),.nilIface])∧Below B w w'∧Zf [200,5] w w'∧Fr [ba,g] w w'∧Al B ba b g n c pa ca f N (k+1) (Vq l ((f+k)*256) (Xs kind ((f+k:Nat):Int) li)) w'
theorem Zf.mono{T T':List TypeId}{w w':World}(h:Zf T w w')(hT:∀ t,T'.contains t=false→T.contains t=false):Zf T' w w':=fun k cs t fr hk ht=>h k cs t fr hk (hT t ht)
theorem only_aa{w w':World}(h:Zf [200] w w'):Zf [200,5] w w':=h.mono fun t ht=>by simp at ht ⊢;exact ht.1
theorem only_ab{w w':World}(h:Zf [5] w w'):Zf [200,5] w w':=h.mono fun t ht=>by simp at ht ⊢;exact ht.2
theorem alloc_Lay(B ba b g n c:Nat)(p:O0)(ca f N k:Nat)(l:Bl)(kind:Int)(a:O0)(ci:Nat)(li:Bl)(w:World)(hC:AlC B ba n c ca f N)(hA:Al B ba b g n c p ca f N k l w)(hkN:k<N)(h1:1≤kind)(h2:kind≤4)(hin:∀ W,Below B w W→Zf [200] w W→Bys W (.slice a li.length ci) li)(hl:li.length≤244)(hBw:B≤w.heap.size) :
 C0 165 #[P0 ba,V0 kind,.slice a li.length ci] w (Laid B ba b g n c p ca f N k l kind li w):=by
 obtain⟨hk,hi,hd,ho⟩:=hA
 refine zin 35 Tryz.func165 ?_
 refine xc 9 (args:=#[P0 ba]) (alloc_Next B ba p N ca k (Og f N) (rngJ_len f N) b (f+k) (rngJ_get hkN) _ hk ho hC.hB (Nat.le_trans hBw (Below.refl B _).size) (by have:=hC.hf;have:=hC.hn;omega) hkN) ?_
 rintro _ W1 ⟨rfl,a7,a2,b1,kA,ho⟩
 replace hin:=hin _ a7 a2
 refine xb 23 2 kA ?_
 have a0:=hi.only a2 (by decide)
 have a8:=Zj hd a2 (by decide)
 refine xc 3 (args:=#[P0 b,V0 (↑(f+k):Int),V0 kind,.slice a li.length ci]) (Tc B b g n c (f+k) l kind a ci li _ a0 a8 hC.hn hC.hc (by have:=hC.hf;omega) h1 h2 hin hl (Nat.le_trans hBw a7.size)) ?_
 rintro _ W2 ⟨rfl,a9,a1,b0,hd⟩
 have a6:=a7.trans a9
 have hO:=(show Zf [200,5] w _ from(only_aa a2)).trans (only_ab a1)
 have hX:=(show Fr [ba,g] w _ from(b1.mono (by simp))).trans (b0.mono (by simp))
 have a3:=kA.only a1 (by decide)
 have a4:=a0.only a1 (by decide)
 have a5:=Zj ho a1 (by decide)
 exact xe 20 (.tuple #[V0 (↑(f+k):Int),.nilIface]) ⟨rfl,a6,hO,hX,a3,a4,hd,a5⟩
theorem Eu(w:World) :
 C0 239 #[V0 1,.bool true] w (Ret (V0 4) w):=by
 refine zin 31 Tryz.func239 ?_
 exact xe 94 (V0 4) ⟨rfl,(B4 w)⟩
theorem node_Max1l(w:World) :
 C0 189 #[V0 1,.bool true] w (Ret (V0 18) w):=by
 refine zin 16 Tryz.func189 ?_
 refine xr 9 (args:=#[V0 1,.bool true]) (Eu _) fun W1 a0=>?_
 exact xe 24 (V0 18) ⟨rfl,a0⟩
theorem Fl(w:World) :
 C0 239 #[V0 1,.bool false] w (Ret (V0 4) w):=by
 refine zin 31 Tryz.func239 ?_
 exact xe 41 (V0 4) ⟨rfl,(B4 w)⟩
theorem node_Max1i(w:World) :
 C0 189 #[V0 1,.bool false] w (Ret (V0 18) w):=by
 refine zin 16 Tryz.func189 ?_
 refine xr 9 (args:=#[V0 1,.bool false]) (Fl _) fun W1 a0=>?_
 exact xe 24 (V0 18) ⟨rfl,a0⟩
theorem En(w:World) :
 C0 239 #[V0 2,.bool true] w (Ret (V0 8) w):=by
 refine zin 31 Tryz.func239 ?_
 exact xe 101 (V0 8) ⟨rfl,(B4 w)⟩
theorem node_Max2l(w:World) :
 C0 189 #[V0 2,.bool true] w (Ret (V0 12) w):=by
 refine zin 16 Tryz.func189 ?_
 refine xr 9 (args:=#[V0 2,.bool true]) (En _) fun W1 a0=>?_
 exact xe 24 (V0 12) ⟨rfl,a0⟩
theorem Fd(w:World) :
 C0 239 #[V0 2,.bool false] w (Ret (V0 4) w):=by
 refine zin 31 Tryz.func239 ?_
 exact xe 41 (V0 4) ⟨rfl,(B4 w)⟩
theorem node_Max2i(w:World) :
 C0 189 #[V0 2,.bool false] w (Ret (V0 18) w):=by
 refine zin 16 Tryz.func189 ?_
 refine xr 9 (args:=#[V0 2,.bool false]) (Fd _) fun W1 a0=>?_
 exact xe 24 (V0 18) ⟨rfl,a0⟩
theorem Ff(w:World) :
 C0 239 #[V0 3,.bool true] w (Ret (V0 24) w):=by
 refine zin 31 Tryz.func239 ?_
 exact xe 93 (V0 24) ⟨rfl,(B4 w)⟩
theorem node_Max3l(w:World) :
 C0 189 #[V0 3,.bool true] w (Ret (V0 6) w):=by
 refine zin 16 Tryz.func189 ?_
 refine xr 9 (args:=#[V0 3,.bool true]) (Ff _) fun W1 a0=>?_
 exact xe 24 (V0 6) ⟨rfl,a0⟩
theorem Fo(w:World) :
 C0 239 #[V0 3,.bool false] w (Ret (V0 4) w):=by
 refine zin 31 Tryz.func239 ?_
 exact xe 41 (V0 4) ⟨rfl,(B4 w)⟩
theorem node_Max3i(w:World) :
 C0 189 #[V0 3,.bool false] w (Ret (V0 18) w):=by
 refine zin 16 Tryz.func189 ?_
 refine xr 9 (args:=#[V0 3,.bool false]) (Fo _) fun W1 a0=>?_
 exact xe 24 (V0 18) ⟨rfl,a0⟩
theorem Fn(w:World) :
 C0 239 #[V0 4,.bool true] w (Ret (V0 16) w):=by
 refine zin 31 Tryz.func239 ?_
 exact xe 98 (V0 16) ⟨rfl,(B4 w)⟩
theorem node_Max4l(w:World) :
 C0 189 #[V0 4,.bool true] w (Ret (V0 9) w):=by
 refine zin 16 Tryz.func189 ?_
 refine xr 9 (args:=#[V0 4,.bool true]) (Fn _) fun W1 a0=>?_
 exact xe 24 (V0 9) ⟨rfl,a0⟩
theorem Fj(w:World) :
 C0 239 #[V0 4,.bool false] w (Ret (V0 4) w):=by
 refine zin 31 Tryz.func239 ?_
 exact xe 41 (V0 4) ⟨rfl,(B4 w)⟩
theorem node_Max4i(w:World) :
 C0 189 #[V0 4,.bool false] w (Ret (V0 18) w):=by
 refine zin 16 Tryz.func189 ?_
 refine xr 9 (args:=#[V0 4,.bool false]) (Fj _) fun W1 a0=>?_
 exact xe 24 (V0 18) ⟨rfl,a0⟩
theorem Ex(w:World) :
 C0 239 #[V0 5,.bool true] w (Ret (V0 4) w):=by
 refine zin 31 Tryz.func239 ?_
 exact xe 94 (V0 4) ⟨rfl,(B4 w)⟩
theorem node_Max5l(w:World) :
 C0 189 #[V0 5,.bool true] w (Ret (V0 18) w):=by
 refine zin 16 Tryz.func189 ?_
 refine xr 9 (args:=#[V0 5,.bool true]) (Ex _) fun W1 a0=>?_
 exact xe 24 (V0 18) ⟨rfl,a0⟩
theorem Ev(w:World) :
 C0 239 #[V0 5,.bool false] w (Ret (V0 4) w):=by
 refine zin 31 Tryz.func239 ?_
 exact xe 41 (V0 4) ⟨rfl,(B4 w)⟩
theorem node_Max5i(w:World) :
 C0 189 #[V0 5,.bool false] w (Ret (V0 18) w):=by
 refine zin 16 Tryz.func189 ?_
 refine xr 9 (args:=#[V0 5,.bool false]) (Ev _) fun W1 a0=>?_
 exact xe 24 (V0 18) ⟨rfl,a0⟩
def Pd(t:Int)(leaf:Bool):Nat:=if leaf=false then 4 else if t=2 then 8 else if t=3 then 24 else if t=4 then 16 else 4
def Qs(t:Int)(leaf:Bool):Nat:=if leaf=false then 18 else if t=2 then 12 else if t=3 then 6 else if t=4 then 9 else 18
theorem Iw(t:Int)(leaf:Bool)(h1:1≤t)(h2:t≤5)(w:World):C0 239 #[V0 t,.bool leaf] w (Ret (V0 (Pd t leaf:Int)) w):=by
 obtain rfl|rfl|rfl|rfl|rfl:t=1∨t=2∨t=3∨t=4∨t=5:=by omega
 all_goals cases leaf
 ·exact Fl w
 ·exact Eu w
 ·exact Fd w
 ·exact En w
 ·exact Fo w
 ·exact Ff w
 ·exact Fj w
 ·exact Fn w
 ·exact Ev w
 ·exact Ex w
theorem Rl(t:Int)(leaf:Bool)(h1:1≤t)(h2:t≤5)(w:World):C0 189 #[V0 t,.bool leaf] w (Ret (V0 (Qs t leaf:Int)) w):=by
 obtain rfl|rfl|rfl|rfl|rfl:t=1∨t=2∨t=3∨t=4∨t=5:=by omega
 all_goals cases leaf
 ·exact node_Max1i w
 ·exact node_Max1l w
 ·exact node_Max2i w
 ·exact node_Max2l w
 ·exact node_Max3i w
 ·exact node_Max3l w
 ·exact node_Max4i w
 ·exact node_Max4l w
 ·exact node_Max5i w
 ·exact node_Max5l w
theorem Qq(t:Int)(leaf:Bool):1≤Qs t leaf∧Qs t leaf≤18:=by
 unfold Qs;repeat' split
 all_goals decide
theorem run_quo{P:Program}{a:Act}{o:Oper}{t:TypeId}{x y:Operand}{t2:TypeId}{p q r:Int}{k:IntKind}(ho:o.op=.binOp .quo t x y t2)(hx:a.eval x=.int k p)(hy:a.eval y=.int k q)(hq:q≠0)(hr:k.wrap (Int.tdiv p q)=r)(w:World) :
 (execOp a.eval o).run P w=.ok (.value (.int k r)) w:=by
 subst hr
 have hb:(binOp .quo t (.int k p) (.int k q)).run P w=.ok (.int k (k.wrap (p.tdiv q))) w:=by
  simp[binOp,Op.intDiv,hq]
 have hg:(eqGuard .quo t x y (.int k p) (.int k q)).run P w=.ok () w:=rfl
 simp only[execOp,ho,hx,hy,Sem.run_bind,hg,Result.andThen_ok,hb]
 rfl
def ovN (n m:Nat):Nat:=max 1 ((n+m-1)/m)
theorem max_cast(a b:Nat):(if(b:Int)>(a:Int) then(b:Int) else(a:Int))=((max a b:Nat):Int):=by split<;>omega
theorem Vx(n m:Nat):1≤ovN n m:=by unfold ovN;omega
theorem Zed(n m:Nat)(hm:1≤m):ovN n m≤n+1:=by
 have:(n+m-1)/m≤n:=by
  rw[Nat.div_le_iff_le_mul_add_pred (by omega)]
  have:=Nat.le_mul_of_pos_left n hm
  omega
 unfold ovN;omega
theorem ov18{x:Nat}(h:2≤x):ovN x 18≤x/2:=by unfold ovN;omega
theorem Tx(n m:Nat)(w:World)(hn:n≤1000000)(hm:1≤m)(hm2:m≤1000000) :
 C0 190 #[V0 (n:Int),V0 (m:Int)] w (Ret (V0 (ovN n m:Int)) w):=by
 refine zin 12 Tryz.func190 ?_
 refine xwm 9 ((n:Int)+(m:Int)) (↑(n+m):Int) ?_
 refine xwm 0 ((↑(n+m):Int)-1) (↑((n+m)-1):Int) ?_
 refine xbo 1 (t:=3) (t2:=3) (fun _ _ _ _ zo zx zy V hV=>run_quo (r:=(↑((n+m-1)/m):Int)) zo zx zy (by omega) (Ze5 (n+m-1) m (by omega) (by omega)) V) ?_
 refine xq 0 (congrArg V0 (show(if(↑((n+m-1)/m):Int)>(1:Int) then(↑((n+m-1)/m):Int) else(1:Int):Int)=(↑(ovN n m):Int) from max_cast 1 ((n+m-1)/m))) ?_
 exact xe 4 (V0 (↑(ovN n m):Int)) ⟨rfl,(B4 w)⟩
def lenOf:Value→Nat
 | .slice _ n _=>n
 | _=>0
def nv (n:Nat):Value:=V0 (n:Int)
def Zbs(x:Nat):List Nat:=if h:x≤1 then [x] else x::Zbs (ovN x 18)
termination_by x
decreasing_by have:=ov18 (x:=x) (by omega);omega
theorem Gm{x:Nat}(h:x≤1):Zbs x=[x]:=by rw[Zbs];simp[h]
theorem Hz{x:Nat}(h:¬ x≤1):Zbs x=x::Zbs (ovN x 18):=by rw[Zbs];simp[h]
theorem levs_sum{x:Nat}(h:1≤x):(Zbs x).sum≤2*x:=by
 induction x using Nat.strongRecOn with
 | _ x ih =>
  by_cases h1:x≤1
  ·rw[Gm h1];simp;omega
  ·rw[Hz h1,List.sum_cons]
   have h2:=ov18 (x:=x) (by omega)
   have:=ih (ovN x 18) (by omega) (Vx _ _)
   omega
theorem levs_len{x:Nat}(h:1≤x):(Zbs x).length≤x:=by
 induction x using Nat.strongRecOn with
 | _ x ih =>
  by_cases h1:x≤1
  ·rw[Gm h1];simpa using h
  ·rw[Hz h1,List.length_cons]
   have h2:=ov18 (x:=x) (by omega)
   have:=ih (ovN x 18) (by omega) (Vx _ _)
   omega
theorem Zh{w:World}{b:O0}{n c:Nat}{l:List Nat}(h:Sl w (.slice b n c) n (l.map nv))(hl:l.length=n){k:Nat}(hk:k<n):b.isSome=true∧w.cell? (Xd b (k*1))=some (V0 ((l.getD k 0:Nat):Int)):=by
 have e:l.map nv=(l.map fun x:Nat=>(x:Int)).map V0:=by simp[nv]
 rw[e] at h
 have:=IntsN.elem h (by simpa using hl) hk
 rw[show(l.map fun x:Nat=>(x:Int)).getD k 0=((l.getD k 0:Nat):Int) by simp[List.getD,List.getElem?_eq_getElem (show k<l.length by omega)]] at this
 exact this
theorem Zck{xs:List Nat}{x j:Nat}(h:xs.length=j):(xs++[x]).getD j 0=x:=by subst h;simp[List.getD]
theorem Zaj{L:List Nat}{k:Nat}(h:k<L.length):(L.take (k+1)).sum=(L.take k).sum+L.getD k 0:=by
 rw[List.take_add_one,List.sum_append];simp[List.getD,List.getElem?_eq_getElem h]
theorem take_le{L:List Nat}(k:Nat):(L.take k).sum≤L.sum:=by
 conv=>rhs;rw[←List.take_append_drop k L,List.sum_append]
 omega
def Uy(t:Int)(n:Nat):List Nat:=Zbs (ovN n (Qs t true))
def Xx(t:Int)(n:Nat):Nat:=(Uy t n).sum
theorem levL_len(t:Int)(n:Nat):(Uy t n).length≤n+1:=by
 have:=levs_len (Vx n (Qs t true));have:=Zed n (Qs t true) (Qq t true).1;unfold Uy;omega
theorem Hr(t:Int)(n:Nat):Xx t n≤2*n+2:=by
 have:=levs_sum (Vx n (Qs t true));have:=Zed n (Qs t true) (Qq t true).1;unfold Xx Uy;omega
theorem Zf6(t:Int)(n:Nat)(w:World)(h1:1≤t)(h2:t≤5)(hn:n≤32768) :
 C0 121 #[V0 t,V0 (n:Int)] w (Qe (fun w' r=>∃ p c,r=.slice p (Uy t n).length c∧w'.ownsRow w.heap.size 3 1 (.slice p (Uy t n).length c) (Uy t n).length ((Uy t n).map nv)) w):=by
 have b3:=(Qq t true).1
 have c5:=(Qq t true).2
 have d2:=Zed n (Qs t true) b3
 have c1:=Vx n (Qs t true)
 refine zin 45 Tryz.func121 ?_
 refine xr 8 (args:=#[V0 t,.bool true]) (Rl t true h1 h2 _) fun W1 b1=>?_
 refine xr 1 (args:=#[V0 t,.bool false]) (Rl t false h1 h2 _) fun W2 b0=>?_
 refine xgk 10 [13,14] (show(((↑(Qs t true):Int)==(0:Int)):Bool)=false from by simp;omega) ?_
 refine xgk 4 [16,17,18] (show(decide ((n:Int)<(0:Int)):Bool)=false from decide_eq_false (by omega)) ?_
 refine xk 5 (show(decide ((n:Int)>(32768:Int)):Bool)=false from decide_eq_false (by omega)) ?_
 refine xr 6 (args:=#[V0 (n:Int),V0 (↑(Qs t true):Int)]) (Tx n (Qs t true) _ (by omega) b3 (by omega)) fun W5 b4=>?_
 refine xbs 0 1 [V0 (↑(ovN n (Qs t true)):Int)] 3 fun b6 W6 n6=>?_
 have g6:=n6.ge (bln (bln b1 b0) b4)
 have hB:=bln (bln (bln b1 b0) b4) n6.below
 refine zl 5 45 (fun zm b8 V=>∃ (j x:Nat) (xs:List Nat) (p:O0) (c:Nat),b8=[(4,S0),(6,V0 18),(7,.slice p (j+1) c)]∧zm=40000-(j+1)∧B3 w V∧V.ownsRow w.heap.size 3 1 (.slice p (j+1) c) (j+1) ((xs++[x]).map nv)∧xs.length=j∧1≤x∧x≤32769∧xs++Zbs x=Uy t n∧j+x≤40000) ⟨0,(ovN n (Qs t true)),[],_,_,rfl,rfl,hB,Xb (size:=1) (n:=1) n6.blk g6 rfl (by unfold maxLen;decide),rfl,c1,by omega,rfl,by omega⟩ ?_
 rintro _ _ W7 ⟨j,x,xs,p,c,rfl,rfl,a5,ho,a0,d1,d0,b5,hj⟩ J7 c4 r7
 refine xwm 6 ((↑(j+1):Int)-1) (j:Int) ?_
 refine xx 0 _ (j+1) j 1 (Zh (Ze ho) (by simp[a0]) (k:=j) (by omega)).1 ?_
 refine xl 0 (by have:=(Zh (Ze ho) (by simp[a0]) (k:=j) (by omega)).2;rwa [Zck a0] at this) ?_
 refine xid 3 ((x:Int)>(1:Int)) (fun c3=>?_) (fun c3=>?_)
 ·refine xwm 8 ((↑(j+1):Int)-1) (j:Int) ?_
  refine xx 0 _ (j+1) j 1 (Zh (Ze ho) (by simp[a0]) (k:=j) (by omega)).1 ?_
  refine xl 0 (by have:=(Zh (Ze ho) (by simp[a0]) (k:=j) (by omega)).2;rwa [Zck a0] at this) ?_
  refine xr 1 (args:=#[V0 (x:Int),V0 18]) (Tx x 18 _ (by omega) (by decide) (by decide)) fun W9 b2=>?_
  refine xbs 0 1 [V0 (↑(ovN x 18):Int)] 3 fun c7 c8 a2=>?_
  have a1:=bln a5 b2
  have c6:=a2.ge a1
  have a3:=Zb ho b2
  have a7:=Zn a3 a2
  have a6:=Zb a3 a2.below
  have a4:=bln a1 a2.below
  refine xbi 0 fun _ _ _ _ zJ zQ zo zx zy zK=>Zr (m:=1) (news:=[V0 (↑(ovN x 18):Int)]) (V0 0) 1 8 (j+1+1) (((xs++[x])++[ovN x 18]).map nv) zo Tryz.underlying34 (by kernel_rfl) rfl (by decide) zx a6 zy (a2.blk.sl 1 1 (by decide) (by decide)) rfl (by simp[Value.oneCell']) (by unfold maxLen;omega) (by omega) a4.size (by rfl) (by simp[nv]) fun c0 b9 d3 c2 b7 a9=>?_
  refine zK _ _ ?_
  have c9:=ov18 (x:=x) (by omega)
  have a8:=a4.trans a9
  exact ze 3 (c4 _ _ _ ⟨j+1,(ovN x 18),xs++[x],_,_,rfl,rfl,a8,c2,by simp[a0],Vx _ _,by omega,by rw[←b5,Hz (x:=x) (by omega)];simp,by omega⟩ (by omega))
 refine xe 12 (.slice p (j+1) c) ?_
 have e:Uy t n=xs++[x]:=by rw[←b5,Gm (x:=x) (by omega)]
 have el:(Uy t n).length=j+1:=by rw[e];simp[a0]
 exact⟨_,rfl,a5,p,c,by rw[el],by rw[el,e];exact ho⟩
theorem Qx(t:Int)(n:Nat)(w:World)(h1:1≤t)(h2:t≤5)(hn:n≤32768) :
 C0 70 #[V0 t,V0 (n:Int)] w (Ret (V0 (Xx t n:Int)) w):=by
 refine zin 21 Tryz.func70 ?_
 refine xc 15 (args:=#[V0 t,V0 (n:Int)]) (Zf6 t n _ h1 h2 hn) ?_
 rintro _ W1 ⟨_,rfl,a6,p,c,rfl,ho⟩
 have a1:=Nat.le_refl w.heap.size
 have a2:=Zd ho a1
 refine zl 5 21 (fun zm a5 V=>∃ (k:Nat),a5=[(4,V0 0),(5,V0 (↑((Uy t n).take k).sum:Int)),(10,.slice p ((Uy t n).length) c),(11,V0 (↑((Uy t n).length):Int)),(12,V0 (k:Int))]∧zm=(Uy t n).length-((k:Int)).toNat∧B3 w V∧V.ownsRow w.heap.size 3 1 (.slice p (Uy t n).length c) (Uy t n).length ((Uy t n).map nv)∧k≤(Uy t n).length) ⟨0,rfl,rfl,a6,a2,Nat.zero_le _⟩ ?_
 rintro _ _ W2 ⟨k,rfl,rfl,a0,ho,hk⟩ J2 a3 r2
 have a9:=levL_len t n
 have a1:=Hr t n
 unfold Xx at a1
 have a8:=take_le (L:=Uy t n) (k+1)
 have a7:k<(Uy t n).length→((Uy t n).take (k+1)).sum=((Uy t n).take k).sum+(Uy t n).getD k 0:=Zaj
 refine xid 6 ((k:Int)<(↑((Uy t n).length):Int)) (fun a4=>?_) (fun a4=>?_)
 ·refine xx 6 _ ((Uy t n).length) k 1 (Zh (Ze ho) rfl (k:=k) (by omega)).1 ?_
  refine xl 0 ((Zh (Ze ho) rfl (k:=k) (by omega)).2) ?_
  refine xwm 6 ((↑((Uy t n).take k).sum:Int)+(↑((Uy t n).getD k 0):Int)) (↑(((Uy t n).take k).sum+((Uy t n).getD k 0)):Int) ?_
  refine xwm 5 ((k:Int)+1) (↑(k+1):Int) ?_
  refine xv1 2 5 (show(V0 (↑(((Uy t n).take k).sum+((Uy t n).getD k 0)):Int):Value)=V0 (↑((Uy t n).take (k+1)).sum:Int) from by rw[Zaj (by omega)]) ?_
  exact ze 0 (a3 _ _ _ ⟨k+1,rfl,rfl,a0,ho,by omega⟩ (by omega))
 refine xe 12 (V0 (↑((Uy t n).take k).sum:Int)) ?_
 have e:k=(Uy t n).length:=by omega
 subst e
 rw[List.take_length]
 exact⟨rfl,a0⟩
def Jj(n m i:Nat):Nat:=min m (n-i*m)
theorem siz_le{n m i:Nat}(hm:1≤m)(h:i<ovN n m):i*m≤n:=by
 unfold ovN at h
 rcases Nat.eq_zero_or_pos i with rfl|hi
 ·omega
 ·have h1:i+1≤(n+m-1)/m:=by omega
  have h2:=(Nat.le_div_iff_mul_le (by omega)).1 h1
  rw[Nat.add_mul] at h2
  omega
def Zb2(n m k:Nat):List Value:=(List.range (ovN n m)).map fun i=>V0 (if i<k then(Jj n m i:Int) else 0)
def sizL(n m:Nat):List Nat:=(List.range (ovN n m)).map (Jj n m)
theorem sizK_zero(n m:Nat):Hy (Value.int .i64 0).cells.toList (ovN n m)=Zb2 n m 0:=by
 rw[show(Value.int .i64 0).cells.toList=[Value.int .i64 0] from rfl,Hy,Zb2]
 simp[List.map_const']
theorem sizK_all(n m:Nat):Zb2 n m (ovN n m)=(sizL n m).map nv:=by
 unfold Zb2 sizL nv
 rw[List.map_map]
 apply List.map_congr_left
 intro i hi
 rw[List.mem_range] at hi
 simp[hi]
theorem sizK_set{n m k:Nat}(h:k<ovN n m):(Zb2 n m k).set k (V0 (Jj n m k:Int))=Zb2 n m (k+1):=by
 apply List.ext_getElem?
 intro i
 by_cases hi:i<ovN n m
 ·by_cases e:k=i
  ·subst e
   rw[List.getElem?_set_self (by simpa [Zb2] using h)]
   simp[Zb2,List.getElem?_range h]
  ·rw[List.getElem?_set_ne e]
   simp only[Zb2,List.getElem?_map,List.getElem?_range hi,Option.map_some]
   by_cases e2:i<k
   ·simp[e2,show i<k+1 by omega]
   ·simp[e2,show ¬ i<k+1 by omega]
 ·rw[List.getElem?_eq_none (by simp[Zb2];omega),List.getElem?_eq_none (by simp[Zb2];omega)]
theorem sizL_len(n m:Nat):(sizL n m).length=ovN n m:=by simp[sizL]
theorem tall_Sizes(n m:Nat)(w:World)(hn:n≤32768)(hm:1≤m)(hm2:m≤32768) :
 C0 259 #[V0 (n:Int),V0 (m:Int)] w (Qe (fun w' r=>∃ p c,r=.slice p (ovN n m) c∧w'.ownsRow w.heap.size 3 1 (.slice p (ovN n m) c) (ovN n m) ((sizL n m).map nv)) w):=by
 have a7:=Zed n m hm
 refine zin 40 Tryz.func259 ?_
 refine xgk 11 [8,9] (show(decide ((n:Int)<(0:Int)):Bool)=false from decide_eq_false (by omega)) ?_
 refine xgk 4 [11,12,13] (show(decide ((n:Int)>(32768:Int)):Bool)=false from decide_eq_false (by omega)) ?_
 refine xk 5 (show(decide ((m:Int)<(1:Int)):Bool)=false from decide_eq_false (by omega)) ?_
 refine xq 5 (congrArg V0 (show(if(32768:Int)<(m:Int) then(32768:Int) else(m:Int):Int)=(m:Int) from if_neg (by omega))) ?_
 refine xr 7 (args:=#[V0 (n:Int),V0 (m:Int)]) (Tx n m _ (by omega) hm (by omega)) fun W3 a3=>?_
 refine xmk 0 fun _ _ _ _ zJ zQ zo zx zy zK=>Kf (ovN n m) (V0 0) 1 8 (Zb2 n m 0) zo zx zy Tryz.underlying34 (by kernel_rfl) rfl (by omega) (by omega) (sizK_zero n m) fun b4 W4 n4=>?_
 refine zK _ _ ?_
 have hB:=bln a3 n4.below
 refine zl 12 40 (fun zm a6 V=>∃ (k:Nat),a6=[(0,V0 (n:Int)),(1,V0 (m:Int)),(4,S0),(5,.slice (S1 b4) (ovN n m) (ovN n m)),(24,V0 (↑(ovN n m):Int)),(25,V0 (k:Int))]∧zm=ovN n m-((k:Int)).toNat∧B3 w V∧Blk V b4 (Zb2 n m k) 3∧k≤ovN n m) ⟨0,rfl,rfl,hB,n4.blk,Nat.zero_le _⟩ ?_
 rintro _ _ W5 ⟨k,rfl,rfl,a1,a0,hk⟩ J5 a5 r5
 have a8:k<ovN n m→k*m≤n:=siz_le hm
 refine xid 6 ((k:Int)<(↑(ovN n m):Int)) (fun a4=>?_) (fun a4=>?_)
 ·refine xwm 17 ((k:Int)*(m:Int)) (↑(k*m):Int) ?_
  refine xwm 0 ((n:Int)-(↑(k*m):Int)) (↑(n-(k*m)):Int) ?_
  refine xxb 1 b4 0 (ovN n m) k 1 ?_
  refine xsg 0 a0 (0+k*1) (V0 (if(↑(n-(k*m)):Int)<(m:Int) then(↑(n-(k*m)):Int) else(m:Int))) (by simp[Zb2];omega) fun W7 u7 k7=>?_
  replace k7:Blk W7 b4 (Zb2 n m (k+1)) 3:=by rw[←(show(Zb2 n m k).set (0+k*1) (V0 (if(↑(n-(k*m)):Int)<(m:Int) then(↑(n-(k*m)):Int) else(m:Int)))=Zb2 n m (k+1) from by rw[show 0+k*1=k by omega,show(if(↑(n-(k*m)):Int)<(m:Int) then(↑(n-(k*m)):Int) else(m:Int))=(↑(Jj n m k):Int) from Zbj m (n-k*m)];exact sizK_set (by omega))];exact k7
  have g4:=n4.ge a3
  refine xwm 4 ((k:Int)+1) (↑(k+1):Int) ?_
  have a2:=u7.below a1 g4
  exact ze 2 (a5 _ _ _ ⟨k+1,rfl,rfl,a2,k7,by omega⟩ (by omega))
 have g4:=n4.ge a3
 refine xe 12 (.slice (S1 b4) (ovN n m) (ovN n m)) ?_
 have e:k=ovN n m:=by omega
 subst e
 have ho:=Xb (size:=1) (n:=ovN n m) a0 g4 (by simp[Zb2]) (by unfold maxLen;omega)
 rw[sizK_all] at ho
 exact⟨_,rfl,a1,_,_,rfl,ho⟩
def Zg(l:Bl):Nat→Nat→Nat
 | _,0=>0
 | k,w+1=>(l.getD k 0).toNat+256*Zg l (k+1) w
theorem Rv(l:Bl):∀ (w k:Nat),Zg l k w<256 ^ w
 | 0,k=>by simp[Zg]
 | w+1,k=>by
  have:=Rv l w (k+1)
  have h:=(l.getD k 0).toNat_lt
  rw[Zg,Nat.pow_succ];omega
theorem Zg8(l:Bl)(k w:Nat)(hw:w≤7):Zg l k w<72057594037927936:=Nat.lt_of_lt_of_le (Rv l w k) (by rw[show(72057594037927936:Nat)=256 ^ 7 from rfl];exact Nat.pow_le_pow_right (by decide) hw)
theorem Yn(l:Bl)(k w:Nat)(hw:w≤4):Zg l k w<4294967296:=Nat.lt_of_lt_of_le (Rv l w k) (by rw[show(4294967296:Nat)=256 ^ 4 from rfl];exact Nat.pow_le_pow_right (by decide) hw)
theorem u64_step{n b:Nat}(hn:n<72057594037927936)(hb:b<256):IntKind.u64.wrap (↑(BitVec.ofInt 64 (IntKind.u64.wrap ((n:Int)*2 ^ 8)) ||| BitVec.ofInt 64 (b:Int)).toNat:Int)=((b+256*n:Nat):Int):=by
 have h1:IntKind.u64.wrap ((n:Int)*2 ^ 8)=((n*2 ^ 8:Nat):Int):=by
  rw[show(n:Int)*2 ^ 8=((n*2 ^ 8:Nat):Int) by omega];exact IntWalk.u64_in _ (by constructor<;>omega)
 rw[h1,BitVec.ofInt_natCast,BitVec.ofInt_natCast,BitVec.toNat_or,BitVec.toNat_ofNat,BitVec.toNat_ofNat,Nat.mod_eq_of_lt (by omega),Nat.mod_eq_of_lt (by omega)]
 rw[←Nat.shiftLeft_eq,←Nat.shiftLeft_add_eq_or_of_lt (by exact hb:b<2 ^ 8),Nat.shiftLeft_eq,IntWalk.u64_in _ (by constructor<;>omega)]
 congr 1;omega
theorem u64_nat{n:Nat}(h:n<18446744073709551616):IntKind.u64.wrap (n:Int)=(n:Int):=IntWalk.u64_in _ (by constructor<;>omega)
theorem there_ok(a:O0)(m c k w:Nat)(hw:w=1∨w=2∨w=4∨w=8)(hk:k+w≤m)(hm:m≤100000000)(W:World) :
 C0 210 #[.slice a m c,V0 (k:Int),V0 (w:Int)] W (Ret (V0 0) W):=by
 rcases hw with rfl|rfl|rfl|rfl
 ·exact there_1 a m c k hk hm W
 ·exact there_2 a m c k hk hm W
 ·exact there_4 a m c k hk hm W
 ·exact there_8 a m c k hk hm W
theorem Get_ok(a:O0)(c k w:Nat)(l:Bl)(W:World)(hw:w=1∨w=2∨w=4∨w=8)(hk:k+w≤l.length)(hl:l.length≤100000000)(h:Bys W (.slice a l.length c) l)(hq:Zg l k w<9223372036854775808) :
 C0 141 #[.slice a l.length c,V0 (k:Int),V0 (w:Int)] W (Ret (.tuple #[V0 (Zg l k w:Int),V0 0]) W):=by
 refine zin 38 Tryz.func141 ?_
 refine xr 12 (args:=#[.slice a l.length c,V0 (k:Int),V0 (w:Int)]) (there_ok a l.length c k w hw hk hl _) fun W1 a4=>?_
 refine xw 21 ((w:Int)-1) ?_
 refine zl 4 38 (fun zm a3 V=>∃ (j r:Nat),a3=[(0,.slice a l.length c),(1,V0 (k:Int)),(6,V0 0),(7,V0 0),(9,.int .u64 (↑(Zg l (k+j) r):Int)),(10,V0 ((j:Int)-1))]∧zm=(((j:Int)-1)+1).toNat∧B3 W V∧j+r=w) ⟨w,0,rfl,rfl,a4,by omega⟩ ?_
 rintro _ _ W2 ⟨j,r,rfl,rfl,a0,a5⟩ J2 a1 r2
 refine xid 7 ((j:Int)-1≥(0:Int)) (fun a2=>?_) (fun a2=>?_)
 ·refine xq 10 (congrArg V0 (show IntKind.i64.wrap ((k:Int)+((j:Int)-1))=(↑(k+(j-1)):Int) from(show IntKind.i64.wrap ((k:Int)+((j:Int)-1))=((k:Int)+((j:Int)-1)) from by first|exact IntWalk.i64_in _ (by omega)|(simp only[IntKind.wrap];omega)).trans (by omega))) ?_
  refine xx 0 _ l.length (k+(j-1)) 1 (Bys.elem h (k:=(k+(j-1))) (by omega)).1 ?_
  refine xl 0 ((Bys.elem (h.below a0) (k:=(k+(j-1))) (by omega)).2) ?_
  refine xq 0 (congrArg (Value.int .u64) (show(IntKind.u64.wrap (↑(l.getD (k+(j-1)) 0).toNat:Int):Int)=(↑(l.getD (k+(j-1)) 0).toNat:Int) from u64_nat (by have:=(l.getD (k+(j-1)) 0).toNat_lt;omega))) ?_
  refine xq 0 (congrArg (Value.int .u64) (show(IntKind.u64.wrap (↑(BitVec.ofInt 64 (IntKind.u64.wrap ((↑(Zg l (k+j) r):Int)*2 ^ 8)) ||| BitVec.ofInt 64 (↑(l.getD (k+(j-1)) 0).toNat:Int)).toNat:Int):Int)=(↑(Zg l (k+(j-1)) (r+1)):Int) from(u64_step (Zg8 l (k+j) r (by omega)) (l.getD (k+(j-1)) 0).toNat_lt).trans (congrArg (fun x:Nat=>(x:Int)) (by rw[Zg,show k+(j-1)+1=k+j by omega])))) ?_
  refine xq 6 (congrArg V0 (show IntKind.i64.wrap ((j:Int)-1-1)=((↑(j-1:Nat):Int)-1) from(show IntKind.i64.wrap ((j:Int)-1-1)=((j:Int)-1-1) from by first|exact IntWalk.i64_in _ (by omega)|(simp only[IntKind.wrap];omega)).trans (by omega))) ?_
  exact ze 2 (a1 _ _ _ ⟨j-1,r+1,rfl,rfl,a0,by omega⟩ (by omega))
 refine xk 12 (show(decide ((↑(Zg l (k+j) r):Int)≥(9223372036854775808:Int)):Bool)=false from by rw[(show Zg l (k+j) r=Zg l k w from by rw[show j=0 by omega,show r=w by omega];rfl)];exact decide_eq_false (by omega)) ?_
 refine xq 5 (congrArg V0 (show(IntKind.i64.wrap (↑(Zg l (k+j) r):Int):Int)=(↑(Zg l k w):Int) from by rw[(show Zg l (k+j) r=Zg l k w from by rw[show j=0 by omega,show r=w by omega];rfl)];exact Kw hq)) ?_
 exact xe 5 (.tuple #[V0 (↑(Zg l k w):Int),V0 0]) ⟨rfl,a0⟩
theorem Get_big(a:O0)(c k w:Nat)(l:Bl)(W:World)(hw:w=1∨w=2∨w=4∨w=8)(hk:k+w≤l.length)(hl:l.length≤100000000)(h:Bys W (.slice a l.length c) l)(hq:¬ Zg l k w<9223372036854775808) :
 C0 141 #[.slice a l.length c,V0 (k:Int),V0 (w:Int)] W (Ret (.tuple #[V0 0,V0 2]) W):=by
 refine zin 38 Tryz.func141 ?_
 refine xr 12 (args:=#[.slice a l.length c,V0 (k:Int),V0 (w:Int)]) (there_ok a l.length c k w hw hk hl _) fun W1 a4=>?_
 refine xw 21 ((w:Int)-1) ?_
 refine zl 4 38 (fun zm a3 V=>∃ (j r:Nat),a3=[(0,.slice a l.length c),(1,V0 (k:Int)),(6,V0 0),(7,V0 0),(9,.int .u64 (↑(Zg l (k+j) r):Int)),(10,V0 ((j:Int)-1))]∧zm=(((j:Int)-1)+1).toNat∧B3 W V∧j+r=w) ⟨w,0,rfl,rfl,a4,by omega⟩ ?_
 rintro _ _ W2 ⟨j,r,rfl,rfl,a0,a5⟩ J2 a1 r2
 refine xid 7 ((j:Int)-1≥(0:Int)) (fun a2=>?_) (fun a2=>?_)
 ·refine xq 10 (congrArg V0 (show IntKind.i64.wrap ((k:Int)+((j:Int)-1))=(↑(k+(j-1)):Int) from(show IntKind.i64.wrap ((k:Int)+((j:Int)-1))=((k:Int)+((j:Int)-1)) from by first|exact IntWalk.i64_in _ (by omega)|(simp only[IntKind.wrap];omega)).trans (by omega))) ?_
  refine xx 0 _ l.length (k+(j-1)) 1 (Bys.elem h (k:=(k+(j-1))) (by omega)).1 ?_
  refine xl 0 ((Bys.elem (h.below a0) (k:=(k+(j-1))) (by omega)).2) ?_
  refine xq 0 (congrArg (Value.int .u64) (show(IntKind.u64.wrap (↑(l.getD (k+(j-1)) 0).toNat:Int):Int)=(↑(l.getD (k+(j-1)) 0).toNat:Int) from u64_nat (by have:=(l.getD (k+(j-1)) 0).toNat_lt;omega))) ?_
  refine xq 0 (congrArg (Value.int .u64) (show(IntKind.u64.wrap (↑(BitVec.ofInt 64 (IntKind.u64.wrap ((↑(Zg l (k+j) r):Int)*2 ^ 8)) ||| BitVec.ofInt 64 (↑(l.getD (k+(j-1)) 0).toNat:Int)).toNat:Int):Int)=(↑(Zg l (k+(j-1)) (r+1)):Int) from(u64_step (Zg8 l (k+j) r (by omega)) (l.getD (k+(j-1)) 0).toNat_lt).trans (congrArg (fun x:Nat=>(x:Int)) (by rw[Zg,show k+(j-1)+1=k+j by omega])))) ?_
  refine xq 6 (congrArg V0 (show IntKind.i64.wrap ((j:Int)-1-1)=((↑(j-1:Nat):Int)-1) from(show IntKind.i64.wrap ((j:Int)-1-1)=((j:Int)-1-1) from by first|exact IntWalk.i64_in _ (by omega)|(simp only[IntKind.wrap];omega)).trans (by omega))) ?_
  exact ze 2 (a1 _ _ _ ⟨j-1,r+1,rfl,rfl,a0,by omega⟩ (by omega))
 refine xk 12 (show(decide ((↑(Zg l (k+j) r):Int)≥(9223372036854775808:Int)):Bool)=true from by rw[(show Zg l (k+j) r=Zg l k w from by rw[show j=0 by omega,show r=w by omega];rfl)];exact decide_eq_true (by omega)) ?_
 exact xe 8 (.tuple #[V0 0,V0 2]) ⟨rfl,a0⟩
def Je(l:Bl):Nat→List Nat→List Nat
 | _,[]=>[]
 | k,w::r=>Zg l k w::Je l (k+w) r
theorem Zar(l:Bl):∀ (ws:List Nat) (k:Nat),(Je l k ws).length=ws.length
 | [],k=>rfl
 | w::r,k=>by simp[Je,Zar l r]
theorem Po(l:Bl)(w:Nat):∀ (ws:List Nat) (k:Nat),Je l k (ws++[w])=Je l k ws++[Zg l (k+ws.sum) w]
 | [],k=>by simp[Je]
 | x::r,k=>by simp[Je,Po l w r,Nat.add_assoc]
theorem Nv(l:Bl):∀ (ws:List Nat) (k i:Nat),i<ws.length→(Je l k ws).getD i 0=Zg l (k+(ws.take i).sum) (ws.getD i 0)
 | [],k,i,h=>by simp at h
 | w::r,k,0,h=>by simp[Je]
 | w::r,k,i+1,h=>by
  have:=Nv l r (k+w) i (by simpa using h)
  simp only[List.getD_eq_getElem?_getD] at this ⊢
  simp[Je,this,Nat.add_assoc]
theorem Jl{ws:List Nat}{i:Nat}(h:i<ws.length):ws.take (i+1)=ws.take i++[ws.getD i 0]:=by
 rw[List.take_succ_eq_append_getElem h];simp[List.getD,h]
theorem Wt{ws:List Nat}{i:Nat}(h:i<ws.length):(ws.take i).sum+ws.getD i 0≤ws.sum:=by
 have h1:=Zaj h;have h2:=take_le (L:=ws) (i+1);omega
def getV(l:Bl)(k w:Nat):Int:=if Zg l k w<9223372036854775808 then(Zg l k w:Int) else 0
def Zet(l:Bl)(k w:Nat):Int:=if Zg l k w<9223372036854775808 then 0 else 2
theorem Zd7{l:Bl}{k w:Nat}(h:Zet l k w=0):Zg l k w<9223372036854775808:=by unfold Zet at h;split at h;assumption;cases h
theorem Zhd{l:Bl}{k w:Nat}(h:Zet l k w≠0):¬ Zg l k w<9223372036854775808∧Zet l k w=2:=by unfold Zet at h ⊢;split at h;exact absurd rfl h;rename_i h2;exact⟨h2,if_neg h2⟩
theorem Zbe{l:Bl}{k w:Nat}(h:Zg l k w<9223372036854775808):Zet l k w=0:=if_pos h
theorem Dz{l:Bl}{k w:Nat}(h:Zg l k w<9223372036854775808):getV l k w=(Zg l k w:Int):=if_pos h
theorem Get_gen(a:O0)(c k w:Nat)(l:Bl)(W:World)(hw:w=1∨w=2∨w=4∨w=8)(hk:k+w≤l.length)(hl:l.length≤100000000)(h:Bys W (.slice a l.length c) l) :
 C0 141 #[.slice a l.length c,V0 (k:Int),V0 (w:Int)] W (Ret (.tuple #[V0 (getV l k w),V0 (Zet l k w)]) W):=by
 by_cases hq:Zg l k w<9223372036854775808
 ·rw[Dz hq,Zbe hq];exact Get_ok a c k w l W hw hk hl h hq
 ·rw[getV,Zet,if_neg hq,if_neg hq];exact Get_big a c k w l W hw hk hl h hq
theorem Zcq(a:O0)(c:Nat)(l:Bl)(aw:O0)(cw:Nat)(ws:List Nat)(W:World)(hk:∀ i,i<ws.length→ws.getD i 0=1∨ws.getD i 0=2∨ws.getD i 0=4∨ws.getD i 0=8)(hs:ws.sum≤l.length)(hl:l.length≤100000000)(hw:ws.length≤1000)(h:Bys W (.slice a l.length c) l)(hws:Sl W (.slice aw ws.length cw) ws.length (ws.map nv))(hq:∀ i,i<ws.length→(Je l 0 ws).getD i 0<9223372036854775808) :
 C0 180 #[.slice a l.length c,.slice aw ws.length cw] W (Qe (fun w' r=>∃ p c,r=.tuple #[.slice p ws.length c,V0 0]∧w'.ownsRow W.heap.size 3 1 (.slice p ws.length c) ws.length ((Je l 0 ws).map nv)) W):=by
 refine zin 37 Tryz.func180 ?_
 have hB:=Below.refl W.heap.size W
 refine zl 25 37 (fun zm b1 V=>∃ (i:Nat) (p:O0) (c2:Nat),b1=[(0,.slice a l.length c),(6,.slice p i c2),(7,V0 (↑(ws.take i).sum:Int)),(12,.slice aw ws.length cw),(13,V0 (ws.length:Int)),(14,V0 (i:Int))]∧zm=ws.length-((i:Int)).toNat∧B3 W V∧V.ownsRow W.heap.size 3 1 (.slice p i c2) i ((Je l 0 (ws.take i)).map nv)∧i≤ws.length) ⟨0,_,_,rfl,rfl,hB,World.ownsRow_nil _ _ _ _,Nat.zero_le _⟩ ?_
 rintro _ _ W1 ⟨i,p,c2,rfl,rfl,a0,ho,hi⟩ J1 b0 r1
 have b3:i<ws.length→(ws.take i).sum+ws.getD i 0≤ws.sum:=Wt
 have a7:i<ws.length→(Je l 0 ws).getD i 0=Zg l (ws.take i).sum (ws.getD i 0):=fun h=>by rw[Nv l ws 0 i h,Nat.zero_add]
 refine xid 6 ((i:Int)<(ws.length:Int)) (fun b2=>?_) (fun b2=>?_)
 ·refine xx 6 _ ws.length i 1 (Zh hws rfl (k:=i) (by omega)).1 ?_
  refine xl 0 ((Zh (hws.below a0) rfl (k:=i) (by omega)).2) ?_
  refine xr 8 (args:=#[.slice a l.length c,V0 (↑(ws.take i).sum:Int),V0 (↑(ws.getD i 0):Int)]) (Get_gen a c (ws.take i).sum (ws.getD i 0) l _ (hk i (by omega)) (by omega) hl (h.below a0)) fun W3 a6=>?_
  refine xk 14 (show(((Zet l (ws.take i).sum (ws.getD i 0)) != (0:Int)):Bool)=false from by rw[Zbe (by rw[←a7 (by omega)];exact hq i (by omega))];rfl) ?_
  refine xbs 6 1 [V0 (getV l (ws.take i).sum (ws.getD i 0))] 3 fun b4 W4 n4=>?_
  have a2:=bln a0 a6
  have g4:=n4.ge a2
  have a3:=Zb ho a6
  have a8:=Zn a3 n4
  have a5:=Zb a3 n4.below
  have a1:=bln a2 n4.below
  refine xbi 0 fun _ _ _ _ zJ zQ zo zx zy zK=>Zr (m:=1) (news:=[V0 (getV l (ws.take i).sum (ws.getD i 0))]) (V0 0) 1 8 (i+1) ((Je l 0 (ws.take (i+1))).map nv) zo Tryz.underlying34 (by kernel_rfl) rfl (by decide) zx a5 zy (n4.blk.sl 1 1 (by decide) (by decide)) rfl (by simp[Value.oneCell']) (by unfold maxLen;omega) (by omega) a1.size (by rfl) (by rw[Jl (by omega),Po,Nat.zero_add,List.map_append];simp only[List.map_cons,List.map_nil,nv];rw[Dz (by rw[←a7 (by omega)];exact hq i (by omega))]) fun b6 b7 W5 o5 b5 a9=>?_
  refine zK _ _ ?_
  refine xwm 6 ((↑(ws.take i).sum:Int)+(↑(ws.getD i 0):Int)) (↑((ws.take i).sum+(ws.getD i 0)):Int) ?_
  refine xwm 5 ((i:Int)+1) (↑(i+1):Int) ?_
  refine xv1 2 7 (show(V0 (↑((ws.take i).sum+(ws.getD i 0)):Int):Value)=V0 (↑(ws.take (i+1)).sum:Int) from by rw[Jl (by omega),List.sum_append];simp) ?_
  have a4:=a1.trans a9
  exact ze 0 (b0 _ _ _ ⟨i+1,_,_,rfl,rfl,a4,o5,by omega⟩ (by omega))
 refine xe 13 (.tuple #[.slice p i c2,V0 0]) ?_
 obtain rfl:i=ws.length:=by omega
 rw[List.take_length] at ho
 exact⟨_,rfl,a0,_,_,rfl,ho⟩
theorem Unpack_bad(a:O0)(c:Nat)(l:Bl)(aw:O0)(cw:Nat)(ws:List Nat)(W:World)(hk:∀ i,i<ws.length→ws.getD i 0=1∨ws.getD i 0=2∨ws.getD i 0=4∨ws.getD i 0=8)(hs:ws.sum≤l.length)(hl:l.length≤100000000)(hw:ws.length≤1000)(h:Bys W (.slice a l.length c) l)(hws:Sl W (.slice aw ws.length cw) ws.length (ws.map nv))(hq:¬ ∀ i,i<ws.length→(Je l 0 ws).getD i 0<9223372036854775808) :
 C0 180 #[.slice a l.length c,.slice aw ws.length cw] W (Ret (.tuple #[S0,V0 2]) W):=by
 refine zin 37 Tryz.func180 ?_
 have hB:=Below.refl W.heap.size W
 refine zl 25 37 (fun zm b2 V=>∃ (i:Nat) (p:O0) (c2:Nat),b2=[(0,.slice a l.length c),(6,.slice p i c2),(7,V0 (↑(ws.take i).sum:Int)),(12,.slice aw ws.length cw),(13,V0 (ws.length:Int)),(14,V0 (i:Int))]∧zm=ws.length-((i:Int)).toNat∧B3 W V∧V.ownsRow W.heap.size 3 1 (.slice p i c2) i ((Je l 0 (ws.take i)).map nv)∧i≤ws.length∧(∀ j,j<i→(Je l 0 ws).getD j 0<9223372036854775808)) ⟨0,_,_,rfl,rfl,hB,World.ownsRow_nil _ _ _ _,Nat.zero_le _,?_⟩ ?_
 ·exact fun j hj=>absurd hj (by omega)
 rintro _ _ W1 ⟨i,p,c2,rfl,rfl,a0,ho,hi,a4⟩ J1 b3 r1
 have c0:i<ws.length→(ws.take i).sum+ws.getD i 0≤ws.sum:=Wt
 have b4:i<ws.length→(Je l 0 ws).getD i 0=Zg l (ws.take i).sum (ws.getD i 0):=fun h=>by rw[Nv l ws 0 i h,Nat.zero_add]
 refine xid 6 ((i:Int)<(ws.length:Int)) (fun b7=>?_) (fun b7=>?_)
 ·refine xx 6 _ ws.length i 1 (Zh hws rfl (k:=i) (by omega)).1 ?_
  refine xl 0 ((Zh (hws.below a0) rfl (k:=i) (by omega)).2) ?_
  refine xr 8 (args:=#[.slice a l.length c,V0 (↑(ws.take i).sum:Int),V0 (↑(ws.getD i 0):Int)]) (Get_gen a c (ws.take i).sum (ws.getD i 0) l _ (hk i (by omega)) (by omega) hl (h.below a0)) fun W3 b0=>?_
  refine xin 14 (Zet l (ws.take i).sum (ws.getD i 0)) (0:Int) (fun a9=>?_) (fun a9=>?_)
  ·have a5:=Zhd a9
   have a7:=bln a0 b0
   refine xe 14 (.tuple #[S0,V0 (Zet l (ws.take i).sum (ws.getD i 0))]) ?_
   rw[a5.2];exact⟨rfl,a7⟩
  have a5:=Zd7 a9
  refine xbs 6 1 [V0 (getV l (ws.take i).sum (ws.getD i 0))] 3 fun b5 W5 n5=>?_
  have a3:=bln a0 b0
  have g5:=n5.ge a3
  have a2:=Zb ho b0
  have b1:=Zn a2 n5
  have a6:=Zb a2 n5.below
  have a1:=bln a3 n5.below
  refine xbi 0 fun _ _ _ _ zJ zQ zo zx zy zK=>Zr (m:=1) (news:=[V0 (getV l (ws.take i).sum (ws.getD i 0))]) (V0 0) 1 8 (i+1) ((Je l 0 (ws.take (i+1))).map nv) zo Tryz.underlying34 (by kernel_rfl) rfl (by decide) zx a6 zy (n5.blk.sl 1 1 (by decide) (by decide)) rfl (by simp[Value.oneCell']) (by unfold maxLen;omega) (by omega) a1.size (by rfl) (by rw[Jl (by omega),Po,Nat.zero_add,List.map_append];simp only[List.map_cons,List.map_nil,nv];rw[Dz a5]) fun b9 b8 W6 o6 c1 b6=>?_
  refine zK _ _ ?_
  refine xwm 6 ((↑(ws.take i).sum:Int)+(↑(ws.getD i 0):Int)) (↑((ws.take i).sum+(ws.getD i 0)):Int) ?_
  refine xwm 5 ((i:Int)+1) (↑(i+1):Int) ?_
  refine xv1 2 7 (show(V0 (↑((ws.take i).sum+(ws.getD i 0)):Int):Value)=V0 (↑(ws.take (i+1)).sum:Int) from by rw[Jl (by omega),List.sum_append];simp) ?_
  have a8:=a1.trans b6
  exact ze 0 (b3 _ _ _ ⟨i+1,_,_,rfl,rfl,a8,o6,by omega,fun j hj=>(Nat.lt_or_ge j i).elim (fun q=>a4 j q) (fun q=>by obtain rfl:j=i:=(by omega);rw[b4 (by omega)];exact a5)⟩ (by omega))
 refine xe 13 (.tuple #[.slice p i c2,V0 0]) ?_
 exact absurd (fun j hj=>a4 j (by omega)) hq
theorem Yz{P:Program}{a:Act}{o:Oper}{src dst e:TypeId}{x:Operand}{b:O0}{n c:Nat}{l:Bl}{w:World}(ho:o.op=.convert src dst x)(hx:a.eval x=.slice b n c)(h:Bys w (.slice b n c) l)(hl:l.length=n)
 (hs:P.underlying src=some (.slice e)) (he:P.underlying e=some (.int .u8)) (hd:P.underlying dst=some .string):(execOp a.eval o).run P w=.ok (.value (.string ⟨l.toArray⟩)) w:=by
 have hr:(convert src dst (.slice b n c)).run P w=.ok (.string ⟨l.toArray⟩) w:=by
  subst hl
  rcases Sl.at h with hn|⟨g,a0,rfl,hc⟩
  ·obtain rfl:l=[]:=by simpa using hn
   cases b with
   | none=>rw[run_convert_bytes_string w src dst e none _ c hs he hd];rfl
   | some p=>exact run_convert_bytes_back w src dst e p c [] hs he hd (fun j hj=>by simp at hj)
  ·exact run_convert_bytes_back w src dst e _ c l hs he hd (fun j hj=>by rw[Addr.add_mid];exact hc j _ (by simp[List.getElem?_eq_getElem hj,bv]))
 simp only[execOp,ho,hx,Sem.run_bind,hr];rfl
theorem Al.below{B ba b g n c:Nat}{pa:O0}{ca f N k:Nat}{l:Bl}{w W:World}(h:Al B ba b g n c pa ca f N k l w)(hb:B3 w W):Al B ba b g n c pa ca f N k l W:=⟨h.blkA.below hb,h.blkI.below hb,Zb h.data hb,Zb h.nums hb⟩
theorem Bv{w:World}{base n c size:Nat}{e:TypeId}{p:O0}{xs:List Value}(h:w.ownsRow base e size (.slice p n c) n xs)(hn:0<n):∃ g,p=some ⟨g,0,none⟩∧n≤c:=by
 rcases h.2 with ⟨_,h0⟩|⟨g,a1,a0,hv,_,_,hc,_⟩
 ·omega
 ·simp only[Value.slice.injEq] at hv;exact⟨g,hv.1,by omega⟩
theorem Bys.cap{w:World}{a:O0}{n c:Nat}{l:Bl}(h:Bys w (.slice a n c) l)(hl:l.length=n):n≤c:=by
 rcases h with ⟨a',c',h1,h2,_⟩|⟨b,a0,cap,h1,h2,_,_⟩
 ·omega
 ·simp only[Value.slice.injEq] at h1;omega
theorem alloc_NewN(b:Nat)(p0:O0)(n c f N:Nat)(fi:Int)(hfi:fi=(f:Int))(hN:n/256-f=N)(w:World)(hk:Blk w b [.slice p0 n c] 80)(hn:n≤3686400)(h1:1≤f)(h2:f≤n/256) :
 C0 53 #[P0 b,V0 fi] w (Qe (fun w' r=>∃ ba p c2,r=.tuple #[P0 ba,.nilIface]∧w.heap.size≤ba∧Blk w' ba [.slice p N c2,V0 0,P0 b] 200∧w'.ownsRow w.heap.size 3 1 (.slice p N c2) N ((Og f N).map V0)) w):=by
 subst hfi hN;exact alloc_New b p0 n c f w hk hn h1 h2
end Go.Proofs.YtceeiinepijokaaGreatDoor
namespace Go.Proofs.YtceeiinepijokaaGreatDoor
set_option maxHeartbeats 8000000
set_option maxRecDepth 100000
open Go.RowKit Go.Extern.Stop Go.Stop Go.Extern
set_option linter.unusedVariables false
attribute [local irreducible] wpList wpAnyH Code.wp Oper.wp Go
section
variable {P:Program} {a:Act}
theorem Yv{o:Oper}{t e:TypeId}{x y y2:Operand}{b:O0}{n k h c:Nat}{i j:Int}{ki kj:IntKind}(size:Nat)(ho:o.op=.slice t x (some y) (some y2) none)(hx:a.eval x=.slice b n c)(hy:a.eval y=.int ki i)(hi:i=(k:Int))(hy2:a.eval y2=.int kj j)(hj:j=(h:Int))(hk:k≤h)(hc:h≤c)
 (ht:P.underlying t=some (.slice e)) (hs:(P.info? e).map (·.size)=some size) (w:World):(execOp a.eval o).run P w=.ok (.value (.slice (Qu b k c size) (h-k) (c-k))) w:=by
 cases hq:P.info? e with
 | none=>simp[hq] at hs
 | some q =>
  have a0:q.size=size:=by simpa [hq] using hs
  subst hi hj
  have h1:(0:Int)≤(k:Int):=by omega
  have h2:(0:Int)≤(h:Int):=by omega
  have h3:(k:Int)≤(h:Int):=by omega
  have h4:(h:Int)≤(c:Int):=by omega
  by_cases h5:c=k
  ·simp_all [execOp,Instr.sliceAt,Instr.slice,Instr.sliceBounds,Instr.sliceBound,asIntOf,run_underlying ht,sizeOf,typeInfo,Qu]
  ·simp_all [execOp,Instr.sliceAt,Instr.slice,Instr.sliceBounds,Instr.sliceBound,asIntOf,run_underlying ht,sizeOf,typeInfo,Qu]
end
theorem Bys.cut{w:World}{b:O0}{n c:Nat}{l:Bl}(h:Bys w (.slice b n c) l)(hl:l.length=n)(k m:Nat)(hk:k≤m)(hm:m≤n):Bys w (.slice (Qu b k c 1) (m-k) (c-k)) ((l.drop k).take (m-k)):=by
 have a0:((l.drop k).take (m-k)).length=m-k:=by simp;omega
 have a2:=Bys.cap h hl
 rcases h with ⟨a',c',h1,h2,h3⟩|⟨g,a1,a3,h1,h2,h3,h4⟩
 ·obtain rfl:k=0:=by omega
  obtain rfl:m=0:=by omega
  refine .inl ⟨Qu b 0 c 1,c-0,?_,by simp,by simp⟩
  simp
 ·simp only[Value.slice.injEq] at h1
  obtain⟨rfl,_,rfl⟩:=h1
  by_cases hz:m-k=0
  ·refine .inl ⟨Qu (some ⟨g,a1,none⟩) k c 1,c-k,by rw[hz],by omega,?_⟩
   rw[hz];rfl
  ·refine .inr ⟨g,a1+k*1,c-k,?_,by omega,by omega,fun j x hj=>?_⟩
   ·rw[Qu,if_neg (by omega),a0];simp[Addr.add]
   ·rw[List.getElem?_map,List.getElem?_take] at hj
    split at hj
    ·rw[List.getElem?_drop] at hj
     have:=h4 (k+j) x (by rw[List.getElem?_map];exact hj)
     rwa [Nat.mul_one,Nat.add_assoc]
    ·cases hj
def Yt(l:Bl):Bool:=l.all (·==0)
theorem Dc{l:Bl}(h:∀ j,j<l.length→l.getD j 0=0):Yt l=true:=by
 unfold Yt
 rw[List.all_eq_true]
 intro x hx
 obtain⟨j,hj,rfl⟩:=List.mem_iff_getElem.1 hx
 have:=h j hj
 simpa [List.getD,hj] using this
theorem Rw{l:Bl}{j:Nat}(hj:j<l.length)(h:((l.getD j 0).toNat:Int)≠0):Yt l=false:=by
 unfold Yt
 rw[List.all_eq_false]
 refine⟨l[j],List.getElem_mem hj,?_⟩
 intro h2
 apply h
 have:l[j]=0:=by simpa using h2
 simp[List.getD,hj,this]
theorem Zcn{x:UInt8}(h:(x.toNat:Int)=0):x=0:=by
 have h1:x.toNat=0:=by omega
 exact UInt8.toNat_inj.1 (by rw[h1];rfl)
theorem zero_1(n:Int)(w:World) :
 C0 238 #[.int .u8 n] w (Ret (.bool (n != 0)) w):=by
 refine zin 5 Tryz.func238 ?_
 exact xe 13 (.bool (n != (0:Int))) ⟨rfl,(B4 w)⟩
theorem indexZero(a:O0)(c:Nat)(l:Bl)(w:World)(hl:l.length≤100000000)(h:Bys w (.slice a l.length c) l) :
 C0 268 #[.slice a l.length c,.func (.func 238) #[] #[]] w (fun e w'=>(Yt l=true∧e=.returned (V0 (-1))∧B3 w w')∨(Yt l=false∧∃ i:Nat,e=.returned (V0 (i:Int))∧B3 w w')):=by
 refine zin 19 Tryz.func268 ?_
 have hB:=Below.refl w.heap.size w
 refine zl 14 19 (fun zm a5 V=>∃ (i:Nat),a5=[(0,.slice a l.length c),(1,.func (.func 238) #[] #[]),(7,V0 (l.length:Int)),(8,V0 (i:Int))]∧zm=l.length-((i:Int)).toNat∧B3 w V∧i≤l.length∧(∀ j,j<i→l.getD j 0=0)) ⟨0,rfl,rfl,hB,Nat.zero_le _,?_⟩ ?_
 ·exact fun j hj=>absurd hj (by omega)
 rintro _ _ W1 ⟨i,rfl,rfl,a0,hi,hz⟩ J1 a4 r1
 refine xid 6 ((i:Int)<(l.length:Int)) (fun a6=>?_) (fun a6=>?_)
 ·refine xx 15 _ l.length i 1 (Bys.elem h (k:=i) (by omega)).1 ?_
  refine xl 0 ((Bys.elem (h.below a0) (k:=i) (by omega)).2) ?_
  refine xr 0 (args:=#[.int .u8 (↑(l.getD i 0).toNat:Int)]) (zero_1 (↑(l.getD i 0).toNat:Int) _) fun W3 a3=>?_
  refine xin 2 (↑(l.getD i 0).toNat:Int) (0:Int) (fun a7=>?_) (fun a7=>?_)
  ·have a2:=bln a0 a3
   exact xe 12 (V0 (i:Int)) (.inr ⟨Rw (j:=i) (by omega) (by assumption),_,rfl,a2⟩)
  refine xwm 4 ((i:Int)+1) (↑(i+1):Int) ?_
  have a1:=bln a0 a3
  exact ze 2 (a4 _ _ _ ⟨i+1,rfl,rfl,a1,by omega,fun j hj=>(Nat.lt_or_ge j i).elim (hz j) (fun q=>by obtain rfl:j=i:=(by omega);exact Zcn (by assumption))⟩ (by omega))
 exact xe 11 (V0 (-1)) (.inl ⟨Dc (fun j hj=>hz j (by omega)),rfl,a0⟩)
theorem Zdp(a:O0)(c:Nat)(l:Bl)(w:World)(hl:l.length≤100000000)(h:Bys w (.slice a l.length c) l) :
 C0 237 #[.slice a l.length c,.func (.func 238) #[] #[]] w (Ret (.bool (!Yt l)) w):=by
 refine zin 9 Tryz.func237 ?_
 refine xc 9 (args:=#[.slice a l.length c,.func (.func 238) #[] #[]]) (indexZero a c l _ hl (h.below (B4 w))) ?_
 rintro e W1 a1
 rcases a1 with ⟨hz,rfl,a0⟩|⟨hz,i0,rfl,a0⟩
 ·refine xe 5 (.bool false) ?_
  rw[hz];exact⟨rfl,a0⟩
 refine xe 5 (.bool (decide ((i0:Int)≥(0:Int)))) ?_
 rw[hz,show decide ((i0:Int)≥(0:Int))=true from decide_eq_true (by omega)];exact⟨rfl,a0⟩
theorem code_Zero(a:O0)(c:Nat)(l:Bl)(w:World)(hl:l.length≤100000000)(h:Bys w (.slice a l.length c) l) :
 C0 185 #[.slice a l.length c] w (Ret (.bool (Yt l)) w):=by
 refine zin 6 Tryz.func185 ?_
 refine xr 8 (args:=#[.slice a l.length c,.func (.func 238) #[] #[]]) (Zdp a c l _ hl (h.below (B4 w))) fun W1 a0=>?_
 refine xe 5 (.bool (!(!Yt l))) ?_
 rw[Bool.not_not];exact⟨rfl,a0⟩
def Km(kind no:Int):Bool:=decide (1≤kind∧kind≤4∧0≤no∧no<14400)
theorem Zgx(kind no:Int)(w:World) :
 C0 143 #[V0 kind,V0 no] w (Ret (.bool (Km kind no)) w):=by
 refine zin 19 Tryz.func143 ?_
 refine xg 10 [6,7] (decide (kind≥(1:Int))) (fun a2=>?_) (fun a2=>?_)
 ·have a2:=of_decide_eq_true a2
  refine xg 4 [9,10,11] (decide (kind≤(4:Int))) (fun a1=>?_) (fun a1=>?_)
  ·have a1:=of_decide_eq_true a1
   refine xg 4 [13,14,15] (decide (no≥(0:Int))) (fun a0=>?_) (fun a0=>?_)
   ·have a0:=of_decide_eq_true a0
    exact xe 7 (.bool (decide (no<(14400:Int)))) ⟨by rw[show Km kind no=decide (no<14400) from decide_eq_decide.2 ⟨fun h=>h.2.2.2,fun h=>⟨by omega,by omega,by omega,h⟩⟩],(B4 w)⟩
   have a0:=of_decide_eq_false a0
   exact xe 7 (.bool false) ⟨by rw[show Km kind no=false from decide_eq_false (by omega)],(B4 w)⟩
  have a1:=of_decide_eq_false a1
  exact xe 11 (.bool false) ⟨by rw[show Km kind no=false from decide_eq_false (by omega)],(B4 w)⟩
 have a2:=of_decide_eq_false a2
 exact xe 15 (.bool false) ⟨by rw[show Km kind no=false from decide_eq_false (by omega)],(B4 w)⟩
theorem seal_told(a:O0)(c k w:Nat)(l:Bl)(W:World)(hw:w=1∨w=2∨w=4)(hk:k+w≤l.length)(hl:l.length≤100000000)(h:Bys W (.slice a l.length c) l) :
 C0 91 #[.slice a l.length c,V0 (k:Int),V0 (w:Int)] W (Ret (V0 (Zg l k w:Int)) W):=by
 refine zin 17 Tryz.func91 ?_
 refine xr 10 (args:=#[.slice a l.length c,V0 (k:Int),V0 (w:Int)]) (Get_ok a c k w l _ (by omega) hk hl (h.below (B4 W)) (by have:=Yn l k w (by omega);omega)) fun W1 a0=>?_
 exact xe 14 (V0 (↑(Zg l k w):Int)) ⟨rfl,a0⟩
theorem Me(a:O0)(n c k w:Nat)(ki wi:Int)(l:Bl)(W:World)(hn:l.length=n)(hki:ki=(k:Int))(hwi:wi=(w:Int))(hw:w=1∨w=2∨w=4)(hk:k+w≤n)(hl:n≤100000000)(h:Bys W (.slice a n c) l) :
 C0 91 #[.slice a n c,V0 ki,V0 wi] W (Ret (V0 (Zg l k w:Int)) W):=by
 subst hn hki hwi;exact seal_told a c k w l W hw hk hl h
def Hx(kind no:Int)(l:Bl):Nat→Bool
 | 0=>!Km kind no
 | 1=>(l.length:Int) != 256
 | 2=>(Zg l 252 4:Int) != (Ed l kind:Int)
 | 3=>(Zg l 0 4:Int) != no
 | 4=>(Zg l 4 2:Int) != kind
 | _=>(Zg l 6 2:Int) != 0
def Yg(kind no:Int)(l:Bl):Int :=
 if Hx kind no l 0 then 1 else if Hx kind no l 1 then 7 else if Hx kind no l 2 then 4 else if Hx kind no l 3 then 5 else if Hx kind no l 4 then 6 else if Hx kind no l 5 then 7 else 0
theorem ask1{kind no:Int}{l:Bl}(h:Hx kind no l 1=false):l.length=256:=by
 have:(l.length:Int)=256:=Yb h
 omega
theorem open_1(kind no:Int)(w:World)(l:Bl)(bk:Nat)(kk:Blk w bk [V0 kind] 3)(bn:Nat)(kn:Blk w bn [V0 no] 3) :
 C0 142 #[P0 bk,P0 bn] w (Ret (.bool (Hx kind no l 0)) w):=by
 refine zin 7 Tryz.func142 ?_
 refine xb 7 0 kk ?_
 refine xb 0 0 kn ?_
 refine xr 0 (args:=#[V0 kind,V0 no]) (Zgx kind no _) fun W1 a0=>?_
 exact xe 5 (.bool (!(Km kind no))) ⟨rfl,a0⟩
theorem open_2(kind no:Int)(w:World)(bb:Nat)(a:O0)(c:Nat)(l:Bl)(kb:Blk w bb [.slice a l.length c] 22) :
 C0 144 #[P0 bb] w (Ret (.bool (Hx kind no l 1)) w):=by
 refine zin 5 Tryz.func144 ?_
 refine xb 7 0 kb ?_
 exact xe 6 (.bool ((l.length:Int) != (256:Int))) ⟨rfl,(B4 w)⟩
theorem seal_sumN(kind:Int)(a:O0)(c n:Nat)(l:Bl)(w:World)(hn:l.length=n)(h256:n=256)(hc:256≤c)(h:Bys w (.slice a n c) l) :
 C0 146 #[.slice a n c,V0 kind] w (Ret (V0 (Ed l kind:Int)) w):=by
 subst h256;exact Zhn kind a c l w hn hc h
theorem open_3(kind no:Int)(w:World)(bb:Nat)(a:O0)(c:Nat)(l:Bl)(kb:Blk w bb [.slice a l.length c] 22)(bk:Nat)(kk:Blk w bk [V0 kind] 3)(hl:l.length=256)(hc:256≤c)(h:Bys w (.slice a l.length c) l) :
 C0 145 #[P0 bb,P0 bk] w (Ret (.bool (Hx kind no l 2)) w):=by
 refine zin 9 Tryz.func145 ?_
 refine xd 6 .z ?_
 have a0:=kb.below (Za w)
 refine xb (.e [] 0) 0 a0 ?_
 refine xb (.e [] 2) 0 a0 ?_
 have a3:=kk.below (Za w)
 refine xb (.e [] 3) 0 a3 ?_
 have hB:=(Za w)
 refine xr (.o [] 1) (args:=#[.slice a l.length c,V0 252,V0 4]) (Me a l.length c 252 4 252 4 l _ rfl rfl rfl (by decide) (by omega) (by omega) (h.below hB)) fun W1 a5=>?_
 have a1:=bln hB a5
 refine xr (.o [] 4) (args:=#[.slice a l.length c,V0 kind]) (seal_sumN kind a c l.length l _ rfl hl hc (h.below a1)) fun W2 a4=>?_
 have a2:=bln a1 a4
 exact xe (.r [5,6] 3) (.bool ((↑(Zg l 252 4):Int) != (↑(Ed l kind):Int))) ⟨rfl,a2⟩
theorem open_4(kind no:Int)(w:World)(bb:Nat)(a:O0)(c:Nat)(l:Bl)(kb:Blk w bb [.slice a l.length c] 22)(bn:Nat)(kn:Blk w bn [V0 no] 3)(hl:l.length=256)(hc:256≤c)(h:Bys w (.slice a l.length c) l) :
 C0 147 #[P0 bb,P0 bn] w (Ret (.bool (Hx kind no l 3)) w):=by
 refine zin 7 Tryz.func147 ?_
 refine xd 6 .z ?_
 have a2:=kb.below (Za w)
 refine xb (.e [] 0) 0 a2 ?_
 have a1:=kn.below (Za w)
 refine xb (.e [] 2) 0 a1 ?_
 have hB:=(Za w)
 refine xr (.o [] 1) (args:=#[.slice a l.length c,V0 0,V0 4]) (Me a l.length c 0 4 0 4 l _ rfl rfl rfl (by decide) (by omega) (by omega) (h.below hB)) fun W1 a3=>?_
 have a0:=bln hB a3
 exact xe (.r [3,4] 3) (.bool ((↑(Zg l 0 4):Int) != no)) ⟨rfl,a0⟩
theorem open_5(kind no:Int)(w:World)(bb:Nat)(a:O0)(c:Nat)(l:Bl)(kb:Blk w bb [.slice a l.length c] 22)(bk:Nat)(kk:Blk w bk [V0 kind] 3)(hl:l.length=256)(hc:256≤c)(h:Bys w (.slice a l.length c) l) :
 C0 148 #[P0 bb,P0 bk] w (Ret (.bool (Hx kind no l 4)) w):=by
 refine zin 7 Tryz.func148 ?_
 refine xd 6 .z ?_
 have a2:=kb.below (Za w)
 refine xb (.e [] 0) 0 a2 ?_
 have a1:=kk.below (Za w)
 refine xb (.e [] 2) 0 a1 ?_
 have hB:=(Za w)
 refine xr (.o [] 1) (args:=#[.slice a l.length c,V0 4,V0 2]) (Me a l.length c 4 2 4 2 l _ rfl rfl rfl (by decide) (by omega) (by omega) (h.below hB)) fun W1 a3=>?_
 have a0:=bln hB a3
 exact xe (.r [3,4] 3) (.bool ((↑(Zg l 4 2):Int) != kind)) ⟨rfl,a0⟩
theorem open_6(kind no:Int)(w:World)(bb:Nat)(a:O0)(c:Nat)(l:Bl)(kb:Blk w bb [.slice a l.length c] 22)(hl:l.length=256)(hc:256≤c)(h:Bys w (.slice a l.length c) l) :
 C0 149 #[P0 bb] w (Ret (.bool (Hx kind no l 5)) w):=by
 refine zin 5 Tryz.func149 ?_
 refine xb 7 0 kb ?_
 refine xr 0 (args:=#[.slice a l.length c,V0 6,V0 2]) (Me a l.length c 6 2 6 2 l _ rfl rfl rfl (by decide) (by omega) (by omega) (h.below (B4 w))) fun W1 a0=>?_
 exact xe 5 (.bool ((↑(Zg l 6 2):Int) != (0:Int))) ⟨rfl,a0⟩
def OpenP(kind no:Int)(l:Bl)(w:World)(e:Ending)(w':World):Prop :=
 (Yg kind no l≠0∧e=.returned (.tuple #[S0,V0 (Yg kind no l)])∧B3 w w') ∨
 (Yg kind no l=0∧∃ p c,e=.returned (.tuple #[.slice p 244 c,V0 0])∧B3 w w'∧w'.ownsRow w.heap.size 5 1 (.slice p 244 c) 244 (((l.drop 8).take 244).map bv))
theorem Zcu(kind no:Int)(a:O0)(c:Nat)(l:Bl)(w:World)(h:Bys w (.slice a l.length c) l) :
 C0 92 #[.slice a l.length c,V0 kind,V0 no] w (OpenP kind no l w):=by
 have m8:=h.cap rfl
 refine zin 39 Tryz.func92 ?_
 refine xa 2 [.slice a l.length c] 22 fun b1 W1 n1=>?_
 refine xa 0 [V0 kind] 3 fun b2 W2 n2=>?_
 refine xa 0 [V0 no] 3 fun b3 W3 n3=>?_
 have l5:=n3.ne n2.blk
 refine xbs 18 6 [.func (.func 142) #[] #[P0 b2,P0 b3],V0 1,.func (.func 144) #[] #[P0 b1],V0 7,.func (.func 145) #[] #[P0 b1,P0 b2],V0 4,.func (.func 147) #[] #[P0 b1,P0 b3],V0 5,.func (.func 148) #[] #[P0 b1,P0 b2],V0 6,.func (.func 149) #[] #[P0 b1],V0 7] 272 fun b4 W4 n4=>?_
 refine xu 12 7 ?_
 refine xlv 14 (n4.blk.rpp 0 2) ?_
 refine xa 0 [.nilFunc,V0 0] 272 fun b5 W5 n5=>?_
 have g1:=n5.ne n4.blk
 refine xsv 0 n5.blk [.func (.func 142) #[] #[P0 b2,P0 b3],V0 1] fun W6 u6 k6=>?_
 have g5:=n5.ge (bln (bln (bln n1.below n2.below) n3.below) n4.below)
 refine xb 5 0 k6 ?_
 have g6:=u6.blkT (((n2.blk.below n3.below).below n4.below).below n5.below) n5.blk (by decide)
 have k3:=u6.blkT ((n3.blk.below n4.below).below n5.below) n5.blk (by decide)
 refine xr 0 (args:=#[P0 b2,P0 b3]) (open_1 kind no _ l b2 g6 b3 k3) fun W7 b6=>?_
 refine xi 2 (Hx kind no l 0) (fun j7=>?_) (fun j7=>?_)
 ·have d1:=j7
  refine xd 1 .z ?_
  have k4:=(k6.below b6).below (Za W7)
  refine xb (.e [0] 1) 1 k4 ?_
  have hB:=bln (bln (u6.below (bln (bln (bln (bln n1.below n2.below) n3.below) n4.below) n5.below) g5) b6) (Za W7)
  refine xe (.r [2,3] 8) (.tuple #[S0,V0 1]) ?_
  have he:Yg kind no l=1:=by simp[Yg,d1]
  exact .inl ⟨by rw[he];decide,by rw[he],hB⟩
 have d1:=j7
 have e5:=(u6.blk (n4.blk.below n5.below) (Ne.symm (Ne.symm g1))).below b6
 refine xlv 22 (e5.rpp 2 2) ?_
 refine xa 0 [.nilFunc,V0 0] 272 fun b9 W9 n9=>?_
 have i6:=n9.ne e5
 have i1:=k6.below b6
 have f9:=n9.ne i1
 refine xsv 0 n9.blk [.func (.func 144) #[] #[P0 b1],V0 7] fun m9 e8 k5=>?_
 have g9:=n9.ge (bln (u6.below (bln (bln (bln (bln n1.below n2.below) n3.below) n4.below) n5.below) g5) b6)
 refine xb 5 0 k5 ?_
 have k1:=e8.blkT (((u6.blkT ((((n1.blk.below n2.below).below n3.below).below n4.below).below n5.below) n5.blk (by decide)).below b6).below n9.below) n9.blk (by decide)
 refine xr 0 (args:=#[P0 b1]) (open_2 kind no _ b1 a c l k1) fun l6 a4=>?_
 refine xi 2 (Hx kind no l 1) (fun d6=>?_) (fun d6=>?_)
 ·have a3:=d6
  refine xd 1 .z ?_
  have g0:=(k5.below a4).below (Za l6)
  refine xb (.e [0] 1) 1 g0 ?_
  have hB:=bln (bln (e8.below (bln (bln (u6.below (bln (bln (bln (bln n1.below n2.below) n3.below) n4.below) n5.below) g5) b6) n9.below) g9) a4) (Za l6)
  refine xe (.r [2,3] 8) (.tuple #[S0,V0 7]) ?_
  have he:Yg kind no l=7:=by simp[Yg,d1,a3]
  exact .inl ⟨by rw[he];decide,by rw[he],hB⟩
 have a3:=d6
 have l9:=ask1 a3
 have e2:=(e8.blk (e5.below n9.below) (Ne.symm (Ne.symm i6))).below a4
 refine xlv 22 (e2.rpp 4 2) ?_
 refine xa 0 [.nilFunc,V0 0] 272 fun o5 n7 a7=>?_
 have f5:=a7.ne e2
 have i8:=(e8.blk (i1.below n9.below) (Ne.symm (Ne.symm f9))).below a4
 have f2:=a7.ne i8
 have d0:=k5.below a4
 have d3:=a7.ne d0
 have hB:=bln (e8.below (bln (bln (u6.below (bln (bln (bln (bln n1.below n2.below) n3.below) n4.below) n5.below) g5) b6) n9.below) g9) a4
 have m6:=a7.ge hB
 refine xsv 0 a7.blk [.func (.func 145) #[] #[P0 b1,P0 b2],V0 4] fun n0 f3 j9=>?_
 refine xb 5 0 j9 ?_
 have h8:=f3.blkT ((k1.below a4).below a7.below) a7.blk (by decide)
 have i4:=f3.blkT (((e8.blkT ((g6.below b6).below n9.below) n9.blk (by decide)).below a4).below a7.below) a7.blk (by decide)
 have d5:=f3.below (bln hB a7.below) m6
 refine xr 0 (args:=#[P0 b1,P0 b2]) (open_3 kind no _ b1 a c l h8 b2 i4 (ask1 a3) (by have:=ask1 a3;have:=h.cap rfl;omega) (h.below d5)) fun m2 a0=>?_
 refine xi 2 (Hx kind no l 2) (fun e1=>?_) (fun e1=>?_)
 ·have f6:=e1
  refine xd 1 .z ?_
  have g8:=(j9.below a0).below (Za m2)
  refine xb (.e [0] 1) 1 g8 ?_
  have j6:=bln (bln d5 a0) (Za m2)
  refine xe (.r [2,3] 8) (.tuple #[S0,V0 4]) ?_
  have he:Yg kind no l=4:=by simp[Yg,d1,a3,f6]
  exact .inl ⟨by rw[he];decide,by rw[he],j6⟩
 have f6:=e1
 have e3:=(f3.blk (e2.below a7.below) (Ne.symm (Ne.symm f5))).below a0
 refine xlv 22 (e3.rpp 6 2) ?_
 refine xa 0 [.nilFunc,V0 0] 272 fun n6 o0 a5=>?_
 have f4:=a5.ne e3
 have h0:=(f3.blk (i8.below a7.below) (Ne.symm (Ne.symm f2))).below a0
 have e6:=a5.ne h0
 have c4:=(f3.blk (d0.below a7.below) (Ne.symm (Ne.symm d3))).below a0
 have f1:=a5.ne c4
 have c5:=j9.below a0
 have c1:=a5.ne c5
 have f8:=bln d5 a0
 have m5:=a5.ge f8
 refine xsv 0 a5.blk [.func (.func 147) #[] #[P0 b1,P0 b3],V0 5] fun o7 c2 k2=>?_
 refine xb 5 0 k2 ?_
 have i7:=c2.blkT ((h8.below a0).below a5.below) a5.blk (by decide)
 have j4:=c2.blkT (((f3.blkT (((e8.blkT ((k3.below b6).below n9.below) n9.blk (by decide)).below a4).below a7.below) a7.blk (by decide)).below a0).below a5.below) a5.blk (by decide)
 have e0:=c2.below (bln f8 a5.below) m5
 refine xr 0 (args:=#[P0 b1,P0 b3]) (open_4 kind no _ b1 a c l i7 b3 j4 (ask1 a3) (by have:=ask1 a3;have:=h.cap rfl;omega) (h.below e0)) fun m3 a2=>?_
 refine xi 2 (Hx kind no l 3) (fun e7=>?_) (fun e7=>?_)
 ·have h6:=e7
  refine xd 1 .z ?_
  have i2:=(k2.below a2).below (Za m3)
  refine xb (.e [0] 1) 1 i2 ?_
  have l0:=bln (bln e0 a2) (Za m3)
  refine xe (.r [2,3] 8) (.tuple #[S0,V0 5]) ?_
  have he:Yg kind no l=5:=by simp[Yg,d1,a3,f6,h6]
  exact .inl ⟨by rw[he];decide,by rw[he],l0⟩
 have h6:=e7
 have d4:=(c2.blk (e3.below a5.below) (Ne.symm (Ne.symm f4))).below a2
 refine xlv 22 (d4.rpp 8 2) ?_
 refine xa 0 [.nilFunc,V0 0] 272 fun o2 o6 a6=>?_
 have e4:=a6.ne d4
 have g3:=(c2.blk (h0.below a5.below) (Ne.symm (Ne.symm e6))).below a2
 have f0:=a6.ne g3
 have c8:=(c2.blk (c4.below a5.below) (Ne.symm (Ne.symm f1))).below a2
 have e9:=a6.ne c8
 have c7:=(c2.blk (c5.below a5.below) (Ne.symm (Ne.symm c1))).below a2
 have b7:=a6.ne c7
 have c6:=k2.below a2
 have c0:=a6.ne c6
 have i5:=bln e0 a2
 have m7:=a6.ge i5
 refine xsv 0 a6.blk [.func (.func 148) #[] #[P0 b1,P0 b2],V0 6] fun o4 d2 k7=>?_
 refine xb 5 0 k7 ?_
 have i0:=d2.blkT ((i7.below a2).below a6.below) a6.blk (by decide)
 have j8:=d2.blkT (((c2.blkT ((i4.below a0).below a5.below) a5.blk (by decide)).below a2).below a6.below) a6.blk (by decide)
 have d8:=d2.below (bln i5 a6.below) m7
 refine xr 0 (args:=#[P0 b1,P0 b2]) (open_5 kind no _ b1 a c l i0 b2 j8 (ask1 a3) (by have:=ask1 a3;have:=h.cap rfl;omega) (h.below d8)) fun l7 a1=>?_
 refine xi 2 (Hx kind no l 4) (fun d7=>?_) (fun d7=>?_)
 ·have j2:=d7
  refine xd 1 .z ?_
  have h7:=(k7.below a1).below (Za l7)
  refine xb (.e [0] 1) 1 h7 ?_
  have j3:=bln (bln d8 a1) (Za l7)
  refine xe (.r [2,3] 8) (.tuple #[S0,V0 6]) ?_
  have he:Yg kind no l=6:=by simp[Yg,d1,a3,f6,h6,j2]
  exact .inl ⟨by rw[he];decide,by rw[he],j3⟩
 have j2:=d7
 have h2:=(d2.blk (d4.below a6.below) (Ne.symm (Ne.symm e4))).below a1
 refine xlv 22 (h2.rpp 10 2) ?_
 refine xa 0 [.nilFunc,V0 0] 272 fun o8 n8 b0=>?_
 have l4:=b0.ne h2
 have k8:=(d2.blk (g3.below a6.below) (Ne.symm (Ne.symm f0))).below a1
 have l2:=b0.ne k8
 have h1:=(d2.blk (c8.below a6.below) (Ne.symm (Ne.symm e9))).below a1
 have l1:=b0.ne h1
 have g2:=(d2.blk (c7.below a6.below) (Ne.symm (Ne.symm b7))).below a1
 have j1:=b0.ne g2
 have h9:=(d2.blk (c6.below a6.below) (Ne.symm (Ne.symm c0))).below a1
 have i9:=b0.ne h9
 have h3:=k7.below a1
 have j0:=b0.ne h3
 have h4:=bln d8 a1
 have m4:=b0.ge h4
 refine xsv 0 b0.blk [.func (.func 149) #[] #[P0 b1],V0 7] fun o1 l8 m1=>?_
 refine xb 5 0 m1 ?_
 have f7:=l8.blkT ((i0.below a1).below b0.below) b0.blk (by decide)
 have a8:=l8.below (bln h4 b0.below) m4
 refine xr 0 (args:=#[P0 b1]) (open_6 kind no _ b1 a c l f7  (ask1 a3) (by have:=ask1 a3;have:=h.cap rfl;omega) (h.below a8)) fun m0 a9=>?_
 refine xi 2 (Hx kind no l 5) (fun d9=>?_) (fun d9=>?_)
 ·have l3:=d9
  refine xd 1 .z ?_
  have i3:=(m1.below a9).below (Za m0)
  refine xb (.e [0] 1) 1 i3 ?_
  have h5:=bln (bln a8 a9) (Za m0)
  refine xe (.r [2,3] 8) (.tuple #[S0,V0 7]) ?_
  have he:Yg kind no l=7:=by simp[Yg,d1,a3,f6,h6,j2,l3]
  exact .inl ⟨by rw[he];decide,by rw[he],h5⟩
 have l3:=d9
 have j5:=f7.below a9
 refine xb 22 0 j5 ?_
 refine xsB 0 (fun _ _ _ _ _ zo zx zy zz V=>Yv (k:=8) (h:=252) (b:=a) (n:=l.length) (c:=c) (i:=8) (ki:=.i64) (j:=252) (kj:=.i64) 1 zo zx zy rfl zz rfl (by omega) (by omega) Tryz.underlying22 (by kernel_rfl) V) ?_
 have c9:=bln a8 a9
 refine xc 0 (args:=#[.slice (Qu a 8 c 1) 244 (c-8)]) (Qm (Qu a 8 c 1) 244 (c-8) ((l.drop 8).take 244) _ (by have:=ask1 a3;simp;omega) ((Bys.cut h rfl 8 252 (by decide) (by have:=ask1 a3;omega)).below c9) (by decide)) ?_
 rintro _ o3 ⟨_,rfl,k0,ho⟩
 have k9:=(bln a8 a9).size
 have b8:=Zd ho k9
 unfold Nk at b8
 rw[show((l.drop 8).take 244).length=244 from by have:=ask1 a3;simp;omega] at b8
 obtain⟨p,c3,rfl⟩:=(Ze b8).slice
 have g7:=bln c9 k0
 exact xe 5 (.tuple #[.slice p 244 c3,V0 0]) (.inr ⟨by simp[Yg,d1,a3,f6,h6,j2,l3],_,_,rfl,g7,b8⟩)
end Go.Proofs.YtceeiinepijokaaGreatDoor
namespace Go.Proofs.YtceeiinepijokaaGreatDoor
set_option maxHeartbeats 8000000
set_option maxRecDepth 100000
open Go.RowKit Go.Extern.Stop Go.Stop Go.Extern
set_option linter.unusedVariables false
attribute [local irreducible] wpList wpAnyH Code.wp Oper.wp Go
section
variable {P:Program} {a:Act}
theorem run_shrU8{o:Oper}{t t2:TypeId}{x y:Operand}{n s:Nat}{j:Int}{kj:IntKind}(ho:o.op=.binOp .shr t x y t2)(hx:a.eval x=.int .u8 (n:Int))(hy:a.eval y=.int kj j)(hj:j=(s:Int))(hs:s≤8)(w:World):(execOp a.eval o).run P w=.ok (.value (.int .u8 ((n/2 ^ s:Nat):Int))) w:=by
 subst hj
 have e:=shift_shr_u8 kj (n:Int) (s:Int) (Int.natCast_nonneg s) (by omega)
 simp only[execOp,ho,hx,hy,eqGuard_shr,binOp_shr,e]
 simp
end
theorem Get_okN(a:O0)(n c k w:Nat)(ki wi:Int)(l:Bl)(W:World)(hn:l.length=n)(hki:ki=(k:Int))(hwi:wi=(w:Int))(hw:w=1∨w=2∨w=4)(hk:k+w≤n)(hl:n≤100000000)(h:Bys W (.slice a n c) l) :
 C0 141 #[.slice a n c,V0 ki,V0 wi] W (Ret (.tuple #[V0 (Zg l k w:Int),V0 0]) W):=by
 subst hn hki hwi;exact Get_ok a c k w l W (by omega) hk hl h (by have:=Yn l k w (by omega);omega)
def Ay(l:Bl)(i:Nat):Nat:=(l.getD (4+i/4) 0).toNat/2 ^ (i%4*2)%4
theorem i64_and3{n:Nat}(h:n<9223372036854775808):IntKind.i64.wrap (↑(BitVec.ofInt 64 (n:Int) &&& BitVec.ofInt 64 (3:Int)).toNat:Int)=((n%4:Nat):Int):=by
 rw[show(3:Int)=((3:Nat):Int) from rfl,BitVec.ofInt_natCast,BitVec.ofInt_natCast,BitVec.toNat_and,BitVec.toNat_ofNat,BitVec.toNat_ofNat,Nat.mod_eq_of_lt (by omega),Nat.mod_eq_of_lt (by omega)]
 rw[show n &&& 3=n%4 from Nat.and_two_pow_sub_one_eq_mod n 2]
 exact Kw (by omega)
theorem Wv(n k:Nat)(hn:n<9223372036854775808)(hk:0<k):IntKind.i64.wrap (Int.tdiv (n:Int) (k:Int))=((n/k:Nat):Int):=by
 rw[Int.tdiv_eq_ediv_of_nonneg (Int.natCast_nonneg _),←Int.natCast_ediv]
 exact Kw (Nat.lt_of_le_of_lt (Nat.div_le_self _ _) hn)
theorem Ug(n k:Nat):Int.tmod (n:Int) (k:Int)=((n%k:Nat):Int):=by
 rw[Int.tmod_eq_emod_of_nonneg (Int.natCast_nonneg _),←Int.natCast_emod]
theorem shr_lt(l:Bl)(k s:Nat):(l.getD k 0).toNat/2 ^ s<256:=Nat.lt_of_le_of_lt (Nat.div_le_self _ _) (l.getD k 0).toNat_lt
def Fv(l:Bl)(n:Nat):List Nat:=(List.range n).map (Ay l)
theorem Zae(l:Bl)(n:Nat):Fv l (n+1)=Fv l n++[Ay l n]:=by simp[Fv,List.range_succ]
def bitsOk(l:Bl):Prop:=l.length=244∧Zg l 0 4≤960∧∀ i,i<960→Zg l 0 4≤i→Ay l i=0
def BitsP(l:Bl)(w:World)(e:Ending)(w':World):Prop :=
 (¬ bitsOk l∧e=.returned (.tuple #[S0,V0 7])∧B3 w w') ∨
 (bitsOk l∧∃ p c,e=.returned (.tuple #[.slice p (Zg l 0 4) c,V0 0])∧B3 w w'∧w'.ownsRow w.heap.size 3 1 (.slice p (Zg l 0 4) c) (Zg l 0 4) ((Fv l (Zg l 0 4)).map nv))
theorem bits_Read(a:O0)(c:Nat)(l:Bl)(w:World)(hl:l.length≤100000000)(h:Bys w (.slice a l.length c) l) :
 C0 133 #[.slice a l.length c] w (BitsP l w):=by
 refine zin 47 Tryz.func133 ?_
 refine xin 14 (l.length:Int) (244:Int) (fun b3=>?_) (fun b3=>?_)
 ·exact xe 8 (.tuple #[S0,V0 7]) (.inl ⟨fun h=>by have:=h.1;omega,rfl,(B4 w)⟩)
 refine xr 5 (args:=#[.slice a l.length c,V0 0,V0 4]) (Get_okN a l.length c 0 4 0 4 l _ rfl rfl rfl (by decide) (by omega) hl (h.below (B4 w))) fun W2 a4=>?_
 refine xid 14 ((↑(Zg l 0 4):Int)>(960:Int)) (fun a9=>?_) (fun a9=>?_)
 ·exact xe 8 (.tuple #[S0,V0 7]) (.inl ⟨fun h=>by have:=h.2.1;omega,rfl,a4⟩)
 refine zl 14 47 (fun zm b1 V=>∃ (i m:Nat) (p:O0) (c2:Nat),b1=[(0,.slice a l.length c),(4,V0 (↑(Zg l 0 4):Int)),(6,.slice p m c2),(19,V0 (i:Int))]∧zm=960-((i:Int)).toNat∧B3 w V∧V.ownsRow w.heap.size 3 1 (.slice p m c2) m ((Fv l m).map nv)∧i≤960∧m=min i (Zg l 0 4)∧(∀ j,j<i→Zg l 0 4≤j→Ay l j=0)) ⟨0,0,_,_,rfl,rfl,a4,World.ownsRow_nil _ _ _ _,Nat.zero_le _,by omega,?_⟩ ?_
 ·exact fun j hj=>absurd hj (by omega)
 rintro _ _ W4 ⟨i,m,p,c2,rfl,rfl,a0,ho,hi,hm,hz⟩ J4 a5 r4
 refine xid 6 ((i:Int)<(960:Int)) (fun b2=>?_) (fun b2=>?_)
 ·refine xq 14 (congrArg V0 (show(IntKind.i64.wrap (Int.tdiv (i:Int) 4):Int)=(↑(i/4):Int) from Wv i 4 (by omega) (by decide))) ?_
  refine xwm 0 (4+(↑(i/4):Int)) (↑(4+(i/4)):Int) ?_
  refine xx 0 _ l.length (4+(i/4)) 1 (Bys.elem h (k:=(4+(i/4))) (by omega)).1 ?_
  refine xl 0 ((Bys.elem (h.below a0) (k:=(4+(i/4))) (by omega)).2) ?_
  refine xq 1 (congrArg V0 (show(Int.tmod (i:Int) 4:Int)=(↑(i%4):Int) from Ug i 4)) ?_
  refine xwm 0 ((↑(i%4):Int)*2) (↑((i%4)*2):Int) ?_
  refine xbo 0 (t:=5) (t2:=3) (fun _ _ _ _ zo zx zy V hV=>run_shrU8 (n:=((l.getD (4+(i/4)) 0).toNat)) (s:=((i%4)*2)) (kj:=.i64) (j:=(↑((i%4)*2):Int)) zo zx zy rfl (by omega) V) ?_
  refine xq 0 (congrArg V0 (show(IntKind.i64.wrap (↑((l.getD (4+(i/4)) 0).toNat/2 ^ ((i%4)*2)):Int):Int)=(↑((l.getD (4+(i/4)) 0).toNat/2 ^ ((i%4)*2)):Int) from Kw (by have:=shr_lt l (4+i/4) (i%4*2);omega))) ?_
  refine xq 0 (congrArg V0 (show(IntKind.i64.wrap (↑(BitVec.ofInt 64 (↑((l.getD (4+(i/4)) 0).toNat/2 ^ ((i%4)*2)):Int) &&& BitVec.ofInt 64 (3:Int)).toNat:Int):Int)=(↑(Ay l i):Int) from i64_and3 (by have:=shr_lt l (4+i/4) (i%4*2);omega))) ?_
  refine xid 12 ((i:Int)<(↑(Zg l 0 4):Int)) (fun a8=>?_) (fun a8=>?_)
  ·refine xbs 3 1 [V0 (↑(Ay l i):Int)] 3 fun b7 W7 n7=>?_
   have g7:=n7.ge a0
   have a6:=Zn ho n7
   have a3:=Zb ho n7.below
   have a1:=bln a0 n7.below
   refine xbi 0 fun _ _ _ _ zJ zQ zo zx zy zK=>Zr (m:=1) (news:=[V0 (↑(Ay l i):Int)]) (V0 0) 1 8 (m+1) ((Fv l (m+1)).map nv) zo Tryz.underlying34 (by kernel_rfl) rfl (by decide) zx a3 zy (n7.blk.sl 1 1 (by decide) (by decide)) rfl (by simp[Value.oneCell']) (by unfold maxLen;omega) (by omega) a1.size (by rfl) (by rw[Zae,List.map_append,show m=i by omega];rfl) fun b4 b5 W8 o8 b6 a7=>?_
   refine zK _ _ ?_
   refine xwm 6 ((i:Int)+1) (↑(i+1):Int) ?_
   have a2:=a1.trans a7
   exact ze 2 (a5 _ _ _ ⟨i+1,m+1,_,_,rfl,rfl,a2,o8,by omega,by omega,fun j hj hc=>(Nat.lt_or_ge j i).elim (fun q=>hz j q hc) (fun q=>by obtain rfl:j=i:=(by omega);omega)⟩ (by omega))
  refine xin 7 (↑(Ay l i):Int) (0:Int) (fun b0=>?_) (fun b0=>?_)
  ·exact xe 13 (.tuple #[S0,V0 7]) (.inl ⟨fun h=>by have:=h.2.2 i (by omega) (by omega);omega,rfl,a0⟩)
  refine xwm 5 ((i:Int)+1) (↑(i+1):Int) ?_
  exact ze 2 (a5 _ _ _ ⟨i+1,m,_,_,rfl,rfl,a0,ho,by omega,by omega,fun j hj hc=>(Nat.lt_or_ge j i).elim (fun q=>hz j q hc) (fun q=>by obtain rfl:j=i:=(by omega);omega)⟩ (by omega))
 refine xe 13 (.tuple #[.slice p m c2,V0 0]) ?_
 obtain rfl:m=Zg l 0 4:=by omega
 exact .inr ⟨⟨by omega,by omega,fun j hj hc=>hz j (by omega) hc⟩,_,_,rfl,a0,ho⟩
end Go.Proofs.YtceeiinepijokaaGreatDoor
namespace Go.Proofs.YtceeiinepijokaaGreatDoor
set_option maxHeartbeats 8000000
set_option maxRecDepth 100000
open Go.RowKit
theorem Blk.ty{w:World}{b:Nat}{cs cs':List Value}{t t':TypeId}(k:Blk w b cs t)(q:Blk w b cs' t'):t=t':=by
 have h1:w.heap[b]? = some (.cells cs.toArray t (0,0)):=k
 have h2:w.heap[b]? = some (.cells cs'.toArray t' (0,0)):=q
 rw[h1] at h2
 simp only[Option.some.injEq,Obj.cells.injEq] at h2
 exact h2.2.1
theorem Hb.upd{w W:World}{b:Nat}{cs:List Value}{t:TypeId}{l:List (Option Int)}{c:Option Int}{v:Value}(h:Hb w l c v)(u:Upd w b W)(k:Blk w b cs t)(hne:t≠191):Hb W l c v :=
 h.kept fun _ _ q=>u.blk q (by rintro rfl;exact hne (k.ty q))
theorem Hb.grown{w W:World}{e:TypeId}{base size n:Nat}{s:Value}{xs:List Value}{l:List (Option Int)}{c:Option Int}{v:Value}(h:Hb w l c v)(hg:w.grownBy W s.ownBlock)(hown:w.ownsRow base e size s n xs)(hne:e≠191):Hb W l c v :=
 h.kept fun _ _ q=>q.grown hg hown hne
theorem Hb.only{T:List TypeId}{w W:World}{l:List (Option Int)}{c:Option Int}{v:Value}(h:Hb w l c v)(k:Zf T w W)(hne:T.contains 191=false):Hb W l c v:=h.kept fun _ _ q=>q.only k hne
end Go.Proofs.YtceeiinepijokaaGreatDoor
namespace Go.Proofs.YtceeiinepijokaaGreatDoor
set_option maxHeartbeats 8000000
set_option maxRecDepth 100000
open Go.RowKit Go.Extern.Stop Go.Stop Go.Extern
set_option linter.unusedVariables false
attribute [local irreducible] wpList wpAnyH Code.wp Oper.wp Go
structure ImgR(B b:Nat)(p:Option Addr)(n c:Nat)(l:List UInt8)(w:World):Prop where
 blk:Blk w b [.slice p n c] 80
 row:w.ownsRow B 5 1 (.slice p n c) n (l.map bv)
 hn:n≤3686400
theorem ImgR.below{B b:Nat}{p:O0}{n c:Nat}{l:Bl}{w W:World}(h:ImgR B b p n c l w)(hb:B3 w W):ImgR B b p n c l W:=⟨h.blk.below hb,Zb h.row hb,h.hn⟩
theorem ImgR.only{B b:Nat}{p:O0}{n c:Nat}{l:Bl}{w W:World}{T:List TypeId}(h:ImgR B b p n c l w)(hO:Zf T w W)(hT:T.contains 80=false∧T.contains 5=false):ImgR B b p n c l W:=⟨h.blk.only hO hT.1,Zj h.row hO hT.2,h.hn⟩
theorem ImgR.len{B b:Nat}{p:O0}{n c:Nat}{l:Bl}{w:World}(h:ImgR B b p n c l w):l.length=n:=by have:=h.row.1;simpa using this
theorem ImgR.base{B b:Nat}{p:O0}{n c:Nat}{l:Bl}{w:World}(h:ImgR B b p n c l w)(hn:0<n):∃ g,p=some ⟨g,0,none⟩∧n≤c:=by
 rcases h.row.2 with ⟨_,h0⟩|⟨g,a1,a0,hv,_,_,hc,_⟩
 ·omega
 ·simp only[Value.slice.injEq] at hv
  obtain⟨rfl,_,rfl⟩:=hv
  exact⟨g,rfl,hc⟩
def Yx(l:Bl)(j:Nat):Bl:=(l.drop (j*256)).take 256
theorem Vi{l:Bl}{j:Nat}(h:j<l.length/256):(Yx l j).length=256:=by simp[Yx];omega
theorem Bys.mid{w:World}{g off n c:Nat}{l:Bl}(h:Bys w (.slice (some ⟨g,off,none⟩) n c) l)(hl:l.length=n)(k m:Nat)(hm:0<m)(hk:k+m≤n):Bys w (.slice (some ⟨g,off+k,none⟩) m m) ((l.drop k).take m):=by
 have a0:((l.drop k).take m).length=m:=by simp;omega
 rcases h with ⟨a',c',h1,h2,h3⟩|⟨g',a1,a2,h1,h2,h3,h4⟩
 ·omega
 ·simp only[Value.slice.injEq,Option.some.injEq,Addr.mk.injEq] at h1
  obtain⟨⟨rfl,rfl,_⟩,_,rfl⟩:=h1
  refine .inr ⟨g,off+k,m,by rw[a0],by omega,by omega,fun j x hj=>?_⟩
  rw[List.getElem?_map,List.getElem?_take] at hj
  split at hj
  ·rw[List.getElem?_drop] at hj
   have:=h4 (k+j) x (by rw[List.getElem?_map];exact hj)
   rwa [←Nat.add_assoc] at this
  ·cases hj
theorem ImgR.part{B b g:Nat}{n c:Nat}{l:Bl}{w:World}(h:ImgR B b (S1 g) n c l w){j:Nat}(hj:j<n/256):Bys w (.slice (some ⟨g,j*256,none⟩) 256 256) (Yx l j):=by
 have:=Bys.mid (Yk (Ze h.row) h.len) h.len (j*256) 256 (by decide) (by omega)
 rwa [Nat.zero_add] at this
def ReadP(n:Nat)(l:Bl)(k:Int)(w:World)(e:Ending)(w':World):Prop :=
 (¬ (0≤k∧k<(n/256:Nat))∧∃ v,e=.returned (.tuple #[v,V0 3])∧B3 w w') ∨
 (∃ j:Nat,k=(j:Int)∧j<n/256∧∃ p c,e=.returned (.tuple #[.slice p 256 c,V0 0])∧B3 w w'∧w'.ownsRow w.heap.size 5 1 (.slice p 256 c) 256 ((Yx l j).map bv))
theorem Ab(b:Nat)(p:O0)(n c:Nat)(k:Int)(w:World)(hk:Blk w b [.slice p n c] 80)(hn:n≤100000000)(ho:¬ (0≤k∧k<(n/256:Nat))) :
 C0 90 #[P0 b,V0 k] w (Ret (.tuple #[S0,V0 3]) w):=by
 refine zin 33 Tryz.func90 ?_
 refine xg 21 [13,14] (decide (k<(0:Int))) (fun a0=>?_) (fun a0=>?_)
 ·have a0:=of_decide_eq_true a0
  exact xe 18 (.tuple #[S0,V0 3]) ⟨rfl,(B4 w)⟩
 have a0:=of_decide_eq_false a0
 refine xr 2 (args:=#[P0 b]) (Yu b _ n c _ (hk.below (B4 w)) hn) fun W2 a1=>?_
 refine xk 5 (show(decide (k≥(↑(n/256):Int)):Bool)=true from decide_eq_true (by omega)) ?_
 exact xe 9 (.tuple #[S0,V0 3]) ⟨rfl,a1⟩
theorem An(B b:Nat)(p:O0)(n c:Nat)(l:Bl)(k:Int)(w:World)(hI:ImgR B b p n c l w)(ho:¬ (0≤k∧k<(n/256:Nat))) :
 C0 43 #[P0 b,V0 k] w (Qe (fun _ r=>∃ v,r=.tuple #[v,V0 3]) w):=by
 refine zin 17 Tryz.func43 ?_
 refine xr 10 (args:=#[P0 b,V0 k]) (Ab b p n c k _ (hI.below (B4 w)).blk (by have:=hI.hn;omega) ho) fun W1 a1=>?_
 refine xc 10 (args:=#[S0]) (Zek 0 _) ?_
 rintro _ W2 ⟨v2,rfl,a0,_⟩
 have hB:=bln a1 a0
 exact xe 6 (.tuple #[v2,V0 3]) ⟨_,rfl,hB,_,rfl⟩
theorem Zas(B b g:Nat)(n c:Nat)(l:Bl)(j:Nat)(w:World)(hI:ImgR B b (S1 g) n c l w)(hj:j<n/256)(hc:n≤c) :
 C0 43 #[P0 b,V0 (j:Int)] w (Qe (fun w' r=>∃ p2 c3,r=.tuple #[.slice p2 256 c3,V0 0]∧w'.ownsRow w.heap.size 5 1 (.slice p2 256 c3) 256 ((Yx l j).map bv)) w):=by
 have a3:=Vi (l:=l) (j:=j) (by rw[hI.len];exact hj)
 refine zin 17 Tryz.func43 ?_
 refine xr 10 (args:=#[P0 b,V0 (j:Int)]) (Sz b g n c j _ (hI.below (B4 w)).blk (by have:=hI.hn;omega) hc hj) fun W1 a1=>?_
 refine xc 10 (args:=#[.slice (some ⟨g,(j*256),none⟩) 256 256]) (Qm (some ⟨g,(j*256),none⟩) 256 256 (Yx l j) _ a3 ((hI.below a1).part hj) (by decide)) ?_
 rintro _ W2 ⟨_,rfl,a4,ho⟩
 have a0:=Zd ho a1.size
 unfold Nk at a0
 rw[a3] at a0
 obtain⟨p2,c3,rfl⟩:=(Ze a0).slice
 have a2:=bln a1 a4
 exact xe 6 (.tuple #[.slice p2 256 c3,V0 0]) ⟨_,rfl,a2,_,_,rfl,a0⟩
theorem Eh(B b:Nat)(p:O0)(n c:Nat)(l:Bl)(k:Int)(w:World)(hI:ImgR B b p n c l w) :
 C0 43 #[P0 b,V0 k] w (ReadP n l k w):=by
 by_cases h:0≤k∧k<(n/256:Nat)
 ·obtain⟨g,rfl,hc⟩:=hI.base (by omega)
  obtain⟨j,rfl⟩:∃ j:Nat,k=j:=⟨k.toNat,by omega⟩
  refine(Zas B b g n c l j w hI (by omega) hc).mono ?_
  rintro e W ⟨_,rfl,hb,p2,c3,rfl,ho⟩
  exact .inr ⟨j,rfl,by omega,_,_,rfl,hb,ho⟩
 ·refine(An B b p n c l k w hI h).mono ?_
  rintro e W ⟨_,rfl,hb,v,rfl⟩
  exact .inl ⟨h,_,rfl,hb⟩
def inE (l:Bl)(kind no:Int):Int:=if 0≤no∧no<(l.length/256:Nat) then Yg kind no (Yx l no.toNat) else 3
def inB (l:Bl)(no:Int):Bl:=((Yx l no.toNat).drop 8).take 244
theorem Sg{l:Bl}{kind no:Int}{n:Nat}(hl:l.length=n)(h:¬ (0≤no∧no<(n/256:Nat))):inE l kind no=3:=by subst hl;exact if_neg h
theorem Zaa{l:Bl}{kind no:Int}{n j:Nat}(hl:l.length=n)(hk:no=(j:Int))(h:j<n/256):inE l kind no=Yg kind no (Yx l j):=by
 subst hl hk;rw[inE,if_pos ⟨by omega,by omega⟩];rfl
theorem Oc{l:Bl}{no:Int}{j:Nat}(hk:no=(j:Int)):inB l no=((Yx l j).drop 8).take 244:=by subst hk;rfl
theorem Zfo{l:Bl}{no:Int}{n j:Nat}(hl:l.length=n)(hk:no=(j:Int))(h:j<n/256):(inB l no).length=244:=by
 subst hl hk;have:=Vi h;simp[inB,this]
theorem Rm{l l':Bl}(h:l.length=l'.length)(h2:∀ j,j<l.length→l.getD j 0=l'.getD j 0):l=l':=by
 apply List.ext_getElem h
 intro j h3 h4
 have:=h2 j h3
 simpa [List.getD,h3,h4] using this
theorem Gl{l:Bl}{k:Nat}{x:Bl}(h:k+x.length≤l.length)(j:Nat):(Vq l k x).getD j 0=if k≤j∧j<k+x.length then x.getD (j-k) 0 else l.getD j 0:=by
 unfold Vq
 simp only[List.getD]
 rw[List.append_assoc,List.getElem?_append,List.getElem?_append]
 have e:(l.take k).length=k:=by simp;omega
 rw[e]
 by_cases h1:j<k
 ·rw[if_pos h1,if_neg (by omega),List.getElem?_take,if_pos h1]
 ·rw[if_neg h1]
  by_cases h2:j-k<x.length
  ·rw[if_pos h2,if_pos (by omega)]
  ·rw[if_neg h2,if_neg (by omega),List.getElem?_drop,show k+x.length+(j-k-x.length)=j by omega]
theorem Zab{l l':Bl}:∀ (w k:Nat),(∀ j,k≤j→j<k+w→l.getD j 0=l'.getD j 0)→Zg l k w=Zg l' k w
 | 0,k,h=>rfl
 | w+1,k,h=>by rw[Zg,Zg,h k (by omega) (by omega),Zab w (k+1) fun j h1 h2=>h j (by omega) (by omega)]
theorem Gx{l:Bl}:∀ (w k m:Nat),(∀ i,i<w→l.getD (k+i) 0=UInt8.ofNat (m/256 ^ i))→Zg l k w=m%256 ^ w
 | 0,k,m,h=>by simp[Zg,Nat.mod_one]
 | w+1,k,m,h=>by
  have h0:=h 0 (by omega)
  simp only[Nat.add_zero,Nat.pow_zero,Nat.div_one] at h0
  have h1:=Gx (l:=l) w (k+1) (m/256) fun i hi=>by
   have:=h (i+1) (by omega)
   rw[Nat.pow_succ,Nat.mul_comm,←Nat.div_div_eq_div_mul] at this
   rw[show k+1+i=k+(i+1) by omega];exact this
  rw[Zg,h0,h1,Nat.pow_succ,Nat.mul_comm (256 ^ w) 256,Nat.mod_mul]
  congr 1
theorem Zbr{l:Bl}{k w:Nat}{n:Int}(h:k+w≤l.length)(h0:0≤n)(hb:n.toNat<256 ^ w):(Zg (Vq l k (leB n w)) k w:Int)=n:=by
 rw[Gx w k n.toNat,Nat.mod_eq_of_lt hb]
 ·omega
 ·intro i hi
  rw[Gl (by rw[Zi];exact h),if_pos (by rw[Zi];omega),show k+i-k=i by omega]
  simp[leB,Zw,List.getD,List.getElem?_range hi]
theorem Qb{l x:Bl}{k j w:Nat}(h:k+x.length≤l.length)(hd:j+w≤k∨k+x.length≤j):Zg (Vq l k x) j w=Zg l j w :=
 Zab w j fun i h1 h2=>by rw[Gl h,if_neg (by omega)]
theorem rawN_zero{l:Bl}{k w:Nat}(h:∀ j,k≤j→j<k+w→l.getD j 0=0):Zg l k w=0:=by
 have:=Gx (l:=l) w k 0 fun i hi=>by rw[h (k+i) (by omega) (by omega)];simp
 simpa using this
theorem sumB_put{l x:Bl}{kind:Int}(h:252≤l.length):Ed (Vq l 252 x) kind=Ed l kind:=by
 unfold Ed Vq
 rw[List.append_assoc,List.take_append_of_le_length (by simp;omega),List.take_take];rfl
theorem Bo(n j:Nat):(List.replicate n (0:UInt8)).getD j 0=0:=by
 simp[List.getD,List.getElem?_replicate];split<;>rfl
def Zd4(li:Bl):Bl:=li++List.replicate (244-li.length) 0
theorem Zc2{kind no:Int}{li:Bl}(h1:1≤kind)(h2:kind≤4)(h3:0≤no)(h4:no<14400)(hl:li.length≤244):Yg kind no (Xs kind no li)=0:=by
 have l1:=Us hl
 have l2:=Uv (no:=no) hl
 have l3:=Ju (kind:=kind) (no:=no) hl
 have l4:=Vr (kind:=kind) (no:=no) hl
 have a0:Hx kind no (Xs kind no li) 0=false:=by simp only[Hx];rw[show Km kind no=true from decide_eq_true (by omega)];rfl
 have a1:Hx kind no (Xs kind no li) 1=false:=by simp only[Hx,l4];rfl
 have a2:Hx kind no (Xs kind no li) 2=false:=by
  have hs:Ed (Xs kind no li) kind=Ed (Mj kind no li) kind:=by unfold Xs;exact sumB_put (by omega)
  have hr:(Zg (Xs kind no li) 252 4:Int)=(Ed (Mj kind no li) kind:Int):=by
   unfold Xs
   exact Zbr (by omega) (by omega) (by have:=sumB_lt (Mj kind no li) kind;simpa using this)
  simp only[Hx,hr,hs];simp
 have a3:Hx kind no (Xs kind no li) 3=false:=by
  have hr:(Zg (Xs kind no li) 0 4:Int)=no:=by
   unfold Xs
   rw[Qb (by rw[Zi];omega) (.inl (by omega))]
   unfold Mj
   rw[Qb (by rw[Zi];omega) (.inl (by omega))]
   unfold Zgq
   exact Zbr (by omega) (by omega) (by omega)
  simp only[Hx,hr];simp
 have a4:Hx kind no (Xs kind no li) 4=false:=by
  have hr:(Zg (Xs kind no li) 4 2:Int)=kind:=by
   unfold Xs
   rw[Qb (by rw[Zi];omega) (.inl (by omega))]
   unfold Mj
   exact Zbr (by omega) (by omega) (by omega)
  simp only[Hx,hr];simp
 have a5:Hx kind no (Xs kind no li) 5=false:=by
  have hr:Zg (Xs kind no li) 6 2=0:=by
   unfold Xs
   rw[Qb (by rw[Zi];omega) (.inl (by omega))]
   unfold Mj
   rw[Qb (by rw[Zi];omega) (.inr (by rw[Zi];omega))]
   unfold Zgq
   rw[Qb (by rw[Zi];omega) (.inr (by rw[Zi];omega))]
   unfold Zem
   rw[Qb (by rw[List.length_replicate];omega) (.inl (by omega))]
   exact rawN_zero fun j _ _=>Bo 256 j
  simp only[Hx,hr];rfl
 simp[Yg,a0,a1,a2,a3,a4,a5]
theorem in_seal{kind no:Int}{li:Bl}(hl:li.length≤244):((Xs kind no li).drop 8).take 244=Zd4 li:=by
 have l1:=Us hl
 have l2:=Uv (no:=no) hl
 have l3:=Ju (kind:=kind) (no:=no) hl
 have l4:=Vr (kind:=kind) (no:=no) hl
 apply Rm
 ·simp[Zd4,l4];omega
 ·intro j hj
  have a0:j<244:=by simp[l4] at hj;omega
  have e:(((Xs kind no li).drop 8).take 244).getD j 0=(Xs kind no li).getD (8+j) 0:=by
   simp only[List.getD];rw[List.getElem?_take,if_pos a0,List.getElem?_drop]
  rw[e]
  unfold Xs
  rw[Gl (by rw[Zi];omega),if_neg (by rw[Zi];omega)]
  unfold Mj
  rw[Gl (by rw[Zi];omega),if_neg (by rw[Zi];omega)]
  unfold Zgq
  rw[Gl (by rw[Zi];omega),if_neg (by rw[Zi];omega)]
  unfold Zem
  rw[Gl (by rw[List.length_replicate];omega),Bo]
  unfold Zd4
  simp only[List.getD]
  rw[List.getElem?_append]
  by_cases h:j<li.length
  ·rw[if_pos ⟨by omega,by omega⟩,if_pos h,show 8+j-8=j by omega]
  ·rw[if_neg (by omega),if_neg h]
   have:=Bo (244-li.length) (j-li.length)
   simp only[List.getD] at this
   exact this.symm
theorem Zav{l x:Bl}{k:Nat}(hx:x.length=256)(hk:k<l.length/256):Yx (Vq l (k*256) x) k=x:=by
 have a0:k*256+256≤l.length:=by omega
 have hp:=Qt (l:=l) (k:=k*256) (x:=x) (by omega)
 apply Rm
 ·rw[Vi (by rw[hp];exact hk),hx]
 ·intro j hj
  rw[Vi (by rw[hp];exact hk)] at hj
  have e:(Yx (Vq l (k*256) x) k).getD j 0=(Vq l (k*256) x).getD (k*256+j) 0:=by
   simp only[Yx,List.getD];rw[List.getElem?_take,if_pos hj,List.getElem?_drop]
  rw[e,Gl (by omega),if_pos (by omega),show k*256+j-k*256=j by omega]
theorem Qw{l x:Bl}{k i:Nat}(hx:x.length=256)(hk:k<l.length/256)(hne:i≠k)(hi:i<l.length/256):Yx (Vq l (k*256) x) i=Yx l i:=by
 have a0:k*256+256≤l.length:=by omega
 have hp:=Qt (l:=l) (k:=k*256) (x:=x) (by omega)
 apply Rm
 ·rw[Vi (by rw[hp];exact hi),Vi hi]
 ·intro j hj
  rw[Vi (by rw[hp];exact hi)] at hj
  have e:∀ l:Bl,(Yx l i).getD j 0=l.getD (i*256+j) 0:=fun l=>by
   simp only[Yx,List.getD];rw[List.getElem?_take,if_pos hj,List.getElem?_drop]
  rw[e,e,Gl (by omega),if_neg (by omega)]
theorem Yw(k:Nat):Builtin.zeroCells #[Value.int .u8 0] k=(List.replicate k (Value.int .u8 0)).toArray:=by
 apply Array.ext'
 unfold Builtin.zeroCells
 simp only[List.size_toArray,List.length_cons,List.length_nil,Nat.zero_add,Nat.mul_one,Nat.mod_one]
 rw[Array.toList_map]
 simp only[Array.toList_range]
 apply List.ext_getElem?
 intro i
 simp only[List.getElem?_map,List.getElem?_replicate]
 by_cases h:i<k
 ·rw[List.getElem?_range h,if_pos h];rfl
 ·rw[if_neg h,List.getElem?_eq_none (by simpa using h)];rfl
theorem Pz{P:Program}(w:World)(t tn ty e:TypeId)(i:TypeInfo)(kq kn:IntKind)(ht:P.underlying t=some (.slice e))(htn:P.underlying tn=some (.int kn))(hi:P.info? e=some i)(hz:i.zero=some (.int .u8 0))(hs1:i.size=1)(hb1:i.bytes=1)
 (g n c k:Nat) (cur:Array Value) (hg:w.heap[g]? = some (.cells cur e (0,0))) (h0:0<k) (hroom:n+k≤c) (hfit:n+k≤cur.size) (hk:n+k≤1000000) :
 (Builtin.append_ #[t,tn] ty #[.slice (S1 g) n c,.int kq k]).run P w =
 .ok (.slice (S1 g) (n+k) c) (w.setRow g (cur.toList.take n++List.replicate k (Value.int .u8 0)++cur.toList.drop (n+k)).toArray):=by
 have a3:k≠0:=by omega
 have hw:IntKind.i64.wrap (k:Int)=k:=by rw[IntKind.wrap_i64];omega
 have a0:¬ (281474976710656<(k:Int)):=by omega
 have a1:¬ ((k:Int)<0):=by omega
 have a2:=run_storeCells_at P g n e (List.replicate k (.int .u8 0)) 0 cur w hg (by simpa using hfit) (by intro u hu;rw[(List.mem_replicate.1 hu).2];rfl)
 simp only[Nat.add_zero,List.length_replicate] at a2
 simp[Builtin.append_,run_underlying ht,run_underlying htn,sizeOf,typeInfo,zeroValue,hi,hz,hs1,hb1,asInt,asIntOf,hw,a1,a0,a3,hroom,Addr.add_lit,show(Value.int IntKind.u8 0).cells=#[Value.int .u8 0] from rfl,Yw,a2]
theorem op_appZo{P:Program}{a:Act}{w:World}{K:Act→World→Prop}{Q:Exit→Act→World→Prop}{o:Oper}{s x:Operand}{t tn e:TypeId}{kq kn:IntKind}{base:Nat}{v:Value}{n:Nat}{xs:List Value}(k n':Nat)(xs':List Value)
 (ho:o.op=.call { callee:=.builtin .append,args:=#[s,x],argTypes:=#[t,tn] }) (ht:P.underlying t=some (.slice e)) (htn:P.underlying tn=some (.int kn)) (hi:(P.info? e).map (fun i=>(i.zero,i.size,i.bytes))=some (some (.int .u8 0),1,1))
 (hs:a.eval s=v) (hown:w.ownsRow base e 1 v n xs) (hx:a.eval x=.int kq (k:Int)) (h0:0<k) (hk:n+k≤1000000) (hbase:base≤w.heap.size) (hn:n+k=n') (hxs:xs++List.replicate k (.int .u8 0)=xs')
 (h:∀ b c' W,W.ownsRow base e 1 (.slice b n' c') n' xs'→w.grownBy W v.ownBlock→Below base w W→K (a.put o.dst (.slice b n' c')) W):o.wp P a w K Q:=by
 subst hn hxs
 cases hq:P.info? e with
 | none=>simp[hq] at hi
 | some i =>
  simp only[hq,Option.map_some,Option.some.injEq,Prod.mk.injEq] at hi
  obtain⟨hz,h1,h2⟩:=hi
  have a5:xs.length=n:=by simpa using hown.1
  have a0:(xs++List.replicate k (Value.int .u8 0)).length=(n+k)*1:=by simp[a5]
  rcases hown.2 with ⟨rfl,rfl⟩|⟨g,c,a1,rfl,b0,hg,b4,a3,b2,a4⟩
  ·obtain rfl:xs=[]:=List.eq_nil_of_length_eq_zero a5
   have hr:=Lib.run_append_nil_zeros (P:=P) w t tn o.type e i (.int .u8 0) kq kn ht htn hq hz k h0 (by omega) (by omega) (by rw[h2];omega)
   unfold Oper.wp execOp
   simp only[ho,resolve,invoke,builtin,Sem.run_bind,Sem.run_pure,Result.andThen_ok,List.map_toArray,List.map_cons,List.map_nil,hs,hx,hr]
   have a7:=grownCap_ge w k 0 e
   have a3:grownCap w k 0 e≤maxLen:=grownCap_le_maxLen w k 0 e (by unfold maxLen;omega)
   simp only[Nat.zero_add,List.nil_append] at h
   refine h _ _ _ ⟨by simp,.inr ⟨w.heap.size,_,_,rfl,hbase,heap_alloc_new w.drew _,a7,a3,?_,?_⟩⟩ ⟨rfl,rfl,rfl,by simp,fun k hk _=>by first|exact heap_alloc_old w.drew _ k hk|exact heap_alloc_old w.drew _ hk⟩ (((Za w).trans (show Below w.drew.heap.size w.drew _ from blx w.drew _)).mono hbase)
   ·rw[show(Value.int .u8 0).cells=#[Value.int .u8 0] from rfl,Yw,Yw];simp;omega
   ·rw[show(Value.int .u8 0).cells=#[Value.int .u8 0] from rfl,Yw,Yw]
    simp only[Array.toList_append,Nat.mul_one]
    exact List.take_left' (by simp)
  by_cases hroom:n+k≤c
  ·have a9:a1.size=c:=by simpa using b2
   have hr:=Pz (P:=P) w t tn o.type e i kq kn ht htn hq hz h1 h2 g n c k a1 hg h0 hroom (by omega) hk
   unfold Oper.wp execOp
   simp only[ho,resolve,invoke,builtin,Sem.run_bind,Sem.run_pure,Result.andThen_ok,List.map_toArray,List.map_cons,List.map_nil,hs,hx,hr]
   have a8:w.grownBy (w.setRow g (a1.toList.take n++List.replicate k (Value.int .u8 0)++a1.toList.drop (n+k)).toArray) (Value.ownBlock (.slice (S1 g) n c)):=⟨rfl,rfl,rfl,by simp,fun k' _ b1=>setRow_other w g k' _ (fun e=>b1 (by simp[Value.ownBlock,e]))⟩
   refine h _ _ _ ⟨a0,.inr ⟨g,c,_,rfl,b0,setRow_heap w g a1 _ e _ hg,hroom,a3,?_,?_⟩⟩ a8 (Vc a8 hown (Nat.le_refl _) hbase)
   ·simp only[List.size_toArray,List.length_append,List.length_take,List.length_drop,Array.length_toList,List.length_replicate]
    omega
   ·have b3:a1.toList.take n=xs:=by simpa using a4
    rw[b3,←a0]
    exact List.take_left
  ·have a2:∀ j u,xs[j]? = some u→w.cell? ((⟨g,0,none⟩:Addr).add j)=some u:=hown.cells (g:=g) rfl
   have a6:=run_firstCells_some (P:=P) (w:=w.drew) i.size n ⟨g,0,none⟩ n c xs (by rw[a5,h1,Nat.mul_one]) (by simpa using a2)
   have hr:=Lib.run_append_grow_zeros (P:=P) w t tn o.type e i (.int .u8 0) kq kn ht htn hq hz (S1 g) n c xs a6 k h0 (by omega) (by omega) (by omega) (by rw[h2];omega) (by rw[h2];exact growslice_fits (by omega) (by omega))
   unfold Oper.wp execOp
   simp only[ho,resolve,invoke,builtin,Sem.run_bind,Sem.run_pure,Result.andThen_ok,List.map_toArray,List.map_cons,List.map_nil,hs,hx,hr]
   have a7:=grownCap_ge w (n+k) c e
   have a3:grownCap w (n+k) c e≤maxLen:=grownCap_le_maxLen w (n+k) c e (by unfold maxLen;omega)
   refine h _ _ _ ⟨a0,.inr ⟨w.heap.size,_,_,rfl,hbase,heap_alloc_new w.drew _,a7,a3,?_,?_⟩⟩ ⟨rfl,rfl,rfl,by simp,fun k hk _=>by first|exact heap_alloc_old w.drew _ k hk|exact heap_alloc_old w.drew _ hk⟩ (((Za w).trans (show Below w.drew.heap.size w.drew _ from blx w.drew _)).mono hbase)
   ·rw[show(Value.int .u8 0).cells=#[Value.int .u8 0] from rfl,Yw,Yw];simp[a5];omega
   ·rw[show(Value.int .u8 0).cells=#[Value.int .u8 0] from rfl,Yw,Yw]
    simp only[Array.toList_append,List.append_assoc]
    rw[←List.append_assoc,←a0]
    exact List.take_left
theorem Ok{kind no:Int}(h:Km kind no=true):1≤kind∧kind≤4∧0≤no∧no<14400:=of_decide_eq_true h
end Go.Proofs.YtceeiinepijokaaGreatDoor
namespace Go.Proofs.YtceeiinepijokaaGreatDoor
set_option maxHeartbeats 8000000
set_option maxRecDepth 100000
open Go.RowKit Go.Extern.Stop Go.Stop Go.Extern
set_option linter.unusedVariables false
section
variable {P:Program} {Q:Exit→Act→World→Prop} {a:Act} {w:World} {K:Act→World→Prop}
theorem Zhb{o:Oper}{d x:Operand}{dT sT e:TypeId}{base g off n cap dLen dCap:Nat}{xs:List Value}(l:Bl)(xs':List Value)(ho:o.op=.call { callee:=.builtin .copy,args:=#[d,x],argTypes:=#[dT,sT] })(hu:P.underlying dT=some (.slice e))(hsz:(P.info? e).map (·.size)=some 1)
 (hd:a.eval d=.slice (some ⟨g,off,none⟩) dLen dCap) (hs:a.eval x=.string ⟨l.toArray⟩) (hown:w.ownsRow base e 1 (.slice (S1 g) n cap) n xs) (hm:l.length≤dLen) (hfit:off+l.length≤n)
 (hbase:base≤w.heap.size) (hxs:xs.take off++l.map bv++xs.drop (off+l.length)=xs')
 (h:∀ W,W.ownsRow base e 1 (.slice (S1 g) n cap) n xs'→w.grownBy W (Value.slice (S1 g) n cap).ownBlock→Below base w W→K (a.put o.dst (V0 (l.length:Int))) W):o.wp P a w K Q:=by
 obtain⟨hl,hr⟩:=hown
 rcases hr with ⟨hv,_⟩|⟨g2,b2,a1,hv,a8,hh,a9,a5,a4,a6⟩
 ·cases hv
 simp only[Value.slice.injEq,Option.some.injEq,Addr.mk.injEq] at hv
 obtain⟨⟨rfl,_,_⟩,_,rfl⟩:=hv
 have b3:xs.length=n:=by simpa using hl
 have a3:a1.toList.length=cap:=by simpa using a4
 have a7:(l.map bv).length=l.length:=by simp
 have b1:∀ W,W.heap[g]? = some (.cells (a1.toList.take off++l.map bv++a1.toList.drop (off+l.length)).toArray e (0,0))→w.grownBy W (some g)→K (a.put o.dst (V0 (l.length:Int))) W:=by
  intro W hW hg
  refine h W ⟨?_,.inr ⟨g,cap,_,rfl,a8,hW,a9,a5,?_,?_⟩⟩ hg (Vc (v:=.slice (S1 g) n cap) hg ⟨hl,.inr ⟨g,cap,a1,rfl,a8,hh,a9,a5,a4,a6⟩⟩ (Nat.le_refl _) hbase)
  ·rw[←hxs];simp;omega
  ·simp only[List.size_toArray,List.length_append,List.length_take,List.length_drop,a3,Nat.mul_one,a7];omega
  ·have hA:(a1.toList.take off++l.map bv).length=off+l.length:=by simp only[List.length_append,List.length_take,a3,a7];omega
   rw[←hxs,←a6]
   simp only[Nat.mul_one]
   rw[List.take_append,List.take_of_length_le (by rw[hA];omega),hA,List.take_take,Nat.min_eq_left (by omega:off≤n),List.drop_take]
 have a0:(⟨l.toArray⟩:ByteArray).size=l.length:=by show l.toArray.size=l.length;simp
 have a2:=Go.Lib.run_copy_row_string (P:=P) w dT sT o.type e g off dLen dCap ⟨l.toArray⟩ a1 e hu hsz hh (by rw[a0];exact hm) (by rw[a0,a4];omega)
 rw[a0] at a2
 have b0:Go.Lib.byteCells (⟨l.toArray⟩:ByteArray).data.toList=l.map bv:=rfl
 rw[b0] at a2
 have h2:(execOp a.eval o).run P w=.ok (.value (V0 (l.length:Int))) (w.setRow g (a1.toList.take off++l.map bv++a1.toList.drop (off+l.length)).toArray):=by
  simp[execOp,ho,resolve,invoke,builtin,hd,hs,a2,Result.andThen,goInt]
 exact Gk h2 (b1 _ (setRow_heap w g _ _ e _ hh) ⟨rfl,rfl,rfl,by simp,fun k _ hk=>setRow_other w g k _ (fun e=>hk (by rw[e]))⟩)
theorem Sl.head{b:O0}{n c:Nat}{xs:List Value}(h:Sl w (.slice b n c) n xs)(hn:xs.length=n)(m:Nat)(hm:m≤n):Sl w (.slice b m c) m (xs.take m):=by
 rcases h with ⟨a',c',h1,h2,h3⟩|⟨b',a1,a2,h1,h2,h3,h4⟩
 ·obtain rfl:m=0:=by omega
  simp only[Value.slice.injEq] at h1
  exact .inl ⟨b,c,rfl,rfl,by simp⟩
 ·simp only[Value.slice.injEq] at h1
  obtain⟨rfl,_,rfl⟩:=h1
  refine .inr ⟨b',a1,c,rfl,by omega,h3,fun j x hj=>h4 j x ?_⟩
  have a0:j<m:=by have:=(List.getElem?_eq_some_iff.1 hj).1;simp at this;omega
  rwa [List.getElem?_take_of_lt a0] at hj
def sv (l:Bl):Value:=.string ⟨l.toArray⟩
theorem Strs.elem{b:O0}{n c:Nat}{V:List Bl}(h:Sl w (.slice b n c) n (V.map sv))(hl:V.length=n){k:Nat}(hk:k<n):b.isSome=true∧w.cell? (Xd b (k*1))=some (.string ⟨(V.getD k []).toArray⟩):=by
 rcases h with ⟨a',c',h1,h2,h3⟩|⟨b',a0,a1,h1,h2,h3,h4⟩
 ·omega
 ·simp only[Value.slice.injEq] at h1
  obtain⟨rfl,_,rfl⟩:=h1
  refine⟨rfl,?_⟩
  have:=h4 k (sv (V.getD k [])) (by simp[List.getD,List.getElem?_eq_getElem (show k<V.length by omega)])
  rw[Nat.mul_one]
  show w.cell? ((⟨b',a0,none⟩:Addr).add k)=_
  rw[Addr.add_mid]
  exact this
end
end Go.Proofs.YtceeiinepijokaaGreatDoor
namespace Go.Proofs.YtceeiinepijokaaGreatDoor
set_option maxHeartbeats 8000000
set_option maxRecDepth 100000
open Go.RowKit Go.Extern.Stop Go.Stop Go.Extern
set_option linter.unusedVariables false
section
variable {P:Program} {a:Act} {w:World} {K:Act→World→Prop} {Q:Exit→Act→World→Prop}
theorem Zft(l:Bl):Lib.strCells ⟨l.toArray⟩=l.map bv:=by
 unfold Lib.strCells bv
 simp
theorem op_appS{o:Oper}{s x:Operand}{t u e:TypeId}{base:Nat}{v:Value}{n:Nat}{xs:List Value}(l:Bl)(n':Nat)(xs':List Value)(ho:o.op=.call { callee:=.builtin .append,args:=#[s,x],argTypes:=#[t,u] })
 (ht:P.underlying t=some (.slice e)) (hu:P.underlying u=some .string) (hi:(P.info? e).map (fun i=>(i.zero,i.size,i.bytes))=some (some (.int .u8 0),1,1)) (hs:a.eval s=v) (hown:w.ownsRow base e 1 v n xs) (hx:a.eval x=.string ⟨l.toArray⟩)
 (hb:n+l.length≤100000000) (hbase:base≤w.heap.size) (hn:n+l.length=n') (hxs:xs++l.map bv=xs')
 (h:∀ b c W,W.ownsRow base e 1 (.slice b n' c) n' xs'→w.grownBy W v.ownBlock→Below base w W→K (a.put o.dst (.slice b n' c)) W):o.wp P a w K Q:=by
 cases hq:P.info? e with
 | none=>simp[hq] at hi
 | some i =>
  simp only[hq,Option.map_some,Option.some.injEq,Prod.mk.injEq] at hi
  have a0:(⟨l.toArray⟩:ByteArray).size=l.length:=by simp[ByteArray.size]
  obtain⟨v',W,hr,h2,h3,_⟩:=Lib.run_append_own_string (P:=P) w base t u o.type e i ht hu hq hi.1 hi.2.1 hi.2.2 v n xs hown ⟨l.toArray⟩ (by rw[a0];unfold maxLen;omega) (by rw[a0];omega) hbase
  rw[a0,Zft] at h2
  subst hn hxs
  obtain⟨b,c,rfl⟩:=(Ze h2).slice
  unfold Oper.wp execOp
  simp only[ho,resolve,invoke,builtin,Sem.run_bind,Sem.run_pure,Result.andThen_ok,List.map_toArray,List.map_cons,List.map_nil,hs,hx,hr]
  exact h b c W h2 h3 (Vc h3 hown (Nat.le_refl _) hbase)
theorem Zch(g k:Nat):Xd (S1 g) (k*1)=⟨g,k,none⟩:=by
 simp[Xd,Addr.add];exact fun h=>h.symm
theorem Hp{o:Oper}{t e:TypeId}{x y:Operand}{g n c k base:Nat}{xs:List Value}{v:Value}(ho:o.op=.store t x y)(hx:a.eval x=.pointer (some (Xd (S1 g) (k*1))))(hy:a.eval y=v)
 (hi:(P.info? t).map (·.size)=some 1) (h1:v.oneCell'=true) (hown:w.ownsRow base e 1 (.slice (S1 g) n c) n xs) (hk:k<n)
 (h:∀ W,Upd w g W→W.ownsRow base e 1 (.slice (S1 g) n c) n (xs.set k v)→K (a.put o.dst undef) W):o.wp P a w K Q:=by
 obtain⟨hl,h2⟩:=hown
 rcases h2 with ⟨h2,_⟩|⟨g',a3,a0,hv,hg,hh,hc,hm,a2,a1⟩
 ·cases h2
 ·simp only[Value.slice.injEq,Option.some.injEq,Addr.mk.injEq] at hv
  obtain⟨⟨rfl,_⟩,_,rfl⟩:=hv
  have hb:Blk w g a0.toList e:=by unfold Blk;simpa using hh
  rw[Zch] at hx
  refine Jc ho hx hy hi h1 hb (by simp;omega) fun W hu hW=>h W hu ⟨by simpa using hl,.inr ⟨g,c,(a0.toList.set k v).toArray,rfl,hg,hW,hc,hm,by simpa using a2,?_⟩⟩
  rw[←a1]
  simp[List.take_set]
end
section
variable {P:Program} {ops:Array Oper} {Q:Exit→Act→World→Prop} {a a':Act} {w:World} {S:World→Prop} {md:Region.Mode} {L L':Array Bool} {fuel:Nat}
end
theorem Cb{w:World}{base e size g n c:Nat}{xs:List Value}(h:w.ownsRow base e size (.slice (S1 g) n c) n xs):base≤g:=(h.lt g rfl).1
theorem Sc{w:World}{base e size g n c:Nat}{xs:List Value}(h:w.ownsRow base e size (.slice (S1 g) n c) n xs):∃ cs,Blk w g cs e:=by
 rcases h.2 with ⟨h2,_⟩|⟨g',a1,a0,hv,hg,hh,_⟩
 ·cases h2
 ·simp only[Value.slice.injEq,Option.some.injEq,Addr.mk.injEq] at hv
  obtain⟨⟨rfl,_⟩,_⟩:=hv
  exact⟨a0.toList,by unfold Blk;simpa using hh⟩
theorem Ef{w:World}{base e size g n c b:Nat}{t:TypeId}{xs cs:List Value}(k:Blk w b cs t)(h:w.ownsRow base e size (.slice (S1 g) n c) n xs)(hne:t≠e):b≠g:=by
 rintro rfl
 obtain⟨a0,k'⟩:=Sc h
 have h1:w.heap[b]? = some (.cells cs.toArray t (0,0)):=k
 rw[show w.heap[b]? = some (.cells a0.toArray e (0,0)) from k'] at h1
 simp only[Option.some.injEq,Obj.cells.injEq] at h1
 exact hne h1.2.1.symm
theorem Zf.of_updRow{T:List TypeId}{w W:World}{base e size g n c:Nat}{xs:List Value}(u:Upd w g W)(h:w.ownsRow base e size (.slice (S1 g) n c) n xs)(hT:T.contains e=true):Zf T w W:=by
 obtain⟨cs,k⟩:=Sc h
 exact Zf.of_upd u k hT
theorem Upd.ownRow{w W:World}{base base2 e e2 size size2 g n c n2:Nat}{v:Value}{xs ys:List Value}(u:Upd w g W)(h:w.ownsRow base2 e2 size2 v n2 ys)(o:w.ownsRow base e size (.slice (S1 g) n c) n xs)(hne:e2≠e):W.ownsRow base2 e2 size2 v n2 ys:=by
 obtain⟨cs,k⟩:=Sc o
 exact u.own2 h k hne
end Go.Proofs.YtceeiinepijokaaGreatDoor
namespace Go.Proofs.YtceeiinepijokaaGreatDoor
set_option maxHeartbeats 8000000
set_option maxRecDepth 100000
open Go.RowKit Go.Extern.Stop Go.Stop Go.Extern
set_option linter.unusedVariables false
attribute [local irreducible] wpList wpAnyH Code.wp Oper.wp Go
theorem step1_xor(a b:Nat):Uj (a ^^^ b)=Uj a ^^^ Uj b:=by
 have e:∀ r,Uj r=(r/2) ^^^ (if r%2=1 then 2197175160 else 0):=fun r=>by unfold Uj;split<;>simp
 rw[e,e,e,Nat.xor_div_two]
 have hp:=Nat.xor_mod_two_eq_one (a:=a) (b:=b)
 by_cases h1:a%2=1<;>by_cases h2:b%2=1
 ·rw[if_neg (by rw[hp];simp[h1,h2]),if_pos h1,if_pos h2,Nat.xor_zero]
  rw[show a/2 ^^^ 2197175160 ^^^ (b/2 ^^^ 2197175160)=a/2 ^^^ b/2 ^^^ (2197175160 ^^^ 2197175160) by ac_rfl];simp
 ·rw[if_pos (by rw[hp];simp[h1,h2]),if_pos h1,if_neg h2,Nat.xor_zero];ac_rfl
 ·rw[if_pos (by rw[hp];simp[h1,h2]),if_neg h1,if_pos h2,Nat.xor_zero];ac_rfl
 ·rw[if_neg (by rw[hp];simp[h1,h2]),if_neg h1,if_neg h2,Nat.xor_zero,Nat.xor_zero,Nat.xor_zero]
theorem stepN_xor(n a b:Nat):Ya n (a ^^^ b)=Ya n a ^^^ Ya n b:=by
 induction n with
 | zero=>rfl
 | succ n ih=>rw[Ya,ih,step1_xor];rfl
theorem Nq(q:Nat):Uj (2*q)=q:=by unfold Uj;rw[if_neg (by omega)];omega
theorem stepN_16(q:Nat):Ya 4 (16*q)=q:=by
 show Uj (Uj (Uj (Uj (16*q))))=q
 rw[show 16*q=2*(2*(2*(2*q))) by omega,Nq,Nq,Nq,Nq]
theorem split16(r:Nat):r=(16*(r/16)) ^^^ (r%16):=by
 apply Nat.eq_of_testBit_eq
 intro i
 rw[Nat.testBit_xor,show 16*(r/16)=2 ^ 4*(r/2 ^ 4) from rfl,Nat.testBit_two_pow_mul,Nat.testBit_div_two_pow,show r%16=r%2 ^ 4 from rfl,Nat.testBit_mod_two_pow]
 by_cases h:4≤i
 ·rw[show i-4+4=i by omega,show decide (i≥4)=true from decide_eq_true h,show decide (i<4)=false from decide_eq_false (by omega)];simp
 ·rw[show decide (i≥4)=false from decide_eq_false h,show decide (i<4)=true from decide_eq_true (by omega)];simp
theorem stepN_4(r:Nat):Ya 4 r=(r/16) ^^^ Lo (r%16):=by
 conv=>lhs;rw[split16 r]
 rw[stepN_xor,stepN_16];rfl
theorem stepN_add(m n r:Nat):Ya (m+n) r=Ya m (Ya n r):=by
 induction m with
 | zero=>simp[Ya]
 | succ m ih=>rw[Nat.succ_add,Ya,ih];rfl
theorem crcStep_8(r:Nat)(x:UInt8):Zan r x=Ya 8 (r ^^^ x.toNat):=by
 show _=Ya (4+4) (r ^^^ x.toNat)
 rw[stepN_add,stepN_4,stepN_4];rfl
theorem step1_odd{r:Nat}(h:r%2=1):Uj r=(r/2) ^^^ 2197175160:=if_pos h
theorem step1_ev{r:Nat}(h:¬ r%2=1):Uj r=r/2:=if_neg h
theorem ref_Step(r:Nat)(w:World)(hr:r<4294967296) :
 C0 269 #[V0 (r:Int)] w (Ret (V0 (Ya 8 r:Int)) w):=by
 refine zin 18 Tryz.func269 ?_
 have hB:=Below.refl w.heap.size w
 refine zl 12 18 (fun zm a4 V=>∃ (j:Nat),a4=[(0,V0 (↑(Ya j r):Int)),(2,V0 0),(3,V0 (j:Int))]∧zm=8-((j:Int)).toNat∧B3 w V∧j≤8) ⟨0,rfl,rfl,hB,by decide⟩ ?_
 rintro _ _ W1 ⟨j,rfl,rfl,a0,hj⟩ J1 a1 r1
 refine xid 7 ((j:Int)<(8:Int)) (fun a3=>?_) (fun a3=>?_)
 ·refine xq 7 (congrArg V0 (show(Int.tmod (↑(Ya j r):Int) 2:Int)=(↑((Ya j r)%2):Int) from Ug (Ya j r) 2)) ?_
  refine xq 7 (congrArg V0 (show(IntKind.i64.wrap (Int.tdiv (↑(Ya j r):Int) 2):Int)=(↑((Ya j r)/2):Int) from Wv (Ya j r) 2 (by have:=Fz (j:=j) hr;omega) (by decide))) ?_
  refine xie 8 (↑((Ya j r)%2):Int) (1:Int) (fun a2=>?_) (fun a2=>?_)
  ·refine xq 2 (congrArg V0 (show(IntKind.i64.wrap (↑(BitVec.ofInt 64 (↑((Ya j r)/2):Int) ^^^ BitVec.ofInt 64 (2197175160:Int)).toNat:Int):Int)=(↑(((Ya j r)/2) ^^^ 2197175160):Int) from Sr (a:=(Ya j r)/2) (b:=2197175160) (by have:=Fz (j:=j) hr;omega) (by decide))) ?_
   refine xwm 6 ((j:Int)+1) (↑(j+1):Int) ?_
   refine xv1 2 0 (show(V0 (↑(((Ya j r)/2) ^^^ 2197175160):Int):Value)=V0 (↑(Ya (j+1) r):Int) from by rw[show Ya (j+1) r=Uj (Ya j r) from rfl,step1_odd (by omega)]) ?_
   exact ze 0 (a1 _ _ _ ⟨j+1,rfl,rfl,a0,by omega⟩ (by omega))
  refine xwm 5 ((j:Int)+1) (↑(j+1):Int) ?_
  refine xv1 2 0 (show(V0 (↑((Ya j r)/2):Int):Value)=V0 (↑(Ya (j+1) r):Int) from by rw[show Ya (j+1) r=Uj (Ya j r) from rfl,step1_ev (by omega)]) ?_
  exact ze 0 (a1 _ _ _ ⟨j+1,rfl,rfl,a0,by omega⟩ (by omega))
 refine xe 12 (V0 (↑(Ya j r):Int)) ?_
 obtain rfl:j=8:=by omega
 exact⟨rfl,a0⟩
theorem ref_More(a:O0)(c:Nat)(l:Bl)(w:World)(hl:l.length≤100000000)(h:Bys w (.slice a l.length c) l) :
 C0 240 #[V0 0,.slice a l.length c] w (Ret (V0 (Gg l:Int)) w):=by
 refine zin 31 Tryz.func240 ?_
 have hB:=Below.refl w.heap.size w
 refine zl 33 31 (fun zm a3 V=>∃ (i:Nat),a3=[(1,.slice a l.length c),(4,V0 0),(5,V0 (↑(Xc 4294967295 (l.take i)):Int)),(6,V0 (i:Int))]∧zm=l.length-((i:Int)).toNat∧B3 w V∧i≤l.length) ⟨0,rfl,rfl,hB,Nat.zero_le _⟩ ?_
 rintro _ _ W1 ⟨i,rfl,rfl,a0,hi⟩ J1 a4 r1
 refine xid 9 ((i:Int)<(l.length:Int)) (fun a2=>?_) (fun a2=>?_)
 ·refine xx 8 _ l.length i 1 (Bys.elem h (k:=i) (by omega)).1 ?_
  refine xl 0 ((Bys.elem (h.below a0) (k:=i) (by omega)).2) ?_
  refine xq 0 (congrArg V0 (show(IntKind.i64.wrap (↑(l.getD i 0).toNat:Int):Int)=(↑(l.getD i 0).toNat:Int) from Kw (by have:=(l.getD i 0).toNat_lt;omega))) ?_
  refine xq 0 (congrArg V0 (show(IntKind.i64.wrap (↑(BitVec.ofInt 64 (↑(Xc 4294967295 (l.take i)):Int) ^^^ BitVec.ofInt 64 (↑(l.getD i 0).toNat:Int)).toNat:Int):Int)=(↑((Xc 4294967295 (l.take i)) ^^^ (l.getD i 0).toNat):Int) from Sr (Up (by decide) _) (u8_lt _))) ?_
  refine xr 0 (args:=#[V0 (↑((Xc 4294967295 (l.take i)) ^^^ (l.getD i 0).toNat):Int)]) (ref_Step ((Xc 4294967295 (l.take i)) ^^^ (l.getD i 0).toNat) _ (Nat.xor_lt_two_pow (n:=32) (Up (by decide) _) (u8_lt _))) fun W3 a5=>?_
  refine xwm 6 ((i:Int)+1) (↑(i+1):Int) ?_
  refine xv1 2 5 (show(V0 (↑(Ya 8 ((Xc 4294967295 (l.take i)) ^^^ (l.getD i 0).toNat)):Int):Value)=V0 (↑(Xc 4294967295 (l.take (i+1))):Int) from by rw[Rq (by omega),crcStep_8]) ?_
  have a1:=bln a0 a5
  exact ze 0 (a4 _ _ _ ⟨i+1,rfl,rfl,a1,by omega⟩ (by omega))
 refine xq 8 (congrArg V0 (show(IntKind.i64.wrap (↑(BitVec.ofInt 64 (↑(Xc 4294967295 (l.take i)):Int) ^^^ BitVec.ofInt 64 (4294967295:Int)).toNat:Int):Int)=(↑((Xc 4294967295 (l.take i)) ^^^ 4294967295):Int) from Sr (b:=4294967295) (Up (by decide) _) (by decide))) ?_
 refine xe 4 (V0 (↑((Xc 4294967295 (l.take i)) ^^^ 4294967295):Int)) ?_
 obtain rfl:i=l.length:=by omega
 rw[List.take_length]
 exact⟨rfl,a0⟩
theorem ref_Sum(a:O0)(c:Nat)(l:Bl)(w:World)(hl:l.length≤100000000)(h:Bys w (.slice a l.length c) l) :
 C0 196 #[.slice a l.length c] w (Ret (V0 (Gg l:Int)) w):=by
 refine zin 5 Tryz.func196 ?_
 refine xr 8 (args:=#[V0 0,.slice a l.length c]) (ref_More a c l _ hl (h.below (B4 w))) fun W1 a0=>?_
 exact xe 4 (V0 (↑(Gg l):Int)) ⟨rfl,a0⟩
theorem ref_SumN(a:O0)(n c:Nat)(l:Bl)(w:World)(hn:l.length=n)(hl:n≤100000000)(h:Bys w (.slice a n c) l):C0 196 #[.slice a n c] w (Ret (V0 (Gg l:Int)) w):=by
 subst hn;exact ref_Sum a c l w hl h
theorem leB_snoc(n:Int)(w:Nat):leB n (w+1)=leB n w++[Zw n w]:=by simp[leB,List.range_succ]
theorem u8_byteAt(m i:Nat):IntKind.u8.wrap (((m/256 ^ i)%256:Nat):Int)=((Zw (m:Int) i).toNat:Int):=by
 rw[Zeh (Int.natCast_nonneg _)]
 unfold Zw
 simp only[Int.toNat_natCast,Nat.pow_zero,Nat.div_one]
 congr 2
 apply UInt8.toNat_inj.1
 simp[UInt8.toNat_ofNat']
theorem ref_Bytes(m w:Nat)(W:World)(hm:m<9223372036854775808)(hw:w≤8) :
 C0 195 #[V0 (m:Int),V0 (w:Int)] W (Qe (fun W' r=>∃ p c,r=.slice p w c∧W'.ownsRow W.heap.size 5 1 (.slice p w c) w ((leB (m:Int) w).map bv)) W):=by
 refine zin 21 Tryz.func195 ?_
 refine xv1 17 0 (show(V0 (m:Int):Value)=V0 ((m/256 ^ 0:Nat):Int) from by rw[Nat.pow_zero,Nat.div_one]) ?_
 have hB:=Below.refl W.heap.size W
 refine zl 0 21 (fun zm a7 V=>∃ (i:Nat) (p:O0) (c:Nat),a7=[(0,V0 (↑(m/256 ^ i):Int)),(1,V0 (w:Int)),(4,S0),(5,.slice p i c),(6,V0 (i:Int))]∧zm=w-((i:Int)).toNat∧B3 W V∧V.ownsRow W.heap.size 5 1 (.slice p i c) i ((leB (m:Int) i).map bv)∧i≤w) ⟨0,_,_,rfl,rfl,hB,World.ownsRow_nil _ _ _ _,Nat.zero_le _⟩ ?_
 rintro _ _ W1 ⟨i,p,c,rfl,rfl,a0,ho,hi⟩ J1 a8 r1
 refine xid 8 ((i:Int)<(w:Int)) (fun a6=>?_) (fun a6=>?_)
 ·refine xq 8 (congrArg V0 (show(Int.tmod (↑(m/256 ^ i):Int) 256:Int)=(↑((m/256 ^ i)%256):Int) from Ug (m/256 ^ i) 256)) ?_
  refine xq 0 (congrArg (Value.int .u8) (show(IntKind.u8.wrap (↑((m/256 ^ i)%256):Int):Int)=(↑(Zw (m:Int) i).toNat:Int) from u8_byteAt m i)) ?_
  refine xbs 0 1 [.int .u8 (↑(Zw (m:Int) i).toNat:Int)] 5 fun b3 W3 n3=>?_
  have g3:=n3.ge a0
  have a4:=Zn ho n3
  have a3:=Zb ho n3.below
  have a1:=bln a0 n3.below
  refine xbi 0 fun _ _ _ _ zJ zQ zo zx zy zK=>Zr (m:=1) (news:=[.int .u8 (↑(Zw (m:Int) i).toNat:Int)]) (.int .u8 0) 1 1 (i+1) ((leB (m:Int) (i+1)).map bv) zo Tryz.underlying22 (by kernel_rfl) rfl (by decide) zx a3 zy (n3.blk.sl 1 1 (by decide) (by decide)) rfl (by simp[Value.oneCell']) (by unfold maxLen;omega) (by omega) a1.size (by rfl) (by rw[leB_snoc,List.map_append];rfl) fun a9 b1 W4 o4 b0 a5=>?_
  refine zK _ _ ?_
  refine xq 5 (congrArg V0 (show(IntKind.i64.wrap (Int.tdiv (↑(m/256 ^ i):Int) 256):Int)=(↑((m/256 ^ i)/256):Int) from Wv (m/256 ^ i) 256 (Nat.lt_of_le_of_lt (Nat.div_le_self _ _) hm) (by decide))) ?_
  refine xwm 6 ((i:Int)+1) (↑(i+1):Int) ?_
  refine xv1 2 0 (show(V0 (↑((m/256 ^ i)/256):Int):Value)=V0 (↑(m/256 ^ (i+1)):Int) from by rw[Nat.pow_succ,←Nat.div_div_eq_div_mul]) ?_
  have a2:=a1.trans a5
  exact ze 0 (a8 _ _ _ ⟨i+1,_,_,rfl,rfl,a2,o4,by omega⟩ (by omega))
 refine xe 12 (.slice p i c) ?_
 obtain rfl:i=w:=by omega
 exact⟨_,rfl,a0,_,_,rfl,ho⟩
theorem De(n:Int)(w:Nat)(wi:Int)(W:World)(h0:0≤n)(hn:n<9223372036854775808)(hwi:wi=(w:Int))(hw:w≤8):C0 195 #[V0 n,V0 wi] W (Qe (fun W' r=>∃ p c,r=.slice p w c∧W'.ownsRow W.heap.size 5 1 (.slice p w c) w ((leB n w).map bv)) W):=by
 subst hwi
 obtain⟨m,rfl⟩:∃ m:Nat,n=m:=⟨n.toNat,by omega⟩
 exact ref_Bytes m w W (by omega) hw
theorem ref_Salt1(w:World) :
 C0 197 #[V0 1] w (Ret (V0 (Mg 1:Int)) w):=by
 refine zin 15 Tryz.func197 ?_
 refine xbs 7 5 [V0 0,V0 160774,V0 121107,V0 240779,V0 160478] 3 fun b1 W1 n1=>?_
 refine xb 22 1 n1.blk ?_
 exact xe 4 (V0 160774) ⟨rfl,n1.below⟩
theorem ref_Salt2(w:World) :
 C0 197 #[V0 2] w (Ret (V0 (Mg 2:Int)) w):=by
 refine zin 15 Tryz.func197 ?_
 refine xbs 7 5 [V0 0,V0 160774,V0 121107,V0 240779,V0 160478] 3 fun b1 W1 n1=>?_
 refine xb 22 2 n1.blk ?_
 exact xe 4 (V0 121107) ⟨rfl,n1.below⟩
theorem ref_Salt3(w:World) :
 C0 197 #[V0 3] w (Ret (V0 (Mg 3:Int)) w):=by
 refine zin 15 Tryz.func197 ?_
 refine xbs 7 5 [V0 0,V0 160774,V0 121107,V0 240779,V0 160478] 3 fun b1 W1 n1=>?_
 refine xb 22 3 n1.blk ?_
 exact xe 4 (V0 240779) ⟨rfl,n1.below⟩
theorem ref_Salt4(w:World) :
 C0 197 #[V0 4] w (Ret (V0 (Mg 4:Int)) w):=by
 refine zin 15 Tryz.func197 ?_
 refine xbs 7 5 [V0 0,V0 160774,V0 121107,V0 240779,V0 160478] 3 fun b1 W1 n1=>?_
 refine xb 22 4 n1.blk ?_
 exact xe 4 (V0 160478) ⟨rfl,n1.below⟩
theorem ref_Salt(kind:Int)(h1:1≤kind)(h2:kind≤4)(w:World):C0 197 #[V0 kind] w (Ret (V0 (Mg kind:Int)) w):=by
 obtain rfl|rfl|rfl|rfl:kind=1∨kind=2∨kind=3∨kind=4:=by omega
 ·exact ref_Salt1 w
 ·exact ref_Salt2 w
 ·exact ref_Salt3 w
 ·exact ref_Salt4 w
theorem Zcc(kind no:Int)(w:World) :
 C0 194 #[V0 kind,V0 no] w (Ret (.bool (Km kind no)) w):=by
 refine zin 19 Tryz.func194 ?_
 refine xg 10 [6,7] (decide (kind≥(1:Int))) (fun a2=>?_) (fun a2=>?_)
 ·have a2:=of_decide_eq_true a2
  refine xg 4 [9,10,11] (decide (kind≤(4:Int))) (fun a1=>?_) (fun a1=>?_)
  ·have a1:=of_decide_eq_true a1
   refine xg 4 [13,14,15] (decide (no≥(0:Int))) (fun a0=>?_) (fun a0=>?_)
   ·have a0:=of_decide_eq_true a0
    exact xe 7 (.bool (decide (no<(14400:Int)))) ⟨by rw[show Km kind no=decide (no<14400) from decide_eq_decide.2 ⟨fun h=>h.2.2.2,fun h=>⟨by omega,by omega,by omega,h⟩⟩],(B4 w)⟩
   have a0:=of_decide_eq_false a0
   exact xe 7 (.bool false) ⟨by rw[show Km kind no=false from decide_eq_false (by omega)],(B4 w)⟩
  have a1:=of_decide_eq_false a1
  exact xe 11 (.bool false) ⟨by rw[show Km kind no=false from decide_eq_false (by omega)],(B4 w)⟩
 have a2:=of_decide_eq_false a2
 exact xe 15 (.bool false) ⟨by rw[show Km kind no=false from decide_eq_false (by omega)],(B4 w)⟩
end Go.Proofs.YtceeiinepijokaaGreatDoor
namespace Go.Proofs.YtceeiinepijokaaGreatDoor
set_option maxHeartbeats 8000000
set_option maxRecDepth 100000
open Go.RowKit
set_option linter.unusedVariables false
theorem run_cat{P:Program}{a:Act}{o:Oper}{t t2:TypeId}{x y:Operand}{l m:Bl}(ho:o.op=.binOp .add t x y t2)(hx:a.eval x=.string ⟨l.toArray⟩)(hy:a.eval y=.string ⟨m.toArray⟩)(hl:l.length+m.length≤1000000)(w:World):(execOp a.eval o).run P w=.ok (.value (.string ⟨(l++m).toArray⟩)) w:=by
 have e:(⟨l.toArray⟩:ByteArray)++⟨m.toArray⟩=⟨(l++m).toArray⟩:=by
  apply ByteArray.ext
  simp
 have g:binOp .add t (.string ⟨l.toArray⟩) (.string ⟨m.toArray⟩)=pure (.string ((⟨l.toArray⟩:ByteArray)++⟨m.toArray⟩)):=by
  have h:¬ (9223372036854775807:Int)<((⟨l.toArray⟩:ByteArray).size:Int)+((⟨m.toArray⟩:ByteArray).size:Int):=by simp[ByteArray.size];omega
  simp[binOp,Op.stringOp]
  intro q;exact absurd q h
 have q:eqGuard .add t x y (.string ⟨l.toArray⟩:Value) (.string ⟨m.toArray⟩:Value)=pure ():=rfl
 simp only[execOp,ho,hx,hy,g,e,q]
 simp
theorem loop_eq(bs:ByteArray)(i:Nat)(r:Bl):ByteArray.toList.loop bs i r=r.reverse++bs.data.toList.drop i:=by
 have hs:bs.data.toList.length=bs.size:=by rw[Array.length_toList];rfl
 rw[ByteArray.toList.loop]
 split
 ·rename_i h
  have h':i<bs.data.toList.length:=by omega
  rw[loop_eq bs (i+1) _,List.drop_eq_getElem_cons h']
  have e:bs.get! i=bs.data.toList[i]:=by
   have h2:i<bs.data.size:=by rw[←Array.length_toList];exact h'
   show bs.data[i]! = _
   rw[getElem!_pos bs.data i h2];simp
  rw[e];simp
 ·rename_i h
  rw[List.drop_eq_nil_of_le (by omega)];simp
termination_by bs.size-i
theorem str_list(a:Bl):(⟨a.toArray⟩:ByteArray).toList=a:=by
 unfold ByteArray.toList;rw[loop_eq];simp
theorem Wk(a b:Bl):((⟨a.toArray⟩:ByteArray).toList==(⟨b.toArray⟩:ByteArray).toList)=(a==b):=by rw[str_list,str_list]
theorem Ah(l:Bl):∀ (w k i:Nat),i<w→Zg l k w/256 ^ i%256=(l.getD (k+i) 0).toNat
 | 0,k,i,h=>absurd h (by omega)
 | w+1,k,0,_=>by
  have:=(l.getD k 0).toNat_lt
  rw[Zg];simp only[Nat.pow_zero,Nat.div_one,Nat.add_zero];omega
 | w+1,k,i+1,h=>by
  have:=(l.getD k 0).toNat_lt
  have ih:=Ah l w (k+1) i (by omega)
  rw[Zg,Nat.pow_succ,Nat.mul_comm (256 ^ i) 256,←Nat.div_div_eq_div_mul,show((l.getD k 0).toNat+256*Zg l (k+1) w)/256=Zg l (k+1) w by omega,ih,show k+1+i=k+(i+1) by omega]
theorem Ze6{l:Bl}{k w:Nat}(h:k+w≤l.length):leB (Zg l k w:Int) w=(l.drop k).take w:=by
 apply List.ext_getElem
 ·simp[Zi];omega
 intro i h1 h2
 have hw:i<w:=by simpa [Zi] using h1
 have e:=Ah l w k i hw
 apply UInt8.toNat_inj.1
 simp only[leB,List.getElem_map,List.getElem_range,Zw,Int.toNat_natCast,UInt8.toNat_ofNat',List.getElem_take,List.getElem_drop]
 have e2:l.getD (k+i) 0=l[k+i]'(by omega):=by simp[List.getD,show k+i<l.length by omega]
 rw[e2] at e
 rw[←e]
theorem leB_inj{m n w:Nat}(hm:m<256 ^ w)(hn:n<256 ^ w)(h:leB (m:Int) w=leB (n:Int) w):m=n:=by
 have e:∀ i,i<w→m/256 ^ i%256=n/256 ^ i%256:=fun i hi=>by
  have:=congrArg (fun l=>(l.getD i 0).toNat) h
  simpa [leB,Zw,List.getD,List.getElem?_range hi,UInt8.toNat_ofNat'] using this
 clear h
 induction w generalizing m n with
 | zero=>simp at hm hn;omega
 | succ w ih =>
  have h0:=e 0 (by omega)
  have h1:m/256=n/256:=ih (by rw[Nat.pow_succ] at hm;omega) (by rw[Nat.pow_succ] at hn;omega) fun i hi=>by
   have:=e (i+1) (by omega)
   rw[Nat.pow_succ,Nat.mul_comm (256 ^ i) 256,←Nat.div_div_eq_div_mul,←Nat.div_div_eq_div_mul] at this
   exact this
  simp only[Nat.pow_zero,Nat.div_one] at h0
  omega
theorem Kb{b:Bool}(h:(!b)=true):b=false:=by simpa using h
theorem Ka{b:Bool}(h:(!b)=false):b=true:=by simpa using h
end Go.Proofs.YtceeiinepijokaaGreatDoor
namespace Go.Proofs.YtceeiinepijokaaGreatDoor
set_option maxHeartbeats 8000000
set_option maxRecDepth 100000
open Go.RowKit Go.Extern.Stop Go.Stop Go.Extern
set_option linter.unusedVariables false
attribute [local irreducible] wpList wpAnyH Code.wp Oper.wp Go
theorem Tu(n lo hi:Int)(w:World) :
 C0 208 #[V0 n,V0 lo,V0 hi] w (Ret (.bool (decide (lo≤n∧n≤hi))) w):=by
 refine zin 15 Tryz.func208 ?_
 refine xg 11 [9,10] (decide (n≥lo)) (fun a0=>?_) (fun a0=>?_)
 ·have a0:=of_decide_eq_true a0
  exact xe 8 (.bool (decide (n≤hi))) ⟨by rw[show decide (lo≤n∧n≤hi)=decide (n≤hi) from by simp;omega],(B4 w)⟩
 have a0:=of_decide_eq_false a0
 exact xe 8 (.bool false) ⟨by rw[show decide (lo≤n∧n≤hi)=false from decide_eq_false (by omega)],(B4 w)⟩
def txtL(N:List Int)(ws:List Nat)(k:Nat):Bl:=(List.range k).flatMap fun i=>leB (N.getD i 0) (ws.getD i 0)
theorem Sk(N:List Int)(ws:List Nat)(k:Nat):txtL N ws (k+1)=txtL N ws k++leB (N.getD k 0) (ws.getD k 0):=by simp[txtL,List.range_succ]
def TxtOk(N:List Int)(ws:List Nat):Prop:=N.length≤100∧ws.length=N.length∧∀ i,i<N.length→0≤N.getD i 0∧N.getD i 0<9223372036854775808∧ws.getD i 0≤8
theorem Zhe{N:List Int}{ws:List Nat}(h:TxtOk N ws):∀ k,k≤N.length→(txtL N ws k).length≤k*8
 | 0,_=>Nat.zero_le _
 | k+1,hk=>by
  rw[Sk,List.length_append,Zi]
  have:=Zhe h k (by omega)
  have:=(h.2.2 k (by omega)).2.2
  omega
theorem Zga(N:List Int)(ws:List Nat)(gn gw:O0)(cn cw:Nat)(w:World)(hok:TxtOk N ws)(hN:Sl w (.slice gn N.length cn) N.length (N.map V0))(hW:Sl w (.slice gw N.length cw) N.length (ws.map nv)) :
 C0 209 #[.slice gn N.length cn,.slice gw N.length cw] w (Ret (.string ⟨(txtL N ws N.length).toArray⟩) w):=by
 have b0:=hok.1
 have a4:=hok.2.1
 refine zin 26 Tryz.func209 ?_
 have hB:=Below.refl w.heap.size w
 refine zl 17 26 (fun zm a7 V=>∃ (i:Nat),a7=[(0,.slice gn N.length cn),(1,.slice gw N.length cw),(4,.string ⟨#[]⟩),(5,.string ⟨(txtL N ws i).toArray⟩),(6,V0 (i:Int))]∧zm=N.length-((i:Int)).toNat∧B3 w V∧i≤N.length) ⟨0,rfl,rfl,hB,Nat.zero_le _⟩ ?_
 rintro _ _ W1 ⟨i,rfl,rfl,a1,hi⟩ J1 a8 r1
 have b1:=Zhe hok i hi
 have a9:i<N.length→ws.getD i 0≤8:=fun q=>(hok.2.2 i q).2.2
 refine xid 9 ((i:Int)<(N.length:Int)) (fun a6=>?_) (fun a6=>?_)
 ·refine xd 4 .z ?_
  refine xx (.e [0,1,2] 3) _ N.length i 1 (IntsN.elem hN rfl (k:=i) (by omega)).1 ?_
  have a0:=bln a1 (Za W1)
  refine xl (.e [] 4) ((IntsN.elem (hN.below a0) rfl (k:=i) (by omega)).2) ?_
  refine xx (.e [5,6] 7) _ N.length i 1 (Zh hW a4 (k:=i) (by omega)).1 ?_
  refine xl (.e [] 8) ((Zh (hW.below a0) a4 (k:=i) (by omega)).2) ?_
  refine yc (.o [] 9) (args:=#[V0 (N.getD i 0),V0 (↑(ws.getD i 0):Int)]) .z (De (N.getD i 0) (ws.getD i 0) (↑(ws.getD i 0):Int) _ (hok.2.2 i (by omega)).1 (hok.2.2 i (by omega)).2.1 rfl (hok.2.2 i (by omega)).2.2) ?_
  rintro _ W3 ⟨_,rfl,a5,p2,c2,rfl,h2⟩
  refine⟨a5,?_⟩
  have a3:=Zd h2 a0.size
  refine xcv (.e [] 10) (fun _ _ _ zo zx V hV=>Yz zo zx (Yk (Ze (Zb a3 hV)) (Zi _ _)) (Zi _ _) Tryz.underlying22 Tryz.underlying5 Tryz.underlying9) ?_
  refine xbo (.e [] 11) (t:=9) (t2:=9) (fun _ _ _ _ zo zx zy V hV=>run_cat (l:=txtL N ws i) (m:=leB (N.getD i 0) (ws.getD i 0)) zo zx zy (by rw[Zi];omega) V) ?_
  refine xwm (.r [12] 5) ((i:Int)+1) (↑(i+1):Int) ?_
  refine xv1 2 5 (show(.string ⟨(txtL N ws i++leB (N.getD i 0) (ws.getD i 0)).toArray⟩:Value)=.string ⟨(txtL N ws (i+1)).toArray⟩ from by rw[Sk]) ?_
  have a2:=bln a0 a5
  exact ze 0 (a8 _ _ _ ⟨i+1,rfl,rfl,a2,by omega⟩ (by omega))
 refine xe 12 (.string ⟨(txtL N ws i).toArray⟩) ?_
 obtain rfl:i=N.length:=by omega
 exact⟨rfl,a1⟩
def Db(x y z:Int):Bool:=decide (1≤x∧x≤14399)&&decide (0≤y∧y≤960)&&decide (0≤z∧z≤960)
def SlotStrP(x y z:Int)(w:World)(e:Ending)(w':World):Prop :=
 (Db x y z=false∧e=.returned (.string ⟨#[]⟩)∧B3 w w')∨(Db x y z=true∧e=.returned (.string ⟨(txtL [x,y,z] [8,4,4] 3).toArray⟩)∧B3 w w')
theorem slotQ_ok{x y z:Int}(h:Db x y z=true):TxtOk [x,y,z] [8,4,4]:=by
 unfold Db at h
 simp only[Bool.and_eq_true,decide_eq_true_iff] at h
 refine⟨show 3≤100 from by decide,rfl,fun i hi=>?_⟩
 have a0:i<3:=hi
 obtain rfl|rfl|rfl:i=0∨i=1∨i=2:=by omega
 all_goals simp[List.getD]
 all_goals omega
theorem txt3_ne(x y z:Int):((⟨(txtL [x,y,z] [8,4,4] 3).toArray⟩:ByteArray).toList==(⟨#[]⟩:ByteArray).toList)=false:=by
 rw[show(⟨#[]⟩:ByteArray)=⟨([]:Bl).toArray⟩ from rfl,Wk]
 apply beq_false_of_ne
 intro q
 have h1:=congrArg List.length q
 rw[Sk,List.length_append,Zi,List.length_nil] at h1
 simp at h1
theorem ref08_Slot(x y z:Int)(w:World) :
 C0 139 #[.agg #[V0 x,V0 y,V0 z]] w (SlotStrP x y z w):=by
 refine zin 28 Tryz.func139 ?_
 refine xa 2 [V0 x,V0 y,V0 z] 134 fun b1 W1 n1=>?_
 refine xb 7 0 n1.blk ?_
 refine xr 0 (args:=#[V0 x,V0 1,V0 14399]) (Tu x 1 14399 _) fun W2 a3=>?_
 refine xg 2 [6,7] (!(decide ((1:Int)≤x∧x≤14399))) (fun b3=>?_) (fun b3=>?_)
 ·have c0:(decide ((1:Int)≤x∧x≤14399))=false:=Kb b3
  have hB:=bln n1.below a3
  exact xe 21 (.string ⟨#[]⟩) (.inl ⟨by unfold Db;first|(rw[c0];done)|(rw[c0];rfl),rfl,hB⟩)
 have a5:(decide ((1:Int)≤x∧x≤14399))=true:=Ka b3
 have a7:=n1.blk.below a3
 refine xb 1 1 a7 ?_
 refine xr 0 (args:=#[V0 y,V0 0,V0 960]) (Tu y 0 960 _) fun W6 b2=>?_
 refine xg 3 [11,12,13] (!(decide ((0:Int)≤y∧y≤960))) (fun b5=>?_) (fun b5=>?_)
 ·have b9:(decide ((0:Int)≤y∧y≤960))=false:=Kb b5
  have hB:=bln (bln n1.below a3) b2
  exact xe 15 (.string ⟨#[]⟩) (.inl ⟨by unfold Db;first|(rw[a5,b9];done)|(rw[a5,b9];rfl),rfl,hB⟩)
 have b8:(decide ((0:Int)≤y∧y≤960))=true:=Ka b5
 have a8:=a7.below b2
 refine xb 1 2 a8 ?_
 refine xr 0 (args:=#[V0 z,V0 0,V0 960]) (Tu z 0 960 _) fun c4 a2=>?_
 refine xi 4 (!(decide ((0:Int)≤z∧z≤960))) (fun a0=>?_) (fun a0=>?_)
 ·have a4:(decide ((0:Int)≤z∧z≤960))=false:=Kb a0
  have hB:=bln (bln (bln n1.below a3) b2) a2
  exact xe 7 (.string ⟨#[]⟩) (.inl ⟨by unfold Db;first|(rw[a5,b8,a4];done)|(rw[a5,b8,a4];rfl),rfl,hB⟩)
 have b7:(decide ((0:Int)≤z∧z≤960))=true:=Ka a0
 have a1:=a8.below a2
 refine xb 5 0 a1 ?_
 refine xb 1 1 a1 ?_
 refine xb 1 2 a1 ?_
 refine xbs 0 3 [V0 x,V0 y,V0 z] 3 fun c2 c5 b6=>?_
 refine xbs 0 3 [V0 8,V0 4,V0 4] 3 fun c1 c7 a9=>?_
 have b0:=a9.ne b6.blk
 have c3:Db x y z=true:=by
  unfold Db
  rw[a5,b8,b7];rfl
 have a6:=b6.blk.below a9.below
 refine xr 0 (args:=#[.slice (S1 c2) 3 3,.slice (S1 c1) 3 3]) (Zga [x,y,z] [8,4,4] (S1 c2) (S1 c1) 3 3 _ (slotQ_ok c3) (a6.sl 3 3 (by decide) (by decide)) (a9.blk.sl 3 3 (by decide) (by decide))) fun c6 b4=>?_
 have hB:=bln (bln (bln (bln (bln (bln n1.below a3) b2) a2) b6.below) a9.below) b4
 exact xe 4 (.string ⟨(txtL [x,y,z] [8,4,4] 3).toArray⟩) (.inr ⟨c3,rfl,hB⟩)
theorem Ep(g:Nat)(n:Int)(h0:0≤n)(hb:n<4294967296)(w:World)(hk:Blk w g [V0 4,V0 n] 292) :
 C0 168 #[.slice (S1 g) 1 1] w (Qe (fun w' r=>∃ p c,r=.tuple #[.slice p 4 c,V0 0]∧w'.ownsRow w.heap.size 5 1 (.slice p 4 c) 4 ((leB n 4).map bv)) w):=by
 refine zin 32 Tryz.func168 ?_
 refine xu 20 2 ?_
 refine xlv 14 hk.rp ?_
 refine xa 0 [V0 0,V0 0] 292 fun b1 W1 n1=>?_
 have b5:=n1.ne hk
 refine xsv 0 n1.blk [V0 4,V0 n] fun W2 u2 k2=>?_
 have g1:=n1.ge (B4 w)
 refine xb 6 0 k2 ?_
 refine xr 0 (args:=#[V0 4]) (Zam _) fun W3 a4=>?_
 have a1:=k2.below a4
 refine xb 10 1 a1 ?_
 refine xb 1 0 a1 ?_
 refine xr 0 (args:=#[V0 n,V0 4]) (fits_4 (n) (h0) (hb) _) fun W4 a3=>?_
 have a2:=a1.below a3
 refine xb 9 1 a2 ?_
 refine xb 1 0 a2 ?_
 refine xc 0 (args:=#[V0 n,V0 4]) (Zbu (n) (h0) _) ?_
 rintro _ W5 ⟨_,rfl,b2,a5⟩
 have b4:=(bln (bln (u2.below n1.below g1) a4) a3).size
 have a0:=Zd a5 b4
 unfold Nk at a0
 rw[Zi] at a0
 obtain⟨a8,b3,rfl⟩:=(Ze a0).slice
 have o6:=World.ownsRow_nil W5 w.heap.size 5 1
 have hB:=bln (bln (bln (u2.below n1.below g1) a4) a3) b2
 refine xbi 0 fun _ _ _ _ zJ zQ zo zx zy zK=>Zr (m:=4) (news:=(leB (n) 4).map bv) (.int .u8 0) 1 1 (4) ((leB (n) 4).map bv) zo Tryz.underlying22 (by kernel_rfl) rfl (by decide) zx o6 zy (Ze a0) (by simp[Zi]) (Qk _) (by unfold maxLen;omega) (by omega) hB.size (by rfl) (by simp) fun b0 a9 W7 o7 b6 a7=>?_
 refine zK _ _ ?_
 have a6:=hB.trans a7
 exact xe 29 (.tuple #[.slice b0 4 a9,V0 0]) ⟨_,rfl,a6,_,_,rfl,o7⟩
theorem Pack_8(g:Nat)(n:Int)(h0:0≤n)(w:World)(hk:Blk w g [V0 8,V0 n] 292) :
 C0 168 #[.slice (S1 g) 1 1] w (Qe (fun w' r=>∃ p c,r=.tuple #[.slice p 8 c,V0 0]∧w'.ownsRow w.heap.size 5 1 (.slice p 8 c) 8 ((leB n 8).map bv)) w):=by
 refine zin 32 Tryz.func168 ?_
 refine xu 20 2 ?_
 refine xlv 14 hk.rp ?_
 refine xa 0 [V0 0,V0 0] 292 fun b1 W1 n1=>?_
 have b5:=n1.ne hk
 refine xsv 0 n1.blk [V0 8,V0 n] fun W2 u2 k2=>?_
 have g1:=n1.ge (B4 w)
 refine xb 6 0 k2 ?_
 refine xr 0 (args:=#[V0 8]) (known_8 _) fun W3 a4=>?_
 have a1:=k2.below a4
 refine xb 10 1 a1 ?_
 refine xb 1 0 a1 ?_
 refine xr 0 (args:=#[V0 n,V0 8]) (fits_8 (n) (h0) _) fun W4 a3=>?_
 have a2:=a1.below a3
 refine xb 9 1 a2 ?_
 refine xb 1 0 a2 ?_
 refine xc 0 (args:=#[V0 n,V0 8]) (bytes_8 (n) (h0) _) ?_
 rintro _ W5 ⟨_,rfl,b2,a5⟩
 have b4:=(bln (bln (u2.below n1.below g1) a4) a3).size
 have a0:=Zd a5 b4
 unfold Nk at a0
 rw[Zi] at a0
 obtain⟨a8,b3,rfl⟩:=(Ze a0).slice
 have o6:=World.ownsRow_nil W5 w.heap.size 5 1
 have hB:=bln (bln (bln (u2.below n1.below g1) a4) a3) b2
 refine xbi 0 fun _ _ _ _ zJ zQ zo zx zy zK=>Zr (m:=8) (news:=(leB (n) 8).map bv) (.int .u8 0) 1 1 (8) ((leB (n) 8).map bv) zo Tryz.underlying22 (by kernel_rfl) rfl (by decide) zx o6 zy (Ze a0) (by simp[Zi]) (Qk _) (by unfold maxLen;omega) (by omega) hB.size (by rfl) (by simp) fun b0 a9 W7 o7 b6 a7=>?_
 refine zK _ _ ?_
 have a6:=hB.trans a7
 exact xe 29 (.tuple #[.slice b0 8 a9,V0 0]) ⟨_,rfl,a6,_,_,rfl,o7⟩
theorem Pack_node(g:Nat)(f t k v m:Int)(hf:0≤f)(hf2:f<256)(ht:0≤t)(ht2:t<256)(hk1:0≤k)(hk2:k<65536)(hv:0≤v)(hv2:v<65536)(hm:0≤m)(hm2:m<65536)(w:World)(hk:Blk w g [V0 1,V0 f,V0 1,V0 t,V0 2,V0 k,V0 2,V0 v,V0 2,V0 m,V0 4,V0 0] 292) :
 C0 168 #[.slice (S1 g) 6 6] w (Qe (fun w' r=>∃ p c,r=.tuple #[.slice p 12 c,V0 0]∧w'.ownsRow w.heap.size 5 1 (.slice p 12 c) 12 ((leB f 1++leB t 1++leB k 2++leB v 2++leB m 2++leB 0 4).map bv)) w):=by
 refine zin 32 Tryz.func168 ?_
 refine xu 20 7 ?_
 refine xlv 14 (hk.rpp 0 2) ?_
 refine xa 0 [V0 0,V0 0] 292 fun b1 W1 n1=>?_
 have m8:=n1.ne hk
 refine xsv 0 n1.blk [V0 1,V0 f] fun W2 u2 k2=>?_
 have g1:=n1.ge (B4 w)
 refine xb 6 0 k2 ?_
 refine xr 0 (args:=#[V0 1]) (Zgn _) fun W3 j9=>?_
 have f7:=k2.below j9
 refine xb 10 1 f7 ?_
 refine xb 1 0 f7 ?_
 refine xr 0 (args:=#[V0 f,V0 1]) (fits_1 (f) (hf) (hf2) _) fun W4 j8=>?_
 have h2:=f7.below j8
 refine xb 9 1 h2 ?_
 refine xb 1 0 h2 ?_
 refine xc 0 (args:=#[V0 f,V0 1]) (bytes_1 (f) (hf) _) ?_
 rintro _ W5 ⟨_,rfl,l2,m7⟩
 have o2:=(bln (bln (u2.below n1.below g1) j9) j8).size
 have a2:=Zd m7 o2
 unfold Nk at a2
 rw[Zi] at a2
 obtain⟨o8,p5,rfl⟩:=(Ze a2).slice
 have o6:=World.ownsRow_nil W5 w.heap.size 5 1
 have hB:=bln (bln (bln (u2.below n1.below g1) j9) j8) l2
 refine xbi 0 fun _ _ _ _ zJ zQ zo zx zy zK=>Zr (m:=1) (news:=(leB (f) 1).map bv) (.int .u8 0) 1 1 (1) ((leB (f) 1).map bv) zo Tryz.underlying22 (by kernel_rfl) rfl (by decide) zx o6 zy (Ze a2) (by simp[Zi]) (Qk _) (by unfold maxLen;omega) (by omega) hB.size (by rfl) (by simp) fun t7 t0 W7 o7 n0 p7=>?_
 refine zK _ _ ?_
 have g7:=((((u2.blk (hk.below n1.below) (Ne.symm (Ne.symm m8))).below j9).below j8).below l2).grown n0 o6 (by decide)
 refine xlv 23 (g7.rpp 2 2) ?_
 refine xa 0 [V0 0,V0 0] 292 fun b8 W8 n8=>?_
 have m5:=n8.ne g7
 have i0:=(h2.below l2).grown n0 o6 (by decide)
 have i9:=n8.ne i0
 have f0:=hB.trans p7
 have g8:=n8.ge f0
 refine xsv 0 n8.blk [V0 1,V0 t] fun W9 u9 k9=>?_
 refine xb 6 0 k9 ?_
 refine xr 0 (args:=#[V0 1]) (Zgn _) fun r4 c3=>?_
 have e9:=k9.below c3
 refine xb 10 1 e9 ?_
 refine xb 1 0 e9 ?_
 refine xr 0 (args:=#[V0 t,V0 1]) (fits_1 (t) (ht) (ht2) _) fun r6 c4=>?_
 have f8:=e9.below c4
 refine xb 9 1 f8 ?_
 refine xb 1 0 f8 ?_
 refine xc 0 (args:=#[V0 t,V0 1]) (bytes_1 (t) (ht) _) ?_
 rintro _ s7 ⟨_,rfl,c9,k3⟩
 have l1:=(bln (bln (u9.below (bln f0 n8.below) g8) c3) c4).size
 have a8:=Zd k3 l1
 unfold Nk at a8
 rw[Zi] at a8
 obtain⟨q3,p1,rfl⟩:=(Ze a8).slice
 have e0:=Zb (Zb (Zb (u9.own2 (Zb o7 n8.below) n8.blk (by decide)) c3) c4) c9
 have h7:=bln (bln (bln (u9.below (bln f0 n8.below) g8) c3) c4) c9
 refine xbi 0 fun _ _ _ _ zJ zQ zo zx zy zK=>Zr (m:=1) (news:=(leB (t) 1).map bv) (.int .u8 0) 1 1 (2) ((leB (f) 1++leB (t) 1).map bv) zo Tryz.underlying22 (by kernel_rfl) rfl (by decide) zx e0 zy (Ze a8) (by simp[Zi]) (Qk _) (by unfold maxLen;omega) (by omega) h7.size (by rfl) (by simp) fun o5 o9 r8 p3 g6 k5=>?_
 refine zK _ _ ?_
 have f9:=((((u9.blk (g7.below n8.below) (Ne.symm (Ne.symm m5))).below c3).below c4).below c9).grown g6 e0 (by decide)
 refine xlv 23 (f9.rpp 4 2) ?_
 refine xa 0 [V0 0,V0 0] 292 fun s4 r5 c6=>?_
 have i2:=c6.ne f9
 have i1:=((((u9.blk (i0.below n8.below) (Ne.symm (Ne.symm i9))).below c3).below c4).below c9).grown g6 e0 (by decide)
 have g9:=c6.ne i1
 have j0:=(f8.below c9).grown g6 e0 (by decide)
 have f3:=c6.ne j0
 have f1:=h7.trans k5
 have n2:=c6.ge f1
 refine xsv 0 c6.blk [V0 2,V0 k] fun u3 h3 n3=>?_
 refine xb 6 0 n3 ?_
 refine xr 0 (args:=#[V0 2]) (Zbd _) fun t5 b7=>?_
 have c7:=n3.below b7
 refine xb 10 1 c7 ?_
 refine xb 1 0 c7 ?_
 refine xr 0 (args:=#[V0 k,V0 2]) (Zhl (k) (hk1) (hk2) _) fun s2 b9=>?_
 have d0:=c7.below b9
 refine xb 9 1 d0 ?_
 refine xb 1 0 d0 ?_
 refine xc 0 (args:=#[V0 k,V0 2]) (Zbv (k) (hk1) _) ?_
 rintro _ t6 ⟨_,rfl,c1,l4⟩
 have k4:=(bln (bln (h3.below (bln f1 c6.below) n2) b7) b9).size
 have a4:=Zd l4 k4
 unfold Nk at a4
 rw[Zi] at a4
 obtain⟨q0,q2,rfl⟩:=(Ze a4).slice
 have b0:=Zb (Zb (Zb (h3.own2 (Zb p3 c6.below) c6.blk (by decide)) b7) b9) c1
 have i5:=bln (bln (bln (h3.below (bln f1 c6.below) n2) b7) b9) c1
 refine xbi 0 fun _ _ _ _ zJ zQ zo zx zy zK=>Zr (m:=2) (news:=(leB (k) 2).map bv) (.int .u8 0) 1 1 (4) ((leB (f) 1++leB (t) 1++leB (k) 2).map bv) zo Tryz.underlying22 (by kernel_rfl) rfl (by decide) zx b0 zy (Ze a4) (by simp[Zi]) (Qk _) (by unfold maxLen;omega) (by omega) i5.size (by rfl) (by simp) fun o4 q4 u4 q5 d7 m6=>?_
 refine zK _ _ ?_
 have g5:=((((h3.blk (f9.below c6.below) (Ne.symm (Ne.symm i2))).below b7).below b9).below c1).grown d7 b0 (by decide)
 refine xlv 23 (g5.rpp 6 2) ?_
 refine xa 0 [V0 0,V0 0] 292 fun t9 u1 c0=>?_
 have h9:=c0.ne g5
 have h4:=((((h3.blk (i1.below c6.below) (Ne.symm (Ne.symm g9))).below b7).below b9).below c1).grown d7 b0 (by decide)
 have f4:=c0.ne h4
 have j4:=((((h3.blk (j0.below c6.below) (Ne.symm (Ne.symm f3))).below b7).below b9).below c1).grown d7 b0 (by decide)
 have f6:=c0.ne j4
 have e6:=(d0.below c1).grown d7 b0 (by decide)
 have d6:=c0.ne e6
 have h0:=i5.trans m6
 have n4:=c0.ge h0
 refine xsv 0 c0.blk [V0 2,V0 v] fun t3 h1 o0=>?_
 refine xb 6 0 o0 ?_
 refine xr 0 (args:=#[V0 2]) (Zbd _) fun s8 b2=>?_
 have c8:=o0.below b2
 refine xb 10 1 c8 ?_
 refine xb 1 0 c8 ?_
 refine xr 0 (args:=#[V0 v,V0 2]) (Zhl (v) (hv) (hv2) _) fun s1 b3=>?_
 have d4:=c8.below b3
 refine xb 9 1 d4 ?_
 refine xb 1 0 d4 ?_
 refine xc 0 (args:=#[V0 v,V0 2]) (Zbv (v) (hv) _) ?_
 rintro _ t1 ⟨_,rfl,b6,l8⟩
 have m0:=(bln (bln (h1.below (bln h0 c0.below) n4) b2) b3).size
 have a5:=Zd l8 m0
 unfold Nk at a5
 rw[Zi] at a5
 obtain⟨p6,q8,rfl⟩:=(Ze a5).slice
 have a1:=Zb (Zb (Zb (h1.own2 (Zb q5 c0.below) c0.blk (by decide)) b2) b3) b6
 have j5:=bln (bln (bln (h1.below (bln h0 c0.below) n4) b2) b3) b6
 refine xbi 0 fun _ _ _ _ zJ zQ zo zx zy zK=>Zr (m:=2) (news:=(leB (v) 2).map bv) (.int .u8 0) 1 1 (6) ((leB (f) 1++leB (t) 1++leB (k) 2++leB (v) 2).map bv) zo Tryz.underlying22 (by kernel_rfl) rfl (by decide) zx a1 zy (Ze a5) (by simp[Zi]) (Qk _) (by unfold maxLen;omega) (by omega) j5.size (by rfl) (by simp) fun p9 p2 r9 q7 d2 l6=>?_
 refine zK _ _ ?_
 have g0:=((((h1.blk (g5.below c0.below) (Ne.symm (Ne.symm h9))).below b2).below b3).below b6).grown d2 a1 (by decide)
 refine xlv 23 (g0.rpp 8 2) ?_
 refine xa 0 [V0 0,V0 0] 292 fun r1 s3 b5=>?_
 have j1:=b5.ne g0
 have i8:=((((h1.blk (h4.below c0.below) (Ne.symm (Ne.symm f4))).below b2).below b3).below b6).grown d2 a1 (by decide)
 have g3:=b5.ne i8
 have i7:=((((h1.blk (j4.below c0.below) (Ne.symm (Ne.symm f6))).below b2).below b3).below b6).grown d2 a1 (by decide)
 have f2:=b5.ne i7
 have e4:=((((h1.blk (e6.below c0.below) (Ne.symm (Ne.symm d6))).below b2).below b3).below b6).grown d2 a1 (by decide)
 have e1:=b5.ne e4
 have e7:=(d4.below b6).grown d2 a1 (by decide)
 have d8:=b5.ne e7
 have f5:=j5.trans l6
 have m9:=b5.ge f5
 refine xsv 0 b5.blk [V0 2,V0 m] fun t8 e8 n9=>?_
 refine xb 6 0 n9 ?_
 refine xr 0 (args:=#[V0 2]) (Zbd _) fun u5 a9=>?_
 have d5:=n9.below a9
 refine xb 10 1 d5 ?_
 refine xb 1 0 d5 ?_
 refine xr 0 (args:=#[V0 m,V0 2]) (Zhl (m) (hm) (hm2) _) fun s6 a3=>?_
 have d3:=d5.below a3
 refine xb 9 1 d3 ?_
 refine xb 1 0 d3 ?_
 refine xc 0 (args:=#[V0 m,V0 2]) (Zbv (m) (hm) _) ?_
 rintro _ s5 ⟨_,rfl,b4,m4⟩
 have l7:=(bln (bln (e8.below (bln f5 b5.below) m9) a9) a3).size
 have a6:=Zd m4 l7
 unfold Nk at a6
 rw[Zi] at a6
 obtain⟨r0,o3,rfl⟩:=(Ze a6).slice
 have a0:=Zb (Zb (Zb (e8.own2 (Zb q7 b5.below) b5.blk (by decide)) a9) a3) b4
 have h5:=bln (bln (bln (e8.below (bln f5 b5.below) m9) a9) a3) b4
 refine xbi 0 fun _ _ _ _ zJ zQ zo zx zy zK=>Zr (m:=2) (news:=(leB (m) 2).map bv) (.int .u8 0) 1 1 (8) ((leB (f) 1++leB (t) 1++leB (k) 2++leB (v) 2++leB (m) 2).map bv) zo Tryz.underlying22 (by kernel_rfl) rfl (by decide) zx a0 zy (Ze a6) (by simp[Zi]) (Qk _) (by unfold maxLen;omega) (by omega) h5.size (by rfl) (by simp) fun p8 p4 s0 q6 c2 k7=>?_
 refine zK _ _ ?_
 have h8:=((((e8.blk (g0.below b5.below) (Ne.symm (Ne.symm j1))).below a9).below a3).below b4).grown c2 a0 (by decide)
 refine xlv 23 (h8.rpp 10 2) ?_
 refine xa 0 [V0 0,V0 0] 292 fun t2 r2 c5=>?_
 have n5:=c5.ne h8
 have l0:=((((e8.blk (i8.below b5.below) (Ne.symm (Ne.symm g3))).below a9).below a3).below b4).grown c2 a0 (by decide)
 have k1:=c5.ne l0
 have k6:=((((e8.blk (i7.below b5.below) (Ne.symm (Ne.symm f2))).below a9).below a3).below b4).grown c2 a0 (by decide)
 have l3:=c5.ne k6
 have j3:=((((e8.blk (e4.below b5.below) (Ne.symm (Ne.symm e1))).below a9).below a3).below b4).grown c2 a0 (by decide)
 have j6:=c5.ne j3
 have h6:=((((e8.blk (e7.below b5.below) (Ne.symm (Ne.symm d8))).below a9).below a3).below b4).grown c2 a0 (by decide)
 have k0:=c5.ne h6
 have i3:=(d3.below b4).grown c2 a0 (by decide)
 have j7:=c5.ne i3
 have g2:=h5.trans k7
 have n7:=c5.ge g2
 refine xsv 0 c5.blk [V0 4,V0 0] fun r7 m3 n6=>?_
 refine xb 6 0 n6 ?_
 refine xr 0 (args:=#[V0 4]) (Zam _) fun u0 e2=>?_
 have d1:=n6.below e2
 refine xb 10 1 d1 ?_
 refine xb 1 0 d1 ?_
 refine xr 0 (args:=#[V0 0,V0 4]) (fits_4 (0) (by decide) (by decide) _) fun s9 d9=>?_
 have e3:=d1.below d9
 refine xb 9 1 e3 ?_
 refine xb 1 0 e3 ?_
 refine xc 0 (args:=#[V0 0,V0 4]) (Zbu (0) (by decide) _) ?_
 rintro _ t4 ⟨_,rfl,j2,m1⟩
 have k8:=(bln (bln (m3.below (bln g2 c5.below) n7) e2) d9).size
 have a7:=Zd m1 k8
 unfold Nk at a7
 rw[Zi] at a7
 obtain⟨q1,p0,rfl⟩:=(Ze a7).slice
 have i4:=Zb (Zb (Zb (m3.own2 (Zb q6 c5.below) c5.blk (by decide)) e2) d9) j2
 have e5:=bln (bln (bln (m3.below (bln g2 c5.below) n7) e2) d9) j2
 refine xbi 0 fun _ _ _ _ zJ zQ zo zx zy zK=>Zr (m:=4) (news:=(leB (0) 4).map bv) (.int .u8 0) 1 1 (12) ((leB (f) 1++leB (t) 1++leB (k) 2++leB (v) 2++leB (m) 2++leB (0) 4).map bv) zo Tryz.underlying22 (by kernel_rfl) rfl (by decide) zx i4 zy (Ze a7) (by simp[Zi]) (Qk _) (by unfold maxLen;omega) (by omega) e5.size (by rfl) (by simp) fun l5 l9 r3 q9 o1 m2=>?_
 refine zK _ _ ?_
 have i6:=e5.trans m2
 exact xe 29 (.tuple #[.slice l5 12 l9,V0 0]) ⟨_,rfl,i6,_,_,rfl,q9⟩
theorem Sl.cap{w:World}{b:O0}{n c:Nat}{xs:List Value}(h:Sl w (.slice b n c) n xs):n≤c:=by
 rcases h with ⟨a',c',h1,h2,_⟩|⟨b',a0,cap,h1,h2,_,_⟩
 ·omega
 ·simp only[Value.slice.injEq] at h1;omega
def Wf(b:Bool):Int:=if b then 1 else 0
theorem Zaq(b:Bool):0≤Wf b∧Wf b<256:=by cases b<;>decide
structure NodeOk(t:Int)(leaf:Bool)(n m v:Nat)(K:List Int)(Vs:List (List UInt8)):Prop where
 ht1:1≤t
 ht2:t≤5
 hm:Qs t leaf=m
 hv:Pd t leaf=v
 hK:K.length=n
 hV:Vs.length=n
 hn:n≤m
 hl:leaf=false→1≤n
 hk0:∀ i,i<n→0≤K.getD i 0∧K.getD i 0≤281474976710655
 hk1:∀ j,j+1<n→K.getD j 0<K.getD (j+1) 0
 hw:∀ i,i<n→(Vs.getD i []).length=v
theorem Si(t:Int)(leaf:Bool):4≤Pd t leaf∧Pd t leaf≤24:=by
 unfold Pd
 repeat' split
 all_goals decide
theorem fitN(t:Int)(leaf:Bool):12+Qs t leaf*8+Qs t leaf*Pd t leaf≤244:=by
 unfold Pd Qs
 repeat' split
 all_goals decide
theorem Zcj{K:List Int}{i j:Nat}(h:j<i):(K.take i).getD j 0=K.getD j 0:=by simp[List.getD,List.getElem?_take_of_lt h]
theorem Tl(t:Int)(leaf:Bool)(m:Nat)(hm:Qs t leaf=m)(h1:1≤t)(h2:t≤5)(w:World):C0 189 #[V0 t,.bool leaf] w (Ret (V0 (m:Int)) w):=by
 subst hm;exact Rl t leaf h1 h2 w
theorem Lg(t:Int)(leaf:Bool)(v:Nat)(hv:Pd t leaf=v)(h1:1≤t)(h2:t≤5)(w:World):C0 239 #[V0 t,.bool leaf] w (Ret (V0 (v:Int)) w):=by
 subst hv;exact Iw t leaf h1 h2 w
theorem node_flag(leaf:Bool)(w:World) :
 C0 279 #[.bool leaf] w (Ret (V0 (Wf leaf)) w):=by
 refine zin 4 Tryz.func279 ?_
 refine xi 11 leaf (fun a0=>?_) (fun a0=>?_)
 ·exact xe 7 (V0 1) ⟨by simp_all [Wf],(B4 w)⟩
 exact xe 8 (V0 0) ⟨by simp_all [Wf],(B4 w)⟩
theorem Zg3(a:O0)(i c:Nat)(L:List Int)(k:Int)(w:World)(hL:L.length=i)(h:Sl w (.slice a i c) i (L.map V0))(h1:0≤k)(h2:k≤281474976710655)(h3:∀ j,i=j+1→L.getD j 0<k)(hi:i≤1000) :
 C0 254 #[.slice a i c,V0 k] w (Ret (V0 0) w):=by
 refine zin 26 Tryz.func254 ?_
 refine xgk 12 [7,8] (show(decide (k<(0:Int)):Bool)=false from decide_eq_false (by omega)) ?_
 refine xk 6 (show(decide (k>(281474976710655:Int)):Bool)=false from decide_eq_false (by omega)) ?_
 refine xg 6 [15,16] (decide ((i:Int)>(0:Int))) (fun a0=>?_) (fun a0=>?_)
 ·have a0:=of_decide_eq_true a0
  refine xwm 3 ((i:Int)-1) (↑(i-1):Int) ?_
  refine xx 0 _ i (i-1) 1 (IntsN.elem h hL (k:=(i-1)) (by omega)).1 ?_
  refine xl 0 ((IntsN.elem h hL (k:=(i-1)) (by omega)).2) ?_
  refine xk 6 (show(decide ((L.getD (i-1) 0)≥k):Bool)=false from decide_eq_false (by have:=h3 (i-1) (by omega);omega)) ?_
  exact xe 9 (V0 0) ⟨rfl,(B4 w)⟩
 have a0:=of_decide_eq_false a0
 exact xe 22 (V0 0) ⟨rfl,(B4 w)⟩
theorem node_Right(t:Int)(leaf:Bool)(n m v:Nat)(K:List Int)(Vs:List Bl)(ak av:O0)(ck cv:Nat)(w:World)(N:NodeOk t leaf n m v K Vs)(hKs:Sl w (.slice ak n ck) n (K.map V0))(hVs:Sl w (.slice av n cv) n (Vs.map sv)) :
 C0 278 #[.agg #[V0 t,.bool leaf,.slice ak n ck,.slice av n cv]] w (Ret (.bool true) w):=by
 have c0:=N.ht1
 have b9:=N.ht2
 have c9:=N.hn
 have c5:=Si t leaf
 rw[N.hv] at c5
 have c6:=Qq t leaf
 rw[N.hm] at c6
 have b7:=fitN t leaf
 rw[N.hm,N.hv] at b7
 have c1:=Sl.cap hKs
 refine zin 70 Tryz.func278 ?_
 refine xa 2 [V0 t,.bool leaf,.slice ak n ck,.slice av n cv] 181 fun b1 W1 n1=>?_
 refine xb 6 0 n1.blk ?_
 refine xb 1 1 n1.blk ?_
 refine xr 0 (args:=#[V0 t,.bool leaf]) (Lg t leaf v N.hv c0 b9 _) fun W2 b3=>?_
 refine xd 5 .z ?_
 refine xgk (.b [0,1,2]) [12,13] (show(((v:Int)==(0:Int)):Bool)=false from by simp;omega) ?_
 have a5:=(n1.blk.below b3).below (Za W2)
 refine xb (.e [3] 4) 2 a5 ?_
 refine xb (.e [5,6] 7) 0 a5 ?_
 refine xb (.e [8] 9) 1 a5 ?_
 refine xr (.o [] 10) (args:=#[V0 t,.bool leaf]) (Tl t leaf m N.hm c0 b9 _) fun W4 b8=>?_
 refine xgk (.b [11,12,13]) [22,23,24] (show(decide ((n:Int)>(m:Int)):Bool)=false from decide_eq_false (by omega)) ?_
 have a0:=a5.below b8
 refine xb (.e [14] 15) 3 a0 ?_
 refine xb (.e [16,17] 18) 2 a0 ?_
 refine xgk (.b [19,20,21,22]) [31,32,33] (show(((n:Int) != (n:Int)):Bool)=false from by simp) ?_
 refine xb (.e [23] 24) 1 a0 ?_
 refine xg (.b [25,26]) [36,37] (!leaf) (fun c3=>?_) (fun c3=>?_)
 ·refine xb (.e [27] 28) 2 a0 ?_
  refine xk (.r [29,30,31,32] 2) (show(((n:Int)==(0:Int)):Bool)=false from by have:=N.hl (by simp_all);simp;omega) ?_
  refine xb 6 2 a0 ?_
  have hB:=bln (bln (bln n1.below b3) (Za W2)) b8
  refine zl 5 70 (fun zm b4 V=>∃ (i:Nat),b4=[(1,P0 b1),(3,V0 (v:Int)),(45,.slice ak n ck),(46,V0 (n:Int)),(47,V0 (i:Int))]∧zm=n-((i:Int)).toNat∧B3 w V∧Blk V b1 ([V0 t,.bool leaf,.slice ak n ck,.slice av n cv]) 181∧i≤n) ⟨0,rfl,rfl,hB,a0,Nat.zero_le _⟩ ?_
  rintro _ _ W8 ⟨i,rfl,rfl,a6,a7,hi⟩ J8 c4 r8
  refine xid 6 ((i:Int)<(n:Int)) (fun c2=>?_) (fun c2=>?_)
  ·refine xx 7 _ n i 1 (IntsN.elem hKs N.hK (k:=i) (by omega)).1 ?_
   refine xl 0 ((IntsN.elem (hKs.below a6) N.hK (k:=i) (by omega)).2) ?_
   refine xb 7 2 a7 ?_
   refine xsH 1 (fun _ _ _ _ zo zx zy V=>Vm (k:=i) (b:=ak) (n:=n) (c:=ck) (i:=(i:Int)) (ki:=.i64) zo zx zy rfl (by omega) Tryz.underlying34 (by kernel_rfl) V) ?_
   refine xr 1 (args:=#[.slice ak i ck,V0 (K.getD i 0)]) (Zg3 ak i ck (K.take i) (K.getD i 0) _ (by rw[List.length_take,N.hK];omega) (by rw[List.map_take];exact(hKs.below a6).head (by simpa using N.hK) i (by omega)) (N.hk0 i (by omega)).1 (N.hk0 i (by omega)).2 (fun j e=>by subst e;rw[Zcj (by omega)];exact N.hk1 j (by omega)) (by omega)) fun c7 b2=>?_
   have a2:=a7.below b2
   refine xb 3 3 a2 ?_
   refine xx 1 _ n i 1 (Strs.elem hVs N.hV (k:=i) (by omega)).1 ?_
   have a8:=bln a6 b2
   refine xl 0 ((Strs.elem (hVs.below a8) N.hV (k:=i) (by omega)).2) ?_
   refine xk 6 (show(((↑(Vs.getD i []).length:Int) != (v:Int)):Bool)=false from by rw[N.hw i (by omega)];simp) ?_
   refine xw 4 ((i:Int)+1) ?_
   exact ze 2 (c4 _ _ _ ⟨i+1,rfl,rfl,a8,a2,by omega⟩ (by omega))
  exact xe 11 (.bool true) ⟨rfl,a6⟩
 refine xb (.r [27,28,29,30,31,32] 9) 2 a0 ?_
 have hB:=bln (bln (bln n1.below b3) (Za W2)) b8
 refine zl 5 70 (fun zm b4 V=>∃ (i:Nat),b4=[(1,P0 b1),(3,V0 (v:Int)),(45,.slice ak n ck),(46,V0 (n:Int)),(47,V0 (i:Int))]∧zm=n-((i:Int)).toNat∧B3 w V∧Blk V b1 ([V0 t,.bool leaf,.slice ak n ck,.slice av n cv]) 181∧i≤n) ⟨0,rfl,rfl,hB,a0,Nat.zero_le _⟩ ?_
 rintro _ _ d1 ⟨i,rfl,rfl,a3,a4,hi⟩ d0 b5 c8
 refine xid 6 ((i:Int)<(n:Int)) (fun b6=>?_) (fun b6=>?_)
 ·refine xx 7 _ n i 1 (IntsN.elem hKs N.hK (k:=i) (by omega)).1 ?_
  refine xl 0 ((IntsN.elem (hKs.below a3) N.hK (k:=i) (by omega)).2) ?_
  refine xb 7 2 a4 ?_
  refine xsH 1 (fun _ _ _ _ zo zx zy V=>Vm (k:=i) (b:=ak) (n:=n) (c:=ck) (i:=(i:Int)) (ki:=.i64) zo zx zy rfl (by omega) Tryz.underlying34 (by kernel_rfl) V) ?_
  refine xr 1 (args:=#[.slice ak i ck,V0 (K.getD i 0)]) (Zg3 ak i ck (K.take i) (K.getD i 0) _ (by rw[List.length_take,N.hK];omega) (by rw[List.map_take];exact(hKs.below a3).head (by simpa using N.hK) i (by omega)) (N.hk0 i (by omega)).1 (N.hk0 i (by omega)).2 (fun j e=>by subst e;rw[Zcj (by omega)];exact N.hk1 j (by omega)) (by omega)) fun d2 b0=>?_
  have a1:=a4.below b0
  refine xb 3 3 a1 ?_
  refine xx 1 _ n i 1 (Strs.elem hVs N.hV (k:=i) (by omega)).1 ?_
  have a9:=bln a3 b0
  refine xl 0 ((Strs.elem (hVs.below a9) N.hV (k:=i) (by omega)).2) ?_
  refine xk 6 (show(((↑(Vs.getD i []).length:Int) != (v:Int)):Bool)=false from by rw[N.hw i (by omega)];simp) ?_
  refine xw 4 ((i:Int)+1) ?_
  exact ze 2 (b5 _ _ _ ⟨i+1,rfl,rfl,a9,a1,by omega⟩ (by omega))
 exact xe 11 (.bool true) ⟨rfl,a3⟩
def widG(t:Int)(leaf:Bool):Nat:=if 1≤t∧t≤5 then Pd t leaf else 0
def maxG(t:Int)(leaf:Bool):Nat:=if 1≤t∧t≤5 then Qs t leaf else 0
theorem fitG(t:Int)(leaf:Bool):12+maxG t leaf*8+maxG t leaf*widG t leaf≤244:=by
 unfold maxG widG;split
 ·exact fitN t leaf
 ·decide
theorem Zgz(t:Int)(leaf:Bool):maxG t leaf≤18:=by
 unfold maxG;split
 ·exact(Qq t leaf).2
 ·decide
theorem Zf4(t:Int)(leaf:Bool):widG t leaf≤24:=by
 unfold widG;split
 ·exact(Si t leaf).2
 ·decide
theorem Mq(t:Int)(leaf:Bool)(w:World)(h:¬ (1≤t∧t≤5)) :
 C0 239 #[V0 t,.bool leaf] w (Ret (V0 0) w):=by
 refine zin 31 Tryz.func239 ?_
 refine xg 17 [8,9] (decide (t<(1:Int))) (fun a0=>?_) (fun a0=>?_)
 ·have a0:=of_decide_eq_true a0
  exact xe 15 (V0 0) ⟨rfl,(B4 w)⟩
 have a0:=of_decide_eq_false a0
 refine xk 6 (show(decide (t>(5:Int)):Bool)=true from decide_eq_true (by omega)) ?_
 exact xe 8 (V0 0) ⟨rfl,(B4 w)⟩
theorem Lb(t:Int)(leaf:Bool)(w:World):C0 239 #[V0 t,.bool leaf] w (Ret (V0 (widG t leaf:Int)) w):=by
 unfold widG
 by_cases h:1≤t∧t≤5
 ·rw[if_pos h];exact Iw t leaf h.1 h.2 w
 ·rw[if_neg h];exact Mq t leaf w h
theorem Zda(t:Int)(leaf:Bool)(w:World)(h:¬ (1≤t∧t≤5)) :
 C0 189 #[V0 t,.bool leaf] w (Ret (V0 0) w):=by
 refine zin 16 Tryz.func189 ?_
 refine xr 9 (args:=#[V0 t,.bool leaf]) (Mq t leaf _ h) fun W1 a0=>?_
 exact xe 18 (V0 0) ⟨rfl,a0⟩
theorem Zeb(t:Int)(leaf:Bool)(w:World):C0 189 #[V0 t,.bool leaf] w (Ret (V0 (maxG t leaf:Int)) w):=by
 unfold maxG
 by_cases h:1≤t∧t≤5
 ·rw[if_pos h];exact Rl t leaf h.1 h.2 w
 ·rw[if_neg h];exact Zda t leaf w h
def keyR(L:List Int)(i:Nat)(k:Int):Int:=if k<0∨281474976710655<k then 2 else if 0<i∧k≤L.getD (i-1) 0 then 8 else 0
def Xz(l:Bl):Int:=(Zg l 1 1:Int)
def Yi(l:Bl):Bool:=(Zg l 0 1:Int)==(1:Int)
def Xh(l:Bl):Nat:=Zg l 2 2
def Xg(l:Bl):Nat:=widG (Xz l) (Yi l)
def Xi(l:Bl):Nat:=maxG (Xz l) (Yi l)
def Vt(l:Bl):Bool:=decide (Zg l 0 1≤1∧Xg l≠0∧Zg l 2 2≤Xi l∧Zg l 4 2=Xg l∧Zg l 6 2=Xi l∧Zg l 8 4=0∧(Zg l 0 1=1∨0<Zg l 2 2))
def ShapeP(l:Bl)(w:World)(e:Ending)(w':World):Prop :=
 (Vt l=false∧∃ a b c,e=.returned (.tuple #[.agg #[V0 a,.bool b,S0,S0],V0 c,.bool false])∧B3 w w') ∨
 (Vt l=true∧e=.returned (.tuple #[.agg #[V0 (Xz l),.bool (Yi l),S0,S0],V0 (Xh l:Int),.bool true])∧B3 w w')
theorem Dj(a:O0)(n c:Nat)(l:Bl)(aw:O0)(cw m:Nat)(ws:List Nat)(xs:List Nat)(W:World)(hn:l.length=n)(hm:ws.length=m)(hx:Je l 0 ws=xs)(hk:∀ i,i<ws.length→ws.getD i 0=1∨ws.getD i 0=2∨ws.getD i 0=4∨ws.getD i 0=8)(hs:ws.sum≤n)(hl:n≤100000000)(hw:ws.length≤1000)(h:Bys W (.slice a n c) l)(hws:Sl W (.slice aw m cw) m (ws.map nv))(hq:∀ i,i<ws.length→(Je l 0 ws).getD i 0<9223372036854775808) :
 C0 180 #[.slice a n c,.slice aw m cw] W (Qe (fun w' r=>∃ p c,r=.tuple #[.slice p m c,V0 0]∧w'.ownsRow W.heap.size 3 1 (.slice p m c) m (xs.map nv)) W):=by
 subst hn hm hx;exact Zcq a c l aw cw ws W hk hs hl hw h hws hq
def Yh(l:Bl):List Nat:=[Zg l 0 1,Zg l 1 1,Zg l 2 2,Zg l 4 2,Zg l 6 2,Zg l 8 4]
theorem Zg7(l:Bl)(i:Nat)(hi:i<6):(Je l 0 [1,1,2,2,2,4]).getD i 0<9223372036854775808:=by
 have h1:=Yn l 0 1 (by decide)
 have h2:=Yn l 1 1 (by decide)
 have h3:=Yn l 2 2 (by decide)
 have h4:=Yn l 4 2 (by decide)
 have h5:=Yn l 6 2 (by decide)
 have h6:=Yn l 8 4 (by decide)
 obtain rfl|rfl|rfl|rfl|rfl|rfl:i=0∨i=1∨i=2∨i=3∨i=4∨i=5:=by omega
 all_goals simp[Je]
 all_goals omega
theorem node_shape(a:O0)(c:Nat)(l:Bl)(w:World)(hl:l.length=244)(h:Bys w (.slice a 244 c) l) :
 C0 253 #[.slice a 244 c] w (ShapeP l w):=by
 refine zin 92 Tryz.func253 ?_
 refine xa 2 [V0 0,.bool false,S0,S0] 181 fun b1 W1 n1=>?_
 refine xbs 18 6 [V0 1,V0 1,V0 2,V0 2,V0 2,V0 4] 3 fun b2 W2 n2=>?_
 have hB:=bln n1.below n2.below
 refine xc 0 (args:=#[.slice a 244 c,.slice (S1 b2) 6 6]) (Dj a 244 c l (S1 b2) 6 6 [1,1,2,2,2,4] (Yh l) _ hl rfl rfl (by decide) (by decide) (by decide) (by decide) (h.below hB) (n2.blk.sl 6 6 (by decide) (by decide)) (Zg7 l)) ?_
 rintro _ W3 ⟨_,rfl,f0,p5,c5,rfl,h5⟩
 have f7:=(bln n1.below n2.below).size
 refine xd 8 (.t w.heap.size [181]) ?_
 have b5:=Zb (Zd h5 f7) (Za W3)
 refine xx (.e [0] 1) _ 6 1 1 (Zh (l:=Yh l) (Ze b5) rfl (k:=1) (by decide)).1 ?_
 refine xlt (.e [] 2) (.t w.heap.size [181]) (fun V hV=>(Zh (l:=Yh l) (Ze (Zj b5 hV.2 (by decide))) rfl (k:=1) (by decide)).2) ?_
 refine xx (.e [3] 4) _ 6 0 1 (Zh (l:=Yh l) (Ze b5) rfl (k:=0) (by decide)).1 ?_
 refine xlt (.e [] 5) (.t w.heap.size [181]) (fun V hV=>(Zh (l:=Yh l) (Ze (Zj b5 hV.2 (by decide))) rfl (k:=0) (by decide)).2) ?_
 refine xa (.o [6,7] 8) [V0 0,.bool false,S0,S0] 181 fun b4 W4 n4=>?_
 have k1:=((n1.blk.below n2.below).below f0).below (Za W3)
 have a3:=n4.ne k1
 have a6:=bln (bln hB f0) (Za W3)
 have g4:=n4.ge a6
 refine ysv (.o [] 9) n4.blk [V0 (↑(Zg l 1 1):Int),.bool ((↑(Zg l 0 1):Int)==(1:Int)),S0,S0] (.t w.heap.size [181]) fun W5 u5 k5=>⟨(Zl u5 n4.blk g4 (by decide)),?_⟩
 have b7:=u5.own2 (Zb b5 n4.below) n4.blk (by decide)
 refine xx 6 _ 6 0 1 (Zh (l:=Yh l) (Ze b7) rfl (k:=0) (by decide)).1 ?_
 refine xl 0 ((Zh (l:=Yh l) (Ze b7) rfl (k:=0) (by decide)).2) ?_
 refine xg 2 [32,33] (decide ((↑(Zg l 0 1):Int)>(1:Int))) (fun d0=>?_) (fun d0=>?_)
 ·have d0:=of_decide_eq_true d0
  have d8:=u5.blk (k1.below n4.below) (Ne.symm (Ne.symm a3))
  refine xsv 13 d8 [V0 0,.bool false,S0,S0] fun W7 u7 k7=>?_
  have g1:=n1.ge (B4 w)
  have e2:=u7.below (u5.below (bln a6 n4.below) g4) g1
  exact xec 6 k7 (.tuple #[.agg #[V0 0,.bool false,S0,S0],V0 0,.bool false]) (.inl ⟨decide_eq_false (by omega),_,_,_,rfl,e2⟩)
 have d0:=of_decide_eq_false d0
 refine xb 1 0 k5 ?_
 refine xb 1 1 k5 ?_
 refine xr 0 (args:=#[V0 (↑(Zg l 1 1):Int),.bool ((↑(Zg l 0 1):Int)==(1:Int))]) (Lb (Xz l) (Yi l) _) fun W8 a7=>?_
 refine xie 4 (↑(Xg l):Int) (0:Int) (fun g0=>?_) (fun g0=>?_)
 ·have e5:=(u5.blk (k1.below n4.below) (Ne.symm (Ne.symm a3))).below a7
  refine xsv 3 e5 [V0 0,.bool false,S0,S0] fun h1 f8 g2=>?_
  have g1:=n1.ge (B4 w)
  have d6:=f8.below (bln (u5.below (bln a6 n4.below) g4) a7) g1
  exact xec 6 g2 (.tuple #[.agg #[V0 0,.bool false,S0,S0],V0 0,.bool false]) (.inl ⟨decide_eq_false (by omega),_,_,_,rfl,d6⟩)
 refine xd 3 .z ?_
 have a5:=(k5.below a7).below (Za W8)
 refine xb (.e [0] 1) 0 a5 ?_
 refine xb (.e [2] 3) 1 a5 ?_
 refine xb (.e [5] 6) 0 a5 ?_
 refine xb (.e [7] 8) 1 a5 ?_
 refine xr (.o [] 4) (args:=#[V0 (↑(Zg l 1 1):Int),.bool ((↑(Zg l 0 1):Int)==(1:Int))]) (Lb (Xz l) (Yi l) _) fun h7 a1=>?_
 refine xr (.o [] 9) (args:=#[V0 (↑(Zg l 1 1):Int),.bool ((↑(Zg l 0 1):Int)==(1:Int))]) (Zeb (Xz l) (Yi l) _) fun a4 a0=>?_
 have a2:=Zb (Zb (Zb (Zb b7 a7) (Za W8)) a1) a0
 refine xx (.r [10,11] 5) _ 6 2 1 (Zh (l:=Yh l) (Ze a2) rfl (k:=2) (by decide)).1 ?_
 refine xl 0 ((Zh (l:=Yh l) (Ze a2) rfl (k:=2) (by decide)).2) ?_
 refine xg 3 [56,57] (decide ((↑(Zg l 2 2):Int)≤(↑(Xi l):Int))) (fun b6=>?_) (fun b6=>?_)
 ·have b6:=of_decide_eq_true b6
  refine xx 1 _ 6 3 1 (Zh (l:=Yh l) (Ze a2) rfl (k:=3) (by decide)).1 ?_
  refine xl 0 ((Zh (l:=Yh l) (Ze a2) rfl (k:=3) (by decide)).2) ?_
  refine xg 4 [62,63,64] ((↑(Zg l 4 2):Int)==(↑(Xg l):Int)) (fun a9=>?_) (fun a9=>?_)
  ·have a9:=eq_of_beq a9
   refine xx 1 _ 6 4 1 (Zh (l:=Yh l) (Ze a2) rfl (k:=4) (by decide)).1 ?_
   refine xl 0 ((Zh (l:=Yh l) (Ze a2) rfl (k:=4) (by decide)).2) ?_
   refine xg 4 [69,70,71] ((↑(Zg l 6 2):Int)==(↑(Xi l):Int)) (fun a8=>?_) (fun a8=>?_)
   ·have a8:=eq_of_beq a8
    refine xx 1 _ 6 5 1 (Zh (l:=Yh l) (Ze a2) rfl (k:=5) (by decide)).1 ?_
    refine xl 0 ((Zh (l:=Yh l) (Ze a2) rfl (k:=5) (by decide)).2) ?_
    refine xg 3 [75,76,77] ((↑(Zg l 8 4):Int)==(0:Int)) (fun b3=>?_) (fun b3=>?_)
    ·have b3:=eq_of_beq b3
     have b8:=(a5.below a1).below a0
     refine xb 1 1 b8 ?_
     refine xg 1 [27,37,45,50,79,80] ((↑(Zg l 0 1):Int)==(1:Int)) (fun b0=>?_) (fun b0=>?_)
     ·have b0:=eq_of_beq b0
      refine xd 10 (.t w.heap.size [181]) ?_
      have c0:=Zb a2 (Za a4)
      refine xx (.e [1] 2) _ 6 2 1 (Zh (l:=Yh l) (Ze c0) rfl (k:=2) (by decide)).1 ?_
      refine xlt (.e [] 3) (.t w.heap.size [181]) (fun V hV=>(Zh (l:=Yh l) (Ze (Zj c0 hV.2 (by decide))) rfl (k:=2) (by decide)).2) ?_
      have d5:=b8.below (Za a4)
      refine xlv (.o [4] 0) d5.rp ?_
      have c6:=(((((u5.blk (k1.below n4.below) (Ne.symm (Ne.symm a3))).below a7).below (Za W8)).below a1).below a0).below (Za a4)
      have g1:=n1.ge (B4 w)
      refine ysv (.o [] 5) c6 [V0 (↑(Zg l 1 1):Int),.bool ((↑(Zg l 0 1):Int)==(1:Int)),S0,S0] (.t w.heap.size [181]) fun h3 f2 f6=>⟨(Zl f2 c6 g1 (by decide)),?_⟩
      have e3:=f2.below (bln (bln (bln (bln (bln (u5.below (bln a6 n4.below) g4) a7) (Za W8)) a1) a0) (Za a4)) g1
      exact xec (.r [6,7] 3) f6 (.tuple #[.agg #[V0 (↑(Zg l 1 1):Int),.bool ((↑(Zg l 0 1):Int)==(1:Int)),S0,S0],V0 (↑(Zg l 2 2):Int),.bool true]) (.inr ⟨decide_eq_true (by omega),rfl,e3⟩)
     have b0:=Yq b0
     refine xx 1 _ 6 2 1 (Zh (l:=Yh l) (Ze a2) rfl (k:=2) (by decide)).1 ?_
     refine xl 0 ((Zh (l:=Yh l) (Ze a2) rfl (k:=2) (by decide)).2) ?_
     refine xd 7 (.t w.heap.size [181]) ?_
     have d1:=Zb a2 (Za a4)
     refine xx (.e [1] 2) _ 6 2 1 (Zh (l:=Yh l) (Ze d1) rfl (k:=2) (by decide)).1 ?_
     refine xlt (.e [] 3) (.t w.heap.size [181]) (fun V hV=>(Zh (l:=Yh l) (Ze (Zj d1 hV.2 (by decide))) rfl (k:=2) (by decide)).2) ?_
     have e7:=b8.below (Za a4)
     refine xlv (.o [4] 0) e7.rp ?_
     have c2:=(((((u5.blk (k1.below n4.below) (Ne.symm (Ne.symm a3))).below a7).below (Za W8)).below a1).below a0).below (Za a4)
     have g1:=n1.ge (B4 w)
     refine ysv (.o [] 5) c2 [V0 (↑(Zg l 1 1):Int),.bool ((↑(Zg l 0 1):Int)==(1:Int)),S0,S0] (.t w.heap.size [181]) fun h6 f1 g3=>⟨(Zl f1 c2 g1 (by decide)),?_⟩
     have c7:=f1.below (bln (bln (bln (bln (bln (u5.below (bln a6 n4.below) g4) a7) (Za W8)) a1) a0) (Za a4)) g1
     refine xec (.r [6,7] 3) g3 (.tuple #[.agg #[V0 (↑(Zg l 1 1):Int),.bool ((↑(Zg l 0 1):Int)==(1:Int)),S0,S0],V0 (↑(Zg l 2 2):Int),.bool (decide ((↑(Zg l 2 2):Int)>(0:Int)))]) ?_
     rcases Bool.eq_false_or_eq_true (decide ((↑(Zg l 2 2):Int)>(0:Int))) with hq|hq
     ·have g7:=of_decide_eq_true hq
      rw[hq];exact .inr ⟨decide_eq_true (by omega),rfl,c7⟩
     ·have g7:=of_decide_eq_false hq
      rw[hq];exact .inl ⟨decide_eq_false (by omega),_,_,_,rfl,c7⟩
    have b3:=Yq b3
    refine xd 13 (.t w.heap.size [181]) ?_
    have b9:=Zb a2 (Za a4)
    refine xx (.e [1] 2) _ 6 2 1 (Zh (l:=Yh l) (Ze b9) rfl (k:=2) (by decide)).1 ?_
    refine xlt (.e [] 3) (.t w.heap.size [181]) (fun V hV=>(Zh (l:=Yh l) (Ze (Zj b9 hV.2 (by decide))) rfl (k:=2) (by decide)).2) ?_
    have e8:=((a5.below a1).below a0).below (Za a4)
    refine xlv (.o [4] 0) e8.rp ?_
    have c4:=(((((u5.blk (k1.below n4.below) (Ne.symm (Ne.symm a3))).below a7).below (Za W8)).below a1).below a0).below (Za a4)
    have g1:=n1.ge (B4 w)
    refine ysv (.o [] 5) c4 [V0 (↑(Zg l 1 1):Int),.bool ((↑(Zg l 0 1):Int)==(1:Int)),S0,S0] (.t w.heap.size [181]) fun h4 e9 g5=>⟨(Zl e9 c4 g1 (by decide)),?_⟩
    have e1:=e9.below (bln (bln (bln (bln (bln (u5.below (bln a6 n4.below) g4) a7) (Za W8)) a1) a0) (Za a4)) g1
    exact xec (.r [6,7] 3) g5 (.tuple #[.agg #[V0 (↑(Zg l 1 1):Int),.bool ((↑(Zg l 0 1):Int)==(1:Int)),S0,S0],V0 (↑(Zg l 2 2):Int),.bool false]) (.inl ⟨decide_eq_false (by omega),_,_,_,rfl,e1⟩)
   have a8:=Yq a8
   refine xd 19 (.t w.heap.size [181]) ?_
   have c1:=Zb a2 (Za a4)
   refine xx (.e [1] 2) _ 6 2 1 (Zh (l:=Yh l) (Ze c1) rfl (k:=2) (by decide)).1 ?_
   refine xlt (.e [] 3) (.t w.heap.size [181]) (fun V hV=>(Zh (l:=Yh l) (Ze (Zj c1 hV.2 (by decide))) rfl (k:=2) (by decide)).2) ?_
   have e0:=((a5.below a1).below a0).below (Za a4)
   refine xlv (.o [4] 0) e0.rp ?_
   have c3:=(((((u5.blk (k1.below n4.below) (Ne.symm (Ne.symm a3))).below a7).below (Za W8)).below a1).below a0).below (Za a4)
   have g1:=n1.ge (B4 w)
   refine ysv (.o [] 5) c3 [V0 (↑(Zg l 1 1):Int),.bool ((↑(Zg l 0 1):Int)==(1:Int)),S0,S0] (.t w.heap.size [181]) fun h2 f4 g8=>⟨(Zl f4 c3 g1 (by decide)),?_⟩
   have e6:=f4.below (bln (bln (bln (bln (bln (u5.below (bln a6 n4.below) g4) a7) (Za W8)) a1) a0) (Za a4)) g1
   exact xec (.r [6,7] 3) g8 (.tuple #[.agg #[V0 (↑(Zg l 1 1):Int),.bool ((↑(Zg l 0 1):Int)==(1:Int)),S0,S0],V0 (↑(Zg l 2 2):Int),.bool false]) (.inl ⟨decide_eq_false (by omega),_,_,_,rfl,e6⟩)
  have a9:=Yq a9
  refine xd 26 (.t w.heap.size [181]) ?_
  have d2:=Zb a2 (Za a4)
  refine xx (.e [1] 2) _ 6 2 1 (Zh (l:=Yh l) (Ze d2) rfl (k:=2) (by decide)).1 ?_
  refine xlt (.e [] 3) (.t w.heap.size [181]) (fun V hV=>(Zh (l:=Yh l) (Ze (Zj d2 hV.2 (by decide))) rfl (k:=2) (by decide)).2) ?_
  have d7:=((a5.below a1).below a0).below (Za a4)
  refine xlv (.o [4] 0) d7.rp ?_
  have d3:=(((((u5.blk (k1.below n4.below) (Ne.symm (Ne.symm a3))).below a7).below (Za W8)).below a1).below a0).below (Za a4)
  have g1:=n1.ge (B4 w)
  refine ysv (.o [] 5) d3 [V0 (↑(Zg l 1 1):Int),.bool ((↑(Zg l 0 1):Int)==(1:Int)),S0,S0] (.t w.heap.size [181]) fun g9 f5 g6=>⟨(Zl f5 d3 g1 (by decide)),?_⟩
  have d4:=f5.below (bln (bln (bln (bln (bln (u5.below (bln a6 n4.below) g4) a7) (Za W8)) a1) a0) (Za a4)) g1
  exact xec (.r [6,7] 3) g6 (.tuple #[.agg #[V0 (↑(Zg l 1 1):Int),.bool ((↑(Zg l 0 1):Int)==(1:Int)),S0,S0],V0 (↑(Zg l 2 2):Int),.bool false]) (.inl ⟨decide_eq_false (by omega),_,_,_,rfl,d4⟩)
 have b6:=of_decide_eq_false b6
 refine xd 33 (.t w.heap.size [181]) ?_
 have c9:=Zb a2 (Za a4)
 refine xx (.e [1] 2) _ 6 2 1 (Zh (l:=Yh l) (Ze c9) rfl (k:=2) (by decide)).1 ?_
 refine xlt (.e [] 3) (.t w.heap.size [181]) (fun V hV=>(Zh (l:=Yh l) (Ze (Zj c9 hV.2 (by decide))) rfl (k:=2) (by decide)).2) ?_
 have d9:=((a5.below a1).below a0).below (Za a4)
 refine xlv (.o [4] 0) d9.rp ?_
 have c8:=(((((u5.blk (k1.below n4.below) (Ne.symm (Ne.symm a3))).below a7).below (Za W8)).below a1).below a0).below (Za a4)
 have g1:=n1.ge (B4 w)
 refine ysv (.o [] 5) c8 [V0 (↑(Zg l 1 1):Int),.bool ((↑(Zg l 0 1):Int)==(1:Int)),S0,S0] (.t w.heap.size [181]) fun h0 f3 f9=>⟨(Zl f3 c8 g1 (by decide)),?_⟩
 have e4:=f3.below (bln (bln (bln (bln (bln (u5.below (bln a6 n4.below) g4) a7) (Za W8)) a1) a0) (Za a4)) g1
 exact xec (.r [6,7] 3) f9 (.tuple #[.agg #[V0 (↑(Zg l 1 1):Int),.bool ((↑(Zg l 0 1):Int)==(1:Int)),S0,S0],V0 (↑(Zg l 2 2):Int),.bool false]) (.inl ⟨decide_eq_false (by omega),_,_,_,rfl,e4⟩)
theorem node_keyG(a:O0)(i c:Nat)(L:List Int)(k:Int)(w:World)(hL:L.length=i)(h:Sl w (.slice a i c) i (L.map V0))(hi:i≤1000) :
 C0 254 #[.slice a i c,V0 k] w (Ret (V0 (keyR L i k)) w):=by
 refine zin 26 Tryz.func254 ?_
 refine xg 12 [7,8] (decide (k<(0:Int))) (fun a1=>?_) (fun a1=>?_)
 ·have a1:=of_decide_eq_true a1
  exact xe 15 (V0 2) ⟨by rw[show keyR L i k=2 from by unfold keyR;rw[if_pos (by omega)]],(B4 w)⟩
 have a1:=of_decide_eq_false a1
 refine xid 6 (k>(281474976710655:Int)) (fun a3=>?_) (fun a3=>?_)
 ·exact xe 8 (V0 2) ⟨by rw[show keyR L i k=2 from by unfold keyR;rw[if_pos (by omega)]],(B4 w)⟩
 refine xg 6 [15,16] (decide ((i:Int)>(0:Int))) (fun a0=>?_) (fun a0=>?_)
 ·have a0:=of_decide_eq_true a0
  refine xwm 3 ((i:Int)-1) (↑(i-1):Int) ?_
  refine xx 0 _ i (i-1) 1 (IntsN.elem h hL (k:=(i-1)) (by omega)).1 ?_
  refine xl 0 ((IntsN.elem h hL (k:=(i-1)) (by omega)).2) ?_
  refine xid 6 ((L.getD (i-1) 0)≥k) (fun a2=>?_) (fun a2=>?_)
  ·exact xe 8 (V0 8) ⟨by rw[show keyR L i k=8 from by unfold keyR;rw[if_neg (by omega),if_pos (by omega)]],(B4 w)⟩
  exact xe 9 (V0 0) ⟨by rw[show keyR L i k=0 from by unfold keyR;rw[if_neg (by omega),if_neg (by omega)]],(B4 w)⟩
 have a0:=of_decide_eq_false a0
 exact xe 22 (V0 0) ⟨by rw[show keyR L i k=0 from by unfold keyR;rw[if_neg (by omega),if_neg (by omega)]],(B4 w)⟩
def Ri(l:Bl)(i:Nat):Nat:=Zg l (12+i*8) 8
def Ha(l:Bl)(n:Nat):List Int:=(List.range n).map fun i=>(Ri l i:Int)
theorem Ng(l:Bl)(n:Nat):(Ha l n).length=n:=by simp[Ha]
theorem Dg(l:Bl)(n:Nat):Ha l (n+1)=Ha l n++[(Ri l n:Int)]:=by simp[Ha,List.range_succ]
theorem Ck(l:Bl){n i:Nat}(h:i<n):(Ha l n).getD i 0=(Ri l i:Int):=by simp[Ha,List.getD,List.getElem?_range h]
def Fq(l:Bl)(i:Nat):Bl:=(l.drop (12+Xi l*8+i*Xg l)).take (Xg l)
def He(l:Bl)(n:Nat):List Bl:=(List.range n).map (Fq l)
theorem Uw(l:Bl)(n:Nat):(He l n).length=n:=by simp[He]
theorem Hj(l:Bl)(n:Nat):He l (n+1)=He l n++[Fq l n]:=by simp[He,List.range_succ]
theorem Zci(l:Bl){n i:Nat}(h:i<n):(He l n).getD i []=Fq l i:=by simp[He,List.getD,List.getElem?_range h]
def Be(l:Bl)(i:Nat):Int:=if 281474976710655<Ri l i then 2 else if 0<i∧Ri l i≤Ri l (i-1) then 8 else 0
def Ve(l:Bl):Nat→Int
 | 0=>0
 | i+1=>if Ve l i≠0 then Ve l i else Be l i
theorem Ez{l:Bl}{i:Nat}(h:Ve l i≠0):∀ n,i≤n→Ve l n=Ve l i
 | 0,h2=>by
  obtain rfl:i=0:=by omega
  rfl
 | n+1,h2=>by
   by_cases e:i=n+1
   ·rw[e]
   ·have ih:=Ez h n (by omega)
    rw[Ve,if_pos (by rw[ih];exact h),ih]
theorem Ui{l:Bl}{i n:Nat}(h:Ve l i=0)(he:Be l i≠0)(hi:i<n):Ve l n=Be l i:=by
 have e:Ve l (i+1)=Be l i:=by rw[Ve,if_neg (by rw[h];decide)]
 rw[Ez (by rw[e];exact he) n hi,e]
theorem Va{l:Bl}{i:Nat}(h:Ve l i=0)(he:Be l i=0):Ve l (i+1)=0:=by rw[Ve,if_neg (by rw[h];decide),he]
theorem keyE_R{l:Bl}{i:Nat}:keyR (Ha l i) i (Ri l i:Int)=Be l i:=by
 unfold keyR Be
 by_cases h:281474976710655<Ri l i
 ·rw[if_pos (by omega),if_pos h]
 ·rw[if_neg (by omega),if_neg h]
  by_cases h2:0<i
  ·rw[Ck l (show i-1<i by omega)]
   by_cases h3:Ri l i≤Ri l (i-1)
   ·rw[if_pos (by omega),if_pos (by omega)]
   ·rw[if_neg (by omega),if_neg (by omega)]
  ·rw[if_neg (by omega),if_neg (by omega)]
def Te(l:Bl):Nat:=12+Xh l*8
def Zdx(l:Bl):Nat:=12+Xi l*8
def Sw(l:Bl):Nat:=Zdx l+Xh l*Xg l
def Bk(l:Bl):Bool:=Yt ((l.drop (Te l)).take (Zdx l-Te l))&&Yt ((l.drop (Sw l)).take (244-Sw l))
def Qd(l:Bl):Int:=if Vt l then(if Bk l then Ve l (Xh l) else 7) else 7
def NodeP(l:Bl)(w:World)(e:Ending)(w':World):Prop :=
 (Qd l≠0∧e=.returned (.tuple #[.agg #[V0 0,.bool false,S0,S0],V0 (Qd l)])∧B3 w w') ∨
 (Qd l=0∧∃ kp kc vp vc,e=.returned (.tuple #[.agg #[V0 (Xz l),.bool (Yi l),.slice kp (Xh l) kc,.slice vp (Xh l) vc],V0 0])∧B3 w w' ∧
  w'.ownsRow w.heap.size 3 1 (.slice kp (Xh l) kc) (Xh l) ((Ha l (Xh l)).map V0)∧w'.ownsRow w.heap.size 9 1 (.slice vp (Xh l) vc) (Xh l) ((He l (Xh l)).map sv))
theorem Wu{l:Bl}(h:Vt l=true):Xh l≤Xi l:=(of_decide_eq_true h).2.2.1
theorem Cs(a:O0)(n c:Nat)(l:Bl)(w:World)(hn:l.length=n)(hl:n≤100000000)(h:Bys w (.slice a n c) l):C0 185 #[.slice a n c] w (Ret (.bool (Yt l)) w):=by
 subst hn;exact code_Zero a c l w hl h
theorem valN_bys{a:O0}{c i:Nat}{l:Bl}{w:World}(h:Bys w (.slice a 244 c) l)(hl:l.length=244)(hb:12+Xi l*8+(i+1)*Xg l≤244)(hi:(i+1)*Xg l=i*Xg l+Xg l) :
 Bys w (.slice (Qu a (12+Xi l*8+i*Xg l) c 1) (12+Xi l*8+(i+1)*Xg l-(12+Xi l*8+i*Xg l)) (c-(12+Xi l*8+i*Xg l))) (Fq l i):=by
 have:=Bys.cut h hl (12+Xi l*8+i*Xg l) (12+Xi l*8+(i+1)*Xg l) (by omega) hb
 rw[show 12+Xi l*8+(i+1)*Xg l-(12+Xi l*8+i*Xg l)=Xg l by omega] at this ⊢
 exact this
theorem valN_lenN{i:Nat}{l:Bl}(hl:l.length=244)(hb:12+Xi l*8+(i+1)*Xg l≤244)(hi:(i+1)*Xg l=i*Xg l+Xg l):(Fq l i).length=12+Xi l*8+(i+1)*Xg l-(12+Xi l*8+i*Xg l):=by
 unfold Fq;simp only[List.length_take,List.length_drop];omega
def GetP(l:Bl)(k w:Nat)(W:World)(e:Ending)(w':World):Prop :=
 (Zg l k w<9223372036854775808∧e=.returned (.tuple #[V0 (Zg l k w:Int),V0 0])∧B3 W w')∨(¬ Zg l k w<9223372036854775808∧e=.returned (.tuple #[V0 0,V0 2])∧B3 W w')
theorem Get_P(a:O0)(n c k w:Nat)(l:Bl)(W:World)(hn:l.length=n)(hw:w=1∨w=2∨w=4∨w=8)(hk:k+w≤n)(hl:n≤100000000)(h:Bys W (.slice a n c) l)(wi:Int)(hwi:wi=(w:Int)) :
 C0 141 #[.slice a n c,V0 (k:Int),V0 wi] W (GetP l k w W):=by
 subst hn hwi
 by_cases hq:Zg l k w<9223372036854775808
 ·refine(Get_ok a c k w l W hw hk hl h hq).mono ?_
  rintro e V ⟨rfl,hb⟩;exact .inl ⟨hq,rfl,hb⟩
 ·refine(Get_big a c k w l W hw hk hl h hq).mono ?_
  rintro e V ⟨rfl,hb⟩;exact .inr ⟨hq,rfl,hb⟩
theorem node_keyP(l:Bl)(a:O0)(i c:Nat)(w:World)(h:Sl w (.slice a i c) i ((Ha l i).map V0))(hi:i≤1000) :
 C0 254 #[.slice a i c,V0 (↑(Ri l i):Int)] w (fun e w'=>(Be l i=0∧e=.returned (V0 0)∧B3 w w')∨(Be l i≠0∧e=.returned (V0 (Be l i))∧B3 w w')):=by
 refine(node_keyG a i c (Ha l i) (Ri l i) w (Ng l i) h hi).mono ?_
 rintro e W ⟨rfl,hb⟩
 rw[keyE_R]
 by_cases hz:Be l i=0
 ·exact .inl ⟨hz,by rw[hz],hb⟩
 ·exact .inr ⟨hz,rfl,hb⟩
theorem node_Read(a:O0)(c:Nat)(l:Bl)(w:World)(hl:l.length=244)(h:Bys w (.slice a 244 c) l) :
 C0 203 #[.slice a 244 c] w (NodeP l w):=by
 have m7:=Bys.cap h hl
 refine zin 104 Tryz.func203 ?_
 refine xa 2 [V0 0,.bool false,S0,S0] 181 fun b1 W1 n1=>?_
 refine xc 6 (args:=#[.slice a 244 c]) (node_shape a c l _ hl (h.below n1.below)) ?_
 rintro e W2 l6
 rcases l6 with ⟨hs,t0,l0,c0,rfl,g5⟩|⟨hs,rfl,g5⟩
 ·refine xa 4 [V0 0,.bool false,S0,S0] 181 fun b3 W3 n3=>?_
  have k1:=n1.blk.below g5
  have f4:=n3.ne k1
  have e7:=bln n1.below g5
  have g3:=n3.ge e7
  refine xsv 0 n3.blk [V0 t0,.bool l0,S0,S0] fun W4 u4 k4=>?_
  have j3:=u4.blk (k1.below n3.below) (Ne.symm (Ne.symm f4))
  refine xsv 15 j3 [V0 0,.bool false,S0,S0] fun W5 u5 k5=>?_
  have g1:=n1.ge (B4 w)
  have h9:=u5.below (u4.below (bln e7 n3.below) g3) g1
  refine xec 5 k5 (.tuple #[.agg #[V0 0,.bool false,S0,S0],V0 7]) ?_
  have he:Qd l=7:=by unfold Qd;simp[hs]
  exact .inl ⟨by rw[he];decide,by rw[he],h9⟩
 have m5:=Wu hs
 have i1:=fitG (Xz l) (Yi l)
 have i8:=Zgz (Xz l) (Yi l)
 have i7:=Zf4 (Xz l) (Yi l)
 change 12+Xi l*8+Xi l*Xg l≤244 at i1
 change Xi l≤18 at i8
 change Xg l≤24 at i7
 have n2:Xh l*Xg l≤Xi l*Xg l:=Nat.mul_le_mul_right _ m5
 refine xa 4 [V0 0,.bool false,S0,S0] 181 fun b6 W6 n6=>?_
 have k1:=n1.blk.below g5
 have a3:=n6.ne k1
 have e9:=bln n1.below g5
 have g6:=n6.ge e9
 refine xsv 0 n6.blk [V0 (Xz l),.bool (Yi l),S0,S0] fun W7 u7 k7=>?_
 refine xd 15 .z ?_
 have c1:=k7.below (Za W7)
 refine xb (.e [0] 1) 0 c1 ?_
 refine xb (.e [2] 3) 1 c1 ?_
 refine xb (.e [5] 6) 0 c1 ?_
 refine xb (.e [7] 8) 1 c1 ?_
 refine xr (.o [] 4) (args:=#[V0 (Xz l),.bool (Yi l)]) (Lb (Xz l) (Yi l) _) fun W8 g9=>?_
 refine xr (.o [] 9) (args:=#[V0 (Xz l),.bool (Yi l)]) (Zeb (Xz l) (Yi l) _) fun W9 h2=>?_
 refine xwm (.r [10,11] 5) ((↑(Xi l):Int)*8) (↑((Xi l)*8):Int) ?_
 refine xwm 0 (12+(↑((Xi l)*8):Int)) (↑(12+((Xi l)*8)):Int) ?_
 refine xwm 8 ((↑(Xh l):Int)*8) (↑((Xh l)*8):Int) ?_
 refine xwm 0 (12+(↑((Xh l)*8):Int)) (↑(12+((Xh l)*8)):Int) ?_
 refine xsB 1 (fun _ _ _ _ _ zo zx zy zz V=>Yv (k:=(12+((Xh l)*8))) (h:=(12+((Xi l)*8))) (b:=a) (n:=244) (c:=c) (i:=(↑(12+((Xh l)*8)):Int)) (ki:=.i64) (j:=(↑(12+((Xi l)*8)):Int)) (kj:=.i64) 1 zo zx zy rfl zz rfl (by omega) (by omega) Tryz.underlying22 (by kernel_rfl) V) ?_
 have e0:=bln (bln (bln (u7.below (bln e9 n6.below) g6) (Za W7)) g9) h2
 refine xr 0 (args:=#[.slice (Qu a (12+((Xh l)*8)) c 1) ((12+((Xi l)*8))-(12+((Xh l)*8))) (c-(12+((Xh l)*8)))]) (Cs (Qu a (12+((Xh l)*8)) c 1) ((12+((Xi l)*8))-(12+((Xh l)*8))) (c-(12+((Xh l)*8))) _ _ (by simp;omega) (by omega) ((Bys.cut h hl (12+((Xh l)*8)) (12+((Xi l)*8)) (by omega) (by omega)).below e0)) fun n8 b4=>?_
 refine xg 2 [42,43] (!(Yt ((l.drop (Te l)).take (Zdx l-Te l)))) (fun d9=>?_) (fun d9=>?_)
 ·have h4:Yt ((l.drop (Te l)).take (Zdx l-Te l))=false:=by simpa using d9
  have k0:=((((u7.blk (k1.below n6.below) (Ne.symm (Ne.symm a3))).below (Za W7)).below g9).below h2).below b4
  refine xsv 16 k0 [V0 0,.bool false,S0,S0] fun o7 l3 m0=>?_
  have g1:=n1.ge (B4 w)
  have j5:=l3.below (bln e0 b4) g1
  refine xec 5 m0 (.tuple #[.agg #[V0 0,.bool false,S0,S0],V0 7]) ?_
  have he:Qd l=7:=by unfold Qd;simp[hs,Bk,h4]
  exact .inl ⟨by rw[he];decide,by rw[he],j5⟩
 have h4:Yt ((l.drop (Te l)).take (Zdx l-Te l))=true:=by simpa using d9
 refine xwm 4 ((↑(Xh l):Int)*(↑(Xg l):Int)) (↑((Xh l)*(Xg l)):Int) ?_
 refine xwm 0 ((↑(12+((Xi l)*8)):Int)+(↑((Xh l)*(Xg l)):Int)) (↑((12+((Xi l)*8))+((Xh l)*(Xg l))):Int) ?_
 refine xsL 0 (fun _ _ _ _ zo zx zy V=>Xv (k:=((12+((Xi l)*8))+((Xh l)*(Xg l)))) (b:=a) (n:=244) (c:=c) (i:=(↑((12+((Xi l)*8))+((Xh l)*(Xg l))):Int)) (ki:=.i64) 1 zo zx zy rfl (by omega) Tryz.underlying22 (by kernel_rfl) V) ?_
 have e1:=bln e0 b4
 refine xr 0 (args:=#[.slice (Qu a ((12+((Xi l)*8))+((Xh l)*(Xg l))) c 1) (244-((12+((Xi l)*8))+((Xh l)*(Xg l)))) (c-((12+((Xi l)*8))+((Xh l)*(Xg l))))]) (Cs (Qu a ((12+((Xi l)*8))+((Xh l)*(Xg l))) c 1) (244-((12+((Xi l)*8))+((Xh l)*(Xg l)))) (c-((12+((Xi l)*8))+((Xh l)*(Xg l)))) _ _ (by simp;omega) (by omega) ((Bys.cut h hl (12+((Xi l)*8)+((Xh l)*(Xg l))) 244 (by omega) (by omega)).below e1)) fun o0 b7=>?_
 refine xi 4 (!(Yt ((l.drop (Sw l)).take (244-Sw l)))) (fun e4=>?_) (fun e4=>?_)
 ·have j9:Yt ((l.drop (Sw l)).take (244-Sw l))=false:=by simpa using e4
  have j4:=(((((u7.blk (k1.below n6.below) (Ne.symm (Ne.symm a3))).below (Za W7)).below g9).below h2).below b4).below b7
  refine xsv 3 j4 [V0 0,.bool false,S0,S0] fun p8 m3 m2=>?_
  have g1:=n1.ge (B4 w)
  have i3:=m3.below (bln e1 b7) g1
  refine xec 5 m2 (.tuple #[.agg #[V0 0,.bool false,S0,S0],V0 7]) ?_
  have he:Qd l=7:=by unfold Qd;simp[hs,Bk,h4,j9]
  exact .inl ⟨by rw[he];decide,by rw[he],i3⟩
 have j9:Yt ((l.drop (Sw l)).take (244-Sw l))=true:=by simpa using e4
 have h8:Bk l=true:=by unfold Bk;rw[h4,j9];rfl
 have h5:=bln e1 b7
 have h6:=(((((u7.blk (k1.below n6.below) (Ne.symm (Ne.symm a3))).below (Za W7)).below g9).below h2).below b4).below b7
 have j7:=(((c1.below g9).below h2).below b4).below b7
 refine zl 10 104 (fun zm m4 V=>∃ (i:Nat) (kp:O0) (kc:Nat) (vp:O0) (vc:Nat),m4=[(0,.slice a 244 c),(2,P0 b1),(4,P0 b6),(7,V0 (↑(Xg l):Int)),(9,V0 (↑(12+((Xi l)*8)):Int)),(55,V0 (↑(Xh l):Int)),(56,V0 (i:Int))]∧zm=Xh l-((i:Int)).toNat∧B3 w V∧Blk V b1 ([V0 0,.bool false,S0,S0]) 181∧Blk V b6 ([V0 (Xz l),.bool (Yi l),.slice kp i kc,.slice vp i vc]) 181∧V.ownsRow w.heap.size 3 1 (.slice kp i kc) i ((Ha l i).map V0)∧V.ownsRow w.heap.size 9 1 (.slice vp i vc) i ((He l i).map sv)∧i≤Xh l∧Ve l i=0) ⟨0,none,0,none,0,rfl,rfl,h5,h6,j7,World.ownsRow_nil _ _ _ _,World.ownsRow_nil _ _ _ _,Nat.zero_le _,rfl⟩ ?_
 rintro _ _ p2 ⟨i,kp,kc,vp,vc,rfl,rfl,a6,a0,c3,hK,hV,hi,hz⟩ n7 f6 p6
 have k8:(i+1)*Xg l=i*Xg l+Xg l:=Nat.succ_mul i (Xg l)
 have l7:i<Xh l→(i+1)*Xg l≤Xi l*Xg l:=fun hh=>Nat.mul_le_mul_right _ (by omega)
 refine xid 6 ((i:Int)<(↑(Xh l):Int)) (fun i0=>?_) (fun i0=>?_)
 ·refine xwm 14 ((i:Int)*8) (↑(i*8):Int) ?_
  refine xwm 0 (12+(↑(i*8):Int)) (↑(12+(i*8)):Int) ?_
  refine xc 0 (args:=#[.slice a 244 c,V0 (↑(12+(i*8)):Int),V0 8]) (Get_P a 244 c (12+(i*8)) 8 l _ hl (by decide) (by omega) (by decide) (h.below a6) 8 rfl) ?_
  rintro e p3 j1
  rcases j1 with ⟨m1,rfl,a2⟩|⟨m1,rfl,a2⟩
  ·have a7:=c3.below a2
   refine xb 17 2 a7 ?_
   have f5:=Zb hK a2
   refine xc 1 (args:=#[.slice kp i kc,V0 (↑(Ri l i):Int)]) (node_keyP l kp i kc _ (Ze f5) (by omega)) ?_
   rintro e p9 i2
   rcases i2 with ⟨e5,rfl,a4⟩|⟨e5,rfl,a4⟩
   ·have a8:=a7.below a4
    refine xb 16 2 a8 ?_
    refine xbs 1 1 [V0 (↑(Ri l i):Int)] 3 fun p5 p7 c9=>?_
    have f8:=bln (bln a6 a2) a4
    have o8:=c9.ge f8
    have f1:=Zb f5 a4
    have j2:=Zn f1 c9
    have c2:=Zb f1 c9.below
    have d3:=bln f8 c9.below
    refine xbi 0 fun _ _ _ _ zJ zQ zo zx zy zK=>Zr (m:=1) (news:=[V0 (↑(Ri l i):Int)]) (V0 0) 1 8 (i+1) ((Ha l (i+1)).map V0) zo Tryz.underlying34 (by kernel_rfl) rfl (by decide) zx c2 zy (c9.blk.sl 1 1 (by decide) (by decide)) rfl (by simp[Value.oneCell']) (by unfold maxLen;omega) (by omega) d3.size (by rfl) (by rw[Dg,List.map_append];rfl) fun e2 e3 p1 l1 d0 j0=>?_
    refine zK _ _ ?_
    have a1:=(a8.below c9.below).grown d0 c2 (by decide)
    refine xs 1 a1 [V0 (Xz l),.bool (Yi l),.slice e2 (i+1) e3,.slice vp i vc] fun d1 e6 k9=>?_
    refine xd 2 (.t w.heap.size [9,181]) ?_
    refine xwm (.e [0,2,3,4,5] 6) ((i:Int)*(↑(Xg l):Int)) (↑(i*(Xg l)):Int) ?_
    refine xwm (.e [] 7) ((↑(12+((Xi l)*8)):Int)+(↑(i*(Xg l)):Int)) (↑((12+((Xi l)*8))+(i*(Xg l))):Int) ?_
    refine xwm (.e [8,9] 10) ((i:Int)+1) (↑(i+1):Int) ?_
    refine xwm (.e [11] 12) ((↑(i+1):Int)*(↑(Xg l):Int)) (↑((i+1)*(Xg l)):Int) ?_
    refine xwm (.e [] 13) ((↑(12+((Xi l)*8)):Int)+(↑((i+1)*(Xg l)):Int)) (↑((12+((Xi l)*8))+((i+1)*(Xg l))):Int) ?_
    refine xsB (.e [] 14) (fun _ _ _ _ _ zo zx zy zz V=>Yv (k:=((12+((Xi l)*8))+(i*(Xg l)))) (h:=((12+((Xi l)*8))+((i+1)*(Xg l)))) (b:=a) (n:=244) (c:=c) (i:=(↑((12+((Xi l)*8))+(i*(Xg l))):Int)) (ki:=.i64) (j:=(↑((12+((Xi l)*8))+((i+1)*(Xg l))):Int)) (kj:=.i64) 1 zo zx zy rfl zz rfl (by omega) (by omega) Tryz.underlying22 (by kernel_rfl) V) ?_
    have b2:=Zb (e6.own2 (Xj (Zb (Zb (Zb hV a2) a4) c9.below) d0 c2 (by decide)) a1 (by decide)) (Za d1)
    have a5:=bln (e6.below (d3.trans j0) g6) (Za d1)
    refine xcvt (.e [] 15) (.t w.heap.size [9,181]) (fun _ _ _ zo zx V b2=>Yz zo zx ((valN_bys h hl (by omega) k8).below (Wi a5 b2 (Nat.le_refl _))) (valN_lenN hl (by omega) k8) Tryz.underlying22 Tryz.underlying5 Tryz.underlying9) ?_
    refine xm2 0 1 16 ?_ ?_
    ·have d2:=k9.below (Za d1)
     refine xb 0 3 d2 ?_
     refine xbs (.o [] 16) 1 [.string ⟨(Fq l i).toArray⟩] 9 fun o9 o3 d6=>?_
     have n9:=d6.ge a5
     have i4:=Zn b2 d6
     have b8:=Zb b2 d6.below
     have d5:=bln a5 d6.below
     refine ybi (.o [] 17) (.t w.heap.size [9,181]) fun _ _ _ _ zJ zQ zo zx zy zK=>Zr (m:=1) (news:=[.string ⟨(Fq l i).toArray⟩]) (.string ⟨#[]⟩) 1 16 (i+1) ((He l (i+1)).map sv) zo Tryz.underlying89 (by kernel_rfl) rfl (by decide) zx b8 zy (d6.blk.sl 1 1 (by decide) (by decide)) rfl (by simp[Value.oneCell']) (by unfold maxLen;omega) (by omega) d5.size (by rfl) (by rw[Hj,List.map_append];rfl) fun h7 i5 p0 m9 c7 f0=>?_
     refine zK _ _ (Zx f0 c7 b8 (by decide)) ?_
     have a9:=(d2.below d6.below).grown c7 b8 (by decide)
     refine ys (.o [18] 19) a9 [V0 (Xz l),.bool (Yi l),.slice e2 (i+1) e3,.slice h7 (i+1) i5] (.t w.heap.size [9,181]) fun o1 g8 l8=>⟨(Zl g8 a9 g6 (by decide)),?_⟩
     refine xwm 4 ((i:Int)+1) (↑(i+1):Int) ?_
     have f3:=g8.below (d5.trans f0) g6
     have b5:=g8.blk ((((e6.blk ((((a0.below a2).below a4).below c9.below).grown d0 c2 (by decide)) (Ne.symm (Ne.symm a3))).below (Za d1)).below d6.below).grown c7 b8 (by decide)) (Ne.symm (Ne.symm a3))
     have h3:=g8.own2 (Xj (Zb (Zb (e6.own2 l1 a1 (by decide)) (Za d1)) d6.below) c7 b8 (by decide)) a9 (by decide)
     have g0:=g8.own2 m9 a9 (by decide)
     exact ze 2 (f6 _ _ _ ⟨i+1,_,_,_,_,rfl,rfl,f3,b5,l8,h3,g0,by omega,Va hz e5⟩ (by omega))
    refine xbs 0 1 [.string ⟨(Fq l i).toArray⟩] 9 fun n4 o4 d4=>?_
    have n5:=d4.ge a5
    have j8:=Zn b2 d4
    have d8:=(k9.below (Za d1)).below d4.below
    refine xb (.o [] 1) 3 d8 ?_
    have c4:=Zb b2 d4.below
    have d7:=bln a5 d4.below
    refine ybi (.o [] 17) (.t w.heap.size [9,181]) fun _ _ _ _ zJ zQ zo zx zy zK=>Zr (m:=1) (news:=[.string ⟨(Fq l i).toArray⟩]) (.string ⟨#[]⟩) 1 16 (i+1) ((He l (i+1)).map sv) zo Tryz.underlying89 (by kernel_rfl) rfl (by decide) zx c4 zy (d4.blk.sl 1 1 (by decide) (by decide)) rfl (by simp[Value.oneCell']) (by unfold maxLen;omega) (by omega) d7.size (by rfl) (by rw[Hj,List.map_append];rfl) fun k2 i6 p4 l5 c8 g7=>?_
    refine zK _ _ (Zx g7 c8 c4 (by decide)) ?_
    have b0:=d8.grown c8 c4 (by decide)
    refine ys (.o [18] 19) b0 [V0 (Xz l),.bool (Yi l),.slice e2 (i+1) e3,.slice k2 (i+1) i6] (.t w.heap.size [9,181]) fun q0 g2 l4=>⟨(Zl g2 b0 g6 (by decide)),?_⟩
    refine xwm 4 ((i:Int)+1) (↑(i+1):Int) ?_
    have e8:=g2.below (d7.trans g7) g6
    have c6:=g2.blk ((((e6.blk ((((a0.below a2).below a4).below c9.below).grown d0 c2 (by decide)) (Ne.symm (Ne.symm a3))).below (Za d1)).below d4.below).grown c8 c4 (by decide)) (Ne.symm (Ne.symm a3))
    have h0:=g2.own2 (Xj (Zb (Zb (e6.own2 l1 a1 (by decide)) (Za d1)) d4.below) c8 c4 (by decide)) b0 (by decide)
    have h1:=g2.own2 l5 b0 (by decide)
    exact ze 2 (f6 _ _ _ ⟨i+1,_,_,_,_,rfl,rfl,e8,c6,l4,h0,h1,by omega,Va hz e5⟩ (by omega))
   refine xk 10 (show(((Be l i) != (0:Int)):Bool)=true from bne_iff_ne.2 e5) ?_
   have c5:=(a0.below a2).below a4
   refine xsv 4 c5 [V0 0,.bool false,S0,S0] fun o6 m8 l9=>?_
   have g1:=n1.ge (B4 w)
   have f7:=m8.below (bln (bln a6 a2) a4) g1
   refine xec 10 l9 (.tuple #[.agg #[V0 0,.bool false,S0,S0],V0 (Be l i)]) ?_
   have he:Qd l=Be l i:=by unfold Qd;rw[if_pos hs,if_pos h8,Ui hz e5 (by omega)]
   exact .inl ⟨by rw[he];exact e5,by rw[he],f7⟩
  have b9:=a0.below a2
  refine xsv 29 b9 [V0 0,.bool false,S0,S0] fun o5 l2 m6=>?_
  have g1:=n1.ge (B4 w)
  have f2:=l2.below (bln a6 a2) g1
  refine xec 10 m6 (.tuple #[.agg #[V0 0,.bool false,S0,S0],V0 2]) ?_
  have k6:Be l i=2:=by unfold Be;rw[if_pos (by unfold Ri;omega)]
  have he:Qd l=2:=by unfold Qd;rw[if_pos hs,if_pos h8,Ui hz (by rw[k6];decide) (by omega),k6]
  exact .inl ⟨by rw[he];decide,by rw[he],f2⟩
 refine xlv 7 c3.rp ?_
 refine xsv 0 a0 [V0 (Xz l),.bool (Yi l),.slice kp i kc,.slice vp i vc] fun o2 j6 n0=>?_
 have g1:=n1.ge (B4 w)
 have f9:=j6.below a6 g1
 have i9:=j6.own2 hK a0 (by decide)
 have k3:=j6.own2 hV a0 (by decide)
 refine xec 4 n0 (.tuple #[.agg #[V0 (Xz l),.bool (Yi l),.slice kp i kc,.slice vp i vc],V0 0]) ?_
 obtain rfl:i=Xh l:=by omega
 exact .inr ⟨by unfold Qd;rw[if_pos hs,if_pos h8,hz],_,_,_,_,rfl,f9,i9,k3⟩
theorem Kq{P:Program}{a:Act}{w:World}{K:Act→World→Prop}{Q:Exit→Act→World→Prop}{o:Oper}{src dst e:TypeId}{x:Operand}(l:Bl)(ho:o.op=.convert src dst x)(hx:a.eval x=.string ⟨l.toArray⟩)
 (hs:P.underlying src=some .string) (hd:P.underlying dst=some (.slice e)) (he:P.underlying e=some (.int .u8)) (hl:l.length≤1000000)
 (k:∀ b c W,B3 w W→Bys W (.slice (S1 b) l.length c) l→K (a.put o.dst (.slice (S1 b) l.length c)) W):o.wp P a w K Q:=by
 have hr:=run_bytes_of_string (P:=P) w src dst e ⟨l.toArray⟩ hs hd he
 have a2:(⟨l.toArray⟩:ByteArray).size=l.length:=by simp[ByteArray.size]
 rw[a2] at hr
 obtain⟨W1,a1⟩:∃ W1,W1=w.drew.alloc (.cells (bytesRow ⟨l.toArray⟩ (grownCap w l.length 0 e)) e ((bytesRow ⟨l.toArray⟩ (grownCap w l.length 0 e)).size,(bytesRow ⟨l.toArray⟩ (grownCap w l.length 0 e)).size+1)):=⟨_,rfl⟩
 rw[←a1] at hr
 have h2:(execOp a.eval o).run P w=.ok (.value (.slice (some ⟨w.heap.size,0,none⟩) l.length (grownCap w l.length 0 e))) W1:=by
  simp only[execOp,ho,hx,Sem.run_bind,hr];rfl
 refine Gk h2 (k _ _ _ (by rw[a1];exact(Za w).trans (show Below w.drew.heap.size w.drew _ from blx w.drew _)) (.inr ⟨w.heap.size,0,_,rfl,grownCap_ge w l.length 0 e,grownCap_le_maxLen w l.length 0 e (by unfold maxLen;omega),fun j y hj=>?_⟩))
 have a0:j<l.length:=by have:=(List.getElem?_eq_some_iff.1 hj).1;simpa using this
 have hb:=bytesRow_at ⟨l.toArray⟩ (grownCap w l.length 0 e) j (by simpa using a0)
 have hy:y=.int .u8 ((l.toArray[j]'(by simpa using a0)).toNat:Int):=by
  rw[List.getElem?_map,List.getElem?_eq_getElem a0] at hj
  simp only[Option.map_some,Option.some.injEq] at hj
  rw[←hj];rfl
 have hh:W1.heap[w.heap.size]? = some (.cells (bytesRow ⟨l.toArray⟩ (grownCap w l.length 0 e)) e ((bytesRow ⟨l.toArray⟩ (grownCap w l.length 0 e)).size,(bytesRow ⟨l.toArray⟩ (grownCap w l.length 0 e)).size+1)):=by rw[a1];exact heap_alloc_new w.drew _
 rw[hy]
 simp[World.cell?,hh,hb]
def Kv(s:Bl):Int:=if s.length=4 then(if 1≤Zg s 0 4∧Zg s 0 4≤14399 then 0 else 2) else 7
def Ji(s:Bl):Nat:=if Kv s=0 then Zg s 0 4 else 0
theorem loop_len(bs:ByteArray)(i:Nat)(r:Bl)(h:i≤bs.size):(ByteArray.toList.loop bs i r).length=r.length+(bs.size-i):=by
 rw[ByteArray.toList.loop]
 split
 ·rename_i h2
  rw[loop_len bs (i+1) _ (by omega)]
  simp;omega
 ·simp;omega
termination_by bs.size-i
theorem Ov(bs:ByteArray):bs.toList.length=bs.size:=by
 unfold ByteArray.toList;rw[loop_len _ _ _ (Nat.zero_le _)];simp
theorem four_ne(n:Int):((⟨(leB n 4).toArray⟩:ByteArray).toList==(⟨#[]⟩:ByteArray).toList)=false:=by
 cases hq:((⟨(leB n 4).toArray⟩:ByteArray).toList==(⟨#[]⟩:ByteArray).toList) with
 | false=>rfl
 | true =>
  have e:=congrArg List.length (eq_of_beq hq)
  rw[Ov,Ov] at e
  simp[ByteArray.size,Zi] at e
theorem Zff(w:World) :
 C0 214 #[] w (Qe (fun w' r=>∃ b,r=.slice (S1 b) 1 1∧w.heap.size≤b∧Blk w' b [V0 4,V0 1,V0 14399] 312) w):=by
 refine zin 3 Tryz.func214 ?_
 refine xbs 8 1 [V0 4,V0 1,V0 14399] 312 fun b1 W1 n1=>?_
 have g1:=n1.ge (B4 w)
 exact xe 4 (.slice (S1 b1) 1 1) ⟨_,rfl,n1.below,_,rfl,g1,n1.blk⟩
theorem value_putR(gl:Nat)(an:O0)(cn:Nat)(n:Int)(w:World)(hl:Blk w gl [V0 4,V0 1,V0 14399] 312)(hn:Sl w (.slice an 1 cn) 1 [V0 n])(h1:1≤n)(h2:n≤14399) :
 C0 181 #[.slice (S1 gl) 1 1,.slice an 1 cn] w (Ret (.string ⟨(leB n 4).toArray⟩) w):=by
 have b2:=h1
 have b5:=h2
 clear h2
 refine zin 51 Tryz.func181 ?_
 refine xu 19 2 ?_
 refine xlv 15 hl.rp ?_
 refine xa 0 [V0 0,V0 0,V0 0] 312 fun b1 W1 n1=>?_
 have a6:=n1.ne hl
 refine xsv 1 n1.blk [V0 4,V0 1,V0 14399] fun W2 u2 k2=>?_
 have g1:=n1.ge (B4 w)
 refine xd 4 .z ?_
 refine xx (.e [0,1] 2) _ 1 0 1 (Ints.elem (l:=[n]) hn (k:=0) (by simp)).1 ?_
 have hB:=bln (u2.below n1.below g1) (Za W2)
 refine xl (.e [] 3) ((Ints.elem (l:=[n]) (hn.below hB) (k:=0) (by simp)).2) ?_
 have a1:=k2.below (Za W2)
 refine xb (.e [4] 5) 1 a1 ?_
 refine xgk (.b [6,7]) [23,24] (show(decide (n<(1:Int)):Bool)=false from decide_eq_false (by omega)) ?_
 refine xx (.e [8,9] 10) _ 1 0 1 (Ints.elem (l:=[n]) hn (k:=0) (by simp)).1 ?_
 refine xl (.e [] 11) ((Ints.elem (l:=[n]) (hn.below hB) (k:=0) (by simp)).2) ?_
 refine xb (.e [12] 13) 2 a1 ?_
 refine xk (.r [14,15] 2) (show(decide (n>(14399:Int)):Bool)=false from decide_eq_false (by omega)) ?_
 refine xd 3 .z ?_
 have a3:=a1.below (Za W2.drew)
 refine xb (.e [0] 1) 0 a3 ?_
 refine xx (.e [2,3] 4) _ 1 0 1 (Ints.elem (l:=[n]) hn (k:=0) (by simp)).1 ?_
 have a0:=bln hB (Za W2.drew)
 refine xl (.e [] 5) ((Ints.elem (l:=[n]) (hn.below a0) (k:=0) (by simp)).2) ?_
 refine xbs (.o [6] 7) 1 [V0 4,V0 n] 292 fun b4 W4 n4=>?_
 have g4:=n4.ge a0
 refine yc (.o [] 8) (args:=#[.slice (S1 b4) 1 1]) .z (Ep b4 n (by omega) (by omega) _ n4.blk) ?_
 rintro _ W5 ⟨_,rfl,a7,p2,c2,rfl,h2⟩
 have a9:=(bln a0 n4.below).size
 refine⟨a7,?_⟩
 have o6:=World.ownsRow_nil W5 w.heap.size 5 1
 have a5:=Zd h2 a9
 have a2:=bln (bln a0 n4.below) a7
 refine xbi (.r [9,10,11,12,13] 5) fun _ _ _ _ zJ zQ zo zx zy zK=>Zr (m:=4) (news:=(leB n 4).map bv) (.int .u8 0) 1 1 (4) ((leB n 4).map bv) zo Tryz.underlying22 (by kernel_rfl) rfl (by decide) zx o6 zy (Ze a5) (by simp[Zi]) (Qk _) (by unfold maxLen;omega) (by omega) a2.size (by rfl) (by simp) fun b3 b0 W7 o7 b6 a8=>?_
 refine zK _ _ ?_
 refine xcv0 24 (fun _ _ _ zo zx=>Yz zo zx (Yk (Ze o7) (Zi _ _)) (Zi _ _) Tryz.underlying22 Tryz.underlying5 Tryz.underlying9) ?_
 have a4:=a2.trans a8
 exact xe 4 (.string ⟨(leB n 4).toArray⟩) ⟨rfl,a4⟩
theorem value_putX(gl:Nat)(an:O0)(cn:Nat)(n:Int)(w:World)(hl:Blk w gl [V0 4,V0 1,V0 14399] 312)(hn:Sl w (.slice an 1 cn) 1 [V0 n])(h:¬ (1≤n∧n≤14399)) :
 C0 181 #[.slice (S1 gl) 1 1,.slice an 1 cn] w (Ret (.string ⟨#[]⟩) w):=by
 refine zin 51 Tryz.func181 ?_
 refine xu 19 2 ?_
 refine xlv 15 hl.rp ?_
 refine xa 0 [V0 0,V0 0,V0 0] 312 fun b1 W1 n1=>?_
 have a2:=n1.ne hl
 refine xsv 1 n1.blk [V0 4,V0 1,V0 14399] fun W2 u2 k2=>?_
 have g1:=n1.ge (B4 w)
 refine xd 4 .z ?_
 refine xx (.e [0,1] 2) _ 1 0 1 (Ints.elem (l:=[n]) hn (k:=0) (by simp)).1 ?_
 have hB:=bln (u2.below n1.below g1) (Za W2)
 refine xl (.e [] 3) ((Ints.elem (l:=[n]) (hn.below hB) (k:=0) (by simp)).2) ?_
 have a1:=k2.below (Za W2)
 refine xb (.e [4] 5) 1 a1 ?_
 refine xg (.b [6,7]) [23,24] (decide (n<(1:Int))) (fun a0=>?_) (fun a0=>?_)
 ·have a0:=of_decide_eq_true a0
  exact xe (.r [8,9,10,11,12,13,14,15] 15) (.string ⟨#[]⟩) ⟨rfl,hB⟩
 have a0:=of_decide_eq_false a0
 refine xx (.e [8,9] 10) _ 1 0 1 (Ints.elem (l:=[n]) hn (k:=0) (by simp)).1 ?_
 refine xl (.e [] 11) ((Ints.elem (l:=[n]) (hn.below hB) (k:=0) (by simp)).2) ?_
 refine xb (.e [12] 13) 2 a1 ?_
 refine xk (.r [14,15] 2) (show(decide (n>(14399:Int)):Bool)=true from decide_eq_true (by omega)) ?_
 exact xe 12 (.string ⟨#[]⟩) ⟨rfl,hB⟩
theorem Ic(gl:Nat)(s:Bl)(w:World)(hl:Blk w gl [V0 4,V0 1,V0 14399] 312)(hs:s.length≤1000)(h4:s.length≠4) :
 C0 111 #[.slice (S1 gl) 1 1,.string ⟨s.toArray⟩] w (Qe (fun w' r=>∃ p c,r=.tuple #[.slice p 1 c,V0 7]∧w'.ownsRow w.heap.size 3 1 (.slice p 1 c) 1 [V0 0]) w):=by
 refine zin 54 Tryz.func111 ?_
 refine xu 25 2 ?_
 refine xlv 14 hl.rp ?_
 refine xa 0 [V0 0,V0 0,V0 0] 312 fun b1 W1 n1=>?_
 have a3:=n1.ne hl
 refine xsv 0 n1.blk [V0 4,V0 1,V0 14399] fun W2 u2 k2=>?_
 have g1:=n1.ge (B4 w)
 refine xb 6 0 k2 ?_
 refine xbs 0 1 [V0 4] 3 fun b3 W3 n3=>?_
 have o4:=World.ownsRow_nil W3 w.heap.size 3 1
 have hB:=bln (u2.below n1.below g1) n3.below
 refine xbi 0 fun _ _ _ _ zJ zQ zo zx zy zK=>Zr (m:=1) (news:=[V0 4]) (V0 0) 1 8 (1) ([Value.int .i64 4]) zo Tryz.underlying34 (by kernel_rfl) rfl (by decide) zx o4 zy (n3.blk.sl 1 1 (by decide) (by decide)) rfl (by simp[Value.oneCell']) (by unfold maxLen;omega) (by omega) hB.size (by rfl) (by rfl) fun a7 a8 W5 o5 a5 a6=>?_
 refine zK _ _ ?_
 have a2:=(k2.below n3.below).grown a5 o4 (by decide)
 refine xb 6 0 a2 ?_
 refine xk 31 (show(((s.length:Int) != (4:Int)):Bool)=true from bne_iff_ne.2 (by omega)) ?_
 refine xmk 4 fun _ _ _ _ zJ zQ zo zx zy zK=>Kf 1 (V0 0) 1 8 [Value.int .i64 0] zo zx zy Tryz.underlying34 (by kernel_rfl) rfl (by omega) (by omega) (rfl) fun b6 W6 n6=>?_
 have a0:=hB.trans a6
 have g6:=n6.ge a0
 have a4:=Zn o5 n6
 refine zK _ _ ?_
 have a1:=bln a0 n6.below
 have o6:=Xb (size:=1) (n:=1) n6.blk g6 (rfl) (by unfold maxLen;omega)
 exact xe 6 (.tuple #[.slice (S1 b6) 1 1,V0 7]) ⟨_,rfl,a1,_,_,rfl,o6⟩
theorem Zaz(gl:Nat)(s:Bl)(w:World)(hl:Blk w gl [V0 4,V0 1,V0 14399] 312)(hs:s.length≤1000)(h4:s.length=4)(h1:1≤Zg s 0 4)(h2:Zg s 0 4≤14399) :
 C0 111 #[.slice (S1 gl) 1 1,.string ⟨s.toArray⟩] w (Qe (fun w' r=>∃ p c,r=.tuple #[.slice p 1 c,V0 0]∧w'.ownsRow w.heap.size 3 1 (.slice p 1 c) 1 [V0 (↑(Zg s 0 4):Int)]) w):=by
 refine zin 54 Tryz.func111 ?_
 refine xu 25 2 ?_
 refine xlv 14 hl.rp ?_
 refine xa 0 [V0 0,V0 0,V0 0] 312 fun b1 W1 n1=>?_
 have a0:=n1.ne hl
 refine xsv 0 n1.blk [V0 4,V0 1,V0 14399] fun W2 u2 k2=>?_
 have g1:=n1.ge (B4 w)
 refine xb 6 0 k2 ?_
 refine xbs 0 1 [V0 4] 3 fun b3 W3 n3=>?_
 have o4:=World.ownsRow_nil W3 w.heap.size 3 1
 have hB:=bln (u2.below n1.below g1) n3.below
 refine xbi 0 fun _ _ _ _ zJ zQ zo zx zy zK=>Zr (m:=1) (news:=[V0 4]) (V0 0) 1 8 (1) ([Value.int .i64 4]) zo Tryz.underlying34 (by kernel_rfl) rfl (by decide) zx o4 zy (n3.blk.sl 1 1 (by decide) (by decide)) rfl (by simp[Value.oneCell']) (by unfold maxLen;omega) (by omega) hB.size (by rfl) (by rfl) fun b2 b5 W5 o5 b0 b4=>?_
 refine zK _ _ ?_
 have a5:=(k2.below n3.below).grown b0 o4 (by decide)
 refine xb 6 0 a5 ?_
 refine xk 31 (show(((s.length:Int) != (4:Int)):Bool)=false from by rw[h4];rfl) ?_
 refine xcf 5 fun _ _ _ zJ zQ zo zx zK=>Kq s zo zx Tryz.underlying9 Tryz.underlying22 Tryz.underlying5 (by omega) ?_
 intro bz cz W6 a2 b6
 refine zK _ _ ?_
 have a7:=Zb o5 a2
 refine xc 1 (args:=#[.slice (S1 bz) s.length cz,.slice b2 1 b5]) (Dj (S1 bz) s.length cz s b2 b5 1 [4] [Zg s 0 4] _ rfl rfl rfl (by decide) (by simp;omega) (by omega) (by decide) b6 (Ze a7) (fun i hi=>by obtain rfl:i=0:=(by simpa using hi);have:=Yn s 0 4 (by decide);simp[Je];omega)) ?_
 rintro _ W7 ⟨_,rfl,a8,p5,c5,rfl,h5⟩
 have b7:=(bln (hB.trans b4) a2).size
 have a4:=((((u2.blk (hl.below n1.below) (Ne.symm (Ne.symm a0))).below n3.below).grown b0 o4 (by decide)).below a2).below a8
 have a1:=Zd h5 b7
 refine xr 15 (args:=#[.slice (S1 gl) 1 1,.slice p5 1 c5]) (value_putR gl p5 c5 (↑(Zg s 0 4):Int) _ a4 (Ze a1) (by omega) (by omega)) fun W8 a9=>?_
 refine xk 4 (show(((⟨(leB (↑(Zg s 0 4):Int) 4).toArray⟩:ByteArray).toList==(⟨#[]⟩:ByteArray).toList):Bool)=false from four_ne _) ?_
 have a6:=bln (bln (bln (hB.trans b4) a2) a8) a9
 have a3:=Zb a1 a9
 exact xe 10 (.tuple #[.slice p5 1 c5,V0 0]) ⟨_,rfl,a6,_,_,rfl,a3⟩
theorem Av(gl:Nat)(s:Bl)(w:World)(hl:Blk w gl [V0 4,V0 1,V0 14399] 312)(hs:s.length≤1000)(h4:s.length=4)(h1:¬ (1≤(Zg s 0 4:Int)∧(Zg s 0 4:Int)≤14399)) :
 C0 111 #[.slice (S1 gl) 1 1,.string ⟨s.toArray⟩] w (Qe (fun w' r=>∃ p c,r=.tuple #[.slice p 1 c,V0 2]∧w'.ownsRow w.heap.size 3 1 (.slice p 1 c) 1 [V0 0]) w):=by
 refine zin 54 Tryz.func111 ?_
 refine xu 25 2 ?_
 refine xlv 14 hl.rp ?_
 refine xa 0 [V0 0,V0 0,V0 0] 312 fun b1 W1 n1=>?_
 have a3:=n1.ne hl
 refine xsv 0 n1.blk [V0 4,V0 1,V0 14399] fun W2 u2 k2=>?_
 have g1:=n1.ge (B4 w)
 refine xb 6 0 k2 ?_
 refine xbs 0 1 [V0 4] 3 fun b3 W3 n3=>?_
 have o4:=World.ownsRow_nil W3 w.heap.size 3 1
 have hB:=bln (u2.below n1.below g1) n3.below
 refine xbi 0 fun _ _ _ _ zJ zQ zo zx zy zK=>Zr (m:=1) (news:=[V0 4]) (V0 0) 1 8 (1) ([Value.int .i64 4]) zo Tryz.underlying34 (by kernel_rfl) rfl (by decide) zx o4 zy (n3.blk.sl 1 1 (by decide) (by decide)) rfl (by simp[Value.oneCell']) (by unfold maxLen;omega) (by omega) hB.size (by rfl) (by rfl) fun b8 b5 W5 o5 b4 c0=>?_
 refine zK _ _ ?_
 have a5:=(k2.below n3.below).grown b4 o4 (by decide)
 refine xb 6 0 a5 ?_
 refine xk 31 (show(((s.length:Int) != (4:Int)):Bool)=false from by rw[h4];rfl) ?_
 refine xcf 5 fun _ _ _ zJ zQ zo zx zK=>Kq s zo zx Tryz.underlying9 Tryz.underlying22 Tryz.underlying5 (by omega) ?_
 intro bz cz W6 a4 c2
 refine zK _ _ ?_
 have a1:=Zb o5 a4
 refine xc 1 (args:=#[.slice (S1 bz) s.length cz,.slice b8 1 b5]) (Dj (S1 bz) s.length cz s b8 b5 1 [4] [Zg s 0 4] _ rfl rfl rfl (by decide) (by simp;omega) (by omega) (by decide) c2 (Ze a1) (fun i hi=>by obtain rfl:i=0:=(by simpa using hi);have:=Yn s 0 4 (by decide);simp[Je];omega)) ?_
 rintro _ W7 ⟨_,rfl,a7,p5,c5,rfl,h5⟩
 have c1:=(bln (hB.trans c0) a4).size
 have b2:=((((u2.blk (hl.below n1.below) (Ne.symm (Ne.symm a3))).below n3.below).grown b4 o4 (by decide)).below a4).below a7
 have a2:=Zd h5 c1
 refine xr 15 (args:=#[.slice (S1 gl) 1 1,.slice p5 1 c5]) (value_putX gl p5 c5 (↑(Zg s 0 4):Int) _ b2 (Ze a2) (by omega)) fun W8 a8=>?_
 refine xmk 9 fun _ _ _ _ zJ zQ zo zx zy zK=>Kf 1 (V0 0) 1 8 [Value.int .i64 0] zo zx zy Tryz.underlying34 (by kernel_rfl) rfl (by omega) (by omega) (rfl) fun b9 W9 n9=>?_
 have a0:=bln (bln (bln (hB.trans c0) a4) a7) a8
 have g9:=n9.ge a0
 have a6:=Zb (Zb a1 a7) a8
 have b6:=Zn a6 n9
 have b0:=Zb a2 a8
 have b7:=Zn b0 n9
 refine zK _ _ ?_
 have a9:=bln a0 n9.below
 have o9:=Xb (size:=1) (n:=1) n9.blk g9 (rfl) (by unfold maxLen;omega)
 exact xe 6 (.tuple #[.slice (S1 b9) 1 1,V0 2]) ⟨_,rfl,a9,_,_,rfl,o9⟩
theorem Zfe(gl:Nat)(s:Bl)(w:World)(hl:Blk w gl [V0 4,V0 1,V0 14399] 312)(hs:s.length≤1000):C0 111 #[.slice (S1 gl) 1 1,.string ⟨s.toArray⟩] w (Qe (fun w' r=>∃ p c,r=.tuple #[.slice p 1 c,V0 (Kv s)]∧w'.ownsRow w.heap.size 3 1 (.slice p 1 c) 1 [V0 (Ji s:Int)]) w):=by
 by_cases h4:s.length=4
 ·by_cases h1:1≤Zg s 0 4∧Zg s 0 4≤14399
  ·have he:Kv s=0:=by unfold Kv;rw[if_pos h4,if_pos h1]
   rw[he,Ji,if_pos he]
   exact Zaz gl s w hl hs h4 h1.1 h1.2
  ·have he:Kv s=2:=by unfold Kv;rw[if_pos h4,if_neg h1]
   rw[he,Ji,if_neg (by rw[he];decide)]
   exact Av gl s w hl hs h4 (by omega)
 ·have he:Kv s=7:=by unfold Kv;rw[if_neg h4]
  rw[he,Ji,if_neg (by rw[he];decide)]
  exact Ic gl s w hl hs h4
theorem Mv(s:Bl)(w:World)(hs:s.length≤1000) :
 C0 176 #[.string ⟨s.toArray⟩] w (Ret (.tuple #[V0 (Ji s:Int),V0 (Kv s)]) w):=by
 refine zin 16 Tryz.func176 ?_
 refine xc 8 (args:=#[]) (Zff _) ?_
 rintro _ W1 ⟨_,rfl,a1,gl,rfl,gg,kl⟩
 refine xc 1 (args:=#[.slice (S1 gl) 1 1,.string ⟨s.toArray⟩]) (Zfe gl s _ kl hs) ?_
 rintro _ W2 ⟨_,rfl,a2,p5,c5,rfl,h5⟩
 have a0:=Zd h5 a1.size
 refine xx 10 _ 1 0 1 (Ints.elem (l:=[(Ji s:Int)]) (Ze a0) (k:=0) (by simp)).1 ?_
 refine xl 0 ((Ints.elem (l:=[(Ji s:Int)]) (Ze a0) (k:=0) (by simp)).2) ?_
 have hB:=bln a1 a2
 exact xe 6 (.tuple #[V0 (↑(Ji s):Int),V0 (Kv s)]) ⟨rfl,hB⟩
end Go.Proofs.YtceeiinepijokaaGreatDoor
