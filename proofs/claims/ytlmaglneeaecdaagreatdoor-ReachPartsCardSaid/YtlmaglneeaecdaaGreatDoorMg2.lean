/- Package alloc at an image of its own: New, Next, Lay, Left, Used. -/
import Derived.Lib.AppendZerosOnto
import Derived.Lib.BufferWrite
import Derived.Lib.AppendStr
import Derived.Laws.IdiomStrings
import Derived.Test.YtlmaglneeaecdaaGreatDoorMg1
namespace Go.Proofs.YtlmaglneeaecdaaGreatDoor
set_option maxHeartbeats 8000000
set_option maxRecDepth 100000
open Go.RowKit Go.Extern.Stop Go.Stop Go.Extern
set_option linter.unusedVariables false
attribute [local irreducible] wpList wpAnyH Code.wp Oper.wp Go
def Fn(f j:Nat):List Int:=(List.range j).map fun i=>((f+i:Nat):Int)
theorem rngJ_succ(f j:Nat):Fn f (j+1)=Fn f j++[((f+j:Nat):Int)]:=by simp[Fn,List.range_succ]
theorem Zb1{f N k:Nat}(h:k<N):(Fn f N).getD k 0=((f+k:Nat):Int):=by simp[Fn,List.getD,List.getElem?_range h]
theorem Zbn(f j:Nat):(Fn f j).length=j:=by simp[Fn]
structure Al(B ba b g n c:Nat)(pa:Option Addr)(ca f N k:Nat)(l:List UInt8)(w:World):Prop where
 blkA:Blk w ba [.slice pa N ca,.int .i64 (k:Int),.pointer (some ⟨b,0,none⟩)] 153
 blkI:Blk w b [.slice (some ⟨g,0,none⟩) n c] 103
 data:w.ownsRow B 5 1 (.slice (some ⟨g,0,none⟩) n c) n (l.map bv)
 nums:w.ownsRow B 3 1 (.slice pa N ca) N ((Fn f N).map (Value.int .i64))
structure AlC(B ba n c ca f N:Nat):Prop where
 hn:n≤3686400
 hc:n≤c
 hca:N≤ca
 hf:f+N≤n/256
 hB:B≤ba
theorem alloc_New(b:Nat)(p0:Option Addr)(n c f:Nat)(w:World)(hk:Blk w b [.slice p0 n c] 103)(hn:n≤3686400)(h1:1≤f)(h2:f≤n/256) :
 Calls Tryz.prog 24 #[.pointer (some ⟨b,0,none⟩),.int .i64 (↑f:Int)] w (Yz (fun w' r=>∃ ba p c2,r=.tuple #[.pointer (some ⟨ba,0,none⟩),.nilIface]∧w.heap.size≤ba∧Blk w' ba [.slice p (n/256-f) c2,.int .i64 0,.pointer (some ⟨b,0,none⟩)] 153∧w'.ownsRow w.heap.size 3 1 (.slice p (n/256-f) c2) (n/256-f) ((Fn f (n/256-f)).map (Value.int .i64))) w):=by
 refine zin 37 Tryz.func24 ?_
 refine xgk 16 [12,13,14] (show(decide ((↑f:Int)<(1:Int)):Bool)=false from decide_eq_false (by omega)) ?_
 refine xr 2 (args:=#[.pointer (some ⟨b,0,none⟩)]) (Ka b p0 n c _ hk (by omega)) fun W2 hb2=>?_
 refine xk 4 (show(decide ((↑f:Int)>(↑(n/256):Int)):Bool)=false from decide_eq_false (by omega)) ?_
 have hk'1:=hk.below hb2
 refine zl 15 37 (fun zm zkv V=>∃ (j:Nat) (p:Option Addr) (c2:Nat),zkv=[(0,.pointer (some ⟨b,0,none⟩)),(4,.pointer none),(5,.nilIface),(6,.slice p j c2),(7,.int .i64 (↑(f+j):Int))]∧zm=n/256-((↑(f+j):Int)).toNat∧Below w.heap.size w V∧Blk V b ([.slice p0 n c]) 103∧V.ownsRow w.heap.size 3 1 (.slice p j c2) j ((Fn f j).map (Value.int .i64))∧f+j≤n/256) ⟨0,_,_,rfl,rfl,hb2,hk'1,World.ownsRow_nil _ _ _ _,by omega⟩ ?_
 rintro _ _ W3 ⟨j,p,c2,rfl,rfl,hB_3,k3_b,ho,hj⟩ J3 hJ3 r3
 refine xr 5 (args:=#[.pointer (some ⟨b,0,none⟩)]) (Ka b p0 n c _ k3_b (by omega)) fun W4 hb4=>?_
 refine xid 3 ((↑(f+j):Int)<(↑(n/256):Int)) (fun hc5=>?_) (fun hc5=>?_)
 ·refine xbs 7 1 [.int .i64 (↑(f+j):Int)] 3 fun b6 W6 n6=>?_
  have hB'1:=bln hB_3 hb4
  have g6:=n6.ge hB'1
  have ho'1:=Zb ho hb4
  have r6_ho:=Zr ho'1 n6
  have ho'2:=Zb ho'1 n6.below
  have hB'2:=bln hB'1 n6.below
  refine xbi 0 fun _ _ _ _ zJ zQ zo zx zy zK=>Zo (m:=1) (news:=[.int .i64 (↑(f+j):Int)]) (.int .i64 0) 1 8 (j+1) ((Fn f (j+1)).map (Value.int .i64)) zo Tryz.underlying31 (by kernel_rfl) rfl (by decide) zx ho'2 zy (n6.blk.sl 1 1 (by decide) (by decide)) rfl (by simp[Value.oneCell']) (by unfold maxLen;omega) (by omega) hB'2.size (by rfl) (by rw[rngJ_succ];simp) fun px7 cx7 W7 o7 hg7 hb7=>?_
  refine zK _ _ ?_
  refine xwm 6 ((↑(f+j):Int)+1) (↑((f+j)+1):Int) ?_
  have hB'3:=hB'2.trans hb7
  have k3_b'1:=((k3_b.below hb4).below n6.below).grown hg7 ho'2 (by decide)
  exact ze 2 (hJ3 _ _ _ ⟨j+1,_,_,rfl,rfl,hB'3,k3_b'1,o7,by omega⟩ (by omega))
 refine xa 11 [.slice p j c2,.int .i64 0,.pointer (some ⟨b,0,none⟩)] 153 fun b8 W8 n8=>?_
 have hB'4:=bln hB_3 hb4
 have g8:=n8.ge hB'4
 have hB'5:=bln hB'4 n8.below
 have ho'3:=Zb (Zb ho hb4) n8.below
 refine xe 5 (.tuple #[.pointer (some ⟨b8,0,none⟩),.nilIface]) ?_
 obtain rfl:j=n/256-f:=by omega
 exact⟨_,rfl,hB'5,_,_,_,rfl,g8,n8.blk,ho'3⟩
theorem Jj(ba b:Nat)(v x:Value)(w:World)(hk:Blk w ba [v,x,.pointer (some ⟨b,0,none⟩)] 153) :
 Calls Tryz.prog 63 #[.pointer (some ⟨ba,0,none⟩)] w (Ret (.bool false) w):=by
 refine zin 12 Tryz.func63 ?_
 refine xb 13 2 hk ?_
 exact xe 6 (.bool false) ⟨rfl,(Below.refl w.heap.size _)⟩
theorem Fh(ba:Nat)(p:Option Addr)(N c k:Nat)(m:Value)(w:World)(hk:Blk w ba [.slice p N c,.int .i64 (k:Int),m] 153)(h1:k≤N) :
 Calls Tryz.prog 105 #[.pointer (some ⟨ba,0,none⟩)] w (Ret (.slice (Qy p k c 1) (N-k) (c-k)) w):=by
 refine zin 12 Tryz.func105 ?_
 refine xd 6 .z ?_
 have hk'1:=hk.below (Za w)
 refine xb (.e [0,1,2] 3) 0 hk'1 ?_
 refine xb (.e [4,5,6] 7) 1 hk'1 ?_
 refine xsL (.e [] 8) (fun _ _ _ _ zo zx zy V=>Xv (k:=k) (b:=p) (n:=N) (c:=c) (i:=(↑k:Int)) (ki:=.i64) 1 zo zx zy rfl (by omega) Tryz.underlying31 (by kernel_rfl) V) ?_
 have hB:=(Za w)
 exact xe (.r [9] 3) (.slice (Qy p k c 1) (N-k) (c-k)) ⟨rfl,hB⟩
theorem Ns(ba b:Nat)(p:Option Addr)(N c k:Nat)(w:World)(hk:Blk w ba [.slice p N c,.int .i64 (k:Int),.pointer (some ⟨b,0,none⟩)] 153)(h1:k≤N) :
 Calls Tryz.prog 59 #[.pointer (some ⟨ba,0,none⟩)] w (Ret (.int .i64 ((N-k:Nat):Int)) w):=by
 refine zin 10 Tryz.func59 ?_
 refine xr 9 (args:=#[.pointer (some ⟨ba,0,none⟩)]) (Jj ba b _ _ _ hk) fun W1 hb1=>?_
 have hk'1:=hk.below hb1
 refine xr 10 (args:=#[.pointer (some ⟨ba,0,none⟩)]) (Fh ba p N c k _ _ hk'1 h1) fun W2 hb2=>?_
 have hB:=bln hb1 hb2
 exact xe 5 (.int .i64 (↑(N-k):Int)) ⟨rfl,hB⟩
def Took(B ba:Nat)(p:Option Addr)(N c k:Nat)(m:Value)(L:List Int)(v:Value)(w:World)(e:Ending)(w':World):Prop :=
 e=.returned v∧Below B w w'∧Zh [153] w w'∧Fr [ba] w w'∧Blk w' ba [.slice p N c,.int .i64 ((k+1:Nat):Int),m] 153∧w'.ownsRow B 3 1 (.slice p N c) N (L.map (Value.int .i64))
theorem IntsN.elem{w:World}{b:Option Addr}{n c:Nat}{l:List Int}(h:Sl w (.slice b n c) n (l.map (Value.int .i64)))(hl:l.length=n){k:Nat}(hk:k<n):b.isSome=true∧w.cell? (Xa b (k*1))=some (.int .i64 (l.getD k 0)):=by
 subst hl;exact Ints.elem h hk
theorem Zfy(B ba:Nat)(p:Option Addr)(N c k:Nat)(L:List Int)(hL:L.length=N)(m:Value)(w:World)(hk:Blk w ba [.slice p N c,.int .i64 (k:Int),m] 153)(ho:w.ownsRow B 3 1 (.slice p N c) N (L.map (Value.int .i64)))(hB0:B≤ba)(hBw:B≤w.heap.size)(hN:N≤1000000)(hkN:k<N) :
 Calls Tryz.prog 178 #[.pointer (some ⟨ba,0,none⟩)] w (Took B ba p N c k m L (.tuple #[.int .i64 (L.getD k 0),.bool true]) w):=by
 refine zin 32 Tryz.func178 ?_
 refine xd 8 .z ?_
 have hk'1:=hk.below (Za w)
 refine xb (.e [0,1,2] 3) 1 hk'1 ?_
 refine xb (.e [4,5,6] 7) 0 hk'1 ?_
 refine xk (.r [8,9] 2) (show(decide ((↑k:Int)≥(↑N:Int)):Bool)=false from decide_eq_false (by omega)) ?_
 refine xb 7 1 hk'1 ?_
 refine xwm 0 ((↑k:Int)+1) (↑(k+1):Int) ?_
 refine xs 2 hk'1 [.slice p N c,.int .i64 (↑(k+1):Int),m] fun W1 u1 k1=>?_
 refine xd 3 .z ?_
 have k1'1:=k1.below (Za W1)
 refine xb (.e [0,1,2] 3) 0 k1'1 ?_
 refine xb (.e [4,5,6] 7) 1 k1'1 ?_
 refine xwm (.e [] 8) ((↑(k+1):Int)-1) (↑k:Int) ?_
 have ho'1:=Zb (u1.own2 (Zb ho (Za w)) hk'1 (by decide)) (Za W1)
 refine xx (.e [] 9) _ N k 1 (IntsN.elem (Ze ho'1) hL (k:=k) (by omega)).1 ?_
 refine xl (.e [] 10) ((IntsN.elem (Ze ho'1) hL (k:=k) (by omega)).2) ?_
 have hB:=blB (u1.below (blB (Below.refl B w) hBw (Za w)) hB0) hBw (Za W1)
 have hO:=((show Zh [153] w _ from(Zh.of_below (Za w))).trans (Zh.of_upd u1 hk'1 (by decide))).trans (Zh.of_below (Za W1))
 have hX:=((show Fr [ba] w _ from(Fr.of_below (Za w))).trans (Fr.of_upd u1 (by simp))).trans (Fr.of_below (Za W1))
 exact xe (.r [11,12] 3) (.tuple #[.int .i64 (L.getD k 0),.bool true]) ⟨rfl,hB,hO,hX,k1'1,ho'1⟩
theorem Zdh(B ba:Nat)(p:Option Addr)(N c k:Nat)(L:List Int)(hL:L.length=N)(b q:Nat)(hq:L.getD k 0=(q:Int))(w:World)(hk:Blk w ba [.slice p N c,.int .i64 (k:Int),.pointer (some ⟨b,0,none⟩)] 153)(ho:w.ownsRow B 3 1 (.slice p N c) N (L.map (Value.int .i64)))(hB0:B≤ba)(hBw:B≤w.heap.size)(hN:N≤1000000)(hkN:k<N) :
 Calls Tryz.prog 130 #[.pointer (some ⟨ba,0,none⟩)] w (Took B ba p N c k (.pointer (some ⟨b,0,none⟩)) L (.tuple #[.int .i64 (q:Int),.nilIface]) w):=by
 refine zin 20 Tryz.func130 ?_
 refine xr 10 (args:=#[.pointer (some ⟨ba,0,none⟩)]) (Jj ba b _ _ _ hk) fun W1 hb1=>?_
 have hk'1:=hk.below hb1
 have ho'1:=Zb ho hb1
 have hB:=blB (Below.refl B w) hBw hb1
 refine xc 10 (args:=#[.pointer (some ⟨ba,0,none⟩)]) (Zfy B ba p N c k L hL _ _ hk'1 ho'1 hB0 (Nat.le_trans hBw hB.size) hN hkN) ?_
 rintro _ W2 ⟨rfl,hb2,hO2,hX2,kA,ho⟩
 rw[hq]
 have hB'1:=hB.trans hb2
 have hO:=(show Zh [153] w _ from(Zh.of_below hb1)).trans hO2
 have hX:=(show Fr [ba] w _ from(Fr.of_below hb1)).trans (hX2.mono (by simp))
 exact xe 25 (.tuple #[.int .i64 (↑q:Int),.nilIface]) ⟨rfl,hB'1,hO,hX,kA,ho⟩
def Laid(B ba b g n c:Nat)(pa:Option Addr)(ca f N k:Nat)(l:List UInt8)(kind:Int)(li:List UInt8)(w:World)(e:Ending)(w':World):Prop :=
 e=.returned (.tuple #[.int .i64 ((f+k:Nat):Int),.nilIface])∧Below B w w'∧Zh [153,5] w w'∧Fr [ba,g] w w'∧Al B ba b g n c pa ca f N (k+1) (Vj l ((f+k)*256) (Qa kind ((f+k:Nat):Int) li)) w'
theorem Zh.mono{T T':List TypeId}{w w':World}(h:Zh T w w')(hT:∀ t,T'.contains t=false→T.contains t=false):Zh T' w w':=fun k cs t fr hk ht=>h k cs t fr hk (hT t ht)
theorem only_aa{w w':World}(h:Zh [153] w w'):Zh [153,5] w w':=h.mono fun t ht=>by simp at ht ⊢;exact ht.1
theorem only_ab{w w':World}(h:Zh [5] w w'):Zh [153,5] w w':=h.mono fun t ht=>by simp at ht ⊢;exact ht.2
theorem alloc_Lay(B ba b g n c:Nat)(p:Option Addr)(ca f N k:Nat)(l:List UInt8)(kind:Int)(a:Option Addr)(ci:Nat)(li:List UInt8)(w:World)(hC:AlC B ba n c ca f N)(hA:Al B ba b g n c p ca f N k l w)(hkN:k<N)(h1:1≤kind)(h2:kind≤4)(hin:∀ W,Below B w W→Zh [153] w W→Bys W (.slice a li.length ci) li)(hl:li.length≤244)(hBw:B≤w.heap.size) :
 Calls Tryz.prog 92 #[.pointer (some ⟨ba,0,none⟩),.int .i64 kind,.slice a li.length ci] w (Laid B ba b g n c p ca f N k l kind li w):=by
 obtain⟨hk,hi,hd,ho⟩:=hA
 refine zin 35 Tryz.func92 ?_
 refine xc 9 (args:=#[.pointer (some ⟨ba,0,none⟩)]) (Zdh B ba p N ca k (Fn f N) (Zbn f N) b (f+k) (Zb1 hkN) _ hk ho hC.hB (Nat.le_trans hBw (Below.refl B _).size) (by have:=hC.hf;have:=hC.hn;omega) hkN) ?_
 rintro _ W1 ⟨rfl,hb1,hO1,hX1,kA,ho⟩
 replace hin:=hin _ hb1 hO1
 refine xb 23 2 kA ?_
 have hi'1:=hi.only hO1 (by decide)
 have hd'1:=Zj hd hO1 (by decide)
 refine xc 3 (args:=#[.pointer (some ⟨b,0,none⟩),.int .i64 (↑(f+k):Int),.int .i64 kind,.slice a li.length ci]) (Za5 B b g n c (f+k) l kind a ci li _ hi'1 hd'1 hC.hn hC.hc (by have:=hC.hf;omega) h1 h2 hin hl (Nat.le_trans hBw hb1.size)) ?_
 rintro _ W2 ⟨rfl,hb2,hO2,hX2,hd⟩
 have hB'1:=hb1.trans hb2
 have hO:=(show Zh [153,5] w _ from(only_aa hO1)).trans (only_ab hO2)
 have hX:=(show Fr [ba,g] w _ from(hX1.mono (by simp))).trans (hX2.mono (by simp))
 have kA'1:=kA.only hO2 (by decide)
 have hi'2:=hi'1.only hO2 (by decide)
 have ho'1:=Zj ho hO2 (by decide)
 exact xe 20 (.tuple #[.int .i64 (↑(f+k):Int),.nilIface]) ⟨rfl,hB'1,hO,hX,kA'1,hi'2,hd,ho'1⟩
theorem My(w:World) :
 Calls Tryz.prog 56 #[.int .i64 1,.bool true] w (Ret (.int .i64 4) w):=by
 refine zin 31 Tryz.func56 ?_
 exact xe 94 (.int .i64 4) ⟨rfl,(Below.refl w.heap.size _)⟩
theorem Zfe(w:World) :
 Calls Tryz.prog 108 #[.int .i64 1,.bool true] w (Ret (.int .i64 18) w):=by
 refine zin 16 Tryz.func108 ?_
 refine xr 9 (args:=#[.int .i64 1,.bool true]) (My _) fun W1 hb1=>?_
 exact xe 24 (.int .i64 18) ⟨rfl,hb1⟩
theorem Lq(w:World) :
 Calls Tryz.prog 56 #[.int .i64 1,.bool false] w (Ret (.int .i64 4) w):=by
 refine zin 31 Tryz.func56 ?_
 exact xe 41 (.int .i64 4) ⟨rfl,(Below.refl w.heap.size _)⟩
theorem Zdj(w:World) :
 Calls Tryz.prog 108 #[.int .i64 1,.bool false] w (Ret (.int .i64 18) w):=by
 refine zin 16 Tryz.func108 ?_
 refine xr 9 (args:=#[.int .i64 1,.bool false]) (Lq _) fun W1 hb1=>?_
 exact xe 24 (.int .i64 18) ⟨rfl,hb1⟩
theorem Lg(w:World) :
 Calls Tryz.prog 56 #[.int .i64 2,.bool true] w (Ret (.int .i64 8) w):=by
 refine zin 31 Tryz.func56 ?_
 exact xe 101 (.int .i64 8) ⟨rfl,(Below.refl w.heap.size _)⟩
theorem Zel(w:World) :
 Calls Tryz.prog 108 #[.int .i64 2,.bool true] w (Ret (.int .i64 12) w):=by
 refine zin 16 Tryz.func108 ?_
 refine xr 9 (args:=#[.int .i64 2,.bool true]) (Lg _) fun W1 hb1=>?_
 exact xe 24 (.int .i64 12) ⟨rfl,hb1⟩
theorem Lj(w:World) :
 Calls Tryz.prog 56 #[.int .i64 2,.bool false] w (Ret (.int .i64 4) w):=by
 refine zin 31 Tryz.func56 ?_
 exact xe 41 (.int .i64 4) ⟨rfl,(Below.refl w.heap.size _)⟩
theorem Zey(w:World) :
 Calls Tryz.prog 108 #[.int .i64 2,.bool false] w (Ret (.int .i64 18) w):=by
 refine zin 16 Tryz.func108 ?_
 refine xr 9 (args:=#[.int .i64 2,.bool false]) (Lj _) fun W1 hb1=>?_
 exact xe 24 (.int .i64 18) ⟨rfl,hb1⟩
theorem Ln(w:World) :
 Calls Tryz.prog 56 #[.int .i64 3,.bool true] w (Ret (.int .i64 24) w):=by
 refine zin 31 Tryz.func56 ?_
 exact xe 93 (.int .i64 24) ⟨rfl,(Below.refl w.heap.size _)⟩
theorem Zgb(w:World) :
 Calls Tryz.prog 108 #[.int .i64 3,.bool true] w (Ret (.int .i64 6) w):=by
 refine zin 16 Tryz.func108 ?_
 refine xr 9 (args:=#[.int .i64 3,.bool true]) (Ln _) fun W1 hb1=>?_
 exact xe 24 (.int .i64 6) ⟨rfl,hb1⟩
theorem Lr(w:World) :
 Calls Tryz.prog 56 #[.int .i64 3,.bool false] w (Ret (.int .i64 4) w):=by
 refine zin 31 Tryz.func56 ?_
 exact xe 41 (.int .i64 4) ⟨rfl,(Below.refl w.heap.size _)⟩
theorem Zd4(w:World) :
 Calls Tryz.prog 108 #[.int .i64 3,.bool false] w (Ret (.int .i64 18) w):=by
 refine zin 16 Tryz.func108 ?_
 refine xr 9 (args:=#[.int .i64 3,.bool false]) (Lr _) fun W1 hb1=>?_
 exact xe 24 (.int .i64 18) ⟨rfl,hb1⟩
theorem Ll(w:World) :
 Calls Tryz.prog 56 #[.int .i64 4,.bool true] w (Ret (.int .i64 16) w):=by
 refine zin 31 Tryz.func56 ?_
 exact xe 98 (.int .i64 16) ⟨rfl,(Below.refl w.heap.size _)⟩
theorem Zeq(w:World) :
 Calls Tryz.prog 108 #[.int .i64 4,.bool true] w (Ret (.int .i64 9) w):=by
 refine zin 16 Tryz.func108 ?_
 refine xr 9 (args:=#[.int .i64 4,.bool true]) (Ll _) fun W1 hb1=>?_
 exact xe 24 (.int .i64 9) ⟨rfl,hb1⟩
theorem Lc(w:World) :
 Calls Tryz.prog 56 #[.int .i64 4,.bool false] w (Ret (.int .i64 4) w):=by
 refine zin 31 Tryz.func56 ?_
 exact xe 41 (.int .i64 4) ⟨rfl,(Below.refl w.heap.size _)⟩
theorem Zdq(w:World) :
 Calls Tryz.prog 108 #[.int .i64 4,.bool false] w (Ret (.int .i64 18) w):=by
 refine zin 16 Tryz.func108 ?_
 refine xr 9 (args:=#[.int .i64 4,.bool false]) (Lc _) fun W1 hb1=>?_
 exact xe 24 (.int .i64 18) ⟨rfl,hb1⟩
theorem Lb(w:World) :
 Calls Tryz.prog 56 #[.int .i64 5,.bool true] w (Ret (.int .i64 4) w):=by
 refine zin 31 Tryz.func56 ?_
 exact xe 94 (.int .i64 4) ⟨rfl,(Below.refl w.heap.size _)⟩
theorem Zgh(w:World) :
 Calls Tryz.prog 108 #[.int .i64 5,.bool true] w (Ret (.int .i64 18) w):=by
 refine zin 16 Tryz.func108 ?_
 refine xr 9 (args:=#[.int .i64 5,.bool true]) (Lb _) fun W1 hb1=>?_
 exact xe 24 (.int .i64 18) ⟨rfl,hb1⟩
theorem La(w:World) :
 Calls Tryz.prog 56 #[.int .i64 5,.bool false] w (Ret (.int .i64 4) w):=by
 refine zin 31 Tryz.func56 ?_
 exact xe 41 (.int .i64 4) ⟨rfl,(Below.refl w.heap.size _)⟩
theorem Zed(w:World) :
 Calls Tryz.prog 108 #[.int .i64 5,.bool false] w (Ret (.int .i64 18) w):=by
 refine zin 16 Tryz.func108 ?_
 refine xr 9 (args:=#[.int .i64 5,.bool false]) (La _) fun W1 hb1=>?_
 exact xe 24 (.int .i64 18) ⟨rfl,hb1⟩
def Br(t:Int)(leaf:Bool):Nat:=if leaf=false then 4 else if t=2 then 8 else if t=3 then 24 else if t=4 then 16 else 4
def Qu(t:Int)(leaf:Bool):Nat:=if leaf=false then 18 else if t=2 then 12 else if t=3 then 6 else if t=4 then 9 else 18
theorem Fq(t:Int)(leaf:Bool)(h1:1≤t)(h2:t≤5)(w:World):Calls Tryz.prog 56 #[.int .i64 t,.bool leaf] w (Ret (.int .i64 (Br t leaf:Int)) w):=by
 obtain rfl|rfl|rfl|rfl|rfl:t=1∨t=2∨t=3∨t=4∨t=5:=by omega
 all_goals cases leaf
 ·exact Lq w
 ·exact My w
 ·exact Lj w
 ·exact Lg w
 ·exact Lr w
 ·exact Ln w
 ·exact Lc w
 ·exact Ll w
 ·exact La w
 ·exact Lb w
theorem Bf(t:Int)(leaf:Bool)(h1:1≤t)(h2:t≤5)(w:World):Calls Tryz.prog 108 #[.int .i64 t,.bool leaf] w (Ret (.int .i64 (Qu t leaf:Int)) w):=by
 obtain rfl|rfl|rfl|rfl|rfl:t=1∨t=2∨t=3∨t=4∨t=5:=by omega
 all_goals cases leaf
 ·exact Zdj w
 ·exact Zfe w
 ·exact Zey w
 ·exact Zel w
 ·exact Zd4 w
 ·exact Zgb w
 ·exact Zdq w
 ·exact Zeq w
 ·exact Zed w
 ·exact Zgh w
theorem Qk(t:Int)(leaf:Bool):1≤Qu t leaf∧Qu t leaf≤18:=by
 unfold Qu;repeat' split
 all_goals decide
theorem run_quo{P:Program}{a:Act}{o:Oper}{t:TypeId}{x y:Operand}{t2:TypeId}{p q r:Int}{k:IntKind}(ho:o.op=.binOp .quo t x y t2)(hx:a.eval x=.int k p)(hy:a.eval y=.int k q)(hq:q≠0)(hr:k.wrap (Int.tdiv p q)=r)(w:World) :
 (execOp a.eval o).run P w=.ok (.value (.int k r)) w:=by
 subst hr
 have hb:(binOp .quo t (.int k p) (.int k q)).run P w=.ok (.int k (k.wrap (p.tdiv q))) w:=by
  simp[binOp,Op.intDiv,hq]
 have hg:(eqGuard .quo t x y (.int k p) (.int k q)).run P w=.ok () w:=rfl
 simp only[execOp,ho,hx,hy,Sem.run_bind,hg,Result.andThen_ok,hb]
 rfl
def ovN (n m:Nat):Nat:=max 1 ((n+m-1)/m)
theorem max_cast(a b:Nat):(if(b:Int)>(a:Int) then(b:Int) else(a:Int))=((max a b:Nat):Int):=by split<;>omega
theorem Vn(n m:Nat):1≤ovN n m:=by unfold ovN;omega
theorem Oa(n m:Nat)(hm:1≤m):ovN n m≤n+1:=by
 have:(n+m-1)/m≤n:=by
  rw[Nat.div_le_iff_le_mul_add_pred (by omega)]
  have:=Nat.le_mul_of_pos_left n hm
  omega
 unfold ovN;omega
theorem ov18{x:Nat}(h:2≤x):ovN x 18≤x/2:=by unfold ovN;omega
theorem Cn(n m:Nat)(w:World)(hn:n≤1000000)(hm:1≤m)(hm2:m≤1000000) :
 Calls Tryz.prog 153 #[.int .i64 (↑n:Int),.int .i64 (↑m:Int)] w (Ret (.int .i64 (ovN n m:Int)) w):=by
 refine zin 12 Tryz.func153 ?_
 refine xwm 9 ((↑n:Int)+(↑m:Int)) (↑(n+m):Int) ?_
 refine xwm 0 ((↑(n+m):Int)-1) (↑((n+m)-1):Int) ?_
 refine xbo 1 (t:=3) (t2:=3) (fun _ _ _ _ zo zx zy V hV=>run_quo (r:=(↑((n+m-1)/m):Int)) zo zx zy (by omega) (Zax (n+m-1) m (by omega) (by omega)) V) ?_
 refine xq 0 (congrArg (Value.int .i64) (show(if(↑((n+m-1)/m):Int)>(1:Int) then(↑((n+m-1)/m):Int) else(1:Int):Int)=(↑(ovN n m):Int) from max_cast 1 ((n+m-1)/m))) ?_
 exact xe 4 (.int .i64 (↑(ovN n m):Int)) ⟨rfl,(Below.refl w.heap.size _)⟩
def lenOf:Value→Nat
 | .slice _ n _=>n
 | _=>0
def nv (n:Nat):Value:=.int .i64 (n:Int)
def Zc4(x:Nat):List Nat:=if h:x≤1 then [x] else x::Zc4 (ovN x 18)
termination_by x
decreasing_by have:=ov18 (x:=x) (by omega);omega
theorem Uu{x:Nat}(h:x≤1):Zc4 x=[x]:=by rw[Zc4];simp[h]
theorem Gy{x:Nat}(h:¬ x≤1):Zc4 x=x::Zc4 (ovN x 18):=by rw[Zc4];simp[h]
theorem Zbp{x:Nat}(h:1≤x):(Zc4 x).sum≤2*x:=by
 induction x using Nat.strongRecOn with
 | _ x ih =>
  by_cases h1:x≤1
  ·rw[Uu h1];simp;omega
  ·rw[Gy h1,List.sum_cons]
   have h2:=ov18 (x:=x) (by omega)
   have:=ih (ovN x 18) (by omega) (Vn _ _)
   omega
theorem levs_len{x:Nat}(h:1≤x):(Zc4 x).length≤x:=by
 induction x using Nat.strongRecOn with
 | _ x ih =>
  by_cases h1:x≤1
  ·rw[Uu h1];simpa using h
  ·rw[Gy h1,List.length_cons]
   have h2:=ov18 (x:=x) (by omega)
   have:=ih (ovN x 18) (by omega) (Vn _ _)
   omega
theorem Zi{w:World}{b:Option Addr}{n c:Nat}{l:List Nat}(h:Sl w (.slice b n c) n (l.map nv))(hl:l.length=n){k:Nat}(hk:k<n):b.isSome=true∧w.cell? (Xa b (k*1))=some (.int .i64 ((l.getD k 0:Nat):Int)):=by
 have e:l.map nv=(l.map fun x:Nat=>(x:Int)).map (Value.int .i64):=by simp[nv]
 rw[e] at h
 have:=IntsN.elem h (by simpa using hl) hk
 rw[show(l.map fun x:Nat=>(x:Int)).getD k 0=((l.getD k 0:Nat):Int) by simp[List.getD,List.getElem?_eq_getElem (show k<l.length by omega)]] at this
 exact this
theorem Au{xs:List Nat}{x j:Nat}(h:xs.length=j):(xs++[x]).getD j 0=x:=by subst h;simp[List.getD]
theorem Th{L:List Nat}{k:Nat}(h:k<L.length):(L.take (k+1)).sum=(L.take k).sum+L.getD k 0:=by
 rw[List.take_add_one,List.sum_append];simp[List.getD,List.getElem?_eq_getElem h]
theorem take_le{L:List Nat}(k:Nat):(L.take k).sum≤L.sum:=by
 conv=>rhs;rw[←List.take_append_drop k L,List.sum_append]
 omega
def Hd(t:Int)(n:Nat):List Nat:=Zc4 (ovN n (Qu t true))
def Qe(t:Int)(n:Nat):Nat:=(Hd t n).sum
theorem levL_len(t:Int)(n:Nat):(Hd t n).length≤n+1:=by
 have:=levs_len (Vn n (Qu t true));have:=Oa n (Qu t true) (Qk t true).1;unfold Hd;omega
theorem Cz(t:Int)(n:Nat):Qe t n≤2*n+2:=by
 have:=Zbp (Vn n (Qu t true));have:=Oa n (Qu t true) (Qk t true).1;unfold Qe Hd;omega
theorem Zaz(t:Int)(n:Nat)(w:World)(h1:1≤t)(h2:t≤5)(hn:n≤32768) :
 Calls Tryz.prog 106 #[.int .i64 t,.int .i64 (↑n:Int)] w (Yz (fun w' r=>∃ p c,r=.slice p (Hd t n).length c∧w'.ownsRow w.heap.size 3 1 (.slice p (Hd t n).length c) (Hd t n).length ((Hd t n).map nv)) w):=by
 have hm1:=(Qk t true).1
 have hm2:=(Qk t true).2
 have hov:=Oa n (Qu t true) hm1
 have hop:=Vn n (Qu t true)
 refine zin 45 Tryz.func106 ?_
 refine xr 8 (args:=#[.int .i64 t,.bool true]) (Bf t true h1 h2 _) fun W1 hb1=>?_
 refine xr 1 (args:=#[.int .i64 t,.bool false]) (Bf t false h1 h2 _) fun W2 hb2=>?_
 refine xgk 10 [13,14] (show(((↑(Qu t true):Int)==(0:Int)):Bool)=false from by simp;omega) ?_
 refine xgk 4 [16,17,18] (show(decide ((↑n:Int)<(0:Int)):Bool)=false from decide_eq_false (by omega)) ?_
 refine xk 5 (show(decide ((↑n:Int)>(32768:Int)):Bool)=false from decide_eq_false (by omega)) ?_
 refine xr 6 (args:=#[.int .i64 (↑n:Int),.int .i64 (↑(Qu t true):Int)]) (Cn n (Qu t true) _ (by omega) hm1 (by omega)) fun W5 hb5=>?_
 refine xbs 0 1 [.int .i64 (↑(ovN n (Qu t true)):Int)] 3 fun b6 W6 n6=>?_
 have g6:=n6.ge (bln (bln hb1 hb2) hb5)
 have hB:=bln (bln (bln hb1 hb2) hb5) n6.below
 refine zl 5 45 (fun zm zkv V=>∃ (j x:Nat) (xs:List Nat) (p:Option Addr) (c:Nat),zkv=[(4,.slice none 0 0),(6,.int .i64 18),(7,.slice p (j+1) c)]∧zm=40000-(j+1)∧Below w.heap.size w V∧V.ownsRow w.heap.size 3 1 (.slice p (j+1) c) (j+1) ((xs++[x]).map nv)∧xs.length=j∧1≤x∧x≤32769∧xs++Zc4 x=Hd t n∧j+x≤40000) ⟨0,(ovN n (Qu t true)),[],_,_,rfl,rfl,hB,Zw (size:=1) (n:=1) n6.blk g6 rfl (by unfold maxLen;decide),rfl,hop,by omega,rfl,by omega⟩ ?_
 rintro _ _ W7 ⟨j,x,xs,p,c,rfl,rfl,hB_7,ho,hxl,hx1,hx2,hxs,hj⟩ J7 hJ7 r7
 refine xwm 6 ((↑(j+1):Int)-1) (↑j:Int) ?_
 refine xx 0 _ (j+1) j 1 (Zi (Ze ho) (by simp[hxl]) (k:=j) (by omega)).1 ?_
 refine xl 0 (by have:=(Zi (Ze ho) (by simp[hxl]) (k:=j) (by omega)).2;rwa [Au hxl] at this) ?_
 refine xid 3 ((↑x:Int)>(1:Int)) (fun hc8=>?_) (fun hc8=>?_)
 ·refine xwm 8 ((↑(j+1):Int)-1) (↑j:Int) ?_
  refine xx 0 _ (j+1) j 1 (Zi (Ze ho) (by simp[hxl]) (k:=j) (by omega)).1 ?_
  refine xl 0 (by have:=(Zi (Ze ho) (by simp[hxl]) (k:=j) (by omega)).2;rwa [Au hxl] at this) ?_
  refine xr 1 (args:=#[.int .i64 (↑x:Int),.int .i64 18]) (Cn x 18 _ (by omega) (by decide) (by decide)) fun W9 hb9=>?_
  refine xbs 0 1 [.int .i64 (↑(ovN x 18):Int)] 3 fun b10 W10 n10=>?_
  have hB'1:=bln hB_7 hb9
  have g10:=n10.ge hB'1
  have ho'1:=Zb ho hb9
  have r10_ho:=Zr ho'1 n10
  have ho'2:=Zb ho'1 n10.below
  have hB'2:=bln hB'1 n10.below
  refine xbi 0 fun _ _ _ _ zJ zQ zo zx zy zK=>Zo (m:=1) (news:=[.int .i64 (↑(ovN x 18):Int)]) (.int .i64 0) 1 8 (j+1+1) (((xs++[x])++[ovN x 18]).map nv) zo Tryz.underlying31 (by kernel_rfl) rfl (by decide) zx ho'2 zy (n10.blk.sl 1 1 (by decide) (by decide)) rfl (by simp[Value.oneCell']) (by unfold maxLen;omega) (by omega) hB'2.size (by rfl) (by simp[nv]) fun px11 cx11 W11 o11 hg11 hb11=>?_
  refine zK _ _ ?_
  have h18:=ov18 (x:=x) (by omega)
  have hB'3:=hB'2.trans hb11
  exact ze 3 (hJ7 _ _ _ ⟨j+1,(ovN x 18),xs++[x],_,_,rfl,rfl,hB'3,o11,by simp[hxl],Vn _ _,by omega,by rw[←hxs,Gy (x:=x) (by omega)];simp,by omega⟩ (by omega))
 refine xe 12 (.slice p (j+1) c) ?_
 have e:Hd t n=xs++[x]:=by rw[←hxs,Uu (x:=x) (by omega)]
 have el:(Hd t n).length=j+1:=by rw[e];simp[hxl]
 exact⟨_,rfl,hB_7,p,c,by rw[el],by rw[el,e];exact ho⟩
theorem Ju(t:Int)(n:Nat)(w:World)(h1:1≤t)(h2:t≤5)(hn:n≤32768) :
 Calls Tryz.prog 60 #[.int .i64 t,.int .i64 (↑n:Int)] w (Ret (.int .i64 (Qe t n:Int)) w):=by
 refine zin 21 Tryz.func60 ?_
 refine xc 15 (args:=#[.int .i64 t,.int .i64 (↑n:Int)]) (Zaz t n _ h1 h2 hn) ?_
 rintro _ W1 ⟨_,rfl,hb1,p,c,rfl,ho⟩
 have hs1:=Nat.le_refl w.heap.size
 have ho'1:=Zd ho hs1
 refine zl 5 21 (fun zm zkv V=>∃ (k:Nat),zkv=[(4,.int .i64 0),(5,.int .i64 (↑((Hd t n).take k).sum:Int)),(10,.slice p ((Hd t n).length) c),(11,.int .i64 (↑((Hd t n).length):Int)),(12,.int .i64 (↑k:Int))]∧zm=(Hd t n).length-((↑k:Int)).toNat∧Below w.heap.size w V∧V.ownsRow w.heap.size 3 1 (.slice p (Hd t n).length c) (Hd t n).length ((Hd t n).map nv)∧k≤(Hd t n).length) ⟨0,rfl,rfl,hb1,ho'1,Nat.zero_le _⟩ ?_
 rintro _ _ W2 ⟨k,rfl,rfl,hB_2,ho,hk⟩ J2 hJ2 r2
 have hl1:=levL_len t n
 have hs1:=Cz t n
 unfold Qe at hs1
 have hs2:=take_le (L:=Hd t n) (k+1)
 have hs3:k<(Hd t n).length→((Hd t n).take (k+1)).sum=((Hd t n).take k).sum+(Hd t n).getD k 0:=Th
 refine xid 6 ((↑k:Int)<(↑((Hd t n).length):Int)) (fun hc3=>?_) (fun hc3=>?_)
 ·refine xx 6 _ ((Hd t n).length) k 1 (Zi (Ze ho) rfl (k:=k) (by omega)).1 ?_
  refine xl 0 ((Zi (Ze ho) rfl (k:=k) (by omega)).2) ?_
  refine xwm 6 ((↑((Hd t n).take k).sum:Int)+(↑((Hd t n).getD k 0):Int)) (↑(((Hd t n).take k).sum+((Hd t n).getD k 0)):Int) ?_
  refine xwm 5 ((↑k:Int)+1) (↑(k+1):Int) ?_
  refine xv1 2 5 (show(.int .i64 (↑(((Hd t n).take k).sum+((Hd t n).getD k 0)):Int):Value)=.int .i64 (↑((Hd t n).take (k+1)).sum:Int) from by rw[Th (by omega)]) ?_
  exact ze 0 (hJ2 _ _ _ ⟨k+1,rfl,rfl,hB_2,ho,by omega⟩ (by omega))
 refine xe 12 (.int .i64 (↑((Hd t n).take k).sum:Int)) ?_
 have e:k=(Hd t n).length:=by omega
 subst e
 rw[List.take_length]
 exact⟨rfl,hB_2⟩
def Vu(n m i:Nat):Nat:=min m (n-i*m)
theorem siz_le{n m i:Nat}(hm:1≤m)(h:i<ovN n m):i*m≤n:=by
 unfold ovN at h
 rcases Nat.eq_zero_or_pos i with rfl|hi
 ·omega
 ·have h1:i+1≤(n+m-1)/m:=by omega
  have h2:=(Nat.le_div_iff_mul_le (by omega)).1 h1
  rw[Nat.add_mul] at h2
  omega
def Tm(n m k:Nat):List Value:=(List.range (ovN n m)).map fun i=>.int .i64 (if i<k then(Vu n m i:Int) else 0)
def sizL(n m:Nat):List Nat:=(List.range (ovN n m)).map (Vu n m)
theorem sizK_zero(n m:Nat):Hk (Value.int .i64 0).cells.toList (ovN n m)=Tm n m 0:=by
 rw[show(Value.int .i64 0).cells.toList=[Value.int .i64 0] from rfl,Hk,Tm]
 simp[List.map_const']
theorem sizK_all(n m:Nat):Tm n m (ovN n m)=(sizL n m).map nv:=by
 unfold Tm sizL nv
 rw[List.map_map]
 apply List.map_congr_left
 intro i hi
 rw[List.mem_range] at hi
 simp[hi]
theorem sizK_set{n m k:Nat}(h:k<ovN n m):(Tm n m k).set k (.int .i64 (Vu n m k:Int))=Tm n m (k+1):=by
 apply List.ext_getElem?
 intro i
 by_cases hi:i<ovN n m
 ·by_cases e:k=i
  ·subst e
   rw[List.getElem?_set_self (by simpa [Tm] using h)]
   simp[Tm,List.getElem?_range h]
  ·rw[List.getElem?_set_ne e]
   simp only[Tm,List.getElem?_map,List.getElem?_range hi,Option.map_some]
   by_cases e2:i<k
   ·simp[e2,show i<k+1 by omega]
   ·simp[e2,show ¬ i<k+1 by omega]
 ·rw[List.getElem?_eq_none (by simp[Tm];omega),List.getElem?_eq_none (by simp[Tm];omega)]
theorem sizL_len(n m:Nat):(sizL n m).length=ovN n m:=by simp[sizL]
theorem Zd6(n m:Nat)(w:World)(hn:n≤32768)(hm:1≤m)(hm2:m≤32768) :
 Calls Tryz.prog 107 #[.int .i64 (↑n:Int),.int .i64 (↑m:Int)] w (Yz (fun w' r=>∃ p c,r=.slice p (ovN n m) c∧w'.ownsRow w.heap.size 3 1 (.slice p (ovN n m) c) (ovN n m) ((sizL n m).map nv)) w):=by
 have hov:=Oa n m hm
 refine zin 40 Tryz.func107 ?_
 refine xgk 11 [8,9] (show(decide ((↑n:Int)<(0:Int)):Bool)=false from decide_eq_false (by omega)) ?_
 refine xgk 4 [11,12,13] (show(decide ((↑n:Int)>(32768:Int)):Bool)=false from decide_eq_false (by omega)) ?_
 refine xk 5 (show(decide ((↑m:Int)<(1:Int)):Bool)=false from decide_eq_false (by omega)) ?_
 refine xq 5 (congrArg (Value.int .i64) (show(if(32768:Int)<(↑m:Int) then(32768:Int) else(↑m:Int):Int)=(↑m:Int) from if_neg (by omega))) ?_
 refine xr 7 (args:=#[.int .i64 (↑n:Int),.int .i64 (↑m:Int)]) (Cn n m _ (by omega) hm (by omega)) fun W3 hb3=>?_
 refine xmk 0 fun _ _ _ _ zJ zQ zo zx zy zK=>Vm (ovN n m) (.int .i64 0) 1 8 (Tm n m 0) zo zx zy Tryz.underlying31 (by kernel_rfl) rfl (by omega) (by omega) (sizK_zero n m) fun b4 W4 n4=>?_
 refine zK _ _ ?_
 have hB:=bln hb3 n4.below
 refine zl 12 40 (fun zm zkv V=>∃ (k:Nat),zkv=[(0,.int .i64 (↑n:Int)),(1,.int .i64 (↑m:Int)),(4,.slice none 0 0),(5,.slice (some ⟨b4,0,none⟩) (ovN n m) (ovN n m)),(24,.int .i64 (↑(ovN n m):Int)),(25,.int .i64 (↑k:Int))]∧zm=ovN n m-((↑k:Int)).toNat∧Below w.heap.size w V∧Blk V b4 (Tm n m k) 3∧k≤ovN n m) ⟨0,rfl,rfl,hB,n4.blk,Nat.zero_le _⟩ ?_
 rintro _ _ W5 ⟨k,rfl,rfl,hB_5,k5_b4,hk⟩ J5 hJ5 r5
 have hkm:k<ovN n m→k*m≤n:=siz_le hm
 refine xid 6 ((↑k:Int)<(↑(ovN n m):Int)) (fun hc6=>?_) (fun hc6=>?_)
 ·refine xwm 17 ((↑k:Int)*(↑m:Int)) (↑(k*m):Int) ?_
  refine xwm 0 ((↑n:Int)-(↑(k*m):Int)) (↑(n-(k*m)):Int) ?_
  refine xxb 1 b4 0 (ovN n m) k 1 ?_
  refine xsg 0 k5_b4 (0+k*1) (.int .i64 (if(↑(n-(k*m)):Int)<(↑m:Int) then(↑(n-(k*m)):Int) else(↑m:Int))) (by simp[Tm];omega) fun W7 u7 k7=>?_
  replace k7:Blk W7 b4 (Tm n m (k+1)) 3:=by rw[←(show(Tm n m k).set (0+k*1) (.int .i64 (if(↑(n-(k*m)):Int)<(↑m:Int) then(↑(n-(k*m)):Int) else(↑m:Int)))=Tm n m (k+1) from by rw[show 0+k*1=k by omega,show(if(↑(n-(k*m)):Int)<(↑m:Int) then(↑(n-(k*m)):Int) else(↑m:Int))=(↑(Vu n m k):Int) from Td m (n-k*m)];exact sizK_set (by omega))];exact k7
  have g4:=n4.ge hb3
  refine xwm 4 ((↑k:Int)+1) (↑(k+1):Int) ?_
  have hB'1:=u7.below hB_5 g4
  exact ze 2 (hJ5 _ _ _ ⟨k+1,rfl,rfl,hB'1,k7,by omega⟩ (by omega))
 have g4:=n4.ge hb3
 refine xe 12 (.slice (some ⟨b4,0,none⟩) (ovN n m) (ovN n m)) ?_
 have e:k=ovN n m:=by omega
 subst e
 have ho:=Zw (size:=1) (n:=ovN n m) k5_b4 g4 (by simp[Tm]) (by unfold maxLen;omega)
 rw[sizK_all] at ho
 exact⟨_,rfl,hB_5,_,_,rfl,ho⟩
def Zf(l:List UInt8):Nat→Nat→Nat
 | _,0=>0
 | k,w+1=>(l.getD k 0).toNat+256*Zf l (k+1) w
theorem Cv(l:List UInt8):∀ (w k:Nat),Zf l k w<256 ^ w
 | 0,k=>by simp[Zf]
 | w+1,k=>by
  have:=Cv l w (k+1)
  have h:=(l.getD k 0).toNat_lt
  rw[Zf,Nat.pow_succ];omega
theorem Zb8(l:List UInt8)(k w:Nat)(hw:w≤7):Zf l k w<72057594037927936:=Nat.lt_of_lt_of_le (Cv l w k) (by rw[show(72057594037927936:Nat)=256 ^ 7 from rfl];exact Nat.pow_le_pow_right (by decide) hw)
theorem Yo(l:List UInt8)(k w:Nat)(hw:w≤4):Zf l k w<4294967296:=Nat.lt_of_lt_of_le (Cv l w k) (by rw[show(4294967296:Nat)=256 ^ 4 from rfl];exact Nat.pow_le_pow_right (by decide) hw)
theorem Zbt{n b:Nat}(hn:n<72057594037927936)(hb:b<256):IntKind.u64.wrap (↑(BitVec.ofInt 64 (IntKind.u64.wrap ((n:Int)*2 ^ 8)) ||| BitVec.ofInt 64 (b:Int)).toNat:Int)=((b+256*n:Nat):Int):=by
 have h1:IntKind.u64.wrap ((n:Int)*2 ^ 8)=((n*2 ^ 8:Nat):Int):=by
  rw[show(n:Int)*2 ^ 8=((n*2 ^ 8:Nat):Int) by omega];exact IntWalk.u64_in _ (by constructor<;>omega)
 rw[h1,BitVec.ofInt_natCast,BitVec.ofInt_natCast,BitVec.toNat_or,BitVec.toNat_ofNat,BitVec.toNat_ofNat,Nat.mod_eq_of_lt (by omega),Nat.mod_eq_of_lt (by omega)]
 rw[←Nat.shiftLeft_eq,←Nat.shiftLeft_add_eq_or_of_lt (by exact hb:b<2 ^ 8),Nat.shiftLeft_eq,IntWalk.u64_in _ (by constructor<;>omega)]
 congr 1;omega
theorem u64_nat{n:Nat}(h:n<18446744073709551616):IntKind.u64.wrap (n:Int)=(n:Int):=IntWalk.u64_in _ (by constructor<;>omega)
theorem Zbu(a:Option Addr)(m c k w:Nat)(hw:w=1∨w=2∨w=4∨w=8)(hk:k+w≤m)(hm:m≤100000000)(W:World) :
 Calls Tryz.prog 204 #[.slice a m c,.int .i64 (↑k:Int),.int .i64 (↑w:Int)] W (Ret (.int .i64 0) W):=by
 rcases hw with rfl|rfl|rfl|rfl
 ·exact there_1 a m c k hk hm W
 ·exact there_2 a m c k hk hm W
 ·exact Zgq a m c k hk hm W
 ·exact there_8 a m c k hk hm W
theorem Zbm(a:Option Addr)(c k w:Nat)(l:List UInt8)(W:World)(hw:w=1∨w=2∨w=4∨w=8)(hk:k+w≤l.length)(hl:l.length≤100000000)(h:Bys W (.slice a l.length c) l)(hq:Zf l k w<9223372036854775808) :
 Calls Tryz.prog 147 #[.slice a l.length c,.int .i64 (↑k:Int),.int .i64 (↑w:Int)] W (Ret (.tuple #[.int .i64 (Zf l k w:Int),.int .i64 0]) W):=by
 refine zin 38 Tryz.func147 ?_
 refine xr 12 (args:=#[.slice a l.length c,.int .i64 (↑k:Int),.int .i64 (↑w:Int)]) (Zbu a l.length c k w hw hk hl _) fun W1 hb1=>?_
 refine xw 21 ((↑w:Int)-1) ?_
 refine zl 4 38 (fun zm zkv V=>∃ (j r:Nat),zkv=[(0,.slice a l.length c),(1,.int .i64 (↑k:Int)),(6,.int .i64 0),(7,.int .i64 0),(9,.int .u64 (↑(Zf l (k+j) r):Int)),(10,.int .i64 ((↑j:Int)-1))]∧zm=(((↑j:Int)-1)+1).toNat∧Below W.heap.size W V∧j+r=w) ⟨w,0,rfl,rfl,hb1,by omega⟩ ?_
 rintro _ _ W2 ⟨j,r,rfl,rfl,hB_2,hjr⟩ J2 hJ2 r2
 refine xid 7 ((↑j:Int)-1≥(0:Int)) (fun hc3=>?_) (fun hc3=>?_)
 ·refine xq 10 (congrArg (Value.int .i64) (show IntKind.i64.wrap ((↑k:Int)+((↑j:Int)-1))=(↑(k+(j-1)):Int) from(show IntKind.i64.wrap ((↑k:Int)+((↑j:Int)-1))=((↑k:Int)+((↑j:Int)-1)) from by first|exact IntWalk.i64_in _ (by omega)|(simp only[IntKind.wrap];omega)).trans (by omega))) ?_
  refine xx 0 _ l.length (k+(j-1)) 1 (Bys.elem h (k:=(k+(j-1))) (by omega)).1 ?_
  refine xl 0 ((Bys.elem (h.below hB_2) (k:=(k+(j-1))) (by omega)).2) ?_
  refine xq 0 (congrArg (Value.int .u64) (show(IntKind.u64.wrap (↑(l.getD (k+(j-1)) 0).toNat:Int):Int)=(↑(l.getD (k+(j-1)) 0).toNat:Int) from u64_nat (by have:=(l.getD (k+(j-1)) 0).toNat_lt;omega))) ?_
  refine xq 0 (congrArg (Value.int .u64) (show(IntKind.u64.wrap (↑(BitVec.ofInt 64 (IntKind.u64.wrap ((↑(Zf l (k+j) r):Int)*2 ^ 8)) ||| BitVec.ofInt 64 (↑(l.getD (k+(j-1)) 0).toNat:Int)).toNat:Int):Int)=(↑(Zf l (k+(j-1)) (r+1)):Int) from(Zbt (Zb8 l (k+j) r (by omega)) (l.getD (k+(j-1)) 0).toNat_lt).trans (congrArg (fun x:Nat=>(x:Int)) (by rw[Zf,show k+(j-1)+1=k+j by omega])))) ?_
  refine xq 6 (congrArg (Value.int .i64) (show IntKind.i64.wrap ((↑j:Int)-1-1)=((↑(j-1:Nat):Int)-1) from(show IntKind.i64.wrap ((↑j:Int)-1-1)=((↑j:Int)-1-1) from by first|exact IntWalk.i64_in _ (by omega)|(simp only[IntKind.wrap];omega)).trans (by omega))) ?_
  exact ze 2 (hJ2 _ _ _ ⟨j-1,r+1,rfl,rfl,hB_2,by omega⟩ (by omega))
 refine xk 12 (show(decide ((↑(Zf l (k+j) r):Int)≥(9223372036854775808:Int)):Bool)=false from by rw[(show Zf l (k+j) r=Zf l k w from by rw[show j=0 by omega,show r=w by omega];rfl)];exact decide_eq_false (by omega)) ?_
 refine xq 5 (congrArg (Value.int .i64) (show(IntKind.i64.wrap (↑(Zf l (k+j) r):Int):Int)=(↑(Zf l k w):Int) from by rw[(show Zf l (k+j) r=Zf l k w from by rw[show j=0 by omega,show r=w by omega];rfl)];exact Vk hq)) ?_
 exact xe 5 (.tuple #[.int .i64 (↑(Zf l k w):Int),.int .i64 0]) ⟨rfl,hB_2⟩
theorem Get_big(a:Option Addr)(c k w:Nat)(l:List UInt8)(W:World)(hw:w=1∨w=2∨w=4∨w=8)(hk:k+w≤l.length)(hl:l.length≤100000000)(h:Bys W (.slice a l.length c) l)(hq:¬ Zf l k w<9223372036854775808) :
 Calls Tryz.prog 147 #[.slice a l.length c,.int .i64 (↑k:Int),.int .i64 (↑w:Int)] W (Ret (.tuple #[.int .i64 0,.int .i64 2]) W):=by
 refine zin 38 Tryz.func147 ?_
 refine xr 12 (args:=#[.slice a l.length c,.int .i64 (↑k:Int),.int .i64 (↑w:Int)]) (Zbu a l.length c k w hw hk hl _) fun W1 hb1=>?_
 refine xw 21 ((↑w:Int)-1) ?_
 refine zl 4 38 (fun zm zkv V=>∃ (j r:Nat),zkv=[(0,.slice a l.length c),(1,.int .i64 (↑k:Int)),(6,.int .i64 0),(7,.int .i64 0),(9,.int .u64 (↑(Zf l (k+j) r):Int)),(10,.int .i64 ((↑j:Int)-1))]∧zm=(((↑j:Int)-1)+1).toNat∧Below W.heap.size W V∧j+r=w) ⟨w,0,rfl,rfl,hb1,by omega⟩ ?_
 rintro _ _ W2 ⟨j,r,rfl,rfl,hB_2,hjr⟩ J2 hJ2 r2
 refine xid 7 ((↑j:Int)-1≥(0:Int)) (fun hc3=>?_) (fun hc3=>?_)
 ·refine xq 10 (congrArg (Value.int .i64) (show IntKind.i64.wrap ((↑k:Int)+((↑j:Int)-1))=(↑(k+(j-1)):Int) from(show IntKind.i64.wrap ((↑k:Int)+((↑j:Int)-1))=((↑k:Int)+((↑j:Int)-1)) from by first|exact IntWalk.i64_in _ (by omega)|(simp only[IntKind.wrap];omega)).trans (by omega))) ?_
  refine xx 0 _ l.length (k+(j-1)) 1 (Bys.elem h (k:=(k+(j-1))) (by omega)).1 ?_
  refine xl 0 ((Bys.elem (h.below hB_2) (k:=(k+(j-1))) (by omega)).2) ?_
  refine xq 0 (congrArg (Value.int .u64) (show(IntKind.u64.wrap (↑(l.getD (k+(j-1)) 0).toNat:Int):Int)=(↑(l.getD (k+(j-1)) 0).toNat:Int) from u64_nat (by have:=(l.getD (k+(j-1)) 0).toNat_lt;omega))) ?_
  refine xq 0 (congrArg (Value.int .u64) (show(IntKind.u64.wrap (↑(BitVec.ofInt 64 (IntKind.u64.wrap ((↑(Zf l (k+j) r):Int)*2 ^ 8)) ||| BitVec.ofInt 64 (↑(l.getD (k+(j-1)) 0).toNat:Int)).toNat:Int):Int)=(↑(Zf l (k+(j-1)) (r+1)):Int) from(Zbt (Zb8 l (k+j) r (by omega)) (l.getD (k+(j-1)) 0).toNat_lt).trans (congrArg (fun x:Nat=>(x:Int)) (by rw[Zf,show k+(j-1)+1=k+j by omega])))) ?_
  refine xq 6 (congrArg (Value.int .i64) (show IntKind.i64.wrap ((↑j:Int)-1-1)=((↑(j-1:Nat):Int)-1) from(show IntKind.i64.wrap ((↑j:Int)-1-1)=((↑j:Int)-1-1) from by first|exact IntWalk.i64_in _ (by omega)|(simp only[IntKind.wrap];omega)).trans (by omega))) ?_
  exact ze 2 (hJ2 _ _ _ ⟨j-1,r+1,rfl,rfl,hB_2,by omega⟩ (by omega))
 refine xk 12 (show(decide ((↑(Zf l (k+j) r):Int)≥(9223372036854775808:Int)):Bool)=true from by rw[(show Zf l (k+j) r=Zf l k w from by rw[show j=0 by omega,show r=w by omega];rfl)];exact decide_eq_true (by omega)) ?_
 exact xe 8 (.tuple #[.int .i64 0,.int .i64 2]) ⟨rfl,hB_2⟩
def Kc(l:List UInt8):Nat→List Nat→List Nat
 | _,[]=>[]
 | k,w::r=>Zf l k w::Kc l (k+w) r
theorem Sg(l:List UInt8):∀ (ws:List Nat) (k:Nat),(Kc l k ws).length=ws.length
 | [],k=>rfl
 | w::r,k=>by simp[Kc,Sg l r]
theorem Uc(l:List UInt8)(w:Nat):∀ (ws:List Nat) (k:Nat),Kc l k (ws++[w])=Kc l k ws++[Zf l (k+ws.sum) w]
 | [],k=>by simp[Kc]
 | x::r,k=>by simp[Kc,Uc l w r,Nat.add_assoc]
theorem Nj(l:List UInt8):∀ (ws:List Nat) (k i:Nat),i<ws.length→(Kc l k ws).getD i 0=Zf l (k+(ws.take i).sum) (ws.getD i 0)
 | [],k,i,h=>by simp at h
 | w::r,k,0,h=>by simp[Kc]
 | w::r,k,i+1,h=>by
  have:=Nj l r (k+w) i (by simpa using h)
  simp only[List.getD_eq_getElem?_getD] at this ⊢
  simp[Kc,this,Nat.add_assoc]
theorem Vv{ws:List Nat}{i:Nat}(h:i<ws.length):ws.take (i+1)=ws.take i++[ws.getD i 0]:=by
 rw[List.take_succ_eq_append_getElem h];simp[List.getD,h]
theorem Hu{ws:List Nat}{i:Nat}(h:i<ws.length):(ws.take i).sum+ws.getD i 0≤ws.sum:=by
 have h1:=Th h;have h2:=take_le (L:=ws) (i+1);omega
def Zd0(l:List UInt8)(k w:Nat):Int:=if Zf l k w<9223372036854775808 then(Zf l k w:Int) else 0
def Of(l:List UInt8)(k w:Nat):Int:=if Zf l k w<9223372036854775808 then 0 else 2
theorem Ae{l:List UInt8}{k w:Nat}(h:Of l k w=0):Zf l k w<9223372036854775808:=by unfold Of at h;split at h;assumption;cases h
theorem Zcq{l:List UInt8}{k w:Nat}(h:Of l k w≠0):¬ Zf l k w<9223372036854775808∧Of l k w=2:=by unfold Of at h ⊢;split at h;exact absurd rfl h;rename_i h2;exact⟨h2,if_neg h2⟩
theorem Ro{l:List UInt8}{k w:Nat}(h:Zf l k w<9223372036854775808):Of l k w=0:=if_pos h
theorem Mf{l:List UInt8}{k w:Nat}(h:Zf l k w<9223372036854775808):Zd0 l k w=(Zf l k w:Int):=if_pos h
theorem Get_gen(a:Option Addr)(c k w:Nat)(l:List UInt8)(W:World)(hw:w=1∨w=2∨w=4∨w=8)(hk:k+w≤l.length)(hl:l.length≤100000000)(h:Bys W (.slice a l.length c) l) :
 Calls Tryz.prog 147 #[.slice a l.length c,.int .i64 (↑k:Int),.int .i64 (↑w:Int)] W (Ret (.tuple #[.int .i64 (Zd0 l k w),.int .i64 (Of l k w)]) W):=by
 by_cases hq:Zf l k w<9223372036854775808
 ·rw[Mf hq,Ro hq];exact Zbm a c k w l W hw hk hl h hq
 ·rw[Zd0,Of,if_neg hq,if_neg hq];exact Get_big a c k w l W hw hk hl h hq
theorem Ai(a:Option Addr)(c:Nat)(l:List UInt8)(aw:Option Addr)(cw:Nat)(ws:List Nat)(W:World)(hk:∀ i,i<ws.length→ws.getD i 0=1∨ws.getD i 0=2∨ws.getD i 0=4∨ws.getD i 0=8)(hs:ws.sum≤l.length)(hl:l.length≤100000000)(hw:ws.length≤1000)(h:Bys W (.slice a l.length c) l)(hws:Sl W (.slice aw ws.length cw) ws.length (ws.map nv))(hq:∀ i,i<ws.length→(Kc l 0 ws).getD i 0<9223372036854775808) :
 Calls Tryz.prog 164 #[.slice a l.length c,.slice aw ws.length cw] W (Yz (fun w' r=>∃ p c,r=.tuple #[.slice p ws.length c,.int .i64 0]∧w'.ownsRow W.heap.size 3 1 (.slice p ws.length c) ws.length ((Kc l 0 ws).map nv)) W):=by
 refine zin 37 Tryz.func164 ?_
 have hB:=Below.refl W.heap.size W
 refine zl 25 37 (fun zm zkv V=>∃ (i:Nat) (p:Option Addr) (c2:Nat),zkv=[(0,.slice a l.length c),(6,.slice p i c2),(7,.int .i64 (↑(ws.take i).sum:Int)),(12,.slice aw ws.length cw),(13,.int .i64 (↑ws.length:Int)),(14,.int .i64 (↑i:Int))]∧zm=ws.length-((↑i:Int)).toNat∧Below W.heap.size W V∧V.ownsRow W.heap.size 3 1 (.slice p i c2) i ((Kc l 0 (ws.take i)).map nv)∧i≤ws.length) ⟨0,_,_,rfl,rfl,hB,World.ownsRow_nil _ _ _ _,Nat.zero_le _⟩ ?_
 rintro _ _ W1 ⟨i,p,c2,rfl,rfl,hB_1,ho,hi⟩ J1 hJ1 r1
 have hts:i<ws.length→(ws.take i).sum+ws.getD i 0≤ws.sum:=Hu
 have hui:i<ws.length→(Kc l 0 ws).getD i 0=Zf l (ws.take i).sum (ws.getD i 0):=fun h=>by rw[Nj l ws 0 i h,Nat.zero_add]
 refine xid 6 ((↑i:Int)<(↑ws.length:Int)) (fun hc2=>?_) (fun hc2=>?_)
 ·refine xx 6 _ ws.length i 1 (Zi hws rfl (k:=i) (by omega)).1 ?_
  refine xl 0 ((Zi (hws.below hB_1) rfl (k:=i) (by omega)).2) ?_
  refine xr 8 (args:=#[.slice a l.length c,.int .i64 (↑(ws.take i).sum:Int),.int .i64 (↑(ws.getD i 0):Int)]) (Get_gen a c (ws.take i).sum (ws.getD i 0) l _ (hk i (by omega)) (by omega) hl (h.below hB_1)) fun W3 hb3=>?_
  refine xk 14 (show(((Of l (ws.take i).sum (ws.getD i 0)) != (0:Int)):Bool)=false from by rw[Ro (by rw[←hui (by omega)];exact hq i (by omega))];rfl) ?_
  refine xbs 6 1 [.int .i64 (Zd0 l (ws.take i).sum (ws.getD i 0))] 3 fun b4 W4 n4=>?_
  have hB'1:=bln hB_1 hb3
  have g4:=n4.ge hB'1
  have ho'1:=Zb ho hb3
  have r4_ho:=Zr ho'1 n4
  have ho'2:=Zb ho'1 n4.below
  have hB'2:=bln hB'1 n4.below
  refine xbi 0 fun _ _ _ _ zJ zQ zo zx zy zK=>Zo (m:=1) (news:=[.int .i64 (Zd0 l (ws.take i).sum (ws.getD i 0))]) (.int .i64 0) 1 8 (i+1) ((Kc l 0 (ws.take (i+1))).map nv) zo Tryz.underlying31 (by kernel_rfl) rfl (by decide) zx ho'2 zy (n4.blk.sl 1 1 (by decide) (by decide)) rfl (by simp[Value.oneCell']) (by unfold maxLen;omega) (by omega) hB'2.size (by rfl) (by rw[Vv (by omega),Uc,Nat.zero_add,List.map_append];simp only[List.map_cons,List.map_nil,nv];rw[Mf (by rw[←hui (by omega)];exact hq i (by omega))]) fun px5 cx5 W5 o5 hg5 hb5=>?_
  refine zK _ _ ?_
  refine xwm 6 ((↑(ws.take i).sum:Int)+(↑(ws.getD i 0):Int)) (↑((ws.take i).sum+(ws.getD i 0)):Int) ?_
  refine xwm 5 ((↑i:Int)+1) (↑(i+1):Int) ?_
  refine xv1 2 7 (show(.int .i64 (↑((ws.take i).sum+(ws.getD i 0)):Int):Value)=.int .i64 (↑(ws.take (i+1)).sum:Int) from by rw[Vv (by omega),List.sum_append];simp) ?_
  have hB'3:=hB'2.trans hb5
  exact ze 0 (hJ1 _ _ _ ⟨i+1,_,_,rfl,rfl,hB'3,o5,by omega⟩ (by omega))
 refine xe 13 (.tuple #[.slice p i c2,.int .i64 0]) ?_
 obtain rfl:i=ws.length:=by omega
 rw[List.take_length] at ho
 exact⟨_,rfl,hB_1,_,_,rfl,ho⟩
theorem Zdk(a:Option Addr)(c:Nat)(l:List UInt8)(aw:Option Addr)(cw:Nat)(ws:List Nat)(W:World)(hk:∀ i,i<ws.length→ws.getD i 0=1∨ws.getD i 0=2∨ws.getD i 0=4∨ws.getD i 0=8)(hs:ws.sum≤l.length)(hl:l.length≤100000000)(hw:ws.length≤1000)(h:Bys W (.slice a l.length c) l)(hws:Sl W (.slice aw ws.length cw) ws.length (ws.map nv))(hq:¬ ∀ i,i<ws.length→(Kc l 0 ws).getD i 0<9223372036854775808) :
 Calls Tryz.prog 164 #[.slice a l.length c,.slice aw ws.length cw] W (Ret (.tuple #[.slice none 0 0,.int .i64 2]) W):=by
 refine zin 37 Tryz.func164 ?_
 have hB:=Below.refl W.heap.size W
 refine zl 25 37 (fun zm zkv V=>∃ (i:Nat) (p:Option Addr) (c2:Nat),zkv=[(0,.slice a l.length c),(6,.slice p i c2),(7,.int .i64 (↑(ws.take i).sum:Int)),(12,.slice aw ws.length cw),(13,.int .i64 (↑ws.length:Int)),(14,.int .i64 (↑i:Int))]∧zm=ws.length-((↑i:Int)).toNat∧Below W.heap.size W V∧V.ownsRow W.heap.size 3 1 (.slice p i c2) i ((Kc l 0 (ws.take i)).map nv)∧i≤ws.length∧(∀ j,j<i→(Kc l 0 ws).getD j 0<9223372036854775808)) ⟨0,_,_,rfl,rfl,hB,World.ownsRow_nil _ _ _ _,Nat.zero_le _,?_⟩ ?_
 ·exact fun j hj=>absurd hj (by omega)
 rintro _ _ W1 ⟨i,p,c2,rfl,rfl,hB_1,ho,hi,hall⟩ J1 hJ1 r1
 have hts:i<ws.length→(ws.take i).sum+ws.getD i 0≤ws.sum:=Hu
 have hui:i<ws.length→(Kc l 0 ws).getD i 0=Zf l (ws.take i).sum (ws.getD i 0):=fun h=>by rw[Nj l ws 0 i h,Nat.zero_add]
 refine xid 6 ((↑i:Int)<(↑ws.length:Int)) (fun hc2=>?_) (fun hc2=>?_)
 ·refine xx 6 _ ws.length i 1 (Zi hws rfl (k:=i) (by omega)).1 ?_
  refine xl 0 ((Zi (hws.below hB_1) rfl (k:=i) (by omega)).2) ?_
  refine xr 8 (args:=#[.slice a l.length c,.int .i64 (↑(ws.take i).sum:Int),.int .i64 (↑(ws.getD i 0):Int)]) (Get_gen a c (ws.take i).sum (ws.getD i 0) l _ (hk i (by omega)) (by omega) hl (h.below hB_1)) fun W3 hb3=>?_
  refine xin 14 (Of l (ws.take i).sum (ws.getD i 0)) (0:Int) (fun hc4=>?_) (fun hc4=>?_)
  ·have hgr:=Zcq hc4
   have hB'1:=bln hB_1 hb3
   refine xe 14 (.tuple #[.slice none 0 0,.int .i64 (Of l (ws.take i).sum (ws.getD i 0))]) ?_
   rw[hgr.2];exact⟨rfl,hB'1⟩
  have hgr:=Ae hc4
  refine xbs 6 1 [.int .i64 (Zd0 l (ws.take i).sum (ws.getD i 0))] 3 fun b5 W5 n5=>?_
  have hB'2:=bln hB_1 hb3
  have g5:=n5.ge hB'2
  have ho'1:=Zb ho hb3
  have r5_ho:=Zr ho'1 n5
  have ho'2:=Zb ho'1 n5.below
  have hB'3:=bln hB'2 n5.below
  refine xbi 0 fun _ _ _ _ zJ zQ zo zx zy zK=>Zo (m:=1) (news:=[.int .i64 (Zd0 l (ws.take i).sum (ws.getD i 0))]) (.int .i64 0) 1 8 (i+1) ((Kc l 0 (ws.take (i+1))).map nv) zo Tryz.underlying31 (by kernel_rfl) rfl (by decide) zx ho'2 zy (n5.blk.sl 1 1 (by decide) (by decide)) rfl (by simp[Value.oneCell']) (by unfold maxLen;omega) (by omega) hB'3.size (by rfl) (by rw[Vv (by omega),Uc,Nat.zero_add,List.map_append];simp only[List.map_cons,List.map_nil,nv];rw[Mf hgr]) fun px6 cx6 W6 o6 hg6 hb6=>?_
  refine zK _ _ ?_
  refine xwm 6 ((↑(ws.take i).sum:Int)+(↑(ws.getD i 0):Int)) (↑((ws.take i).sum+(ws.getD i 0)):Int) ?_
  refine xwm 5 ((↑i:Int)+1) (↑(i+1):Int) ?_
  refine xv1 2 7 (show(.int .i64 (↑((ws.take i).sum+(ws.getD i 0)):Int):Value)=.int .i64 (↑(ws.take (i+1)).sum:Int) from by rw[Vv (by omega),List.sum_append];simp) ?_
  have hB'4:=hB'3.trans hb6
  exact ze 0 (hJ1 _ _ _ ⟨i+1,_,_,rfl,rfl,hB'4,o6,by omega,fun j hj=>(Nat.lt_or_ge j i).elim (fun q=>hall j q) (fun q=>by obtain rfl:j=i:=(by omega);rw[hui (by omega)];exact hgr)⟩ (by omega))
 refine xe 13 (.tuple #[.slice p i c2,.int .i64 0]) ?_
 exact absurd (fun j hj=>hall j (by omega)) hq
theorem Yp{P:Program}{a:Act}{o:Oper}{src dst e:TypeId}{x:Operand}{b:Option Addr}{n c:Nat}{l:List UInt8}{w:World}(ho:o.op=.convert src dst x)(hx:a.eval x=.slice b n c)(h:Bys w (.slice b n c) l)(hl:l.length=n)
 (hs:P.underlying src=some (.slice e)) (he:P.underlying e=some (.int .u8)) (hd:P.underlying dst=some .string):(execOp a.eval o).run P w=.ok (.value (.string ⟨l.toArray⟩)) w:=by
 have hr:(convert src dst (.slice b n c)).run P w=.ok (.string ⟨l.toArray⟩) w:=by
  subst hl
  rcases Sl.at h with hn|⟨g,off,rfl,hc⟩
  ·obtain rfl:l=[]:=by simpa using hn
   cases b with
   | none=>rw[run_convert_bytes_string w src dst e none _ c hs he hd];rfl
   | some p=>exact run_convert_bytes_back w src dst e p c [] hs he hd (fun j hj=>by simp at hj)
  ·exact run_convert_bytes_back w src dst e _ c l hs he hd (fun j hj=>by rw[Addr.add_mid];exact hc j _ (by simp[List.getElem?_eq_getElem hj,bv]))
 simp only[execOp,ho,hx,Sem.run_bind,hr];rfl
theorem Al.below{B ba b g n c:Nat}{pa:Option Addr}{ca f N k:Nat}{l:List UInt8}{w W:World}(h:Al B ba b g n c pa ca f N k l w)(hb:Below w.heap.size w W):Al B ba b g n c pa ca f N k l W:=⟨h.blkA.below hb,h.blkI.below hb,Zb h.data hb,Zb h.nums hb⟩
theorem Gz{w:World}{base n c size:Nat}{e:TypeId}{p:Option Addr}{xs:List Value}(h:w.ownsRow base e size (.slice p n c) n xs)(hn:0<n):∃ g,p=some ⟨g,0,none⟩∧n≤c:=by
 rcases h.2 with ⟨_,h0⟩|⟨g,cap,cur,hv,_,_,hc,_⟩
 ·omega
 ·simp only[Value.slice.injEq] at hv;exact⟨g,hv.1,by omega⟩
theorem Bys.cap{w:World}{a:Option Addr}{n c:Nat}{l:List UInt8}(h:Bys w (.slice a n c) l)(hl:l.length=n):n≤c:=by
 rcases h with ⟨a',c',h1,h2,_⟩|⟨b,off,cap,h1,h2,_,_⟩
 ·omega
 ·simp only[Value.slice.injEq] at h1;omega
theorem image_OfN(a:Option Addr)(c n m:Nat)(l:List UInt8)(w:World)(hn:l.length=n)(hm:min (n/256) 14400*256=m)(h:Bys w (.slice a n c) l)(hl:n≤100000000)(hc:n≤c) :
 Calls Tryz.prog 9 #[.slice a n c] w (Yz (fun w' r=>∃ b p c,r=.pointer (some ⟨b,0,none⟩)∧w.heap.size≤b∧Blk w' b [.slice p m c] 103∧w'.ownsRow w.heap.size 5 1 (.slice p m c) m ((l.take m).map bv)) w):=by
 subst hn hm;exact Zbo a c l w h hl hc
theorem Zdp(b:Nat)(p0:Option Addr)(n c f N:Nat)(fi:Int)(hfi:fi=(f:Int))(hN:n/256-f=N)(w:World)(hk:Blk w b [.slice p0 n c] 103)(hn:n≤3686400)(h1:1≤f)(h2:f≤n/256) :
 Calls Tryz.prog 24 #[.pointer (some ⟨b,0,none⟩),.int .i64 fi] w (Yz (fun w' r=>∃ ba p c2,r=.tuple #[.pointer (some ⟨ba,0,none⟩),.nilIface]∧w.heap.size≤ba∧Blk w' ba [.slice p N c2,.int .i64 0,.pointer (some ⟨b,0,none⟩)] 153∧w'.ownsRow w.heap.size 3 1 (.slice p N c2) N ((Fn f N).map (Value.int .i64))) w):=by
 subst hfi hN;exact alloc_New b p0 n c f w hk hn h1 h2
end Go.Proofs.YtlmaglneeaecdaaGreatDoor
namespace Go.Proofs.YtlmaglneeaecdaaGreatDoor
set_option maxHeartbeats 8000000
set_option maxRecDepth 100000
open Go.RowKit Go.Extern.Stop Go.Stop Go.Extern
set_option linter.unusedVariables false
attribute [local irreducible] wpList wpAnyH Code.wp Oper.wp Go
section
variable {P:Program} {a:Act}
theorem Yj{o:Oper}{t e:TypeId}{x y y2:Operand}{b:Option Addr}{n k h c:Nat}{i j:Int}{ki kj:IntKind}(size:Nat)(ho:o.op=.slice t x (some y) (some y2) none)(hx:a.eval x=.slice b n c)(hy:a.eval y=.int ki i)(hi:i=(k:Int))(hy2:a.eval y2=.int kj j)(hj:j=(h:Int))(hk:k≤h)(hc:h≤c)
 (ht:P.underlying t=some (.slice e)) (hs:(P.info? e).map (·.size)=some size) (w:World):(execOp a.eval o).run P w=.ok (.value (.slice (Qy b k c size) (h-k) (c-k))) w:=by
 cases hq:P.info? e with
 | none=>simp[hq] at hs
 | some q =>
  have hj':q.size=size:=by simpa [hq] using hs
  subst hi hj
  have h1:(0:Int)≤(k:Int):=by omega
  have h2:(0:Int)≤(h:Int):=by omega
  have h3:(k:Int)≤(h:Int):=by omega
  have h4:(h:Int)≤(c:Int):=by omega
  by_cases h5:c=k
  ·simp_all [execOp,Instr.sliceAt,Instr.slice,Instr.sliceBounds,Instr.sliceBound,asIntOf,run_underlying ht,sizeOf,typeInfo,Qy]
  ·simp_all [execOp,Instr.sliceAt,Instr.slice,Instr.sliceBounds,Instr.sliceBound,asIntOf,run_underlying ht,sizeOf,typeInfo,Qy]
end
theorem Bys.cut{w:World}{b:Option Addr}{n c:Nat}{l:List UInt8}(h:Bys w (.slice b n c) l)(hl:l.length=n)(k m:Nat)(hk:k≤m)(hm:m≤n):Bys w (.slice (Qy b k c 1) (m-k) (c-k)) ((l.drop k).take (m-k)):=by
 have hlen:((l.drop k).take (m-k)).length=m-k:=by simp;omega
 have hcap:=Bys.cap h hl
 rcases h with ⟨a',c',h1,h2,h3⟩|⟨g,off,cap,h1,h2,h3,h4⟩
 ·obtain rfl:k=0:=by omega
  obtain rfl:m=0:=by omega
  refine .inl ⟨Qy b 0 c 1,c-0,?_,by simp,by simp⟩
  simp
 ·simp only[Value.slice.injEq] at h1
  obtain⟨rfl,_,rfl⟩:=h1
  by_cases hz:m-k=0
  ·refine .inl ⟨Qy (some ⟨g,off,none⟩) k c 1,c-k,by rw[hz],by omega,?_⟩
   rw[hz];rfl
  ·refine .inr ⟨g,off+k*1,c-k,?_,by omega,by omega,fun j x hj=>?_⟩
   ·rw[Qy,if_neg (by omega),hlen];simp[Addr.add]
   ·rw[List.getElem?_map,List.getElem?_take] at hj
    split at hj
    ·rw[List.getElem?_drop] at hj
     have:=h4 (k+j) x (by rw[List.getElem?_map];exact hj)
     rwa [Nat.mul_one,Nat.add_assoc]
    ·cases hj
def Yy(l:List UInt8):Bool:=l.all (·==0)
theorem Ma{l:List UInt8}(h:∀ j,j<l.length→l.getD j 0=0):Yy l=true:=by
 unfold Yy
 rw[List.all_eq_true]
 intro x hx
 obtain⟨j,hj,rfl⟩:=List.mem_iff_getElem.1 hx
 have:=h j hj
 simpa [List.getD,hj] using this
theorem Cy{l:List UInt8}{j:Nat}(hj:j<l.length)(h:((l.getD j 0).toNat:Int)≠0):Yy l=false:=by
 unfold Yy
 rw[List.all_eq_false]
 refine⟨l[j],List.getElem_mem hj,?_⟩
 intro h2
 apply h
 have:l[j]=0:=by simpa using h2
 simp[List.getD,hj,this]
theorem Ac{x:UInt8}(h:(x.toNat:Int)=0):x=0:=by
 have h1:x.toNat=0:=by omega
 exact UInt8.toNat_inj.1 (by rw[h1];rfl)
theorem zero_1(n:Int)(w:World) :
 Calls Tryz.prog 235 #[.int .u8 n] w (Ret (.bool (n != 0)) w):=by
 refine zin 5 Tryz.func235 ?_
 exact xe 13 (.bool (n != (0:Int))) ⟨rfl,(Below.refl w.heap.size _)⟩
theorem Zg1(a:Option Addr)(c:Nat)(l:List UInt8)(w:World)(hl:l.length≤100000000)(h:Bys w (.slice a l.length c) l) :
 Calls Tryz.prog 238 #[.slice a l.length c,.func (.func 235) #[] #[]] w (fun e w'=>(Yy l=true∧e=.returned (.int .i64 (-1))∧Below w.heap.size w w')∨(Yy l=false∧∃ i:Nat,e=.returned (.int .i64 (i:Int))∧Below w.heap.size w w')):=by
 refine zin 19 Tryz.func238 ?_
 have hB:=Below.refl w.heap.size w
 refine zl 14 19 (fun zm zkv V=>∃ (i:Nat),zkv=[(0,.slice a l.length c),(1,.func (.func 235) #[] #[]),(7,.int .i64 (↑l.length:Int)),(8,.int .i64 (↑i:Int))]∧zm=l.length-((↑i:Int)).toNat∧Below w.heap.size w V∧i≤l.length∧(∀ j,j<i→l.getD j 0=0)) ⟨0,rfl,rfl,hB,Nat.zero_le _,?_⟩ ?_
 ·exact fun j hj=>absurd hj (by omega)
 rintro _ _ W1 ⟨i,rfl,rfl,hB_1,hi,hz⟩ J1 hJ1 r1
 refine xid 6 ((↑i:Int)<(↑l.length:Int)) (fun hc2=>?_) (fun hc2=>?_)
 ·refine xx 15 _ l.length i 1 (Bys.elem h (k:=i) (by omega)).1 ?_
  refine xl 0 ((Bys.elem (h.below hB_1) (k:=i) (by omega)).2) ?_
  refine xr 0 (args:=#[.int .u8 (↑(l.getD i 0).toNat:Int)]) (zero_1 (↑(l.getD i 0).toNat:Int) _) fun W3 hb3=>?_
  refine xin 2 (↑(l.getD i 0).toNat:Int) (0:Int) (fun hc4=>?_) (fun hc4=>?_)
  ·have hB'1:=bln hB_1 hb3
   exact xe 12 (.int .i64 (↑i:Int)) (.inr ⟨Cy (j:=i) (by omega) (by assumption),_,rfl,hB'1⟩)
  refine xwm 4 ((↑i:Int)+1) (↑(i+1):Int) ?_
  have hB'2:=bln hB_1 hb3
  exact ze 2 (hJ1 _ _ _ ⟨i+1,rfl,rfl,hB'2,by omega,fun j hj=>(Nat.lt_or_ge j i).elim (hz j) (fun q=>by obtain rfl:j=i:=(by omega);exact Ac (by assumption))⟩ (by omega))
 exact xe 11 (.int .i64 (-1)) (.inl ⟨Ma (fun j hj=>hz j (by omega)),rfl,hB_1⟩)
theorem It(a:Option Addr)(c:Nat)(l:List UInt8)(w:World)(hl:l.length≤100000000)(h:Bys w (.slice a l.length c) l) :
 Calls Tryz.prog 234 #[.slice a l.length c,.func (.func 235) #[] #[]] w (Ret (.bool (!Yy l)) w):=by
 refine zin 9 Tryz.func234 ?_
 refine xc 9 (args:=#[.slice a l.length c,.func (.func 235) #[] #[]]) (Zg1 a c l _ hl (h.below (Below.refl w.heap.size _))) ?_
 rintro e W1 hq1
 rcases hq1 with ⟨hz,rfl,hb1⟩|⟨hz,i0,rfl,hb1⟩
 ·refine xe 5 (.bool false) ?_
  rw[hz];exact⟨rfl,hb1⟩
 refine xe 5 (.bool (decide ((↑i0:Int)≥(0:Int)))) ?_
 rw[hz,show decide ((↑i0:Int)≥(0:Int))=true from decide_eq_true (by omega)];exact⟨rfl,hb1⟩
theorem code_Zero(a:Option Addr)(c:Nat)(l:List UInt8)(w:World)(hl:l.length≤100000000)(h:Bys w (.slice a l.length c) l) :
 Calls Tryz.prog 218 #[.slice a l.length c] w (Ret (.bool (Yy l)) w):=by
 refine zin 6 Tryz.func218 ?_
 refine xr 8 (args:=#[.slice a l.length c,.func (.func 235) #[] #[]]) (It a c l _ hl (h.below (Below.refl w.heap.size _))) fun W1 hb1=>?_
 refine xe 5 (.bool (!(!Yy l))) ?_
 rw[Bool.not_not];exact⟨rfl,hb1⟩
def Vh(kind no:Int):Bool:=decide (1≤kind∧kind≤4∧0≤no∧no<14400)
theorem Zbk(kind no:Int)(w:World) :
 Calls Tryz.prog 196 #[.int .i64 kind,.int .i64 no] w (Ret (.bool (Vh kind no)) w):=by
 refine zin 19 Tryz.func196 ?_
 refine xg 10 [6,7] (decide (kind≥(1:Int))) (fun hc1=>?_) (fun hc1=>?_)
 ·have hc1:=of_decide_eq_true hc1
  refine xg 4 [9,10,11] (decide (kind≤(4:Int))) (fun hc2=>?_) (fun hc2=>?_)
  ·have hc2:=of_decide_eq_true hc2
   refine xg 4 [13,14,15] (decide (no≥(0:Int))) (fun hc3=>?_) (fun hc3=>?_)
   ·have hc3:=of_decide_eq_true hc3
    exact xe 7 (.bool (decide (no<(14400:Int)))) ⟨by rw[show Vh kind no=decide (no<14400) from decide_eq_decide.2 ⟨fun h=>h.2.2.2,fun h=>⟨by omega,by omega,by omega,h⟩⟩],(Below.refl w.heap.size _)⟩
   have hc3:=of_decide_eq_false hc3
   exact xe 7 (.bool false) ⟨by rw[show Vh kind no=false from decide_eq_false (by omega)],(Below.refl w.heap.size _)⟩
  have hc2:=of_decide_eq_false hc2
  exact xe 11 (.bool false) ⟨by rw[show Vh kind no=false from decide_eq_false (by omega)],(Below.refl w.heap.size _)⟩
 have hc1:=of_decide_eq_false hc1
 exact xe 15 (.bool false) ⟨by rw[show Vh kind no=false from decide_eq_false (by omega)],(Below.refl w.heap.size _)⟩
theorem Zg3(a:Option Addr)(c k w:Nat)(l:List UInt8)(W:World)(hw:w=1∨w=2∨w=4)(hk:k+w≤l.length)(hl:l.length≤100000000)(h:Bys W (.slice a l.length c) l) :
 Calls Tryz.prog 199 #[.slice a l.length c,.int .i64 (↑k:Int),.int .i64 (↑w:Int)] W (Ret (.int .i64 (Zf l k w:Int)) W):=by
 refine zin 17 Tryz.func199 ?_
 refine xr 10 (args:=#[.slice a l.length c,.int .i64 (↑k:Int),.int .i64 (↑w:Int)]) (Zbm a c k w l _ (by omega) hk hl (h.below (Below.refl W.heap.size _)) (by have:=Yo l k w (by omega);omega)) fun W1 hb1=>?_
 exact xe 14 (.int .i64 (↑(Zf l k w):Int)) ⟨rfl,hb1⟩
theorem Uo(a:Option Addr)(n c k w:Nat)(ki wi:Int)(l:List UInt8)(W:World)(hn:l.length=n)(hki:ki=(k:Int))(hwi:wi=(w:Int))(hw:w=1∨w=2∨w=4)(hk:k+w≤n)(hl:n≤100000000)(h:Bys W (.slice a n c) l) :
 Calls Tryz.prog 199 #[.slice a n c,.int .i64 ki,.int .i64 wi] W (Ret (.int .i64 (Zf l k w:Int)) W):=by
 subst hn hki hwi;exact Zg3 a c k w l W hw hk hl h
def Kx(kind no:Int)(l:List UInt8):Nat→Bool
 | 0=>!Vh kind no
 | 1=>(l.length:Int) != 256
 | 2=>(Zf l 252 4:Int) != (Nx l kind:Int)
 | 3=>(Zf l 0 4:Int) != no
 | 4=>(Zf l 4 2:Int) != kind
 | _=>(Zf l 6 2:Int) != 0
def Xt(kind no:Int)(l:List UInt8):Int :=
 if Kx kind no l 0 then 1 else if Kx kind no l 1 then 7 else if Kx kind no l 2 then 4 else if Kx kind no l 3 then 5 else if Kx kind no l 4 then 6 else if Kx kind no l 5 then 7 else 0
theorem Zgl{kind no:Int}{l:List UInt8}(h:Kx kind no l 1=false):l.length=256:=by
 have:(l.length:Int)=256:=Xp h
 omega
theorem open_1(kind no:Int)(w:World)(l:List UInt8)(bk:Nat)(kk:Blk w bk [.int .i64 kind] 3)(bn:Nat)(kn:Blk w bn [.int .i64 no] 3) :
 Calls Tryz.prog 195 #[.pointer (some ⟨bk,0,none⟩),.pointer (some ⟨bn,0,none⟩)] w (Ret (.bool (Kx kind no l 0)) w):=by
 refine zin 7 Tryz.func195 ?_
 refine xb 7 0 kk ?_
 refine xb 0 0 kn ?_
 refine xr 0 (args:=#[.int .i64 kind,.int .i64 no]) (Zbk kind no _) fun W1 hb1=>?_
 exact xe 5 (.bool (!(Vh kind no))) ⟨rfl,hb1⟩
theorem open_2(kind no:Int)(w:World)(bb:Nat)(a:Option Addr)(c:Nat)(l:List UInt8)(kb:Blk w bb [.slice a l.length c] 22) :
 Calls Tryz.prog 197 #[.pointer (some ⟨bb,0,none⟩)] w (Ret (.bool (Kx kind no l 1)) w):=by
 refine zin 5 Tryz.func197 ?_
 refine xb 7 0 kb ?_
 exact xe 6 (.bool ((↑l.length:Int) != (256:Int))) ⟨rfl,(Below.refl w.heap.size _)⟩
theorem seal_sumN(kind:Int)(a:Option Addr)(c n:Nat)(l:List UInt8)(w:World)(hn:l.length=n)(h256:n=256)(hc:256≤c)(h:Bys w (.slice a n c) l) :
 Calls Tryz.prog 200 #[.slice a n c,.int .i64 kind] w (Ret (.int .i64 (Nx l kind:Int)) w):=by
 subst h256;exact Zbr kind a c l w hn hc h
theorem open_3(kind no:Int)(w:World)(bb:Nat)(a:Option Addr)(c:Nat)(l:List UInt8)(kb:Blk w bb [.slice a l.length c] 22)(bk:Nat)(kk:Blk w bk [.int .i64 kind] 3)(hl:l.length=256)(hc:256≤c)(h:Bys w (.slice a l.length c) l) :
 Calls Tryz.prog 198 #[.pointer (some ⟨bb,0,none⟩),.pointer (some ⟨bk,0,none⟩)] w (Ret (.bool (Kx kind no l 2)) w):=by
 refine zin 9 Tryz.func198 ?_
 refine xd 6 .z ?_
 have kb'1:=kb.below (Za w)
 refine xb (.e [] 0) 0 kb'1 ?_
 refine xb (.e [] 2) 0 kb'1 ?_
 have kk'1:=kk.below (Za w)
 refine xb (.e [] 3) 0 kk'1 ?_
 have hB:=(Za w)
 refine xr (.o [] 1) (args:=#[.slice a l.length c,.int .i64 252,.int .i64 4]) (Uo a l.length c 252 4 252 4 l _ rfl rfl rfl (by decide) (by omega) (by omega) (h.below hB)) fun W1 hb1=>?_
 have hB'1:=bln hB hb1
 refine xr (.o [] 4) (args:=#[.slice a l.length c,.int .i64 kind]) (seal_sumN kind a c l.length l _ rfl hl hc (h.below hB'1)) fun W2 hb2=>?_
 have hB'2:=bln hB'1 hb2
 exact xe (.r [5,6] 3) (.bool ((↑(Zf l 252 4):Int) != (↑(Nx l kind):Int))) ⟨rfl,hB'2⟩
theorem open_4(kind no:Int)(w:World)(bb:Nat)(a:Option Addr)(c:Nat)(l:List UInt8)(kb:Blk w bb [.slice a l.length c] 22)(bn:Nat)(kn:Blk w bn [.int .i64 no] 3)(hl:l.length=256)(hc:256≤c)(h:Bys w (.slice a l.length c) l) :
 Calls Tryz.prog 201 #[.pointer (some ⟨bb,0,none⟩),.pointer (some ⟨bn,0,none⟩)] w (Ret (.bool (Kx kind no l 3)) w):=by
 refine zin 7 Tryz.func201 ?_
 refine xd 6 .z ?_
 have kb'1:=kb.below (Za w)
 refine xb (.e [] 0) 0 kb'1 ?_
 have kn'1:=kn.below (Za w)
 refine xb (.e [] 2) 0 kn'1 ?_
 have hB:=(Za w)
 refine xr (.o [] 1) (args:=#[.slice a l.length c,.int .i64 0,.int .i64 4]) (Uo a l.length c 0 4 0 4 l _ rfl rfl rfl (by decide) (by omega) (by omega) (h.below hB)) fun W1 hb1=>?_
 have hB'1:=bln hB hb1
 exact xe (.r [3,4] 3) (.bool ((↑(Zf l 0 4):Int) != no)) ⟨rfl,hB'1⟩
theorem open_5(kind no:Int)(w:World)(bb:Nat)(a:Option Addr)(c:Nat)(l:List UInt8)(kb:Blk w bb [.slice a l.length c] 22)(bk:Nat)(kk:Blk w bk [.int .i64 kind] 3)(hl:l.length=256)(hc:256≤c)(h:Bys w (.slice a l.length c) l) :
 Calls Tryz.prog 202 #[.pointer (some ⟨bb,0,none⟩),.pointer (some ⟨bk,0,none⟩)] w (Ret (.bool (Kx kind no l 4)) w):=by
 refine zin 7 Tryz.func202 ?_
 refine xd 6 .z ?_
 have kb'1:=kb.below (Za w)
 refine xb (.e [] 0) 0 kb'1 ?_
 have kk'1:=kk.below (Za w)
 refine xb (.e [] 2) 0 kk'1 ?_
 have hB:=(Za w)
 refine xr (.o [] 1) (args:=#[.slice a l.length c,.int .i64 4,.int .i64 2]) (Uo a l.length c 4 2 4 2 l _ rfl rfl rfl (by decide) (by omega) (by omega) (h.below hB)) fun W1 hb1=>?_
 have hB'1:=bln hB hb1
 exact xe (.r [3,4] 3) (.bool ((↑(Zf l 4 2):Int) != kind)) ⟨rfl,hB'1⟩
theorem open_6(kind no:Int)(w:World)(bb:Nat)(a:Option Addr)(c:Nat)(l:List UInt8)(kb:Blk w bb [.slice a l.length c] 22)(hl:l.length=256)(hc:256≤c)(h:Bys w (.slice a l.length c) l) :
 Calls Tryz.prog 203 #[.pointer (some ⟨bb,0,none⟩)] w (Ret (.bool (Kx kind no l 5)) w):=by
 refine zin 5 Tryz.func203 ?_
 refine xb 7 0 kb ?_
 refine xr 0 (args:=#[.slice a l.length c,.int .i64 6,.int .i64 2]) (Uo a l.length c 6 2 6 2 l _ rfl rfl rfl (by decide) (by omega) (by omega) (h.below (Below.refl w.heap.size _))) fun W1 hb1=>?_
 exact xe 5 (.bool ((↑(Zf l 6 2):Int) != (0:Int))) ⟨rfl,hb1⟩
def Ze4(kind no:Int)(l:List UInt8)(w:World)(e:Ending)(w':World):Prop :=
 (Xt kind no l≠0∧e=.returned (.tuple #[.slice none 0 0,.int .i64 (Xt kind no l)])∧Below w.heap.size w w') ∨
 (Xt kind no l=0∧∃ p c,e=.returned (.tuple #[.slice p 244 c,.int .i64 0])∧Below w.heap.size w w'∧w'.ownsRow w.heap.size 5 1 (.slice p 244 c) 244 (((l.drop 8).take 244).map bv))
theorem Ab(kind no:Int)(a:Option Addr)(c:Nat)(l:List UInt8)(w:World)(h:Bys w (.slice a l.length c) l) :
 Calls Tryz.prog 145 #[.slice a l.length c,.int .i64 kind,.int .i64 no] w (Ze4 kind no l w):=by
 have hcap:=h.cap rfl
 refine zin 39 Tryz.func145 ?_
 refine xa 2 [.slice a l.length c] 22 fun b1 W1 n1=>?_
 refine xa 0 [.int .i64 kind] 3 fun b2 W2 n2=>?_
 refine xa 0 [.int .i64 no] 3 fun b3 W3 n3=>?_
 have d3_b2:=n3.ne n2.blk
 refine xbs 18 6 [.func (.func 195) #[] #[.pointer (some ⟨b2,0,none⟩),.pointer (some ⟨b3,0,none⟩)],.int .i64 1,.func (.func 197) #[] #[.pointer (some ⟨b1,0,none⟩)],.int .i64 7,.func (.func 198) #[] #[.pointer (some ⟨b1,0,none⟩),.pointer (some ⟨b2,0,none⟩)],.int .i64 4,.func (.func 201) #[] #[.pointer (some ⟨b1,0,none⟩),.pointer (some ⟨b3,0,none⟩)],.int .i64 5,.func (.func 202) #[] #[.pointer (some ⟨b1,0,none⟩),.pointer (some ⟨b2,0,none⟩)],.int .i64 6,.func (.func 203) #[] #[.pointer (some ⟨b1,0,none⟩)],.int .i64 7] 344 fun b4 W4 n4=>?_
 refine xu 12 7 ?_
 refine xlv 14 (n4.blk.rpp 0 2) ?_
 refine xa 0 [.nilFunc,.int .i64 0] 344 fun b5 W5 n5=>?_
 have d5_b4:=n5.ne n4.blk
 refine xsv 0 n5.blk [.func (.func 195) #[] #[.pointer (some ⟨b2,0,none⟩),.pointer (some ⟨b3,0,none⟩)],.int .i64 1] fun W6 u6 k6=>?_
 have g5:=n5.ge (bln (bln (bln n1.below n2.below) n3.below) n4.below)
 refine xb 5 0 k6 ?_
 have k2'1:=u6.blkT (((n2.blk.below n3.below).below n4.below).below n5.below) n5.blk (by decide)
 have k3:=u6.blkT ((n3.blk.below n4.below).below n5.below) n5.blk (by decide)
 refine xr 0 (args:=#[.pointer (some ⟨b2,0,none⟩),.pointer (some ⟨b3,0,none⟩)]) (open_1 kind no _ l b2 k2'1 b3 k3) fun W7 hb7=>?_
 refine xi 2 (Kx kind no l 0) (fun hc8=>?_) (fun hc8=>?_)
 ·have hk1:=hc8
  refine xd 1 .z ?_
  have k6'1:=(k6.below hb7).below (Za W7)
  refine xb (.e [0] 1) 1 k6'1 ?_
  have hB:=bln (bln (u6.below (bln (bln (bln (bln n1.below n2.below) n3.below) n4.below) n5.below) g5) hb7) (Za W7)
  refine xe (.r [2,3] 8) (.tuple #[.slice none 0 0,.int .i64 1]) ?_
  have he:Xt kind no l=1:=by simp[Xt,hk1]
  exact .inl ⟨by rw[he];decide,by rw[he],hB⟩
 have hk1:=hc8
 have k4'1:=(u6.blk (n4.blk.below n5.below) (Ne.symm (Ne.symm d5_b4))).below hb7
 refine xlv 22 (k4'1.rpp 2 2) ?_
 refine xa 0 [.nilFunc,.int .i64 0] 344 fun b9 W9 n9=>?_
 have d9_b4:=n9.ne k4'1
 have k6'2:=k6.below hb7
 have d9_b5:=n9.ne k6'2
 refine xsv 0 n9.blk [.func (.func 197) #[] #[.pointer (some ⟨b1,0,none⟩)],.int .i64 7] fun W10 u10 k10=>?_
 have g9:=n9.ge (bln (u6.below (bln (bln (bln (bln n1.below n2.below) n3.below) n4.below) n5.below) g5) hb7)
 refine xb 5 0 k10 ?_
 have k1:=u10.blkT (((u6.blkT ((((n1.blk.below n2.below).below n3.below).below n4.below).below n5.below) n5.blk (by decide)).below hb7).below n9.below) n9.blk (by decide)
 refine xr 0 (args:=#[.pointer (some ⟨b1,0,none⟩)]) (open_2 kind no _ b1 a c l k1) fun W11 hb11=>?_
 refine xi 2 (Kx kind no l 1) (fun hc12=>?_) (fun hc12=>?_)
 ·have hk2:=hc12
  refine xd 1 .z ?_
  have k10'1:=(k10.below hb11).below (Za W11)
  refine xb (.e [0] 1) 1 k10'1 ?_
  have hB:=bln (bln (u10.below (bln (bln (u6.below (bln (bln (bln (bln n1.below n2.below) n3.below) n4.below) n5.below) g5) hb7) n9.below) g9) hb11) (Za W11)
  refine xe (.r [2,3] 8) (.tuple #[.slice none 0 0,.int .i64 7]) ?_
  have he:Xt kind no l=7:=by simp[Xt,hk1,hk2]
  exact .inl ⟨by rw[he];decide,by rw[he],hB⟩
 have hk2:=hc12
 have hl256:=Zgl hk2
 have k4'2:=(u10.blk (k4'1.below n9.below) (Ne.symm (Ne.symm d9_b4))).below hb11
 refine xlv 22 (k4'2.rpp 4 2) ?_
 refine xa 0 [.nilFunc,.int .i64 0] 344 fun b13 W13 n13=>?_
 have d13_b4:=n13.ne k4'2
 have k6'3:=(u10.blk (k6'2.below n9.below) (Ne.symm (Ne.symm d9_b5))).below hb11
 have d13_b5:=n13.ne k6'3
 have k10'2:=k10.below hb11
 have d13_b9:=n13.ne k10'2
 have hB:=bln (u10.below (bln (bln (u6.below (bln (bln (bln (bln n1.below n2.below) n3.below) n4.below) n5.below) g5) hb7) n9.below) g9) hb11
 have g13:=n13.ge hB
 refine xsv 0 n13.blk [.func (.func 198) #[] #[.pointer (some ⟨b1,0,none⟩),.pointer (some ⟨b2,0,none⟩)],.int .i64 4] fun W14 u14 k14=>?_
 refine xb 5 0 k14 ?_
 have k1'1:=u14.blkT ((k1.below hb11).below n13.below) n13.blk (by decide)
 have k2'2:=u14.blkT (((u10.blkT ((k2'1.below hb7).below n9.below) n9.blk (by decide)).below hb11).below n13.below) n13.blk (by decide)
 have hB'1:=u14.below (bln hB n13.below) g13
 refine xr 0 (args:=#[.pointer (some ⟨b1,0,none⟩),.pointer (some ⟨b2,0,none⟩)]) (open_3 kind no _ b1 a c l k1'1 b2 k2'2 (Zgl hk2) (by have:=Zgl hk2;have:=h.cap rfl;omega) (h.below hB'1)) fun W15 hb15=>?_
 refine xi 2 (Kx kind no l 2) (fun hc16=>?_) (fun hc16=>?_)
 ·have hk3:=hc16
  refine xd 1 .z ?_
  have k14'1:=(k14.below hb15).below (Za W15)
  refine xb (.e [0] 1) 1 k14'1 ?_
  have hB'2:=bln (bln hB'1 hb15) (Za W15)
  refine xe (.r [2,3] 8) (.tuple #[.slice none 0 0,.int .i64 4]) ?_
  have he:Xt kind no l=4:=by simp[Xt,hk1,hk2,hk3]
  exact .inl ⟨by rw[he];decide,by rw[he],hB'2⟩
 have hk3:=hc16
 have k4'3:=(u14.blk (k4'2.below n13.below) (Ne.symm (Ne.symm d13_b4))).below hb15
 refine xlv 22 (k4'3.rpp 6 2) ?_
 refine xa 0 [.nilFunc,.int .i64 0] 344 fun b17 W17 n17=>?_
 have d17_b4:=n17.ne k4'3
 have k6'4:=(u14.blk (k6'3.below n13.below) (Ne.symm (Ne.symm d13_b5))).below hb15
 have d17_b5:=n17.ne k6'4
 have k10'3:=(u14.blk (k10'2.below n13.below) (Ne.symm (Ne.symm d13_b9))).below hb15
 have d17_b9:=n17.ne k10'3
 have k14'2:=k14.below hb15
 have d17_b13:=n17.ne k14'2
 have hB'3:=bln hB'1 hb15
 have g17:=n17.ge hB'3
 refine xsv 0 n17.blk [.func (.func 201) #[] #[.pointer (some ⟨b1,0,none⟩),.pointer (some ⟨b3,0,none⟩)],.int .i64 5] fun W18 u18 k18=>?_
 refine xb 5 0 k18 ?_
 have k1'2:=u18.blkT ((k1'1.below hb15).below n17.below) n17.blk (by decide)
 have k3'1:=u18.blkT (((u14.blkT (((u10.blkT ((k3.below hb7).below n9.below) n9.blk (by decide)).below hb11).below n13.below) n13.blk (by decide)).below hb15).below n17.below) n17.blk (by decide)
 have hB'4:=u18.below (bln hB'3 n17.below) g17
 refine xr 0 (args:=#[.pointer (some ⟨b1,0,none⟩),.pointer (some ⟨b3,0,none⟩)]) (open_4 kind no _ b1 a c l k1'2 b3 k3'1 (Zgl hk2) (by have:=Zgl hk2;have:=h.cap rfl;omega) (h.below hB'4)) fun W19 hb19=>?_
 refine xi 2 (Kx kind no l 3) (fun hc20=>?_) (fun hc20=>?_)
 ·have hk4:=hc20
  refine xd 1 .z ?_
  have k18'1:=(k18.below hb19).below (Za W19)
  refine xb (.e [0] 1) 1 k18'1 ?_
  have hB'5:=bln (bln hB'4 hb19) (Za W19)
  refine xe (.r [2,3] 8) (.tuple #[.slice none 0 0,.int .i64 5]) ?_
  have he:Xt kind no l=5:=by simp[Xt,hk1,hk2,hk3,hk4]
  exact .inl ⟨by rw[he];decide,by rw[he],hB'5⟩
 have hk4:=hc20
 have k4'4:=(u18.blk (k4'3.below n17.below) (Ne.symm (Ne.symm d17_b4))).below hb19
 refine xlv 22 (k4'4.rpp 8 2) ?_
 refine xa 0 [.nilFunc,.int .i64 0] 344 fun b21 W21 n21=>?_
 have d21_b4:=n21.ne k4'4
 have k6'5:=(u18.blk (k6'4.below n17.below) (Ne.symm (Ne.symm d17_b5))).below hb19
 have d21_b5:=n21.ne k6'5
 have k10'4:=(u18.blk (k10'3.below n17.below) (Ne.symm (Ne.symm d17_b9))).below hb19
 have d21_b9:=n21.ne k10'4
 have k14'3:=(u18.blk (k14'2.below n17.below) (Ne.symm (Ne.symm d17_b13))).below hb19
 have d21_b13:=n21.ne k14'3
 have k18'2:=k18.below hb19
 have d21_b17:=n21.ne k18'2
 have hB'6:=bln hB'4 hb19
 have g21:=n21.ge hB'6
 refine xsv 0 n21.blk [.func (.func 202) #[] #[.pointer (some ⟨b1,0,none⟩),.pointer (some ⟨b2,0,none⟩)],.int .i64 6] fun W22 u22 k22=>?_
 refine xb 5 0 k22 ?_
 have k1'3:=u22.blkT ((k1'2.below hb19).below n21.below) n21.blk (by decide)
 have k2'3:=u22.blkT (((u18.blkT ((k2'2.below hb15).below n17.below) n17.blk (by decide)).below hb19).below n21.below) n21.blk (by decide)
 have hB'7:=u22.below (bln hB'6 n21.below) g21
 refine xr 0 (args:=#[.pointer (some ⟨b1,0,none⟩),.pointer (some ⟨b2,0,none⟩)]) (open_5 kind no _ b1 a c l k1'3 b2 k2'3 (Zgl hk2) (by have:=Zgl hk2;have:=h.cap rfl;omega) (h.below hB'7)) fun W23 hb23=>?_
 refine xi 2 (Kx kind no l 4) (fun hc24=>?_) (fun hc24=>?_)
 ·have hk5:=hc24
  refine xd 1 .z ?_
  have k22'1:=(k22.below hb23).below (Za W23)
  refine xb (.e [0] 1) 1 k22'1 ?_
  have hB'8:=bln (bln hB'7 hb23) (Za W23)
  refine xe (.r [2,3] 8) (.tuple #[.slice none 0 0,.int .i64 6]) ?_
  have he:Xt kind no l=6:=by simp[Xt,hk1,hk2,hk3,hk4,hk5]
  exact .inl ⟨by rw[he];decide,by rw[he],hB'8⟩
 have hk5:=hc24
 have k4'5:=(u22.blk (k4'4.below n21.below) (Ne.symm (Ne.symm d21_b4))).below hb23
 refine xlv 22 (k4'5.rpp 10 2) ?_
 refine xa 0 [.nilFunc,.int .i64 0] 344 fun b25 W25 n25=>?_
 have d25_b4:=n25.ne k4'5
 have k6'6:=(u22.blk (k6'5.below n21.below) (Ne.symm (Ne.symm d21_b5))).below hb23
 have d25_b5:=n25.ne k6'6
 have k10'5:=(u22.blk (k10'4.below n21.below) (Ne.symm (Ne.symm d21_b9))).below hb23
 have d25_b9:=n25.ne k10'5
 have k14'4:=(u22.blk (k14'3.below n21.below) (Ne.symm (Ne.symm d21_b13))).below hb23
 have d25_b13:=n25.ne k14'4
 have k18'3:=(u22.blk (k18'2.below n21.below) (Ne.symm (Ne.symm d21_b17))).below hb23
 have d25_b17:=n25.ne k18'3
 have k22'2:=k22.below hb23
 have d25_b21:=n25.ne k22'2
 have hB'9:=bln hB'7 hb23
 have g25:=n25.ge hB'9
 refine xsv 0 n25.blk [.func (.func 203) #[] #[.pointer (some ⟨b1,0,none⟩)],.int .i64 7] fun W26 u26 k26=>?_
 refine xb 5 0 k26 ?_
 have k1'4:=u26.blkT ((k1'3.below hb23).below n25.below) n25.blk (by decide)
 have hB'10:=u26.below (bln hB'9 n25.below) g25
 refine xr 0 (args:=#[.pointer (some ⟨b1,0,none⟩)]) (open_6 kind no _ b1 a c l k1'4  (Zgl hk2) (by have:=Zgl hk2;have:=h.cap rfl;omega) (h.below hB'10)) fun W27 hb27=>?_
 refine xi 2 (Kx kind no l 5) (fun hc28=>?_) (fun hc28=>?_)
 ·have hk6:=hc28
  refine xd 1 .z ?_
  have k26'1:=(k26.below hb27).below (Za W27)
  refine xb (.e [0] 1) 1 k26'1 ?_
  have hB'11:=bln (bln hB'10 hb27) (Za W27)
  refine xe (.r [2,3] 8) (.tuple #[.slice none 0 0,.int .i64 7]) ?_
  have he:Xt kind no l=7:=by simp[Xt,hk1,hk2,hk3,hk4,hk5,hk6]
  exact .inl ⟨by rw[he];decide,by rw[he],hB'11⟩
 have hk6:=hc28
 have k1'5:=k1'4.below hb27
 refine xb 22 0 k1'5 ?_
 refine xsB 0 (fun _ _ _ _ _ zo zx zy zz V=>Yj (k:=8) (h:=252) (b:=a) (n:=l.length) (c:=c) (i:=8) (ki:=.i64) (j:=252) (kj:=.i64) 1 zo zx zy rfl zz rfl (by omega) (by omega) Tryz.underlying22 (by kernel_rfl) V) ?_
 have hB'12:=bln hB'10 hb27
 refine xc 0 (args:=#[.slice (Qy a 8 c 1) 244 (c-8)]) (Qh (Qy a 8 c 1) 244 (c-8) ((l.drop 8).take 244) _ (by have:=Zgl hk2;simp;omega) ((Bys.cut h rfl 8 252 (by decide) (by have:=Zgl hk2;omega)).below hB'12) (by decide)) ?_
 rintro _ W29 ⟨_,rfl,hb29,ho⟩
 have hs29:=(bln hB'10 hb27).size
 have ho'1:=Zd ho hs29
 unfold Wm at ho'1
 rw[show((l.drop 8).take 244).length=244 from by have:=Zgl hk2;simp;omega] at ho'1
 obtain⟨p,c3,rfl⟩:=(Ze ho'1).slice
 have hB'13:=bln hB'12 hb29
 exact xe 5 (.tuple #[.slice p 244 c3,.int .i64 0]) (.inr ⟨by simp[Xt,hk1,hk2,hk3,hk4,hk5,hk6],_,_,rfl,hB'13,ho'1⟩)
end Go.Proofs.YtlmaglneeaecdaaGreatDoor
namespace Go.Proofs.YtlmaglneeaecdaaGreatDoor
set_option maxHeartbeats 8000000
set_option maxRecDepth 100000
open Go.RowKit Go.Extern.Stop Go.Stop Go.Extern
set_option linter.unusedVariables false
attribute [local irreducible] wpList wpAnyH Code.wp Oper.wp Go
section
variable {P:Program} {a:Act}
theorem run_shrU8{o:Oper}{t t2:TypeId}{x y:Operand}{n s:Nat}{j:Int}{kj:IntKind}(ho:o.op=.binOp .shr t x y t2)(hx:a.eval x=.int .u8 (n:Int))(hy:a.eval y=.int kj j)(hj:j=(s:Int))(hs:s≤8)(w:World):(execOp a.eval o).run P w=.ok (.value (.int .u8 ((n/2 ^ s:Nat):Int))) w:=by
 subst hj
 have e:=shift_shr_u8 kj (n:Int) (s:Int) (Int.natCast_nonneg s) (by omega)
 simp only[execOp,ho,hx,hy,eqGuard_shr,binOp_shr,e]
 simp
end
theorem Get_okN(a:Option Addr)(n c k w:Nat)(ki wi:Int)(l:List UInt8)(W:World)(hn:l.length=n)(hki:ki=(k:Int))(hwi:wi=(w:Int))(hw:w=1∨w=2∨w=4)(hk:k+w≤n)(hl:n≤100000000)(h:Bys W (.slice a n c) l) :
 Calls Tryz.prog 147 #[.slice a n c,.int .i64 ki,.int .i64 wi] W (Ret (.tuple #[.int .i64 (Zf l k w:Int),.int .i64 0]) W):=by
 subst hn hki hwi;exact Zbm a c k w l W (by omega) hk hl h (by have:=Yo l k w (by omega);omega)
def Ei(l:List UInt8)(i:Nat):Nat:=(l.getD (4+i/4) 0).toNat/2 ^ (i%4*2)%4
theorem i64_and3{n:Nat}(h:n<9223372036854775808):IntKind.i64.wrap (↑(BitVec.ofInt 64 (n:Int) &&& BitVec.ofInt 64 (3:Int)).toNat:Int)=((n%4:Nat):Int):=by
 rw[show(3:Int)=((3:Nat):Int) from rfl,BitVec.ofInt_natCast,BitVec.ofInt_natCast,BitVec.toNat_and,BitVec.toNat_ofNat,BitVec.toNat_ofNat,Nat.mod_eq_of_lt (by omega),Nat.mod_eq_of_lt (by omega)]
 rw[show n &&& 3=n%4 from Nat.and_two_pow_sub_one_eq_mod n 2]
 exact Vk (by omega)
theorem Gc(n k:Nat)(hn:n<9223372036854775808)(hk:0<k):IntKind.i64.wrap (Int.tdiv (n:Int) (k:Int))=((n/k:Nat):Int):=by
 rw[Int.tdiv_eq_ediv_of_nonneg (Int.natCast_nonneg _),←Int.natCast_ediv]
 exact Vk (Nat.lt_of_le_of_lt (Nat.div_le_self _ _) hn)
theorem He(n k:Nat):Int.tmod (n:Int) (k:Int)=((n%k:Nat):Int):=by
 rw[Int.tmod_eq_emod_of_nonneg (Int.natCast_nonneg _),←Int.natCast_emod]
theorem shr_lt(l:List UInt8)(k s:Nat):(l.getD k 0).toNat/2 ^ s<256:=Nat.lt_of_le_of_lt (Nat.div_le_self _ _) (l.getD k 0).toNat_lt
def Lz(l:List UInt8)(n:Nat):List Nat:=(List.range n).map (Ei l)
theorem Ra(l:List UInt8)(n:Nat):Lz l (n+1)=Lz l n++[Ei l n]:=by simp[Lz,List.range_succ]
def Zb9(l:List UInt8):Prop:=l.length=244∧Zf l 0 4≤960∧∀ i,i<960→Zf l 0 4≤i→Ei l i=0
def BitsP(l:List UInt8)(w:World)(e:Ending)(w':World):Prop :=
 (¬ Zb9 l∧e=.returned (.tuple #[.slice none 0 0,.int .i64 7])∧Below w.heap.size w w') ∨
 (Zb9 l∧∃ p c,e=.returned (.tuple #[.slice p (Zf l 0 4) c,.int .i64 0])∧Below w.heap.size w w'∧w'.ownsRow w.heap.size 3 1 (.slice p (Zf l 0 4) c) (Zf l 0 4) ((Lz l (Zf l 0 4)).map nv))
theorem Zgy(a:Option Addr)(c:Nat)(l:List UInt8)(w:World)(hl:l.length≤100000000)(h:Bys w (.slice a l.length c) l) :
 Calls Tryz.prog 184 #[.slice a l.length c] w (BitsP l w):=by
 refine zin 47 Tryz.func184 ?_
 refine xin 14 (↑l.length:Int) (244:Int) (fun hc1=>?_) (fun hc1=>?_)
 ·exact xe 8 (.tuple #[.slice none 0 0,.int .i64 7]) (.inl ⟨fun h=>by have:=h.1;omega,rfl,(Below.refl w.heap.size _)⟩)
 refine xr 5 (args:=#[.slice a l.length c,.int .i64 0,.int .i64 4]) (Get_okN a l.length c 0 4 0 4 l _ rfl rfl rfl (by decide) (by omega) hl (h.below (Below.refl w.heap.size _))) fun W2 hb2=>?_
 refine xid 14 ((↑(Zf l 0 4):Int)>(960:Int)) (fun hc3=>?_) (fun hc3=>?_)
 ·exact xe 8 (.tuple #[.slice none 0 0,.int .i64 7]) (.inl ⟨fun h=>by have:=h.2.1;omega,rfl,hb2⟩)
 refine zl 14 47 (fun zm zkv V=>∃ (i m:Nat) (p:Option Addr) (c2:Nat),zkv=[(0,.slice a l.length c),(4,.int .i64 (↑(Zf l 0 4):Int)),(6,.slice p m c2),(19,.int .i64 (↑i:Int))]∧zm=960-((↑i:Int)).toNat∧Below w.heap.size w V∧V.ownsRow w.heap.size 3 1 (.slice p m c2) m ((Lz l m).map nv)∧i≤960∧m=min i (Zf l 0 4)∧(∀ j,j<i→Zf l 0 4≤j→Ei l j=0)) ⟨0,0,_,_,rfl,rfl,hb2,World.ownsRow_nil _ _ _ _,Nat.zero_le _,by omega,?_⟩ ?_
 ·exact fun j hj=>absurd hj (by omega)
 rintro _ _ W4 ⟨i,m,p,c2,rfl,rfl,hB_4,ho,hi,hm,hz⟩ J4 hJ4 r4
 refine xid 6 ((↑i:Int)<(960:Int)) (fun hc5=>?_) (fun hc5=>?_)
 ·refine xq 14 (congrArg (Value.int .i64) (show(IntKind.i64.wrap (Int.tdiv (↑i:Int) 4):Int)=(↑(i/4):Int) from Gc i 4 (by omega) (by decide))) ?_
  refine xwm 0 (4+(↑(i/4):Int)) (↑(4+(i/4)):Int) ?_
  refine xx 0 _ l.length (4+(i/4)) 1 (Bys.elem h (k:=(4+(i/4))) (by omega)).1 ?_
  refine xl 0 ((Bys.elem (h.below hB_4) (k:=(4+(i/4))) (by omega)).2) ?_
  refine xq 1 (congrArg (Value.int .i64) (show(Int.tmod (↑i:Int) 4:Int)=(↑(i%4):Int) from He i 4)) ?_
  refine xwm 0 ((↑(i%4):Int)*2) (↑((i%4)*2):Int) ?_
  refine xbo 0 (t:=5) (t2:=3) (fun _ _ _ _ zo zx zy V hV=>run_shrU8 (n:=((l.getD (4+(i/4)) 0).toNat)) (s:=((i%4)*2)) (kj:=.i64) (j:=(↑((i%4)*2):Int)) zo zx zy rfl (by omega) V) ?_
  refine xq 0 (congrArg (Value.int .i64) (show(IntKind.i64.wrap (↑((l.getD (4+(i/4)) 0).toNat/2 ^ ((i%4)*2)):Int):Int)=(↑((l.getD (4+(i/4)) 0).toNat/2 ^ ((i%4)*2)):Int) from Vk (by have:=shr_lt l (4+i/4) (i%4*2);omega))) ?_
  refine xq 0 (congrArg (Value.int .i64) (show(IntKind.i64.wrap (↑(BitVec.ofInt 64 (↑((l.getD (4+(i/4)) 0).toNat/2 ^ ((i%4)*2)):Int) &&& BitVec.ofInt 64 (3:Int)).toNat:Int):Int)=(↑(Ei l i):Int) from i64_and3 (by have:=shr_lt l (4+i/4) (i%4*2);omega))) ?_
  refine xid 12 ((↑i:Int)<(↑(Zf l 0 4):Int)) (fun hc6=>?_) (fun hc6=>?_)
  ·refine xbs 3 1 [.int .i64 (↑(Ei l i):Int)] 3 fun b7 W7 n7=>?_
   have g7:=n7.ge hB_4
   have r7_ho:=Zr ho n7
   have ho'1:=Zb ho n7.below
   have hB'1:=bln hB_4 n7.below
   refine xbi 0 fun _ _ _ _ zJ zQ zo zx zy zK=>Zo (m:=1) (news:=[.int .i64 (↑(Ei l i):Int)]) (.int .i64 0) 1 8 (m+1) ((Lz l (m+1)).map nv) zo Tryz.underlying31 (by kernel_rfl) rfl (by decide) zx ho'1 zy (n7.blk.sl 1 1 (by decide) (by decide)) rfl (by simp[Value.oneCell']) (by unfold maxLen;omega) (by omega) hB'1.size (by rfl) (by rw[Ra,List.map_append,show m=i by omega];rfl) fun px8 cx8 W8 o8 hg8 hb8=>?_
   refine zK _ _ ?_
   refine xwm 6 ((↑i:Int)+1) (↑(i+1):Int) ?_
   have hB'2:=hB'1.trans hb8
   exact ze 2 (hJ4 _ _ _ ⟨i+1,m+1,_,_,rfl,rfl,hB'2,o8,by omega,by omega,fun j hj hc=>(Nat.lt_or_ge j i).elim (fun q=>hz j q hc) (fun q=>by obtain rfl:j=i:=(by omega);omega)⟩ (by omega))
  refine xin 7 (↑(Ei l i):Int) (0:Int) (fun hc9=>?_) (fun hc9=>?_)
  ·exact xe 13 (.tuple #[.slice none 0 0,.int .i64 7]) (.inl ⟨fun h=>by have:=h.2.2 i (by omega) (by omega);omega,rfl,hB_4⟩)
  refine xwm 5 ((↑i:Int)+1) (↑(i+1):Int) ?_
  exact ze 2 (hJ4 _ _ _ ⟨i+1,m,_,_,rfl,rfl,hB_4,ho,by omega,by omega,fun j hj hc=>(Nat.lt_or_ge j i).elim (fun q=>hz j q hc) (fun q=>by obtain rfl:j=i:=(by omega);omega)⟩ (by omega))
 refine xe 13 (.tuple #[.slice p m c2,.int .i64 0]) ?_
 obtain rfl:m=Zf l 0 4:=by omega
 exact .inr ⟨⟨by omega,by omega,fun j hj hc=>hz j (by omega) hc⟩,_,_,rfl,hB_4,ho⟩
end Go.Proofs.YtlmaglneeaecdaaGreatDoor
namespace Go.Proofs.YtlmaglneeaecdaaGreatDoor
set_option maxHeartbeats 8000000
set_option maxRecDepth 100000
open Go.RowKit
theorem Blk.ty{w:World}{b:Nat}{cs cs':List Value}{t t':TypeId}(k:Blk w b cs t)(q:Blk w b cs' t'):t=t':=by
 have h1:w.heap[b]? = some (.cells cs.toArray t (0,0)):=k
 have h2:w.heap[b]? = some (.cells cs'.toArray t' (0,0)):=q
 rw[h1] at h2
 simp only[Option.some.injEq,Obj.cells.injEq] at h2
 exact h2.2.1
theorem Kk.upd{w W:World}{b:Nat}{cs:List Value}{t:TypeId}{l:List (Option Int)}{c:Option Int}{v:Value}(h:Kk w l c v)(u:Upd w b W)(k:Blk w b cs t)(hne:t≠182):Kk W l c v :=
 h.kept fun _ _ q=>u.blk q (by rintro rfl;exact hne (k.ty q))
theorem Kk.grown{w W:World}{e:TypeId}{base size n:Nat}{s:Value}{xs:List Value}{l:List (Option Int)}{c:Option Int}{v:Value}(h:Kk w l c v)(hg:w.grownBy W s.ownBlock)(hown:w.ownsRow base e size s n xs)(hne:e≠182):Kk W l c v :=
 h.kept fun _ _ q=>q.grown hg hown hne
theorem Kk.only{T:List TypeId}{w W:World}{l:List (Option Int)}{c:Option Int}{v:Value}(h:Kk w l c v)(k:Zh T w W)(hne:T.contains 182=false):Kk W l c v:=h.kept fun _ _ q=>q.only k hne
end Go.Proofs.YtlmaglneeaecdaaGreatDoor
namespace Go.Proofs.YtlmaglneeaecdaaGreatDoor
set_option maxHeartbeats 8000000
set_option maxRecDepth 100000
open Go.RowKit Go.Extern.Stop Go.Stop Go.Extern
set_option linter.unusedVariables false
attribute [local irreducible] wpList wpAnyH Code.wp Oper.wp Go
structure ImgR(B b:Nat)(p:Option Addr)(n c:Nat)(l:List UInt8)(w:World):Prop where
 blk:Blk w b [.slice p n c] 103
 row:w.ownsRow B 5 1 (.slice p n c) n (l.map bv)
 hn:n≤3686400
theorem ImgR.below{B b:Nat}{p:Option Addr}{n c:Nat}{l:List UInt8}{w W:World}(h:ImgR B b p n c l w)(hb:Below w.heap.size w W):ImgR B b p n c l W:=⟨h.blk.below hb,Zb h.row hb,h.hn⟩
theorem ImgR.only{B b:Nat}{p:Option Addr}{n c:Nat}{l:List UInt8}{w W:World}{T:List TypeId}(h:ImgR B b p n c l w)(hO:Zh T w W)(hT:T.contains 103=false∧T.contains 5=false):ImgR B b p n c l W:=⟨h.blk.only hO hT.1,Zj h.row hO hT.2,h.hn⟩
theorem ImgR.len{B b:Nat}{p:Option Addr}{n c:Nat}{l:List UInt8}{w:World}(h:ImgR B b p n c l w):l.length=n:=by have:=h.row.1;simpa using this
theorem ImgR.base{B b:Nat}{p:Option Addr}{n c:Nat}{l:List UInt8}{w:World}(h:ImgR B b p n c l w)(hn:0<n):∃ g,p=some ⟨g,0,none⟩∧n≤c:=by
 rcases h.row.2 with ⟨_,h0⟩|⟨g,cap,cur,hv,_,_,hc,_⟩
 ·omega
 ·simp only[Value.slice.injEq] at hv
  obtain⟨rfl,_,rfl⟩:=hv
  exact⟨g,rfl,hc⟩
def Va(l:List UInt8)(j:Nat):List UInt8:=(l.drop (j*256)).take 256
theorem Qj{l:List UInt8}{j:Nat}(h:j<l.length/256):(Va l j).length=256:=by simp[Va];omega
theorem Bys.mid{w:World}{g off n c:Nat}{l:List UInt8}(h:Bys w (.slice (some ⟨g,off,none⟩) n c) l)(hl:l.length=n)(k m:Nat)(hm:0<m)(hk:k+m≤n):Bys w (.slice (some ⟨g,off+k,none⟩) m m) ((l.drop k).take m):=by
 have hlen:((l.drop k).take m).length=m:=by simp;omega
 rcases h with ⟨a',c',h1,h2,h3⟩|⟨g',off',cap,h1,h2,h3,h4⟩
 ·omega
 ·simp only[Value.slice.injEq,Option.some.injEq,Addr.mk.injEq] at h1
  obtain⟨⟨rfl,rfl,_⟩,_,rfl⟩:=h1
  refine .inr ⟨g,off+k,m,by rw[hlen],by omega,by omega,fun j x hj=>?_⟩
  rw[List.getElem?_map,List.getElem?_take] at hj
  split at hj
  ·rw[List.getElem?_drop] at hj
   have:=h4 (k+j) x (by rw[List.getElem?_map];exact hj)
   rwa [←Nat.add_assoc] at this
  ·cases hj
theorem ImgR.part{B b g:Nat}{n c:Nat}{l:List UInt8}{w:World}(h:ImgR B b (some ⟨g,0,none⟩) n c l w){j:Nat}(hj:j<n/256):Bys w (.slice (some ⟨g,j*256,none⟩) 256 256) (Va l j):=by
 have:=Bys.mid (Yk (Ze h.row) h.len) h.len (j*256) 256 (by decide) (by omega)
 rwa [Nat.zero_add] at this
def ReadP(n:Nat)(l:List UInt8)(k:Int)(w:World)(e:Ending)(w':World):Prop :=
 (¬ (0≤k∧k<(n/256:Nat))∧∃ v,e=.returned (.tuple #[v,.int .i64 3])∧Below w.heap.size w w') ∨
 (∃ j:Nat,k=(j:Int)∧j<n/256∧∃ p c,e=.returned (.tuple #[.slice p 256 c,.int .i64 0])∧Below w.heap.size w w'∧w'.ownsRow w.heap.size 5 1 (.slice p 256 c) 256 ((Va l j).map bv))
theorem Du(b:Nat)(p:Option Addr)(n c:Nat)(k:Int)(w:World)(hk:Blk w b [.slice p n c] 103)(hn:n≤100000000)(ho:¬ (0≤k∧k<(n/256:Nat))) :
 Calls Tryz.prog 193 #[.pointer (some ⟨b,0,none⟩),.int .i64 k] w (Ret (.tuple #[.slice none 0 0,.int .i64 3]) w):=by
 refine zin 33 Tryz.func193 ?_
 refine xg 21 [13,14] (decide (k<(0:Int))) (fun hc1=>?_) (fun hc1=>?_)
 ·have hc1:=of_decide_eq_true hc1
  exact xe 18 (.tuple #[.slice none 0 0,.int .i64 3]) ⟨rfl,(Below.refl w.heap.size _)⟩
 have hc1:=of_decide_eq_false hc1
 refine xr 2 (args:=#[.pointer (some ⟨b,0,none⟩)]) (Ka b _ n c _ (hk.below (Below.refl w.heap.size _)) hn) fun W2 hb2=>?_
 refine xk 5 (show(decide (k≥(↑(n/256):Int)):Bool)=true from decide_eq_true (by omega)) ?_
 exact xe 9 (.tuple #[.slice none 0 0,.int .i64 3]) ⟨rfl,hb2⟩
theorem En(B b:Nat)(p:Option Addr)(n c:Nat)(l:List UInt8)(k:Int)(w:World)(hI:ImgR B b p n c l w)(ho:¬ (0≤k∧k<(n/256:Nat))) :
 Calls Tryz.prog 143 #[.pointer (some ⟨b,0,none⟩),.int .i64 k] w (Yz (fun _ r=>∃ v,r=.tuple #[v,.int .i64 3]) w):=by
 refine zin 17 Tryz.func143 ?_
 refine xr 10 (args:=#[.pointer (some ⟨b,0,none⟩),.int .i64 k]) (Du b p n c k _ (hI.below (Below.refl w.heap.size _)).blk (by have:=hI.hn;omega) ho) fun W1 hb1=>?_
 refine xc 10 (args:=#[.slice none 0 0]) (Tr 0 _) ?_
 rintro _ W2 ⟨v2,rfl,hb2,_⟩
 have hB:=bln hb1 hb2
 exact xe 6 (.tuple #[v2,.int .i64 3]) ⟨_,rfl,hB,_,rfl⟩
theorem Sb(B b g:Nat)(n c:Nat)(l:List UInt8)(j:Nat)(w:World)(hI:ImgR B b (some ⟨g,0,none⟩) n c l w)(hj:j<n/256)(hc:n≤c) :
 Calls Tryz.prog 143 #[.pointer (some ⟨b,0,none⟩),.int .i64 (↑j:Int)] w (Yz (fun w' r=>∃ p2 c3,r=.tuple #[.slice p2 256 c3,.int .i64 0]∧w'.ownsRow w.heap.size 5 1 (.slice p2 256 c3) 256 ((Va l j).map bv)) w):=by
 have hlj:=Qj (l:=l) (j:=j) (by rw[hI.len];exact hj)
 refine zin 17 Tryz.func143 ?_
 refine xr 10 (args:=#[.pointer (some ⟨b,0,none⟩),.int .i64 (↑j:Int)]) (Cd b g n c j _ (hI.below (Below.refl w.heap.size _)).blk (by have:=hI.hn;omega) hc hj) fun W1 hb1=>?_
 refine xc 10 (args:=#[.slice (some ⟨g,(j*256),none⟩) 256 256]) (Qh (some ⟨g,(j*256),none⟩) 256 256 (Va l j) _ hlj ((hI.below hb1).part hj) (by decide)) ?_
 rintro _ W2 ⟨_,rfl,hb2,ho⟩
 have ho'1:=Zd ho hb1.size
 unfold Wm at ho'1
 rw[hlj] at ho'1
 obtain⟨p2,c3,rfl⟩:=(Ze ho'1).slice
 have hB'1:=bln hb1 hb2
 exact xe 6 (.tuple #[.slice p2 256 c3,.int .i64 0]) ⟨_,rfl,hB'1,_,_,rfl,ho'1⟩
theorem Mm(B b:Nat)(p:Option Addr)(n c:Nat)(l:List UInt8)(k:Int)(w:World)(hI:ImgR B b p n c l w) :
 Calls Tryz.prog 143 #[.pointer (some ⟨b,0,none⟩),.int .i64 k] w (ReadP n l k w):=by
 by_cases h:0≤k∧k<(n/256:Nat)
 ·obtain⟨g,rfl,hc⟩:=hI.base (by omega)
  obtain⟨j,rfl⟩:∃ j:Nat,k=j:=⟨k.toNat,by omega⟩
  refine(Sb B b g n c l j w hI (by omega) hc).mono ?_
  rintro e W ⟨_,rfl,hb,p2,c3,rfl,ho⟩
  exact .inr ⟨j,rfl,by omega,_,_,rfl,hb,ho⟩
 ·refine(En B b p n c l k w hI h).mono ?_
  rintro e W ⟨_,rfl,hb,v,rfl⟩
  exact .inl ⟨h,_,rfl,hb⟩
def inE (l:List UInt8)(kind no:Int):Int:=if 0≤no∧no<(l.length/256:Nat) then Xt kind no (Va l no.toNat) else 3
def inB (l:List UInt8)(no:Int):List UInt8:=((Va l no.toNat).drop 8).take 244
theorem Dy{l:List UInt8}{kind no:Int}{n:Nat}(hl:l.length=n)(h:¬ (0≤no∧no<(n/256:Nat))):inE l kind no=3:=by subst hl;exact if_neg h
theorem Fj{l:List UInt8}{kind no:Int}{n j:Nat}(hl:l.length=n)(hk:no=(j:Int))(h:j<n/256):inE l kind no=Xt kind no (Va l j):=by
 subst hl hk;rw[inE,if_pos ⟨by omega,by omega⟩];rfl
theorem Rg{l:List UInt8}{no:Int}{j:Nat}(hk:no=(j:Int)):inB l no=((Va l j).drop 8).take 244:=by subst hk;rfl
theorem Zah{l:List UInt8}{no:Int}{n j:Nat}(hl:l.length=n)(hk:no=(j:Int))(h:j<n/256):(inB l no).length=244:=by
 subst hl hk;have:=Qj h;simp[inB,this]
theorem Bv{l l':List UInt8}(h:l.length=l'.length)(h2:∀ j,j<l.length→l.getD j 0=l'.getD j 0):l=l':=by
 apply List.ext_getElem h
 intro j h3 h4
 have:=h2 j h3
 simpa [List.getD,h3,h4] using this
theorem Jg{l:List UInt8}{k:Nat}{x:List UInt8}(h:k+x.length≤l.length)(j:Nat):(Vj l k x).getD j 0=if k≤j∧j<k+x.length then x.getD (j-k) 0 else l.getD j 0:=by
 unfold Vj
 simp only[List.getD]
 rw[List.append_assoc,List.getElem?_append,List.getElem?_append]
 have e:(l.take k).length=k:=by simp;omega
 rw[e]
 by_cases h1:j<k
 ·rw[if_pos h1,if_neg (by omega),List.getElem?_take,if_pos h1]
 ·rw[if_neg h1]
  by_cases h2:j-k<x.length
  ·rw[if_pos h2,if_pos (by omega)]
  ·rw[if_neg h2,if_neg (by omega),List.getElem?_drop,show k+x.length+(j-k-x.length)=j by omega]
theorem Rm{l l':List UInt8}:∀ (w k:Nat),(∀ j,k≤j→j<k+w→l.getD j 0=l'.getD j 0)→Zf l k w=Zf l' k w
 | 0,k,h=>rfl
 | w+1,k,h=>by rw[Zf,Zf,h k (by omega) (by omega),Rm w (k+1) fun j h1 h2=>h j (by omega) (by omega)]
theorem Jz{l:List UInt8}:∀ (w k m:Nat),(∀ i,i<w→l.getD (k+i) 0=UInt8.ofNat (m/256 ^ i))→Zf l k w=m%256 ^ w
 | 0,k,m,h=>by simp[Zf,Nat.mod_one]
 | w+1,k,m,h=>by
  have h0:=h 0 (by omega)
  simp only[Nat.add_zero,Nat.pow_zero,Nat.div_one] at h0
  have h1:=Jz (l:=l) w (k+1) (m/256) fun i hi=>by
   have:=h (i+1) (by omega)
   rw[Nat.pow_succ,Nat.mul_comm,←Nat.div_div_eq_div_mul] at this
   rw[show k+1+i=k+(i+1) by omega];exact this
  rw[Zf,h0,h1,Nat.pow_succ,Nat.mul_comm (256 ^ w) 256,Nat.mod_mul]
  congr 1
theorem Sk{l:List UInt8}{k w:Nat}{n:Int}(h:k+w≤l.length)(h0:0≤n)(hb:n.toNat<256 ^ w):(Zf (Vj l k (leB n w)) k w:Int)=n:=by
 rw[Jz w k n.toNat,Nat.mod_eq_of_lt hb]
 ·omega
 ·intro i hi
  rw[Jg (by rw[Zg];exact h),if_pos (by rw[Zg];omega),show k+i-k=i by omega]
  simp[leB,Zl,List.getD,List.getElem?_range hi]
theorem Yl{l x:List UInt8}{k j w:Nat}(h:k+x.length≤l.length)(hd:j+w≤k∨k+x.length≤j):Zf (Vj l k x) j w=Zf l j w :=
 Rm w j fun i h1 h2=>by rw[Jg h,if_neg (by omega)]
theorem rawN_zero{l:List UInt8}{k w:Nat}(h:∀ j,k≤j→j<k+w→l.getD j 0=0):Zf l k w=0:=by
 have:=Jz (l:=l) w k 0 fun i hi=>by rw[h (k+i) (by omega) (by omega)];simp
 simpa using this
theorem sumB_put{l x:List UInt8}{kind:Int}(h:252≤l.length):Nx (Vj l 252 x) kind=Nx l kind:=by
 unfold Nx Vj
 rw[List.append_assoc,List.take_append_of_le_length (by simp;omega),List.take_take];rfl
theorem Nd(n j:Nat):(List.replicate n (0:UInt8)).getD j 0=0:=by
 simp[List.getD,List.getElem?_replicate];split<;>rfl
def Av(li:List UInt8):List UInt8:=li++List.replicate (244-li.length) 0
theorem Oc{kind no:Int}{li:List UInt8}(h1:1≤kind)(h2:kind≤4)(h3:0≤no)(h4:no<14400)(hl:li.length≤244):Xt kind no (Qa kind no li)=0:=by
 have l1:=Ho hl
 have l2:=Hp (no:=no) hl
 have l3:=Vx (kind:=kind) (no:=no) hl
 have l4:=Ku (kind:=kind) (no:=no) hl
 have a0:Kx kind no (Qa kind no li) 0=false:=by simp only[Kx];rw[show Vh kind no=true from decide_eq_true (by omega)];rfl
 have a1:Kx kind no (Qa kind no li) 1=false:=by simp only[Kx,l4];rfl
 have a2:Kx kind no (Qa kind no li) 2=false:=by
  have hs:Nx (Qa kind no li) kind=Nx (Wa kind no li) kind:=by unfold Qa;exact sumB_put (by omega)
  have hr:(Zf (Qa kind no li) 252 4:Int)=(Nx (Wa kind no li) kind:Int):=by
   unfold Qa
   exact Sk (by omega) (by omega) (by have:=sumB_lt (Wa kind no li) kind;simpa using this)
  simp only[Kx,hr,hs];simp
 have a3:Kx kind no (Qa kind no li) 3=false:=by
  have hr:(Zf (Qa kind no li) 0 4:Int)=no:=by
   unfold Qa
   rw[Yl (by rw[Zg];omega) (.inl (by omega))]
   unfold Wa
   rw[Yl (by rw[Zg];omega) (.inl (by omega))]
   unfold Zay
   exact Sk (by omega) (by omega) (by omega)
  simp only[Kx,hr];simp
 have a4:Kx kind no (Qa kind no li) 4=false:=by
  have hr:(Zf (Qa kind no li) 4 2:Int)=kind:=by
   unfold Qa
   rw[Yl (by rw[Zg];omega) (.inl (by omega))]
   unfold Wa
   exact Sk (by omega) (by omega) (by omega)
  simp only[Kx,hr];simp
 have a5:Kx kind no (Qa kind no li) 5=false:=by
  have hr:Zf (Qa kind no li) 6 2=0:=by
   unfold Qa
   rw[Yl (by rw[Zg];omega) (.inl (by omega))]
   unfold Wa
   rw[Yl (by rw[Zg];omega) (.inr (by rw[Zg];omega))]
   unfold Zay
   rw[Yl (by rw[Zg];omega) (.inr (by rw[Zg];omega))]
   unfold Iv
   rw[Yl (by rw[List.length_replicate];omega) (.inl (by omega))]
   exact rawN_zero fun j _ _=>Nd 256 j
  simp only[Kx,hr];rfl
 simp[Xt,a0,a1,a2,a3,a4,a5]
theorem in_seal{kind no:Int}{li:List UInt8}(hl:li.length≤244):((Qa kind no li).drop 8).take 244=Av li:=by
 have l1:=Ho hl
 have l2:=Hp (no:=no) hl
 have l3:=Vx (kind:=kind) (no:=no) hl
 have l4:=Ku (kind:=kind) (no:=no) hl
 apply Bv
 ·simp[Av,l4];omega
 ·intro j hj
  have hj2:j<244:=by simp[l4] at hj;omega
  have e:(((Qa kind no li).drop 8).take 244).getD j 0=(Qa kind no li).getD (8+j) 0:=by
   simp only[List.getD];rw[List.getElem?_take,if_pos hj2,List.getElem?_drop]
  rw[e]
  unfold Qa
  rw[Jg (by rw[Zg];omega),if_neg (by rw[Zg];omega)]
  unfold Wa
  rw[Jg (by rw[Zg];omega),if_neg (by rw[Zg];omega)]
  unfold Zay
  rw[Jg (by rw[Zg];omega),if_neg (by rw[Zg];omega)]
  unfold Iv
  rw[Jg (by rw[List.length_replicate];omega),Nd]
  unfold Av
  simp only[List.getD]
  rw[List.getElem?_append]
  by_cases h:j<li.length
  ·rw[if_pos ⟨by omega,by omega⟩,if_pos h,show 8+j-8=j by omega]
  ·rw[if_neg (by omega),if_neg h]
   have:=Nd (244-li.length) (j-li.length)
   simp only[List.getD] at this
   exact this.symm
theorem blkB_put{l x:List UInt8}{k:Nat}(hx:x.length=256)(hk:k<l.length/256):Va (Vj l (k*256) x) k=x:=by
 have hkl:k*256+256≤l.length:=by omega
 have hp:=Ve (l:=l) (k:=k*256) (x:=x) (by omega)
 apply Bv
 ·rw[Qj (by rw[hp];exact hk),hx]
 ·intro j hj
  rw[Qj (by rw[hp];exact hk)] at hj
  have e:(Va (Vj l (k*256) x) k).getD j 0=(Vj l (k*256) x).getD (k*256+j) 0:=by
   simp only[Va,List.getD];rw[List.getElem?_take,if_pos hj,List.getElem?_drop]
  rw[e,Jg (by omega),if_pos (by omega),show k*256+j-k*256=j by omega]
theorem Et{l x:List UInt8}{k i:Nat}(hx:x.length=256)(hk:k<l.length/256)(hne:i≠k)(hi:i<l.length/256):Va (Vj l (k*256) x) i=Va l i:=by
 have hkl:k*256+256≤l.length:=by omega
 have hp:=Ve (l:=l) (k:=k*256) (x:=x) (by omega)
 apply Bv
 ·rw[Qj (by rw[hp];exact hi),Qj hi]
 ·intro j hj
  rw[Qj (by rw[hp];exact hi)] at hj
  have e:∀ l:List UInt8,(Va l i).getD j 0=l.getD (i*256+j) 0:=fun l=>by
   simp only[Va,List.getD];rw[List.getElem?_take,if_pos hj,List.getElem?_drop]
  rw[e,e,Jg (by omega),if_neg (by omega)]
theorem Yh(k:Nat):Builtin.zeroCells #[Value.int .u8 0] k=(List.replicate k (Value.int .u8 0)).toArray:=by
 apply Array.ext'
 unfold Builtin.zeroCells
 simp only[List.size_toArray,List.length_cons,List.length_nil,Nat.zero_add,Nat.mul_one,Nat.mod_one]
 rw[Array.toList_map]
 simp only[Array.toList_range]
 apply List.ext_getElem?
 intro i
 simp only[List.getElem?_map,List.getElem?_replicate]
 by_cases h:i<k
 ·rw[List.getElem?_range h,if_pos h];rfl
 ·rw[if_neg h,List.getElem?_eq_none (by simpa using h)];rfl
theorem Gr{P:Program}(w:World)(t tn ty e:TypeId)(i:TypeInfo)(kq kn:IntKind)(ht:P.underlying t=some (.slice e))(htn:P.underlying tn=some (.int kn))(hi:P.info? e=some i)(hz:i.zero=some (.int .u8 0))(hs1:i.size=1)(hb1:i.bytes=1)
 (g n c k:Nat) (cur:Array Value) (hg:w.heap[g]? = some (.cells cur e (0,0))) (h0:0<k) (hroom:n+k≤c) (hfit:n+k≤cur.size) (hk:n+k≤1000000) :
 (Builtin.append_ #[t,tn] ty #[.slice (some ⟨g,0,none⟩) n c,.int kq k]).run P w =
 .ok (.slice (some ⟨g,0,none⟩) (n+k) c) (w.setRow g (cur.toList.take n++List.replicate k (Value.int .u8 0)++cur.toList.drop (n+k)).toArray):=by
 have hk0:k≠0:=by omega
 have hw:IntKind.i64.wrap (k:Int)=k:=by rw[IntKind.wrap_i64];omega
 have h48i:¬ (281474976710656<(k:Int)):=by omega
 have hneg:¬ ((k:Int)<0):=by omega
 have hst:=run_storeCells_at P g n e (List.replicate k (.int .u8 0)) 0 cur w hg (by simpa using hfit) (by intro u hu;rw[(List.mem_replicate.1 hu).2];rfl)
 simp only[Nat.add_zero,List.length_replicate] at hst
 simp[Builtin.append_,run_underlying ht,run_underlying htn,sizeOf,typeInfo,zeroValue,hi,hz,hs1,hb1,asInt,asIntOf,hw,hneg,h48i,hk0,hroom,Addr.add_lit,show(Value.int IntKind.u8 0).cells=#[Value.int .u8 0] from rfl,Yh,hst]
theorem op_appZo{P:Program}{a:Act}{w:World}{K:Act→World→Prop}{Q:Exit→Act→World→Prop}{o:Oper}{s x:Operand}{t tn e:TypeId}{kq kn:IntKind}{base:Nat}{v:Value}{n:Nat}{xs:List Value}(k n':Nat)(xs':List Value)
 (ho:o.op=.call { callee:=.builtin .append,args:=#[s,x],argTypes:=#[t,tn] }) (ht:P.underlying t=some (.slice e)) (htn:P.underlying tn=some (.int kn)) (hi:(P.info? e).map (fun i=>(i.zero,i.size,i.bytes))=some (some (.int .u8 0),1,1))
 (hs:a.eval s=v) (hown:w.ownsRow base e 1 v n xs) (hx:a.eval x=.int kq (k:Int)) (h0:0<k) (hk:n+k≤1000000) (hbase:base≤w.heap.size) (hn:n+k=n') (hxs:xs++List.replicate k (.int .u8 0)=xs')
 (h:∀ b c' W,W.ownsRow base e 1 (.slice b n' c') n' xs'→w.grownBy W v.ownBlock→Below base w W→K (a.put o.dst (.slice b n' c')) W):o.wp P a w K Q:=by
 subst hn hxs
 cases hq:P.info? e with
 | none=>simp[hq] at hi
 | some i =>
  simp only[hq,Option.map_some,Option.some.injEq,Prod.mk.injEq] at hi
  obtain⟨hz,h1,h2⟩:=hi
  have hxl:xs.length=n:=by simpa using hown.1
  have hlen:(xs++List.replicate k (Value.int .u8 0)).length=(n+k)*1:=by simp[hxl]
  rcases hown.2 with ⟨rfl,rfl⟩|⟨g,c,cur,rfl,hbg,hg,hnc,hcm,hcs,htake⟩
  ·obtain rfl:xs=[]:=List.eq_nil_of_length_eq_zero hxl
   have hr:=Lib.run_append_nil_zeros (P:=P) w t tn o.type e i (.int .u8 0) kq kn ht htn hq hz k h0 (by omega) (by omega) (by rw[h2];omega)
   unfold Oper.wp execOp
   simp only[ho,resolve,invoke,builtin,Sem.run_bind,Sem.run_pure,Result.andThen_ok,List.map_toArray,List.map_cons,List.map_nil,hs,hx,hr]
   have hge:=grownCap_ge w k 0 e
   have hcm:grownCap w k 0 e≤maxLen:=grownCap_le_maxLen w k 0 e (by unfold maxLen;omega)
   simp only[Nat.zero_add,List.nil_append] at h
   refine h _ _ _ ⟨by simp,.inr ⟨w.heap.size,_,_,rfl,hbase,heap_alloc_new w.drew _,hge,hcm,?_,?_⟩⟩ ⟨rfl,rfl,rfl,by simp,fun k hk _=>by first|exact heap_alloc_old w.drew _ k hk|exact heap_alloc_old w.drew _ hk⟩ (((Za w).trans (show Below w.drew.heap.size w.drew _ from blx w.drew _)).mono hbase)
   ·rw[show(Value.int .u8 0).cells=#[Value.int .u8 0] from rfl,Yh,Yh];simp;omega
   ·rw[show(Value.int .u8 0).cells=#[Value.int .u8 0] from rfl,Yh,Yh]
    simp only[Array.toList_append,Nat.mul_one]
    exact List.take_left' (by simp)
  by_cases hroom:n+k≤c
  ·have hcs':cur.size=c:=by simpa using hcs
   have hr:=Gr (P:=P) w t tn o.type e i kq kn ht htn hq hz h1 h2 g n c k cur hg h0 hroom (by omega) hk
   unfold Oper.wp execOp
   simp only[ho,resolve,invoke,builtin,Sem.run_bind,Sem.run_pure,Result.andThen_ok,List.map_toArray,List.map_cons,List.map_nil,hs,hx,hr]
   have hgr:w.grownBy (w.setRow g (cur.toList.take n++List.replicate k (Value.int .u8 0)++cur.toList.drop (n+k)).toArray) (Value.ownBlock (.slice (some ⟨g,0,none⟩) n c)):=⟨rfl,rfl,rfl,by simp,fun k' _ hk'=>setRow_other w g k' _ (fun e=>hk' (by simp[Value.ownBlock,e]))⟩
   refine h _ _ _ ⟨hlen,.inr ⟨g,c,_,rfl,hbg,setRow_heap w g cur _ e _ hg,hroom,hcm,?_,?_⟩⟩ hgr (Qx hgr hown (Nat.le_refl _) hbase)
   ·simp only[List.size_toArray,List.length_append,List.length_take,List.length_drop,Array.length_toList,List.length_replicate]
    omega
   ·have ht':cur.toList.take n=xs:=by simpa using htake
    rw[ht',←hlen]
    exact List.take_left
  ·have holds:∀ j u,xs[j]? = some u→w.cell? ((⟨g,0,none⟩:Addr).add j)=some u:=hown.cells (g:=g) rfl
   have hold:=run_firstCells_some (P:=P) (w:=w.drew) i.size n ⟨g,0,none⟩ n c xs (by rw[hxl,h1,Nat.mul_one]) (by simpa using holds)
   have hr:=Lib.run_append_grow_zeros (P:=P) w t tn o.type e i (.int .u8 0) kq kn ht htn hq hz (some ⟨g,0,none⟩) n c xs hold k h0 (by omega) (by omega) (by omega) (by rw[h2];omega) (by rw[h2];exact growslice_fits (by omega) (by omega))
   unfold Oper.wp execOp
   simp only[ho,resolve,invoke,builtin,Sem.run_bind,Sem.run_pure,Result.andThen_ok,List.map_toArray,List.map_cons,List.map_nil,hs,hx,hr]
   have hge:=grownCap_ge w (n+k) c e
   have hcm:grownCap w (n+k) c e≤maxLen:=grownCap_le_maxLen w (n+k) c e (by unfold maxLen;omega)
   refine h _ _ _ ⟨hlen,.inr ⟨w.heap.size,_,_,rfl,hbase,heap_alloc_new w.drew _,hge,hcm,?_,?_⟩⟩ ⟨rfl,rfl,rfl,by simp,fun k hk _=>by first|exact heap_alloc_old w.drew _ k hk|exact heap_alloc_old w.drew _ hk⟩ (((Za w).trans (show Below w.drew.heap.size w.drew _ from blx w.drew _)).mono hbase)
   ·rw[show(Value.int .u8 0).cells=#[Value.int .u8 0] from rfl,Yh,Yh];simp[hxl];omega
   ·rw[show(Value.int .u8 0).cells=#[Value.int .u8 0] from rfl,Yh,Yh]
    simp only[Array.toList_append,List.append_assoc]
    rw[←List.append_assoc,←hlen]
    exact List.take_left
theorem Rh{kind no:Int}(h:Vh kind no=true):1≤kind∧kind≤4∧0≤no∧no<14400:=of_decide_eq_true h
end Go.Proofs.YtlmaglneeaecdaaGreatDoor
namespace Go.Proofs.YtlmaglneeaecdaaGreatDoor
set_option maxHeartbeats 8000000
set_option maxRecDepth 100000
open Go.RowKit Go.Extern.Stop Go.Stop Go.Extern
set_option linter.unusedVariables false
section
variable {P:Program} {Q:Exit→Act→World→Prop} {a:Act} {w:World} {K:Act→World→Prop}
theorem op_copyS{o:Oper}{d x:Operand}{dT sT e:TypeId}{base g off n cap dLen dCap:Nat}{xs:List Value}(l:List UInt8)(xs':List Value)(ho:o.op=.call { callee:=.builtin .copy,args:=#[d,x],argTypes:=#[dT,sT] })(hu:P.underlying dT=some (.slice e))(hsz:(P.info? e).map (·.size)=some 1)
 (hd:a.eval d=.slice (some ⟨g,off,none⟩) dLen dCap) (hs:a.eval x=.string ⟨l.toArray⟩) (hown:w.ownsRow base e 1 (.slice (some ⟨g,0,none⟩) n cap) n xs) (hm:l.length≤dLen) (hfit:off+l.length≤n)
 (hbase:base≤w.heap.size) (hxs:xs.take off++l.map bv++xs.drop (off+l.length)=xs')
 (h:∀ W,W.ownsRow base e 1 (.slice (some ⟨g,0,none⟩) n cap) n xs'→w.grownBy W (Value.slice (some ⟨g,0,none⟩) n cap).ownBlock→Below base w W→K (a.put o.dst (.int .i64 (l.length:Int))) W):o.wp P a w K Q:=by
 obtain⟨hl,hr⟩:=hown
 rcases hr with ⟨hv,_⟩|⟨g2,cap2,cur,hv,hge,hh,hnc,hcm,hcs,htk⟩
 ·cases hv
 simp only[Value.slice.injEq,Option.some.injEq,Addr.mk.injEq] at hv
 obtain⟨⟨rfl,_,_⟩,_,rfl⟩:=hv
 have hlen:xs.length=n:=by simpa using hl
 have hcur:cur.toList.length=cap:=by simpa using hcs
 have hml:(l.map bv).length=l.length:=by simp
 have key:∀ W,W.heap[g]? = some (.cells (cur.toList.take off++l.map bv++cur.toList.drop (off+l.length)).toArray e (0,0))→w.grownBy W (some g)→K (a.put o.dst (.int .i64 (l.length:Int))) W:=by
  intro W hW hg
  refine h W ⟨?_,.inr ⟨g,cap,_,rfl,hge,hW,hnc,hcm,?_,?_⟩⟩ hg (Qx (v:=.slice (some ⟨g,0,none⟩) n cap) hg ⟨hl,.inr ⟨g,cap,cur,rfl,hge,hh,hnc,hcm,hcs,htk⟩⟩ (Nat.le_refl _) hbase)
  ·rw[←hxs];simp;omega
  ·simp only[List.size_toArray,List.length_append,List.length_take,List.length_drop,hcur,Nat.mul_one,hml];omega
  ·have hA:(cur.toList.take off++l.map bv).length=off+l.length:=by simp only[List.length_append,List.length_take,hcur,hml];omega
   rw[←hxs,←htk]
   simp only[Nat.mul_one]
   rw[List.take_append,List.take_of_length_le (by rw[hA];omega),hA,List.take_take,Nat.min_eq_left (by omega:off≤n),List.drop_take]
 have hsize:(⟨l.toArray⟩:ByteArray).size=l.length:=by show l.toArray.size=l.length;simp
 have hrun:=Go.Lib.run_copy_row_string (P:=P) w dT sT o.type e g off dLen dCap ⟨l.toArray⟩ cur e hu hsz hh (by rw[hsize];exact hm) (by rw[hsize,hcs];omega)
 rw[hsize] at hrun
 have hbc:Go.Lib.byteCells (⟨l.toArray⟩:ByteArray).data.toList=l.map bv:=rfl
 rw[hbc] at hrun
 have h2:(execOp a.eval o).run P w=.ok (.value (.int .i64 (l.length:Int))) (w.setRow g (cur.toList.take off++l.map bv++cur.toList.drop (off+l.length)).toArray):=by
  simp[execOp,ho,resolve,invoke,builtin,hd,hs,hrun,Result.andThen,goInt]
 exact Hf h2 (key _ (setRow_heap w g _ _ e _ hh) ⟨rfl,rfl,rfl,by simp,fun k _ hk=>setRow_other w g k _ (fun e=>hk (by rw[e]))⟩)
theorem Sl.head{b:Option Addr}{n c:Nat}{xs:List Value}(h:Sl w (.slice b n c) n xs)(hn:xs.length=n)(m:Nat)(hm:m≤n):Sl w (.slice b m c) m (xs.take m):=by
 rcases h with ⟨a',c',h1,h2,h3⟩|⟨b',off,cap,h1,h2,h3,h4⟩
 ·obtain rfl:m=0:=by omega
  simp only[Value.slice.injEq] at h1
  exact .inl ⟨b,c,rfl,rfl,by simp⟩
 ·simp only[Value.slice.injEq] at h1
  obtain⟨rfl,_,rfl⟩:=h1
  refine .inr ⟨b',off,c,rfl,by omega,h3,fun j x hj=>h4 j x ?_⟩
  have hjm:j<m:=by have:=(List.getElem?_eq_some_iff.1 hj).1;simp at this;omega
  rwa [List.getElem?_take_of_lt hjm] at hj
def sv (l:List UInt8):Value:=.string ⟨l.toArray⟩
theorem Strs.elem{b:Option Addr}{n c:Nat}{V:List (List UInt8)}(h:Sl w (.slice b n c) n (V.map sv))(hl:V.length=n){k:Nat}(hk:k<n):b.isSome=true∧w.cell? (Xa b (k*1))=some (.string ⟨(V.getD k []).toArray⟩):=by
 rcases h with ⟨a',c',h1,h2,h3⟩|⟨b',off,cap,h1,h2,h3,h4⟩
 ·omega
 ·simp only[Value.slice.injEq] at h1
  obtain⟨rfl,_,rfl⟩:=h1
  refine⟨rfl,?_⟩
  have:=h4 k (sv (V.getD k [])) (by simp[List.getD,List.getElem?_eq_getElem (show k<V.length by omega)])
  rw[Nat.mul_one]
  show w.cell? ((⟨b',off,none⟩:Addr).add k)=_
  rw[Addr.add_mid]
  exact this
end
end Go.Proofs.YtlmaglneeaecdaaGreatDoor
namespace Go.Proofs.YtlmaglneeaecdaaGreatDoor
set_option maxHeartbeats 8000000
set_option maxRecDepth 100000
open Go.RowKit Go.Extern.Stop Go.Stop Go.Extern
set_option linter.unusedVariables false
section
variable {P:Program} {a:Act} {w:World} {K:Act→World→Prop} {Q:Exit→Act→World→Prop}
theorem Zbi(l:List UInt8):Lib.strCells ⟨l.toArray⟩=l.map bv:=by
 unfold Lib.strCells bv
 simp
theorem op_appS{o:Oper}{s x:Operand}{t u e:TypeId}{base:Nat}{v:Value}{n:Nat}{xs:List Value}(l:List UInt8)(n':Nat)(xs':List Value)(ho:o.op=.call { callee:=.builtin .append,args:=#[s,x],argTypes:=#[t,u] })
 (ht:P.underlying t=some (.slice e)) (hu:P.underlying u=some .string) (hi:(P.info? e).map (fun i=>(i.zero,i.size,i.bytes))=some (some (.int .u8 0),1,1)) (hs:a.eval s=v) (hown:w.ownsRow base e 1 v n xs) (hx:a.eval x=.string ⟨l.toArray⟩)
 (hb:n+l.length≤100000000) (hbase:base≤w.heap.size) (hn:n+l.length=n') (hxs:xs++l.map bv=xs')
 (h:∀ b c W,W.ownsRow base e 1 (.slice b n' c) n' xs'→w.grownBy W v.ownBlock→Below base w W→K (a.put o.dst (.slice b n' c)) W):o.wp P a w K Q:=by
 cases hq:P.info? e with
 | none=>simp[hq] at hi
 | some i =>
  simp only[hq,Option.map_some,Option.some.injEq,Prod.mk.injEq] at hi
  have hsz:(⟨l.toArray⟩:ByteArray).size=l.length:=by simp[ByteArray.size]
  obtain⟨v',W,hr,h2,h3,_⟩:=Lib.run_append_own_string (P:=P) w base t u o.type e i ht hu hq hi.1 hi.2.1 hi.2.2 v n xs hown ⟨l.toArray⟩ (by rw[hsz];unfold maxLen;omega) (by rw[hsz];omega) hbase
  rw[hsz,Zbi] at h2
  subst hn hxs
  obtain⟨b,c,rfl⟩:=(Ze h2).slice
  unfold Oper.wp execOp
  simp only[ho,resolve,invoke,builtin,Sem.run_bind,Sem.run_pure,Result.andThen_ok,List.map_toArray,List.map_cons,List.map_nil,hs,hx,hr]
  exact h b c W h2 h3 (Qx h3 hown (Nat.le_refl _) hbase)
theorem Ty(g k:Nat):Xa (some ⟨g,0,none⟩) (k*1)=⟨g,k,none⟩:=by
 simp[Xa,Addr.add];exact fun h=>h.symm
theorem Ja{o:Oper}{t e:TypeId}{x y:Operand}{g n c k base:Nat}{xs:List Value}{v:Value}(ho:o.op=.store t x y)(hx:a.eval x=.pointer (some (Xa (some ⟨g,0,none⟩) (k*1))))(hy:a.eval y=v)
 (hi:(P.info? t).map (·.size)=some 1) (h1:v.oneCell'=true) (hown:w.ownsRow base e 1 (.slice (some ⟨g,0,none⟩) n c) n xs) (hk:k<n)
 (h:∀ W,Upd w g W→W.ownsRow base e 1 (.slice (some ⟨g,0,none⟩) n c) n (xs.set k v)→K (a.put o.dst undef) W):o.wp P a w K Q:=by
 obtain⟨hl,h2⟩:=hown
 rcases h2 with ⟨h2,_⟩|⟨g',cap,cur,hv,hg,hh,hc,hm,hsz,htk⟩
 ·cases h2
 ·simp only[Value.slice.injEq,Option.some.injEq,Addr.mk.injEq] at hv
  obtain⟨⟨rfl,_⟩,_,rfl⟩:=hv
  have hb:Blk w g cur.toList e:=by unfold Blk;simpa using hh
  rw[Ty] at hx
  refine Pk ho hx hy hi h1 hb (by simp;omega) fun W hu hW=>h W hu ⟨by simpa using hl,.inr ⟨g,c,(cur.toList.set k v).toArray,rfl,hg,hW,hc,hm,by simpa using hsz,?_⟩⟩
  rw[←htk]
  simp[List.take_set]
end
section
variable {P:Program} {ops:Array Oper} {Q:Exit→Act→World→Prop} {a a':Act} {w:World} {S:World→Prop} {md:Region.Mode} {L L':Array Bool} {fuel:Nat}
end
theorem Hb{w:World}{base e size g n c:Nat}{xs:List Value}(h:w.ownsRow base e size (.slice (some ⟨g,0,none⟩) n c) n xs):base≤g:=(h.lt g rfl).1
theorem Tg{w:World}{base e size g n c:Nat}{xs:List Value}(h:w.ownsRow base e size (.slice (some ⟨g,0,none⟩) n c) n xs):∃ cs,Blk w g cs e:=by
 rcases h.2 with ⟨h2,_⟩|⟨g',cap,cur,hv,hg,hh,_⟩
 ·cases h2
 ·simp only[Value.slice.injEq,Option.some.injEq,Addr.mk.injEq] at hv
  obtain⟨⟨rfl,_⟩,_⟩:=hv
  exact⟨cur.toList,by unfold Blk;simpa using hh⟩
theorem Kr{w:World}{base e size g n c b:Nat}{t:TypeId}{xs cs:List Value}(k:Blk w b cs t)(h:w.ownsRow base e size (.slice (some ⟨g,0,none⟩) n c) n xs)(hne:t≠e):b≠g:=by
 rintro rfl
 obtain⟨cs',k'⟩:=Tg h
 have h1:w.heap[b]? = some (.cells cs.toArray t (0,0)):=k
 rw[show w.heap[b]? = some (.cells cs'.toArray e (0,0)) from k'] at h1
 simp only[Option.some.injEq,Obj.cells.injEq] at h1
 exact hne h1.2.1.symm
theorem Zh.of_updRow{T:List TypeId}{w W:World}{base e size g n c:Nat}{xs:List Value}(u:Upd w g W)(h:w.ownsRow base e size (.slice (some ⟨g,0,none⟩) n c) n xs)(hT:T.contains e=true):Zh T w W:=by
 obtain⟨cs,k⟩:=Tg h
 exact Zh.of_upd u k hT
theorem Upd.ownRow{w W:World}{base base2 e e2 size size2 g n c n2:Nat}{v:Value}{xs ys:List Value}(u:Upd w g W)(h:w.ownsRow base2 e2 size2 v n2 ys)(o:w.ownsRow base e size (.slice (some ⟨g,0,none⟩) n c) n xs)(hne:e2≠e):W.ownsRow base2 e2 size2 v n2 ys:=by
 obtain⟨cs,k⟩:=Tg o
 exact u.own2 h k hne
end Go.Proofs.YtlmaglneeaecdaaGreatDoor
namespace Go.Proofs.YtlmaglneeaecdaaGreatDoor
set_option maxHeartbeats 8000000
set_option maxRecDepth 100000
open Go.RowKit Go.Extern.Stop Go.Stop Go.Extern
set_option linter.unusedVariables false
attribute [local irreducible] wpList wpAnyH Code.wp Oper.wp Go
theorem step1_xor(a b:Nat):Js (a ^^^ b)=Js a ^^^ Js b:=by
 have e:∀ r,Js r=(r/2) ^^^ (if r%2=1 then 2197175160 else 0):=fun r=>by unfold Js;split<;>simp
 rw[e,e,e,Nat.xor_div_two]
 have hp:=Nat.xor_mod_two_eq_one (a:=a) (b:=b)
 by_cases h1:a%2=1<;>by_cases h2:b%2=1
 ·rw[if_neg (by rw[hp];simp[h1,h2]),if_pos h1,if_pos h2,Nat.xor_zero]
  rw[show a/2 ^^^ 2197175160 ^^^ (b/2 ^^^ 2197175160)=a/2 ^^^ b/2 ^^^ (2197175160 ^^^ 2197175160) by ac_rfl];simp
 ·rw[if_pos (by rw[hp];simp[h1,h2]),if_pos h1,if_neg h2,Nat.xor_zero];ac_rfl
 ·rw[if_pos (by rw[hp];simp[h1,h2]),if_neg h1,if_pos h2,Nat.xor_zero];ac_rfl
 ·rw[if_neg (by rw[hp];simp[h1,h2]),if_neg h1,if_neg h2,Nat.xor_zero,Nat.xor_zero,Nat.xor_zero]
theorem stepN_xor(n a b:Nat):Xo n (a ^^^ b)=Xo n a ^^^ Xo n b:=by
 induction n with
 | zero=>rfl
 | succ n ih=>rw[Xo,ih,step1_xor];rfl
theorem Ul(q:Nat):Js (2*q)=q:=by unfold Js;rw[if_neg (by omega)];omega
theorem stepN_16(q:Nat):Xo 4 (16*q)=q:=by
 show Js (Js (Js (Js (16*q))))=q
 rw[show 16*q=2*(2*(2*(2*q))) by omega,Ul,Ul,Ul,Ul]
theorem split16(r:Nat):r=(16*(r/16)) ^^^ (r%16):=by
 apply Nat.eq_of_testBit_eq
 intro i
 rw[Nat.testBit_xor,show 16*(r/16)=2 ^ 4*(r/2 ^ 4) from rfl,Nat.testBit_two_pow_mul,Nat.testBit_div_two_pow,show r%16=r%2 ^ 4 from rfl,Nat.testBit_mod_two_pow]
 by_cases h:4≤i
 ·rw[show i-4+4=i by omega,show decide (i≥4)=true from decide_eq_true h,show decide (i<4)=false from decide_eq_false (by omega)];simp
 ·rw[show decide (i≥4)=false from decide_eq_false h,show decide (i<4)=true from decide_eq_true (by omega)];simp
theorem Zgs(r:Nat):Xo 4 r=(r/16) ^^^ Wn (r%16):=by
 conv=>lhs;rw[split16 r]
 rw[stepN_xor,stepN_16];rfl
theorem stepN_add(m n r:Nat):Xo (m+n) r=Xo m (Xo n r):=by
 induction m with
 | zero=>simp[Xo]
 | succ m ih=>rw[Nat.succ_add,Xo,ih];rfl
theorem crcStep_8(r:Nat)(x:UInt8):Rn r x=Xo 8 (r ^^^ x.toNat):=by
 show _=Xo (4+4) (r ^^^ x.toNat)
 rw[stepN_add,Zgs,Zgs];rfl
theorem step1_odd{r:Nat}(h:r%2=1):Js r=(r/2) ^^^ 2197175160:=if_pos h
theorem step1_ev{r:Nat}(h:¬ r%2=1):Js r=r/2:=if_neg h
theorem ref_Step(r:Nat)(w:World)(hr:r<4294967296) :
 Calls Tryz.prog 237 #[.int .i64 (↑r:Int)] w (Ret (.int .i64 (Xo 8 r:Int)) w):=by
 refine zin 18 Tryz.func237 ?_
 have hB:=Below.refl w.heap.size w
 refine zl 12 18 (fun zm zkv V=>∃ (j:Nat),zkv=[(0,.int .i64 (↑(Xo j r):Int)),(2,.int .i64 0),(3,.int .i64 (↑j:Int))]∧zm=8-((↑j:Int)).toNat∧Below w.heap.size w V∧j≤8) ⟨0,rfl,rfl,hB,by decide⟩ ?_
 rintro _ _ W1 ⟨j,rfl,rfl,hB_1,hj⟩ J1 hJ1 r1
 refine xid 7 ((↑j:Int)<(8:Int)) (fun hc2=>?_) (fun hc2=>?_)
 ·refine xq 7 (congrArg (Value.int .i64) (show(Int.tmod (↑(Xo j r):Int) 2:Int)=(↑((Xo j r)%2):Int) from He (Xo j r) 2)) ?_
  refine xq 7 (congrArg (Value.int .i64) (show(IntKind.i64.wrap (Int.tdiv (↑(Xo j r):Int) 2):Int)=(↑((Xo j r)/2):Int) from Gc (Xo j r) 2 (by have:=Bm (j:=j) hr;omega) (by decide))) ?_
  refine xie 8 (↑((Xo j r)%2):Int) (1:Int) (fun hc3=>?_) (fun hc3=>?_)
  ·refine xq 2 (congrArg (Value.int .i64) (show(IntKind.i64.wrap (↑(BitVec.ofInt 64 (↑((Xo j r)/2):Int) ^^^ BitVec.ofInt 64 (2197175160:Int)).toNat:Int):Int)=(↑(((Xo j r)/2) ^^^ 2197175160):Int) from Dp (a:=(Xo j r)/2) (b:=2197175160) (by have:=Bm (j:=j) hr;omega) (by decide))) ?_
   refine xwm 6 ((↑j:Int)+1) (↑(j+1):Int) ?_
   refine xv1 2 0 (show(.int .i64 (↑(((Xo j r)/2) ^^^ 2197175160):Int):Value)=.int .i64 (↑(Xo (j+1) r):Int) from by rw[show Xo (j+1) r=Js (Xo j r) from rfl,step1_odd (by omega)]) ?_
   exact ze 0 (hJ1 _ _ _ ⟨j+1,rfl,rfl,hB_1,by omega⟩ (by omega))
  refine xwm 5 ((↑j:Int)+1) (↑(j+1):Int) ?_
  refine xv1 2 0 (show(.int .i64 (↑((Xo j r)/2):Int):Value)=.int .i64 (↑(Xo (j+1) r):Int) from by rw[show Xo (j+1) r=Js (Xo j r) from rfl,step1_ev (by omega)]) ?_
  exact ze 0 (hJ1 _ _ _ ⟨j+1,rfl,rfl,hB_1,by omega⟩ (by omega))
 refine xe 12 (.int .i64 (↑(Xo j r):Int)) ?_
 obtain rfl:j=8:=by omega
 exact⟨rfl,hB_1⟩
theorem ref_More(a:Option Addr)(c:Nat)(l:List UInt8)(w:World)(hl:l.length≤100000000)(h:Bys w (.slice a l.length c) l) :
 Calls Tryz.prog 228 #[.int .i64 0,.slice a l.length c] w (Ret (.int .i64 (Ji l:Int)) w):=by
 refine zin 31 Tryz.func228 ?_
 have hB:=Below.refl w.heap.size w
 refine zl 33 31 (fun zm zkv V=>∃ (i:Nat),zkv=[(1,.slice a l.length c),(4,.int .i64 0),(5,.int .i64 (↑(Zv 4294967295 (l.take i)):Int)),(6,.int .i64 (↑i:Int))]∧zm=l.length-((↑i:Int)).toNat∧Below w.heap.size w V∧i≤l.length) ⟨0,rfl,rfl,hB,Nat.zero_le _⟩ ?_
 rintro _ _ W1 ⟨i,rfl,rfl,hB_1,hi⟩ J1 hJ1 r1
 refine xid 9 ((↑i:Int)<(↑l.length:Int)) (fun hc2=>?_) (fun hc2=>?_)
 ·refine xx 8 _ l.length i 1 (Bys.elem h (k:=i) (by omega)).1 ?_
  refine xl 0 ((Bys.elem (h.below hB_1) (k:=i) (by omega)).2) ?_
  refine xq 0 (congrArg (Value.int .i64) (show(IntKind.i64.wrap (↑(l.getD i 0).toNat:Int):Int)=(↑(l.getD i 0).toNat:Int) from Vk (by have:=(l.getD i 0).toNat_lt;omega))) ?_
  refine xq 0 (congrArg (Value.int .i64) (show(IntKind.i64.wrap (↑(BitVec.ofInt 64 (↑(Zv 4294967295 (l.take i)):Int) ^^^ BitVec.ofInt 64 (↑(l.getD i 0).toNat:Int)).toNat:Int):Int)=(↑((Zv 4294967295 (l.take i)) ^^^ (l.getD i 0).toNat):Int) from Dp (Hg (by decide) _) (Zdg _))) ?_
  refine xr 0 (args:=#[.int .i64 (↑((Zv 4294967295 (l.take i)) ^^^ (l.getD i 0).toNat):Int)]) (ref_Step ((Zv 4294967295 (l.take i)) ^^^ (l.getD i 0).toNat) _ (Nat.xor_lt_two_pow (n:=32) (Hg (by decide) _) (Zdg _))) fun W3 hb3=>?_
  refine xwm 6 ((↑i:Int)+1) (↑(i+1):Int) ?_
  refine xv1 2 5 (show(.int .i64 (↑(Xo 8 ((Zv 4294967295 (l.take i)) ^^^ (l.getD i 0).toNat)):Int):Value)=.int .i64 (↑(Zv 4294967295 (l.take (i+1))):Int) from by rw[Cm (by omega),crcStep_8]) ?_
  have hB'1:=bln hB_1 hb3
  exact ze 0 (hJ1 _ _ _ ⟨i+1,rfl,rfl,hB'1,by omega⟩ (by omega))
 refine xq 8 (congrArg (Value.int .i64) (show(IntKind.i64.wrap (↑(BitVec.ofInt 64 (↑(Zv 4294967295 (l.take i)):Int) ^^^ BitVec.ofInt 64 (4294967295:Int)).toNat:Int):Int)=(↑((Zv 4294967295 (l.take i)) ^^^ 4294967295):Int) from Dp (b:=4294967295) (Hg (by decide) _) (by decide))) ?_
 refine xe 4 (.int .i64 (↑((Zv 4294967295 (l.take i)) ^^^ 4294967295):Int)) ?_
 obtain rfl:i=l.length:=by omega
 rw[List.take_length]
 exact⟨rfl,hB_1⟩
theorem ref_Sum(a:Option Addr)(c:Nat)(l:List UInt8)(w:World)(hl:l.length≤100000000)(h:Bys w (.slice a l.length c) l) :
 Calls Tryz.prog 207 #[.slice a l.length c] w (Ret (.int .i64 (Ji l:Int)) w):=by
 refine zin 5 Tryz.func207 ?_
 refine xr 8 (args:=#[.int .i64 0,.slice a l.length c]) (ref_More a c l _ hl (h.below (Below.refl w.heap.size _))) fun W1 hb1=>?_
 exact xe 4 (.int .i64 (↑(Ji l):Int)) ⟨rfl,hb1⟩
theorem ref_SumN(a:Option Addr)(n c:Nat)(l:List UInt8)(w:World)(hn:l.length=n)(hl:n≤100000000)(h:Bys w (.slice a n c) l):Calls Tryz.prog 207 #[.slice a n c] w (Ret (.int .i64 (Ji l:Int)) w):=by
 subst hn;exact ref_Sum a c l w hl h
theorem leB_snoc(n:Int)(w:Nat):leB n (w+1)=leB n w++[Zl n w]:=by simp[leB,List.range_succ]
theorem Zhh(m i:Nat):IntKind.u8.wrap (((m/256 ^ i)%256:Nat):Int)=((Zl (m:Int) i).toNat:Int):=by
 rw[Ie (Int.natCast_nonneg _)]
 unfold Zl
 simp only[Int.toNat_natCast,Nat.pow_zero,Nat.div_one]
 congr 2
 apply UInt8.toNat_inj.1
 simp[UInt8.toNat_ofNat']
theorem ref_Bytes(m w:Nat)(W:World)(hm:m<9223372036854775808)(hw:w≤8) :
 Calls Tryz.prog 170 #[.int .i64 (↑m:Int),.int .i64 (↑w:Int)] W (Yz (fun W' r=>∃ p c,r=.slice p w c∧W'.ownsRow W.heap.size 5 1 (.slice p w c) w ((leB (↑m:Int) w).map bv)) W):=by
 refine zin 21 Tryz.func170 ?_
 refine xv1 17 0 (show(.int .i64 (↑m:Int):Value)=.int .i64 ((m/256 ^ 0:Nat):Int) from by rw[Nat.pow_zero,Nat.div_one]) ?_
 have hB:=Below.refl W.heap.size W
 refine zl 0 21 (fun zm zkv V=>∃ (i:Nat) (p:Option Addr) (c:Nat),zkv=[(0,.int .i64 (↑(m/256 ^ i):Int)),(1,.int .i64 (↑w:Int)),(4,.slice none 0 0),(5,.slice p i c),(6,.int .i64 (↑i:Int))]∧zm=w-((↑i:Int)).toNat∧Below W.heap.size W V∧V.ownsRow W.heap.size 5 1 (.slice p i c) i ((leB (↑m:Int) i).map bv)∧i≤w) ⟨0,_,_,rfl,rfl,hB,World.ownsRow_nil _ _ _ _,Nat.zero_le _⟩ ?_
 rintro _ _ W1 ⟨i,p,c,rfl,rfl,hB_1,ho,hi⟩ J1 hJ1 r1
 refine xid 8 ((↑i:Int)<(↑w:Int)) (fun hc2=>?_) (fun hc2=>?_)
 ·refine xq 8 (congrArg (Value.int .i64) (show(Int.tmod (↑(m/256 ^ i):Int) 256:Int)=(↑((m/256 ^ i)%256):Int) from He (m/256 ^ i) 256)) ?_
  refine xq 0 (congrArg (Value.int .u8) (show(IntKind.u8.wrap (↑((m/256 ^ i)%256):Int):Int)=(↑(Zl (↑m:Int) i).toNat:Int) from Zhh m i)) ?_
  refine xbs 0 1 [.int .u8 (↑(Zl (↑m:Int) i).toNat:Int)] 5 fun b3 W3 n3=>?_
  have g3:=n3.ge hB_1
  have r3_ho:=Zr ho n3
  have ho'1:=Zb ho n3.below
  have hB'1:=bln hB_1 n3.below
  refine xbi 0 fun _ _ _ _ zJ zQ zo zx zy zK=>Zo (m:=1) (news:=[.int .u8 (↑(Zl (↑m:Int) i).toNat:Int)]) (.int .u8 0) 1 1 (i+1) ((leB (↑m:Int) (i+1)).map bv) zo Tryz.underlying22 (by kernel_rfl) rfl (by decide) zx ho'1 zy (n3.blk.sl 1 1 (by decide) (by decide)) rfl (by simp[Value.oneCell']) (by unfold maxLen;omega) (by omega) hB'1.size (by rfl) (by rw[leB_snoc,List.map_append];rfl) fun px4 cx4 W4 o4 hg4 hb4=>?_
  refine zK _ _ ?_
  refine xq 5 (congrArg (Value.int .i64) (show(IntKind.i64.wrap (Int.tdiv (↑(m/256 ^ i):Int) 256):Int)=(↑((m/256 ^ i)/256):Int) from Gc (m/256 ^ i) 256 (Nat.lt_of_le_of_lt (Nat.div_le_self _ _) hm) (by decide))) ?_
  refine xwm 6 ((↑i:Int)+1) (↑(i+1):Int) ?_
  refine xv1 2 0 (show(.int .i64 (↑((m/256 ^ i)/256):Int):Value)=.int .i64 (↑(m/256 ^ (i+1)):Int) from by rw[Nat.pow_succ,←Nat.div_div_eq_div_mul]) ?_
  have hB'2:=hB'1.trans hb4
  exact ze 0 (hJ1 _ _ _ ⟨i+1,_,_,rfl,rfl,hB'2,o4,by omega⟩ (by omega))
 refine xe 12 (.slice p i c) ?_
 obtain rfl:i=w:=by omega
 exact⟨_,rfl,hB_1,_,_,rfl,ho⟩
theorem Mj(n:Int)(w:Nat)(wi:Int)(W:World)(h0:0≤n)(hn:n<9223372036854775808)(hwi:wi=(w:Int))(hw:w≤8):Calls Tryz.prog 170 #[.int .i64 n,.int .i64 wi] W (Yz (fun W' r=>∃ p c,r=.slice p w c∧W'.ownsRow W.heap.size 5 1 (.slice p w c) w ((leB n w).map bv)) W):=by
 subst hwi
 obtain⟨m,rfl⟩:∃ m:Nat,n=m:=⟨n.toNat,by omega⟩
 exact ref_Bytes m w W (by omega) hw
theorem ref_Salt1(w:World) :
 Calls Tryz.prog 208 #[.int .i64 1] w (Ret (.int .i64 (Uy 1:Int)) w):=by
 refine zin 15 Tryz.func208 ?_
 refine xbs 7 5 [.int .i64 0,.int .i64 160774,.int .i64 121107,.int .i64 240779,.int .i64 160478] 3 fun b1 W1 n1=>?_
 refine xb 22 1 n1.blk ?_
 exact xe 4 (.int .i64 160774) ⟨rfl,n1.below⟩
theorem ref_Salt2(w:World) :
 Calls Tryz.prog 208 #[.int .i64 2] w (Ret (.int .i64 (Uy 2:Int)) w):=by
 refine zin 15 Tryz.func208 ?_
 refine xbs 7 5 [.int .i64 0,.int .i64 160774,.int .i64 121107,.int .i64 240779,.int .i64 160478] 3 fun b1 W1 n1=>?_
 refine xb 22 2 n1.blk ?_
 exact xe 4 (.int .i64 121107) ⟨rfl,n1.below⟩
theorem ref_Salt3(w:World) :
 Calls Tryz.prog 208 #[.int .i64 3] w (Ret (.int .i64 (Uy 3:Int)) w):=by
 refine zin 15 Tryz.func208 ?_
 refine xbs 7 5 [.int .i64 0,.int .i64 160774,.int .i64 121107,.int .i64 240779,.int .i64 160478] 3 fun b1 W1 n1=>?_
 refine xb 22 3 n1.blk ?_
 exact xe 4 (.int .i64 240779) ⟨rfl,n1.below⟩
theorem ref_Salt4(w:World) :
 Calls Tryz.prog 208 #[.int .i64 4] w (Ret (.int .i64 (Uy 4:Int)) w):=by
 refine zin 15 Tryz.func208 ?_
 refine xbs 7 5 [.int .i64 0,.int .i64 160774,.int .i64 121107,.int .i64 240779,.int .i64 160478] 3 fun b1 W1 n1=>?_
 refine xb 22 4 n1.blk ?_
 exact xe 4 (.int .i64 160478) ⟨rfl,n1.below⟩
theorem ref_Salt(kind:Int)(h1:1≤kind)(h2:kind≤4)(w:World):Calls Tryz.prog 208 #[.int .i64 kind] w (Ret (.int .i64 (Uy kind:Int)) w):=by
 obtain rfl|rfl|rfl|rfl:kind=1∨kind=2∨kind=3∨kind=4:=by omega
 ·exact ref_Salt1 w
 ·exact ref_Salt2 w
 ·exact ref_Salt3 w
 ·exact ref_Salt4 w
theorem Oe(kind no:Int)(w:World) :
 Calls Tryz.prog 206 #[.int .i64 kind,.int .i64 no] w (Ret (.bool (Vh kind no)) w):=by
 refine zin 19 Tryz.func206 ?_
 refine xg 10 [6,7] (decide (kind≥(1:Int))) (fun hc1=>?_) (fun hc1=>?_)
 ·have hc1:=of_decide_eq_true hc1
  refine xg 4 [9,10,11] (decide (kind≤(4:Int))) (fun hc2=>?_) (fun hc2=>?_)
  ·have hc2:=of_decide_eq_true hc2
   refine xg 4 [13,14,15] (decide (no≥(0:Int))) (fun hc3=>?_) (fun hc3=>?_)
   ·have hc3:=of_decide_eq_true hc3
    exact xe 7 (.bool (decide (no<(14400:Int)))) ⟨by rw[show Vh kind no=decide (no<14400) from decide_eq_decide.2 ⟨fun h=>h.2.2.2,fun h=>⟨by omega,by omega,by omega,h⟩⟩],(Below.refl w.heap.size _)⟩
   have hc3:=of_decide_eq_false hc3
   exact xe 7 (.bool false) ⟨by rw[show Vh kind no=false from decide_eq_false (by omega)],(Below.refl w.heap.size _)⟩
  have hc2:=of_decide_eq_false hc2
  exact xe 11 (.bool false) ⟨by rw[show Vh kind no=false from decide_eq_false (by omega)],(Below.refl w.heap.size _)⟩
 have hc1:=of_decide_eq_false hc1
 exact xe 15 (.bool false) ⟨by rw[show Vh kind no=false from decide_eq_false (by omega)],(Below.refl w.heap.size _)⟩
end Go.Proofs.YtlmaglneeaecdaaGreatDoor
namespace Go.Proofs.YtlmaglneeaecdaaGreatDoor
set_option maxHeartbeats 8000000
set_option maxRecDepth 100000
open Go.RowKit
set_option linter.unusedVariables false
theorem run_cat{P:Program}{a:Act}{o:Oper}{t t2:TypeId}{x y:Operand}{l m:List UInt8}(ho:o.op=.binOp .add t x y t2)(hx:a.eval x=.string ⟨l.toArray⟩)(hy:a.eval y=.string ⟨m.toArray⟩)(hl:l.length+m.length≤1000000)(w:World):(execOp a.eval o).run P w=.ok (.value (.string ⟨(l++m).toArray⟩)) w:=by
 have e:(⟨l.toArray⟩:ByteArray)++⟨m.toArray⟩=⟨(l++m).toArray⟩:=by
  apply ByteArray.ext
  simp
 have g:binOp .add t (.string ⟨l.toArray⟩) (.string ⟨m.toArray⟩)=pure (.string ((⟨l.toArray⟩:ByteArray)++⟨m.toArray⟩)):=by
  have h:¬ (9223372036854775807:Int)<((⟨l.toArray⟩:ByteArray).size:Int)+((⟨m.toArray⟩:ByteArray).size:Int):=by simp[ByteArray.size];omega
  simp[binOp,Op.stringOp]
  intro q;exact absurd q h
 have q:eqGuard .add t x y (.string ⟨l.toArray⟩:Value) (.string ⟨m.toArray⟩:Value)=pure ():=rfl
 simp only[execOp,ho,hx,hy,g,e,q]
 simp
theorem Zgv(bs:ByteArray)(i:Nat)(r:List UInt8):ByteArray.toList.loop bs i r=r.reverse++bs.data.toList.drop i:=by
 have hs:bs.data.toList.length=bs.size:=by rw[Array.length_toList];rfl
 rw[ByteArray.toList.loop]
 split
 ·rename_i h
  have h':i<bs.data.toList.length:=by omega
  rw[Zgv bs (i+1) _,List.drop_eq_getElem_cons h']
  have e:bs.get! i=bs.data.toList[i]:=by
   have h2:i<bs.data.size:=by rw[←Array.length_toList];exact h'
   show bs.data[i]! = _
   rw[getElem!_pos bs.data i h2];simp
  rw[e];simp
 ·rename_i h
  rw[List.drop_eq_nil_of_le (by omega)];simp
termination_by bs.size-i
theorem Zcu(a:List UInt8):(⟨a.toArray⟩:ByteArray).toList=a:=by
 unfold ByteArray.toList;rw[Zgv];simp
theorem Ww(a b:List UInt8):((⟨a.toArray⟩:ByteArray).toList==(⟨b.toArray⟩:ByteArray).toList)=(a==b):=by rw[Zcu,Zcu]
theorem Dm(l:List UInt8):∀ (w k i:Nat),i<w→Zf l k w/256 ^ i%256=(l.getD (k+i) 0).toNat
 | 0,k,i,h=>absurd h (by omega)
 | w+1,k,0,_=>by
  have:=(l.getD k 0).toNat_lt
  rw[Zf];simp only[Nat.pow_zero,Nat.div_one,Nat.add_zero];omega
 | w+1,k,i+1,h=>by
  have:=(l.getD k 0).toNat_lt
  have ih:=Dm l w (k+1) i (by omega)
  rw[Zf,Nat.pow_succ,Nat.mul_comm (256 ^ i) 256,←Nat.div_div_eq_div_mul,show((l.getD k 0).toNat+256*Zf l (k+1) w)/256=Zf l (k+1) w by omega,ih,show k+1+i=k+(i+1) by omega]
theorem leB_raw{l:List UInt8}{k w:Nat}(h:k+w≤l.length):leB (Zf l k w:Int) w=(l.drop k).take w:=by
 apply List.ext_getElem
 ·simp[Zg];omega
 intro i h1 h2
 have hw:i<w:=by simpa [Zg] using h1
 have e:=Dm l w k i hw
 apply UInt8.toNat_inj.1
 simp only[leB,List.getElem_map,List.getElem_range,Zl,Int.toNat_natCast,UInt8.toNat_ofNat',List.getElem_take,List.getElem_drop]
 have e2:l.getD (k+i) 0=l[k+i]'(by omega):=by simp[List.getD,show k+i<l.length by omega]
 rw[e2] at e
 rw[←e]
theorem leB_inj{m n w:Nat}(hm:m<256 ^ w)(hn:n<256 ^ w)(h:leB (m:Int) w=leB (n:Int) w):m=n:=by
 have e:∀ i,i<w→m/256 ^ i%256=n/256 ^ i%256:=fun i hi=>by
  have:=congrArg (fun l=>(l.getD i 0).toNat) h
  simpa [leB,Zl,List.getD,List.getElem?_range hi,UInt8.toNat_ofNat'] using this
 clear h
 induction w generalizing m n with
 | zero=>simp at hm hn;omega
 | succ w ih =>
  have h0:=e 0 (by omega)
  have h1:m/256=n/256:=ih (by rw[Nat.pow_succ] at hm;omega) (by rw[Nat.pow_succ] at hn;omega) fun i hi=>by
   have:=e (i+1) (by omega)
   rw[Nat.pow_succ,Nat.mul_comm (256 ^ i) 256,←Nat.div_div_eq_div_mul,←Nat.div_div_eq_div_mul] at this
   exact this
  simp only[Nat.pow_zero,Nat.div_one] at h0
  omega
theorem Zad{b:Bool}(h:(!b)=true):b=false:=by simpa using h
theorem Zaj{b:Bool}(h:(!b)=false):b=true:=by simpa using h
end Go.Proofs.YtlmaglneeaecdaaGreatDoor
namespace Go.Proofs.YtlmaglneeaecdaaGreatDoor
set_option maxHeartbeats 8000000
set_option maxRecDepth 100000
open Go.RowKit Go.Extern.Stop Go.Stop Go.Extern
set_option linter.unusedVariables false
attribute [local irreducible] wpList wpAnyH Code.wp Oper.wp Go
theorem Db(n lo hi:Int)(w:World) :
 Calls Tryz.prog 119 #[.int .i64 n,.int .i64 lo,.int .i64 hi] w (Ret (.bool (decide (lo≤n∧n≤hi))) w):=by
 refine zin 15 Tryz.func119 ?_
 refine xg 11 [9,10] (decide (n≥lo)) (fun hc1=>?_) (fun hc1=>?_)
 ·have hc1:=of_decide_eq_true hc1
  exact xe 8 (.bool (decide (n≤hi))) ⟨by rw[show decide (lo≤n∧n≤hi)=decide (n≤hi) from by simp;omega],(Below.refl w.heap.size _)⟩
 have hc1:=of_decide_eq_false hc1
 exact xe 8 (.bool false) ⟨by rw[show decide (lo≤n∧n≤hi)=false from decide_eq_false (by omega)],(Below.refl w.heap.size _)⟩
def Zc7(N:List Int)(ws:List Nat)(k:Nat):List UInt8:=(List.range k).flatMap fun i=>leB (N.getD i 0) (ws.getD i 0)
theorem Ee(N:List Int)(ws:List Nat)(k:Nat):Zc7 N ws (k+1)=Zc7 N ws k++leB (N.getD k 0) (ws.getD k 0):=by simp[Zc7,List.range_succ]
def TxtOk(N:List Int)(ws:List Nat):Prop:=N.length≤100∧ws.length=N.length∧∀ i,i<N.length→0≤N.getD i 0∧N.getD i 0<9223372036854775808∧ws.getD i 0≤8
theorem Zbz{N:List Int}{ws:List Nat}(h:TxtOk N ws):∀ k,k≤N.length→(Zc7 N ws k).length≤k*8
 | 0,_=>Nat.zero_le _
 | k+1,hk=>by
  rw[Ee,List.length_append,Zg]
  have:=Zbz h k (by omega)
  have:=(h.2.2 k (by omega)).2.2
  omega
theorem Zbf(N:List Int)(ws:List Nat)(gn gw:Option Addr)(cn cw:Nat)(w:World)(hok:TxtOk N ws)(hN:Sl w (.slice gn N.length cn) N.length (N.map (Value.int .i64)))(hW:Sl w (.slice gw N.length cw) N.length (ws.map nv)) :
 Calls Tryz.prog 120 #[.slice gn N.length cn,.slice gw N.length cw] w (Ret (.string ⟨(Zc7 N ws N.length).toArray⟩) w):=by
 have hnl:=hok.1
 have hwl:=hok.2.1
 refine zin 26 Tryz.func120 ?_
 have hB:=Below.refl w.heap.size w
 refine zl 17 26 (fun zm zkv V=>∃ (i:Nat),zkv=[(0,.slice gn N.length cn),(1,.slice gw N.length cw),(4,.string ⟨#[]⟩),(5,.string ⟨(Zc7 N ws i).toArray⟩),(6,.int .i64 (↑i:Int))]∧zm=N.length-((↑i:Int)).toNat∧Below w.heap.size w V∧i≤N.length) ⟨0,rfl,rfl,hB,Nat.zero_le _⟩ ?_
 rintro _ _ W1 ⟨i,rfl,rfl,hB_1,hi⟩ J1 hJ1 r1
 have htl:=Zbz hok i hi
 have hw8:i<N.length→ws.getD i 0≤8:=fun q=>(hok.2.2 i q).2.2
 refine xid 9 ((↑i:Int)<(↑N.length:Int)) (fun hc2=>?_) (fun hc2=>?_)
 ·refine xd 4 .z ?_
  refine xx (.e [0,1,2] 3) _ N.length i 1 (IntsN.elem hN rfl (k:=i) (by omega)).1 ?_
  have hB'1:=bln hB_1 (Za W1)
  refine xl (.e [] 4) ((IntsN.elem (hN.below hB'1) rfl (k:=i) (by omega)).2) ?_
  refine xx (.e [5,6] 7) _ N.length i 1 (Zi hW hwl (k:=i) (by omega)).1 ?_
  refine xl (.e [] 8) ((Zi (hW.below hB'1) hwl (k:=i) (by omega)).2) ?_
  refine yc (.o [] 9) (args:=#[.int .i64 (N.getD i 0),.int .i64 (↑(ws.getD i 0):Int)]) .z (Mj (N.getD i 0) (ws.getD i 0) (↑(ws.getD i 0):Int) _ (hok.2.2 i (by omega)).1 (hok.2.2 i (by omega)).2.1 rfl (hok.2.2 i (by omega)).2.2) ?_
  rintro _ W3 ⟨_,rfl,hb3,p2,c2,rfl,h2⟩
  refine⟨hb3,?_⟩
  have h2'1:=Zd h2 hB'1.size
  refine xcv (.e [] 10) (fun _ _ _ zo zx V hV=>Yp zo zx (Yk (Ze (Zb h2'1 hV)) (Zg _ _)) (Zg _ _) Tryz.underlying22 Tryz.underlying5 Tryz.underlying9) ?_
  refine xbo (.e [] 11) (t:=9) (t2:=9) (fun _ _ _ _ zo zx zy V hV=>run_cat (l:=Zc7 N ws i) (m:=leB (N.getD i 0) (ws.getD i 0)) zo zx zy (by rw[Zg];omega) V) ?_
  refine xwm (.r [12] 5) ((↑i:Int)+1) (↑(i+1):Int) ?_
  refine xv1 2 5 (show(.string ⟨(Zc7 N ws i++leB (N.getD i 0) (ws.getD i 0)).toArray⟩:Value)=.string ⟨(Zc7 N ws (i+1)).toArray⟩ from by rw[Ee]) ?_
  have hB'2:=bln hB'1 hb3
  exact ze 0 (hJ1 _ _ _ ⟨i+1,rfl,rfl,hB'2,by omega⟩ (by omega))
 refine xe 12 (.string ⟨(Zc7 N ws i).toArray⟩) ?_
 obtain rfl:i=N.length:=by omega
 exact⟨rfl,hB_1⟩
def Mn(x y z:Int):Bool:=decide (1≤x∧x≤14399)&&decide (0≤y∧y≤960)&&decide (0≤z∧z≤960)
def SlotStrP(x y z:Int)(w:World)(e:Ending)(w':World):Prop :=
 (Mn x y z=false∧e=.returned (.string ⟨#[]⟩)∧Below w.heap.size w w')∨(Mn x y z=true∧e=.returned (.string ⟨(Zc7 [x,y,z] [8,4,4] 3).toArray⟩)∧Below w.heap.size w w')
theorem slotQ_ok{x y z:Int}(h:Mn x y z=true):TxtOk [x,y,z] [8,4,4]:=by
 unfold Mn at h
 simp only[Bool.and_eq_true,decide_eq_true_iff] at h
 refine⟨show 3≤100 from by decide,rfl,fun i hi=>?_⟩
 have hi':i<3:=hi
 obtain rfl|rfl|rfl:i=0∨i=1∨i=2:=by omega
 all_goals simp[List.getD]
 all_goals omega
theorem txt3_ne(x y z:Int):((⟨(Zc7 [x,y,z] [8,4,4] 3).toArray⟩:ByteArray).toList==(⟨#[]⟩:ByteArray).toList)=false:=by
 rw[show(⟨#[]⟩:ByteArray)=⟨([]:List UInt8).toArray⟩ from rfl,Ww]
 apply beq_false_of_ne
 intro q
 have h1:=congrArg List.length q
 rw[Ee,List.length_append,Zg,List.length_nil] at h1
 simp at h1
theorem Zdz(x y z:Int)(w:World) :
 Calls Tryz.prog 192 #[.agg #[.int .i64 x,.int .i64 y,.int .i64 z]] w (SlotStrP x y z w):=by
 refine zin 28 Tryz.func192 ?_
 refine xa 2 [.int .i64 x,.int .i64 y,.int .i64 z] 191 fun b1 W1 n1=>?_
 refine xb 7 0 n1.blk ?_
 refine xr 0 (args:=#[.int .i64 x,.int .i64 1,.int .i64 14399]) (Db x 1 14399 _) fun W2 hb2=>?_
 refine xg 2 [6,7] (!(decide ((1:Int)≤x∧x≤14399))) (fun hc3=>?_) (fun hc3=>?_)
 ·have hd4:(decide ((1:Int)≤x∧x≤14399))=false:=Zad hc3
  have hB:=bln n1.below hb2
  exact xe 21 (.string ⟨#[]⟩) (.inl ⟨by unfold Mn;first|(rw[hd4];done)|(rw[hd4];rfl),rfl,hB⟩)
 have hd5:(decide ((1:Int)≤x∧x≤14399))=true:=Zaj hc3
 have k1'1:=n1.blk.below hb2
 refine xb 1 1 k1'1 ?_
 refine xr 0 (args:=#[.int .i64 y,.int .i64 0,.int .i64 960]) (Db y 0 960 _) fun W6 hb6=>?_
 refine xg 3 [11,12,13] (!(decide ((0:Int)≤y∧y≤960))) (fun hc7=>?_) (fun hc7=>?_)
 ·have hd8:(decide ((0:Int)≤y∧y≤960))=false:=Zad hc7
  have hB:=bln (bln n1.below hb2) hb6
  exact xe 15 (.string ⟨#[]⟩) (.inl ⟨by unfold Mn;first|(rw[hd5,hd8];done)|(rw[hd5,hd8];rfl),rfl,hB⟩)
 have hd9:(decide ((0:Int)≤y∧y≤960))=true:=Zaj hc7
 have k1'2:=k1'1.below hb6
 refine xb 1 2 k1'2 ?_
 refine xr 0 (args:=#[.int .i64 z,.int .i64 0,.int .i64 960]) (Db z 0 960 _) fun W10 hb10=>?_
 refine xi 4 (!(decide ((0:Int)≤z∧z≤960))) (fun hc11=>?_) (fun hc11=>?_)
 ·have hd12:(decide ((0:Int)≤z∧z≤960))=false:=Zad hc11
  have hB:=bln (bln (bln n1.below hb2) hb6) hb10
  exact xe 7 (.string ⟨#[]⟩) (.inl ⟨by unfold Mn;first|(rw[hd5,hd9,hd12];done)|(rw[hd5,hd9,hd12];rfl),rfl,hB⟩)
 have hd13:(decide ((0:Int)≤z∧z≤960))=true:=Zaj hc11
 have k1'3:=k1'2.below hb10
 refine xb 5 0 k1'3 ?_
 refine xb 1 1 k1'3 ?_
 refine xb 1 2 k1'3 ?_
 refine xbs 0 3 [.int .i64 x,.int .i64 y,.int .i64 z] 3 fun b14 W14 n14=>?_
 refine xbs 0 3 [.int .i64 8,.int .i64 4,.int .i64 4] 3 fun b15 W15 n15=>?_
 have d15_b14:=n15.ne n14.blk
 have hsb:Mn x y z=true:=by
  unfold Mn
  rw[hd5,hd9,hd13];rfl
 have k14'1:=n14.blk.below n15.below
 refine xr 0 (args:=#[.slice (some ⟨b14,0,none⟩) 3 3,.slice (some ⟨b15,0,none⟩) 3 3]) (Zbf [x,y,z] [8,4,4] (some ⟨b14,0,none⟩) (some ⟨b15,0,none⟩) 3 3 _ (slotQ_ok hsb) (k14'1.sl 3 3 (by decide) (by decide)) (n15.blk.sl 3 3 (by decide) (by decide))) fun W16 hb16=>?_
 have hB:=bln (bln (bln (bln (bln (bln n1.below hb2) hb6) hb10) n14.below) n15.below) hb16
 exact xe 4 (.string ⟨(Zc7 [x,y,z] [8,4,4] 3).toArray⟩) (.inr ⟨hsb,rfl,hB⟩)
theorem Mz(g:Nat)(n:Int)(h0:0≤n)(hb:n<4294967296)(w:World)(hk:Blk w g [.int .i64 4,.int .i64 n] 226) :
 Calls Tryz.prog 110 #[.slice (some ⟨g,0,none⟩) 1 1] w (Yz (fun w' r=>∃ p c,r=.tuple #[.slice p 4 c,.int .i64 0]∧w'.ownsRow w.heap.size 5 1 (.slice p 4 c) 4 ((leB n 4).map bv)) w):=by
 refine zin 32 Tryz.func110 ?_
 refine xu 20 2 ?_
 refine xlv 14 hk.rp ?_
 refine xa 0 [.int .i64 0,.int .i64 0] 226 fun b1 W1 n1=>?_
 have d1_g:=n1.ne hk
 refine xsv 0 n1.blk [.int .i64 4,.int .i64 n] fun W2 u2 k2=>?_
 have g1:=n1.ge (Below.refl w.heap.size _)
 refine xb 6 0 k2 ?_
 refine xr 0 (args:=#[.int .i64 4]) (Oh _) fun W3 hb3=>?_
 have k2'1:=k2.below hb3
 refine xb 10 1 k2'1 ?_
 refine xb 1 0 k2'1 ?_
 refine xr 0 (args:=#[.int .i64 n,.int .i64 4]) (fits_4 (n) (h0) (hb) _) fun W4 hb4=>?_
 have k2'2:=k2'1.below hb4
 refine xb 9 1 k2'2 ?_
 refine xb 1 0 k2'2 ?_
 refine xc 0 (args:=#[.int .i64 n,.int .i64 4]) (Zap (n) (h0) _) ?_
 rintro _ W5 ⟨_,rfl,hb5,h2_0⟩
 have hs5:=(bln (bln (u2.below n1.below g1) hb3) hb4).size
 have h2_0'1:=Zd h2_0 hs5
 unfold Wm at h2_0'1
 rw[Zg] at h2_0'1
 obtain⟨p2_0,c2_0,rfl⟩:=(Ze h2_0'1).slice
 have o6:=World.ownsRow_nil W5 w.heap.size 5 1
 have hB:=bln (bln (bln (u2.below n1.below g1) hb3) hb4) hb5
 refine xbi 0 fun _ _ _ _ zJ zQ zo zx zy zK=>Zo (m:=4) (news:=(leB (n) 4).map bv) (.int .u8 0) 1 1 (4) ((leB (n) 4).map bv) zo Tryz.underlying22 (by kernel_rfl) rfl (by decide) zx o6 zy (Ze h2_0'1) (by simp[Zg]) (Qc _) (by unfold maxLen;omega) (by omega) hB.size (by rfl) (by simp) fun px7 cx7 W7 o7 hg7 hb7=>?_
 refine zK _ _ ?_
 have hB'1:=hB.trans hb7
 exact xe 29 (.tuple #[.slice px7 4 cx7,.int .i64 0]) ⟨_,rfl,hB'1,_,_,rfl,o7⟩
theorem Pack_8(g:Nat)(n:Int)(h0:0≤n)(w:World)(hk:Blk w g [.int .i64 8,.int .i64 n] 226) :
 Calls Tryz.prog 110 #[.slice (some ⟨g,0,none⟩) 1 1] w (Yz (fun w' r=>∃ p c,r=.tuple #[.slice p 8 c,.int .i64 0]∧w'.ownsRow w.heap.size 5 1 (.slice p 8 c) 8 ((leB n 8).map bv)) w):=by
 refine zin 32 Tryz.func110 ?_
 refine xu 20 2 ?_
 refine xlv 14 hk.rp ?_
 refine xa 0 [.int .i64 0,.int .i64 0] 226 fun b1 W1 n1=>?_
 have d1_g:=n1.ne hk
 refine xsv 0 n1.blk [.int .i64 8,.int .i64 n] fun W2 u2 k2=>?_
 have g1:=n1.ge (Below.refl w.heap.size _)
 refine xb 6 0 k2 ?_
 refine xr 0 (args:=#[.int .i64 8]) (known_8 _) fun W3 hb3=>?_
 have k2'1:=k2.below hb3
 refine xb 10 1 k2'1 ?_
 refine xb 1 0 k2'1 ?_
 refine xr 0 (args:=#[.int .i64 n,.int .i64 8]) (fits_8 (n) (h0) _) fun W4 hb4=>?_
 have k2'2:=k2'1.below hb4
 refine xb 9 1 k2'2 ?_
 refine xb 1 0 k2'2 ?_
 refine xc 0 (args:=#[.int .i64 n,.int .i64 8]) (bytes_8 (n) (h0) _) ?_
 rintro _ W5 ⟨_,rfl,hb5,h2_0⟩
 have hs5:=(bln (bln (u2.below n1.below g1) hb3) hb4).size
 have h2_0'1:=Zd h2_0 hs5
 unfold Wm at h2_0'1
 rw[Zg] at h2_0'1
 obtain⟨p2_0,c2_0,rfl⟩:=(Ze h2_0'1).slice
 have o6:=World.ownsRow_nil W5 w.heap.size 5 1
 have hB:=bln (bln (bln (u2.below n1.below g1) hb3) hb4) hb5
 refine xbi 0 fun _ _ _ _ zJ zQ zo zx zy zK=>Zo (m:=8) (news:=(leB (n) 8).map bv) (.int .u8 0) 1 1 (8) ((leB (n) 8).map bv) zo Tryz.underlying22 (by kernel_rfl) rfl (by decide) zx o6 zy (Ze h2_0'1) (by simp[Zg]) (Qc _) (by unfold maxLen;omega) (by omega) hB.size (by rfl) (by simp) fun px7 cx7 W7 o7 hg7 hb7=>?_
 refine zK _ _ ?_
 have hB'1:=hB.trans hb7
 exact xe 29 (.tuple #[.slice px7 8 cx7,.int .i64 0]) ⟨_,rfl,hB'1,_,_,rfl,o7⟩
theorem Pack_node(g:Nat)(f t k v m:Int)(hf:0≤f)(hf2:f<256)(ht:0≤t)(ht2:t<256)(hk1:0≤k)(hk2:k<65536)(hv:0≤v)(hv2:v<65536)(hm:0≤m)(hm2:m<65536)(w:World)(hk:Blk w g [.int .i64 1,.int .i64 f,.int .i64 1,.int .i64 t,.int .i64 2,.int .i64 k,.int .i64 2,.int .i64 v,.int .i64 2,.int .i64 m,.int .i64 4,.int .i64 0] 226) :
 Calls Tryz.prog 110 #[.slice (some ⟨g,0,none⟩) 6 6] w (Yz (fun w' r=>∃ p c,r=.tuple #[.slice p 12 c,.int .i64 0]∧w'.ownsRow w.heap.size 5 1 (.slice p 12 c) 12 ((leB f 1++leB t 1++leB k 2++leB v 2++leB m 2++leB 0 4).map bv)) w):=by
 refine zin 32 Tryz.func110 ?_
 refine xu 20 7 ?_
 refine xlv 14 (hk.rpp 0 2) ?_
 refine xa 0 [.int .i64 0,.int .i64 0] 226 fun b1 W1 n1=>?_
 have d1_g:=n1.ne hk
 refine xsv 0 n1.blk [.int .i64 1,.int .i64 f] fun W2 u2 k2=>?_
 have g1:=n1.ge (Below.refl w.heap.size _)
 refine xb 6 0 k2 ?_
 refine xr 0 (args:=#[.int .i64 1]) (Zal _) fun W3 hb3=>?_
 have k2'1:=k2.below hb3
 refine xb 10 1 k2'1 ?_
 refine xb 1 0 k2'1 ?_
 refine xr 0 (args:=#[.int .i64 f,.int .i64 1]) (fits_1 (f) (hf) (hf2) _) fun W4 hb4=>?_
 have k2'2:=k2'1.below hb4
 refine xb 9 1 k2'2 ?_
 refine xb 1 0 k2'2 ?_
 refine xc 0 (args:=#[.int .i64 f,.int .i64 1]) (bytes_1 (f) (hf) _) ?_
 rintro _ W5 ⟨_,rfl,hb5,h2_0⟩
 have hs5:=(bln (bln (u2.below n1.below g1) hb3) hb4).size
 have h2_0'1:=Zd h2_0 hs5
 unfold Wm at h2_0'1
 rw[Zg] at h2_0'1
 obtain⟨p2_0,c2_0,rfl⟩:=(Ze h2_0'1).slice
 have o6:=World.ownsRow_nil W5 w.heap.size 5 1
 have hB:=bln (bln (bln (u2.below n1.below g1) hb3) hb4) hb5
 refine xbi 0 fun _ _ _ _ zJ zQ zo zx zy zK=>Zo (m:=1) (news:=(leB (f) 1).map bv) (.int .u8 0) 1 1 (1) ((leB (f) 1).map bv) zo Tryz.underlying22 (by kernel_rfl) rfl (by decide) zx o6 zy (Ze h2_0'1) (by simp[Zg]) (Qc _) (by unfold maxLen;omega) (by omega) hB.size (by rfl) (by simp) fun px7 cx7 W7 o7 hg7 hb7=>?_
 refine zK _ _ ?_
 have hk'1:=((((u2.blk (hk.below n1.below) (Ne.symm (Ne.symm d1_g))).below hb3).below hb4).below hb5).grown hg7 o6 (by decide)
 refine xlv 23 (hk'1.rpp 2 2) ?_
 refine xa 0 [.int .i64 0,.int .i64 0] 226 fun b8 W8 n8=>?_
 have d8_g:=n8.ne hk'1
 have k2'3:=(k2'2.below hb5).grown hg7 o6 (by decide)
 have d8_b1:=n8.ne k2'3
 have hB'1:=hB.trans hb7
 have g8:=n8.ge hB'1
 refine xsv 0 n8.blk [.int .i64 1,.int .i64 t] fun W9 u9 k9=>?_
 refine xb 6 0 k9 ?_
 refine xr 0 (args:=#[.int .i64 1]) (Zal _) fun W10 hb10=>?_
 have k9'1:=k9.below hb10
 refine xb 10 1 k9'1 ?_
 refine xb 1 0 k9'1 ?_
 refine xr 0 (args:=#[.int .i64 t,.int .i64 1]) (fits_1 (t) (ht) (ht2) _) fun W11 hb11=>?_
 have k9'2:=k9'1.below hb11
 refine xb 9 1 k9'2 ?_
 refine xb 1 0 k9'2 ?_
 refine xc 0 (args:=#[.int .i64 t,.int .i64 1]) (bytes_1 (t) (ht) _) ?_
 rintro _ W12 ⟨_,rfl,hb12,h2_1⟩
 have hs12:=(bln (bln (u9.below (bln hB'1 n8.below) g8) hb10) hb11).size
 have h2_1'1:=Zd h2_1 hs12
 unfold Wm at h2_1'1
 rw[Zg] at h2_1'1
 obtain⟨p2_1,c2_1,rfl⟩:=(Ze h2_1'1).slice
 have o7'1:=Zb (Zb (Zb (u9.own2 (Zb o7 n8.below) n8.blk (by decide)) hb10) hb11) hb12
 have hB'2:=bln (bln (bln (u9.below (bln hB'1 n8.below) g8) hb10) hb11) hb12
 refine xbi 0 fun _ _ _ _ zJ zQ zo zx zy zK=>Zo (m:=1) (news:=(leB (t) 1).map bv) (.int .u8 0) 1 1 (2) ((leB (f) 1++leB (t) 1).map bv) zo Tryz.underlying22 (by kernel_rfl) rfl (by decide) zx o7'1 zy (Ze h2_1'1) (by simp[Zg]) (Qc _) (by unfold maxLen;omega) (by omega) hB'2.size (by rfl) (by simp) fun px13 cx13 W13 o13 hg13 hb13=>?_
 refine zK _ _ ?_
 have hk'2:=((((u9.blk (hk'1.below n8.below) (Ne.symm (Ne.symm d8_g))).below hb10).below hb11).below hb12).grown hg13 o7'1 (by decide)
 refine xlv 23 (hk'2.rpp 4 2) ?_
 refine xa 0 [.int .i64 0,.int .i64 0] 226 fun b14 W14 n14=>?_
 have d14_g:=n14.ne hk'2
 have k2'4:=((((u9.blk (k2'3.below n8.below) (Ne.symm (Ne.symm d8_b1))).below hb10).below hb11).below hb12).grown hg13 o7'1 (by decide)
 have d14_b1:=n14.ne k2'4
 have k9'3:=(k9'2.below hb12).grown hg13 o7'1 (by decide)
 have d14_b8:=n14.ne k9'3
 have hB'3:=hB'2.trans hb13
 have g14:=n14.ge hB'3
 refine xsv 0 n14.blk [.int .i64 2,.int .i64 k] fun W15 u15 k15=>?_
 refine xb 6 0 k15 ?_
 refine xr 0 (args:=#[.int .i64 2]) (Rv _) fun W16 hb16=>?_
 have k15'1:=k15.below hb16
 refine xb 10 1 k15'1 ?_
 refine xb 1 0 k15'1 ?_
 refine xr 0 (args:=#[.int .i64 k,.int .i64 2]) (Zb6 (k) (hk1) (hk2) _) fun W17 hb17=>?_
 have k15'2:=k15'1.below hb17
 refine xb 9 1 k15'2 ?_
 refine xb 1 0 k15'2 ?_
 refine xc 0 (args:=#[.int .i64 k,.int .i64 2]) (Sq (k) (hk1) _) ?_
 rintro _ W18 ⟨_,rfl,hb18,h2_2⟩
 have hs18:=(bln (bln (u15.below (bln hB'3 n14.below) g14) hb16) hb17).size
 have h2_2'1:=Zd h2_2 hs18
 unfold Wm at h2_2'1
 rw[Zg] at h2_2'1
 obtain⟨p2_2,c2_2,rfl⟩:=(Ze h2_2'1).slice
 have o13'1:=Zb (Zb (Zb (u15.own2 (Zb o13 n14.below) n14.blk (by decide)) hb16) hb17) hb18
 have hB'4:=bln (bln (bln (u15.below (bln hB'3 n14.below) g14) hb16) hb17) hb18
 refine xbi 0 fun _ _ _ _ zJ zQ zo zx zy zK=>Zo (m:=2) (news:=(leB (k) 2).map bv) (.int .u8 0) 1 1 (4) ((leB (f) 1++leB (t) 1++leB (k) 2).map bv) zo Tryz.underlying22 (by kernel_rfl) rfl (by decide) zx o13'1 zy (Ze h2_2'1) (by simp[Zg]) (Qc _) (by unfold maxLen;omega) (by omega) hB'4.size (by rfl) (by simp) fun px19 cx19 W19 o19 hg19 hb19=>?_
 refine zK _ _ ?_
 have hk'3:=((((u15.blk (hk'2.below n14.below) (Ne.symm (Ne.symm d14_g))).below hb16).below hb17).below hb18).grown hg19 o13'1 (by decide)
 refine xlv 23 (hk'3.rpp 6 2) ?_
 refine xa 0 [.int .i64 0,.int .i64 0] 226 fun b20 W20 n20=>?_
 have d20_g:=n20.ne hk'3
 have k2'5:=((((u15.blk (k2'4.below n14.below) (Ne.symm (Ne.symm d14_b1))).below hb16).below hb17).below hb18).grown hg19 o13'1 (by decide)
 have d20_b1:=n20.ne k2'5
 have k9'4:=((((u15.blk (k9'3.below n14.below) (Ne.symm (Ne.symm d14_b8))).below hb16).below hb17).below hb18).grown hg19 o13'1 (by decide)
 have d20_b8:=n20.ne k9'4
 have k15'3:=(k15'2.below hb18).grown hg19 o13'1 (by decide)
 have d20_b14:=n20.ne k15'3
 have hB'5:=hB'4.trans hb19
 have g20:=n20.ge hB'5
 refine xsv 0 n20.blk [.int .i64 2,.int .i64 v] fun W21 u21 k21=>?_
 refine xb 6 0 k21 ?_
 refine xr 0 (args:=#[.int .i64 2]) (Rv _) fun W22 hb22=>?_
 have k21'1:=k21.below hb22
 refine xb 10 1 k21'1 ?_
 refine xb 1 0 k21'1 ?_
 refine xr 0 (args:=#[.int .i64 v,.int .i64 2]) (Zb6 (v) (hv) (hv2) _) fun W23 hb23=>?_
 have k21'2:=k21'1.below hb23
 refine xb 9 1 k21'2 ?_
 refine xb 1 0 k21'2 ?_
 refine xc 0 (args:=#[.int .i64 v,.int .i64 2]) (Sq (v) (hv) _) ?_
 rintro _ W24 ⟨_,rfl,hb24,h2_3⟩
 have hs24:=(bln (bln (u21.below (bln hB'5 n20.below) g20) hb22) hb23).size
 have h2_3'1:=Zd h2_3 hs24
 unfold Wm at h2_3'1
 rw[Zg] at h2_3'1
 obtain⟨p2_3,c2_3,rfl⟩:=(Ze h2_3'1).slice
 have o19'1:=Zb (Zb (Zb (u21.own2 (Zb o19 n20.below) n20.blk (by decide)) hb22) hb23) hb24
 have hB'6:=bln (bln (bln (u21.below (bln hB'5 n20.below) g20) hb22) hb23) hb24
 refine xbi 0 fun _ _ _ _ zJ zQ zo zx zy zK=>Zo (m:=2) (news:=(leB (v) 2).map bv) (.int .u8 0) 1 1 (6) ((leB (f) 1++leB (t) 1++leB (k) 2++leB (v) 2).map bv) zo Tryz.underlying22 (by kernel_rfl) rfl (by decide) zx o19'1 zy (Ze h2_3'1) (by simp[Zg]) (Qc _) (by unfold maxLen;omega) (by omega) hB'6.size (by rfl) (by simp) fun px25 cx25 W25 o25 hg25 hb25=>?_
 refine zK _ _ ?_
 have hk'4:=((((u21.blk (hk'3.below n20.below) (Ne.symm (Ne.symm d20_g))).below hb22).below hb23).below hb24).grown hg25 o19'1 (by decide)
 refine xlv 23 (hk'4.rpp 8 2) ?_
 refine xa 0 [.int .i64 0,.int .i64 0] 226 fun b26 W26 n26=>?_
 have d26_g:=n26.ne hk'4
 have k2'6:=((((u21.blk (k2'5.below n20.below) (Ne.symm (Ne.symm d20_b1))).below hb22).below hb23).below hb24).grown hg25 o19'1 (by decide)
 have d26_b1:=n26.ne k2'6
 have k9'5:=((((u21.blk (k9'4.below n20.below) (Ne.symm (Ne.symm d20_b8))).below hb22).below hb23).below hb24).grown hg25 o19'1 (by decide)
 have d26_b8:=n26.ne k9'5
 have k15'4:=((((u21.blk (k15'3.below n20.below) (Ne.symm (Ne.symm d20_b14))).below hb22).below hb23).below hb24).grown hg25 o19'1 (by decide)
 have d26_b14:=n26.ne k15'4
 have k21'3:=(k21'2.below hb24).grown hg25 o19'1 (by decide)
 have d26_b20:=n26.ne k21'3
 have hB'7:=hB'6.trans hb25
 have g26:=n26.ge hB'7
 refine xsv 0 n26.blk [.int .i64 2,.int .i64 m] fun W27 u27 k27=>?_
 refine xb 6 0 k27 ?_
 refine xr 0 (args:=#[.int .i64 2]) (Rv _) fun W28 hb28=>?_
 have k27'1:=k27.below hb28
 refine xb 10 1 k27'1 ?_
 refine xb 1 0 k27'1 ?_
 refine xr 0 (args:=#[.int .i64 m,.int .i64 2]) (Zb6 (m) (hm) (hm2) _) fun W29 hb29=>?_
 have k27'2:=k27'1.below hb29
 refine xb 9 1 k27'2 ?_
 refine xb 1 0 k27'2 ?_
 refine xc 0 (args:=#[.int .i64 m,.int .i64 2]) (Sq (m) (hm) _) ?_
 rintro _ W30 ⟨_,rfl,hb30,h2_4⟩
 have hs30:=(bln (bln (u27.below (bln hB'7 n26.below) g26) hb28) hb29).size
 have h2_4'1:=Zd h2_4 hs30
 unfold Wm at h2_4'1
 rw[Zg] at h2_4'1
 obtain⟨p2_4,c2_4,rfl⟩:=(Ze h2_4'1).slice
 have o25'1:=Zb (Zb (Zb (u27.own2 (Zb o25 n26.below) n26.blk (by decide)) hb28) hb29) hb30
 have hB'8:=bln (bln (bln (u27.below (bln hB'7 n26.below) g26) hb28) hb29) hb30
 refine xbi 0 fun _ _ _ _ zJ zQ zo zx zy zK=>Zo (m:=2) (news:=(leB (m) 2).map bv) (.int .u8 0) 1 1 (8) ((leB (f) 1++leB (t) 1++leB (k) 2++leB (v) 2++leB (m) 2).map bv) zo Tryz.underlying22 (by kernel_rfl) rfl (by decide) zx o25'1 zy (Ze h2_4'1) (by simp[Zg]) (Qc _) (by unfold maxLen;omega) (by omega) hB'8.size (by rfl) (by simp) fun px31 cx31 W31 o31 hg31 hb31=>?_
 refine zK _ _ ?_
 have hk'5:=((((u27.blk (hk'4.below n26.below) (Ne.symm (Ne.symm d26_g))).below hb28).below hb29).below hb30).grown hg31 o25'1 (by decide)
 refine xlv 23 (hk'5.rpp 10 2) ?_
 refine xa 0 [.int .i64 0,.int .i64 0] 226 fun b32 W32 n32=>?_
 have d32_g:=n32.ne hk'5
 have k2'7:=((((u27.blk (k2'6.below n26.below) (Ne.symm (Ne.symm d26_b1))).below hb28).below hb29).below hb30).grown hg31 o25'1 (by decide)
 have d32_b1:=n32.ne k2'7
 have k9'6:=((((u27.blk (k9'5.below n26.below) (Ne.symm (Ne.symm d26_b8))).below hb28).below hb29).below hb30).grown hg31 o25'1 (by decide)
 have d32_b8:=n32.ne k9'6
 have k15'5:=((((u27.blk (k15'4.below n26.below) (Ne.symm (Ne.symm d26_b14))).below hb28).below hb29).below hb30).grown hg31 o25'1 (by decide)
 have d32_b14:=n32.ne k15'5
 have k21'4:=((((u27.blk (k21'3.below n26.below) (Ne.symm (Ne.symm d26_b20))).below hb28).below hb29).below hb30).grown hg31 o25'1 (by decide)
 have d32_b20:=n32.ne k21'4
 have k27'3:=(k27'2.below hb30).grown hg31 o25'1 (by decide)
 have d32_b26:=n32.ne k27'3
 have hB'9:=hB'8.trans hb31
 have g32:=n32.ge hB'9
 refine xsv 0 n32.blk [.int .i64 4,.int .i64 0] fun W33 u33 k33=>?_
 refine xb 6 0 k33 ?_
 refine xr 0 (args:=#[.int .i64 4]) (Oh _) fun W34 hb34=>?_
 have k33'1:=k33.below hb34
 refine xb 10 1 k33'1 ?_
 refine xb 1 0 k33'1 ?_
 refine xr 0 (args:=#[.int .i64 0,.int .i64 4]) (fits_4 (0) (by decide) (by decide) _) fun W35 hb35=>?_
 have k33'2:=k33'1.below hb35
 refine xb 9 1 k33'2 ?_
 refine xb 1 0 k33'2 ?_
 refine xc 0 (args:=#[.int .i64 0,.int .i64 4]) (Zap (0) (by decide) _) ?_
 rintro _ W36 ⟨_,rfl,hb36,h2_5⟩
 have hs36:=(bln (bln (u33.below (bln hB'9 n32.below) g32) hb34) hb35).size
 have h2_5'1:=Zd h2_5 hs36
 unfold Wm at h2_5'1
 rw[Zg] at h2_5'1
 obtain⟨p2_5,c2_5,rfl⟩:=(Ze h2_5'1).slice
 have o31'1:=Zb (Zb (Zb (u33.own2 (Zb o31 n32.below) n32.blk (by decide)) hb34) hb35) hb36
 have hB'10:=bln (bln (bln (u33.below (bln hB'9 n32.below) g32) hb34) hb35) hb36
 refine xbi 0 fun _ _ _ _ zJ zQ zo zx zy zK=>Zo (m:=4) (news:=(leB (0) 4).map bv) (.int .u8 0) 1 1 (12) ((leB (f) 1++leB (t) 1++leB (k) 2++leB (v) 2++leB (m) 2++leB (0) 4).map bv) zo Tryz.underlying22 (by kernel_rfl) rfl (by decide) zx o31'1 zy (Ze h2_5'1) (by simp[Zg]) (Qc _) (by unfold maxLen;omega) (by omega) hB'10.size (by rfl) (by simp) fun px37 cx37 W37 o37 hg37 hb37=>?_
 refine zK _ _ ?_
 have hB'11:=hB'10.trans hb37
 exact xe 29 (.tuple #[.slice px37 12 cx37,.int .i64 0]) ⟨_,rfl,hB'11,_,_,rfl,o37⟩
theorem Sl.cap{w:World}{b:Option Addr}{n c:Nat}{xs:List Value}(h:Sl w (.slice b n c) n xs):n≤c:=by
 rcases h with ⟨a',c',h1,h2,_⟩|⟨b',off,cap,h1,h2,_,_⟩
 ·omega
 ·simp only[Value.slice.injEq] at h1;omega
def Hs(b:Bool):Int:=if b then 1 else 0
theorem Sn(b:Bool):0≤Hs b∧Hs b<256:=by cases b<;>decide
structure NodeOk(t:Int)(leaf:Bool)(n m v:Nat)(K:List Int)(Vs:List (List UInt8)):Prop where
 ht1:1≤t
 ht2:t≤5
 hm:Qu t leaf=m
 hv:Br t leaf=v
 hK:K.length=n
 hV:Vs.length=n
 hn:n≤m
 hl:leaf=false→1≤n
 hk0:∀ i,i<n→0≤K.getD i 0∧K.getD i 0≤281474976710655
 hk1:∀ j,j+1<n→K.getD j 0<K.getD (j+1) 0
 hw:∀ i,i<n→(Vs.getD i []).length=v
theorem Cp(t:Int)(leaf:Bool):4≤Br t leaf∧Br t leaf≤24:=by
 unfold Br
 repeat' split
 all_goals decide
theorem fitN(t:Int)(leaf:Bool):12+Qu t leaf*8+Qu t leaf*Br t leaf≤244:=by
 unfold Br Qu
 repeat' split
 all_goals decide
theorem Ts{K:List Int}{i j:Nat}(h:j<i):(K.take i).getD j 0=K.getD j 0:=by simp[List.getD,List.getElem?_take_of_lt h]
theorem Dx(t:Int)(leaf:Bool)(m:Nat)(hm:Qu t leaf=m)(h1:1≤t)(h2:t≤5)(w:World):Calls Tryz.prog 108 #[.int .i64 t,.bool leaf] w (Ret (.int .i64 (m:Int)) w):=by
 subst hm;exact Bf t leaf h1 h2 w
theorem Wv(t:Int)(leaf:Bool)(v:Nat)(hv:Br t leaf=v)(h1:1≤t)(h2:t≤5)(w:World):Calls Tryz.prog 56 #[.int .i64 t,.bool leaf] w (Ret (.int .i64 (v:Int)) w):=by
 subst hv;exact Fq t leaf h1 h2 w
theorem node_flag(leaf:Bool)(w:World) :
 Calls Tryz.prog 155 #[.bool leaf] w (Ret (.int .i64 (Hs leaf)) w):=by
 refine zin 4 Tryz.func155 ?_
 refine xi 11 leaf (fun hc1=>?_) (fun hc1=>?_)
 ·exact xe 7 (.int .i64 1) ⟨by simp_all [Hs],(Below.refl w.heap.size _)⟩
 exact xe 8 (.int .i64 0) ⟨by simp_all [Hs],(Below.refl w.heap.size _)⟩
theorem Zb0(a:Option Addr)(i c:Nat)(L:List Int)(k:Int)(w:World)(hL:L.length=i)(h:Sl w (.slice a i c) i (L.map (Value.int .i64)))(h1:0≤k)(h2:k≤281474976710655)(h3:∀ j,i=j+1→L.getD j 0<k)(hi:i≤1000) :
 Calls Tryz.prog 209 #[.slice a i c,.int .i64 k] w (Ret (.int .i64 0) w):=by
 refine zin 26 Tryz.func209 ?_
 refine xgk 12 [7,8] (show(decide (k<(0:Int)):Bool)=false from decide_eq_false (by omega)) ?_
 refine xk 6 (show(decide (k>(281474976710655:Int)):Bool)=false from decide_eq_false (by omega)) ?_
 refine xg 6 [15,16] (decide ((↑i:Int)>(0:Int))) (fun hc2=>?_) (fun hc2=>?_)
 ·have hc2:=of_decide_eq_true hc2
  refine xwm 3 ((↑i:Int)-1) (↑(i-1):Int) ?_
  refine xx 0 _ i (i-1) 1 (IntsN.elem h hL (k:=(i-1)) (by omega)).1 ?_
  refine xl 0 ((IntsN.elem h hL (k:=(i-1)) (by omega)).2) ?_
  refine xk 6 (show(decide ((L.getD (i-1) 0)≥k):Bool)=false from decide_eq_false (by have:=h3 (i-1) (by omega);omega)) ?_
  exact xe 9 (.int .i64 0) ⟨rfl,(Below.refl w.heap.size _)⟩
 have hc2:=of_decide_eq_false hc2
 exact xe 22 (.int .i64 0) ⟨rfl,(Below.refl w.heap.size _)⟩
theorem Zfx(t:Int)(leaf:Bool)(n m v:Nat)(K:List Int)(Vs:List (List UInt8))(ak av:Option Addr)(ck cv:Nat)(w:World)(N:NodeOk t leaf n m v K Vs)(hKs:Sl w (.slice ak n ck) n (K.map (Value.int .i64)))(hVs:Sl w (.slice av n cv) n (Vs.map sv)) :
 Calls Tryz.prog 154 #[.agg #[.int .i64 t,.bool leaf,.slice ak n ck,.slice av n cv]] w (Ret (.bool true) w):=by
 have ht1:=N.ht1
 have ht2:=N.ht2
 have hnm:=N.hn
 have hwb:=Cp t leaf
 rw[N.hv] at hwb
 have hmb:=Qk t leaf
 rw[N.hm] at hmb
 have hfit:=fitN t leaf
 rw[N.hm,N.hv] at hfit
 have hcap:=Sl.cap hKs
 refine zin 70 Tryz.func154 ?_
 refine xa 2 [.int .i64 t,.bool leaf,.slice ak n ck,.slice av n cv] 220 fun b1 W1 n1=>?_
 refine xb 6 0 n1.blk ?_
 refine xb 1 1 n1.blk ?_
 refine xr 0 (args:=#[.int .i64 t,.bool leaf]) (Wv t leaf v N.hv ht1 ht2 _) fun W2 hb2=>?_
 refine xd 5 .z ?_
 refine xgk (.b [0,1,2]) [12,13] (show(((↑v:Int)==(0:Int)):Bool)=false from by simp;omega) ?_
 have k1'1:=(n1.blk.below hb2).below (Za W2)
 refine xb (.e [3] 4) 2 k1'1 ?_
 refine xb (.e [5,6] 7) 0 k1'1 ?_
 refine xb (.e [8] 9) 1 k1'1 ?_
 refine xr (.o [] 10) (args:=#[.int .i64 t,.bool leaf]) (Dx t leaf m N.hm ht1 ht2 _) fun W4 hb4=>?_
 refine xgk (.b [11,12,13]) [22,23,24] (show(decide ((↑n:Int)>(↑m:Int)):Bool)=false from decide_eq_false (by omega)) ?_
 have k1'2:=k1'1.below hb4
 refine xb (.e [14] 15) 3 k1'2 ?_
 refine xb (.e [16,17] 18) 2 k1'2 ?_
 refine xgk (.b [19,20,21,22]) [31,32,33] (show(((↑n:Int) != (↑n:Int)):Bool)=false from by simp) ?_
 refine xb (.e [23] 24) 1 k1'2 ?_
 refine xg (.b [25,26]) [36,37] (!leaf) (fun hc7=>?_) (fun hc7=>?_)
 ·refine xb (.e [27] 28) 2 k1'2 ?_
  refine xk (.r [29,30,31,32] 2) (show(((↑n:Int)==(0:Int)):Bool)=false from by have:=N.hl (by simp_all);simp;omega) ?_
  refine xb 6 2 k1'2 ?_
  have hB:=bln (bln (bln n1.below hb2) (Za W2)) hb4
  refine zl 5 70 (fun zm zkv V=>∃ (i:Nat),zkv=[(1,.pointer (some ⟨b1,0,none⟩)),(3,.int .i64 (↑v:Int)),(45,.slice ak n ck),(46,.int .i64 (↑n:Int)),(47,.int .i64 (↑i:Int))]∧zm=n-((↑i:Int)).toNat∧Below w.heap.size w V∧Blk V b1 ([.int .i64 t,.bool leaf,.slice ak n ck,.slice av n cv]) 220∧i≤n) ⟨0,rfl,rfl,hB,k1'2,Nat.zero_le _⟩ ?_
  rintro _ _ W8 ⟨i,rfl,rfl,hB_8,k8_b1,hi⟩ J8 hJ8 r8
  refine xid 6 ((↑i:Int)<(↑n:Int)) (fun hc9=>?_) (fun hc9=>?_)
  ·refine xx 7 _ n i 1 (IntsN.elem hKs N.hK (k:=i) (by omega)).1 ?_
   refine xl 0 ((IntsN.elem (hKs.below hB_8) N.hK (k:=i) (by omega)).2) ?_
   refine xb 7 2 k8_b1 ?_
   refine xsH 1 (fun _ _ _ _ zo zx zy V=>Qz (k:=i) (b:=ak) (n:=n) (c:=ck) (i:=(↑i:Int)) (ki:=.i64) zo zx zy rfl (by omega) Tryz.underlying31 (by kernel_rfl) V) ?_
   refine xr 1 (args:=#[.slice ak i ck,.int .i64 (K.getD i 0)]) (Zb0 ak i ck (K.take i) (K.getD i 0) _ (by rw[List.length_take,N.hK];omega) (by rw[List.map_take];exact(hKs.below hB_8).head (by simpa using N.hK) i (by omega)) (N.hk0 i (by omega)).1 (N.hk0 i (by omega)).2 (fun j e=>by subst e;rw[Ts (by omega)];exact N.hk1 j (by omega)) (by omega)) fun W10 hb10=>?_
   have k8_b1'1:=k8_b1.below hb10
   refine xb 3 3 k8_b1'1 ?_
   refine xx 1 _ n i 1 (Strs.elem hVs N.hV (k:=i) (by omega)).1 ?_
   have hB'1:=bln hB_8 hb10
   refine xl 0 ((Strs.elem (hVs.below hB'1) N.hV (k:=i) (by omega)).2) ?_
   refine xk 6 (show(((↑(Vs.getD i []).length:Int) != (↑v:Int)):Bool)=false from by rw[N.hw i (by omega)];simp) ?_
   refine xw 4 ((↑i:Int)+1) ?_
   exact ze 2 (hJ8 _ _ _ ⟨i+1,rfl,rfl,hB'1,k8_b1'1,by omega⟩ (by omega))
  exact xe 11 (.bool true) ⟨rfl,hB_8⟩
 refine xb (.r [27,28,29,30,31,32] 9) 2 k1'2 ?_
 have hB:=bln (bln (bln n1.below hb2) (Za W2)) hb4
 refine zl 5 70 (fun zm zkv V=>∃ (i:Nat),zkv=[(1,.pointer (some ⟨b1,0,none⟩)),(3,.int .i64 (↑v:Int)),(45,.slice ak n ck),(46,.int .i64 (↑n:Int)),(47,.int .i64 (↑i:Int))]∧zm=n-((↑i:Int)).toNat∧Below w.heap.size w V∧Blk V b1 ([.int .i64 t,.bool leaf,.slice ak n ck,.slice av n cv]) 220∧i≤n) ⟨0,rfl,rfl,hB,k1'2,Nat.zero_le _⟩ ?_
 rintro _ _ W11 ⟨i,rfl,rfl,hB_11,k11_b1,hi⟩ J11 hJ11 r11
 refine xid 6 ((↑i:Int)<(↑n:Int)) (fun hc12=>?_) (fun hc12=>?_)
 ·refine xx 7 _ n i 1 (IntsN.elem hKs N.hK (k:=i) (by omega)).1 ?_
  refine xl 0 ((IntsN.elem (hKs.below hB_11) N.hK (k:=i) (by omega)).2) ?_
  refine xb 7 2 k11_b1 ?_
  refine xsH 1 (fun _ _ _ _ zo zx zy V=>Qz (k:=i) (b:=ak) (n:=n) (c:=ck) (i:=(↑i:Int)) (ki:=.i64) zo zx zy rfl (by omega) Tryz.underlying31 (by kernel_rfl) V) ?_
  refine xr 1 (args:=#[.slice ak i ck,.int .i64 (K.getD i 0)]) (Zb0 ak i ck (K.take i) (K.getD i 0) _ (by rw[List.length_take,N.hK];omega) (by rw[List.map_take];exact(hKs.below hB_11).head (by simpa using N.hK) i (by omega)) (N.hk0 i (by omega)).1 (N.hk0 i (by omega)).2 (fun j e=>by subst e;rw[Ts (by omega)];exact N.hk1 j (by omega)) (by omega)) fun W13 hb13=>?_
  have k11_b1'1:=k11_b1.below hb13
  refine xb 3 3 k11_b1'1 ?_
  refine xx 1 _ n i 1 (Strs.elem hVs N.hV (k:=i) (by omega)).1 ?_
  have hB'2:=bln hB_11 hb13
  refine xl 0 ((Strs.elem (hVs.below hB'2) N.hV (k:=i) (by omega)).2) ?_
  refine xk 6 (show(((↑(Vs.getD i []).length:Int) != (↑v:Int)):Bool)=false from by rw[N.hw i (by omega)];simp) ?_
  refine xw 4 ((↑i:Int)+1) ?_
  exact ze 2 (hJ11 _ _ _ ⟨i+1,rfl,rfl,hB'2,k11_b1'1,by omega⟩ (by omega))
 exact xe 11 (.bool true) ⟨rfl,hB_11⟩
def Ar(t:Int)(leaf:Bool):Nat:=if 1≤t∧t≤5 then Br t leaf else 0
def Zep(t:Int)(leaf:Bool):Nat:=if 1≤t∧t≤5 then Qu t leaf else 0
theorem fitG(t:Int)(leaf:Bool):12+Zep t leaf*8+Zep t leaf*Ar t leaf≤244:=by
 unfold Zep Ar;split
 ·exact fitN t leaf
 ·decide
theorem Zam(t:Int)(leaf:Bool):Zep t leaf≤18:=by
 unfold Zep;split
 ·exact(Qk t leaf).2
 ·decide
theorem Oj(t:Int)(leaf:Bool):Ar t leaf≤24:=by
 unfold Ar;split
 ·exact(Cp t leaf).2
 ·decide
theorem Wb(t:Int)(leaf:Bool)(w:World)(h:¬ (1≤t∧t≤5)) :
 Calls Tryz.prog 56 #[.int .i64 t,.bool leaf] w (Ret (.int .i64 0) w):=by
 refine zin 31 Tryz.func56 ?_
 refine xg 17 [8,9] (decide (t<(1:Int))) (fun hc1=>?_) (fun hc1=>?_)
 ·have hc1:=of_decide_eq_true hc1
  exact xe 15 (.int .i64 0) ⟨rfl,(Below.refl w.heap.size _)⟩
 have hc1:=of_decide_eq_false hc1
 refine xk 6 (show(decide (t>(5:Int)):Bool)=true from decide_eq_true (by omega)) ?_
 exact xe 8 (.int .i64 0) ⟨rfl,(Below.refl w.heap.size _)⟩
theorem Gb(t:Int)(leaf:Bool)(w:World):Calls Tryz.prog 56 #[.int .i64 t,.bool leaf] w (Ret (.int .i64 (Ar t leaf:Int)) w):=by
 unfold Ar
 by_cases h:1≤t∧t≤5
 ·rw[if_pos h];exact Fq t leaf h.1 h.2 w
 ·rw[if_neg h];exact Wb t leaf w h
theorem Ih(t:Int)(leaf:Bool)(w:World)(h:¬ (1≤t∧t≤5)) :
 Calls Tryz.prog 108 #[.int .i64 t,.bool leaf] w (Ret (.int .i64 0) w):=by
 refine zin 16 Tryz.func108 ?_
 refine xr 9 (args:=#[.int .i64 t,.bool leaf]) (Wb t leaf _ h) fun W1 hb1=>?_
 exact xe 18 (.int .i64 0) ⟨rfl,hb1⟩
theorem Tv(t:Int)(leaf:Bool)(w:World):Calls Tryz.prog 108 #[.int .i64 t,.bool leaf] w (Ret (.int .i64 (Zep t leaf:Int)) w):=by
 unfold Zep
 by_cases h:1≤t∧t≤5
 ·rw[if_pos h];exact Bf t leaf h.1 h.2 w
 ·rw[if_neg h];exact Ih t leaf w h
def Zdl(L:List Int)(i:Nat)(k:Int):Int:=if k<0∨281474976710655<k then 2 else if 0<i∧k≤L.getD (i-1) 0 then 8 else 0
def Xm(l:List UInt8):Int:=(Zf l 1 1:Int)
def Xr(l:List UInt8):Bool:=(Zf l 0 1:Int)==(1:Int)
def Xf(l:List UInt8):Nat:=Zf l 2 2
def Xd(l:List UInt8):Nat:=Ar (Xm l) (Xr l)
def Xe(l:List UInt8):Nat:=Zep (Xm l) (Xr l)
def Qt(l:List UInt8):Bool:=decide (Zf l 0 1≤1∧Xd l≠0∧Zf l 2 2≤Xe l∧Zf l 4 2=Xd l∧Zf l 6 2=Xe l∧Zf l 8 4=0∧(Zf l 0 1=1∨0<Zf l 2 2))
def ShapeP(l:List UInt8)(w:World)(e:Ending)(w':World):Prop :=
 (Qt l=false∧∃ a b c,e=.returned (.tuple #[.agg #[.int .i64 a,.bool b,.slice none 0 0,.slice none 0 0],.int .i64 c,.bool false])∧Below w.heap.size w w') ∨
 (Qt l=true∧e=.returned (.tuple #[.agg #[.int .i64 (Xm l),.bool (Xr l),.slice none 0 0,.slice none 0 0],.int .i64 (Xf l:Int),.bool true])∧Below w.heap.size w w')
theorem Ms(a:Option Addr)(n c:Nat)(l:List UInt8)(aw:Option Addr)(cw m:Nat)(ws:List Nat)(xs:List Nat)(W:World)(hn:l.length=n)(hm:ws.length=m)(hx:Kc l 0 ws=xs)(hk:∀ i,i<ws.length→ws.getD i 0=1∨ws.getD i 0=2∨ws.getD i 0=4∨ws.getD i 0=8)(hs:ws.sum≤n)(hl:n≤100000000)(hw:ws.length≤1000)(h:Bys W (.slice a n c) l)(hws:Sl W (.slice aw m cw) m (ws.map nv))(hq:∀ i,i<ws.length→(Kc l 0 ws).getD i 0<9223372036854775808) :
 Calls Tryz.prog 164 #[.slice a n c,.slice aw m cw] W (Yz (fun w' r=>∃ p c,r=.tuple #[.slice p m c,.int .i64 0]∧w'.ownsRow W.heap.size 3 1 (.slice p m c) m (xs.map nv)) W):=by
 subst hn hm hx;exact Ai a c l aw cw ws W hk hs hl hw h hws hq
def Xs(l:List UInt8):List Nat:=[Zf l 0 1,Zf l 1 1,Zf l 2 2,Zf l 4 2,Zf l 6 2,Zf l 8 4]
theorem Zcb(l:List UInt8)(i:Nat)(hi:i<6):(Kc l 0 [1,1,2,2,2,4]).getD i 0<9223372036854775808:=by
 have h1:=Yo l 0 1 (by decide)
 have h2:=Yo l 1 1 (by decide)
 have h3:=Yo l 2 2 (by decide)
 have h4:=Yo l 4 2 (by decide)
 have h5:=Yo l 6 2 (by decide)
 have h6:=Yo l 8 4 (by decide)
 obtain rfl|rfl|rfl|rfl|rfl|rfl:i=0∨i=1∨i=2∨i=3∨i=4∨i=5:=by omega
 all_goals simp[Kc]
 all_goals omega
theorem Zfm(a:Option Addr)(c:Nat)(l:List UInt8)(w:World)(hl:l.length=244)(h:Bys w (.slice a 244 c) l) :
 Calls Tryz.prog 220 #[.slice a 244 c] w (ShapeP l w):=by
 refine zin 92 Tryz.func220 ?_
 refine xa 2 [.int .i64 0,.bool false,.slice none 0 0,.slice none 0 0] 220 fun b1 W1 n1=>?_
 refine xbs 18 6 [.int .i64 1,.int .i64 1,.int .i64 2,.int .i64 2,.int .i64 2,.int .i64 4] 3 fun b2 W2 n2=>?_
 have hB:=bln n1.below n2.below
 refine xc 0 (args:=#[.slice a 244 c,.slice (some ⟨b2,0,none⟩) 6 6]) (Ms a 244 c l (some ⟨b2,0,none⟩) 6 6 [1,1,2,2,2,4] (Xs l) _ hl rfl rfl (by decide) (by decide) (by decide) (by decide) (h.below hB) (n2.blk.sl 6 6 (by decide) (by decide)) (Zcb l)) ?_
 rintro _ W3 ⟨_,rfl,hb3,p5,c5,rfl,h5⟩
 have hs3:=(bln n1.below n2.below).size
 refine xd 8 (.t w.heap.size [220]) ?_
 have h5'1:=Zb (Zd h5 hs3) (Za W3)
 refine xx (.e [0] 1) _ 6 1 1 (Zi (l:=Xs l) (Ze h5'1) rfl (k:=1) (by decide)).1 ?_
 refine xlt (.e [] 2) (.t w.heap.size [220]) (fun V hV=>(Zi (l:=Xs l) (Ze (Zj h5'1 hV.2 (by decide))) rfl (k:=1) (by decide)).2) ?_
 refine xx (.e [3] 4) _ 6 0 1 (Zi (l:=Xs l) (Ze h5'1) rfl (k:=0) (by decide)).1 ?_
 refine xlt (.e [] 5) (.t w.heap.size [220]) (fun V hV=>(Zi (l:=Xs l) (Ze (Zj h5'1 hV.2 (by decide))) rfl (k:=0) (by decide)).2) ?_
 refine xa (.o [6,7] 8) [.int .i64 0,.bool false,.slice none 0 0,.slice none 0 0] 220 fun b4 W4 n4=>?_
 have k1:=((n1.blk.below n2.below).below hb3).below (Za W3)
 have d4_b1:=n4.ne k1
 have hB'1:=bln (bln hB hb3) (Za W3)
 have g4:=n4.ge hB'1
 refine ysv (.o [] 9) n4.blk [.int .i64 (↑(Zf l 1 1):Int),.bool ((↑(Zf l 0 1):Int)==(1:Int)),.slice none 0 0,.slice none 0 0] (.t w.heap.size [220]) fun W5 u5 k5=>⟨(Zx u5 n4.blk g4 (by decide)),?_⟩
 have h5'2:=u5.own2 (Zb h5'1 n4.below) n4.blk (by decide)
 refine xx 6 _ 6 0 1 (Zi (l:=Xs l) (Ze h5'2) rfl (k:=0) (by decide)).1 ?_
 refine xl 0 ((Zi (l:=Xs l) (Ze h5'2) rfl (k:=0) (by decide)).2) ?_
 refine xg 2 [32,33] (decide ((↑(Zf l 0 1):Int)>(1:Int))) (fun hc6=>?_) (fun hc6=>?_)
 ·have hc6:=of_decide_eq_true hc6
  have k1'1:=u5.blk (k1.below n4.below) (Ne.symm (Ne.symm d4_b1))
  refine xsv 13 k1'1 [.int .i64 0,.bool false,.slice none 0 0,.slice none 0 0] fun W7 u7 k7=>?_
  have g1:=n1.ge (Below.refl w.heap.size _)
  have hB'2:=u7.below (u5.below (bln hB'1 n4.below) g4) g1
  exact xec 6 k7 (.tuple #[.agg #[.int .i64 0,.bool false,.slice none 0 0,.slice none 0 0],.int .i64 0,.bool false]) (.inl ⟨decide_eq_false (by omega),_,_,_,rfl,hB'2⟩)
 have hc6:=of_decide_eq_false hc6
 refine xb 1 0 k5 ?_
 refine xb 1 1 k5 ?_
 refine xr 0 (args:=#[.int .i64 (↑(Zf l 1 1):Int),.bool ((↑(Zf l 0 1):Int)==(1:Int))]) (Gb (Xm l) (Xr l) _) fun W8 hb8=>?_
 refine xie 4 (↑(Xd l):Int) (0:Int) (fun hc9=>?_) (fun hc9=>?_)
 ·have k1'2:=(u5.blk (k1.below n4.below) (Ne.symm (Ne.symm d4_b1))).below hb8
  refine xsv 3 k1'2 [.int .i64 0,.bool false,.slice none 0 0,.slice none 0 0] fun W10 u10 k10=>?_
  have g1:=n1.ge (Below.refl w.heap.size _)
  have hB'3:=u10.below (bln (u5.below (bln hB'1 n4.below) g4) hb8) g1
  exact xec 6 k10 (.tuple #[.agg #[.int .i64 0,.bool false,.slice none 0 0,.slice none 0 0],.int .i64 0,.bool false]) (.inl ⟨decide_eq_false (by omega),_,_,_,rfl,hB'3⟩)
 refine xd 3 .z ?_
 have k5'1:=(k5.below hb8).below (Za W8)
 refine xb (.e [0] 1) 0 k5'1 ?_
 refine xb (.e [2] 3) 1 k5'1 ?_
 refine xb (.e [5] 6) 0 k5'1 ?_
 refine xb (.e [7] 8) 1 k5'1 ?_
 refine xr (.o [] 4) (args:=#[.int .i64 (↑(Zf l 1 1):Int),.bool ((↑(Zf l 0 1):Int)==(1:Int))]) (Gb (Xm l) (Xr l) _) fun W11 hb11=>?_
 refine xr (.o [] 9) (args:=#[.int .i64 (↑(Zf l 1 1):Int),.bool ((↑(Zf l 0 1):Int)==(1:Int))]) (Tv (Xm l) (Xr l) _) fun W12 hb12=>?_
 have h5'3:=Zb (Zb (Zb (Zb h5'2 hb8) (Za W8)) hb11) hb12
 refine xx (.r [10,11] 5) _ 6 2 1 (Zi (l:=Xs l) (Ze h5'3) rfl (k:=2) (by decide)).1 ?_
 refine xl 0 ((Zi (l:=Xs l) (Ze h5'3) rfl (k:=2) (by decide)).2) ?_
 refine xg 3 [56,57] (decide ((↑(Zf l 2 2):Int)≤(↑(Xe l):Int))) (fun hc13=>?_) (fun hc13=>?_)
 ·have hc13:=of_decide_eq_true hc13
  refine xx 1 _ 6 3 1 (Zi (l:=Xs l) (Ze h5'3) rfl (k:=3) (by decide)).1 ?_
  refine xl 0 ((Zi (l:=Xs l) (Ze h5'3) rfl (k:=3) (by decide)).2) ?_
  refine xg 4 [62,63,64] ((↑(Zf l 4 2):Int)==(↑(Xd l):Int)) (fun hc14=>?_) (fun hc14=>?_)
  ·have hc14:=eq_of_beq hc14
   refine xx 1 _ 6 4 1 (Zi (l:=Xs l) (Ze h5'3) rfl (k:=4) (by decide)).1 ?_
   refine xl 0 ((Zi (l:=Xs l) (Ze h5'3) rfl (k:=4) (by decide)).2) ?_
   refine xg 4 [69,70,71] ((↑(Zf l 6 2):Int)==(↑(Xe l):Int)) (fun hc15=>?_) (fun hc15=>?_)
   ·have hc15:=eq_of_beq hc15
    refine xx 1 _ 6 5 1 (Zi (l:=Xs l) (Ze h5'3) rfl (k:=5) (by decide)).1 ?_
    refine xl 0 ((Zi (l:=Xs l) (Ze h5'3) rfl (k:=5) (by decide)).2) ?_
    refine xg 3 [75,76,77] ((↑(Zf l 8 4):Int)==(0:Int)) (fun hc16=>?_) (fun hc16=>?_)
    ·have hc16:=eq_of_beq hc16
     have k5'2:=(k5'1.below hb11).below hb12
     refine xb 1 1 k5'2 ?_
     refine xg 1 [27,37,45,50,79,80] ((↑(Zf l 0 1):Int)==(1:Int)) (fun hc17=>?_) (fun hc17=>?_)
     ·have hc17:=eq_of_beq hc17
      refine xd 10 (.t w.heap.size [220]) ?_
      have h5'4:=Zb h5'3 (Za W12)
      refine xx (.e [1] 2) _ 6 2 1 (Zi (l:=Xs l) (Ze h5'4) rfl (k:=2) (by decide)).1 ?_
      refine xlt (.e [] 3) (.t w.heap.size [220]) (fun V hV=>(Zi (l:=Xs l) (Ze (Zj h5'4 hV.2 (by decide))) rfl (k:=2) (by decide)).2) ?_
      have k5'3:=k5'2.below (Za W12)
      refine xlv (.o [4] 0) k5'3.rp ?_
      have k1'3:=(((((u5.blk (k1.below n4.below) (Ne.symm (Ne.symm d4_b1))).below hb8).below (Za W8)).below hb11).below hb12).below (Za W12)
      have g1:=n1.ge (Below.refl w.heap.size _)
      refine ysv (.o [] 5) k1'3 [.int .i64 (↑(Zf l 1 1):Int),.bool ((↑(Zf l 0 1):Int)==(1:Int)),.slice none 0 0,.slice none 0 0] (.t w.heap.size [220]) fun W18 u18 k18=>⟨(Zx u18 k1'3 g1 (by decide)),?_⟩
      have hB'4:=u18.below (bln (bln (bln (bln (bln (u5.below (bln hB'1 n4.below) g4) hb8) (Za W8)) hb11) hb12) (Za W12)) g1
      exact xec (.r [6,7] 3) k18 (.tuple #[.agg #[.int .i64 (↑(Zf l 1 1):Int),.bool ((↑(Zf l 0 1):Int)==(1:Int)),.slice none 0 0,.slice none 0 0],.int .i64 (↑(Zf l 2 2):Int),.bool true]) (.inr ⟨decide_eq_true (by omega),rfl,hB'4⟩)
     have hc17:=Yd hc17
     refine xx 1 _ 6 2 1 (Zi (l:=Xs l) (Ze h5'3) rfl (k:=2) (by decide)).1 ?_
     refine xl 0 ((Zi (l:=Xs l) (Ze h5'3) rfl (k:=2) (by decide)).2) ?_
     refine xd 7 (.t w.heap.size [220]) ?_
     have h5'5:=Zb h5'3 (Za W12)
     refine xx (.e [1] 2) _ 6 2 1 (Zi (l:=Xs l) (Ze h5'5) rfl (k:=2) (by decide)).1 ?_
     refine xlt (.e [] 3) (.t w.heap.size [220]) (fun V hV=>(Zi (l:=Xs l) (Ze (Zj h5'5 hV.2 (by decide))) rfl (k:=2) (by decide)).2) ?_
     have k5'4:=k5'2.below (Za W12)
     refine xlv (.o [4] 0) k5'4.rp ?_
     have k1'4:=(((((u5.blk (k1.below n4.below) (Ne.symm (Ne.symm d4_b1))).below hb8).below (Za W8)).below hb11).below hb12).below (Za W12)
     have g1:=n1.ge (Below.refl w.heap.size _)
     refine ysv (.o [] 5) k1'4 [.int .i64 (↑(Zf l 1 1):Int),.bool ((↑(Zf l 0 1):Int)==(1:Int)),.slice none 0 0,.slice none 0 0] (.t w.heap.size [220]) fun W19 u19 k19=>⟨(Zx u19 k1'4 g1 (by decide)),?_⟩
     have hB'5:=u19.below (bln (bln (bln (bln (bln (u5.below (bln hB'1 n4.below) g4) hb8) (Za W8)) hb11) hb12) (Za W12)) g1
     refine xec (.r [6,7] 3) k19 (.tuple #[.agg #[.int .i64 (↑(Zf l 1 1):Int),.bool ((↑(Zf l 0 1):Int)==(1:Int)),.slice none 0 0,.slice none 0 0],.int .i64 (↑(Zf l 2 2):Int),.bool (decide ((↑(Zf l 2 2):Int)>(0:Int)))]) ?_
     rcases Bool.eq_false_or_eq_true (decide ((↑(Zf l 2 2):Int)>(0:Int))) with hq|hq
     ·have hq2:=of_decide_eq_true hq
      rw[hq];exact .inr ⟨decide_eq_true (by omega),rfl,hB'5⟩
     ·have hq2:=of_decide_eq_false hq
      rw[hq];exact .inl ⟨decide_eq_false (by omega),_,_,_,rfl,hB'5⟩
    have hc16:=Yd hc16
    refine xd 13 (.t w.heap.size [220]) ?_
    have h5'6:=Zb h5'3 (Za W12)
    refine xx (.e [1] 2) _ 6 2 1 (Zi (l:=Xs l) (Ze h5'6) rfl (k:=2) (by decide)).1 ?_
    refine xlt (.e [] 3) (.t w.heap.size [220]) (fun V hV=>(Zi (l:=Xs l) (Ze (Zj h5'6 hV.2 (by decide))) rfl (k:=2) (by decide)).2) ?_
    have k5'5:=((k5'1.below hb11).below hb12).below (Za W12)
    refine xlv (.o [4] 0) k5'5.rp ?_
    have k1'5:=(((((u5.blk (k1.below n4.below) (Ne.symm (Ne.symm d4_b1))).below hb8).below (Za W8)).below hb11).below hb12).below (Za W12)
    have g1:=n1.ge (Below.refl w.heap.size _)
    refine ysv (.o [] 5) k1'5 [.int .i64 (↑(Zf l 1 1):Int),.bool ((↑(Zf l 0 1):Int)==(1:Int)),.slice none 0 0,.slice none 0 0] (.t w.heap.size [220]) fun W20 u20 k20=>⟨(Zx u20 k1'5 g1 (by decide)),?_⟩
    have hB'6:=u20.below (bln (bln (bln (bln (bln (u5.below (bln hB'1 n4.below) g4) hb8) (Za W8)) hb11) hb12) (Za W12)) g1
    exact xec (.r [6,7] 3) k20 (.tuple #[.agg #[.int .i64 (↑(Zf l 1 1):Int),.bool ((↑(Zf l 0 1):Int)==(1:Int)),.slice none 0 0,.slice none 0 0],.int .i64 (↑(Zf l 2 2):Int),.bool false]) (.inl ⟨decide_eq_false (by omega),_,_,_,rfl,hB'6⟩)
   have hc15:=Yd hc15
   refine xd 19 (.t w.heap.size [220]) ?_
   have h5'7:=Zb h5'3 (Za W12)
   refine xx (.e [1] 2) _ 6 2 1 (Zi (l:=Xs l) (Ze h5'7) rfl (k:=2) (by decide)).1 ?_
   refine xlt (.e [] 3) (.t w.heap.size [220]) (fun V hV=>(Zi (l:=Xs l) (Ze (Zj h5'7 hV.2 (by decide))) rfl (k:=2) (by decide)).2) ?_
   have k5'6:=((k5'1.below hb11).below hb12).below (Za W12)
   refine xlv (.o [4] 0) k5'6.rp ?_
   have k1'6:=(((((u5.blk (k1.below n4.below) (Ne.symm (Ne.symm d4_b1))).below hb8).below (Za W8)).below hb11).below hb12).below (Za W12)
   have g1:=n1.ge (Below.refl w.heap.size _)
   refine ysv (.o [] 5) k1'6 [.int .i64 (↑(Zf l 1 1):Int),.bool ((↑(Zf l 0 1):Int)==(1:Int)),.slice none 0 0,.slice none 0 0] (.t w.heap.size [220]) fun W21 u21 k21=>⟨(Zx u21 k1'6 g1 (by decide)),?_⟩
   have hB'7:=u21.below (bln (bln (bln (bln (bln (u5.below (bln hB'1 n4.below) g4) hb8) (Za W8)) hb11) hb12) (Za W12)) g1
   exact xec (.r [6,7] 3) k21 (.tuple #[.agg #[.int .i64 (↑(Zf l 1 1):Int),.bool ((↑(Zf l 0 1):Int)==(1:Int)),.slice none 0 0,.slice none 0 0],.int .i64 (↑(Zf l 2 2):Int),.bool false]) (.inl ⟨decide_eq_false (by omega),_,_,_,rfl,hB'7⟩)
  have hc14:=Yd hc14
  refine xd 26 (.t w.heap.size [220]) ?_
  have h5'8:=Zb h5'3 (Za W12)
  refine xx (.e [1] 2) _ 6 2 1 (Zi (l:=Xs l) (Ze h5'8) rfl (k:=2) (by decide)).1 ?_
  refine xlt (.e [] 3) (.t w.heap.size [220]) (fun V hV=>(Zi (l:=Xs l) (Ze (Zj h5'8 hV.2 (by decide))) rfl (k:=2) (by decide)).2) ?_
  have k5'7:=((k5'1.below hb11).below hb12).below (Za W12)
  refine xlv (.o [4] 0) k5'7.rp ?_
  have k1'7:=(((((u5.blk (k1.below n4.below) (Ne.symm (Ne.symm d4_b1))).below hb8).below (Za W8)).below hb11).below hb12).below (Za W12)
  have g1:=n1.ge (Below.refl w.heap.size _)
  refine ysv (.o [] 5) k1'7 [.int .i64 (↑(Zf l 1 1):Int),.bool ((↑(Zf l 0 1):Int)==(1:Int)),.slice none 0 0,.slice none 0 0] (.t w.heap.size [220]) fun W22 u22 k22=>⟨(Zx u22 k1'7 g1 (by decide)),?_⟩
  have hB'8:=u22.below (bln (bln (bln (bln (bln (u5.below (bln hB'1 n4.below) g4) hb8) (Za W8)) hb11) hb12) (Za W12)) g1
  exact xec (.r [6,7] 3) k22 (.tuple #[.agg #[.int .i64 (↑(Zf l 1 1):Int),.bool ((↑(Zf l 0 1):Int)==(1:Int)),.slice none 0 0,.slice none 0 0],.int .i64 (↑(Zf l 2 2):Int),.bool false]) (.inl ⟨decide_eq_false (by omega),_,_,_,rfl,hB'8⟩)
 have hc13:=of_decide_eq_false hc13
 refine xd 33 (.t w.heap.size [220]) ?_
 have h5'9:=Zb h5'3 (Za W12)
 refine xx (.e [1] 2) _ 6 2 1 (Zi (l:=Xs l) (Ze h5'9) rfl (k:=2) (by decide)).1 ?_
 refine xlt (.e [] 3) (.t w.heap.size [220]) (fun V hV=>(Zi (l:=Xs l) (Ze (Zj h5'9 hV.2 (by decide))) rfl (k:=2) (by decide)).2) ?_
 have k5'8:=((k5'1.below hb11).below hb12).below (Za W12)
 refine xlv (.o [4] 0) k5'8.rp ?_
 have k1'8:=(((((u5.blk (k1.below n4.below) (Ne.symm (Ne.symm d4_b1))).below hb8).below (Za W8)).below hb11).below hb12).below (Za W12)
 have g1:=n1.ge (Below.refl w.heap.size _)
 refine ysv (.o [] 5) k1'8 [.int .i64 (↑(Zf l 1 1):Int),.bool ((↑(Zf l 0 1):Int)==(1:Int)),.slice none 0 0,.slice none 0 0] (.t w.heap.size [220]) fun W23 u23 k23=>⟨(Zx u23 k1'8 g1 (by decide)),?_⟩
 have hB'9:=u23.below (bln (bln (bln (bln (bln (u5.below (bln hB'1 n4.below) g4) hb8) (Za W8)) hb11) hb12) (Za W12)) g1
 exact xec (.r [6,7] 3) k23 (.tuple #[.agg #[.int .i64 (↑(Zf l 1 1):Int),.bool ((↑(Zf l 0 1):Int)==(1:Int)),.slice none 0 0,.slice none 0 0],.int .i64 (↑(Zf l 2 2):Int),.bool false]) (.inl ⟨decide_eq_false (by omega),_,_,_,rfl,hB'9⟩)
theorem node_keyG(a:Option Addr)(i c:Nat)(L:List Int)(k:Int)(w:World)(hL:L.length=i)(h:Sl w (.slice a i c) i (L.map (Value.int .i64)))(hi:i≤1000) :
 Calls Tryz.prog 209 #[.slice a i c,.int .i64 k] w (Ret (.int .i64 (Zdl L i k)) w):=by
 refine zin 26 Tryz.func209 ?_
 refine xg 12 [7,8] (decide (k<(0:Int))) (fun hc1=>?_) (fun hc1=>?_)
 ·have hc1:=of_decide_eq_true hc1
  exact xe 15 (.int .i64 2) ⟨by rw[show Zdl L i k=2 from by unfold Zdl;rw[if_pos (by omega)]],(Below.refl w.heap.size _)⟩
 have hc1:=of_decide_eq_false hc1
 refine xid 6 (k>(281474976710655:Int)) (fun hc2=>?_) (fun hc2=>?_)
 ·exact xe 8 (.int .i64 2) ⟨by rw[show Zdl L i k=2 from by unfold Zdl;rw[if_pos (by omega)]],(Below.refl w.heap.size _)⟩
 refine xg 6 [15,16] (decide ((↑i:Int)>(0:Int))) (fun hc3=>?_) (fun hc3=>?_)
 ·have hc3:=of_decide_eq_true hc3
  refine xwm 3 ((↑i:Int)-1) (↑(i-1):Int) ?_
  refine xx 0 _ i (i-1) 1 (IntsN.elem h hL (k:=(i-1)) (by omega)).1 ?_
  refine xl 0 ((IntsN.elem h hL (k:=(i-1)) (by omega)).2) ?_
  refine xid 6 ((L.getD (i-1) 0)≥k) (fun hc4=>?_) (fun hc4=>?_)
  ·exact xe 8 (.int .i64 8) ⟨by rw[show Zdl L i k=8 from by unfold Zdl;rw[if_neg (by omega),if_pos (by omega)]],(Below.refl w.heap.size _)⟩
  exact xe 9 (.int .i64 0) ⟨by rw[show Zdl L i k=0 from by unfold Zdl;rw[if_neg (by omega),if_neg (by omega)]],(Below.refl w.heap.size _)⟩
 have hc3:=of_decide_eq_false hc3
 exact xe 22 (.int .i64 0) ⟨by rw[show Zdl L i k=0 from by unfold Zdl;rw[if_neg (by omega),if_neg (by omega)]],(Below.refl w.heap.size _)⟩
def Bt(l:List UInt8)(i:Nat):Nat:=Zf l (12+i*8) 8
def Kf(l:List UInt8)(n:Nat):List Int:=(List.range n).map fun i=>(Bt l i:Int)
theorem Uf(l:List UInt8)(n:Nat):(Kf l n).length=n:=by simp[Kf]
theorem Nz(l:List UInt8)(n:Nat):Kf l (n+1)=Kf l n++[(Bt l n:Int)]:=by simp[Kf,List.range_succ]
theorem Pi(l:List UInt8){n i:Nat}(h:i<n):(Kf l n).getD i 0=(Bt l i:Int):=by simp[Kf,List.getD,List.getElem?_range h]
def Bd(l:List UInt8)(i:Nat):List UInt8:=(l.drop (12+Xe l*8+i*Xd l)).take (Xd l)
def Kg(l:List UInt8)(n:Nat):List (List UInt8):=(List.range n).map (Bd l)
theorem Hj(l:List UInt8)(n:Nat):(Kg l n).length=n:=by simp[Kg]
theorem Kn(l:List UInt8)(n:Nat):Kg l (n+1)=Kg l n++[Bd l n]:=by simp[Kg,List.range_succ]
theorem Ir(l:List UInt8){n i:Nat}(h:i<n):(Kg l n).getD i []=Bd l i:=by simp[Kg,List.getD,List.getElem?_range h]
def Ps(l:List UInt8)(i:Nat):Int:=if 281474976710655<Bt l i then 2 else if 0<i∧Bt l i≤Bt l (i-1) then 8 else 0
def Qi(l:List UInt8):Nat→Int
 | 0=>0
 | i+1=>if Qi l i≠0 then Qi l i else Ps l i
theorem Lu{l:List UInt8}{i:Nat}(h:Qi l i≠0):∀ n,i≤n→Qi l n=Qi l i
 | 0,h2=>by
  obtain rfl:i=0:=by omega
  rfl
 | n+1,h2=>by
   by_cases e:i=n+1
   ·rw[e]
   ·have ih:=Lu h n (by omega)
    rw[Qi,if_pos (by rw[ih];exact h),ih]
theorem Ha{l:List UInt8}{i n:Nat}(h:Qi l i=0)(he:Ps l i≠0)(hi:i<n):Qi l n=Ps l i:=by
 have e:Qi l (i+1)=Ps l i:=by rw[Qi,if_neg (by rw[h];decide)]
 rw[Lu (by rw[e];exact he) n hi,e]
theorem Qg{l:List UInt8}{i:Nat}(h:Qi l i=0)(he:Ps l i=0):Qi l (i+1)=0:=by rw[Qi,if_neg (by rw[h];decide),he]
theorem keyE_R{l:List UInt8}{i:Nat}:Zdl (Kf l i) i (Bt l i:Int)=Ps l i:=by
 unfold Zdl Ps
 by_cases h:281474976710655<Bt l i
 ·rw[if_pos (by omega),if_pos h]
 ·rw[if_neg (by omega),if_neg h]
  by_cases h2:0<i
  ·rw[Pi l (show i-1<i by omega)]
   by_cases h3:Bt l i≤Bt l (i-1)
   ·rw[if_pos (by omega),if_pos (by omega)]
   ·rw[if_neg (by omega),if_neg (by omega)]
  ·rw[if_neg (by omega),if_neg (by omega)]
def Ed(l:List UInt8):Nat:=12+Xf l*8
def Ij(l:List UInt8):Nat:=12+Xe l*8
def De(l:List UInt8):Nat:=Ij l+Xf l*Xd l
def Nq(l:List UInt8):Bool:=Yy ((l.drop (Ed l)).take (Ij l-Ed l))&&Yy ((l.drop (De l)).take (244-De l))
def Yn(l:List UInt8):Int:=if Qt l then(if Nq l then Qi l (Xf l) else 7) else 7
def NodeP(l:List UInt8)(w:World)(e:Ending)(w':World):Prop :=
 (Yn l≠0∧e=.returned (.tuple #[.agg #[.int .i64 0,.bool false,.slice none 0 0,.slice none 0 0],.int .i64 (Yn l)])∧Below w.heap.size w w') ∨
 (Yn l=0∧∃ kp kc vp vc,e=.returned (.tuple #[.agg #[.int .i64 (Xm l),.bool (Xr l),.slice kp (Xf l) kc,.slice vp (Xf l) vc],.int .i64 0])∧Below w.heap.size w w' ∧
  w'.ownsRow w.heap.size 3 1 (.slice kp (Xf l) kc) (Xf l) ((Kf l (Xf l)).map (Value.int .i64))∧w'.ownsRow w.heap.size 9 1 (.slice vp (Xf l) vc) (Xf l) ((Kg l (Xf l)).map sv))
theorem Hz{l:List UInt8}(h:Qt l=true):Xf l≤Xe l:=(of_decide_eq_true h).2.2.1
theorem Mu(a:Option Addr)(n c:Nat)(l:List UInt8)(w:World)(hn:l.length=n)(hl:n≤100000000)(h:Bys w (.slice a n c) l):Calls Tryz.prog 218 #[.slice a n c] w (Ret (.bool (Yy l)) w):=by
 subst hn;exact code_Zero a c l w hl h
theorem valN_bys{a:Option Addr}{c i:Nat}{l:List UInt8}{w:World}(h:Bys w (.slice a 244 c) l)(hl:l.length=244)(hb:12+Xe l*8+(i+1)*Xd l≤244)(hi:(i+1)*Xd l=i*Xd l+Xd l) :
 Bys w (.slice (Qy a (12+Xe l*8+i*Xd l) c 1) (12+Xe l*8+(i+1)*Xd l-(12+Xe l*8+i*Xd l)) (c-(12+Xe l*8+i*Xd l))) (Bd l i):=by
 have:=Bys.cut h hl (12+Xe l*8+i*Xd l) (12+Xe l*8+(i+1)*Xd l) (by omega) hb
 rw[show 12+Xe l*8+(i+1)*Xd l-(12+Xe l*8+i*Xd l)=Xd l by omega] at this ⊢
 exact this
theorem valN_lenN{i:Nat}{l:List UInt8}(hl:l.length=244)(hb:12+Xe l*8+(i+1)*Xd l≤244)(hi:(i+1)*Xd l=i*Xd l+Xd l):(Bd l i).length=12+Xe l*8+(i+1)*Xd l-(12+Xe l*8+i*Xd l):=by
 unfold Bd;simp only[List.length_take,List.length_drop];omega
def GetP(l:List UInt8)(k w:Nat)(W:World)(e:Ending)(w':World):Prop :=
 (Zf l k w<9223372036854775808∧e=.returned (.tuple #[.int .i64 (Zf l k w:Int),.int .i64 0])∧Below W.heap.size W w')∨(¬ Zf l k w<9223372036854775808∧e=.returned (.tuple #[.int .i64 0,.int .i64 2])∧Below W.heap.size W w')
theorem Get_P(a:Option Addr)(n c k w:Nat)(l:List UInt8)(W:World)(hn:l.length=n)(hw:w=1∨w=2∨w=4∨w=8)(hk:k+w≤n)(hl:n≤100000000)(h:Bys W (.slice a n c) l)(wi:Int)(hwi:wi=(w:Int)) :
 Calls Tryz.prog 147 #[.slice a n c,.int .i64 (↑k:Int),.int .i64 wi] W (GetP l k w W):=by
 subst hn hwi
 by_cases hq:Zf l k w<9223372036854775808
 ·refine(Zbm a c k w l W hw hk hl h hq).mono ?_
  rintro e V ⟨rfl,hb⟩;exact .inl ⟨hq,rfl,hb⟩
 ·refine(Get_big a c k w l W hw hk hl h hq).mono ?_
  rintro e V ⟨rfl,hb⟩;exact .inr ⟨hq,rfl,hb⟩
theorem Zg7(l:List UInt8)(a:Option Addr)(i c:Nat)(w:World)(h:Sl w (.slice a i c) i ((Kf l i).map (Value.int .i64)))(hi:i≤1000) :
 Calls Tryz.prog 209 #[.slice a i c,.int .i64 (↑(Bt l i):Int)] w (fun e w'=>(Ps l i=0∧e=.returned (.int .i64 0)∧Below w.heap.size w w')∨(Ps l i≠0∧e=.returned (.int .i64 (Ps l i))∧Below w.heap.size w w')):=by
 refine(node_keyG a i c (Kf l i) (Bt l i) w (Uf l i) h hi).mono ?_
 rintro e W ⟨rfl,hb⟩
 rw[keyE_R]
 by_cases hz:Ps l i=0
 ·exact .inl ⟨hz,by rw[hz],hb⟩
 ·exact .inr ⟨hz,rfl,hb⟩
theorem node_Read(a:Option Addr)(c:Nat)(l:List UInt8)(w:World)(hl:l.length=244)(h:Bys w (.slice a 244 c) l) :
 Calls Tryz.prog 187 #[.slice a 244 c] w (NodeP l w):=by
 have hcap:=Bys.cap h hl
 refine zin 104 Tryz.func187 ?_
 refine xa 2 [.int .i64 0,.bool false,.slice none 0 0,.slice none 0 0] 220 fun b1 W1 n1=>?_
 refine xc 6 (args:=#[.slice a 244 c]) (Zfm a c l _ hl (h.below n1.below)) ?_
 rintro e W2 hq2
 rcases hq2 with ⟨hs,t0,l0,c0,rfl,hb2⟩|⟨hs,rfl,hb2⟩
 ·refine xa 4 [.int .i64 0,.bool false,.slice none 0 0,.slice none 0 0] 220 fun b3 W3 n3=>?_
  have k1:=n1.blk.below hb2
  have d3_b1:=n3.ne k1
  have hB'1:=bln n1.below hb2
  have g3:=n3.ge hB'1
  refine xsv 0 n3.blk [.int .i64 t0,.bool l0,.slice none 0 0,.slice none 0 0] fun W4 u4 k4=>?_
  have k1'1:=u4.blk (k1.below n3.below) (Ne.symm (Ne.symm d3_b1))
  refine xsv 15 k1'1 [.int .i64 0,.bool false,.slice none 0 0,.slice none 0 0] fun W5 u5 k5=>?_
  have g1:=n1.ge (Below.refl w.heap.size _)
  have hB'2:=u5.below (u4.below (bln hB'1 n3.below) g3) g1
  refine xec 5 k5 (.tuple #[.agg #[.int .i64 0,.bool false,.slice none 0 0,.slice none 0 0],.int .i64 7]) ?_
  have he:Yn l=7:=by unfold Yn;simp[hs]
  exact .inl ⟨by rw[he];decide,by rw[he],hB'2⟩
 have hcm:=Hz hs
 have hfit:=fitG (Xm l) (Xr l)
 have hmle:=Zam (Xm l) (Xr l)
 have hwle:=Oj (Xm l) (Xr l)
 change 12+Xe l*8+Xe l*Xd l≤244 at hfit
 change Xe l≤18 at hmle
 change Xd l≤24 at hwle
 have hcw:Xf l*Xd l≤Xe l*Xd l:=Nat.mul_le_mul_right _ hcm
 refine xa 4 [.int .i64 0,.bool false,.slice none 0 0,.slice none 0 0] 220 fun b6 W6 n6=>?_
 have k1:=n1.blk.below hb2
 have d6_b1:=n6.ne k1
 have hB'3:=bln n1.below hb2
 have g6:=n6.ge hB'3
 refine xsv 0 n6.blk [.int .i64 (Xm l),.bool (Xr l),.slice none 0 0,.slice none 0 0] fun W7 u7 k7=>?_
 refine xd 15 .z ?_
 have k7'1:=k7.below (Za W7)
 refine xb (.e [0] 1) 0 k7'1 ?_
 refine xb (.e [2] 3) 1 k7'1 ?_
 refine xb (.e [5] 6) 0 k7'1 ?_
 refine xb (.e [7] 8) 1 k7'1 ?_
 refine xr (.o [] 4) (args:=#[.int .i64 (Xm l),.bool (Xr l)]) (Gb (Xm l) (Xr l) _) fun W8 hb8=>?_
 refine xr (.o [] 9) (args:=#[.int .i64 (Xm l),.bool (Xr l)]) (Tv (Xm l) (Xr l) _) fun W9 hb9=>?_
 refine xwm (.r [10,11] 5) ((↑(Xe l):Int)*8) (↑((Xe l)*8):Int) ?_
 refine xwm 0 (12+(↑((Xe l)*8):Int)) (↑(12+((Xe l)*8)):Int) ?_
 refine xwm 8 ((↑(Xf l):Int)*8) (↑((Xf l)*8):Int) ?_
 refine xwm 0 (12+(↑((Xf l)*8):Int)) (↑(12+((Xf l)*8)):Int) ?_
 refine xsB 1 (fun _ _ _ _ _ zo zx zy zz V=>Yj (k:=(12+((Xf l)*8))) (h:=(12+((Xe l)*8))) (b:=a) (n:=244) (c:=c) (i:=(↑(12+((Xf l)*8)):Int)) (ki:=.i64) (j:=(↑(12+((Xe l)*8)):Int)) (kj:=.i64) 1 zo zx zy rfl zz rfl (by omega) (by omega) Tryz.underlying22 (by kernel_rfl) V) ?_
 have hB'4:=bln (bln (bln (u7.below (bln hB'3 n6.below) g6) (Za W7)) hb8) hb9
 refine xr 0 (args:=#[.slice (Qy a (12+((Xf l)*8)) c 1) ((12+((Xe l)*8))-(12+((Xf l)*8))) (c-(12+((Xf l)*8)))]) (Mu (Qy a (12+((Xf l)*8)) c 1) ((12+((Xe l)*8))-(12+((Xf l)*8))) (c-(12+((Xf l)*8))) _ _ (by simp;omega) (by omega) ((Bys.cut h hl (12+((Xf l)*8)) (12+((Xe l)*8)) (by omega) (by omega)).below hB'4)) fun W10 hb10=>?_
 refine xg 2 [42,43] (!(Yy ((l.drop (Ed l)).take (Ij l-Ed l)))) (fun hc11=>?_) (fun hc11=>?_)
 ·have hz1:Yy ((l.drop (Ed l)).take (Ij l-Ed l))=false:=by simpa using hc11
  have k1'2:=((((u7.blk (k1.below n6.below) (Ne.symm (Ne.symm d6_b1))).below (Za W7)).below hb8).below hb9).below hb10
  refine xsv 16 k1'2 [.int .i64 0,.bool false,.slice none 0 0,.slice none 0 0] fun W12 u12 k12=>?_
  have g1:=n1.ge (Below.refl w.heap.size _)
  have hB'5:=u12.below (bln hB'4 hb10) g1
  refine xec 5 k12 (.tuple #[.agg #[.int .i64 0,.bool false,.slice none 0 0,.slice none 0 0],.int .i64 7]) ?_
  have he:Yn l=7:=by unfold Yn;simp[hs,Nq,hz1]
  exact .inl ⟨by rw[he];decide,by rw[he],hB'5⟩
 have hz1:Yy ((l.drop (Ed l)).take (Ij l-Ed l))=true:=by simpa using hc11
 refine xwm 4 ((↑(Xf l):Int)*(↑(Xd l):Int)) (↑((Xf l)*(Xd l)):Int) ?_
 refine xwm 0 ((↑(12+((Xe l)*8)):Int)+(↑((Xf l)*(Xd l)):Int)) (↑((12+((Xe l)*8))+((Xf l)*(Xd l))):Int) ?_
 refine xsL 0 (fun _ _ _ _ zo zx zy V=>Xv (k:=((12+((Xe l)*8))+((Xf l)*(Xd l)))) (b:=a) (n:=244) (c:=c) (i:=(↑((12+((Xe l)*8))+((Xf l)*(Xd l))):Int)) (ki:=.i64) 1 zo zx zy rfl (by omega) Tryz.underlying22 (by kernel_rfl) V) ?_
 have hB'6:=bln hB'4 hb10
 refine xr 0 (args:=#[.slice (Qy a ((12+((Xe l)*8))+((Xf l)*(Xd l))) c 1) (244-((12+((Xe l)*8))+((Xf l)*(Xd l)))) (c-((12+((Xe l)*8))+((Xf l)*(Xd l))))]) (Mu (Qy a ((12+((Xe l)*8))+((Xf l)*(Xd l))) c 1) (244-((12+((Xe l)*8))+((Xf l)*(Xd l)))) (c-((12+((Xe l)*8))+((Xf l)*(Xd l)))) _ _ (by simp;omega) (by omega) ((Bys.cut h hl (12+((Xe l)*8)+((Xf l)*(Xd l))) 244 (by omega) (by omega)).below hB'6)) fun W13 hb13=>?_
 refine xi 4 (!(Yy ((l.drop (De l)).take (244-De l)))) (fun hc14=>?_) (fun hc14=>?_)
 ·have hz2:Yy ((l.drop (De l)).take (244-De l))=false:=by simpa using hc14
  have k1'3:=(((((u7.blk (k1.below n6.below) (Ne.symm (Ne.symm d6_b1))).below (Za W7)).below hb8).below hb9).below hb10).below hb13
  refine xsv 3 k1'3 [.int .i64 0,.bool false,.slice none 0 0,.slice none 0 0] fun W15 u15 k15=>?_
  have g1:=n1.ge (Below.refl w.heap.size _)
  have hB'7:=u15.below (bln hB'6 hb13) g1
  refine xec 5 k15 (.tuple #[.agg #[.int .i64 0,.bool false,.slice none 0 0,.slice none 0 0],.int .i64 7]) ?_
  have he:Yn l=7:=by unfold Yn;simp[hs,Nq,hz1,hz2]
  exact .inl ⟨by rw[he];decide,by rw[he],hB'7⟩
 have hz2:Yy ((l.drop (De l)).take (244-De l))=true:=by simpa using hc14
 have hnz:Nq l=true:=by unfold Nq;rw[hz1,hz2];rfl
 have hB'8:=bln hB'6 hb13
 have k1'4:=(((((u7.blk (k1.below n6.below) (Ne.symm (Ne.symm d6_b1))).below (Za W7)).below hb8).below hb9).below hb10).below hb13
 have k7'2:=(((k7'1.below hb8).below hb9).below hb10).below hb13
 refine zl 10 104 (fun zm zkv V=>∃ (i:Nat) (kp:Option Addr) (kc:Nat) (vp:Option Addr) (vc:Nat),zkv=[(0,.slice a 244 c),(2,.pointer (some ⟨b1,0,none⟩)),(4,.pointer (some ⟨b6,0,none⟩)),(7,.int .i64 (↑(Xd l):Int)),(9,.int .i64 (↑(12+((Xe l)*8)):Int)),(55,.int .i64 (↑(Xf l):Int)),(56,.int .i64 (↑i:Int))]∧zm=Xf l-((↑i:Int)).toNat∧Below w.heap.size w V∧Blk V b1 ([.int .i64 0,.bool false,.slice none 0 0,.slice none 0 0]) 220∧Blk V b6 ([.int .i64 (Xm l),.bool (Xr l),.slice kp i kc,.slice vp i vc]) 220∧V.ownsRow w.heap.size 3 1 (.slice kp i kc) i ((Kf l i).map (Value.int .i64))∧V.ownsRow w.heap.size 9 1 (.slice vp i vc) i ((Kg l i).map sv)∧i≤Xf l∧Qi l i=0) ⟨0,none,0,none,0,rfl,rfl,hB'8,k1'4,k7'2,World.ownsRow_nil _ _ _ _,World.ownsRow_nil _ _ _ _,Nat.zero_le _,rfl⟩ ?_
 rintro _ _ W16 ⟨i,kp,kc,vp,vc,rfl,rfl,hB_16,k16_b1,k16_b6,hK,hV,hi,hz⟩ J16 hJ16 r16
 have hiw:(i+1)*Xd l=i*Xd l+Xd l:=Nat.succ_mul i (Xd l)
 have hiw2:i<Xf l→(i+1)*Xd l≤Xe l*Xd l:=fun hh=>Nat.mul_le_mul_right _ (by omega)
 refine xid 6 ((↑i:Int)<(↑(Xf l):Int)) (fun hc17=>?_) (fun hc17=>?_)
 ·refine xwm 14 ((↑i:Int)*8) (↑(i*8):Int) ?_
  refine xwm 0 (12+(↑(i*8):Int)) (↑(12+(i*8)):Int) ?_
  refine xc 0 (args:=#[.slice a 244 c,.int .i64 (↑(12+(i*8)):Int),.int .i64 8]) (Get_P a 244 c (12+(i*8)) 8 l _ hl (by decide) (by omega) (by decide) (h.below hB_16) 8 rfl) ?_
  rintro e W18 hq18
  rcases hq18 with ⟨hgk,rfl,hb18⟩|⟨hgk,rfl,hb18⟩
  ·have k16_b6'1:=k16_b6.below hb18
   refine xb 17 2 k16_b6'1 ?_
   have hK'1:=Zb hK hb18
   refine xc 1 (args:=#[.slice kp i kc,.int .i64 (↑(Bt l i):Int)]) (Zg7 l kp i kc _ (Ze hK'1) (by omega)) ?_
   rintro e W19 hq19
   rcases hq19 with ⟨hz0,rfl,hb19⟩|⟨hz0,rfl,hb19⟩
   ·have k16_b6'2:=k16_b6'1.below hb19
    refine xb 16 2 k16_b6'2 ?_
    refine xbs 1 1 [.int .i64 (↑(Bt l i):Int)] 3 fun b20 W20 n20=>?_
    have hB'9:=bln (bln hB_16 hb18) hb19
    have g20:=n20.ge hB'9
    have hK'2:=Zb hK'1 hb19
    have r20_hK:=Zr hK'2 n20
    have hK'3:=Zb hK'2 n20.below
    have hB'10:=bln hB'9 n20.below
    refine xbi 0 fun _ _ _ _ zJ zQ zo zx zy zK=>Zo (m:=1) (news:=[.int .i64 (↑(Bt l i):Int)]) (.int .i64 0) 1 8 (i+1) ((Kf l (i+1)).map (Value.int .i64)) zo Tryz.underlying31 (by kernel_rfl) rfl (by decide) zx hK'3 zy (n20.blk.sl 1 1 (by decide) (by decide)) rfl (by simp[Value.oneCell']) (by unfold maxLen;omega) (by omega) hB'10.size (by rfl) (by rw[Nz,List.map_append];rfl) fun px21 cx21 W21 o21 hg21 hb21=>?_
    refine zK _ _ ?_
    have k16_b6'3:=(k16_b6'2.below n20.below).grown hg21 hK'3 (by decide)
    refine xs 1 k16_b6'3 [.int .i64 (Xm l),.bool (Xr l),.slice px21 (i+1) cx21,.slice vp i vc] fun W22 u22 k22=>?_
    refine xd 2 (.t w.heap.size [9,220]) ?_
    refine xwm (.e [0,2,3,4,5] 6) ((↑i:Int)*(↑(Xd l):Int)) (↑(i*(Xd l)):Int) ?_
    refine xwm (.e [] 7) ((↑(12+((Xe l)*8)):Int)+(↑(i*(Xd l)):Int)) (↑((12+((Xe l)*8))+(i*(Xd l))):Int) ?_
    refine xwm (.e [8,9] 10) ((↑i:Int)+1) (↑(i+1):Int) ?_
    refine xwm (.e [11] 12) ((↑(i+1):Int)*(↑(Xd l):Int)) (↑((i+1)*(Xd l)):Int) ?_
    refine xwm (.e [] 13) ((↑(12+((Xe l)*8)):Int)+(↑((i+1)*(Xd l)):Int)) (↑((12+((Xe l)*8))+((i+1)*(Xd l))):Int) ?_
    refine xsB (.e [] 14) (fun _ _ _ _ _ zo zx zy zz V=>Yj (k:=((12+((Xe l)*8))+(i*(Xd l)))) (h:=((12+((Xe l)*8))+((i+1)*(Xd l)))) (b:=a) (n:=244) (c:=c) (i:=(↑((12+((Xe l)*8))+(i*(Xd l))):Int)) (ki:=.i64) (j:=(↑((12+((Xe l)*8))+((i+1)*(Xd l))):Int)) (kj:=.i64) 1 zo zx zy rfl zz rfl (by omega) (by omega) Tryz.underlying22 (by kernel_rfl) V) ?_
    have hV'1:=Zb (u22.own2 (Xc (Zb (Zb (Zb hV hb18) hb19) n20.below) hg21 hK'3 (by decide)) k16_b6'3 (by decide)) (Za W22)
    have hB'11:=bln (u22.below (hB'10.trans hb21) g6) (Za W22)
    refine xcvt (.e [] 15) (.t w.heap.size [9,220]) (fun _ _ _ zo zx V hV'1=>Yp zo zx ((valN_bys h hl (by omega) hiw).below (Ke hB'11 hV'1 (Nat.le_refl _))) (valN_lenN hl (by omega) hiw) Tryz.underlying22 Tryz.underlying5 Tryz.underlying9) ?_
    refine xm2 0 1 16 ?_ ?_
    ·have k22'1:=k22.below (Za W22)
     refine xb 0 3 k22'1 ?_
     refine xbs (.o [] 16) 1 [.string ⟨(Bd l i).toArray⟩] 9 fun b23 W23 n23=>?_
     have g23:=n23.ge hB'11
     have r23_hV:=Zr hV'1 n23
     have hV'2:=Zb hV'1 n23.below
     have hB'12:=bln hB'11 n23.below
     refine ybi (.o [] 17) (.t w.heap.size [9,220]) fun _ _ _ _ zJ zQ zo zx zy zK=>Zo (m:=1) (news:=[.string ⟨(Bd l i).toArray⟩]) (.string ⟨#[]⟩) 1 16 (i+1) ((Kg l (i+1)).map sv) zo Tryz.underlying119 (by kernel_rfl) rfl (by decide) zx hV'2 zy (n23.blk.sl 1 1 (by decide) (by decide)) rfl (by simp[Value.oneCell']) (by unfold maxLen;omega) (by omega) hB'12.size (by rfl) (by rw[Kn,List.map_append];rfl) fun px24 cx24 W24 o24 hg24 hb24=>?_
     refine zK _ _ (Xb hb24 hg24 hV'2 (by decide)) ?_
     have k22'2:=(k22'1.below n23.below).grown hg24 hV'2 (by decide)
     refine ys (.o [18] 19) k22'2 [.int .i64 (Xm l),.bool (Xr l),.slice px21 (i+1) cx21,.slice px24 (i+1) cx24] (.t w.heap.size [9,220]) fun W25 u25 k25=>⟨(Zx u25 k22'2 g6 (by decide)),?_⟩
     refine xwm 4 ((↑i:Int)+1) (↑(i+1):Int) ?_
     have hB'13:=u25.below (hB'12.trans hb24) g6
     have k16_b1'1:=u25.blk ((((u22.blk ((((k16_b1.below hb18).below hb19).below n20.below).grown hg21 hK'3 (by decide)) (Ne.symm (Ne.symm d6_b1))).below (Za W22)).below n23.below).grown hg24 hV'2 (by decide)) (Ne.symm (Ne.symm d6_b1))
     have o21'1:=u25.own2 (Xc (Zb (Zb (u22.own2 o21 k16_b6'3 (by decide)) (Za W22)) n23.below) hg24 hV'2 (by decide)) k22'2 (by decide)
     have o24'1:=u25.own2 o24 k22'2 (by decide)
     exact ze 2 (hJ16 _ _ _ ⟨i+1,_,_,_,_,rfl,rfl,hB'13,k16_b1'1,k25,o21'1,o24'1,by omega,Qg hz hz0⟩ (by omega))
    refine xbs 0 1 [.string ⟨(Bd l i).toArray⟩] 9 fun b26 W26 n26=>?_
    have g26:=n26.ge hB'11
    have r26_hV:=Zr hV'1 n26
    have k22'3:=(k22.below (Za W22)).below n26.below
    refine xb (.o [] 1) 3 k22'3 ?_
    have hV'3:=Zb hV'1 n26.below
    have hB'14:=bln hB'11 n26.below
    refine ybi (.o [] 17) (.t w.heap.size [9,220]) fun _ _ _ _ zJ zQ zo zx zy zK=>Zo (m:=1) (news:=[.string ⟨(Bd l i).toArray⟩]) (.string ⟨#[]⟩) 1 16 (i+1) ((Kg l (i+1)).map sv) zo Tryz.underlying119 (by kernel_rfl) rfl (by decide) zx hV'3 zy (n26.blk.sl 1 1 (by decide) (by decide)) rfl (by simp[Value.oneCell']) (by unfold maxLen;omega) (by omega) hB'14.size (by rfl) (by rw[Kn,List.map_append];rfl) fun px27 cx27 W27 o27 hg27 hb27=>?_
    refine zK _ _ (Xb hb27 hg27 hV'3 (by decide)) ?_
    have k22'4:=k22'3.grown hg27 hV'3 (by decide)
    refine ys (.o [18] 19) k22'4 [.int .i64 (Xm l),.bool (Xr l),.slice px21 (i+1) cx21,.slice px27 (i+1) cx27] (.t w.heap.size [9,220]) fun W28 u28 k28=>⟨(Zx u28 k22'4 g6 (by decide)),?_⟩
    refine xwm 4 ((↑i:Int)+1) (↑(i+1):Int) ?_
    have hB'15:=u28.below (hB'14.trans hb27) g6
    have k16_b1'2:=u28.blk ((((u22.blk ((((k16_b1.below hb18).below hb19).below n20.below).grown hg21 hK'3 (by decide)) (Ne.symm (Ne.symm d6_b1))).below (Za W22)).below n26.below).grown hg27 hV'3 (by decide)) (Ne.symm (Ne.symm d6_b1))
    have o21'2:=u28.own2 (Xc (Zb (Zb (u22.own2 o21 k16_b6'3 (by decide)) (Za W22)) n26.below) hg27 hV'3 (by decide)) k22'4 (by decide)
    have o27'1:=u28.own2 o27 k22'4 (by decide)
    exact ze 2 (hJ16 _ _ _ ⟨i+1,_,_,_,_,rfl,rfl,hB'15,k16_b1'2,k28,o21'2,o27'1,by omega,Qg hz hz0⟩ (by omega))
   refine xk 10 (show(((Ps l i) != (0:Int)):Bool)=true from bne_iff_ne.2 hz0) ?_
   have k16_b1'3:=(k16_b1.below hb18).below hb19
   refine xsv 4 k16_b1'3 [.int .i64 0,.bool false,.slice none 0 0,.slice none 0 0] fun W29 u29 k29=>?_
   have g1:=n1.ge (Below.refl w.heap.size _)
   have hB'16:=u29.below (bln (bln hB_16 hb18) hb19) g1
   refine xec 10 k29 (.tuple #[.agg #[.int .i64 0,.bool false,.slice none 0 0,.slice none 0 0],.int .i64 (Ps l i)]) ?_
   have he:Yn l=Ps l i:=by unfold Yn;rw[if_pos hs,if_pos hnz,Ha hz hz0 (by omega)]
   exact .inl ⟨by rw[he];exact hz0,by rw[he],hB'16⟩
  have k16_b1'4:=k16_b1.below hb18
  refine xsv 29 k16_b1'4 [.int .i64 0,.bool false,.slice none 0 0,.slice none 0 0] fun W30 u30 k30=>?_
  have g1:=n1.ge (Below.refl w.heap.size _)
  have hB'17:=u30.below (bln hB_16 hb18) g1
  refine xec 10 k30 (.tuple #[.agg #[.int .i64 0,.bool false,.slice none 0 0,.slice none 0 0],.int .i64 2]) ?_
  have hke:Ps l i=2:=by unfold Ps;rw[if_pos (by unfold Bt;omega)]
  have he:Yn l=2:=by unfold Yn;rw[if_pos hs,if_pos hnz,Ha hz (by rw[hke];decide) (by omega),hke]
  exact .inl ⟨by rw[he];decide,by rw[he],hB'17⟩
 refine xlv 7 k16_b6.rp ?_
 refine xsv 0 k16_b1 [.int .i64 (Xm l),.bool (Xr l),.slice kp i kc,.slice vp i vc] fun W31 u31 k31=>?_
 have g1:=n1.ge (Below.refl w.heap.size _)
 have hB'18:=u31.below hB_16 g1
 have hK'4:=u31.own2 hK k16_b1 (by decide)
 have hV'4:=u31.own2 hV k16_b1 (by decide)
 refine xec 4 k31 (.tuple #[.agg #[.int .i64 (Xm l),.bool (Xr l),.slice kp i kc,.slice vp i vc],.int .i64 0]) ?_
 obtain rfl:i=Xf l:=by omega
 exact .inr ⟨by unfold Yn;rw[if_pos hs,if_pos hnz,hz],_,_,_,_,rfl,hB'18,hK'4,hV'4⟩
theorem Vl{P:Program}{a:Act}{w:World}{K:Act→World→Prop}{Q:Exit→Act→World→Prop}{o:Oper}{src dst e:TypeId}{x:Operand}(l:List UInt8)(ho:o.op=.convert src dst x)(hx:a.eval x=.string ⟨l.toArray⟩)
 (hs:P.underlying src=some .string) (hd:P.underlying dst=some (.slice e)) (he:P.underlying e=some (.int .u8)) (hl:l.length≤1000000)
 (k:∀ b c W,Below w.heap.size w W→Bys W (.slice (some ⟨b,0,none⟩) l.length c) l→K (a.put o.dst (.slice (some ⟨b,0,none⟩) l.length c)) W):o.wp P a w K Q:=by
 have hr:=run_bytes_of_string (P:=P) w src dst e ⟨l.toArray⟩ hs hd he
 have hsz:(⟨l.toArray⟩:ByteArray).size=l.length:=by simp[ByteArray.size]
 rw[hsz] at hr
 obtain⟨W1,hW1⟩:∃ W1,W1=w.drew.alloc (.cells (bytesRow ⟨l.toArray⟩ (grownCap w l.length 0 e)) e ((bytesRow ⟨l.toArray⟩ (grownCap w l.length 0 e)).size,(bytesRow ⟨l.toArray⟩ (grownCap w l.length 0 e)).size+1)):=⟨_,rfl⟩
 rw[←hW1] at hr
 have h2:(execOp a.eval o).run P w=.ok (.value (.slice (some ⟨w.heap.size,0,none⟩) l.length (grownCap w l.length 0 e))) W1:=by
  simp only[execOp,ho,hx,Sem.run_bind,hr];rfl
 refine Hf h2 (k _ _ _ (by rw[hW1];exact(Za w).trans (show Below w.drew.heap.size w.drew _ from blx w.drew _)) (.inr ⟨w.heap.size,0,_,rfl,grownCap_ge w l.length 0 e,grownCap_le_maxLen w l.length 0 e (by unfold maxLen;omega),fun j y hj=>?_⟩))
 have hjl:j<l.length:=by have:=(List.getElem?_eq_some_iff.1 hj).1;simpa using this
 have hb:=bytesRow_at ⟨l.toArray⟩ (grownCap w l.length 0 e) j (by simpa using hjl)
 have hy:y=.int .u8 ((l.toArray[j]'(by simpa using hjl)).toNat:Int):=by
  rw[List.getElem?_map,List.getElem?_eq_getElem hjl] at hj
  simp only[Option.map_some,Option.some.injEq] at hj
  rw[←hj];rfl
 have hh:W1.heap[w.heap.size]? = some (.cells (bytesRow ⟨l.toArray⟩ (grownCap w l.length 0 e)) e ((bytesRow ⟨l.toArray⟩ (grownCap w l.length 0 e)).size,(bytesRow ⟨l.toArray⟩ (grownCap w l.length 0 e)).size+1)):=by rw[hW1];exact heap_alloc_new w.drew _
 rw[hy]
 simp[World.cell?,hh,hb]
def Xx(s:List UInt8):Int:=if s.length=4 then(if 1≤Zf s 0 4∧Zf s 0 4≤14399 then 0 else 2) else 7
def Vg(s:List UInt8):Nat:=if Xx s=0 then Zf s 0 4 else 0
theorem Zb5(bs:ByteArray)(i:Nat)(r:List UInt8)(h:i≤bs.size):(ByteArray.toList.loop bs i r).length=r.length+(bs.size-i):=by
 rw[ByteArray.toList.loop]
 split
 ·rename_i h2
  rw[Zb5 bs (i+1) _ (by omega)]
  simp;omega
 ·simp;omega
termination_by bs.size-i
theorem Fe(bs:ByteArray):bs.toList.length=bs.size:=by
 unfold ByteArray.toList;rw[Zb5 _ _ _ (Nat.zero_le _)];simp
theorem four_ne(n:Int):((⟨(leB n 4).toArray⟩:ByteArray).toList==(⟨#[]⟩:ByteArray).toList)=false:=by
 cases hq:((⟨(leB n 4).toArray⟩:ByteArray).toList==(⟨#[]⟩:ByteArray).toList) with
 | false=>rfl
 | true =>
  have e:=congrArg List.length (eq_of_beq hq)
  rw[Fe,Fe] at e
  simp[ByteArray.size,Zg] at e
theorem Zbe(w:World) :
 Calls Tryz.prog 66 #[] w (Yz (fun w' r=>∃ b,r=.slice (some ⟨b,0,none⟩) 1 1∧w.heap.size≤b∧Blk w' b [.int .i64 4,.int .i64 1,.int .i64 14399] 223) w):=by
 refine zin 3 Tryz.func66 ?_
 refine xbs 8 1 [.int .i64 4,.int .i64 1,.int .i64 14399] 223 fun b1 W1 n1=>?_
 have g1:=n1.ge (Below.refl w.heap.size _)
 exact xe 4 (.slice (some ⟨b1,0,none⟩) 1 1) ⟨_,rfl,n1.below,_,rfl,g1,n1.blk⟩
theorem Zd3(gl:Nat)(an:Option Addr)(cn:Nat)(n:Int)(w:World)(hl:Blk w gl [.int .i64 4,.int .i64 1,.int .i64 14399] 223)(hn:Sl w (.slice an 1 cn) 1 [.int .i64 n])(h1:1≤n)(h2:n≤14399) :
 Calls Tryz.prog 64 #[.slice (some ⟨gl,0,none⟩) 1 1,.slice an 1 cn] w (Ret (.string ⟨(leB n 4).toArray⟩) w):=by
 have hlo:=h1
 have hhi:=h2
 clear h2
 refine zin 51 Tryz.func64 ?_
 refine xu 19 2 ?_
 refine xlv 15 hl.rp ?_
 refine xa 0 [.int .i64 0,.int .i64 0,.int .i64 0] 223 fun b1 W1 n1=>?_
 have d1_gl:=n1.ne hl
 refine xsv 1 n1.blk [.int .i64 4,.int .i64 1,.int .i64 14399] fun W2 u2 k2=>?_
 have g1:=n1.ge (Below.refl w.heap.size _)
 refine xd 4 .z ?_
 refine xx (.e [0,1] 2) _ 1 0 1 (Ints.elem (l:=[n]) hn (k:=0) (by simp)).1 ?_
 have hB:=bln (u2.below n1.below g1) (Za W2)
 refine xl (.e [] 3) ((Ints.elem (l:=[n]) (hn.below hB) (k:=0) (by simp)).2) ?_
 have k2'1:=k2.below (Za W2)
 refine xb (.e [4] 5) 1 k2'1 ?_
 refine xgk (.b [6,7]) [23,24] (show(decide (n<(1:Int)):Bool)=false from decide_eq_false (by omega)) ?_
 refine xx (.e [8,9] 10) _ 1 0 1 (Ints.elem (l:=[n]) hn (k:=0) (by simp)).1 ?_
 refine xl (.e [] 11) ((Ints.elem (l:=[n]) (hn.below hB) (k:=0) (by simp)).2) ?_
 refine xb (.e [12] 13) 2 k2'1 ?_
 refine xk (.r [14,15] 2) (show(decide (n>(14399:Int)):Bool)=false from decide_eq_false (by omega)) ?_
 refine xd 3 .z ?_
 have k2'2:=k2'1.below (Za W2.drew)
 refine xb (.e [0] 1) 0 k2'2 ?_
 refine xx (.e [2,3] 4) _ 1 0 1 (Ints.elem (l:=[n]) hn (k:=0) (by simp)).1 ?_
 have hB'1:=bln hB (Za W2.drew)
 refine xl (.e [] 5) ((Ints.elem (l:=[n]) (hn.below hB'1) (k:=0) (by simp)).2) ?_
 refine xbs (.o [6] 7) 1 [.int .i64 4,.int .i64 n] 226 fun b4 W4 n4=>?_
 have g4:=n4.ge hB'1
 refine yc (.o [] 8) (args:=#[.slice (some ⟨b4,0,none⟩) 1 1]) .z (Mz b4 n (by omega) (by omega) _ n4.blk) ?_
 rintro _ W5 ⟨_,rfl,hb5,p2,c2,rfl,h2⟩
 have hs5:=(bln hB'1 n4.below).size
 refine⟨hb5,?_⟩
 have o6:=World.ownsRow_nil W5 w.heap.size 5 1
 have h2'1:=Zd h2 hs5
 have hB'2:=bln (bln hB'1 n4.below) hb5
 refine xbi (.r [9,10,11,12,13] 5) fun _ _ _ _ zJ zQ zo zx zy zK=>Zo (m:=4) (news:=(leB n 4).map bv) (.int .u8 0) 1 1 (4) ((leB n 4).map bv) zo Tryz.underlying22 (by kernel_rfl) rfl (by decide) zx o6 zy (Ze h2'1) (by simp[Zg]) (Qc _) (by unfold maxLen;omega) (by omega) hB'2.size (by rfl) (by simp) fun px7 cx7 W7 o7 hg7 hb7=>?_
 refine zK _ _ ?_
 refine xcv0 24 (fun _ _ _ zo zx=>Yp zo zx (Yk (Ze o7) (Zg _ _)) (Zg _ _) Tryz.underlying22 Tryz.underlying5 Tryz.underlying9) ?_
 have hB'3:=hB'2.trans hb7
 exact xe 4 (.string ⟨(leB n 4).toArray⟩) ⟨rfl,hB'3⟩
theorem Zf0(gl:Nat)(an:Option Addr)(cn:Nat)(n:Int)(w:World)(hl:Blk w gl [.int .i64 4,.int .i64 1,.int .i64 14399] 223)(hn:Sl w (.slice an 1 cn) 1 [.int .i64 n])(h:¬ (1≤n∧n≤14399)) :
 Calls Tryz.prog 64 #[.slice (some ⟨gl,0,none⟩) 1 1,.slice an 1 cn] w (Ret (.string ⟨#[]⟩) w):=by
 refine zin 51 Tryz.func64 ?_
 refine xu 19 2 ?_
 refine xlv 15 hl.rp ?_
 refine xa 0 [.int .i64 0,.int .i64 0,.int .i64 0] 223 fun b1 W1 n1=>?_
 have d1_gl:=n1.ne hl
 refine xsv 1 n1.blk [.int .i64 4,.int .i64 1,.int .i64 14399] fun W2 u2 k2=>?_
 have g1:=n1.ge (Below.refl w.heap.size _)
 refine xd 4 .z ?_
 refine xx (.e [0,1] 2) _ 1 0 1 (Ints.elem (l:=[n]) hn (k:=0) (by simp)).1 ?_
 have hB:=bln (u2.below n1.below g1) (Za W2)
 refine xl (.e [] 3) ((Ints.elem (l:=[n]) (hn.below hB) (k:=0) (by simp)).2) ?_
 have k2'1:=k2.below (Za W2)
 refine xb (.e [4] 5) 1 k2'1 ?_
 refine xg (.b [6,7]) [23,24] (decide (n<(1:Int))) (fun hc3=>?_) (fun hc3=>?_)
 ·have hc3:=of_decide_eq_true hc3
  exact xe (.r [8,9,10,11,12,13,14,15] 15) (.string ⟨#[]⟩) ⟨rfl,hB⟩
 have hc3:=of_decide_eq_false hc3
 refine xx (.e [8,9] 10) _ 1 0 1 (Ints.elem (l:=[n]) hn (k:=0) (by simp)).1 ?_
 refine xl (.e [] 11) ((Ints.elem (l:=[n]) (hn.below hB) (k:=0) (by simp)).2) ?_
 refine xb (.e [12] 13) 2 k2'1 ?_
 refine xk (.r [14,15] 2) (show(decide (n>(14399:Int)):Bool)=true from decide_eq_true (by omega)) ?_
 exact xe 12 (.string ⟨#[]⟩) ⟨rfl,hB⟩
theorem Ev(gl:Nat)(s:List UInt8)(w:World)(hl:Blk w gl [.int .i64 4,.int .i64 1,.int .i64 14399] 223)(hs:s.length≤1000)(h4:s.length≠4) :
 Calls Tryz.prog 113 #[.slice (some ⟨gl,0,none⟩) 1 1,.string ⟨s.toArray⟩] w (Yz (fun w' r=>∃ p c,r=.tuple #[.slice p 1 c,.int .i64 7]∧w'.ownsRow w.heap.size 3 1 (.slice p 1 c) 1 [.int .i64 0]) w):=by
 refine zin 54 Tryz.func113 ?_
 refine xu 25 2 ?_
 refine xlv 14 hl.rp ?_
 refine xa 0 [.int .i64 0,.int .i64 0,.int .i64 0] 223 fun b1 W1 n1=>?_
 have d1_gl:=n1.ne hl
 refine xsv 0 n1.blk [.int .i64 4,.int .i64 1,.int .i64 14399] fun W2 u2 k2=>?_
 have g1:=n1.ge (Below.refl w.heap.size _)
 refine xb 6 0 k2 ?_
 refine xbs 0 1 [.int .i64 4] 3 fun b3 W3 n3=>?_
 have o4:=World.ownsRow_nil W3 w.heap.size 3 1
 have hB:=bln (u2.below n1.below g1) n3.below
 refine xbi 0 fun _ _ _ _ zJ zQ zo zx zy zK=>Zo (m:=1) (news:=[.int .i64 4]) (.int .i64 0) 1 8 (1) ([Value.int .i64 4]) zo Tryz.underlying31 (by kernel_rfl) rfl (by decide) zx o4 zy (n3.blk.sl 1 1 (by decide) (by decide)) rfl (by simp[Value.oneCell']) (by unfold maxLen;omega) (by omega) hB.size (by rfl) (by rfl) fun px5 cx5 W5 o5 hg5 hb5=>?_
 refine zK _ _ ?_
 have k2'1:=(k2.below n3.below).grown hg5 o4 (by decide)
 refine xb 6 0 k2'1 ?_
 refine xk 31 (show(((↑s.length:Int) != (4:Int)):Bool)=true from bne_iff_ne.2 (by omega)) ?_
 refine xmk 4 fun _ _ _ _ zJ zQ zo zx zy zK=>Vm 1 (.int .i64 0) 1 8 [Value.int .i64 0] zo zx zy Tryz.underlying31 (by kernel_rfl) rfl (by omega) (by omega) (rfl) fun b6 W6 n6=>?_
 have hB'1:=hB.trans hb5
 have g6:=n6.ge hB'1
 have r6_o5:=Zr o5 n6
 refine zK _ _ ?_
 have hB'2:=bln hB'1 n6.below
 have o6:=Zw (size:=1) (n:=1) n6.blk g6 (rfl) (by unfold maxLen;omega)
 exact xe 6 (.tuple #[.slice (some ⟨b6,0,none⟩) 1 1,.int .i64 7]) ⟨_,rfl,hB'2,_,_,rfl,o6⟩
theorem Tb(gl:Nat)(s:List UInt8)(w:World)(hl:Blk w gl [.int .i64 4,.int .i64 1,.int .i64 14399] 223)(hs:s.length≤1000)(h4:s.length=4)(h1:1≤Zf s 0 4)(h2:Zf s 0 4≤14399) :
 Calls Tryz.prog 113 #[.slice (some ⟨gl,0,none⟩) 1 1,.string ⟨s.toArray⟩] w (Yz (fun w' r=>∃ p c,r=.tuple #[.slice p 1 c,.int .i64 0]∧w'.ownsRow w.heap.size 3 1 (.slice p 1 c) 1 [.int .i64 (↑(Zf s 0 4):Int)]) w):=by
 refine zin 54 Tryz.func113 ?_
 refine xu 25 2 ?_
 refine xlv 14 hl.rp ?_
 refine xa 0 [.int .i64 0,.int .i64 0,.int .i64 0] 223 fun b1 W1 n1=>?_
 have d1_gl:=n1.ne hl
 refine xsv 0 n1.blk [.int .i64 4,.int .i64 1,.int .i64 14399] fun W2 u2 k2=>?_
 have g1:=n1.ge (Below.refl w.heap.size _)
 refine xb 6 0 k2 ?_
 refine xbs 0 1 [.int .i64 4] 3 fun b3 W3 n3=>?_
 have o4:=World.ownsRow_nil W3 w.heap.size 3 1
 have hB:=bln (u2.below n1.below g1) n3.below
 refine xbi 0 fun _ _ _ _ zJ zQ zo zx zy zK=>Zo (m:=1) (news:=[.int .i64 4]) (.int .i64 0) 1 8 (1) ([Value.int .i64 4]) zo Tryz.underlying31 (by kernel_rfl) rfl (by decide) zx o4 zy (n3.blk.sl 1 1 (by decide) (by decide)) rfl (by simp[Value.oneCell']) (by unfold maxLen;omega) (by omega) hB.size (by rfl) (by rfl) fun px5 cx5 W5 o5 hg5 hb5=>?_
 refine zK _ _ ?_
 have k2'1:=(k2.below n3.below).grown hg5 o4 (by decide)
 refine xb 6 0 k2'1 ?_
 refine xk 31 (show(((↑s.length:Int) != (4:Int)):Bool)=false from by rw[h4];rfl) ?_
 refine xcf 5 fun _ _ _ zJ zQ zo zx zK=>Vl s zo zx Tryz.underlying9 Tryz.underlying22 Tryz.underlying5 (by omega) ?_
 intro bz cz W6 hb6 hbz
 refine zK _ _ ?_
 have o5'1:=Zb o5 hb6
 refine xc 1 (args:=#[.slice (some ⟨bz,0,none⟩) s.length cz,.slice px5 1 cx5]) (Ms (some ⟨bz,0,none⟩) s.length cz s px5 cx5 1 [4] [Zf s 0 4] _ rfl rfl rfl (by decide) (by simp;omega) (by omega) (by decide) hbz (Ze o5'1) (fun i hi=>by obtain rfl:i=0:=(by simpa using hi);have:=Yo s 0 4 (by decide);simp[Kc];omega)) ?_
 rintro _ W7 ⟨_,rfl,hb7,p5,c5,rfl,h5⟩
 have hs7:=(bln (hB.trans hb5) hb6).size
 have hl'1:=((((u2.blk (hl.below n1.below) (Ne.symm (Ne.symm d1_gl))).below n3.below).grown hg5 o4 (by decide)).below hb6).below hb7
 have h5'1:=Zd h5 hs7
 refine xr 15 (args:=#[.slice (some ⟨gl,0,none⟩) 1 1,.slice p5 1 c5]) (Zd3 gl p5 c5 (↑(Zf s 0 4):Int) _ hl'1 (Ze h5'1) (by omega) (by omega)) fun W8 hb8=>?_
 refine xk 4 (show(((⟨(leB (↑(Zf s 0 4):Int) 4).toArray⟩:ByteArray).toList==(⟨#[]⟩:ByteArray).toList):Bool)=false from four_ne _) ?_
 have hB'1:=bln (bln (bln (hB.trans hb5) hb6) hb7) hb8
 have h5'2:=Zb h5'1 hb8
 exact xe 10 (.tuple #[.slice p5 1 c5,.int .i64 0]) ⟨_,rfl,hB'1,_,_,rfl,h5'2⟩
theorem Ef(gl:Nat)(s:List UInt8)(w:World)(hl:Blk w gl [.int .i64 4,.int .i64 1,.int .i64 14399] 223)(hs:s.length≤1000)(h4:s.length=4)(h1:¬ (1≤(Zf s 0 4:Int)∧(Zf s 0 4:Int)≤14399)) :
 Calls Tryz.prog 113 #[.slice (some ⟨gl,0,none⟩) 1 1,.string ⟨s.toArray⟩] w (Yz (fun w' r=>∃ p c,r=.tuple #[.slice p 1 c,.int .i64 2]∧w'.ownsRow w.heap.size 3 1 (.slice p 1 c) 1 [.int .i64 0]) w):=by
 refine zin 54 Tryz.func113 ?_
 refine xu 25 2 ?_
 refine xlv 14 hl.rp ?_
 refine xa 0 [.int .i64 0,.int .i64 0,.int .i64 0] 223 fun b1 W1 n1=>?_
 have d1_gl:=n1.ne hl
 refine xsv 0 n1.blk [.int .i64 4,.int .i64 1,.int .i64 14399] fun W2 u2 k2=>?_
 have g1:=n1.ge (Below.refl w.heap.size _)
 refine xb 6 0 k2 ?_
 refine xbs 0 1 [.int .i64 4] 3 fun b3 W3 n3=>?_
 have o4:=World.ownsRow_nil W3 w.heap.size 3 1
 have hB:=bln (u2.below n1.below g1) n3.below
 refine xbi 0 fun _ _ _ _ zJ zQ zo zx zy zK=>Zo (m:=1) (news:=[.int .i64 4]) (.int .i64 0) 1 8 (1) ([Value.int .i64 4]) zo Tryz.underlying31 (by kernel_rfl) rfl (by decide) zx o4 zy (n3.blk.sl 1 1 (by decide) (by decide)) rfl (by simp[Value.oneCell']) (by unfold maxLen;omega) (by omega) hB.size (by rfl) (by rfl) fun px5 cx5 W5 o5 hg5 hb5=>?_
 refine zK _ _ ?_
 have k2'1:=(k2.below n3.below).grown hg5 o4 (by decide)
 refine xb 6 0 k2'1 ?_
 refine xk 31 (show(((↑s.length:Int) != (4:Int)):Bool)=false from by rw[h4];rfl) ?_
 refine xcf 5 fun _ _ _ zJ zQ zo zx zK=>Vl s zo zx Tryz.underlying9 Tryz.underlying22 Tryz.underlying5 (by omega) ?_
 intro bz cz W6 hb6 hbz
 refine zK _ _ ?_
 have o5'1:=Zb o5 hb6
 refine xc 1 (args:=#[.slice (some ⟨bz,0,none⟩) s.length cz,.slice px5 1 cx5]) (Ms (some ⟨bz,0,none⟩) s.length cz s px5 cx5 1 [4] [Zf s 0 4] _ rfl rfl rfl (by decide) (by simp;omega) (by omega) (by decide) hbz (Ze o5'1) (fun i hi=>by obtain rfl:i=0:=(by simpa using hi);have:=Yo s 0 4 (by decide);simp[Kc];omega)) ?_
 rintro _ W7 ⟨_,rfl,hb7,p5,c5,rfl,h5⟩
 have hs7:=(bln (hB.trans hb5) hb6).size
 have hl'1:=((((u2.blk (hl.below n1.below) (Ne.symm (Ne.symm d1_gl))).below n3.below).grown hg5 o4 (by decide)).below hb6).below hb7
 have h5'1:=Zd h5 hs7
 refine xr 15 (args:=#[.slice (some ⟨gl,0,none⟩) 1 1,.slice p5 1 c5]) (Zf0 gl p5 c5 (↑(Zf s 0 4):Int) _ hl'1 (Ze h5'1) (by omega)) fun W8 hb8=>?_
 refine xmk 9 fun _ _ _ _ zJ zQ zo zx zy zK=>Vm 1 (.int .i64 0) 1 8 [Value.int .i64 0] zo zx zy Tryz.underlying31 (by kernel_rfl) rfl (by omega) (by omega) (rfl) fun b9 W9 n9=>?_
 have hB'1:=bln (bln (bln (hB.trans hb5) hb6) hb7) hb8
 have g9:=n9.ge hB'1
 have o5'2:=Zb (Zb o5'1 hb7) hb8
 have r9_o5:=Zr o5'2 n9
 have h5'2:=Zb h5'1 hb8
 have r9_h5:=Zr h5'2 n9
 refine zK _ _ ?_
 have hB'2:=bln hB'1 n9.below
 have o9:=Zw (size:=1) (n:=1) n9.blk g9 (rfl) (by unfold maxLen;omega)
 exact xe 6 (.tuple #[.slice (some ⟨b9,0,none⟩) 1 1,.int .i64 2]) ⟨_,rfl,hB'2,_,_,rfl,o9⟩
theorem Oo(gl:Nat)(s:List UInt8)(w:World)(hl:Blk w gl [.int .i64 4,.int .i64 1,.int .i64 14399] 223)(hs:s.length≤1000):Calls Tryz.prog 113 #[.slice (some ⟨gl,0,none⟩) 1 1,.string ⟨s.toArray⟩] w (Yz (fun w' r=>∃ p c,r=.tuple #[.slice p 1 c,.int .i64 (Xx s)]∧w'.ownsRow w.heap.size 3 1 (.slice p 1 c) 1 [.int .i64 (Vg s:Int)]) w):=by
 by_cases h4:s.length=4
 ·by_cases h1:1≤Zf s 0 4∧Zf s 0 4≤14399
  ·have he:Xx s=0:=by unfold Xx;rw[if_pos h4,if_pos h1]
   rw[he,Vg,if_pos he]
   exact Tb gl s w hl hs h4 h1.1 h1.2
  ·have he:Xx s=2:=by unfold Xx;rw[if_pos h4,if_neg h1]
   rw[he,Vg,if_neg (by rw[he];decide)]
   exact Ef gl s w hl hs h4 (by omega)
 ·have he:Xx s=7:=by unfold Xx;rw[if_neg h4]
  rw[he,Vg,if_neg (by rw[he];decide)]
  exact Ev gl s w hl hs h4
theorem Wd(s:List UInt8)(w:World)(hs:s.length≤1000) :
 Calls Tryz.prog 73 #[.string ⟨s.toArray⟩] w (Ret (.tuple #[.int .i64 (Vg s:Int),.int .i64 (Xx s)]) w):=by
 refine zin 16 Tryz.func73 ?_
 refine xc 8 (args:=#[]) (Zbe _) ?_
 rintro _ W1 ⟨_,rfl,hb1,gl,rfl,gg,kl⟩
 refine xc 1 (args:=#[.slice (some ⟨gl,0,none⟩) 1 1,.string ⟨s.toArray⟩]) (Oo gl s _ kl hs) ?_
 rintro _ W2 ⟨_,rfl,hb2,p5,c5,rfl,h5⟩
 have h5'1:=Zd h5 hb1.size
 refine xx 10 _ 1 0 1 (Ints.elem (l:=[(Vg s:Int)]) (Ze h5'1) (k:=0) (by simp)).1 ?_
 refine xl 0 ((Ints.elem (l:=[(Vg s:Int)]) (Ze h5'1) (k:=0) (by simp)).2) ?_
 have hB:=bln hb1 hb2
 exact xe 6 (.tuple #[.int .i64 (↑(Vg s):Int),.int .i64 (Xx s)]) ⟨rfl,hB⟩
end Go.Proofs.YtlmaglneeaecdaaGreatDoor
