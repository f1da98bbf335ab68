/- block.Node, whatever lies in the image. -/
import Derived.Test.YtceeiinepijokaaGreatMg2
namespace Go.Proofs.YtceeiinepijokaaGreat
set_option maxHeartbeats 8000000
set_option maxRecDepth 100000
open Go.RowKit Go.Extern.Stop Go.Stop Go.Extern
set_option linter.unusedVariables false
attribute [local irreducible] wpList wpAnyH Code.wp Oper.wp Go
theorem Ib(kind no:Int)(a:O0)(n c:Nat)(l:Bl)(w:World)(hn:l.length=n)(h:Bys w (.slice a n c) l):C0 75 #[.slice a n c,V0 kind,V0 no] w (OpenP kind no l w):=by
 subst hn;exact seal_Open kind no a c l w h
def Vn(l:Bl)(tree:Int):Int:=if Jm l=0 then(if tree=0∨Qm l=tree then 0 else 6) else Jm l
def Xc(l:Bl)(no tree:Int):Int:=if inE l 2 no=0 then Vn (inB l no) tree else inE l 2 no
def Node1P(l:Bl)(tree:Int)(w:World)(e:Ending)(w':World):Prop :=
 (Vn l tree≠0∧∃ a b kp n1 kc vp n2 vc,e=.returned (.tuple #[.agg #[V0 a,.bool b,.slice kp n1 kc,.slice vp n2 vc],V0 (Vn l tree)])∧B3 w w') ∨
 (Vn l tree=0∧∃ kp kc vp vc,e=.returned (.tuple #[.agg #[V0 (Qm l),.bool (Xp l),.slice kp (Zt l) kc,.slice vp (Zt l) vc],V0 0])∧B3 w w' ∧
  w'.ownsRow w.heap.size 3 1 (.slice kp (Zt l) kc) (Zt l) ((Vt l (Zt l)).map V0)∧w'.ownsRow w.heap.size 9 1 (.slice vp (Zt l) vc) (Zt l) ((Hz l (Zt l)).map sv))
def Zap(l:Bl)(no tree:Int)(w:World)(e:Ending)(w':World):Prop :=
 (Xc l no tree≠0∧∃ b,e=.returned (.tuple #[.agg #[V0 0,.bool false,S0,S0],.iface 256 (P0 b)])∧B3 w w'∧Va w' [some no] (some (Xc l no tree)) (.iface 256 (P0 b))) ∨
 (Xc l no tree=0∧∃ kp kc vp vc,e=.returned (.tuple #[.agg #[V0 (Qm (inB l no)),.bool (Xp (inB l no)),.slice kp (Zt (inB l no)) kc,.slice vp (Zt (inB l no)) vc],.nilIface])∧B3 w w' ∧
  w'.ownsRow w.heap.size 3 1 (.slice kp (Zt (inB l no)) kc) (Zt (inB l no)) ((Vt (inB l no) (Zt (inB l no))).map V0)∧w'.ownsRow w.heap.size 9 1 (.slice vp (Zt (inB l no)) vc) (Zt (inB l no)) ((Hz (inB l no) (Zt (inB l no))).map sv))
theorem node_1(tree:Int)(bt:Nat)(a:O0)(c:Nat)(l:Bl)(w:World)(kt:Blk w bt [V0 tree] 3)(hl:l.length=244)(h:Bys w (.slice a 244 c) l) :
 C0 152 #[.slice a 244 c,P0 bt] w (Node1P l tree w):=by
 refine zin 27 Tryz.func152 ?_
 refine xa 2 [V0 0,.bool false,S0,S0] 183 fun b1 W1 n1=>?_
 refine xc 6 (args:=#[.slice a 244 c]) (node_Read a c l _ hl (h.below n1.below)) ?_
 rintro e W2 d0
 rcases d0 with ⟨hz,rfl,a4⟩|⟨hz,kp,kc,vp,vc,rfl,a4,hk,c5⟩
 ·refine xa 3 [V0 0,.bool false,S0,S0] 183 fun b3 W3 n3=>?_
  have k1:=n1.blk.below a4
  have a7:=n3.ne k1
  have a5:=bln n1.below a4
  have g3:=n3.ge a5
  refine xsv 0 n3.blk [V0 0,.bool false,S0,S0] fun W4 u4 k4=>?_
  refine xgk 9 [13,14] (show(((Jm l)==(0:Int)):Bool)=false from beq_false_of_ne hz) ?_
  refine xlv 16 k4.rp ?_
  have b2:=u4.blk (k1.below n3.below) (Ne.symm (Ne.symm a7))
  refine xsv 1 b2 [V0 0,.bool false,S0,S0] fun W6 u6 k6=>?_
  have g1:=n1.ge (B4 w)
  have c2:=u6.below (u4.below (bln a5 n3.below) g3) g1
  exact xec 4 k6 (.tuple #[.agg #[V0 0,.bool false,S0,S0],V0 (Jm l)]) (.inl ⟨by unfold Vn;rw[if_neg hz];exact hz,_,_,_,_,_,_,_,_,by unfold Vn;rw[if_neg hz],c2⟩)
 refine xa 3 [V0 0,.bool false,S0,S0] 183 fun b7 W7 n7=>?_
 have k1:=n1.blk.below a4
 have a0:=n7.ne k1
 have a1:=bln n1.below a4
 have g7:=n7.ge a1
 refine xsv 0 n7.blk [V0 (Qm l),.bool (Xp l),.slice kp (Zt l) kc,.slice vp (Zt l) vc] fun W8 u8 k8=>?_
 have b0:=u8.blkT (((kt.below n1.below).below a4).below n7.below) n7.blk (by decide)
 refine xb 9 0 b0 ?_
 refine xg 3 [16,17,18] (tree != (0:Int)) (fun a6=>?_) (fun a6=>?_)
 ·have a6:=Bo a6
  refine xb 1 0 k8 ?_
  refine xb 0 0 b0 ?_
  refine xin 4 (Qm l) tree (fun b9=>?_) (fun b9=>?_)
  ·refine xlv 2 k8.rp ?_
   have c3:=u8.blk (k1.below n7.below) (Ne.symm (Ne.symm a0))
   refine xsv 0 c3 [V0 (Qm l),.bool (Xp l),.slice kp (Zt l) kc,.slice vp (Zt l) vc] fun d3 c8 c9=>?_
   have g1:=n1.ge (B4 w)
   have c4:=c8.below (u8.below (bln a1 n7.below) g7) g1
   exact xec 5 c9 (.tuple #[.agg #[V0 (Qm l),.bool (Xp l),.slice kp (Zt l) kc,.slice vp (Zt l) vc],V0 6]) (.inl ⟨by unfold Vn;rw[if_pos hz,if_neg (by omega)];decide,_,_,_,_,_,_,_,_,by unfold Vn;rw[if_pos hz,if_neg (by omega)],c4⟩)
  refine xlv 4 k8.rp ?_
  have a2:=u8.blk (k1.below n7.below) (Ne.symm (Ne.symm a0))
  refine xsv 1 a2 [V0 (Qm l),.bool (Xp l),.slice kp (Zt l) kc,.slice vp (Zt l) vc] fun d2 c1 c7=>?_
  have g1:=n1.ge (B4 w)
  have b5:=c1.below (u8.below (bln a1 n7.below) g7) g1
  have b4:=c1.own2 (u8.own2 (Zb (Zh hk n1.below.size) n7.below) n7.blk (by decide)) a2 (by decide)
  have a9:=c1.own2 (u8.own2 (Zb (Zh c5 n1.below.size) n7.below) n7.blk (by decide)) a2 (by decide)
  exact xec 4 c7 (.tuple #[.agg #[V0 (Qm l),.bool (Xp l),.slice kp (Zt l) kc,.slice vp (Zt l) vc],V0 0]) (.inr ⟨by unfold Vn;rw[if_pos hz,if_pos (by omega)],_,_,_,_,rfl,b5,b4,a9⟩)
 have a6:=Vh a6
 refine xlv 12 k8.rp ?_
 have a3:=u8.blk (k1.below n7.below) (Ne.symm (Ne.symm a0))
 refine xsv 1 a3 [V0 (Qm l),.bool (Xp l),.slice kp (Zt l) kc,.slice vp (Zt l) vc] fun d1 c0 c6=>?_
 have g1:=n1.ge (B4 w)
 have b6:=c0.below (u8.below (bln a1 n7.below) g7) g1
 have b8:=c0.own2 (u8.own2 (Zb (Zh hk n1.below.size) n7.below) n7.blk (by decide)) a3 (by decide)
 have a8:=c0.own2 (u8.own2 (Zb (Zh c5 n1.below.size) n7.below) n7.blk (by decide)) a3 (by decide)
 exact xec 4 c6 (.tuple #[.agg #[V0 (Qm l),.bool (Xp l),.slice kp (Zt l) kc,.slice vp (Zt l) vc],V0 0]) (.inr ⟨by unfold Vn;rw[if_pos hz,if_pos (by omega)],_,_,_,_,rfl,b6,b8,a8⟩)
theorem readNode(B b:Nat)(p:O0)(n c:Nat)(l:Bl)(no tree:Int)(w:World)(hI:ImgR B b p n c l w)(bt:Nat)(kt:Blk w bt [V0 tree] 3) :
 C0 151 #[P0 b,V0 no,V0 2,.func (.func 152) #[] #[P0 bt]] w (Zap l no tree w):=by
 refine zin 56 Tryz.func151 ?_
 refine xa 2 [V0 0,.bool false,S0,S0] 183 fun b1 W1 n1=>?_
 refine xa 5 [V0 0,.bool false,S0,S0] 183 fun b2 W2 n2=>?_
 have h8:=n2.ne n1.blk
 have hB:=bln n1.below n2.below
 refine xc 6 (args:=#[P0 b,V0 no]) (Tu B b p n c l no _ (hI.below hB)) ?_
 rintro e W3 j4
 rcases j4 with ⟨ho,vr,rfl,a0⟩|⟨j,hk,hj,p2,c2,rfl,a0,ho⟩
 ·refine xd 16 (.t w.heap.size [183]) ?_
  refine xm2 (.b [1,2,3]) 0 4 ?_ ?_
  ·have k2:=(n2.blk.below a0).below (Za W3)
   refine xlv 0 k2.rp ?_
   refine yc (.o [] 4) (args:=#[V0 no,.iface 89 (V0 3)]) (.t w.heap.size [183]) (Ym no 3 _) ?_
   rintro _ W4 ⟨_,rfl,f1,f6⟩
   refine⟨(SF.of_below _ f1),?_⟩
   rw[if_neg (by decide),if_neg (by decide)] at f6
   have i3:=f6
   obtain⟨k3,k8,rfl,_,_⟩:=i3
   have c7:=(((n1.blk.below n2.below).below a0).below (Za W3)).below f1
   have g1:=n1.ge (B4 w)
   refine ysv (.o [] 5) c7 [V0 0,.bool false,S0,S0] (.t w.heap.size [183]) fun W5 u5 k5=>⟨(Zl u5 c7 g1 (by decide)),?_⟩
   have f0:=u5.below (bln (bln (bln hB a0) (Za W3)) f1) g1
   have e4:=f6.upd u5 c7 (by decide)
   refine xec (.r [6] 4) k5 (.tuple #[.agg #[V0 0,.bool false,S0,S0],.iface 256 (P0 k3)]) ?_
   have he:Xc l no tree=3:=by unfold Xc;rw[Zaj hI.len ho];rfl
   exact .inl ⟨by rw[he];decide,_,rfl,f0,by rw[he];exact e4⟩
  refine yc 0 (args:=#[V0 no,.iface 89 (V0 3)]) (.t w.heap.size [183]) (Ym no 3 _) ?_
  rintro _ W6 ⟨_,rfl,e6,g3⟩
  refine⟨(SF.of_below _ e6),?_⟩
  rw[if_neg (by decide),if_neg (by decide)] at g3
  have i5:=g3
  obtain⟨i8,l1,rfl,_,_⟩:=i5
  have k2:=((n2.blk.below a0).below (Za W3)).below e6
  refine xlv (.o [] 0) k2.rp ?_
  have b6:=(((n1.blk.below n2.below).below a0).below (Za W3)).below e6
  have g1:=n1.ge (B4 w)
  refine ysv (.o [] 5) b6 [V0 0,.bool false,S0,S0] (.t w.heap.size [183]) fun W7 u7 k7=>⟨(Zl u7 b6 g1 (by decide)),?_⟩
  have f5:=u7.below (bln (bln (bln hB a0) (Za W3)) e6) g1
  have e0:=g3.upd u7 b6 (by decide)
  refine xec (.r [6] 4) k7 (.tuple #[.agg #[V0 0,.bool false,S0,S0],.iface 256 (P0 i8)]) ?_
  have he:Xc l no tree=3:=by unfold Xc;rw[Zaj hI.len ho];rfl
  exact .inl ⟨by rw[he];decide,_,rfl,f5,by rw[he];exact e0⟩
 have i9:=(bln n1.below n2.below).size
 have j3:j<l.length/256:=by rw[hI.len];exact hj
 have i1:=Hd j3
 have e1:=Zgp (l:=l) (kind:=2) hI.len hk hj
 have f3:=Zh ho i9
 refine xc 22 (args:=#[.slice p2 256 c2,V0 2,V0 no]) (Ib 2 no p2 256 c2 (Km l j) _ i1 (Qu (Zf f3) i1)) ?_
 rintro e W8 j0
 rcases j0 with ⟨hs,rfl,a2⟩|⟨hs,p3,c3,rfl,a2,h3⟩
 ·refine xk 14 (show(((Vb 2 no (Km l j)) != (0:Int)):Bool)=true from bne_iff_ne.2 hs) ?_
  refine xd 1 (.t w.heap.size [183]) ?_
  refine xm2 (.b [1,2,3]) 0 4 ?_ ?_
  ·have k2:=((n2.blk.below a0).below a2).below (Za W8)
   refine xlv 0 k2.rp ?_
   refine yc (.o [] 4) (args:=#[V0 no,.iface 89 (V0 (Vb 2 no (Km l j)))]) (.t w.heap.size [183]) (Ym no (Vb 2 no (Km l j)) _) ?_
   rintro _ W9 ⟨_,rfl,h4,f7⟩
   refine⟨(SF.of_below _ h4),?_⟩
   rw[if_neg hs,if_neg hs] at f7
   have i2:=f7
   obtain⟨k4,k9,rfl,_,_⟩:=i2
   have b4:=((((n1.blk.below n2.below).below a0).below a2).below (Za W8)).below h4
   have g1:=n1.ge (B4 w)
   refine ysv (.o [] 5) b4 [V0 0,.bool false,S0,S0] (.t w.heap.size [183]) fun m6 e7 i7=>⟨(Zl e7 b4 g1 (by decide)),?_⟩
   have g5:=e7.below (bln (bln (bln (bln hB a0) a2) (Za W8)) h4) g1
   have e2:=f7.upd e7 b4 (by decide)
   refine xec (.r [6] 4) i7 (.tuple #[.agg #[V0 0,.bool false,S0,S0],.iface 256 (P0 k4)]) ?_
   have he:Xc l no tree=Vb 2 no (Km l j):=by unfold Xc;rw[e1,if_neg hs]
   exact .inl ⟨by rw[he];exact hs,_,rfl,g5,by rw[he];exact e2⟩
  refine yc 0 (args:=#[V0 no,.iface 89 (V0 (Vb 2 no (Km l j)))]) (.t w.heap.size [183]) (Ym no (Vb 2 no (Km l j)) _) ?_
  rintro _ m7 ⟨_,rfl,a8,c4⟩
  refine⟨(SF.of_below _ a8),?_⟩
  rw[if_neg hs,if_neg hs] at c4
  have g8:=c4
  obtain⟨f8,k0,rfl,_,_⟩:=g8
  have k2:=(((n2.blk.below a0).below a2).below (Za W8)).below a8
  refine xlv (.o [] 0) k2.rp ?_
  have c9:=((((n1.blk.below n2.below).below a0).below a2).below (Za W8)).below a8
  have g1:=n1.ge (B4 w)
  refine ysv (.o [] 5) c9 [V0 0,.bool false,S0,S0] (.t w.heap.size [183]) fun m0 h6 j2=>⟨(Zl h6 c9 g1 (by decide)),?_⟩
  have h0:=h6.below (bln (bln (bln (bln hB a0) a2) (Za W8)) a8) g1
  have d0:=c4.upd h6 c9 (by decide)
  refine xec (.r [6] 4) j2 (.tuple #[.agg #[V0 0,.bool false,S0,S0],.iface 256 (P0 f8)]) ?_
  have he:Xc l no tree=Vb 2 no (Km l j):=by unfold Xc;rw[e1,if_neg hs]
  exact .inl ⟨by rw[he];exact hs,_,rfl,h0,by rw[he];exact d0⟩
 have i4:=(bln hB a0).size
 have e3:=Zh h3 i4
 have j8:((Km l j).drop 8).take 244=inB l no:=(Zgc hk).symm
 have i0:=inB_len hI.len hk hj
 rw[j8] at e3
 have c0:=bln (bln hB a0) a2
 refine xc 21 (args:=#[.slice p3 244 c3,P0 bt]) (node_1 tree bt p3 c3 (inB l no) _ (kt.below c0) i0 (Qu (Zf e3) i0)) ?_
 rintro e l8 h2
 rcases h2 with ⟨hz,a5,b5,kp,m1,kc,vp,m2,vc,rfl,a1⟩|⟨hz,kp,kc,vp,vc,rfl,a1,hk,k1⟩
 ·refine xa 3 [V0 0,.bool false,S0,S0] 183 fun l5 l9 a7=>?_
  have b3:=(((n1.blk.below n2.below).below a0).below a2).below a1
  have a3:=a7.ne b3
  have k2:=((n2.blk.below a0).below a2).below a1
  have a4:=a7.ne k2
  have c1:=bln c0 a1
  have h9:=a7.ge c1
  refine xsv 0 a7.blk [V0 a5,.bool b5,.slice kp m1 kc,.slice vp m2 vc] fun d4 d3 l4=>?_
  refine xk 10 (show(((Vn (inB l no) tree) != (0:Int)):Bool)=true from bne_iff_ne.2 hz) ?_
  refine xd 1 (.t w.heap.size [183]) ?_
  refine xm2 (.b [1,2,3]) 0 4 ?_ ?_
  ·have g9:=(d3.blk (k2.below a7.below) (Ne.symm (Ne.symm a4))).below (Za d4)
   refine xlv 0 g9.rp ?_
   refine yc (.o [] 4) (args:=#[V0 no,.iface 89 (V0 (Vn (inB l no) tree))]) (.t w.heap.size [183]) (Ym no (Vn (inB l no) tree) _) ?_
   rintro _ l3 ⟨_,rfl,c8,d2⟩
   refine⟨(SF.of_below _ c8),?_⟩
   rw[if_neg hz,if_neg hz] at d2
   have g0:=d2
   obtain⟨e8,j6,rfl,_,_⟩:=g0
   have c5:=((d3.blk (b3.below a7.below) (Ne.symm (Ne.symm a3))).below (Za d4)).below c8
   have g1:=n1.ge (B4 w)
   refine ysv (.o [] 5) c5 [V0 0,.bool false,S0,S0] (.t w.heap.size [183]) fun m4 g2 j5=>⟨(Zl g2 c5 g1 (by decide)),?_⟩
   have f2:=g2.below (bln (bln (d3.below (bln c1 a7.below) h9) (Za d4)) c8) g1
   have b0:=d2.upd g2 c5 (by decide)
   refine xec (.r [6] 4) j5 (.tuple #[.agg #[V0 0,.bool false,S0,S0],.iface 256 (P0 e8)]) ?_
   have he:Xc l no tree=Vn (inB l no) tree:=by unfold Xc;rw[e1,if_pos hs]
   exact .inl ⟨by rw[he];exact hz,_,rfl,f2,by rw[he];exact b0⟩
  refine yc 0 (args:=#[V0 no,.iface 89 (V0 (Vn (inB l no) tree))]) (.t w.heap.size [183]) (Ym no (Vn (inB l no) tree) _) ?_
  rintro _ l2 ⟨_,rfl,a9,b9⟩
  refine⟨(SF.of_below _ a9),?_⟩
  rw[if_neg hz,if_neg hz] at b9
  have e9:=b9
  obtain⟨h5,j9,rfl,_,_⟩:=e9
  have h7:=((d3.blk (k2.below a7.below) (Ne.symm (Ne.symm a4))).below (Za d4)).below a9
  refine xlv (.o [] 0) h7.rp ?_
  have b8:=((d3.blk (b3.below a7.below) (Ne.symm (Ne.symm a3))).below (Za d4)).below a9
  have g1:=n1.ge (B4 w)
  refine ysv (.o [] 5) b8 [V0 0,.bool false,S0,S0] (.t w.heap.size [183]) fun m5 g6 j7=>⟨(Zl g6 b8 g1 (by decide)),?_⟩
  have f9:=g6.below (bln (bln (d3.below (bln c1 a7.below) h9) (Za d4)) a9) g1
  have d1:=b9.upd g6 b8 (by decide)
  refine xec (.r [6] 4) j7 (.tuple #[.agg #[V0 0,.bool false,S0,S0],.iface 256 (P0 h5)]) ?_
  have he:Xc l no tree=Vn (inB l no) tree:=by unfold Xc;rw[e1,if_pos hs]
  exact .inl ⟨by rw[he];exact hz,_,rfl,f9,by rw[he];exact d1⟩
 have d9:=(bln (bln hB a0) a2).size
 refine xa 3 [V0 0,.bool false,S0,S0] 183 fun l7 l6 a6=>?_
 have d6:=(((n1.blk.below n2.below).below a0).below a2).below a1
 have c6:=a6.ne d6
 have k2:=((n2.blk.below a0).below a2).below a1
 have f4:=a6.ne k2
 have d7:=bln c0 a1
 have i6:=a6.ge d7
 refine xsv 0 a6.blk [V0 (Qm (inB l no)),.bool (Xp (inB l no)),.slice kp (Zt (inB l no)) kc,.slice vp (Zt (inB l no)) vc] fun l0 e5 j1=>?_
 refine xlv 15 j1.rp ?_
 have b7:=e5.blk (d6.below a6.below) (Ne.symm (Ne.symm c6))
 refine xsv 0 b7 [V0 (Qm (inB l no)),.bool (Xp (inB l no)),.slice kp (Zt (inB l no)) kc,.slice vp (Zt (inB l no)) vc] fun m3 h1 k6=>?_
 have g1:=n1.ge (B4 w)
 have d8:=h1.below (e5.below (bln d7 a6.below) i6) g1
 have g7:=h1.own2 (e5.own2 (Zb (Zh hk d9) a6.below) a6.blk (by decide)) b7 (by decide)
 have d5:=h1.own2 (e5.own2 (Zb (Zh k1 d9) a6.below) a6.blk (by decide)) b7 (by decide)
 exact xec 4 k6 (.tuple #[.agg #[V0 (Qm (inB l no)),.bool (Xp (inB l no)),.slice kp (Zt (inB l no)) kc,.slice vp (Zt (inB l no)) vc],.nilIface]) (.inr ⟨by unfold Xc;rw[e1,if_pos hs,hz],_,_,_,_,rfl,d8,g7,d5⟩)
theorem Ni(B b:Nat)(p:O0)(n c:Nat)(l:Bl)(no tree:Int)(w:World)(hI:ImgR B b p n c l w) :
 C0 87 #[P0 b,V0 no,V0 tree] w (Zap l no tree w):=by
 refine zin 14 Tryz.func87 ?_
 refine xa 2 [V0 tree] 3 fun b1 W1 n1=>?_
 refine xa 0 [V0 0,.bool false,S0,S0] 183 fun b2 W2 n2=>?_
 have hB:=bln n1.below n2.below
 have k1:=n1.blk.below n2.below
 refine xc 8 (args:=#[P0 b,V0 no,V0 2,.func (.func 152) #[] #[P0 b1]]) (readNode B b p n c l no tree _ (hI.below hB) b1 k1) ?_
 rintro e W3 a7
 rcases a7 with ⟨he,bf,rfl,a0,hv⟩|⟨he,kp,kc,vp,vc,rfl,a0,hk,a8⟩
 ·have k2:=n2.blk.below a0
  refine xsv 2 k2 [V0 0,.bool false,S0,S0] fun W4 u4 k4=>?_
  have g2:=n2.ge n1.below
  have a4:=u4.below (bln hB a0) g2
  have a3:=hv.upd u4 k2 (by decide)
  exact xec 4 k4 (.tuple #[.agg #[V0 0,.bool false,S0,S0],.iface 256 (P0 bf)]) (.inl ⟨he,_,rfl,a4,a3⟩)
 have a6:=(bln n1.below n2.below).size
 have k2:=n2.blk.below a0
 refine xsv 2 k2 [V0 (Qm (inB l no)),.bool (Xp (inB l no)),.slice kp (Zt (inB l no)) kc,.slice vp (Zt (inB l no)) vc] fun W5 u5 k5=>?_
 have g2:=n2.ge n1.below
 have a5:=u5.below (bln hB a0) g2
 have a2:=u5.own2 (Zh hk a6) k2 (by decide)
 have a1:=u5.own2 (Zh a8 a6) k2 (by decide)
 exact xec 4 k5 (.tuple #[.agg #[V0 (Qm (inB l no)),.bool (Xp (inB l no)),.slice kp (Zt (inB l no)) kc,.slice vp (Zt (inB l no)) vc],.nilIface]) (.inr ⟨he,_,_,_,_,rfl,a5,a2,a1⟩)
theorem Qj(ba b:Nat)(v x:Value)(w:World)(hk:Blk w ba [v,x,P0 b] 152) :
 C0 65 #[P0 ba] w (Ret (P0 b) w):=by
 refine zin 9 Tryz.func65 ?_
 refine xr 9 (args:=#[P0 ba]) (Jh ba b _ _ _ hk) fun W1 a1=>?_
 have a0:=hk.below a1
 refine xb 10 2 a0 ?_
 exact xe 4 (P0 b) ⟨rfl,a1⟩
abbrev Ent:=Int×Bl×Int
def Zn:Ent:=(0,[],0)
def Qz(x:Ent):List Value:=[V0 x.1,.string ⟨x.2.1.toArray⟩,V0 x.2.2]
theorem Qk(x:Ent):(Qz x).length=3:=rfl
def lastK(l:List Ent):Nat→Int
 | 0=>-1
 | i+1=>(l.getD i Zn).1
structure EntsOk(v:Nat)(l:List Ent):Prop where
 hk:∀ i,i<l.length→0≤(l.getD i Zn).1∧(l.getD i Zn).1≤281474976710655
 hs:∀ j,j+1<l.length→(l.getD j Zn).1<(l.getD (j+1) Zn).1
 hw:∀ i,i<l.length→(l.getD i Zn).2.1.length=v
theorem EntsOk.last{v:Nat}{l:List Ent}(E:EntsOk v l){i:Nat}(h:i<l.length):lastK l i<(l.getD i Zn).1:=by
 cases i with
 | zero=>have:=(E.hk 0 h).1;simp only[lastK];omega
 | succ j=>exact E.hs j h
theorem Mn(x:Nat):x≤(Za3 x).sum:=by
 by_cases h:x≤1
 ·rw[Gh h];simp
 ·rw[Hq h];simp
theorem Um(t:Int)(n:Nat):1≤Xw t n:=by
 have h1:=Mn (ovN n (Qy t true));have h2:=Kg n (Qy t true);unfold Xw Ui;omega
theorem Zef(t:Int)(v:Nat)(a:O0)(c:Nat)(l:List Ent)(w:World)(ht1:1≤t)(ht2:t≤5)(hv:Ua t true=v)(E:EntsOk v l)(h:Sts Qz w (.slice a l.length c) l)(hn:l.length≤32768) :
 C0 189 #[V0 t,.slice a l.length c] w (Ret (.bool true) w):=by
 have a5:=Fd t true
 rw[hv] at a5
 have a8:=Um t l.length
 refine zin 45 Tryz.func189 ?_
 refine xr 8 (args:=#[V0 t,.bool true]) (Md t true v hv ht1 ht2 _) fun W1 a7=>?_
 refine xgk 9 [12,13] (show(((v:Int)==(0:Int)):Bool)=false from by simp;omega) ?_
 refine xr 3 (args:=#[V0 t,V0 (l.length:Int)]) (Qq t l.length _ ht1 ht2 hn) fun W3 a2=>?_
 refine xk 4 (show(((↑(Xw t l.length):Int)==(0:Int)):Bool)=false from by simp;omega) ?_
 have hB:=bln a7 a2
 refine zl 16 45 (fun zm a4 V=>∃ (i:Nat),a4=[(5,V0 (v:Int)),(6,V0 (lastK l i)),(20,.slice a l.length c),(21,V0 (l.length:Int)),(22,V0 (i:Int))]∧zm=l.length-((i:Int)).toNat∧B3 w V∧i≤l.length) ⟨0,rfl,rfl,hB,Nat.zero_le _⟩ ?_
 rintro _ _ W4 ⟨i,rfl,rfl,a0,hi⟩ J4 a6 r4
 refine xid 6 ((i:Int)<(l.length:Int)) (fun a3=>?_) (fun a3=>?_)
 ·refine xx 6 _ l.length i 3 (Sts.cell h Qk Zn (k:=i) (i:=0) (by omega) rfl).1 ?_
  refine xlv 0 (Sts.rp (k:=i) (h.below a0) Qk Zn (by omega) (by decide)) ?_
  refine xa 0 [V0 0,.string ⟨#[]⟩,V0 0] 122 fun b6 W6 n6=>?_
  have g6:=n6.ge a0
  refine xsv 0 n6.blk [V0 ((l.getD i Zn).1),.string ⟨((l.getD i Zn).2.1).toArray⟩,V0 ((l.getD i Zn).2.2)] fun W7 u7 k7=>?_
  refine xb 6 0 k7 ?_
  refine xgk 3 [29,30] (show(decide ((l.getD i Zn).1≤(lastK l i)):Bool)=false from decide_eq_false (by have:=E.last (i:=i) (by omega);omega)) ?_
  refine xb 1 0 k7 ?_
  refine xgk 3 [33,34,35] (show(decide ((l.getD i Zn).1>(281474976710655:Int)):Bool)=false from decide_eq_false (by have:=(E.hk i (by omega)).2;omega)) ?_
  refine xb 1 1 k7 ?_
  refine xk 6 (show(((↑((l.getD i Zn).2.1).length:Int) != (v:Int)):Bool)=false from by rw[E.hw i (by omega)];simp) ?_
  refine xb 4 0 k7 ?_
  refine xw 5 ((i:Int)+1) ?_
  have a1:=u7.below (bln a0 n6.below) g6
  exact ze 2 (a6 _ _ _ ⟨i+1,rfl,rfl,a1,by omega⟩ (by omega))
 exact xe 11 (.bool true) ⟨rfl,a0⟩
theorem Pg(p:O0)(n c:Nat)(w:World) :
 C0 150 #[.slice p n c] w (fun e w'=>∃ b,e=.returned (.func (.func 209) #[] #[P0 b])∧B3 w w'∧w.heap.size≤b∧Blk w' b [.slice p n c] 35):=by
 refine zin 4 Tryz.func150 ?_
 refine xa 2 [.slice p n c] 35 fun b1 W1 n1=>?_
 have g1:=n1.ge (B4 w)
 exact xe 10 (.func (.func 209) #[] #[P0 b1]) ⟨_,rfl,n1.below,g1,n1.blk⟩
end Go.Proofs.YtceeiinepijokaaGreat
namespace Go.Proofs.YtceeiinepijokaaGreat
set_option maxHeartbeats 8000000
set_option maxRecDepth 100000
open Go.RowKit Go.Extern.Stop Go.Stop Go.Extern
set_option linter.unusedVariables false
attribute [local irreducible] wpList wpAnyH Code.wp Oper.wp Go
attribute [local go_sem] Oper.semAt_some
theorem Upd.of_put(w:World)(D:Nat)(o:Obj):Upd w D (w.putObj D o):=⟨rfl,rfl,rfl,by simp[World.putObj],fun k hk=>World.putObj_heap_other hk⟩
def Dfr (D:Nat)(w:World):Prop:=w.heap[D]? = some (.deferred (some []))
theorem Dfr.below{D:Nat}{w W:World}(h:Dfr D w)(hb:B3 w W):Dfr D W:=(hb.block D (Array.getElem?_eq_some_iff.1 h).1).trans h
theorem Dfr.ne{D b:Nat}{w:World}{cs:List Value}{t:TypeId}(h:Dfr D w)(k:Blk w b cs t):b≠D:=by
 rintro rfl
 have h':w.heap[b]? = _:=h
 rw[show w.heap[b]? = _ from k] at h'
 cases h'
theorem Dfr.upd{D b:Nat}{w W:World}{cs:List Value}{t:TypeId}(h:Dfr D w)(u:Upd w b W)(k:Blk w b cs t):Dfr D W:=(u.block D fun e=>h.ne k e.symm).trans h
theorem Dfr.row{D:Nat}{w:World}{base e size n:Nat}{v:Value}{xs:List Value}(h:Dfr D w)(k:w.ownsRow base e size v n xs):∀ g,v.ownBlock=some g→g≠D:=by
 rintro g hg rfl
 rcases k.2 with ⟨rfl,_⟩|⟨g',a1,a0,rfl,_,hh,_⟩
 ·cases hg
 ·simp only[Value.ownBlock,Option.some.injEq] at hg
  subst hg
  rw[show w.heap[g']? = _ from h] at hh
  cases hh
theorem Dfr.grown{D:Nat}{w W:World}{base e size n:Nat}{v:Value}{xs:List Value}(h:Dfr D w)(hg:w.grownBy W v.ownBlock)(k:w.ownsRow base e size v n xs):Dfr D W :=
 (hg.block D (Array.getElem?_eq_some_iff.1 h).1 fun q=>h.row k D q.symm rfl).trans h
theorem Aw{P:Program}{fn:Func}{R:Ending→World→Prop}{a:Act}{w:World}{D:Nat}(hK:Dfr D w)(v:Value)(hd:a.defers=[{ target:=.collected D,args:=#[] }])(hr:(results fn a.tmps).run P (w.putObj D (.deferred none))=.ok v (w.putObj D (.deferred none)))(h:R (.returned v) (w.putObj D (.deferred none))):bodyPostM Fence.wide 4 P fn R .normal a w :=
 by
 show LeavesInM _ _ _ _ a.tmps R a.defers .returning w
 rw[hd]
 exact⟨by simp,.inl ⟨_,_,rfl,run_takeDeferred hK,_,hr,h⟩⟩
def noPan(Q:Exit→Act→World→Prop):Exit→Act→World→Prop
 | .normal,a,w=>Q .normal a w
 | .ret,a,w=>Q .ret a w
 | _,_,_=>False
theorem Ou{P:Program}{c:Code}{Q:Exit→Act→World→Prop}{a:Act}{w:World}(h:c.wp P (noPan Q) a w):c.wp P Q a w:=wp_mono h fun e a w q=>by cases e<;>first|exact q|exact q.elim
theorem Xh{w:World}{base size n b:Nat}{e t:TypeId}{v:Value}{xs cs:List Value}(k:w.ownsRow base e size v n xs)(q:Blk w b cs t)(hne:e≠t):∀ g,v.ownBlock=some g→g≠b:=by
 rintro g hg rfl
 rcases k.2 with ⟨rfl,_⟩|⟨g',a1,a0,rfl,_,hh,_⟩
 ·cases hg
 ·simp only[Value.ownBlock,Option.some.injEq] at hg
  subst hg
  rw[show w.heap[g']? = _ from q] at hh
  simp only[Option.some.injEq,Obj.cells.injEq] at hh
  exact hne hh.2.1.symm
theorem Gj{w W:World}(h:B3 w W):KeepsOthers w W:=⟨h.size,fun b o hb _=>(h.block b (Array.getElem?_eq_some_iff.1 hb).1).trans hb⟩
theorem Ik{w W:World}{b:Nat}{cs:List Value}{t:TypeId}(u:Upd w b W)(k:Blk w b cs t):KeepsOthers w W:=⟨Nat.le_of_eq u.size.symm,fun d o hd ho=>(u.block d (by rintro rfl;rw[show w.heap[d]? = _ from k] at hd;cases hd;cases ho)).trans hd⟩
theorem Dfr.only_new{T:List TypeId}{a w W:World}{b:Nat}(h:Zd T a w)(hbb:BelowBut w b W)(hb:a.heap.size≤b):Zd T a W:=fun k cs t fr hk ht=>by
 have h0:=(Array.getElem?_eq_some_iff.1 hk).1
 have h1:=h k cs t fr hk ht
 rw[hbb.block k (Array.getElem?_eq_some_iff.1 h1).1 (by omega)];exact h1
theorem BelowBut.own3{w W:World}{b base size n:Nat}{e:TypeId}{v:Value}{xs:List Value}(h:BelowBut w b W)(k:w.ownsRow base e size v n xs)(hs:∀ j,v.ownBlock=some j→j≠b):W.ownsRow base e size v n xs:=by
 obtain⟨h1,h2⟩:=k
 refine⟨h1,?_⟩
 rcases h2 with h2|⟨g,a1,a0,rfl,hg,hh,r⟩
 ·exact Or.inl h2
 ·exact Or.inr ⟨g,a1,a0,rfl,hg,by rw[h.block g (Array.getElem?_eq_some_iff.1 hh).1 (hs g rfl)];exact hh,r⟩
theorem Mh{β:Type}{w:World}{b B:Nat}(hB:w.heap.size≤B):OwnFrom B (fun(_:β) W=>BelowBut w b W):=fun _ W W' a1 hs hg hr =>
 ⟨hg.os.trans hs.os,hg.tape.trans hs.tape,hg.output.trans hs.output,Nat.le_trans hs.size hg.size,fun k hk a0=>(hg.block k (Nat.lt_of_lt_of_le hk hs.size) (fun e=>by have:=(hr k e.symm).1;omega)).trans (hs.block k hk a0)⟩
theorem Va.turn{A B:World}{row:Option Nat}{l:List (Option Int)}{c:Option Int}{v:Value}(h:Va A l c v)(hg:A.grownBy B row)(hr:∀ r,row=some r→∃ o:Obj,A.heap[r]? = some o∧o.isCells=false):Va B l c v:=h.kept fun _ _ k=>k.turn hg hr
def atW (way:List Int)(pre:List (Fin way.length))(bs:List Int):List Int:=(pre.map fun j=>way[qOf j]?.getD 0).reverse++bs
theorem Zgd(way:List Int)(pre:List (Fin way.length))(x:Fin way.length)(bs:List Int):atW way (pre++[x]) bs=(way[qOf x]?.getD 0)::atW way pre bs:=by simp[atW]
theorem atW_all(way bs:List Int):atW way (List.finRange way.length) bs=way++bs:=by
 unfold atW
 congr 1
 apply List.ext_getElem
 ·simp
 ·intro i h1 h2
  simp only[List.length_reverse,List.length_map,List.length_finRange] at h1
  rw[List.getElem_reverse,List.getElem_map]
  simp only[List.length_map,List.length_finRange,List.getElem_finRange,qOf]
  have e:way.length-1-(way.length-1-i)=i:=by omega
  simp[e,h2]
theorem Va.one{w:World}{l:List (Option Int)}{c:Option Int}{v:Value}(h:Va w l c v):v.oneCell'=true:=by
 rcases h.nil_or with ⟨_,rfl⟩|⟨_,t,x,rfl⟩<;>rfl
theorem Va.iface{w:World}{l:List (Option Int)}{c:Int}{v:Value}(h:Va w l (some c) v):∃ t x,v=.iface t x:=by
 rcases h.nil_or with ⟨q,_⟩|⟨_,q⟩
 ·simp[Zem] at q
 ·exact q
theorem Qa{b c:Int}{l:List (Option Int)}:atL b l (some c)=some b::l:=by simp[atL,Zem]
theorem Zdm{v:Value}(h:v.oneCell'=true):∀ u∈[v],u.oneCell'=true:=by simpa using h
def NoteP(B bw:Nat)(c0 c1 c2 c3 c5 c6 c7 c8 c9:Value)(nf:Nat)(fs:List Value)(l:List Int)(ec:Int)(w:World)(e:Ending)(w':World):Prop :=
 ∃ u p c ty x,e=.returned u∧Below B w w'∧Zd [251,32] w w'∧Blk w' bw [c0,c1,c2,c3,.slice p (nf+1) c,c5,c6,c7,c8,c9] 251∧w'.ownsRow B 32 1 (.slice p (nf+1) c) (nf+1) (fs++[.iface ty x])∧Va w' (l.map some) (some ec) (.iface ty x)
theorem Mj(B bw:Nat)(c0 c1 c2 c3 c5 c6 c7 c9:Value)(pf:O0)(nf cf:Nat)(fs:List Value)(pw:O0)(cw:Nat)(way bs:List Int)(ec:Int)(ty:TypeId)(ev:Value)(w:World)(hBb:B≤bw)(hBw:B≤w.heap.size)(kW:Blk w bw [c0,c1,c2,c3,.slice pf nf cf,c5,c6,c7,.slice pw way.length cw,c9] 251)(hF:w.ownsRow B 32 1 (.slice pf nf cf) nf fs)(hway:w.ownsRow B 3 1 (.slice pw way.length cw) way.length (way.map V0))(hE:Va w (bs.map some) (some ec) (.iface ty ev))(hwl:way.length≤100000000)(hnf:nf≤100000000) :
 C0 204 #[P0 bw,.iface ty ev] w (NoteP B bw c0 c1 c2 c3 c5 c6 c7 (.slice pw way.length cw) c9 nf fs (way++bs) ec w):=by
 refine Qr Tryz.func204 rfl ?_
 refine Zet ⟨#[P0 bw,.iface ty ev,undef,undef,undef,undef,undef,undef,undef,undef,undef,undef,undef,undef,undef,undef,undef,undef,undef,undef,undef,undef,undef,undef,undef,undef,undef,undef],[]⟩ (by kernel_rfl) ?_
 refine wp_seq ?_
 refine wp_region_lit ?_
 refine Xx (by kernel_rfl) (Dj [.iface ty ev] rfl (by kernel_rfl) ?_)
 intro b1 W1 n1
 have d1_bw:=n1.ne kW
 have g1:=n1.ge0 (Below.refl B _)
 have r1_hF:=Zu hF n1
 have hO:Zd [251,32] w _:=(Zd.of_below n1.below)
 have hB:=blB (Below.refl B w) hBw n1.below
 replace kW:=kW.below n1.below
 replace hF:=Zb hF n1.below
 replace hway:=Zb hway n1.below
 replace hE:=hE.below n1.below
 have k1:=n1.blk
 refine wpList_nil ?_
 refine wp_seq ?_
 refine wp_seq ?_
 refine wp_region_lit ?_
 refine Yy 3 [(6,P0 bw),(7,P0 bw),(8,.pointer (some ⟨bw,8,none⟩))] (by kernel_rfl) ?_
 refine Xx (by kernel_rfl) (Xr ⟨bw,8,none⟩ (.slice pw way.length cw) rfl (by kernel_rfl) (by kernel_rfl) (kW.cell (i:=8) rfl) ?_)
 have lt2_bw:=kW.lt
 have lt2_b1:=k1.lt
 have hs2:w.heap.size≤(W1).heap.size:=hB.size
 refine Xx (by kernel_rfl) (Yd (lb:=#[]) 150 #[.slice pw way.length cw] rfl (by kernel_rfl) (fun _ _=>by kernel_rfl) (by kernel_rfl) ((Pg pw way.length cw _).mono ?_))
 rintro e W2 ⟨bk2,rfl,hb2,hg2,kk2⟩
 refine⟨_,rfl,?_⟩
 replace hO:=hO.trans (Zd.of_below hb2)
 replace hB:=blB hB hBw hb2
 replace kW:=kW.below hb2
 replace k1:=k1.below hb2
 replace hF:=Zb hF hb2
 replace hway:=Zb hway hb2
 replace hE:=hE.below hb2
 have gb2:w.heap.size≤bk2:=Nat.le_trans hs2 hg2
 have nb2_bw:bk2≠bw:=by omega
 have nb2_b1:bk2≠b1:=by omega
 refine wpList_nil ?_
 refine wp_block ?_
 have hzk:=kk2.lt
 have hz3:=k1.lt
 have hst:=Aj bk2 (fun b=>b<W2.heap.size∧b≠b1) (.slice pw way.length cw) way W2 (fun b h=>h.1) ⟨hzk,nb2_b1⟩ (by omega) (Zf hway) (fun _ b off n cap q=>by cases q;exact⟨(hway.lt b rfl).2,Xh hway k1 (by decide) b rfl⟩) (kk2.cell (i:=0) rfl)
 refine Zet ⟨#[P0 bw,.iface ty ev,undef,P0 b1,undef,undef,P0 bw,P0 bw,.pointer (some ⟨bw,8,none⟩),.slice pw way.length cw,.func (.func 209) #[] #[P0 bk2],undef,undef,undef,undef,undef,undef,undef,undef,undef,undef,undef,undef,undef,undef,undef,undef,undef],[]⟩ (by kernel_rfl) ?_
 refine Eu (g:=.tmp 10) (gf:=209) (lb:=#[P0 bk2]) rfl (enters_of Tryz.func209 (by kernel_rfl) rfl) _ (fun b h=>h.1) hst (fun _=>rfl)
  (fun pre W=>(∃ v',Blk W b1 [v'] 32∧Va W ((atW way pre bs).map some) (some ec) v')∧BelowBut W2 b1 W)
  (fun _ _ _=>False) ?own (fun _ _ _ _ _ h _ _=>h) ⟨⟨_,k1,hE⟩,(Below.refl _ _).but _⟩
  (fun x a' _=>a'={ tmps:=#[P0 bw,.iface ty ev,undef,P0 b1,undef,V0 (way[qOf x]?.getD 0),P0 bw,P0 bw,.pointer (some ⟨bw,8,none⟩),.slice pw way.length cw,.func (.func 209) #[] #[P0 bk2],V0 (qOf x:Int),V0 (way[qOf x]?.getD 0),undef,undef,undef,undef,undef,undef,undef,undef,undef,undef,undef,undef,undef,undef,undef],defers:=[] }) (fun _ _ _ _ _ _ h _ _=>h) ?assign ?body ?done (fun _ _ _ _ _ _ h _=>h.elim)
 case own=>exact OwnFrom.and (Own.from (fun s A B row hs hg hr=>by obtain⟨v',h1,h2⟩:=hs;exact⟨v',h1.turn hg hr,h2.turn hg hr⟩) _) (Mh (Nat.le_refl _))
 case assign =>
  rintro lr pre x W K hI hK
  unfold encB
  gi_wp2
  exact hK _ _ (KeepsFrom.refl _ _) (Keeps.refl _ _) hI rfl
 case body =>
  rintro lr pre x a' W hlr ⟨⟨v',m3,hv'⟩,hbb⟩ rfl hlt
  have mc:=m3.cell (i:=0) rfl
  gi_wp2_with (refine⟨trivial,?_⟩;gi_at_call 82;refine(CallsIn.inRound lr (callsIn_wide.2 (Yn _ _ _ _ _ hv'))).mono ?_;rintro e w2 ⟨r2,rfl,hb2,hE2⟩;obtain⟨t2,x2,rfl⟩:=hE2.iface;have m4:=m3.below hb2;have mg:=m4.frozen 0;have md:=m4.cell (i:=0) rfl)
  have hb2s:=hb2.size
  have u2:=Upd.setCell w2 b1 0 (.iface t2 x2)
  exact⟨((Gj hb2).trans (KeepsOthers.setCell _ _ _)).from _,Keeps.setCell (Keeps.of_below hb2 (fun b hb=>by have:=hbb.size;have:=hb.1;omega)) (fun hb=>hb.2 rfl) _,⟨_,m4.set 0 _,by rw[Zgd,List.map_cons,←Qa (c:=ec)];exact(hE2.upd u2 m4 (by decide))⟩,(hbb.next hb2).upd u2⟩
 case done =>
 rintro D xs W hD rfl ⟨⟨v',m3,hv'⟩,hbb⟩ hK0
 rw[atW_all] at hv'
 have hK:Dfr D W:=hK0;clear hK0
 refine Ou ?_
 refine Zet ⟨#[P0 bw,.iface ty ev,undef,P0 b1,undef,undef,P0 bw,P0 bw,.pointer (some ⟨bw,8,none⟩),.slice pw way.length cw,.func (.func 209) #[] #[P0 bk2],undef,undef,undef,undef,undef,undef,undef,undef,undef,undef,undef,undef,undef,undef,undef,undef,undef],[{ target:=.collected D,args:=#[] }]⟩ (by kernel_rfl) ?_
 have hv1:=hv'.one
 obtain⟨ty',x',rfl⟩:=hv'.iface
 have hDB:w.heap.size≤D:=Nat.le_trans (Nat.le_trans (by have:=hz3;have:=g1;omega) (Nat.le_refl _)) hD
 replace kW:=hbb.blk kW (Ne.symm (Ne.symm d1_bw))
 replace kk2:=hbb.blk kk2 nb2_b1
 replace hF:=hbb.own3 hF r1_hF
 replace hway:=hbb.own2 hway k1 (by decide)
 have hB0:=hB
 replace hB:=hbb.below hB (Nat.le_trans hBw g1) (Nat.le_trans hBw hB0.size)
 replace hO:=Dfr.only_new hO hbb g1
 replace k1:=m3
 replace hO:=hO.trans (Zd.of_below (Za W))
 replace hB:=blB hB hBw (Za W)
 replace kW:=kW.below (Za W)
 replace k1:=k1.below (Za W)
 replace kk2:=kk2.below (Za W)
 replace hF:=Zb hF (Za W)
 replace hway:=Zb hway (Za W)
 replace hv':=hv'.below (Za W)
 replace hK:=hK.below (Za W)
 refine h_reg (Below B (W.drew)) 13 rfl #[false,false,false,false,false,false,false,false,false,false,false,false,false] rfl (by kernel_rfl) (Below.refl _ _) ?_
 intro hS3
 have hBd5:=hB
 have kd5_bw:=kW
 have kd5_b1:=k1
 have kd5_bk2:=kk2
 have hOd5:=hO
 refine Ze7 [0,1,2,3,4] 8 rfl #[true,true,true,true,true,false,false,false,false,false,false,false,false] [(16,P0 bw),(17,P0 bw),(18,P0 bw),(19,P0 bw),(20,.pointer (some ⟨bw,4,none⟩))] (by kernel_rfl) (fun _ _ _ _ _ h=>h) (by kernel_rfl) hS3 ?_
 refine h_two 5 6 7 rfl (by kernel_rfl) rfl rfl (by kernel_rfl) (by kernel_rfl) ?_ ?_
 ·refine Xr ⟨bw,4,none⟩ (.slice pf nf cf) rfl (by kernel_rfl) (by kernel_rfl) (kW.cell (i:=4) rfl) ?_
  have hS6:Below B (W.drew) (W.drew):=hS3
  refine⟨hS6,?_⟩
  refine Kt 6 6 rfl (by kernel_rfl) rfl (by kernel_rfl) (Xr ⟨b1,0,none⟩ (.iface ty' x') rfl (by kernel_rfl) (by kernel_rfl) (k1.cell (i:=0) rfl) ?_)
  have hS7:Below B (W.drew) (W.drew):=hS6
  refine⟨hS7,?_⟩
  refine Kt 7 5 rfl (by kernel_rfl) rfl (by kernel_rfl) (Yb 32 [.iface ty' x'] rfl (by kernel_rfl) ?_)
  intro b8 W8 n8
  have d8_bw:=n8.ne kW
  have d8_b1:=n8.ne k1
  have d8_bk2:=n8.ne kk2
  have g8:=n8.ge0 hB
  have r8_hF:=Zu hF n8
  replace hO:=hO.trans (Zd.of_below n8.below)
  replace hB:=blB hB hBw n8.below
  replace kW:=kW.below n8.below
  replace k1:=k1.below n8.below
  replace kk2:=kk2.below n8.below
  replace hF:=Zb hF n8.below
  replace hway:=Zb hway n8.below
  replace hv':=hv'.below n8.below
  replace hK:=hK.below n8.below
  have k8:=n8.blk
  have hS9:Below B (W.drew) (W8):=blB hS7 (Nat.le_trans hBw hBd5.size) n8.below
  refine⟨hS9,?_⟩
  refine Kt 8 4 rfl (by kernel_rfl) rfl (by kernel_rfl) (Xd (e:=32) (n:=nf) (xs:=fs) (m:=1) (news:=[.iface ty' x']) (.nilIface) 1 16 (nf+1) (fs++[.iface ty' x']) rfl Tryz.underlying106 (by kernel_rfl) rfl (by decide) (by kernel_rfl) hF (by kernel_rfl) (k8.sl 1 1 (by decide) (by decide)) rfl (Zdm hv1) (by unfold maxLen;omega) (by omega) (Nat.le_trans hBw hB.size) (by simp) (by simp) ?_)
  intro p10 c10 W10 o10 hg10 hb10
  replace hO:=hO.trans (Zd.of_grown hg10 hF (by decide))
  replace kW:=kW.grown hg10 hF (by decide)
  replace k1:=k1.grown3 hg10 r1_hF
  replace kk2:=kk2.grown hg10 hF (by decide)
  replace hway:=Zr hway hg10 hF (by decide)
  replace hv':=hv'.grown hg10 hF (by decide)
  replace hK:=hK.grown hg10 hF
  replace hB:=hB.trans hb10
  have hS11:Below B (W.drew) (W10):=hS9.trans hb10
  refine⟨hS11,?_⟩
  refine Ze7 [9,10,11] 1 rfl #[true,true,true,true,true,true,true,true,true,true,true,true,false] [(25,P0 bw),(26,P0 bw),(27,.pointer (some ⟨bw,4,none⟩))] (by kernel_rfl) (fun _ _ _ _ _ h=>h) (by kernel_rfl) hS11 ?_
  refine Kt 12 0 rfl (by kernel_rfl) rfl (by kernel_rfl) (Xf (v:=.slice p10 (nf+1) c10) (b:=bw) (off:=4) rfl (by kernel_rfl) (by kernel_rfl) (by kernel_rfl) rfl kW (by first|decide|simp) ?_)
  intro W12 u12 k12
  change Blk _ _ [c0,c1,c2,c3,.slice p10 (nf+1) c10,c5,c6,c7,.slice pw way.length cw,c9] _ at k12
  replace hO:=hO.trans (Zd.of_upd u12 kW (by decide))
  replace hB:=u12.below hB hBb
  replace k1:=u12.blk k1 (Ne.symm d1_bw)
  replace kk2:=u12.blk kk2 nb2_bw
  replace hway:=u12.own2 hway kW (by decide)
  replace hv':=hv'.upd u12 kW (by decide)
  replace hK:=hK.upd u12 kW
  replace o10:=u12.own2 o10 kW (by decide)
  have hS13:Below B (W.drew) (W12):=u12.below hS11 hBb
  refine⟨hS13,?_⟩
  refine Nq _ (by kernel_rfl) ?_
  exact Aw hK (.tuple #[]) (by kernel_rfl) (by kernel_rfl) ⟨_,_,_,_,_,rfl,(Upd.of_put _ _ _).below hB (Nat.le_trans hBw hDB),Zd.upd_new hO (Upd.of_put _ _ _) hDB,(Upd.of_put _ _ _).blk k12 (hK.ne k12),(Upd.of_put _ _ _).own3 o10 (hK.row o10),hv'.kept fun _ _ q=>(Upd.of_put _ _ _).blk q (hK.ne q)⟩
 ·refine Xr ⟨b1,0,none⟩ (.iface ty' x') rfl (by kernel_rfl) (by kernel_rfl) (k1.cell (i:=0) rfl) ?_
  have hS14:Below B (W.drew) (W.drew):=hS3
  refine⟨hS14,?_⟩
  refine h_two 5 7 6 rfl (by kernel_rfl) rfl rfl (by kernel_rfl) (by kernel_rfl) ?_ ?_
  ·refine Xr ⟨bw,4,none⟩ (.slice pf nf cf) rfl (by kernel_rfl) (by kernel_rfl) (kW.cell (i:=4) rfl) ?_
   have hS15:Below B (W.drew) (W.drew):=hS14
   refine⟨hS15,?_⟩
   refine Kt 7 5 rfl (by kernel_rfl) rfl (by kernel_rfl) (Yb 32 [.iface ty' x'] rfl (by kernel_rfl) ?_)
   intro b16 W16 n16
   have d16_bw:=n16.ne kW
   have d16_b1:=n16.ne k1
   have d16_bk2:=n16.ne kk2
   have g16:=n16.ge0 hB
   have r16_hF:=Zu hF n16
   replace hO:=hO.trans (Zd.of_below n16.below)
   replace hB:=blB hB hBw n16.below
   replace kW:=kW.below n16.below
   replace k1:=k1.below n16.below
   replace kk2:=kk2.below n16.below
   replace hF:=Zb hF n16.below
   replace hway:=Zb hway n16.below
   replace hv':=hv'.below n16.below
   replace hK:=hK.below n16.below
   have k16:=n16.blk
   have hS17:Below B (W.drew) (W16):=blB hS15 (Nat.le_trans hBw hBd5.size) n16.below
   refine⟨hS17,?_⟩
   refine Kt 8 4 rfl (by kernel_rfl) rfl (by kernel_rfl) (Xd (e:=32) (n:=nf) (xs:=fs) (m:=1) (news:=[.iface ty' x']) (.nilIface) 1 16 (nf+1) (fs++[.iface ty' x']) rfl Tryz.underlying106 (by kernel_rfl) rfl (by decide) (by kernel_rfl) hF (by kernel_rfl) (k16.sl 1 1 (by decide) (by decide)) rfl (Zdm hv1) (by unfold maxLen;omega) (by omega) (Nat.le_trans hBw hB.size) (by simp) (by simp) ?_)
   intro p18 c18 W18 o18 hg18 hb18
   replace hO:=hO.trans (Zd.of_grown hg18 hF (by decide))
   replace kW:=kW.grown hg18 hF (by decide)
   replace k1:=k1.grown3 hg18 r1_hF
   replace kk2:=kk2.grown hg18 hF (by decide)
   replace hway:=Zr hway hg18 hF (by decide)
   replace hv':=hv'.grown hg18 hF (by decide)
   replace hK:=hK.grown hg18 hF
   replace hB:=hB.trans hb18
   have hS19:Below B (W.drew) (W18):=hS17.trans hb18
   refine⟨hS19,?_⟩
   refine Ze7 [9,10,11] 1 rfl #[true,true,true,true,true,true,true,true,true,true,true,true,false] [(25,P0 bw),(26,P0 bw),(27,.pointer (some ⟨bw,4,none⟩))] (by kernel_rfl) (fun _ _ _ _ _ h=>h) (by kernel_rfl) hS19 ?_
   refine Kt 12 0 rfl (by kernel_rfl) rfl (by kernel_rfl) (Xf (v:=.slice p18 (nf+1) c18) (b:=bw) (off:=4) rfl (by kernel_rfl) (by kernel_rfl) (by kernel_rfl) rfl kW (by first|decide|simp) ?_)
   intro W20 u20 k20
   change Blk _ _ [c0,c1,c2,c3,.slice p18 (nf+1) c18,c5,c6,c7,.slice pw way.length cw,c9] _ at k20
   replace hO:=hO.trans (Zd.of_upd u20 kW (by decide))
   replace hB:=u20.below hB hBb
   replace k1:=u20.blk k1 (Ne.symm d1_bw)
   replace kk2:=u20.blk kk2 nb2_bw
   replace hway:=u20.own2 hway kW (by decide)
   replace hv':=hv'.upd u20 kW (by decide)
   replace hK:=hK.upd u20 kW
   replace o18:=u20.own2 o18 kW (by decide)
   have hS21:Below B (W.drew) (W20):=u20.below hS19 hBb
   refine⟨hS21,?_⟩
   refine Nq _ (by kernel_rfl) ?_
   exact Aw hK (.tuple #[]) (by kernel_rfl) (by kernel_rfl) ⟨_,_,_,_,_,rfl,(Upd.of_put _ _ _).below hB (Nat.le_trans hBw hDB),Zd.upd_new hO (Upd.of_put _ _ _) hDB,(Upd.of_put _ _ _).blk k20 (hK.ne k20),(Upd.of_put _ _ _).own3 o18 (hK.row o18),hv'.kept fun _ _ q=>(Upd.of_put _ _ _).blk q (hK.ne q)⟩
  ·refine Yb 32 [.iface ty' x'] rfl (by kernel_rfl) ?_
   intro b22 W22 n22
   have d22_bw:=n22.ne kW
   have d22_b1:=n22.ne k1
   have d22_bk2:=n22.ne kk2
   have g22:=n22.ge0 hB
   have r22_hF:=Zu hF n22
   replace hO:=hO.trans (Zd.of_below n22.below)
   replace hB:=blB hB hBw n22.below
   replace kW:=kW.below n22.below
   replace k1:=k1.below n22.below
   replace kk2:=kk2.below n22.below
   replace hF:=Zb hF n22.below
   replace hway:=Zb hway n22.below
   replace hv':=hv'.below n22.below
   replace hK:=hK.below n22.below
   have k22:=n22.blk
   have hS23:Below B (W.drew) (W22):=blB hS14 (Nat.le_trans hBw hBd5.size) n22.below
   refine⟨hS23,?_⟩
   refine Kt 5 5 rfl (by kernel_rfl) rfl (by kernel_rfl) (Xr ⟨bw,4,none⟩ (.slice pf nf cf) rfl (by kernel_rfl) (by kernel_rfl) (kW.cell (i:=4) rfl) ?_)
   have hS24:Below B (W.drew) (W22):=hS23
   refine⟨hS24,?_⟩
   refine Kt 8 4 rfl (by kernel_rfl) rfl (by kernel_rfl) (Xd (e:=32) (n:=nf) (xs:=fs) (m:=1) (news:=[.iface ty' x']) (.nilIface) 1 16 (nf+1) (fs++[.iface ty' x']) rfl Tryz.underlying106 (by kernel_rfl) rfl (by decide) (by kernel_rfl) hF (by kernel_rfl) (k22.sl 1 1 (by decide) (by decide)) rfl (Zdm hv1) (by unfold maxLen;omega) (by omega) (Nat.le_trans hBw hB.size) (by simp) (by simp) ?_)
   intro p25 c25 W25 o25 hg25 hb25
   replace hO:=hO.trans (Zd.of_grown hg25 hF (by decide))
   replace kW:=kW.grown hg25 hF (by decide)
   replace k1:=k1.grown3 hg25 r1_hF
   replace kk2:=kk2.grown hg25 hF (by decide)
   replace hway:=Zr hway hg25 hF (by decide)
   replace hv':=hv'.grown hg25 hF (by decide)
   replace hK:=hK.grown hg25 hF
   replace hB:=hB.trans hb25
   have hS26:Below B (W.drew) (W25):=hS24.trans hb25
   refine⟨hS26,?_⟩
   refine Ze7 [9,10,11] 1 rfl #[true,true,true,true,true,true,true,true,true,true,true,true,false] [(25,P0 bw),(26,P0 bw),(27,.pointer (some ⟨bw,4,none⟩))] (by kernel_rfl) (fun _ _ _ _ _ h=>h) (by kernel_rfl) hS26 ?_
   refine Kt 12 0 rfl (by kernel_rfl) rfl (by kernel_rfl) (Xf (v:=.slice p25 (nf+1) c25) (b:=bw) (off:=4) rfl (by kernel_rfl) (by kernel_rfl) (by kernel_rfl) rfl kW (by first|decide|simp) ?_)
   intro W27 u27 k27
   change Blk _ _ [c0,c1,c2,c3,.slice p25 (nf+1) c25,c5,c6,c7,.slice pw way.length cw,c9] _ at k27
   replace hO:=hO.trans (Zd.of_upd u27 kW (by decide))
   replace hB:=u27.below hB hBb
   replace k1:=u27.blk k1 (Ne.symm d1_bw)
   replace kk2:=u27.blk kk2 nb2_bw
   replace hway:=u27.own2 hway kW (by decide)
   replace hv':=hv'.upd u27 kW (by decide)
   replace hK:=hK.upd u27 kW
   replace o25:=u27.own2 o25 kW (by decide)
   have hS28:Below B (W.drew) (W27):=u27.below hS26 hBb
   refine⟨hS28,?_⟩
   refine Nq _ (by kernel_rfl) ?_
   exact Aw hK (.tuple #[]) (by kernel_rfl) (by kernel_rfl) ⟨_,_,_,_,_,rfl,(Upd.of_put _ _ _).below hB (Nat.le_trans hBw hDB),Zd.upd_new hO (Upd.of_put _ _ _) hDB,(Upd.of_put _ _ _).blk k27 (hK.ne k27),(Upd.of_put _ _ _).own3 o25 (hK.row o25),hv'.kept fun _ _ q=>(Upd.of_put _ _ _).blk q (hK.ne q)⟩
end Go.Proofs.YtceeiinepijokaaGreat
namespace Go.Proofs.YtceeiinepijokaaGreat
set_option maxHeartbeats 8000000
set_option maxRecDepth 100000
open Go.RowKit Go.Extern.Stop Go.Stop Go.Extern
set_option linter.unusedVariables false
attribute [local irreducible] wpList wpAnyH Code.wp Oper.wp Go
def Vj(l:List Int)(x:Int):Bool:=l.any fun y=>decide (x=y)
theorem hasI_true{l:List Int}{x:Int}{i:Nat}(hi:i<l.length)(h:x=l.getD i 0):Vj l x=true:=by
 unfold Vj
 rw[List.any_eq_true]
 exact⟨l[i],List.getElem_mem _,by rw[decide_eq_true_iff,h];simp[hi]⟩
theorem hasI_false{l:List Int}{x:Int}(h:∀ j,j<l.length→x≠l.getD j 0):Vj l x=false:=by
 unfold Vj
 rw[List.any_eq_false]
 intro y hy
 obtain⟨j,hj,rfl⟩:=List.getElem_of_mem hy
 have:=h j hj
 simpa [hj] using this
theorem indexI(a:O0)(c:Nat)(l:List Int)(x:Int)(w:World)(h:Ints w (.slice a l.length c) l)(hln:l.length≤1000000) :
 C0 246 #[.slice a l.length c,V0 x] w (fun e w'=>(Vj l x=false∧e=.returned (V0 (-1))∧B3 w w')∨(Vj l x=true∧∃ i:Nat,e=.returned (V0 (i:Int))∧B3 w w')):=by
 refine zin 19 Tryz.func246 ?_
 have hB:=Below.refl w.heap.size w
 refine zl 14 19 (fun zm a2 V=>∃ (i:Nat),a2=[(0,.slice a l.length c),(1,V0 x),(7,V0 (l.length:Int)),(8,V0 (i:Int))]∧zm=l.length-((i:Int)).toNat∧B3 w V∧i≤l.length∧(∀ j,j<i→x≠l.getD j 0)) ⟨0,rfl,rfl,hB,Nat.zero_le _,?_⟩ ?_
 ·exact fun j hj=>absurd hj (by omega)
 rintro _ _ W1 ⟨i,rfl,rfl,a0,hi,hz⟩ J1 a1 r1
 refine xid 6 ((i:Int)<(l.length:Int)) (fun a3=>?_) (fun a3=>?_)
 ·refine xx 15 _ l.length i 1 (Ints.elem h (k:=i) (by omega)).1 ?_
  refine xl 0 ((Ints.elem (h.below a0) (k:=i) (by omega)).2) ?_
  refine xie 3 x (l.getD i 0) (fun a4=>?_) (fun a4=>?_)
  ·exact xe 12 (V0 (i:Int)) (.inr ⟨hasI_true (i:=i) (by omega) (by omega),_,rfl,a0⟩)
  refine xwm 4 ((i:Int)+1) (↑(i+1):Int) ?_
  exact ze 2 (a1 _ _ _ ⟨i+1,rfl,rfl,a0,by omega,fun j hj=>(Nat.lt_or_ge j i).elim (hz j) (fun q=>by obtain rfl:j=i:=(by omega);omega)⟩ (by omega))
 exact xe 11 (V0 (-1)) (.inl ⟨hasI_false (fun j hj=>hz j (by omega)),rfl,a0⟩)
theorem containsI(a:O0)(c:Nat)(l:List Int)(x:Int)(w:World)(h:Ints w (.slice a l.length c) l)(hln:l.length≤1000000) :
 C0 234 #[.slice a l.length c,V0 x] w (Ret (.bool (Vj l x)) w):=by
 refine zin 9 Tryz.func234 ?_
 refine xc 9 (args:=#[.slice a l.length c,V0 x]) (indexI a c l x _ (h.below (B4 w)) hln) ?_
 rintro e W1 a1
 rcases a1 with ⟨hz,rfl,a0⟩|⟨hz,i0,rfl,a0⟩
 ·refine xe 5 (.bool false) ?_
  rw[hz];exact⟨rfl,a0⟩
 refine xe 5 (.bool (decide ((i0:Int)≥(0:Int)))) ?_
 rw[hz,show decide ((i0:Int)≥(0:Int))=true from decide_eq_true (by omega)];exact⟨rfl,a0⟩
end Go.Proofs.YtceeiinepijokaaGreat
namespace Go.Proofs.YtceeiinepijokaaGreat
set_option maxHeartbeats 8000000
set_option maxRecDepth 100000
open Go.RowKit
set_option linter.unusedVariables false
attribute [local go_sem] Oper.semAt_some
def Qw(hi:Int)(l:List Int):List (Int×Int):=(List.range l.length).map (Xt hi l)
def Hp(hi:Int)(l:List Int)(cs:List Value)(x:Fin l.length):List Value :=
 (cs.set (qOf x*2) (V0 (Xt hi l (qOf x)).1)).set (qOf x*2+1) (V0 (Xt hi l (qOf x)).2)
def outC(hi:Int)(l:List Int)(pre:List (Fin l.length)):List Value:=pre.foldl (Hp hi l) (Kv [V0 0,V0 0] l.length)
theorem outC_snoc(hi:Int)(l:List Int)(pre:List (Fin l.length))(x:Fin l.length):outC hi l (pre++[x])=Hp hi l (outC hi l pre) x:=by simp[outC]
theorem Nv(hi:Int)(l:List Int):∀ (pre:List (Fin l.length)) (cs:List Value),(pre.foldl (Hp hi l) cs).length=cs.length
 | [],_=>rfl
 | x::pre,cs=>by rw[List.foldl_cons,Nv hi l pre];simp[Hp]
theorem Rg(hi:Int)(l:List Int)(pre:List (Fin l.length)):(outC hi l pre).length=l.length*2:=by
 rw[outC,Nv,Cv];rfl
theorem Su(hi:Int)(l:List Int)(q:Nat)(hq:q<l.length):∀ (pre:List (Fin l.length)) (cs:List Value),cs.length=l.length*2 →
  ((∃ x∈pre,qOf x=q)∨(cs[q*2]? = some (V0 (Xt hi l q).1)∧cs[q*2+1]? = some (V0 (Xt hi l q).2))) →
  (pre.foldl (Hp hi l) cs)[q*2]? = some (V0 (Xt hi l q).1)∧(pre.foldl (Hp hi l) cs)[q*2+1]? = some (V0 (Xt hi l q).2)
 | [],cs,hl,h=>by
  rcases h with ⟨x,hx,_⟩|h
  ·cases hx
  ·exact h
 | x::pre,cs,hl,h=>by
  rw[List.foldl_cons]
  refine Su hi l q hq pre _ (by simp[Hp,hl]) ?_
  by_cases hx:qOf x=q
  ·subst hx
   refine .inr ⟨?_,?_⟩
   ·simp only[Hp];rw[List.getElem?_set_ne (by omega),List.getElem?_set_self (by omega)]
   ·simp only[Hp];rw[List.getElem?_set_self (by simp;omega)]
  ·rcases h with ⟨y,hy,a0⟩|h
   ·rcases List.mem_cons.1 hy with rfl|hy
    ·exact absurd a0 hx
    ·exact .inl ⟨y,hy,a0⟩
   ·refine .inr ⟨?_,?_⟩
    ·simp only[Hp];rw[List.getElem?_set_ne (by omega),List.getElem?_set_ne (by omega)];exact h.1
    ·simp only[Hp];rw[List.getElem?_set_ne (by omega),List.getElem?_set_ne (by omega)];exact h.2
theorem outC_all(hi:Int)(l:List Int):outC hi l (List.finRange l.length)=Wx (Qw hi l):=by
 have hs:(Qw hi l).length=l.length:=by simp[Qw]
 have hg:∀ q,q<l.length→(Qw hi l)[q]? = some (Xt hi l q):=fun q hq=>by simp[Qw,hq]
 apply List.ext_getElem?
 intro j
 by_cases hj:j<l.length*2
 ·have hq:j/2<l.length:=by omega
  have h:=Su hi l (j/2) hq (List.finRange l.length) (Kv [V0 0,V0 0] l.length) (by rw[Cv];rfl)
   (.inl ⟨⟨l.length-1-j/2,by omega⟩,by simp,by simp only[qOf];omega⟩)
  by_cases h2:j%2=0
  ·have e:j=j/2*2:=by omega
   rw[e,Cr,hg _ hq];exact h.1
  ·have e:j=j/2*2+1:=by omega
   rw[e,Zbb,hg _ hq];exact h.2
 ·rw[List.getElem?_eq_none (by rw[Rg];omega),List.getElem?_eq_none (by rw[Dh,hs];omega)]
def Zbk(lo hi:Int)(l:List Int):List (Int×Int):=if Kq lo hi l=0 then Qw hi l else []
theorem Tryz.info254:(Tryz.prog.info? 254).map (fun i=>(i.zero,i.size,i.bytes))=some (some (.agg #[V0 0,V0 0]),2,16):=by kernel_rfl
theorem Zeb(lo hi:Int)(v:Value)(l:List Int)(w:World)(hlen:l.length≤1000000)(hl:Ints w v l) :
 C0 207 #[spanV lo hi,v] w (Vo (fun w' r=>Pairs w' r (Zbk lo hi l)∧(Kq lo hi l=0→∃ g,r=.slice (S1 g) l.length l.length∧w.heap.size≤g∧Blk w' g (Wx (Qw hi l)) 254)) w):=by
 obtain⟨i0,b3,a8,a6,b5⟩:=info_parts Tryz.info254
 have b8:=fun w=>Ih (P:=Tryz.prog) (t:=317) (e:=254) (i:=i0) [V0 0,V0 0] Tryz.underlying317 b3 a8 rfl a6 b5 l.length (by omega) (by omega) w
 clear b3 a8 a6 b5
 unfold spanV
 refine Qr Tryz.func207 rfl ?_
 simp only[Tryz.ntmps207,List.size_toArray,List.length_cons,List.length_nil,Nat.reduceAdd,Nat.reduceSub,Array.replicate_succ,Array.replicate_zero,List.push_toArray,List.append_toArray,List.nil_append,List.cons_append]
 go_wp2_with fail
 refine(Rb lo hi v l _ (hl.below (blx _ _))).mono ?_
 rintro e w' ⟨rfl,hb⟩
 have k0:=Blk.below (Blk.new w [V0 lo,V0 hi] 254) hb
 have hB:B3 w w':=bln (blx _ _) hb
 have a9:=hl.below hB
 have HB:l.length≠0→∀ {b a7 n a5:Nat},v=.slice (some ⟨b,a7,none⟩) n a5→b<w.heap.size:=fun h _ _ _ _ e=>hl.blk h e
 clear hb hl
 obtain⟨a,c,rfl⟩:=a9.slice
 have z0:=k0.lt
 have d2:=k0.cell (i:=0) rfl
 have c4:=k0.cell (i:=1) rfl
 by_cases hf:Kq lo hi l=0
 case neg =>
  have b6:(Kq lo hi l != 0)=true:=by simpa using hf
  have HF:=Lib.hid hf;clear hf
  go_wp2_with fail
  refine⟨_,results_tmp rfl _ _ _,?_⟩
  have e:Zbk lo hi l=[]:=by simp[Zbk,HF.out]
  rw[e]
  exact⟨_,rfl,hB,.inl ⟨_,_,rfl,rfl,rfl⟩,fun q=>absurd q HF.out⟩
 have b6:(Kq lo hi l != 0)=false:=by simpa using hf
 have HF:=Lib.hid hf;clear hf
 go_wp2_with fail
 refine(span_each lo hi a l.length c _).mono ?_
 rintro e W1 ⟨rfl,a0⟩
 have hz:w'.heap.size+4=W1.heap.size:=by rw[a0];simp
 have b2:Below w'.heap.size w' W1:=by rw[a0];exact bln (bln (bln (blx _ _) (blx _ _)) (blx _ _)) (blx _ _)
 have s1:W1.cell? ⟨w'.heap.size+1+1,1,none⟩=some (V0 hi):=by rw[a0];simp[go_sem]
 have s2:W1.cell? ⟨w'.heap.size+1+1+1,0,none⟩=some (.slice a l.length c):=by rw[a0];simp[go_sem]
 have m1:Blk W1 w'.heap.size (Kv [V0 0,V0 0] l.length) 254:=by rw[a0];exact(((Blk.new w' _ _).alloc _).alloc _).alloc _
 have m2:Blk W1 (w'.heap.size+1) [.slice (some ⟨w'.heap.size,0,none⟩) l.length l.length] 317:=by
  rw[a0];have:=((Blk.new (w'.alloc (.cells (Kv [V0 0,V0 0] l.length).toArray 254)) [.slice (some ⟨w'.heap.size,0,none⟩) l.length l.length] 317).alloc (.cells #[V0 lo,V0 hi] 254)).alloc (.cells #[.slice a l.length c] 35)
  simpa using this
 have a3:=bln hB b2
 have c1:=a9.below b2
 have c0:=each_stops (w'.heap.size+1+1) (w'.heap.size+1+1+1) (fun b=>b<W1.heap.size∧b≠w'.heap.size) hi (.slice a l.length c) l W1 (fun b h=>h.1) (by omega) (by omega) (by omega) c1 ?hvp s1 s2
 case hvp=>exact fun h b a7 n' a5 e=>by have:=HB h e;have:=a3.size;exact⟨by omega,by omega⟩
 clear a0 s1 s2 b8
 go_wp2_with fail
 refine Eu (g:=.tmp 17) (gf:=249) (lb:=#[.pointer (some ⟨w'.heap.size+1+1,0,none⟩),.pointer (some ⟨w'.heap.size+1+1+1,0,none⟩)]) rfl (enters_of Tryz.func249 (by kernel_rfl) rfl) _ (fun b h=>h.1) c0 (fun _=>rfl)
  (fun a1 W=>(Blk W w'.heap.size (outC hi l a1) 254∧Blk W (w'.heap.size+1) [.slice (some ⟨w'.heap.size,0,none⟩) l.length l.length] 317)∧(B3 w W∧W1.heap.size≤W.heap.size))
  (fun _ _ _=>False) ?own (fun _ _ _ _ _ h _ _=>h) ⟨⟨m1,m2⟩,a3,Nat.le_refl _⟩
  (fun x a' W=>∃ Bx,W1.heap.size≤Bx∧Blk W Bx [V0 (Xt hi l (qOf x)).1,V0 (Xt hi l (qOf x)).2] 254 ∧
   a'={ tmps:=#[.agg #[V0 lo,V0 hi],.slice a l.length c,.pointer (some ⟨w.heap.size,0,none⟩),undef,S0,.pointer (some ⟨w'.heap.size+1,0,none⟩),V0 (qOf x:Int),P0 Bx,.agg #[V0 lo,V0 hi],.slice a l.length c,V0 (Kq lo hi l),.bool false,.slice a l.length c,V0 l.length,.slice (some ⟨w'.heap.size,0,none⟩) l.length l.length,.agg #[V0 lo,V0 hi],.slice a l.length c,.func (.func 249) #[] #[.pointer (some ⟨w'.heap.size+1+1,0,none⟩),.pointer (some ⟨w'.heap.size+1+1+1,0,none⟩)],V0 (qOf x:Int),spanV (Xt hi l (qOf x)).1 (Xt hi l (qOf x)).2,undef,undef,undef,undef,undef],defers:=[] }) ?ownax ?assign ?body ?done ?stop
 case own=>exact OwnFrom.and (Own.from (fun s A B c3 hs hg hr=>⟨hs.1.turn hg hr,hs.2.turn hg hr⟩) _) (OwnFrom.and (ownFrom_below (Nat.le_refl _) a3.size) Zcp)
 case ownax=>exact fun x a'=>Own.from (fun s A B c3 hs hg hr=>by obtain⟨Bx,h1,h2,h3⟩:=hs;exact⟨Bx,h1,h2.turn hg hr,h3⟩) _
 case assign =>
  rintro lr a1 x W K ⟨⟨h1,h2⟩,a2,a4⟩ hK
  unfold encE
  gi_wp2
  exact hK _ _ ((KeepsOthers.alloc _ _).from _) (Keeps.of_below (blx W _) (fun b hb=>by have:=hb.1;omega)) ⟨⟨h1.alloc _,h2.alloc _⟩,bln a2 (blx _ _),by simp;omega⟩ ⟨W.heap.size,a4,Blk.new W _ _,rfl⟩
 case body =>
  rintro lr a1 x a' W c7 ⟨⟨h1,h2⟩,a2,a4⟩ ⟨Bx,c6,hx,rfl⟩ b4
  have d0:=hx.cell (i:=0) rfl
  have d3:=hx.cell (i:=1) rfl
  have ci:=h2.cell (i:=0) rfl
  have hq:qOf x<l.length:=by have:=x.2;simp only[qOf];omega
  have b7:=Rg hi l a1
  obtain⟨u0,b0⟩:∃ u0,(outC hi l a1)[qOf x*2]? = some u0:=⟨_,List.getElem?_eq_getElem (by omega)⟩
  obtain⟨u1,b1⟩:∃ u1,(outC hi l a1)[qOf x*2+1]? = some u1:=⟨_,List.getElem?_eq_getElem (by omega)⟩
  have c9:=h1.cell b0
  have d1:=h1.cell b1
  have c8:=h1.frozen (qOf x*2)
  have c5:=h1.frozen (qOf x*2+1)
  clear b0 b1 b7
  gi_wp2
  refine⟨((KeepsOthers.setCell _ _ _).trans (KeepsOthers.setCell _ _ _)).from _,((Keeps.refl _ W).setCell (by simp) _).setCell (by simp) _,⟨by rw[outC_snoc];exact(h1.set _ _).set _ _,(h2.other (by simp) _).other (by simp) _⟩,(a2.setCell (Nat.le_of_lt z0) _).setCell (Nat.le_of_lt z0) _,by simpa [World.setCell] using a4⟩
 case done =>
  rintro D xs W hD rfl ⟨⟨h1,h2⟩,a2,a4⟩ hK
  have ci:=h2.cell (i:=0) rfl
  have b4:D<W.heap.size:=(Array.getElem?_eq_some_iff.1 hK).1
  rw[outC_all] at h1
  have hs:(Qw hi l).length=l.length:=by simp[Qw]
  have hR:Pairs (W.putObj D (.deferred none)) (.slice (some ⟨w'.heap.size,0,none⟩) l.length l.length) (Qw hi l):=by
   have b9:=h1.put hK rfl (.deferred none)
   exact .inr ⟨_,0,l.length,by rw[hs],by omega,by unfold maxLen;omega,fun j x hj=>by rw[Nat.zero_add];exact b9.cell hj⟩
  have HR:=Lib.hid hR
  have c2:=Lib.hid (h1.put hK rfl (.deferred none))
  clear hR h1 hs
  go_wp2_with fail
  refine⟨by simp,.inl ⟨_,_,rfl,run_takeDeferred hK,_,results_tmp rfl _ _ _,?_⟩⟩
  have e:Zbk lo hi l=Qw hi l:=by simp[Zbk,HF.out]
  rw[e]
  exact⟨_,rfl,below_put a2 (by have:=a3.size;omega) b4 _,HR.out,fun _=>⟨_,rfl,hB.size,c2.out⟩⟩
 case stop=>exact fun _ _ _ _ _ _ h _=>h.elim
end Go.Proofs.YtceeiinepijokaaGreat
namespace Go.Proofs.YtceeiinepijokaaGreat
set_option maxHeartbeats 8000000
set_option maxRecDepth 100000
open Go.RowKit Go.Extern.Stop Go.Stop Go.Extern
set_option linter.unusedVariables false
attribute [local irreducible] wpList wpAnyH Code.wp Oper.wp Go
def Yk(l:Bl)(way:List Int)(no tree lo hi deep:Int):Int :=
 if Vj way no=true then 11 else if 16≤way.length then 10 else if Xc l no tree≠0 then Xc l no tree else if Kq lo hi (Vt (inB l no) (Zt (inB l no)))≠0 then 9 else
  if Xp (inB l no)=true∧deep≠0∧deep≠((way.length+1:Nat):Int) then 10 else 0
def LookP(B bw:Nat)(cs:List Value)(l:Bl)(way:List Int)(no tree lo hi deep:Int)(w:World)(e:Ending)(w':World):Prop :=
 Below B w w'∧Zd [251] w w'∧Blk w' bw cs 251 ∧
 ((Yk l way no tree lo hi deep≠0∧∃ a4 b4 k4 n4 c4 v4 m4 d4 ty x,e=.returned (.tuple #[.agg #[V0 a4,.bool b4,.slice k4 n4 c4,.slice v4 m4 d4],.iface ty x])∧Va w' [some no] (some (Yk l way no tree lo hi deep)) (.iface ty x)) ∨
  (Yk l way no tree lo hi deep=0∧Xc l no tree=0∧∃ kp kc vp vc,e=.returned (.tuple #[.agg #[V0 (Qm (inB l no)),.bool (Xp (inB l no)),.slice kp (Zt (inB l no)) kc,.slice vp (Zt (inB l no)) vc],.nilIface]) ∧
   w'.ownsRow w.heap.size 3 1 (.slice kp (Zt (inB l no)) kc) (Zt (inB l no)) ((Vt (inB l no) (Zt (inB l no))).map V0)∧w'.ownsRow w.heap.size 9 1 (.slice vp (Zt (inB l no)) vc) (Zt (inB l no)) ((Hz (inB l no) (Zt (inB l no))).map sv)))
theorem Iv{w:World}{v:Value}{n:Nat}{l:List Int}(h:Sl w v n (l.map V0))(hl:l.length=n):Ints w v l:=by subst hl;exact h
theorem Zea(B Bi b bw:Nat)(p:O0)(n c:Nat)(l:Bl)(c0 c1 c4 c7 c9:Value)(pw:O0)(cw:Nat)(way:List Int)(no tree lo hi deep looked:Int)(w:World)(hBb:B≤bw)(hBw:B≤w.heap.size)(kW:Blk w bw [c0,c1,V0 deep,V0 looked,c4,P0 b,V0 tree,c7,.slice pw way.length cw,c9] 251)(hway:w.ownsRow B 3 1 (.slice pw way.length cw) way.length (way.map V0))(hI:ImgR Bi b p n c l w)(hwl:way.length≤1000000)(hl0:0≤looked)(hl1:looked<9223372036854775807) :
 C0 205 #[P0 bw,V0 no,.agg #[V0 lo,V0 hi]] w (LookP B bw [c0,c1,V0 deep,V0 (looked+1),c4,P0 b,V0 tree,c7,.slice pw way.length cw,c9] l way no tree lo hi deep w):=by
 refine zin 97 Tryz.func205 ?_
 refine xa 2 [V0 lo,V0 hi] 254 fun b1 W1 n1=>?_
 refine xa 0 [V0 0,.bool false,S0,S0] 183 fun b2 W2 n2=>?_
 have a3:=(kW.below n1.below).below n2.below
 refine xb 9 3 a3 ?_
 refine xw 0 (looked+1) ?_
 refine xs 3 a3 [c0,c1,V0 deep,V0 (looked+1),c4,P0 b,V0 tree,c7,.slice pw way.length cw,c9] fun W3 u3 k3=>?_
 refine xb 8 8 k3 ?_
 have g7:=u3.own2 (Zb (Zb hway n1.below) n2.below) a3 (by decide)
 refine xr 1 (args:=#[.slice pw way.length cw,V0 no]) (containsI pw cw way no _ (Zf g7) hwl) fun W4 a9=>?_
 refine xi 2 (Vj way no) (fun u1=>?_) (fun u1=>?_)
 ·refine xc 5 (args:=#[V0 no,.iface 89 (V0 11)]) (Yn no (some 11) [] _ _ rfl) ?_
  rintro _ W6 ⟨r6,rfl,o4,r0⟩
  rw[Qa] at r0
  obtain⟨t6,x6,rfl⟩:=r0.iface
  have k2:=((u3.blkT n2.blk a3 (by decide)).below a9).below o4
  refine xsv 0 k2 [V0 0,.bool false,S0,S0] fun W7 u7 k7=>?_
  have g2:=n2.ge0 (blB (Below.refl B w) hBw n1.below)
  have hB:=u7.below (blB (blB (u3.below (blB (blB (Below.refl B w) hBw n1.below) hBw n2.below) hBb) hBw a9) hBw o4) (Nat.le_trans hBw g2)
  have hO:=(Zd.upd_new (((((show Zd [251] w _ from(Zd.of_below n1.below)).trans (Zd.of_below n2.below)).trans (Zd.of_upd u3 a3 (by decide))).trans (Zd.of_below a9)).trans (Zd.of_below o4)) u7 g2)
  have s6:=u7.blkT ((k3.below a9).below o4) k2 (by decide)
  have l6:=r0.upd u7 k2 (by decide)
  exact xec 5 k7 (.tuple #[.agg #[V0 0,.bool false,S0,S0],.iface t6 (x6)]) ⟨hB,hO,s6,.inl ⟨by(unfold Yk;(repeat' split)<;>first|rfl|assumption|decide|omega|exact absurd (Eq.trans (Eq.symm ‹Vj _ _=true›) ‹Vj _ _=false›) (by decide)|(rename_i q;exact absurd ⟨by assumption,by assumption,by assumption⟩ q)|(rename_i q;obtain⟨q1,q2,q3⟩:=q;exact absurd (Eq.trans (Eq.symm q1) ‹Xp _=false›) (by decide))|(rename_i q;obtain⟨q1,q2,q3⟩:=q;omega)),_,_,_,_,_,_,_,_,_,_,rfl,by(unfold Yk;(repeat' split)<;>first|exact l6|(exfalso;omega)|contradiction|exact absurd (Eq.trans (Eq.symm ‹Vj _ _=true›) ‹Vj _ _=false›) (by decide)|(rename_i q;exact absurd ⟨by assumption,by assumption,by assumption⟩ q)|(rename_i q;obtain⟨q1,q2,q3⟩:=q;exact absurd (Eq.trans (Eq.symm q1) ‹Xp _=false›) (by decide))|(rename_i q;obtain⟨q1,q2,q3⟩:=q;omega))⟩⟩
 have h7:=k3.below a9
 refine xb 8 8 h7 ?_
 refine xid 4 ((way.length:Int)≥(16:Int)) (fun w2=>?_) (fun w2=>?_)
 ·refine xc 5 (args:=#[V0 no,.iface 89 (V0 10)]) (Yn no (some 10) [] _ _ rfl) ?_
  rintro _ W9 ⟨r9,rfl,o5,p7⟩
  rw[Qa] at p7
  obtain⟨t9,x9,rfl⟩:=p7.iface
  have k2:=((u3.blkT n2.blk a3 (by decide)).below a9).below o5
  refine xsv 0 k2 [V0 0,.bool false,S0,S0] fun ag n9 t7=>?_
  have g2:=n2.ge0 (blB (Below.refl B w) hBw n1.below)
  have hB:=n9.below (blB (blB (u3.below (blB (blB (Below.refl B w) hBw n1.below) hBw n2.below) hBb) hBw a9) hBw o5) (Nat.le_trans hBw g2)
  have hO:=(Zd.upd_new (((((show Zd [251] w _ from(Zd.of_below n1.below)).trans (Zd.of_below n2.below)).trans (Zd.of_upd u3 a3 (by decide))).trans (Zd.of_below a9)).trans (Zd.of_below o5)) n9 g2)
  have p1:=n9.blkT (h7.below o5) k2 (by decide)
  have m9:=p7.upd n9 k2 (by decide)
  exact xec 5 t7 (.tuple #[.agg #[V0 0,.bool false,S0,S0],.iface t9 (x9)]) ⟨hB,hO,p1,.inl ⟨by(unfold Yk;(repeat' split)<;>first|rfl|assumption|decide|omega|exact absurd (Eq.trans (Eq.symm ‹Vj _ _=true›) ‹Vj _ _=false›) (by decide)|(rename_i q;exact absurd ⟨by assumption,by assumption,by assumption⟩ q)|(rename_i q;obtain⟨q1,q2,q3⟩:=q;exact absurd (Eq.trans (Eq.symm q1) ‹Xp _=false›) (by decide))|(rename_i q;obtain⟨q1,q2,q3⟩:=q;omega)),_,_,_,_,_,_,_,_,_,_,rfl,by(unfold Yk;(repeat' split)<;>first|exact m9|(exfalso;omega)|contradiction|exact absurd (Eq.trans (Eq.symm ‹Vj _ _=true›) ‹Vj _ _=false›) (by decide)|(rename_i q;exact absurd ⟨by assumption,by assumption,by assumption⟩ q)|(rename_i q;obtain⟨q1,q2,q3⟩:=q;exact absurd (Eq.trans (Eq.symm q1) ‹Xp _=false›) (by decide))|(rename_i q;obtain⟨q1,q2,q3⟩:=q;omega))⟩⟩
 refine xd 3 (.t B [183]) ?_
 have b6:=h7.below (Za W4)
 refine xbt (.e [0,1,2] 3) 5 B [183] b6 ?_
 refine xbt (.e [4,5,6,7] 8) 6 B [183] b6 ?_
 refine xm2 0 9 13 ?_ ?_
 ·have r8:=((((hI.below n1.below).below n2.below).only (Zd.of_upd (T:=[251]) u3 a3 (by decide)) (by decide)).below a9).below (Za W4)
  refine yc 0 (args:=#[P0 b,V0 no,V0 tree]) (.t B [183]) (Ni Bi b p n c l no tree _ r8) ?_
  rintro e ai r4
  rcases r4 with ⟨he,bf,rfl,a6,hv⟩|⟨he,kp,kc,vp,vc,rfl,a6,hk,h8⟩
  ·refine⟨(SF.of_below _ a6),?_⟩
   refine xa (.o [10,11,12] 13) [V0 0,.bool false,S0,S0] 183 fun af z5 e3=>?_
   have k2:=(((u3.blkT n2.blk a3 (by decide)).below a9).below (Za W4)).below a6
   have g9:=e3.ne k2
   have hB:=blB (blB (blB (u3.below (blB (blB (Below.refl B w) hBw n1.below) hBw n2.below) hBb) hBw a9) hBw (Za W4)) hBw a6
   have o8:=e3.ge0 hB
   refine ysv (.o [] 14) e3.blk [V0 0,.bool false,S0,S0] (.t B [183]) fun y8 i3 v1=>⟨(Zl i3 e3.blk (Nat.le_trans hBw o8) (by decide)),?_⟩
   refine xlv (.r [15] 14) v1.rp ?_
   have h3:=i3.blk (k2.below e3.below) (Ne.symm (Ne.symm g9))
   refine xsv 1 h3 [V0 0,.bool false,S0,S0] fun z1 o2 u4=>?_
   have g2:=n2.ge0 (blB (Below.refl B w) hBw n1.below)
   have o9:=o2.below (i3.below (blB hB hBw e3.below) (Nat.le_trans hBw o8)) (Nat.le_trans hBw g2)
   have hO:=(Zd.upd_new (Zd.upd_new (((((((show Zd [251] w _ from(Zd.of_below n1.below)).trans (Zd.of_below n2.below)).trans (Zd.of_upd u3 a3 (by decide))).trans (Zd.of_below a9)).trans (Zd.of_below (Za W4))).trans (Zd.of_below a6)).trans (Zd.of_below e3.below)) i3 o8) o2 g2)
   have s1:=o2.blkT (i3.blkT ((b6.below a6).below e3.below) e3.blk (by decide)) h3 (by decide)
   have p6:=((hv.below e3.below).upd i3 e3.blk (by decide)).upd o2 h3 (by decide)
   exact xec 6 u4 (.tuple #[.agg #[V0 0,.bool false,S0,S0],.iface 256 (P0 bf)]) ⟨o9,hO,s1,.inl ⟨by(unfold Yk;(repeat' split)<;>first|rfl|assumption|decide|omega|exact absurd (Eq.trans (Eq.symm ‹Vj _ _=true›) ‹Vj _ _=false›) (by decide)|(rename_i q;exact absurd ⟨by assumption,by assumption,by assumption⟩ q)|(rename_i q;obtain⟨q1,q2,q3⟩:=q;exact absurd (Eq.trans (Eq.symm q1) ‹Xp _=false›) (by decide))|(rename_i q;obtain⟨q1,q2,q3⟩:=q;omega)),_,_,_,_,_,_,_,_,_,_,rfl,by(unfold Yk;(repeat' split)<;>first|exact p6|(exfalso;omega)|contradiction|exact absurd (Eq.trans (Eq.symm ‹Vj _ _=true›) ‹Vj _ _=false›) (by decide)|(rename_i q;exact absurd ⟨by assumption,by assumption,by assumption⟩ q)|(rename_i q;obtain⟨q1,q2,q3⟩:=q;exact absurd (Eq.trans (Eq.symm q1) ‹Xp _=false›) (by decide))|(rename_i q;obtain⟨q1,q2,q3⟩:=q;omega))⟩⟩
  have e7:=(blB (blB (u3.below (blB (blB (Below.refl B w) hBw n1.below) hBw n2.below) hBb) hBw a9) hBw (Za W4)).size
  refine⟨(SF.of_below _ a6),?_⟩
  refine xa (.o [10,11,12] 13) [V0 0,.bool false,S0,S0] 183 fun y1 aq a7=>?_
  have k2:=(((u3.blkT n2.blk a3 (by decide)).below a9).below (Za W4)).below a6
  have b3:=a7.ne k2
  have hB:=blB (blB (blB (u3.below (blB (blB (Below.refl B w) hBw n1.below) hBw n2.below) hBb) hBw a9) hBw (Za W4)) hBw a6
  have c6:=a7.ge0 hB
  refine ysv (.o [] 14) a7.blk [V0 (Qm (inB l no)),.bool (Xp (inB l no)),.slice kp (Zt (inB l no)) kc,.slice vp (Zt (inB l no)) vc] (.t B [183]) fun y2 b4 o3=>⟨(Zl b4 a7.blk (Nat.le_trans hBw c6) (by decide)),?_⟩
  have k1:=b4.blkT (((((u3.blkT (n1.blk.below n2.below) a3 (by decide)).below a9).below (Za W4)).below a6).below a7.below) a7.blk (by decide)
  refine xlv (.r [15] 14) k1.rp ?_
  refine xb 1 2 o3 ?_
  have f5:=b4.own2 (Zb (Zh hk e7) a7.below) a7.blk (by decide)
  refine xr 0 (args:=#[.agg #[V0 lo,V0 hi],.slice kp (Zt (inB l no)) kc]) (Rb lo hi _ (Vt (inB l no) (Zt (inB l no))) _ (Iv (Zf f5) (Hx _ _))) fun a5 a2=>?_
  refine xin 4 (Kq lo hi (Vt (inB l no) (Zt (inB l no)))) (0:Int) (fun p4=>?_) (fun p4=>?_)
  ·refine xd 1 (.t B [183]) ?_
   refine xm2 (.b [1,2]) 0 3 ?_ ?_
   ·have i8:=(o3.below a2).below (Za a5)
    refine xlv 0 i8.rp ?_
    refine yc (.o [] 3) (args:=#[V0 no,.iface 89 (V0 9)]) (.t B [183]) (Yn no (some 9) [] _ _ rfl) ?_
    rintro _ ac ⟨x3,rfl,e1,f9⟩
    refine⟨(SF.of_below _ e1),?_⟩
    rw[Qa] at f9
    obtain⟨t5,u8,rfl⟩:=f9.iface
    have f7:=(((b4.blk (k2.below a7.below) (Ne.symm (Ne.symm b3))).below a2).below (Za a5)).below e1
    have g2:=n2.ge0 (blB (Below.refl B w) hBw n1.below)
    refine ysv (.o [] 4) f7 [V0 (Qm (inB l no)),.bool (Xp (inB l no)),.slice kp (Zt (inB l no)) kc,.slice vp (Zt (inB l no)) vc] (.t B [183]) fun y4 m7 t3=>⟨(Zl m7 f7 (Nat.le_trans hBw g2) (by decide)),?_⟩
    have p2:=m7.below (blB (blB (blB (b4.below (blB hB hBw a7.below) (Nat.le_trans hBw c6)) hBw a2) hBw (Za a5)) hBw e1) (Nat.le_trans hBw g2)
    have hO:=(Zd.upd_new ((((Zd.upd_new (((((((show Zd [251] w _ from(Zd.of_below n1.below)).trans (Zd.of_below n2.below)).trans (Zd.of_upd u3 a3 (by decide))).trans (Zd.of_below a9)).trans (Zd.of_below (Za W4))).trans (Zd.of_below a6)).trans (Zd.of_below a7.below)) b4 c6).trans (Zd.of_below a2)).trans (Zd.of_below (Za a5))).trans (Zd.of_below e1)) m7 g2)
    have r7:=m7.blkT ((((b4.blkT ((b6.below a6).below a7.below) a7.blk (by decide)).below a2).below (Za a5)).below e1) f7 (by decide)
    have g5:=f9.upd m7 f7 (by decide)
    exact xec (.r [5] 5) t3 (.tuple #[.agg #[V0 (Qm (inB l no)),.bool (Xp (inB l no)),.slice kp (Zt (inB l no)) kc,.slice vp (Zt (inB l no)) vc],.iface t5 (u8)]) ⟨p2,hO,r7,.inl ⟨by(unfold Yk;(repeat' split)<;>first|rfl|assumption|decide|omega|exact absurd (Eq.trans (Eq.symm ‹Vj _ _=true›) ‹Vj _ _=false›) (by decide)|(rename_i q;exact absurd ⟨by assumption,by assumption,by assumption⟩ q)|(rename_i q;obtain⟨q1,q2,q3⟩:=q;exact absurd (Eq.trans (Eq.symm q1) ‹Xp _=false›) (by decide))|(rename_i q;obtain⟨q1,q2,q3⟩:=q;omega)),_,_,_,_,_,_,_,_,_,_,rfl,by(unfold Yk;(repeat' split)<;>first|exact g5|(exfalso;omega)|contradiction|exact absurd (Eq.trans (Eq.symm ‹Vj _ _=true›) ‹Vj _ _=false›) (by decide)|(rename_i q;exact absurd ⟨by assumption,by assumption,by assumption⟩ q)|(rename_i q;obtain⟨q1,q2,q3⟩:=q;exact absurd (Eq.trans (Eq.symm q1) ‹Xp _=false›) (by decide))|(rename_i q;obtain⟨q1,q2,q3⟩:=q;omega))⟩⟩
   refine yc 0 (args:=#[V0 no,.iface 89 (V0 9)]) (.t B [183]) (Yn no (some 9) [] _ _ rfl) ?_
   rintro _ x2 ⟨z0,rfl,d6,g0⟩
   refine⟨(SF.of_below _ d6),?_⟩
   rw[Qa] at g0
   obtain⟨w5,v2,rfl⟩:=g0.iface
   have i4:=((o3.below a2).below (Za a5)).below d6
   refine xlv (.o [] 0) i4.rp ?_
   have f1:=(((b4.blk (k2.below a7.below) (Ne.symm (Ne.symm b3))).below a2).below (Za a5)).below d6
   have g2:=n2.ge0 (blB (Below.refl B w) hBw n1.below)
   refine ysv (.o [] 4) f1 [V0 (Qm (inB l no)),.bool (Xp (inB l no)),.slice kp (Zt (inB l no)) kc,.slice vp (Zt (inB l no)) vc] (.t B [183]) fun z6 m4 w6=>⟨(Zl m4 f1 (Nat.le_trans hBw g2) (by decide)),?_⟩
   have r1:=m4.below (blB (blB (blB (b4.below (blB hB hBw a7.below) (Nat.le_trans hBw c6)) hBw a2) hBw (Za a5)) hBw d6) (Nat.le_trans hBw g2)
   have hO:=(Zd.upd_new ((((Zd.upd_new (((((((show Zd [251] w _ from(Zd.of_below n1.below)).trans (Zd.of_below n2.below)).trans (Zd.of_upd u3 a3 (by decide))).trans (Zd.of_below a9)).trans (Zd.of_below (Za W4))).trans (Zd.of_below a6)).trans (Zd.of_below a7.below)) b4 c6).trans (Zd.of_below a2)).trans (Zd.of_below (Za a5))).trans (Zd.of_below d6)) m4 g2)
   have o7:=m4.blkT ((((b4.blkT ((b6.below a6).below a7.below) a7.blk (by decide)).below a2).below (Za a5)).below d6) f1 (by decide)
   have h1:=g0.upd m4 f1 (by decide)
   exact xec (.r [5] 5) w6 (.tuple #[.agg #[V0 (Qm (inB l no)),.bool (Xp (inB l no)),.slice kp (Zt (inB l no)) kc,.slice vp (Zt (inB l no)) vc],.iface w5 (v2)]) ⟨r1,hO,o7,.inl ⟨by(unfold Yk;(repeat' split)<;>first|rfl|assumption|decide|omega|exact absurd (Eq.trans (Eq.symm ‹Vj _ _=true›) ‹Vj _ _=false›) (by decide)|(rename_i q;exact absurd ⟨by assumption,by assumption,by assumption⟩ q)|(rename_i q;obtain⟨q1,q2,q3⟩:=q;exact absurd (Eq.trans (Eq.symm q1) ‹Xp _=false›) (by decide))|(rename_i q;obtain⟨q1,q2,q3⟩:=q;omega)),_,_,_,_,_,_,_,_,_,_,rfl,by(unfold Yk;(repeat' split)<;>first|exact h1|(exfalso;omega)|contradiction|exact absurd (Eq.trans (Eq.symm ‹Vj _ _=true›) ‹Vj _ _=false›) (by decide)|(rename_i q;exact absurd ⟨by assumption,by assumption,by assumption⟩ q)|(rename_i q;obtain⟨q1,q2,q3⟩:=q;exact absurd (Eq.trans (Eq.symm q1) ‹Xp _=false›) (by decide))|(rename_i q;obtain⟨q1,q2,q3⟩:=q;omega))⟩⟩
  refine xd 1 .z ?_
  have b8:=(o3.below a2).below (Za a5)
  refine xb (.e [0] 1) 1 b8 ?_
  refine xg (.b [2]) [69,70] (Xp (inB l no)) (fun s4=>?_) (fun s4=>?_)
  ·have c5:=((b4.blkT ((b6.below a6).below a7.below) a7.blk (by decide)).below a2).below (Za a5)
   refine xb (.e [3,4,5,6] 7) 2 c5 ?_
   refine xg (.b [8,9,10]) [76,77,78] (deep != (0:Int)) (fun e5=>?_) (fun e5=>?_)
   ·have e5:=Bo e5
    refine xb (.e [11,12,13,14] 15) 2 c5 ?_
    refine xb (.e [16,17,18] 19) 8 c5 ?_
    refine xwm (.e [20] 21) ((way.length:Int)+1) (↑(way.length+1):Int) ?_
    refine xin (.r [22,23,24] 2) deep (↑(way.length+1):Int) (fun p5=>?_) (fun p5=>?_)
    ·refine xd 1 (.t B [183]) ?_
     refine xm2 (.b [1,2]) 0 3 ?_ ?_
     ·have j3:=b8.below (Za a5.drew)
      refine xlv 0 j3.rp ?_
      refine yc (.o [] 3) (args:=#[V0 no,.iface 89 (V0 10)]) (.t B [183]) (Yn no (some 10) [] _ _ rfl) ?_
      rintro _ x1 ⟨aa,rfl,e2,h6⟩
      refine⟨(SF.of_below _ e2),?_⟩
      rw[Qa] at h6
      obtain⟨v0,w0,rfl⟩:=h6.iface
      have f0:=((((b4.blk (k2.below a7.below) (Ne.symm (Ne.symm b3))).below a2).below (Za a5)).below (Za a5.drew)).below e2
      have g2:=n2.ge0 (blB (Below.refl B w) hBw n1.below)
      refine ysv (.o [] 4) f0 [V0 (Qm (inB l no)),.bool (Xp (inB l no)),.slice kp (Zt (inB l no)) kc,.slice vp (Zt (inB l no)) vc] (.t B [183]) fun y3 l9 s9=>⟨(Zl l9 f0 (Nat.le_trans hBw g2) (by decide)),?_⟩
      have s0:=l9.below (blB (blB (blB (blB (b4.below (blB hB hBw a7.below) (Nat.le_trans hBw c6)) hBw a2) hBw (Za a5)) hBw (Za a5.drew)) hBw e2) (Nat.le_trans hBw g2)
      have hO:=(Zd.upd_new (((((Zd.upd_new (((((((show Zd [251] w _ from(Zd.of_below n1.below)).trans (Zd.of_below n2.below)).trans (Zd.of_upd u3 a3 (by decide))).trans (Zd.of_below a9)).trans (Zd.of_below (Za W4))).trans (Zd.of_below a6)).trans (Zd.of_below a7.below)) b4 c6).trans (Zd.of_below a2)).trans (Zd.of_below (Za a5))).trans (Zd.of_below (Za a5.drew))).trans (Zd.of_below e2)) l9 g2)
      have o6:=l9.blkT ((c5.below (Za a5.drew)).below e2) f0 (by decide)
      have f8:=h6.upd l9 f0 (by decide)
      exact xec (.r [5] 5) s9 (.tuple #[.agg #[V0 (Qm (inB l no)),.bool (Xp (inB l no)),.slice kp (Zt (inB l no)) kc,.slice vp (Zt (inB l no)) vc],.iface v0 (w0)]) ⟨s0,hO,o6,.inl ⟨by(unfold Yk;(repeat' split)<;>first|rfl|assumption|decide|omega|exact absurd (Eq.trans (Eq.symm ‹Vj _ _=true›) ‹Vj _ _=false›) (by decide)|(rename_i q;exact absurd ⟨by assumption,by assumption,by assumption⟩ q)|(rename_i q;obtain⟨q1,q2,q3⟩:=q;exact absurd (Eq.trans (Eq.symm q1) ‹Xp _=false›) (by decide))|(rename_i q;obtain⟨q1,q2,q3⟩:=q;omega)),_,_,_,_,_,_,_,_,_,_,rfl,by(unfold Yk;(repeat' split)<;>first|exact f8|(exfalso;omega)|contradiction|exact absurd (Eq.trans (Eq.symm ‹Vj _ _=true›) ‹Vj _ _=false›) (by decide)|(rename_i q;exact absurd ⟨by assumption,by assumption,by assumption⟩ q)|(rename_i q;obtain⟨q1,q2,q3⟩:=q;exact absurd (Eq.trans (Eq.symm q1) ‹Xp _=false›) (by decide))|(rename_i q;obtain⟨q1,q2,q3⟩:=q;omega))⟩⟩
     refine yc 0 (args:=#[V0 no,.iface 89 (V0 10)]) (.t B [183]) (Yn no (some 10) [] _ _ rfl) ?_
     rintro _ ad ⟨z9,rfl,d7,g3⟩
     refine⟨(SF.of_below _ d7),?_⟩
     rw[Qa] at g3
     obtain⟨v7,v6,rfl⟩:=g3.iface
     have i6:=(b8.below (Za a5.drew)).below d7
     refine xlv (.o [] 0) i6.rp ?_
     have e8:=((((b4.blk (k2.below a7.below) (Ne.symm (Ne.symm b3))).below a2).below (Za a5)).below (Za a5.drew)).below d7
     have g2:=n2.ge0 (blB (Below.refl B w) hBw n1.below)
     refine ysv (.o [] 4) e8 [V0 (Qm (inB l no)),.bool (Xp (inB l no)),.slice kp (Zt (inB l no)) kc,.slice vp (Zt (inB l no)) vc] (.t B [183]) fun ae l1 v8=>⟨(Zl l1 e8 (Nat.le_trans hBw g2) (by decide)),?_⟩
     have q5:=l1.below (blB (blB (blB (blB (b4.below (blB hB hBw a7.below) (Nat.le_trans hBw c6)) hBw a2) hBw (Za a5)) hBw (Za a5.drew)) hBw d7) (Nat.le_trans hBw g2)
     have hO:=(Zd.upd_new (((((Zd.upd_new (((((((show Zd [251] w _ from(Zd.of_below n1.below)).trans (Zd.of_below n2.below)).trans (Zd.of_upd u3 a3 (by decide))).trans (Zd.of_below a9)).trans (Zd.of_below (Za W4))).trans (Zd.of_below a6)).trans (Zd.of_below a7.below)) b4 c6).trans (Zd.of_below a2)).trans (Zd.of_below (Za a5))).trans (Zd.of_below (Za a5.drew))).trans (Zd.of_below d7)) l1 g2)
     have j0:=l1.blkT ((c5.below (Za a5.drew)).below d7) e8 (by decide)
     have h2:=g3.upd l1 e8 (by decide)
     exact xec (.r [5] 5) v8 (.tuple #[.agg #[V0 (Qm (inB l no)),.bool (Xp (inB l no)),.slice kp (Zt (inB l no)) kc,.slice vp (Zt (inB l no)) vc],.iface v7 (v6)]) ⟨q5,hO,j0,.inl ⟨by(unfold Yk;(repeat' split)<;>first|rfl|assumption|decide|omega|exact absurd (Eq.trans (Eq.symm ‹Vj _ _=true›) ‹Vj _ _=false›) (by decide)|(rename_i q;exact absurd ⟨by assumption,by assumption,by assumption⟩ q)|(rename_i q;obtain⟨q1,q2,q3⟩:=q;exact absurd (Eq.trans (Eq.symm q1) ‹Xp _=false›) (by decide))|(rename_i q;obtain⟨q1,q2,q3⟩:=q;omega)),_,_,_,_,_,_,_,_,_,_,rfl,by(unfold Yk;(repeat' split)<;>first|exact h2|(exfalso;omega)|contradiction|exact absurd (Eq.trans (Eq.symm ‹Vj _ _=true›) ‹Vj _ _=false›) (by decide)|(rename_i q;exact absurd ⟨by assumption,by assumption,by assumption⟩ q)|(rename_i q;obtain⟨q1,q2,q3⟩:=q;exact absurd (Eq.trans (Eq.symm q1) ‹Xp _=false›) (by decide))|(rename_i q;obtain⟨q1,q2,q3⟩:=q;omega))⟩⟩
    refine xlv 5 b8.rp ?_
    have e9:=((b4.blk (k2.below a7.below) (Ne.symm (Ne.symm b3))).below a2).below (Za a5)
    refine xsv 0 e9 [V0 (Qm (inB l no)),.bool (Xp (inB l no)),.slice kp (Zt (inB l no)) kc,.slice vp (Zt (inB l no)) vc] fun x7 n3 u2=>?_
    have g2:=n2.ge0 (blB (Below.refl B w) hBw n1.below)
    have q7:=n3.below (blB (blB (b4.below (blB hB hBw a7.below) (Nat.le_trans hBw c6)) hBw a2) hBw (Za a5)) (Nat.le_trans hBw g2)
    have hO:=(Zd.upd_new (((Zd.upd_new (((((((show Zd [251] w _ from(Zd.of_below n1.below)).trans (Zd.of_below n2.below)).trans (Zd.of_upd u3 a3 (by decide))).trans (Zd.of_below a9)).trans (Zd.of_below (Za W4))).trans (Zd.of_below a6)).trans (Zd.of_below a7.below)) b4 c6).trans (Zd.of_below a2)).trans (Zd.of_below (Za a5))) n3 g2)
    have j4:=n3.blkT c5 e9 (by decide)
    have r5:=n3.own2 (Zb (Zb f5 a2) (Za a5)) e9 (by decide)
    have j6:=n3.own2 (Zb (Zb (b4.own2 (Zb (Zh h8 e7) a7.below) a7.blk (by decide)) a2) (Za a5)) e9 (by decide)
    exact xec 4 u2 (.tuple #[.agg #[V0 (Qm (inB l no)),.bool (Xp (inB l no)),.slice kp (Zt (inB l no)) kc,.slice vp (Zt (inB l no)) vc],.nilIface]) ⟨q7,hO,j4,.inr ⟨by(unfold Yk;(repeat' split)<;>first|rfl|assumption|decide|omega|exact absurd (Eq.trans (Eq.symm ‹Vj _ _=true›) ‹Vj _ _=false›) (by decide)|(rename_i q;exact absurd ⟨by assumption,by assumption,by assumption⟩ q)|(rename_i q;obtain⟨q1,q2,q3⟩:=q;exact absurd (Eq.trans (Eq.symm q1) ‹Xp _=false›) (by decide))|(rename_i q;obtain⟨q1,q2,q3⟩:=q;omega)),by assumption,_,_,_,_,rfl,r5,j6⟩⟩
   have e5:=Vh e5
   refine xlv (.r [11,12,13,14,15,16,17,18,19,20,21,22,23,24] 8) b8.rp ?_
   have f3:=((b4.blk (k2.below a7.below) (Ne.symm (Ne.symm b3))).below a2).below (Za a5)
   refine xsv 0 f3 [V0 (Qm (inB l no)),.bool (Xp (inB l no)),.slice kp (Zt (inB l no)) kc,.slice vp (Zt (inB l no)) vc] fun x5 k8 w4=>?_
   have g2:=n2.ge0 (blB (Below.refl B w) hBw n1.below)
   have p0:=k8.below (blB (blB (b4.below (blB hB hBw a7.below) (Nat.le_trans hBw c6)) hBw a2) hBw (Za a5)) (Nat.le_trans hBw g2)
   have hO:=(Zd.upd_new (((Zd.upd_new (((((((show Zd [251] w _ from(Zd.of_below n1.below)).trans (Zd.of_below n2.below)).trans (Zd.of_upd u3 a3 (by decide))).trans (Zd.of_below a9)).trans (Zd.of_below (Za W4))).trans (Zd.of_below a6)).trans (Zd.of_below a7.below)) b4 c6).trans (Zd.of_below a2)).trans (Zd.of_below (Za a5))) k8 g2)
   have j7:=k8.blkT c5 f3 (by decide)
   have s3:=k8.own2 (Zb (Zb f5 a2) (Za a5)) f3 (by decide)
   have k5:=k8.own2 (Zb (Zb (b4.own2 (Zb (Zh h8 e7) a7.below) a7.blk (by decide)) a2) (Za a5)) f3 (by decide)
   exact xec 4 w4 (.tuple #[.agg #[V0 (Qm (inB l no)),.bool (Xp (inB l no)),.slice kp (Zt (inB l no)) kc,.slice vp (Zt (inB l no)) vc],.nilIface]) ⟨p0,hO,j7,.inr ⟨by(unfold Yk;(repeat' split)<;>first|rfl|assumption|decide|omega|exact absurd (Eq.trans (Eq.symm ‹Vj _ _=true›) ‹Vj _ _=false›) (by decide)|(rename_i q;exact absurd ⟨by assumption,by assumption,by assumption⟩ q)|(rename_i q;obtain⟨q1,q2,q3⟩:=q;exact absurd (Eq.trans (Eq.symm q1) ‹Xp _=false›) (by decide))|(rename_i q;obtain⟨q1,q2,q3⟩:=q;omega)),by assumption,_,_,_,_,rfl,s3,k5⟩⟩
  refine xlv (.r [3,4,5,6,7,8,9,10,11,12,13,14,15,16,17,18,19,20,21,22,23,24] 8) b8.rp ?_
  have f6:=((b4.blk (k2.below a7.below) (Ne.symm (Ne.symm b3))).below a2).below (Za a5)
  refine xsv 0 f6 [V0 (Qm (inB l no)),.bool (Xp (inB l no)),.slice kp (Zt (inB l no)) kc,.slice vp (Zt (inB l no)) vc] fun z2 k9 v5=>?_
  have g2:=n2.ge0 (blB (Below.refl B w) hBw n1.below)
  have q0:=k9.below (blB (blB (b4.below (blB hB hBw a7.below) (Nat.le_trans hBw c6)) hBw a2) hBw (Za a5)) (Nat.le_trans hBw g2)
  have hO:=(Zd.upd_new (((Zd.upd_new (((((((show Zd [251] w _ from(Zd.of_below n1.below)).trans (Zd.of_below n2.below)).trans (Zd.of_upd u3 a3 (by decide))).trans (Zd.of_below a9)).trans (Zd.of_below (Za W4))).trans (Zd.of_below a6)).trans (Zd.of_below a7.below)) b4 c6).trans (Zd.of_below a2)).trans (Zd.of_below (Za a5))) k9 g2)
  have l7:=k9.blkT (((b4.blkT ((b6.below a6).below a7.below) a7.blk (by decide)).below a2).below (Za a5)) f6 (by decide)
  have q4:=k9.own2 (Zb (Zb f5 a2) (Za a5)) f6 (by decide)
  have n7:=k9.own2 (Zb (Zb (b4.own2 (Zb (Zh h8 e7) a7.below) a7.blk (by decide)) a2) (Za a5)) f6 (by decide)
  exact xec 4 v5 (.tuple #[.agg #[V0 (Qm (inB l no)),.bool (Xp (inB l no)),.slice kp (Zt (inB l no)) kc,.slice vp (Zt (inB l no)) vc],.nilIface]) ⟨q0,hO,l7,.inr ⟨by(unfold Yk;(repeat' split)<;>first|rfl|assumption|decide|omega|exact absurd (Eq.trans (Eq.symm ‹Vj _ _=true›) ‹Vj _ _=false›) (by decide)|(rename_i q;exact absurd ⟨by assumption,by assumption,by assumption⟩ q)|(rename_i q;obtain⟨q1,q2,q3⟩:=q;exact absurd (Eq.trans (Eq.symm q1) ‹Xp _=false›) (by decide))|(rename_i q;obtain⟨q1,q2,q3⟩:=q;omega)),by assumption,_,_,_,_,rfl,q4,n7⟩⟩
 refine xa 0 [V0 0,.bool false,S0,S0] 183 fun y9 x0 a8=>?_
 have k2:=((u3.blkT n2.blk a3 (by decide)).below a9).below (Za W4)
 have b0:=a8.ne k2
 have hB:=blB (blB (u3.below (blB (blB (Below.refl B w) hBw n1.below) hBw n2.below) hBb) hBw a9) hBw (Za W4)
 have c2:=a8.ge0 hB
 have r3:=(((((hI.below n1.below).below n2.below).only (Zd.of_upd (T:=[251]) u3 a3 (by decide)) (by decide)).below a9).below (Za W4)).below a8.below
 refine yc (.o [] 9) (args:=#[P0 b,V0 no,V0 tree]) (.t B [183]) (Ni Bi b p n c l no tree _ r3) ?_
 rintro e ao p3
 rcases p3 with ⟨he,bf,rfl,a0,hv⟩|⟨he,kp,kc,vp,vc,rfl,a0,hk,h8⟩
 ·refine⟨(SF.of_below _ a0),?_⟩
  have c3:=a8.blk.below a0
  refine ysv (.o [10,11,12] 14) c3 [V0 0,.bool false,S0,S0] (.t B [183]) fun y7 i2 u9=>⟨(Zl i2 c3 (Nat.le_trans hBw c2) (by decide)),?_⟩
  refine xlv (.r [15] 14) u9.rp ?_
  have h5:=i2.blk ((k2.below a8.below).below a0) (Ne.symm (Ne.symm b0))
  refine xsv 1 h5 [V0 0,.bool false,S0,S0] fun x8 o1 w7=>?_
  have g2:=n2.ge0 (blB (Below.refl B w) hBw n1.below)
  have q8:=o1.below (i2.below (blB (blB hB hBw a8.below) hBw a0) (Nat.le_trans hBw c2)) (Nat.le_trans hBw g2)
  have hO:=(Zd.upd_new (Zd.upd_new (((((((show Zd [251] w _ from(Zd.of_below n1.below)).trans (Zd.of_below n2.below)).trans (Zd.of_upd u3 a3 (by decide))).trans (Zd.of_below a9)).trans (Zd.of_below (Za W4))).trans (Zd.of_below a8.below)).trans (Zd.of_below a0)) i2 c2) o1 g2)
  have m1:=o1.blkT (i2.blkT ((b6.below a8.below).below a0) c3 (by decide)) h5 (by decide)
  have r2:=(hv.upd i2 c3 (by decide)).upd o1 h5 (by decide)
  exact xec 6 w7 (.tuple #[.agg #[V0 0,.bool false,S0,S0],.iface 256 (P0 bf)]) ⟨q8,hO,m1,.inl ⟨by(unfold Yk;(repeat' split)<;>first|rfl|assumption|decide|omega|exact absurd (Eq.trans (Eq.symm ‹Vj _ _=true›) ‹Vj _ _=false›) (by decide)|(rename_i q;exact absurd ⟨by assumption,by assumption,by assumption⟩ q)|(rename_i q;obtain⟨q1,q2,q3⟩:=q;exact absurd (Eq.trans (Eq.symm q1) ‹Xp _=false›) (by decide))|(rename_i q;obtain⟨q1,q2,q3⟩:=q;omega)),_,_,_,_,_,_,_,_,_,_,rfl,by(unfold Yk;(repeat' split)<;>first|exact r2|(exfalso;omega)|contradiction|exact absurd (Eq.trans (Eq.symm ‹Vj _ _=true›) ‹Vj _ _=false›) (by decide)|(rename_i q;exact absurd ⟨by assumption,by assumption,by assumption⟩ q)|(rename_i q;obtain⟨q1,q2,q3⟩:=q;exact absurd (Eq.trans (Eq.symm q1) ‹Xp _=false›) (by decide))|(rename_i q;obtain⟨q1,q2,q3⟩:=q;omega))⟩⟩
 have f4:=(blB hB hBw a8.below).size
 refine⟨(SF.of_below _ a0),?_⟩
 have c3:=a8.blk.below a0
 refine ysv (.o [10,11,12] 14) c3 [V0 (Qm (inB l no)),.bool (Xp (inB l no)),.slice kp (Zt (inB l no)) kc,.slice vp (Zt (inB l no)) vc] (.t B [183]) fun ab b5 o0=>⟨(Zl b5 c3 (Nat.le_trans hBw c2) (by decide)),?_⟩
 have k1:=b5.blkT (((((u3.blkT (n1.blk.below n2.below) a3 (by decide)).below a9).below (Za W4)).below a8.below).below a0) c3 (by decide)
 refine xlv (.r [15] 14) k1.rp ?_
 refine xb 1 2 o0 ?_
 have f2:=b5.own2 (Zh hk f4) c3 (by decide)
 refine xr 0 (args:=#[.agg #[V0 lo,V0 hi],.slice kp (Zt (inB l no)) kc]) (Rb lo hi _ (Vt (inB l no) (Zt (inB l no))) _ (Iv (Zf f2) (Hx _ _))) fun a4 a1=>?_
 refine xin 4 (Kq lo hi (Vt (inB l no) (Zt (inB l no)))) (0:Int) (fun s5=>?_) (fun s5=>?_)
 ·refine xd 1 (.t B [183]) ?_
  refine xm2 (.b [1,2]) 0 3 ?_ ?_
  ·have j8:=(o0.below a1).below (Za a4)
   refine xlv 0 j8.rp ?_
   refine yc (.o [] 3) (args:=#[V0 no,.iface 89 (V0 9)]) (.t B [183]) (Yn no (some 9) [] _ _ rfl) ?_
   rintro _ z8 ⟨w9,rfl,e6,g8⟩
   refine⟨(SF.of_below _ e6),?_⟩
   rw[Qa] at g8
   obtain⟨v3,t1,rfl⟩:=g8.iface
   have d5:=(((b5.blk ((k2.below a8.below).below a0) (Ne.symm (Ne.symm b0))).below a1).below (Za a4)).below e6
   have g2:=n2.ge0 (blB (Below.refl B w) hBw n1.below)
   refine ysv (.o [] 4) d5 [V0 (Qm (inB l no)),.bool (Xp (inB l no)),.slice kp (Zt (inB l no)) kc,.slice vp (Zt (inB l no)) vc] (.t B [183]) fun z3 l3 w1=>⟨(Zl l3 d5 (Nat.le_trans hBw g2) (by decide)),?_⟩
   have k6:=l3.below (blB (blB (blB (b5.below (blB (blB hB hBw a8.below) hBw a0) (Nat.le_trans hBw c2)) hBw a1) hBw (Za a4)) hBw e6) (Nat.le_trans hBw g2)
   have hO:=(Zd.upd_new ((((Zd.upd_new (((((((show Zd [251] w _ from(Zd.of_below n1.below)).trans (Zd.of_below n2.below)).trans (Zd.of_upd u3 a3 (by decide))).trans (Zd.of_below a9)).trans (Zd.of_below (Za W4))).trans (Zd.of_below a8.below)).trans (Zd.of_below a0)) b5 c2).trans (Zd.of_below a1)).trans (Zd.of_below (Za a4))).trans (Zd.of_below e6)) l3 g2)
   have n0:=l3.blkT ((((b5.blkT ((b6.below a8.below).below a0) c3 (by decide)).below a1).below (Za a4)).below e6) d5 (by decide)
   have h9:=g8.upd l3 d5 (by decide)
   exact xec (.r [5] 5) w1 (.tuple #[.agg #[V0 (Qm (inB l no)),.bool (Xp (inB l no)),.slice kp (Zt (inB l no)) kc,.slice vp (Zt (inB l no)) vc],.iface v3 (t1)]) ⟨k6,hO,n0,.inl ⟨by(unfold Yk;(repeat' split)<;>first|rfl|assumption|decide|omega|exact absurd (Eq.trans (Eq.symm ‹Vj _ _=true›) ‹Vj _ _=false›) (by decide)|(rename_i q;exact absurd ⟨by assumption,by assumption,by assumption⟩ q)|(rename_i q;obtain⟨q1,q2,q3⟩:=q;exact absurd (Eq.trans (Eq.symm q1) ‹Xp _=false›) (by decide))|(rename_i q;obtain⟨q1,q2,q3⟩:=q;omega)),_,_,_,_,_,_,_,_,_,_,rfl,by(unfold Yk;(repeat' split)<;>first|exact h9|(exfalso;omega)|contradiction|exact absurd (Eq.trans (Eq.symm ‹Vj _ _=true›) ‹Vj _ _=false›) (by decide)|(rename_i q;exact absurd ⟨by assumption,by assumption,by assumption⟩ q)|(rename_i q;obtain⟨q1,q2,q3⟩:=q;exact absurd (Eq.trans (Eq.symm q1) ‹Xp _=false›) (by decide))|(rename_i q;obtain⟨q1,q2,q3⟩:=q;omega))⟩⟩
  refine yc 0 (args:=#[V0 no,.iface 89 (V0 9)]) (.t B [183]) (Yn no (some 9) [] _ _ rfl) ?_
  rintro _ z4 ⟨x4,rfl,d8,i1⟩
  refine⟨(SF.of_below _ d8),?_⟩
  rw[Qa] at i1
  obtain⟨s8,w3,rfl⟩:=i1.iface
  have i7:=((o0.below a1).below (Za a4)).below d8
  refine xlv (.o [] 0) i7.rp ?_
  have d4:=(((b5.blk ((k2.below a8.below).below a0) (Ne.symm (Ne.symm b0))).below a1).below (Za a4)).below d8
  have g2:=n2.ge0 (blB (Below.refl B w) hBw n1.below)
  refine ysv (.o [] 4) d4 [V0 (Qm (inB l no)),.bool (Xp (inB l no)),.slice kp (Zt (inB l no)) kc,.slice vp (Zt (inB l no)) vc] (.t B [183]) fun al i5 s7=>⟨(Zl i5 d4 (Nat.le_trans hBw g2) (by decide)),?_⟩
  have l5:=i5.below (blB (blB (blB (b5.below (blB (blB hB hBw a8.below) hBw a0) (Nat.le_trans hBw c2)) hBw a1) hBw (Za a4)) hBw d8) (Nat.le_trans hBw g2)
  have hO:=(Zd.upd_new ((((Zd.upd_new (((((((show Zd [251] w _ from(Zd.of_below n1.below)).trans (Zd.of_below n2.below)).trans (Zd.of_upd u3 a3 (by decide))).trans (Zd.of_below a9)).trans (Zd.of_below (Za W4))).trans (Zd.of_below a8.below)).trans (Zd.of_below a0)) b5 c2).trans (Zd.of_below a1)).trans (Zd.of_below (Za a4))).trans (Zd.of_below d8)) i5 g2)
  have n8:=i5.blkT ((((b5.blkT ((b6.below a8.below).below a0) c3 (by decide)).below a1).below (Za a4)).below d8) d4 (by decide)
  have i0:=i1.upd i5 d4 (by decide)
  exact xec (.r [5] 5) s7 (.tuple #[.agg #[V0 (Qm (inB l no)),.bool (Xp (inB l no)),.slice kp (Zt (inB l no)) kc,.slice vp (Zt (inB l no)) vc],.iface s8 (w3)]) ⟨l5,hO,n8,.inl ⟨by(unfold Yk;(repeat' split)<;>first|rfl|assumption|decide|omega|exact absurd (Eq.trans (Eq.symm ‹Vj _ _=true›) ‹Vj _ _=false›) (by decide)|(rename_i q;exact absurd ⟨by assumption,by assumption,by assumption⟩ q)|(rename_i q;obtain⟨q1,q2,q3⟩:=q;exact absurd (Eq.trans (Eq.symm q1) ‹Xp _=false›) (by decide))|(rename_i q;obtain⟨q1,q2,q3⟩:=q;omega)),_,_,_,_,_,_,_,_,_,_,rfl,by(unfold Yk;(repeat' split)<;>first|exact i0|(exfalso;omega)|contradiction|exact absurd (Eq.trans (Eq.symm ‹Vj _ _=true›) ‹Vj _ _=false›) (by decide)|(rename_i q;exact absurd ⟨by assumption,by assumption,by assumption⟩ q)|(rename_i q;obtain⟨q1,q2,q3⟩:=q;exact absurd (Eq.trans (Eq.symm q1) ‹Xp _=false›) (by decide))|(rename_i q;obtain⟨q1,q2,q3⟩:=q;omega))⟩⟩
 refine xd 1 .z ?_
 have b9:=(o0.below a1).below (Za a4)
 refine xb (.e [0] 1) 1 b9 ?_
 refine xg (.b [2]) [69,70] (Xp (inB l no)) (fun q6=>?_) (fun q6=>?_)
 ·have b7:=((b5.blkT ((b6.below a8.below).below a0) c3 (by decide)).below a1).below (Za a4)
  refine xb (.e [3,4,5,6] 7) 2 b7 ?_
  refine xg (.b [8,9,10]) [76,77,78] (deep != (0:Int)) (fun e0=>?_) (fun e0=>?_)
  ·have e0:=Bo e0
   refine xb (.e [11,12,13,14] 15) 2 b7 ?_
   refine xb (.e [16,17,18] 19) 8 b7 ?_
   refine xwm (.e [20] 21) ((way.length:Int)+1) (↑(way.length+1):Int) ?_
   refine xin (.r [22,23,24] 2) deep (↑(way.length+1):Int) (fun s2=>?_) (fun s2=>?_)
   ·refine xd 1 (.t B [183]) ?_
    refine xm2 (.b [1,2]) 0 3 ?_ ?_
    ·have j5:=b9.below (Za a4.drew)
     refine xlv 0 j5.rp ?_
     refine yc (.o [] 3) (args:=#[V0 no,.iface 89 (V0 10)]) (.t B [183]) (Yn no (some 10) [] _ _ rfl) ?_
     rintro _ y5 ⟨z7,rfl,e4,g6⟩
     refine⟨(SF.of_below _ e4),?_⟩
     rw[Qa] at g6
     obtain⟨v4,u5,rfl⟩:=g6.iface
     have d1:=((((b5.blk ((k2.below a8.below).below a0) (Ne.symm (Ne.symm b0))).below a1).below (Za a4)).below (Za a4.drew)).below e4
     have g2:=n2.ge0 (blB (Below.refl B w) hBw n1.below)
     refine ysv (.o [] 4) d1 [V0 (Qm (inB l no)),.bool (Xp (inB l no)),.slice kp (Zt (inB l no)) kc,.slice vp (Zt (inB l no)) vc] (.t B [183]) fun ak m8 u0=>⟨(Zl m8 d1 (Nat.le_trans hBw g2) (by decide)),?_⟩
     have m5:=m8.below (blB (blB (blB (blB (b5.below (blB (blB hB hBw a8.below) hBw a0) (Nat.le_trans hBw c2)) hBw a1) hBw (Za a4)) hBw (Za a4.drew)) hBw e4) (Nat.le_trans hBw g2)
     have hO:=(Zd.upd_new (((((Zd.upd_new (((((((show Zd [251] w _ from(Zd.of_below n1.below)).trans (Zd.of_below n2.below)).trans (Zd.of_upd u3 a3 (by decide))).trans (Zd.of_below a9)).trans (Zd.of_below (Za W4))).trans (Zd.of_below a8.below)).trans (Zd.of_below a0)) b5 c2).trans (Zd.of_below a1)).trans (Zd.of_below (Za a4))).trans (Zd.of_below (Za a4.drew))).trans (Zd.of_below e4)) m8 g2)
     have k0:=m8.blkT ((b7.below (Za a4.drew)).below e4) d1 (by decide)
     have h4:=g6.upd m8 d1 (by decide)
     exact xec (.r [5] 5) u0 (.tuple #[.agg #[V0 (Qm (inB l no)),.bool (Xp (inB l no)),.slice kp (Zt (inB l no)) kc,.slice vp (Zt (inB l no)) vc],.iface v4 (u5)]) ⟨m5,hO,k0,.inl ⟨by(unfold Yk;(repeat' split)<;>first|rfl|assumption|decide|omega|exact absurd (Eq.trans (Eq.symm ‹Vj _ _=true›) ‹Vj _ _=false›) (by decide)|(rename_i q;exact absurd ⟨by assumption,by assumption,by assumption⟩ q)|(rename_i q;obtain⟨q1,q2,q3⟩:=q;exact absurd (Eq.trans (Eq.symm q1) ‹Xp _=false›) (by decide))|(rename_i q;obtain⟨q1,q2,q3⟩:=q;omega)),_,_,_,_,_,_,_,_,_,_,rfl,by(unfold Yk;(repeat' split)<;>first|exact h4|(exfalso;omega)|contradiction|exact absurd (Eq.trans (Eq.symm ‹Vj _ _=true›) ‹Vj _ _=false›) (by decide)|(rename_i q;exact absurd ⟨by assumption,by assumption,by assumption⟩ q)|(rename_i q;obtain⟨q1,q2,q3⟩:=q;exact absurd (Eq.trans (Eq.symm q1) ‹Xp _=false›) (by decide))|(rename_i q;obtain⟨q1,q2,q3⟩:=q;omega))⟩⟩
    refine yc 0 (args:=#[V0 no,.iface 89 (V0 10)]) (.t B [183]) (Yn no (some 10) [] _ _ rfl) ?_
    rintro _ w8 ⟨y6,rfl,d9,h0⟩
    refine⟨(SF.of_below _ d9),?_⟩
    rw[Qa] at h0
    obtain⟨t0,t8,rfl⟩:=h0.iface
    have n4:=(b9.below (Za a4.drew)).below d9
    refine xlv (.o [] 0) n4.rp ?_
    have c8:=((((b5.blk ((k2.below a8.below).below a0) (Ne.symm (Ne.symm b0))).below a1).below (Za a4)).below (Za a4.drew)).below d9
    have g2:=n2.ge0 (blB (Below.refl B w) hBw n1.below)
    refine ysv (.o [] 4) c8 [V0 (Qm (inB l no)),.bool (Xp (inB l no)),.slice kp (Zt (inB l no)) kc,.slice vp (Zt (inB l no)) vc] (.t B [183]) fun ap m2 v9=>⟨(Zl m2 c8 (Nat.le_trans hBw g2) (by decide)),?_⟩
    have l4:=m2.below (blB (blB (blB (blB (b5.below (blB (blB hB hBw a8.below) hBw a0) (Nat.le_trans hBw c2)) hBw a1) hBw (Za a4)) hBw (Za a4.drew)) hBw d9) (Nat.le_trans hBw g2)
    have hO:=(Zd.upd_new (((((Zd.upd_new (((((((show Zd [251] w _ from(Zd.of_below n1.below)).trans (Zd.of_below n2.below)).trans (Zd.of_upd u3 a3 (by decide))).trans (Zd.of_below a9)).trans (Zd.of_below (Za W4))).trans (Zd.of_below a8.below)).trans (Zd.of_below a0)) b5 c2).trans (Zd.of_below a1)).trans (Zd.of_below (Za a4))).trans (Zd.of_below (Za a4.drew))).trans (Zd.of_below d9)) m2 g2)
    have n6:=m2.blkT ((b7.below (Za a4.drew)).below d9) c8 (by decide)
    have g1:=h0.upd m2 c8 (by decide)
    exact xec (.r [5] 5) v9 (.tuple #[.agg #[V0 (Qm (inB l no)),.bool (Xp (inB l no)),.slice kp (Zt (inB l no)) kc,.slice vp (Zt (inB l no)) vc],.iface t0 (t8)]) ⟨l4,hO,n6,.inl ⟨by(unfold Yk;(repeat' split)<;>first|rfl|assumption|decide|omega|exact absurd (Eq.trans (Eq.symm ‹Vj _ _=true›) ‹Vj _ _=false›) (by decide)|(rename_i q;exact absurd ⟨by assumption,by assumption,by assumption⟩ q)|(rename_i q;obtain⟨q1,q2,q3⟩:=q;exact absurd (Eq.trans (Eq.symm q1) ‹Xp _=false›) (by decide))|(rename_i q;obtain⟨q1,q2,q3⟩:=q;omega)),_,_,_,_,_,_,_,_,_,_,rfl,by(unfold Yk;(repeat' split)<;>first|exact g1|(exfalso;omega)|contradiction|exact absurd (Eq.trans (Eq.symm ‹Vj _ _=true›) ‹Vj _ _=false›) (by decide)|(rename_i q;exact absurd ⟨by assumption,by assumption,by assumption⟩ q)|(rename_i q;obtain⟨q1,q2,q3⟩:=q;exact absurd (Eq.trans (Eq.symm q1) ‹Xp _=false›) (by decide))|(rename_i q;obtain⟨q1,q2,q3⟩:=q;omega))⟩⟩
   refine xlv 5 b9.rp ?_
   have d0:=((b5.blk ((k2.below a8.below).below a0) (Ne.symm (Ne.symm b0))).below a1).below (Za a4)
   refine xsv 0 d0 [V0 (Qm (inB l no)),.bool (Xp (inB l no)),.slice kp (Zt (inB l no)) kc,.slice vp (Zt (inB l no)) vc] fun aj j9 t4=>?_
   have g2:=n2.ge0 (blB (Below.refl B w) hBw n1.below)
   have i9:=j9.below (blB (blB (b5.below (blB (blB hB hBw a8.below) hBw a0) (Nat.le_trans hBw c2)) hBw a1) hBw (Za a4)) (Nat.le_trans hBw g2)
   have hO:=(Zd.upd_new (((Zd.upd_new (((((((show Zd [251] w _ from(Zd.of_below n1.below)).trans (Zd.of_below n2.below)).trans (Zd.of_upd u3 a3 (by decide))).trans (Zd.of_below a9)).trans (Zd.of_below (Za W4))).trans (Zd.of_below a8.below)).trans (Zd.of_below a0)) b5 c2).trans (Zd.of_below a1)).trans (Zd.of_below (Za a4))) j9 g2)
   have l8:=j9.blkT b7 d0 (by decide)
   have p9:=j9.own2 (Zb (Zb f2 a1) (Za a4)) d0 (by decide)
   have n5:=j9.own2 (Zb (Zb (b5.own2 (Zh h8 f4) c3 (by decide)) a1) (Za a4)) d0 (by decide)
   exact xec 4 t4 (.tuple #[.agg #[V0 (Qm (inB l no)),.bool (Xp (inB l no)),.slice kp (Zt (inB l no)) kc,.slice vp (Zt (inB l no)) vc],.nilIface]) ⟨i9,hO,l8,.inr ⟨by(unfold Yk;(repeat' split)<;>first|rfl|assumption|decide|omega|exact absurd (Eq.trans (Eq.symm ‹Vj _ _=true›) ‹Vj _ _=false›) (by decide)|(rename_i q;exact absurd ⟨by assumption,by assumption,by assumption⟩ q)|(rename_i q;obtain⟨q1,q2,q3⟩:=q;exact absurd (Eq.trans (Eq.symm q1) ‹Xp _=false›) (by decide))|(rename_i q;obtain⟨q1,q2,q3⟩:=q;omega)),by assumption,_,_,_,_,rfl,p9,n5⟩⟩
  have e0:=Vh e0
  refine xlv (.r [11,12,13,14,15,16,17,18,19,20,21,22,23,24] 8) b9.rp ?_
  have d2:=((b5.blk ((k2.below a8.below).below a0) (Ne.symm (Ne.symm b0))).below a1).below (Za a4)
  refine xsv 0 d2 [V0 (Qm (inB l no)),.bool (Xp (inB l no)),.slice kp (Zt (inB l no)) kc,.slice vp (Zt (inB l no)) vc] fun ah m0 t2=>?_
  have g2:=n2.ge0 (blB (Below.refl B w) hBw n1.below)
  have k4:=m0.below (blB (blB (b5.below (blB (blB hB hBw a8.below) hBw a0) (Nat.le_trans hBw c2)) hBw a1) hBw (Za a4)) (Nat.le_trans hBw g2)
  have hO:=(Zd.upd_new (((Zd.upd_new (((((((show Zd [251] w _ from(Zd.of_below n1.below)).trans (Zd.of_below n2.below)).trans (Zd.of_upd u3 a3 (by decide))).trans (Zd.of_below a9)).trans (Zd.of_below (Za W4))).trans (Zd.of_below a8.below)).trans (Zd.of_below a0)) b5 c2).trans (Zd.of_below a1)).trans (Zd.of_below (Za a4))) m0 g2)
  have l2:=m0.blkT b7 d2 (by decide)
  have p8:=m0.own2 (Zb (Zb f2 a1) (Za a4)) d2 (by decide)
  have j2:=m0.own2 (Zb (Zb (b5.own2 (Zh h8 f4) c3 (by decide)) a1) (Za a4)) d2 (by decide)
  exact xec 4 t2 (.tuple #[.agg #[V0 (Qm (inB l no)),.bool (Xp (inB l no)),.slice kp (Zt (inB l no)) kc,.slice vp (Zt (inB l no)) vc],.nilIface]) ⟨k4,hO,l2,.inr ⟨by(unfold Yk;(repeat' split)<;>first|rfl|assumption|decide|omega|exact absurd (Eq.trans (Eq.symm ‹Vj _ _=true›) ‹Vj _ _=false›) (by decide)|(rename_i q;exact absurd ⟨by assumption,by assumption,by assumption⟩ q)|(rename_i q;obtain⟨q1,q2,q3⟩:=q;exact absurd (Eq.trans (Eq.symm q1) ‹Xp _=false›) (by decide))|(rename_i q;obtain⟨q1,q2,q3⟩:=q;omega)),by assumption,_,_,_,_,rfl,p8,j2⟩⟩
 refine xlv (.r [3,4,5,6,7,8,9,10,11,12,13,14,15,16,17,18,19,20,21,22,23,24] 8) b9.rp ?_
 have d3:=((b5.blk ((k2.below a8.below).below a0) (Ne.symm (Ne.symm b0))).below a1).below (Za a4)
 refine xsv 0 d3 [V0 (Qm (inB l no)),.bool (Xp (inB l no)),.slice kp (Zt (inB l no)) kc,.slice vp (Zt (inB l no)) vc] fun y0 j1 u6=>?_
 have g2:=n2.ge0 (blB (Below.refl B w) hBw n1.below)
 have m3:=j1.below (blB (blB (b5.below (blB (blB hB hBw a8.below) hBw a0) (Nat.le_trans hBw c2)) hBw a1) hBw (Za a4)) (Nat.le_trans hBw g2)
 have hO:=(Zd.upd_new (((Zd.upd_new (((((((show Zd [251] w _ from(Zd.of_below n1.below)).trans (Zd.of_below n2.below)).trans (Zd.of_upd u3 a3 (by decide))).trans (Zd.of_below a9)).trans (Zd.of_below (Za W4))).trans (Zd.of_below a8.below)).trans (Zd.of_below a0)) b5 c2).trans (Zd.of_below a1)).trans (Zd.of_below (Za a4))) j1 g2)
 have m6:=j1.blkT (((b5.blkT ((b6.below a8.below).below a0) c3 (by decide)).below a1).below (Za a4)) d3 (by decide)
 have q9:=j1.own2 (Zb (Zb f2 a1) (Za a4)) d3 (by decide)
 have l0:=j1.own2 (Zb (Zb (b5.own2 (Zh h8 f4) c3 (by decide)) a1) (Za a4)) d3 (by decide)
 exact xec 4 u6 (.tuple #[.agg #[V0 (Qm (inB l no)),.bool (Xp (inB l no)),.slice kp (Zt (inB l no)) kc,.slice vp (Zt (inB l no)) vc],.nilIface]) ⟨m3,hO,m6,.inr ⟨by(unfold Yk;(repeat' split)<;>first|rfl|assumption|decide|omega|exact absurd (Eq.trans (Eq.symm ‹Vj _ _=true›) ‹Vj _ _=false›) (by decide)|(rename_i q;exact absurd ⟨by assumption,by assumption,by assumption⟩ q)|(rename_i q;obtain⟨q1,q2,q3⟩:=q;exact absurd (Eq.trans (Eq.symm q1) ‹Xp _=false›) (by decide))|(rename_i q;obtain⟨q1,q2,q3⟩:=q;omega)),by assumption,_,_,_,_,rfl,q9,l0⟩⟩
def Ju(K:List Int)(Vs:List Bl)(no:Int)(k:Nat):List Ent:=(List.range k).map fun j=>(K.getD j 0,Vs.getD j [],no)
theorem Lo(K:List Int)(Vs:List Bl)(no:Int)(k:Nat):(Ju K Vs no k).length=k:=by simp[Ju]
theorem leafL_snoc(K:List Int)(Vs:List Bl)(no:Int)(k:Nat):Ju K Vs no (k+1)=Ju K Vs no k++[(K.getD k 0,Vs.getD k [],no)]:=by simp[Ju,List.range_succ]
theorem Zg3(es:List Ent)(K:List Int)(Vs:List Bl)(no:Int)(k:Nat):(es++Ju K Vs no k).flatMap Qz++[V0 (K.getD k 0),.string ⟨(Vs.getD k []).toArray⟩,V0 no]=(es++Ju K Vs no (k+1)).flatMap Qz:=by
 rw[leafL_snoc,←List.append_assoc,List.flatMap_append (xs:=es++Ju K Vs no k)]
 rfl
def LeafP(B bw:Nat)(c1 c3 c4 c5 c6 c7:Value)(pw:O0)(cw:Nat)(way:List Int)(c9:Value)(es:List Ent)(K:List Int)(Vs:List Bl)(no:Int)(n:Nat)(w:World)(e:Ending)(w':World):Prop :=
 ∃ u pe ce,e=.returned u∧Below B w w'∧Zd [251,122] w w'∧Blk w' bw [.slice pe (es.length+n) ce,c1,V0 (↑(way.length+1):Int),c3,c4,c5,c6,c7,.slice pw way.length cw,c9] 251∧w'.ownsRow B 122 3 (.slice pe (es.length+n) ce) (es.length+n) ((es++Ju K Vs no n).flatMap Qz)
theorem Zd2(B bw:Nat)(c1 c2 c3 c4 c5 c6 c7 c9:Value)(pe:O0)(ce:Nat)(es:List Ent)(pw:O0)(cw:Nat)(way:List Int)(no:Int)(nt:Int)(nl:Bool)(kp vp:O0)(n kc vc:Nat)(K:List Int)(Vs:List Bl)(w:World)(hBb:B≤bw)(hBw:B≤w.heap.size)(kW:Blk w bw [.slice pe es.length ce,c1,c2,c3,c4,c5,c6,c7,.slice pw way.length cw,c9] 251)(hE:w.ownsRow B 122 3 (.slice pe es.length ce) es.length (es.flatMap Qz))(hKs:∀ W,Below B w W→Zd [251,122] w W→Sl W (.slice kp n kc) n (K.map V0))(hVs:∀ W,Below B w W→Zd [251,122] w W→Sl W (.slice vp n vc) n (Vs.map sv))(hKl:K.length=n)(hVl:Vs.length=n)(hwl:way.length≤100000000)(hn:es.length+n≤100000000) :
 C0 206 #[P0 bw,V0 no,.agg #[V0 nt,.bool nl,.slice kp n kc,.slice vp n vc]] w (LeafP B bw c1 c3 c4 c5 c6 c7 pw cw way c9 es K Vs no n w):=by
 refine zin 46 Tryz.func206 ?_
 refine xa 2 [V0 nt,.bool nl,.slice kp n kc,.slice vp n vc] 183 fun b1 W1 n1=>?_
 have a8:=kW.below n1.below
 refine xb 8 8 a8 ?_
 refine xwm 1 ((way.length:Int)+1) (↑(way.length+1):Int) ?_
 refine xs 3 a8 [.slice pe es.length ce,c1,V0 (↑(way.length+1):Int),c3,c4,c5,c6,c7,.slice pw way.length cw,c9] fun W2 u2 k2=>?_
 have k1:=u2.blkT n1.blk a8 (by decide)
 refine xb 5 2 k1 ?_
 have d8:=u2.own2 (Zb hE n1.below) a8 (by decide)
 have hB:=u2.below (blB (Below.refl B w) hBw n1.below) hBb
 have hO:=(show Zd [251,122] w _ from(Zd.of_below n1.below)).trans (Zd.of_upd u2 a8 (by decide))
 refine zl 5 46 (fun zm f1 V=>∃ (i:Nat) (pe:O0) (ce:Nat),f1=[(0,P0 bw),(1,V0 no),(5,P0 b1),(19,.slice kp n kc),(20,V0 (n:Int)),(21,V0 (i:Int))]∧zm=n-((i:Int)).toNat∧Below B w V∧Zd [251,122] w V∧Blk V bw ([.slice pe (es.length+i) ce,c1,V0 (↑(way.length+1):Int),c3,c4,c5,c6,c7,.slice pw way.length cw,c9]) 251∧Blk V b1 ([V0 nt,.bool nl,.slice kp n kc,.slice vp n vc]) 183∧V.ownsRow B 122 3 (.slice pe (es.length+i) ce) (es.length+i) ((es++Ju K Vs no i).flatMap Qz)∧i≤n) ⟨0,_,_,rfl,rfl,hB,hO,k2,k1,(by simpa [Ju] using d8),Nat.zero_le _⟩ ?_
 rintro _ _ W3 ⟨i,pe,ce,rfl,rfl,b4,b0,a7,b9,hE,hi⟩ J3 e2 r3
 refine xid 6 ((i:Int)<(n:Int)) (fun e9=>?_) (fun e9=>?_)
 ·refine xx 7 _ n i 1 (IntsN.elem (hKs _ b4 b0) hKl (k:=i) (by omega)).1 ?_
  refine xl 0 ((IntsN.elem (hKs _ b4 b0) hKl (k:=i) (by omega)).2) ?_
  refine xd 4 (.t B [251,122]) ?_
  have a2:=b9.below (Za W3)
  refine xbt (.e [0,1,2,3,4,6,7] 8) 3 B [251,122] a2 ?_
  have a5:=blB b4 hBw (Za W3)
  have b2:=b0.trans (Zd.of_below (Za W3))
  refine xx (.e [9] 10) _ n i 1 (Strs.elem (hVs _ a5 b2) hVl (k:=i) (by omega)).1 ?_
  refine xlt (.e [] 11) (.t B [251,122]) (fun V hV=>(Strs.elem (hVs _ (Of a5 hV hBw) (b2.trans hV.2)) hVl (k:=i) (by omega)).2) ?_
  refine xm2 (.b [12,13]) 5 14 ?_ ?_
  ·have a4:=a7.below (Za W3)
   refine xb 0 0 a4 ?_
   refine xbs (.o [] 14) 1 [V0 (K.getD i 0),.string ⟨(Vs.getD i []).toArray⟩,V0 no] 122 fun b5 W5 n5=>?_
   have g5:=n5.ge0 a5
   have c0:=Zb hE (Za W3)
   have e4:=Zu c0 n5
   have a9:=Zb c0 n5.below
   have c8:=blB a5 hBw n5.below
   refine ybi (.o [] 15) (.t B [251,122]) fun _ _ _ _ zJ zQ zo zx zy zK=>Xd (m:=1) (news:=[V0 (K.getD i 0),.string ⟨(Vs.getD i []).toArray⟩,V0 no]) (.agg #[V0 0,.string ⟨#[]⟩,V0 0]) 3 32 ((es.length+(i+1))) (((es++Ju K Vs no (i+1)).flatMap Qz)) zo Tryz.underlying105 (by kernel_rfl) rfl (by decide) zx a9 zy (n5.blk.sl 1 1 (by decide) (by decide)) rfl (by simp[Value.oneCell']) (by unfold maxLen;omega) (by omega) (Nat.le_trans hBw c8.size) (by omega) (Zg3 _ _ _ _ _) fun e8 f0 W6 o6 d3 e1=>?_
   refine zK _ _ (Xv e1 d3 a9 (by decide)) ?_
   have a0:=(a4.below n5.below).grown d3 a9 (by decide)
   refine ys (.o [16,17,18] 19) a0 [.slice e8 (es.length+(i+1)) f0,c1,V0 (↑(way.length+1):Int),c3,c4,c5,c6,c7,.slice pw way.length cw,c9] (.t B [251,122]) fun W7 u7 k7=>⟨(Zl u7 a0 hBb (by decide)),?_⟩
   refine xwm 4 ((i:Int)+1) (↑(i+1):Int) ?_
   have d9:=u7.below (c8.trans e1) hBb
   have d5:=((b2.trans (Zd.of_below n5.below)).trans (Zd.of_grown d3 a9 (by decide))).trans (Zd.of_upd u7 a0 (by decide))
   have b3:=u7.blkT ((a2.below n5.below).grown d3 a9 (by decide)) a0 (by decide)
   have e0:=u7.own2 o6 a0 (by decide)
   exact ze 2 (e2 _ _ _ ⟨i+1,_,_,rfl,rfl,d9,d5,k7,b3,e0,by omega⟩ (by omega))
  refine xbs 0 1 [V0 (K.getD i 0),.string ⟨(Vs.getD i []).toArray⟩,V0 no] 122 fun b8 W8 n8=>?_
  have g8:=n8.ge0 a5
  have d1:=Zb hE (Za W3)
  have e3:=Zu d1 n8
  have a3:=(a7.below (Za W3)).below n8.below
  refine xb (.o [] 5) 0 a3 ?_
  have a6:=Zb d1 n8.below
  have d0:=blB a5 hBw n8.below
  refine ybi (.o [] 15) (.t B [251,122]) fun _ _ _ _ zJ zQ zo zx zy zK=>Xd (m:=1) (news:=[V0 (K.getD i 0),.string ⟨(Vs.getD i []).toArray⟩,V0 no]) (.agg #[V0 0,.string ⟨#[]⟩,V0 0]) 3 32 ((es.length+(i+1))) (((es++Ju K Vs no (i+1)).flatMap Qz)) zo Tryz.underlying105 (by kernel_rfl) rfl (by decide) zx a6 zy (n8.blk.sl 1 1 (by decide) (by decide)) rfl (by simp[Value.oneCell']) (by unfold maxLen;omega) (by omega) (Nat.le_trans hBw d0.size) (by omega) (Zg3 _ _ _ _ _) fun e7 f2 W9 o9 d2 e5=>?_
  refine zK _ _ (Xv e5 d2 a6 (by decide)) ?_
  have a1:=a3.grown d2 a6 (by decide)
  refine ys (.o [16,17,18] 19) a1 [.slice e7 (es.length+(i+1)) f2,c1,V0 (↑(way.length+1):Int),c3,c4,c5,c6,c7,.slice pw way.length cw,c9] (.t B [251,122]) fun f3 b7 e6=>⟨(Zl b7 a1 hBb (by decide)),?_⟩
  refine xwm 4 ((i:Int)+1) (↑(i+1):Int) ?_
  have d6:=b7.below (d0.trans e5) hBb
  have d4:=((b2.trans (Zd.of_below n8.below)).trans (Zd.of_grown d2 a6 (by decide))).trans (Zd.of_upd b7 a1 (by decide))
  have b6:=b7.blkT ((a2.below n8.below).grown d2 a6 (by decide)) a1 (by decide)
  have d7:=b7.own2 o9 a1 (by decide)
  exact ze 2 (e2 _ _ _ ⟨i+1,_,_,rfl,rfl,d6,d4,e6,b6,d7,by omega⟩ (by omega))
 refine xe 4 (.tuple #[]) ?_
 obtain rfl:i=n:=by omega
 exact⟨_,_,_,rfl,b4,b0,a7,hE⟩
end Go.Proofs.YtceeiinepijokaaGreat
namespace Go.Proofs.YtceeiinepijokaaGreat
set_option maxHeartbeats 8000000
set_option maxRecDepth 100000
open Go.RowKit Go.Extern.Stop Go.Stop Go.Extern
set_option linter.unusedVariables false
def Jt(u v:Value):Prop:=∀ j,u.ownBlock=some j→v.ownBlock≠some j
theorem Jt.symm{u v:Value}(h:Jt u v):Jt v u:=fun j h1 h2=>h j h2 h1
theorem Jt.grow{w:World}{u v u':Value}{base e size n:Nat}{xs:List Value}(h:Jt u v)(k:w.ownsRow base e size v n xs)(hl:u'.ownBlock=u.ownBlock∨u'.ownBlock=some w.heap.size):Jt u' v:=by
 rintro j h1 h2
 rcases hl with hl|hl
 ·exact h j (hl▸h1) h2
 ·rw[hl,Option.some.injEq] at h1
  subst h1
  have:=(k.lt _ h2).2
  omega
theorem Jt.row{w W:World}{u v:Value}{base e size n:Nat}{xs:List Value}(h:Jt u v)(k:w.ownsRow base e size v n xs)(hg:w.grownBy W u.ownBlock):W.ownsRow base e size v n xs:=by
 obtain⟨h1,h2⟩:=k
 refine⟨h1,?_⟩
 rcases h2 with h2|⟨g,a1,a0,rfl,hb,hh,r⟩
 ·exact Or.inl h2
 ·exact Or.inr ⟨g,a1,a0,rfl,hb,(hg.block g (Array.getElem?_eq_some_iff.1 hh).1 (fun q=>h g q.symm rfl)).trans hh,r⟩
theorem Jt.of_lt{w W:World}{u v:Value}{base base2 e e2 size size2 n n2:Nat}{xs ys:List Value}(k:w.ownsRow base e size u n xs)(q:W.ownsRow base2 e2 size2 v n2 ys)(h:w.heap.size≤base2):Jt u v:=fun j h1 h2=>by
 have:=(k.lt j h1).2
 have:=(q.lt j h2).1
 omega
theorem Jt.nil(v:Value):Jt (S0) v:=fun j h=>by cases h
theorem own_cut{w:World}{base e n m c:Nat}{p:O0}{xs:List Value}(k:w.ownsRow base e 1 (.slice p n c) n xs)(hm:m≤n)(hp:p.isSome=true):w.ownsRow base e 1 (.slice p m c) m (xs.take m):=by
 obtain⟨h1,h2⟩:=k
 refine⟨by rw[List.length_take];omega,?_⟩
 rcases h2 with ⟨h2,_⟩|⟨g,a4,a0,hv,hb,hh,hc,a3,a2,a1⟩
 ·cases h2;cases hp
 ·simp only[Value.slice.injEq] at hv
  obtain⟨rfl,_,rfl⟩:=hv
  refine Or.inr ⟨g,c,a0,rfl,hb,hh,by omega,a3,a2,?_⟩
  rw[←a1,List.take_take]
  congr 1
  omega
theorem Ud{P:Program}{a:Act}{w:World}{K:Act→World→Prop}{Q:Exit→Act→World→Prop}{o:Oper}{s x:Operand}{t e te:TypeId}{base:Nat}{v:Value}{n:Nat}{xs:List Value}{b m c:Nat}{news:List Value}(z:Value)(size bytes n':Nat)(xs':List Value)
 (ho:o.op=.call { callee:=.builtin .append,args:=#[s,x],argTypes:=#[t,t] }) (ht:P.underlying t=some (.slice e)) (hi:(P.info? e).map (fun i=>(i.zero,i.size,i.bytes))=some (some z,size,bytes)) (hzs:z.cells.size=size) (hsz:0<size) (hs:a.eval s=v)
 (hown:w.ownsRow base e size v n xs) (hx:a.eval x=.slice (S1 b) m c) (hnew:Blk w b news te) (hl:news.length=m*size) (h1:∀ u∈news,u.oneCell'=true) (h63:n+m≤maxLen) (hbytes:(n+m)*bytes≤140737488355328) (hbase:base≤w.heap.size) (hn:n+m=n') (hxs:xs++news=xs')
 (h:∀ p c W,W.ownsRow base e size (.slice p n' c) n' xs'→w.grownBy W v.ownBlock→Below base w W→((Value.slice p n' c).ownBlock=v.ownBlock∨(Value.slice p n' c).ownBlock=some w.heap.size)→K (a.put o.dst (.slice p n' c)) W):o.wp P a w K Q:=by
 cases hq:P.info? e with
 | none=>simp[hq] at hi
 | some i =>
  simp only[hq,Option.map_some,Option.some.injEq,Prod.mk.injEq] at hi
  have hc:∀ j u,news[j]? = some u→w.cell? ((⟨b,0,none⟩:Addr).add j)=some u:=fun j u hj=>by
   have hc:=hnew.cell hj
   by_cases h0:j=0
   ·subst h0;simpa [Addr.add] using hc
   ·simpa [Addr.add,h0] using hc
  obtain⟨v',W,hr,h2,h3,_,h5⟩:=run_append_own_at (P:=P) w base t o.type e i z size bytes ht hq hi.1 hi.2.1 hi.2.2 hzs hsz v n xs hown ⟨b,0,none⟩ m c news hl hc h1 h63 hbytes hbase
  subst hn hxs
  obtain⟨p,c2,rfl⟩:=(Zf h2).slice
  unfold Oper.wp execOp
  simp only[ho,resolve,invoke,builtin,Sem.run_bind,Sem.run_pure,Result.andThen_ok,List.map_toArray,List.map_cons,List.map_nil,hs,hx,hr]
  exact h p c2 W h2 h3 (Kx h3 hown (Nat.le_refl _) hbase) h5
structure WS where
 es:List Ent
 bs:List Int
 deep:Int
 looked:Nat
 fs:List (List Int×Int)
 dry:Bool
def Qx(way bs:List Int)(c:Int)(s:WS):WS:={ s with fs:=s.fs++[(way++bs,c)] }
def Jq(V:List Int→Int→Int→Int→WS→WS)(way:List Int)(no:Int)(val:Bl)(p:Int×Int)(s:WS):WS :=
 if Xj val=0 then V (way++[no]) (Xm val:Int) p.1 p.2 s else Qx way [no] (Xj val) s
def Yo(l:Bl)(no:Int):List Int:=Vt (inB l no) (Zt (inB l no))
def Yx(l:Bl)(no:Int):List Bl:=Hz (inB l no) (Zt (inB l no))
def Ec(V:List Int→Int→Int→Int→WS→WS)(l:Bl)(way:List Int)(no hi:Int)(s:WS)(i:Nat):WS :=
 if s.dry=true then s else Jq V way no ((Yx l no).getD i []) (Xt hi (Yo l no) i) s
def Yq(V:List Int→Int→Int→Int→WS→WS)(l:Bl)(way:List Int)(no hi:Int)(k:Nat)(s:WS):WS:=(List.range k).foldl (Ec V l way no hi) s
def Zx(l:Bl)(tree fuel:Int):Nat→List Int→Int→Int→Int→WS→WS
 | 0,_,_,_,_,s=>s
 | d+1,way,no,lo,hi,s =>
  if fuel≤s.looked then { Qx way [no] 12 s with dry:=true }
  else if Yk l way no tree lo hi s.deep≠0 then Qx way [no] (Yk l way no tree lo hi s.deep) { s with looked:=s.looked+1 }
  else if Xp (inB l no)=true then { s with looked:=s.looked+1,bs:=s.bs++[no],deep:=((way.length+1:Nat):Int),es:=s.es++Ju (Yo l no) (Yx l no) no (Zt (inB l no)) }
  else Yq (Zx l tree fuel d) l way no hi (Zt (inB l no)) { s with looked:=s.looked+1,bs:=s.bs++[no] }
theorem Pt(V:List Int→Int→Int→Int→WS→WS)(l:Bl)(way:List Int)(no hi:Int)(k:Nat)(s:WS):Yq V l way no hi (k+1) s=Ec V l way no hi (Yq V l way no hi k s) k:=by
 simp[Yq,List.range_succ]
theorem roundW_dry(V:List Int→Int→Int→Int→WS→WS)(l:Bl)(way:List Int)(no hi:Int)(s:WS)(i:Nat)(h:s.dry=true):Ec V l way no hi s i=s:=by simp[Ec,h]
theorem loopW_dry(V:List Int→Int→Int→Int→WS→WS)(l:Bl)(way:List Int)(no hi:Int)(s:WS){k n:Nat}(hk:k≤n)(h:(Yq V l way no hi k s).dry=true):Yq V l way no hi n s=Yq V l way no hi k s:=by
 induction n with
 | zero =>
  obtain rfl:k=0:=by omega
  rfl
 | succ n ih =>
   rcases Nat.lt_or_ge n k with q|q
   ·obtain rfl:k=n+1:=by omega
    rfl
   ·rw[Pt,ih q,roundW_dry _ _ _ _ _ _ _ h]
def Jy(w:World):List (List Int×Int)→List Value→Prop
 | [],[]=>True
 | f::r,v::q=>Va w (f.1.map some) (some f.2) v∧Jy w r q
 | _,_=>False
theorem Jy.kept{w W:World}(hb:∀ blk cs,Blk w blk cs 258→Blk W blk cs 258):∀ {fs:List (List Int×Int)} {vs:List Value},Jy w fs vs→Jy W fs vs
 | [],[],h=>h
 | _::_,_::_,h=>⟨h.1.kept hb,Jy.kept hb h.2⟩
 | [],_::_,h=>h.elim
 | _::_,[],h=>h.elim
theorem Jy.only{T:List TypeId}{w W:World}{fs:List (List Int×Int)}{vs:List Value}(h:Jy w fs vs)(k:Zd T w W)(hT:T.contains 258=false):Jy W fs vs:=h.kept fun _ _ q=>q.only k hT
theorem Jy.below{w W:World}{fs:List (List Int×Int)}{vs:List Value}(h:Jy w fs vs)(hb:B3 w W):Jy W fs vs:=h.kept fun _ _ q=>q.below hb
theorem Jy.snoc{w:World}{f:List Int×Int}{v:Value}(hv:Va w (f.1.map some) (some f.2) v):∀ {fs:List (List Int×Int)} {vs:List Value},Jy w fs vs→Jy w (fs++[f]) (vs++[v])
 | [],[],_=>⟨hv,trivial⟩
 | _::_,_::_,h=>⟨h.1,Jy.snoc hv h.2⟩
 | [],_::_,h=>h.elim
 | _::_,[],h=>h.elim
structure WalkR(B bw Bi b:Nat)(pi:Option Addr)(ni ci:Nat)(l:List UInt8)(tree fuel:Int)(way:List Int)(s:WS)(pe pb pf pw:Option Addr)(ce cb cf cw:Nat)(fv:List Value)(w:World):Prop where
 blk:Blk w bw [.slice pe s.es.length ce,.slice pb s.bs.length cb,.int .i64 s.deep,.int .i64 (s.looked:Int),.slice pf s.fs.length cf,.pointer (some ⟨b,0,none⟩),.int .i64 tree,.int .i64 fuel,.slice pw way.length cw,.bool s.dry] 251
 ents:w.ownsRow B 122 3 (.slice pe s.es.length ce) s.es.length (s.es.flatMap Qz)
 blks:w.ownsRow B 3 1 (.slice pb s.bs.length cb) s.bs.length (s.bs.map (Value.int .i64))
 flts:w.ownsRow B 32 1 (.slice pf s.fs.length cf) s.fs.length fv
 fltv:Jy w s.fs fv
 ways:w.ownsRow B 3 1 (.slice pw way.length cw) way.length (way.map (Value.int .i64))
 apart:Jt (.slice pb s.bs.length cb) (.slice pw way.length cw)
 img:ImgR Bi b pi ni ci l w
def VisitP(B bw Bi b:Nat)(pi:O0)(ni ci:Nat)(l:Bl)(tree fuel:Int)(way:List Int)(t:WS)(w:World)(e:Ending)(w':World):Prop :=
 ∃ u pe pb pf pw ce cb cf cw fv,e=.returned u∧Below B w w'∧Zd [251,122,3,32] w w'∧WalkR B bw Bi b pi ni ci l tree fuel way t pe pb pf pw ce cb cf cw fv w'
end Go.Proofs.YtceeiinepijokaaGreat
namespace Go.Proofs.YtceeiinepijokaaGreat
set_option maxHeartbeats 8000000
set_option maxRecDepth 100000
open Go.RowKit Go.Extern.Stop Go.Stop Go.Extern
set_option linter.unusedVariables false
attribute [local irreducible] wpList wpAnyH Code.wp Oper.wp Go
theorem Et{w:World}{base e n c:Nat}{p:O0}{xs:List Value}(k:w.ownsRow base e 1 (.slice p n c) n xs)(hn:0<n):p.isSome=true∧n≤c:=by
 rcases k.2 with ⟨h,_⟩|⟨g,a1,a0,hv,_,_,hc,_⟩
 ·simp only[Value.slice.injEq] at h;omega
 ·simp only[Value.slice.injEq] at hv
  obtain⟨rfl,_,rfl⟩:=hv
  exact⟨rfl,hc⟩
theorem Sq{w:World}{base e c:Nat}{p:O0}{way:List Int}{no:Int}(k:w.ownsRow base e 1 (.slice p (way++[no]).length c) (way++[no]).length ((way++[no]).map V0)):w.ownsRow base e 1 (.slice p way.length c) way.length (way.map V0):=by
 have h:=own_cut (m:=way.length) k (by simp) (Et k (by simp)).1
 rwa [List.map_append,List.take_left' (by simp)] at h
theorem Zej{w w':World}(h:Zd [251,32] w w'):Zd [251,122,3,32] w w':=h.mono fun t ht=>by
 simp only[List.contains_cons,List.contains_nil,Bool.or_eq_false_iff] at ht ⊢
 exact⟨ht.1,ht.2.2.2⟩
def VisitC(B bw Bi b:Nat)(pi:O0)(ni ci:Nat)(l:Bl)(tree fuel:Int)(d:Nat):Prop :=
 ∀ (way:List Int) (no lo hi:Int) (s:WS) (pe pb pf pw:O0) (ce cb cf cw:Nat) (fv:List Value) (w:World),way.length+d=17→B≤w.heap.size→s.dry=false→WalkR B bw Bi b pi ni ci l tree fuel way s pe pb pf pw ce cb cf cw fv w →
  (Zx l tree fuel d way no lo hi s).es.length≤100000000→(Zx l tree fuel d way no lo hi s).bs.length≤100000000→(Zx l tree fuel d way no lo hi s).fs.length≤100000000 →
  C0 146 #[P0 bw,V0 no,.agg #[V0 lo,V0 hi]] w (VisitP B bw Bi b pi ni ci l tree fuel way (Zx l tree fuel d way no lo hi s) w)
theorem Zc5(B bw Bi b:Nat)(pi:O0)(ni ci:Nat)(l:Bl)(tree fuel:Int)(d:Nat)(hV:VisitC B bw Bi b pi ni ci l tree fuel d)(way:List Int)(no lo hi:Int)(val:Bl)(s:WS)(pe pb pf pw:O0)(ce cb cf cw:Nat)(fv:List Value)(w:World)(hBb:B≤bw)(hBw:B≤w.heap.size)(hwd:way.length+1+d=17)(hdry:s.dry=false)(hvl:val.length≤1000)(hR:WalkR B bw Bi b pi ni ci l tree fuel (way++[no]) s pe pb pf pw ce cb cf cw fv w)(he:(Jq (Zx l tree fuel d) way no val (lo,hi) s).es.length≤100000000)(hb_:(Jq (Zx l tree fuel d) way no val (lo,hi) s).bs.length≤100000000)(hf:(Jq (Zx l tree fuel d) way no val (lo,hi) s).fs.length≤100000000) :
 C0 208 #[P0 bw,V0 no,.string ⟨val.toArray⟩,.agg #[V0 lo,V0 hi]] w (VisitP B bw Bi b pi ni ci l tree fuel (way++[no]) (Jq (Zx l tree fuel d) way no val (lo,hi) s) w):=by
 obtain⟨kW,d0,d3,d2,d1,c4,d4,hI⟩:=hR
 have e6:=(Et c4 (by simp)).2
 have e1:(way++[no]).length=way.length+1:=by simp
 refine zin 44 Tryz.func208 ?_
 refine xa 2 [V0 lo,V0 hi] 254 fun b1 W1 n1=>?_
 refine xr 5 (args:=#[.string ⟨val.toArray⟩]) (Yv val _ hvl) fun W2 a0=>?_
 refine xie 14 (Xj val) (0:Int) (fun d7=>?_) (fun d7=>?_)
 ·have k1:=n1.blk.below a0
  refine xlv 4 k1.rp ?_
  have a4:Jq (Zx l tree fuel d) way no val (lo,hi) s=Zx l tree fuel d (way++[no]) (Xm val:Int) lo hi s:=by unfold Jq;rw[if_pos (by assumption)]
  have hB:=blB (blB (Below.refl B w) hBw n1.below) hBw a0
  have c9:=(kW.below n1.below).below a0
  have b9:=Zb (Zb d0 n1.below) a0
  have b5:=Zb (Zb d3 n1.below) a0
  have a7:=Zb (Zb d2 n1.below) a0
  have b7:=(d1.below n1.below).below a0
  have b6:=Zb (Zb c4 n1.below) a0
  have c8:=(hI.below n1.below).below a0
  refine xc 0 (args:=#[P0 bw,V0 (↑(Xm val):Int),.agg #[V0 lo,V0 hi]]) (hV (way++[no]) (Xm val:Int) lo hi s pe pb pf pw ce cb cf cw fv _ (by simp;omega) (Nat.le_trans hBw hB.size) hdry ⟨c9,b9,b5,a7,b7,b6,d4,c8⟩ (by have q:=he;rw[a4] at q;exact q) (by have q:=hb_;rw[a4] at q;exact q) (by have q:=hf;rw[a4] at q;exact q)) ?_
  rintro _ W4 ⟨u4,e3,e9,c6,e2,e7,e8,c1,e4,e5,rfl,d6,d9,d8⟩
  have c2:=hB.trans d6
  have hO:=((show Zd [251,122,3,32] w _ from(Zd.of_below n1.below)).trans (Zd.of_below a0)).trans d9
  refine xe 4 (.tuple #[]) ?_
  rw[a4]
  exact⟨_,_,_,_,_,_,_,_,_,_,rfl,c2,hO,d8⟩
 have a1:=(kW.below n1.below).below a0
 refine xb 7 8 a1 ?_
 refine xwm 9 ((↑((way++[no]).length):Int)-1) (↑(((way++[no]).length)-1):Int) ?_
 refine xsH 0 (fun _ _ _ _ zo zx zy V=>Qf (k:=(((way++[no]).length)-1)) (b:=pw) (n:=(way++[no]).length) (c:=cw) (i:=(↑(((way++[no]).length)-1):Int)) (ki:=.i64) zo zx zy rfl (by omega) Tryz.underlying35 (by kernel_rfl) V) ?_
 refine xs 2 a1 [.slice pe s.es.length ce,.slice pb s.bs.length cb,V0 s.deep,V0 (s.looked:Int),.slice pf s.fs.length cf,P0 b,V0 tree,V0 fuel,.slice pw (((way++[no]).length)-1) cw,.bool s.dry] fun W5 u5 k5=>?_
 refine xc 8 (args:=#[V0 no,.iface 89 (V0 (Xj val))]) (Yn no (some (Xj val)) [] _ _ rfl) ?_
 rintro _ W6 ⟨r6,rfl,a2,c5⟩
 rw[Qa] at c5
 obtain⟨t6,x6,rfl⟩:=c5.iface
 have b0:=k5.below a2
 have a4:Jq (Zx l tree fuel d) way no val (lo,hi) s=Qx way [no] (Xj val) s:=by unfold Jq;rw[if_neg (by assumption)]
 rw[show(way++[no]).length-1=way.length by omega] at b0
 have hB:=blB (u5.below (blB (blB (Below.refl B w) hBw n1.below) hBw a0) hBb) hBw a2
 have b4:=Zb (u5.own2 (Zb (Zb d2 n1.below) a0) a1 (by decide)) a2
 have a3:=Zb (u5.own2 (Zb (Zb c4 n1.below) a0) a1 (by decide)) a2
 refine xc 0 (args:=#[P0 bw,.iface t6 (x6)]) (Mj B bw _ _ _ _ _ _ _ _ pf _ cf fv pw cw way [no] (Xj val) _ _ _ hBb (Nat.le_trans hBw hB.size) b0 b4 (Sq a3) c5 (by omega) (by have:=hf;rw[a4] at this;simp[Qx] at this;omega)) ?_
 rintro _ W7 ⟨u7,c6,c1,t2,x2,rfl,e0,a6,kN,c3,d5⟩
 refine xs 7 kN [.slice pe s.es.length ce,.slice pb s.bs.length cb,V0 s.deep,V0 (s.looked:Int),.slice c6 (s.fs.length+1) c1,P0 b,V0 tree,V0 fuel,.slice pw ((way++[no]).length) cw,.bool s.dry] fun W8 u8 k8=>?_
 have c7:=u8.below (hB.trans e0) hBb
 have hO:=(((((show Zd [251,122,3,32] w _ from(Zd.of_below n1.below)).trans (Zd.of_below a0)).trans (Zd.of_upd u5 a1 (by decide))).trans (Zd.of_below a2)).trans (Zej a6)).trans (Zd.of_upd u8 kN (by decide))
 have b2:=u8.own2 (Zi (Zb (u5.own2 (Zb (Zb d0 n1.below) a0) a1 (by decide)) a2) a6 (by decide)) kN (by decide)
 have b3:=u8.own2 (Zi (Zb (u5.own2 (Zb (Zb d3 n1.below) a0) a1 (by decide)) a2) a6 (by decide)) kN (by decide)
 have a5:=u8.own2 c3 kN (by decide)
 have b8:=d5.upd u8 kN (by decide)
 have a8:=(((((d1.below n1.below).below a0).only (Zd.of_upd (T:=[251]) u5 a1 (by decide)) (by decide)).below a2).only a6 (by decide)).only (Zd.of_upd (T:=[251]) u8 kN (by decide)) (by decide)
 have a9:=u8.own2 (Zi a3 a6 (by decide)) kN (by decide)
 have c0:=(((((hI.below n1.below).below a0).only (Zd.of_upd (T:=[251]) u5 a1 (by decide)) (by decide)).below a2).only a6 (by decide)).only (Zd.of_upd (T:=[251]) u8 kN (by decide)) (by decide)
 refine xe 1 (.tuple #[]) ?_
 rw[a4]
 exact⟨_,pe,pb,c6,pw,ce,cb,c1,cw,_,rfl,c7,hO,by simpa [Qx] using k8,b2,b3,by simpa [Qx] using a5,Jy.snoc b8 a8,a9,d4,c0⟩
end Go.Proofs.YtceeiinepijokaaGreat
namespace Go.Proofs.YtceeiinepijokaaGreat
set_option maxHeartbeats 8000000
set_option maxRecDepth 100000
open Go.RowKit Go.Extern.Stop Go.Stop Go.Extern
set_option linter.unusedVariables false
def Zai(s t:WS):Prop:=s.es.length≤t.es.length∧s.bs.length≤t.bs.length∧s.fs.length≤t.fs.length
theorem Zai.refl(s:WS):Zai s s:=⟨Nat.le_refl _,Nat.le_refl _,Nat.le_refl _⟩
theorem Zai.trans{s t u:WS}(h:Zai s t)(k:Zai t u):Zai s u:=⟨Nat.le_trans h.1 k.1,Nat.le_trans h.2.1 k.2.1,Nat.le_trans h.2.2 k.2.2⟩
theorem noteW_grow(way bs:List Int)(c:Int)(s:WS):Zai s (Qx way bs c s):=⟨Nat.le_refl _,Nat.le_refl _,by simp[Qx]⟩
theorem Zeo{V:List Int→Int→Int→Int→WS→WS}(hV:∀ way no lo hi s,Zai s (V way no lo hi s))(way:List Int)(no:Int)(val:Bl)(p:Int×Int)(s:WS):Zai s (Jq V way no val p s):=by
 unfold Jq
 split
 ·exact hV _ _ _ _ _
 ·exact noteW_grow _ _ _ _
theorem Ze9{V:List Int→Int→Int→Int→WS→WS}(hV:∀ way no lo hi s,Zai s (V way no lo hi s))(l:Bl)(way:List Int)(no hi:Int)(s:WS)(i:Nat):Zai s (Ec V l way no hi s i):=by
 unfold Ec
 split
 ·exact Zai.refl _
 ·exact Zeo hV _ _ _ _ _
theorem Ag{V:List Int→Int→Int→Int→WS→WS}(hV:∀ way no lo hi s,Zai s (V way no lo hi s))(l:Bl)(way:List Int)(no hi:Int)(s:WS){k n:Nat}(hk:k≤n):Zai (Yq V l way no hi k s) (Yq V l way no hi n s):=by
 induction n with
 | zero =>
  obtain rfl:k=0:=by omega
  exact Zai.refl _
 | succ n ih =>
   rcases Nat.lt_or_ge n k with q|q
   ·obtain rfl:k=n+1:=by omega
    exact Zai.refl _
   ·rw[Pt]
    exact(ih q).trans (Ze9 hV _ _ _ _ _ _)
theorem loopW_zero(V:List Int→Int→Int→Int→WS→WS)(l:Bl)(way:List Int)(no hi:Int)(s:WS):Yq V l way no hi 0 s=s:=rfl
theorem Nx(l:Bl)(tree fuel:Int):∀ (d:Nat) (way:List Int) (no lo hi:Int) (s:WS),Zai s (Zx l tree fuel d way no lo hi s)
 | 0,_,_,_,_,s=>Zai.refl s
 | d+1,way,no,lo,hi,s=>by
  unfold Zx
  split
  ·exact⟨Nat.le_refl _,Nat.le_refl _,by simp[Qx]⟩
  ·split
   ·exact⟨Nat.le_refl _,Nat.le_refl _,by simp[Qx]⟩
   ·split
    ·exact⟨by simp,by simp,Nat.le_refl _⟩
    ·refine Zai.trans ⟨?_,?_,?_⟩ (Ag (Nx l tree fuel d) l way no hi _ (Nat.zero_le _))
     ·exact Nat.le_refl _
     ·simp[loopW_zero]
     ·exact Nat.le_refl _
section
variable {B bw Bi b:Nat} {pi:Option Addr} {ni ci:Nat} {l:List UInt8} {tree fuel:Int} {way:List Int} {s:WS} {pe pb pf pw:Option Addr} {ce cb cf cw:Nat} {fv:List Value} {w W:World}
theorem WalkR.below(h:WalkR B bw Bi b pi ni ci l tree fuel way s pe pb pf pw ce cb cf cw fv w)(hb:B3 w W):WalkR B bw Bi b pi ni ci l tree fuel way s pe pb pf pw ce cb cf cw fv W :=
 ⟨h.blk.below hb,Zb h.ents hb,Zb h.blks hb,Zb h.flts hb,h.fltv.below hb,Zb h.ways hb,h.apart,h.img.below hb⟩
theorem WalkR.only{T:List TypeId}(h:WalkR B bw Bi b pi ni ci l tree fuel way s pe pb pf pw ce cb cf cw fv w)(hO:Zd T w W)
 (hT:T.contains 251=false∧T.contains 122=false∧T.contains 3=false∧T.contains 32=false∧T.contains 258=false∧T.contains 59=false∧T.contains 5=false):WalkR B bw Bi b pi ni ci l tree fuel way s pe pb pf pw ce cb cf cw fv W :=
 ⟨h.blk.only hO hT.1,Zi h.ents hO hT.2.1,Zi h.blks hO hT.2.2.1,Zi h.flts hO hT.2.2.2.1,h.fltv.only hO hT.2.2.2.2.1,Zi h.ways hO hT.2.2.1,h.apart,h.img.only hO ⟨hT.2.2.2.2.2.1,hT.2.2.2.2.2.2⟩⟩
end
end Go.Proofs.YtceeiinepijokaaGreat
namespace Go.Proofs.YtceeiinepijokaaGreat
set_option maxHeartbeats 8000000
set_option maxRecDepth 100000
open Go.RowKit Go.Extern.Stop Go.Stop Go.Extern
set_option linter.unusedVariables false
attribute [local irreducible] wpList wpAnyH Code.wp Oper.wp Go
theorem LookP.or{B bw:Nat}{cs:List Value}{l:Bl}{way:List Int}{no tree lo hi deep:Int}{w:World}{e:Ending}{w':World}(h:LookP B bw cs l way no tree lo hi deep w e w') :
 (Yk l way no tree lo hi deep≠0∧∃ a4 b4 k4 n4 c4 v4 m4 d4 ty x,e=.returned (.tuple #[.agg #[V0 a4,.bool b4,.slice k4 n4 c4,.slice v4 m4 d4],.iface ty x])∧Below B w w'∧Zd [251] w w'∧Blk w' bw cs 251∧Va w' [some no] (some (Yk l way no tree lo hi deep)) (.iface ty x)) ∨
 (Yk l way no tree lo hi deep=0∧∃ kp kc vp vc,e=.returned (.tuple #[.agg #[V0 (Qm (inB l no)),.bool (Xp (inB l no)),.slice kp (Zt (inB l no)) kc,.slice vp (Zt (inB l no)) vc],.nilIface])∧Below B w w'∧Zd [251] w w'∧Blk w' bw cs 251 ∧
 w'.ownsRow w.heap.size 3 1 (.slice kp (Zt (inB l no)) kc) (Zt (inB l no)) ((Yo l no).map V0)∧w'.ownsRow w.heap.size 9 1 (.slice vp (Zt (inB l no)) vc) (Zt (inB l no)) ((Yx l no).map sv)):=by
 obtain⟨h1,h2,h3,⟨h4,a4,b4,k4,n4,c4,v4,m4,d4,ty,x,h5,h6⟩|⟨h4,_,kp,kc,vp,vc,h5,h6,h7⟩⟩:=h
 ·exact .inl ⟨h4,a4,b4,k4,n4,c4,v4,m4,d4,ty,x,h5,h1,h2,h3,h6⟩
 ·exact .inr ⟨h4,kp,kc,vp,vc,h5,h1,h2,h3,h6,h7⟩
theorem widG_24(t:Int)(b:Bool):widG t b≤24:=by
 unfold widG Ua
 repeat' split
 all_goals omega
theorem Vi(l:Bl)(n i:Nat):((Hz l n).getD i []).length≤1000:=by
 by_cases h:i<n
 ·rw[Zdb l h]
  unfold Zhn
  rw[List.length_take]
  have:=widG_24 (Qm l) (Xp l)
  unfold Vz
  omega
 ·simp[List.getD,List.getElem?_eq_none (show(Hz l n).length≤i by rw[Rr];omega)]
theorem Dl(p:O0)(n c n2 c2:Nat):(Value.slice p n c).ownBlock=(Value.slice p n2 c2).ownBlock:=by
 cases p<;>rfl
theorem Jt.len{p q:O0}{n c m d:Nat}(h:Jt (.slice p n c) (.slice q m d))(n2 c2 m2 d2:Nat):Jt (.slice p n2 c2) (.slice q m2 d2):=fun j h1 h2 =>
 h j ((Dl _ _ _ _ _).trans h1) ((Dl _ _ _ _ _).trans h2)
def prC (p:Int×Int):List Value:=[V0 p.1,V0 p.2]
theorem prC_len(p:Int×Int):(prC p).length=2:=rfl
theorem flat2_prC(l:List (Int×Int)):Wx l=l.flatMap prC:=by
 induction l with
 | nil=>rfl
 | cons x l ih=>simp only[Wx,List.flatMap_cons,prC];rfl
theorem look_fits{l:Bl}{way:List Int}{no tree lo hi deep:Int}(h:Yk l way no tree lo hi deep=0):Kq lo hi (Yo l no)=0∧way.length<16:=by
 unfold Yk at h
 by_cases h1:Vj way no=true
 ·rw[if_pos h1] at h;cases h
 rw[if_neg h1] at h
 by_cases h2:16≤way.length
 ·rw[if_pos h2] at h;cases h
 rw[if_neg h2] at h
 by_cases h3:Xc l no tree≠0
 ·rw[if_pos h3] at h;exact absurd h h3
 rw[if_neg h3] at h
 by_cases h4:Kq lo hi (Vt (inB l no) (Zt (inB l no)))≠0
 ·rw[if_pos h4] at h;cases h
 exact⟨Decidable.not_not.1 h4,by omega⟩
theorem splitL_get(hi:Int)(l:List Int){i:Nat}(h:i<l.length):(Qw hi l).getD i (0,0)=Xt hi l i:=by simp[Qw,h]
theorem sts_sp{w:World}{p:O0}{n c:Nat}{L:List (Int×Int)}(h:Sl w (.slice p n c) n (Wx L))(hL:L.length=n):Sts prC w (.slice p L.length c) L:=by
 subst hL;rw[flat2_prC] at h;exact h
theorem Ap(hi:Int)(l:List Int):(Qw hi l).length=l.length:=by simp[Qw]
theorem only_le{w w':World}(h:Zd [251,122] w w'):Zd [251,122,3,32] w w':=h.mono fun t ht=>by
 simp only[List.contains_cons,List.contains_nil,Bool.or_eq_false_iff] at ht ⊢
 exact⟨ht.1,ht.2.1,trivial⟩
theorem only_w{w w':World}(h:Zd [251] w w'):Zd [251,122,3,32] w w':=h.mono fun t ht=>by
 simp only[List.contains_cons,List.contains_nil,Bool.or_eq_false_iff] at ht ⊢
 exact⟨ht.1,trivial⟩
theorem Ea(B bw Bi b:Nat)(pi:O0)(ni ci:Nat)(l:Bl)(tree fuel:Int)(d:Nat)(hV:d≠0→VisitC B bw Bi b pi ni ci l tree fuel d)(way:List Int)(no lo hi:Int)(s:WS)(pe pb pf pw:O0)(ce cb cf cw:Nat)(fv:List Value)(w:World)(hBb:B≤bw)(hBw:B≤w.heap.size)(hwd:way.length+(d+1)=17)(hdry:s.dry=false)(hfu:fuel≤1000000)(hR:WalkR B bw Bi b pi ni ci l tree fuel way s pe pb pf pw ce cb cf cw fv w)(he:(Zx l tree fuel (d+1) way no lo hi s).es.length≤100000000)(hb_:(Zx l tree fuel (d+1) way no lo hi s).bs.length≤100000000)(hf:(Zx l tree fuel (d+1) way no lo hi s).fs.length≤100000000) :
 C0 146 #[P0 bw,V0 no,.agg #[V0 lo,V0 hi]] w (VisitP B bw Bi b pi ni ci l tree fuel way (Zx l tree fuel (d+1) way no lo hi s) w):=by
 obtain⟨kW,e8,f1,f0,e9,e6,d0,hI⟩:=hR
 have v9:=f1
 have ab:=e6
 have bl:=Nx l tree fuel (d+1) way no lo hi s
 have bx:=Nat.le_trans bl.2.1 hb_
 refine zin 106 Tryz.func146 ?_
 refine xa 2 [V0 lo,V0 hi] 254 fun b1 W1 n1=>?_
 refine xd 4 .z ?_
 have g1:=(kW.below n1.below).below (Za W1)
 refine xb (.e [0,1,2,3] 4) 3 g1 ?_
 refine xb (.e [5,6,7] 8) 7 g1 ?_
 refine xid (.r [9] 2) ((s.looked:Int)≥fuel) (fun aw=>?_) (fun aw=>?_)
 ·refine xc 5 (args:=#[V0 no,.iface 89 (V0 12)]) (Yn no (some 12) [] _ _ rfl) ?_
  rintro _ W3 ⟨r3,rfl,f8,x1⟩
  rw[Qa] at x1
  obtain⟨t3,x3,rfl⟩:=x1.iface
  have d2:(Zx l tree fuel (d+1) way no lo hi s)={ Qx way [no] 12 s with dry:=true }:=by unfold Zx;rw[if_pos (by omega)]
  have hB:=blB (blB (blB (Below.refl B w) hBw n1.below) hBw (Za W1)) hBw f8
  have w5:=g1.below f8
  have r4:=Zb (Zb (Zb f0 n1.below) (Za W1)) f8
  have i0:=Zb (Zb (Zb e6 n1.below) (Za W1)) f8
  refine xc 0 (args:=#[P0 bw,.iface t3 (x3)]) (Mj B bw _ _ _ _ _ _ _ _ pf _ cf fv pw cw way [no] 12 _ _ _ hBb (Nat.le_trans hBw hB.size) w5 r4 i0 x1 (by omega) (by have:=hf;rw[d2] at this;simp[Qx] at this;omega)) ?_
  rintro _ W4 ⟨u4,u6,u1,t2,x2,rfl,av,l4,kN,j9,x0⟩
  refine xs 7 kN [.slice pe s.es.length ce,.slice pb s.bs.length cb,V0 s.deep,V0 (s.looked:Int),.slice u6 (s.fs.length+1) u1,P0 b,V0 tree,V0 fuel,.slice pw way.length cw,.bool true] fun W5 u5 k5=>?_
  have w3:=u5.below (hB.trans av) hBb
  have hO:=((((show Zd [251,122,3,32] w _ from(Zd.of_below n1.below)).trans (Zd.of_below (Za W1))).trans (Zd.of_below f8)).trans (Zej l4)).trans (Zd.of_upd u5 kN (by decide))
  have t6:=u5.own2 (Zi (Zb (Zb (Zb e8 n1.below) (Za W1)) f8) l4 (by decide)) kN (by decide)
  have m1:=u5.own2 (Zi (Zb (Zb (Zb f1 n1.below) (Za W1)) f8) l4 (by decide)) kN (by decide)
  have i9:=u5.own2 j9 kN (by decide)
  have r0:=x0.upd u5 kN (by decide)
  have t5:=((((e9.below n1.below).below (Za W1)).below f8).only l4 (by decide)).only (Zd.of_upd (T:=[251]) u5 kN (by decide)) (by decide)
  have s2:=u5.own2 (Zi i0 l4 (by decide)) kN (by decide)
  have z3:=((((hI.below n1.below).below (Za W1)).below f8).only l4 (by decide)).only (Zd.of_upd (T:=[251]) u5 kN (by decide)) (by decide)
  refine xe 4 (.tuple #[]) ?_
  rw[d2]
  exact⟨_,pe,pb,u6,pw,ce,cb,u1,cw,_,rfl,w3,hO,by simpa [Qx] using k5,t6,m1,by simpa [Qx] using i9,Jy.snoc r0 t5,s2,d0,z3⟩
 have k1:=n1.blk.below (Za W1)
 refine xlv 6 k1.rp ?_
 have hB:=blB (blB (Below.refl B w) hBw n1.below) hBw (Za W1)
 have e5:=Zb (Zb e6 n1.below) (Za W1)
 have f6:=(hI.below n1.below).below (Za W1)
 refine xc 0 (args:=#[P0 bw,V0 no,.agg #[V0 lo,V0 hi]]) ((Zea B Bi b bw pi ni ci l _ _ _ _ _ pw cw way no tree lo hi s.deep (s.looked:Int) _ hBb (Nat.le_trans hBw hB.size) g1 e5 f6 (by omega) (by omega) (by omega)).mono (fun _ _ h=>LookP.or h)) ?_
 rintro e W6 ax
 rcases ax with ⟨hz,a4,b4,k4,n4,c4,v4,m4,d4,ty,x,rfl,z8,c3,y7,az⟩|⟨hz,kp,kc,vp,vc,rfl,z8,c3,y7,hk,v7⟩
 ·refine xa 3 [V0 0,.bool false,S0,S0] 183 fun b7 W7 n7=>?_
  have m2:=hB.trans z8
  have g7:=n7.ge0 m2
  refine xsv 0 n7.blk [V0 a4,.bool b4,.slice k4 n4 c4,.slice v4 m4 d4] fun W8 u8 k8=>?_
  have d2:(Zx l tree fuel (d+1) way no lo hi s)=Qx way [no] (Yk l way no tree lo hi s.deep) { s with looked:=s.looked+1 }:=by unfold Zx;rw[if_neg (by omega),if_pos hz]
  have p0:=u8.below (blB m2 hBw n7.below) (Nat.le_trans hBw g7)
  have l7:=u8.blkT (y7.below n7.below) n7.blk (by decide)
  have s7:=u8.own2 (Zb (Zi (Zb (Zb f0 n1.below) (Za W1)) c3 (by decide)) n7.below) n7.blk (by decide)
  have h1:=u8.own2 (Zb (Zi e5 c3 (by decide)) n7.below) n7.blk (by decide)
  have q1:=(az.below n7.below).upd u8 n7.blk (by decide)
  refine xc 15 (args:=#[P0 bw,.iface ty (x)]) (Mj B bw _ _ _ _ _ _ _ _ pf _ cf fv pw cw way [no] (Yk l way no tree lo hi s.deep) _ _ _ hBb (Nat.le_trans hBw p0.size) l7 s7 h1 q1 (by omega) (by have:=hf;rw[d2] at this;simp[Qx] at this;omega)) ?_
  rintro _ W9 ⟨u9,u6,u1,t2,x2,rfl,bm,l0,kN,j9,x0⟩
  have z4:=p0.trans bm
  have hO:=(Zd.upd_new ((((show Zd [251,122,3,32] w _ from(Zd.of_below n1.below)).trans (Zd.of_below (Za W1))).trans (only_w c3)).trans (Zd.of_below n7.below)) u8 g7).trans (Zej l0)
  have s5:=Zi (u8.own2 (Zb (Zi (Zb (Zb e8 n1.below) (Za W1)) c3 (by decide)) n7.below) n7.blk (by decide)) l0 (by decide)
  have s6:=Zi (u8.own2 (Zb (Zi (Zb (Zb f1 n1.below) (Za W1)) c3 (by decide)) n7.below) n7.blk (by decide)) l0 (by decide)
  have r5:=(((((e9.below n1.below).below (Za W1)).only c3 (by decide)).below n7.below).only (Zd.of_upd (T:=[183]) u8 n7.blk (by decide)) (by decide)).only l0 (by decide)
  have s0:=Zi h1 l0 (by decide)
  have z5:=(((f6.only c3 (by decide)).below n7.below).only (Zd.of_upd (T:=[183]) u8 n7.blk (by decide)) (by decide)).only l0 (by decide)
  refine xe 4 (.tuple #[]) ?_
  rw[d2]
  exact⟨_,pe,pb,u6,pw,ce,cb,u1,cw,_,rfl,z4,hO,by simpa [Qx] using kN,s5,s6,by simpa [Qx] using j9,Jy.snoc x0 r5,s0,d0,z5⟩
 have w2:=(blB (blB (Below.refl B w) hBw n1.below) hBw (Za W1)).size
 have j4:=Zh hk w2
 have i3:=Jt.of_lt v9 j4 (Nat.le_refl _)
 have i5:=Jt.of_lt ab j4 (Nat.le_refl _)
 refine xa 3 [V0 0,.bool false,S0,S0] 183 fun ad cq a8=>?_
 have n8:=hB.trans z8
 have w8:=a8.ge0 n8
 refine xsv 0 a8.blk [V0 (Qm (inB l no)),.bool (Xp (inB l no)),.slice kp (Zt (inB l no)) kc,.slice vp (Zt (inB l no)) vc] fun ct c8 bh=>?_
 have h2:=c8.blkT (y7.below a8.below) a8.blk (by decide)
 refine xb 20 1 h2 ?_
 refine xbs 1 1 [V0 no] 3 fun bk ck b8=>?_
 have n9:=c8.below (blB n8 hBw a8.below) (Nat.le_trans hBw w8)
 have bq:=b8.ge0 n9
 have g9:=c8.own2 (Zb (Zi (Zb (Zb f1 n1.below) (Za W1)) c3 (by decide)) a8.below) a8.blk (by decide)
 have u2:=Zu g9 b8
 have h7:=c8.own2 (Zb (Zi e5 c3 (by decide)) a8.below) a8.blk (by decide)
 have t9:=Zu h7 b8
 have p9:=c8.own2 (Zb j4 a8.below) a8.blk (by decide)
 have y4:=Zu p9 b8
 have a1:=Zb g9 b8.below
 have i6:=blB n9 hBw b8.below
 refine xbi 0 fun _ _ _ _ zJ zQ zo zx zy zK=>Ud (b:=bk) (c:=1) (m:=1) (news:=[V0 no]) (V0 0) 1 8 ((s.bs++[no]).length) (((s.bs++[no]).map V0)) zo Tryz.underlying35 (by kernel_rfl) rfl (by decide) zx a1 zy b8.blk rfl (by simp[Value.oneCell']) (by unfold maxLen;omega) (by omega) (Nat.le_trans hBw i6.size) (by simp) (by simp) fun n3 o0 cg ao a7 q0 l6=>?_
 have h3:=Zb h7 b8.below
 have f3:=d0.row h3 a7
 replace d0:=(d0.grow h3 l6)
 have r8:=Zb p9 b8.below
 have k0:=i3.row r8 a7
 replace i3:=(i3.grow r8 l6)
 have e3:=f3
 have h5:=k0
 refine zK _ _ ?_
 have a0:=(h2.below b8.below).grown a7 a1 (by decide)
 refine xs 3 a0 [.slice pe s.es.length ce,.slice n3 ((s.bs++[no]).length) o0,V0 s.deep,V0 ((s.looked:Int)+1),.slice pf s.fs.length cf,P0 b,V0 tree,V0 fuel,.slice pw way.length cw,.bool s.dry] fun ch c1 x6=>?_
 have e4:=c1.blkT ((bh.below b8.below).grown a7 a1 (by decide)) a0 (by decide)
 refine xb 6 1 e4 ?_
 refine xi 2 (Xp (inB l no)) (fun ac=>?_) (fun ac=>?_)
 ·refine xlv 4 e4.rp ?_
  have d2:(Zx l tree fuel (d+1) way no lo hi s)={ s with looked:=s.looked+1,bs:=s.bs++[no],deep:=((way.length+1:Nat):Int),es:=s.es++Ju (Yo l no) (Yx l no) no (Zt (inB l no)) }:=by unfold Zx;rw[if_neg (by omega),if_neg (by omega),if_pos (by assumption)]
  have n2:=c1.below (i6.trans q0) hBb
  have o9:=c1.own2 (Zr (Zb (c8.own2 (Zb (Zi (Zb (Zb e8 n1.below) (Za W1)) c3 (by decide)) a8.below) a8.blk (by decide)) b8.below) a7 a1 (by decide)) a0 (by decide)
  have x4:=c1.own2 h5 a0 (by decide)
  have m5:=c1.own2 (Zr (Zb (c8.own2 (Zb (Zh v7 w2) a8.below) a8.blk (by decide)) b8.below) a7 a1 (by decide)) a0 (by decide)
  refine xc 0 (args:=#[P0 bw,V0 no,.agg #[V0 (Qm (inB l no)),.bool (Xp (inB l no)),.slice kp (Zt (inB l no)) kc,.slice vp (Zt (inB l no)) vc]]) (Zd2 B bw _ _ _ _ _ _ _ _ pe ce s.es pw cw way no _ _ kp vp _ kc vc (Yo l no) (Yx l no) _ hBb (Nat.le_trans hBw n2.size) x6 o9 (fun W _ q=>Zf (Zi x4 q (by decide))) (fun W _ q=>Zf (Zi m5 q (by decide))) (by simp[Yo,Vt]) (by simp[Yx,Hz]) (by omega) (by have:=he;rw[d2] at this;simp[Lo] at this;omega)) ?_
  rintro _ ca ⟨br,bj,au,rfl,y6,d8,kE,ap⟩
  have x5:=n2.trans y6
  have hO:=((((Zd.upd_new ((((show Zd [251,122,3,32] w _ from(Zd.of_below n1.below)).trans (Zd.of_below (Za W1))).trans (only_w c3)).trans (Zd.of_below a8.below)) c8 w8).trans (Zd.of_below b8.below)).trans (Zd.of_grown a7 a1 (by decide))).trans (Zd.of_upd c1 a0 (by decide))).trans (only_le d8)
  have o2:=Zi (c1.own2 ao a0 (by decide)) d8 (by decide)
  have q5:=Zi (c1.own2 (Zr (Zb (c8.own2 (Zb (Zi (Zb (Zb f0 n1.below) (Za W1)) c3 (by decide)) a8.below) a8.blk (by decide)) b8.below) a7 a1 (by decide)) a0 (by decide)) d8 (by decide)
  have s1:=((((((((e9.below n1.below).below (Za W1)).only c3 (by decide)).below a8.below).only (Zd.of_upd (T:=[183]) c8 a8.blk (by decide)) (by decide)).below b8.below).only (Zd.of_grown (T:=[3]) a7 a1 (by decide)) (by decide)).only (Zd.of_upd (T:=[251]) c1 a0 (by decide)) (by decide)).only d8 (by decide)
  have o6:=Zi (c1.own2 e3 a0 (by decide)) d8 (by decide)
  have w4:=((((((f6.only c3 (by decide)).below a8.below).only (Zd.of_upd (T:=[183]) c8 a8.blk (by decide)) (by decide)).below b8.below).only (Zd.of_grown (T:=[3]) a7 a1 (by decide)) (by decide)).only (Zd.of_upd (T:=[251]) c1 a0 (by decide)) (by decide)).only d8 (by decide)
  refine xe 4 (.tuple #[]) ?_
  rw[d2]
  exact⟨_,bj,_,pf,pw,au,_,cf,cw,fv,rfl,x5,hO,by simpa [Lo] using kE,by simpa [Lo] using ap,by simpa using o2,q5,s1,o6,by simpa using d0,w4⟩
 refine xb 8 8 x6 ?_
 refine xbs 1 1 [V0 no] 3 fun bb cm c7=>?_
 have h4:=c1.below (i6.trans q0) hBb
 have cu:=c7.ge0 h4
 have i1:=c1.own2 e3 a0 (by decide)
 have v1:=Zu i1 c7
 have o8:=c1.own2 h5 a0 (by decide)
 have aa:=Zu o8 c7
 have h0:=c1.own2 ao a0 (by decide)
 have u7:=Zu h0 c7
 have a2:=Zb i1 c7.below
 have h6:=blB h4 hBw c7.below
 refine xbi 0 fun _ _ _ _ zJ zQ zo zx zy zK=>Ud (b:=bb) (c:=1) (m:=1) (news:=[V0 no]) (V0 0) 1 8 ((way++[no]).length) (((way++[no]).map V0)) zo Tryz.underlying35 (by kernel_rfl) rfl (by decide) zx a2 zy c7.blk rfl (by simp[Value.oneCell']) (by unfold maxLen;omega) (by omega) (Nat.le_trans hBw h6.size) (by simp) (by simp) fun z0 z9 bt bd b9 y9 n6=>?_
 have g8:=Zb h0 c7.below
 have f2:=d0.symm.row g8 b9
 replace d0:=(d0.symm.grow g8 n6).symm
 have m9:=Zb o8 c7.below
 have i2:=i5.row m9 b9
 replace i5:=(i5.grow m9 n6)
 have j7:=f2
 have r9:=i2
 refine zK _ _ ?_
 have a3:=(x6.below c7.below).grown b9 a2 (by decide)
 refine xs 2 a3 [.slice pe s.es.length ce,.slice n3 ((s.bs++[no]).length) o0,V0 s.deep,V0 ((s.looked:Int)+1),.slice pf s.fs.length cf,P0 b,V0 tree,V0 fuel,.slice z0 ((way++[no]).length) z9,.bool s.dry] fun cn d9 bf=>?_
 have p4:=d9.blkT (((c1.blkT (((c8.blkT ((k1.only c3 (by decide)).below a8.below) a8.blk (by decide)).below b8.below).grown a7 a1 (by decide)) a0 (by decide)).below c7.below).grown b9 a2 (by decide)) a3 (by decide)
 refine xlv 5 p4.rp ?_
 have h9:=d9.blkT ((e4.below c7.below).grown b9 a2 (by decide)) a3 (by decide)
 refine xb 1 2 h9 ?_
 have h8:=d9.below (h6.trans y9) hBb
 have y3:=h8.size
 obtain⟨y5,ba⟩:=look_fits hz
 have m6:(Yo l no).length=Zt (inB l no):=by simp[Yo,Vt]
 have bu:Zt (inB l no)<65536:=Oy _ 2 2
 have w9:=d9.own2 r9 a3 (by decide)
 refine xc 0 (args:=#[.agg #[V0 lo,V0 hi],.slice kp (Zt (inB l no)) kc]) (Zeb lo hi _ (Yo l no) _ (by rw[m6];omega) (Iv (Zf w9) m6)) ?_
 rintro _ bc ⟨cr,rfl,b5,_,y2⟩
 obtain⟨gs,rfl,bn,kS⟩:=y2 y5
 rw[m6]
 have k9:=Xl (size:=2) (n:=Zt (inB l no)) kS (Nat.le_trans y3 bn) (by rw[Dh,Ap,m6]) (by unfold maxLen;omega)
 have d2:(Zx l tree fuel (d+1) way no lo hi s)=(Yq (Zx l tree fuel d) l way no hi (Zt (inB l no)) { s with looked:=s.looked+1,bs:=s.bs++[no] }):=by unfold Zx;rw[if_neg (by omega),if_neg (by omega),if_neg (by simp;assumption)]
 have q8:(Qw hi (Yo l no)).length=(Zt (inB l no)):=by rw[Ap,m6]
 have ak:(Yx l no).length=(Zt (inB l no)):=by simp[Yx,Hz]
 have q2:=bf.below b5
 have o5:=Zb (d9.own2 (Zr (Zb (c1.own2 (Zr (Zb (c8.own2 (Zb (Zi (Zb (Zb e8 n1.below) (Za W1)) c3 (by decide)) a8.below) a8.blk (by decide)) b8.below) a7 a1 (by decide)) a0 (by decide)) c7.below) b9 a2 (by decide)) a3 (by decide)) b5
 have q4:=Zb (d9.own2 j7 a3 (by decide)) b5
 have r7:=Zb (d9.own2 (Zr (Zb (c1.own2 (Zr (Zb (c8.own2 (Zb (Zi (Zb (Zb f0 n1.below) (Za W1)) c3 (by decide)) a8.below) a8.blk (by decide)) b8.below) a7 a1 (by decide)) a0 (by decide)) c7.below) b9 a2 (by decide)) a3 (by decide)) b5
 have l9:=(((((((((((e9.below n1.below).below (Za W1)).only c3 (by decide)).below a8.below).only (Zd.of_upd (T:=[183]) c8 a8.blk (by decide)) (by decide)).below b8.below).only (Zd.of_grown (T:=[3]) a7 a1 (by decide)) (by decide)).only (Zd.of_upd (T:=[251]) c1 a0 (by decide)) (by decide)).below c7.below).only (Zd.of_grown (T:=[3]) b9 a2 (by decide)) (by decide)).only (Zd.of_upd (T:=[251]) d9 a3 (by decide)) (by decide)).below b5
 have r6:=Zb (d9.own2 bd a3 (by decide)) b5
 have x7:=(((((((((f6.only c3 (by decide)).below a8.below).only (Zd.of_upd (T:=[183]) c8 a8.blk (by decide)) (by decide)).below b8.below).only (Zd.of_grown (T:=[3]) a7 a1 (by decide)) (by decide)).only (Zd.of_upd (T:=[251]) c1 a0 (by decide)) (by decide)).below c7.below).only (Zd.of_grown (T:=[3]) b9 a2 (by decide)) (by decide)).only (Zd.of_upd (T:=[251]) d9 a3 (by decide)) (by decide)).below b5
 have hR:WalkR B bw Bi b pi ni ci l tree fuel (way++[no]) (Yq (Zx l tree fuel d) l way no hi 0 { s with looked:=s.looked+1,bs:=s.bs++[no] }) pe _ pf _ ce _ cf _ fv bc:=⟨q2,o5,q4,r7,l9,r6,d0,x7⟩
 have o4:=Zb (d9.own2 (Zr (Zb (c1.own2 (Zr (Zb (c8.own2 (Zb (Zh v7 w2) a8.below) a8.blk (by decide)) b8.below) a7 a1 (by decide)) a0 (by decide)) c7.below) b9 a2 (by decide)) a3 (by decide)) b5
 have p8:=blB h8 hBw b5
 have hO:=(((((((Zd.upd_new ((((show Zd [251,122,3,32] w _ from(Zd.of_below n1.below)).trans (Zd.of_below (Za W1))).trans (only_w c3)).trans (Zd.of_below a8.below)) c8 w8).trans (Zd.of_below b8.below)).trans (Zd.of_grown a7 a1 (by decide))).trans (Zd.of_upd c1 a0 (by decide))).trans (Zd.of_below c7.below)).trans (Zd.of_grown b9 a2 (by decide))).trans (Zd.of_upd d9 a3 (by decide))).trans (Zd.of_below b5)
 have w6:=p4.below b5
 have m7:=h9.below b5
 refine zl 5 106 (fun zm aq V=>∃ (i:Nat) (j5 j1 j3 g6:O0) (j6 k2 j2 f7:Nat) (p1:List Value),aq=[(0,P0 bw),(1,V0 no),(6,P0 ad),(71,.slice (S1 gs) (Zt (inB l no)) (Zt (inB l no))),(72,V0 (↑(Zt (inB l no)):Int)),(73,V0 (i:Int))]∧zm=(Zt (inB l no))-((i:Int)).toNat∧Below B w V∧Zd [251,122,3,32] w V∧Blk V b1 ([V0 lo,V0 hi]) 254∧Blk V ad ([V0 (Qm (inB l no)),.bool (Xp (inB l no)),.slice kp (Zt (inB l no)) kc,.slice vp (Zt (inB l no)) vc]) 183∧WalkR B bw Bi b pi ni ci l tree fuel (way++[no]) (Yq (Zx l tree fuel d) l way no hi i { s with looked:=s.looked+1,bs:=s.bs++[no] }) j5 j1 j3 g6 j6 k2 j2 f7 p1 V∧V.ownsRow w.heap.size 9 1 (.slice vp (Zt (inB l no)) vc) (Zt (inB l no)) ((Yx l no).map sv)∧V.ownsRow w.heap.size 254 2 (.slice (S1 gs) (Zt (inB l no)) (Zt (inB l no))) (Zt (inB l no)) (Wx (Qw hi (Yo l no)))∧i≤(Zt (inB l no))∧(Yq (Zx l tree fuel d) l way no hi i { s with looked:=s.looked+1,bs:=s.bs++[no] }).dry=false) ⟨0,_,_,_,_,_,_,_,_,_,rfl,rfl,p8,hO,w6,m7,hR,o4,k9,Nat.zero_le _,hdry⟩ ?_
 rintro _ _ c0 ⟨i,j5,j1,j3,g6,j6,k2,j2,f7,p1,rfl,rfl,d5,c9,b3,c6,hR,v7,k9,bp,ai⟩ cs z6 cj
 have i8:=hR.blk
 refine xid 6 ((i:Int)<(↑(Zt (inB l no)):Int)) (fun x8=>?_) (fun x8=>?_)
 ·refine xx 7 _ (Zt (inB l no)) i 2 (Sts.cell (sts_sp (Zf k9) q8) prC_len (0,0) (k:=i) (i:=0) (show i<(Qw hi (Yo l no)).length by omega) rfl).1 ?_
  refine xlv 0 (Sts.rp (k:=i) (sts_sp (Zf k9) q8) prC_len (0,0) (by omega) (by decide)) ?_
  refine xa 0 [V0 0,V0 0] 254 fun cd bo c5=>?_
  have d1:=c5.ne b3
  have v2:=c5.ge0 d5
  have f4:=Zu k9 c5
  refine xsv 1 c5.blk [V0 (((Qw hi (Yo l no)).getD i (0,0)).1),V0 (((Qw hi (Yo l no)).getD i (0,0)).2)] fun d6 e0 bi=>?_
  refine xd 3 (.t B [251,122,3,32]) ?_
  have b2:=(e0.blkT (c6.below c5.below) c5.blk (by decide)).below (Za d6)
  refine xbt (.e [0,1,2] 3) 3 B [251,122,3,32] b2 ?_
  have e7:=Zb (e0.own2 (Zb v7 c5.below) c5.blk (by decide)) (Za d6)
  refine xx (.e [4] 5) _ (Zt (inB l no)) i 1 (Strs.elem (Zf e7) ak (k:=i) (by omega)).1 ?_
  refine xlt (.e [] 6) (.t B [251,122,3,32]) (fun V hV=>(Strs.elem (Zf (Zi e7 hV.2 (by decide))) ak (k:=i) (by omega)).2) ?_
  have o3:=bi.below (Za d6)
  refine xlvt (.e [] 7) (.t B [251,122,3,32]) (fun V hV=>(o3.only hV.2 (by decide)).rp) ?_
  have ar:=splitL_get hi (Yo l no) (i:=i) (by omega)
  have f9:Jq (Zx l tree fuel d) way no ((Yx l no).getD i []) (((Qw hi (Yo l no)).getD i (0,0)).1,((Qw hi (Yo l no)).getD i (0,0)).2) (Yq (Zx l tree fuel d) l way no hi i { s with looked:=s.looked+1,bs:=s.bs++[no] })=(Yq (Zx l tree fuel d) l way no hi (i+1) { s with looked:=s.looked+1,bs:=s.bs++[no] }):=by rw[Pt];unfold Ec;rw[if_neg (by rw[ai];decide),ar]
  have y0:=Ag (Nx l tree fuel d) l way no hi { s with looked:=s.looked+1,bs:=s.bs++[no] } (show i+1≤(Zt (inB l no)) by omega)
  rw[d2] at he hb_ hf
  have d3:=blB (e0.below (blB d5 hBw c5.below) (Nat.le_trans hBw v2)) hBw (Za d6)
  have w7:=((hR.below c5.below).only (Zd.of_upd (T:=[254]) e0 c5.blk (by decide)) (by decide)).below (Za d6)
  refine yc (.o [] 8) (args:=#[P0 bw,V0 no,.string ⟨((Yx l no).getD i []).toArray⟩,.agg #[V0 (((Qw hi (Yo l no)).getD i (0,0)).1),V0 (((Qw hi (Yo l no)).getD i (0,0)).2)]]) (.t B [251,122,3,32]) (Zc5 B bw Bi b pi ni ci l tree fuel d (hV (by omega)) way no _ _ ((Yx l no).getD i []) _ j5 j1 j3 g6 j6 k2 j2 f7 p1 _ hBb (Nat.le_trans hBw d3.size) (by omega) ai (Vi _ _ _) w7 (by rw[f9];exact Nat.le_trans y0.1 he) (by rw[f9];exact Nat.le_trans y0.2.1 hb_) (by rw[f9];exact Nat.le_trans y0.2.2 hf)) ?_
  rintro _ c2 ⟨cl,v5,v3,u0,l2,v0,u3,v6,l1,ah,rfl,g5,b6,t8⟩
  have ag:=(e0.blkT (i8.below c5.below) c5.blk (by decide)).below (Za d6)
  refine⟨(Ha g5 b6),?_⟩
  rw[f9] at t8
  have i8:=t8.blk
  refine xb 7 9 i8 ?_
  refine xi 2 ((Yq (Zx l tree fuel d) l way no hi (i+1) { s with looked:=s.looked+1,bs:=s.bs++[no] }).dry) (fun l8=>?_) (fun l8=>?_)
  ·obtain⟨_,e8,f1,f0,e9,e6,d0,hI⟩:=t8
   have bg:=(Et e6 (by simp)).2
   have ay:(way++[no]).length=way.length+1:=by simp
   have e2:(Yq (Zx l tree fuel d) l way no hi (Zt (inB l no)) { s with looked:=s.looked+1,bs:=s.bs++[no] })=(Yq (Zx l tree fuel d) l way no hi (i+1) { s with looked:=s.looked+1,bs:=s.bs++[no] }):=loopW_dry _ _ _ _ _ _ (by omega) l8
   refine xd 6 (.t B [251]) ?_
   refine xm2 (.b [0,1,2,3,5,6,7]) 4 8 ?_ ?_
   ·have a6:=i8.below (Za c2)
    refine xb 0 8 a6 ?_
    refine xb (.o [] 8) 8 a6 ?_
    refine xwm (.e [9] 10) ((↑((way++[no]).length):Int)-1) (↑(((way++[no]).length)-1):Int) ?_
    refine xsH (.e [] 11) (fun _ _ _ _ zo zx zy V=>Qf (k:=(((way++[no]).length)-1)) (b:=l2) (n:=(way++[no]).length) (c:=l1) (i:=(↑(((way++[no]).length)-1):Int)) (ki:=.i64) zo zx zy rfl (by omega) Tryz.underlying35 (by kernel_rfl) V) ?_
    refine ys (.o [12,13] 14) a6 [.slice v5 ((Yq (Zx l tree fuel d) l way no hi (i+1) { s with looked:=s.looked+1,bs:=s.bs++[no] }).es.length) v0,.slice v3 ((Yq (Zx l tree fuel d) l way no hi (i+1) { s with looked:=s.looked+1,bs:=s.bs++[no] }).bs.length) u3,V0 (Yq (Zx l tree fuel d) l way no hi (i+1) { s with looked:=s.looked+1,bs:=s.bs++[no] }).deep,V0 ((Yq (Zx l tree fuel d) l way no hi (i+1) { s with looked:=s.looked+1,bs:=s.bs++[no] }).looked:Int),.slice u0 ((Yq (Zx l tree fuel d) l way no hi (i+1) { s with looked:=s.looked+1,bs:=s.bs++[no] }).fs.length) v6,P0 b,V0 tree,V0 fuel,.slice l2 (((way++[no]).length)-1) l1,.bool ((Yq (Zx l tree fuel d) l way no hi (i+1) { s with looked:=s.looked+1,bs:=s.bs++[no] }).dry)] (.t B [251]) fun cc g0 af=>⟨(Zl g0 a6 hBb (by decide)),?_⟩
    have s3:=(((e0.blk (b3.below c5.below) (Ne.symm (Ne.symm d1))).below (Za d6)).only b6 (by decide)).below (Za c2)
    have k6:=(b2.only b6 (by decide)).below (Za c2)
    have o1:=g0.below (blB (d3.trans g5) hBw (Za c2)) hBb
    have w1:=((((Zd.upd_new (c9.trans (Zd.of_below c5.below)) e0 v2).trans (Zd.of_below (Za d6))).trans b6).trans (Zd.of_below (Za c2))).trans (Zd.of_upd g0 a6 (by decide))
    have l5:=g0.own2 (Zb e8 (Za c2)) a6 (by decide)
    have o7:=g0.own2 (Zb f1 (Za c2)) a6 (by decide)
    have n5:=g0.own2 (Zb f0 (Za c2)) a6 (by decide)
    have m8:=(e9.below (Za c2)).only (Zd.of_upd (T:=[251]) g0 a6 (by decide)) (by decide)
    have i4:=g0.own2 (Zb e6 (Za c2)) a6 (by decide)
    have y8:=(hI.below (Za c2)).only (Zd.of_upd (T:=[251]) g0 a6 (by decide)) (by decide)
    refine xe 1 (.tuple #[]) ?_
    rw[d2,e2]
    rw[show(way++[no]).length-1=way.length by simp] at af
    exact⟨_,v5,v3,u0,l2,v0,u3,v6,l1,ah,rfl,o1,w1,af,l5,o7,n5,m8,Sq i4,d0.len _ _ _ _,y8⟩
   have a5:=i8.below (Za c2)
   refine xb 0 8 a5 ?_
   refine xwm (.e [9] 10) ((↑((way++[no]).length):Int)-1) (↑(((way++[no]).length)-1):Int) ?_
   refine xb (.o [] 4) 8 a5 ?_
   refine xsH (.e [] 11) (fun _ _ _ _ zo zx zy V=>Qf (k:=(((way++[no]).length)-1)) (b:=l2) (n:=(way++[no]).length) (c:=l1) (i:=(↑(((way++[no]).length)-1):Int)) (ki:=.i64) zo zx zy rfl (by omega) Tryz.underlying35 (by kernel_rfl) V) ?_
   refine ys (.o [12,13] 14) a5 [.slice v5 ((Yq (Zx l tree fuel d) l way no hi (i+1) { s with looked:=s.looked+1,bs:=s.bs++[no] }).es.length) v0,.slice v3 ((Yq (Zx l tree fuel d) l way no hi (i+1) { s with looked:=s.looked+1,bs:=s.bs++[no] }).bs.length) u3,V0 (Yq (Zx l tree fuel d) l way no hi (i+1) { s with looked:=s.looked+1,bs:=s.bs++[no] }).deep,V0 ((Yq (Zx l tree fuel d) l way no hi (i+1) { s with looked:=s.looked+1,bs:=s.bs++[no] }).looked:Int),.slice u0 ((Yq (Zx l tree fuel d) l way no hi (i+1) { s with looked:=s.looked+1,bs:=s.bs++[no] }).fs.length) v6,P0 b,V0 tree,V0 fuel,.slice l2 (((way++[no]).length)-1) l1,.bool ((Yq (Zx l tree fuel d) l way no hi (i+1) { s with looked:=s.looked+1,bs:=s.bs++[no] }).dry)] (.t B [251]) fun co g2 ae=>⟨(Zl g2 a5 hBb (by decide)),?_⟩
   have p6:=(((e0.blk (b3.below c5.below) (Ne.symm (Ne.symm d1))).below (Za d6)).only b6 (by decide)).below (Za c2)
   have l3:=(b2.only b6 (by decide)).below (Za c2)
   have r1:=g2.below (blB (d3.trans g5) hBw (Za c2)) hBb
   have v8:=((((Zd.upd_new (c9.trans (Zd.of_below c5.below)) e0 v2).trans (Zd.of_below (Za d6))).trans b6).trans (Zd.of_below (Za c2))).trans (Zd.of_upd g2 a5 (by decide))
   have s4:=g2.own2 (Zb e8 (Za c2)) a5 (by decide)
   have t4:=g2.own2 (Zb f1 (Za c2)) a5 (by decide)
   have q3:=g2.own2 (Zb f0 (Za c2)) a5 (by decide)
   have p7:=(e9.below (Za c2)).only (Zd.of_upd (T:=[251]) g2 a5 (by decide)) (by decide)
   have i7:=g2.own2 (Zb e6 (Za c2)) a5 (by decide)
   have z2:=(hI.below (Za c2)).only (Zd.of_upd (T:=[251]) g2 a5 (by decide)) (by decide)
   refine xe 1 (.tuple #[]) ?_
   rw[d2,e2]
   rw[show(way++[no]).length-1=way.length by simp] at ae
   exact⟨_,v5,v3,u0,l2,v0,u3,v6,l1,ah,rfl,r1,v8,ae,s4,t4,q3,p7,Sq i7,d0.len _ _ _ _,z2⟩
  refine xwm 4 ((i:Int)+1) (↑(i+1):Int) ?_
  have n0:=d3.trans g5
  have z7:=((Zd.upd_new (c9.trans (Zd.of_below c5.below)) e0 v2).trans (Zd.of_below (Za d6))).trans b6
  have e1:=((e0.blk (b3.below c5.below) (Ne.symm (Ne.symm d1))).below (Za d6)).only b6 (by decide)
  have d7:=b2.only b6 (by decide)
  have t0:=Zi e7 b6 (by decide)
  have s8:=Zi (Zb (e0.own3 (Zb k9 c5.below) f4) (Za d6)) b6 (by decide)
  exact ze 2 (z6 _ _ _ ⟨i+1,_,_,_,_,_,_,_,_,_,rfl,rfl,n0,z7,e1,d7,t8,t0,s8,by omega,by assumption⟩ (by omega))
 obtain⟨_,e8,f1,f0,e9,e6,d0,hI⟩:=hR
 have bg:=(Et e6 (by simp)).2
 have ay:(way++[no]).length=way.length+1:=by simp
 have e2:(Yq (Zx l tree fuel d) l way no hi (Zt (inB l no)) { s with looked:=s.looked+1,bs:=s.bs++[no] })=(Yq (Zx l tree fuel d) l way no hi i { s with looked:=s.looked+1,bs:=s.bs++[no] }):=by rw[show i=(Zt (inB l no)) by omega]
 refine xd 5 (.t B [251]) ?_
 refine xm2 (.b [0,1,2,3,5,6,7]) 4 8 ?_ ?_
 ·have b0:=i8.below (Za c0)
  refine xb 0 8 b0 ?_
  refine xb (.o [] 8) 8 b0 ?_
  refine xwm (.e [9] 10) ((↑((way++[no]).length):Int)-1) (↑(((way++[no]).length)-1):Int) ?_
  refine xsH (.e [] 11) (fun _ _ _ _ zo zx zy V=>Qf (k:=(((way++[no]).length)-1)) (b:=g6) (n:=(way++[no]).length) (c:=f7) (i:=(↑(((way++[no]).length)-1):Int)) (ki:=.i64) zo zx zy rfl (by omega) Tryz.underlying35 (by kernel_rfl) V) ?_
  refine ys (.o [12,13] 14) b0 [.slice j5 ((Yq (Zx l tree fuel d) l way no hi i { s with looked:=s.looked+1,bs:=s.bs++[no] }).es.length) j6,.slice j1 ((Yq (Zx l tree fuel d) l way no hi i { s with looked:=s.looked+1,bs:=s.bs++[no] }).bs.length) k2,V0 (Yq (Zx l tree fuel d) l way no hi i { s with looked:=s.looked+1,bs:=s.bs++[no] }).deep,V0 ((Yq (Zx l tree fuel d) l way no hi i { s with looked:=s.looked+1,bs:=s.bs++[no] }).looked:Int),.slice j3 ((Yq (Zx l tree fuel d) l way no hi i { s with looked:=s.looked+1,bs:=s.bs++[no] }).fs.length) j2,P0 b,V0 tree,V0 fuel,.slice g6 (((way++[no]).length)-1) f7,.bool ((Yq (Zx l tree fuel d) l way no hi i { s with looked:=s.looked+1,bs:=s.bs++[no] }).dry)] (.t B [251]) fun cp f5 al=>⟨(Zl f5 b0 hBb (by decide)),?_⟩
  have m3:=b3.below (Za c0)
  have k7:=c6.below (Za c0)
  have p5:=f5.below (blB d5 hBw (Za c0)) hBb
  have w0:=(c9.trans (Zd.of_below (Za c0))).trans (Zd.of_upd f5 b0 (by decide))
  have r2:=f5.own2 (Zb e8 (Za c0)) b0 (by decide)
  have q6:=f5.own2 (Zb f1 (Za c0)) b0 (by decide)
  have t7:=f5.own2 (Zb f0 (Za c0)) b0 (by decide)
  have t1:=(e9.below (Za c0)).only (Zd.of_upd (T:=[251]) f5 b0 (by decide)) (by decide)
  have j8:=f5.own2 (Zb e6 (Za c0)) b0 (by decide)
  have z1:=(hI.below (Za c0)).only (Zd.of_upd (T:=[251]) f5 b0 (by decide)) (by decide)
  refine xe 1 (.tuple #[]) ?_
  rw[d2,e2]
  rw[show(way++[no]).length-1=way.length by simp] at al
  exact⟨_,j5,j1,j3,g6,j6,k2,j2,f7,p1,rfl,p5,w0,al,r2,q6,t7,t1,Sq j8,d0.len _ _ _ _,z1⟩
 have a9:=i8.below (Za c0)
 refine xb 0 8 a9 ?_
 refine xwm (.e [9] 10) ((↑((way++[no]).length):Int)-1) (↑(((way++[no]).length)-1):Int) ?_
 refine xb (.o [] 4) 8 a9 ?_
 refine xsH (.e [] 11) (fun _ _ _ _ zo zx zy V=>Qf (k:=(((way++[no]).length)-1)) (b:=g6) (n:=(way++[no]).length) (c:=f7) (i:=(↑(((way++[no]).length)-1):Int)) (ki:=.i64) zo zx zy rfl (by omega) Tryz.underlying35 (by kernel_rfl) V) ?_
 refine ys (.o [12,13] 14) a9 [.slice j5 ((Yq (Zx l tree fuel d) l way no hi i { s with looked:=s.looked+1,bs:=s.bs++[no] }).es.length) j6,.slice j1 ((Yq (Zx l tree fuel d) l way no hi i { s with looked:=s.looked+1,bs:=s.bs++[no] }).bs.length) k2,V0 (Yq (Zx l tree fuel d) l way no hi i { s with looked:=s.looked+1,bs:=s.bs++[no] }).deep,V0 ((Yq (Zx l tree fuel d) l way no hi i { s with looked:=s.looked+1,bs:=s.bs++[no] }).looked:Int),.slice j3 ((Yq (Zx l tree fuel d) l way no hi i { s with looked:=s.looked+1,bs:=s.bs++[no] }).fs.length) j2,P0 b,V0 tree,V0 fuel,.slice g6 (((way++[no]).length)-1) f7,.bool ((Yq (Zx l tree fuel d) l way no hi i { s with looked:=s.looked+1,bs:=s.bs++[no] }).dry)] (.t B [251]) fun bz g3 aj=>⟨(Zl g3 a9 hBb (by decide)),?_⟩
 have p3:=b3.below (Za c0)
 have k3:=c6.below (Za c0)
 have s9:=g3.below (blB d5 hBw (Za c0)) hBb
 have y1:=(c9.trans (Zd.of_below (Za c0))).trans (Zd.of_upd g3 a9 (by decide))
 have m0:=g3.own2 (Zb e8 (Za c0)) a9 (by decide)
 have q7:=g3.own2 (Zb f1 (Za c0)) a9 (by decide)
 have p2:=g3.own2 (Zb f0 (Za c0)) a9 (by decide)
 have q9:=(e9.below (Za c0)).only (Zd.of_upd (T:=[251]) g3 a9 (by decide)) (by decide)
 have j0:=g3.own2 (Zb e6 (Za c0)) a9 (by decide)
 have x9:=(hI.below (Za c0)).only (Zd.of_upd (T:=[251]) g3 a9 (by decide)) (by decide)
 refine xe 1 (.tuple #[]) ?_
 rw[d2,e2]
 rw[show(way++[no]).length-1=way.length by simp] at aj
 exact⟨_,j5,j1,j3,g6,j6,k2,j2,f7,p1,rfl,s9,y1,aj,m0,q7,p2,q9,Sq j0,d0.len _ _ _ _,x9⟩
end Go.Proofs.YtceeiinepijokaaGreat
namespace Go.Proofs.YtceeiinepijokaaGreat
set_option maxHeartbeats 8000000
set_option maxRecDepth 100000
open Go.RowKit Go.Extern.Stop Go.Stop Go.Extern
set_option linter.unusedVariables false
theorem Bm{V:List Int→Int→Int→Int→WS→WS}{l:Bl}{way:List Int}{no hi:Int}{s:WS}(P:Nat→WS→Prop)(h0:P 0 s) :
  ∀ n,(∀ i t,i<n→t.dry=false→P i t→P (i+1) (Jq V way no ((Yx l no).getD i []) (Xt hi (Yo l no) i) t))→(∀ i t,i<n→t.dry=true→P i t→P (i+1) t)→P n (Yq V l way no hi n s)
 | 0,_,_=>h0
 | n+1,hs,hd=>by
  have ih:=Bm P h0 n (fun i t hi=>hs i t (by omega)) (fun i t hi=>hd i t (by omega))
  rw[Pt]
  unfold Ec
  split
  ·rename_i h;exact hd n _ (by omega) h ih
  ·rename_i h;exact hs n _ (by omega) (by simpa using h) ih
theorem rootE_no(v:Bl):Xj v=0∨Xj v=2∨Xj v=7:=by
 unfold Xj;split
 ·split<;>simp
 ·simp
theorem Ai(l:Bl):∀ n,Yg l n=0∨Yg l n=2∨Yg l n=8
 | 0=>.inl rfl
 | n+1=>by
  rw[Yg]
  split
  ·exact Ai l n
  ·unfold Ts;split
   ·simp
   ·split<;>simp
theorem nodeErr_no(l:Bl)(no tree:Int):Xc l no tree≠12:=by
 unfold Xc
 split
 ·unfold Vn
  split
  ·split<;>decide
  ·unfold Jm
   split
   ·split
    ·rcases Ai (inB l no) (Zt (inB l no)) with h|h|h<;>rw[h]<;>decide
    ·decide
   ·decide
 ·unfold inE
  split
  ·unfold Vb
   repeat' split
   all_goals decide
  ·decide
theorem lookE_no(l:Bl)(way:List Int)(no tree lo hi deep:Int):Yk l way no tree lo hi deep≠12:=by
 unfold Yk
 split
 ·decide
 ·split
  ·decide
  ·split
   ·exact nodeErr_no _ _ _
   ·split
    ·decide
    ·split<;>decide
theorem Zdp(t:Int)(b:Bool):maxG t b≤18:=by
 unfold maxG Qy
 repeat' split
 all_goals omega
theorem Ma{l:Bl}(h:Jm l=0):Fk l=true:=by
 unfold Jm at h
 split at h
 ·assumption
 ·cases h
theorem Ul{l:Bl}{tree:Int}(h:Vn l tree=0):Jm l=0:=by
 unfold Vn at h
 split at h
 ·assumption
 ·assumption
theorem Pv{l:Bl}{no tree:Int}(h:Xc l no tree=0):inE l 2 no=0∧Vn (inB l no) tree=0:=by
 unfold Xc at h
 split at h
 ·exact⟨by assumption,h⟩
 ·rename_i q;exact absurd h q
theorem Fc{l:Bl}{way:List Int}{no tree lo hi deep:Int}(h:Yk l way no tree lo hi deep=0):Xc l no tree=0∧Kq lo hi (Yo l no)=0∧Zt (inB l no)≤18:=by
 unfold Yk at h
 split at h
 ·cases h
 ·split at h
  ·cases h
  ·split at h
   ·rename_i q;exact absurd h q
   ·rename_i q
    split at h
    ·cases h
    ·rename_i q2
     have q1:Xc l no tree=0:=Decidable.not_not.1 q
     exact⟨q1,Decidable.not_not.1 q2,Nat.le_trans (Uq (Ma (Ul (Pv q1).2))) (Zdp _ _)⟩
theorem Mx{lo hi:Int}{L:List Int}(h:Kq lo hi L=0):Uz lo hi=true∧Jf L∧∀ k∈L,lo≤k∧k<hi:=by
 unfold Kq at h
 split at h
 ·split at h
  ·split at h
   ·exact⟨by assumption,by assumption,by assumption⟩
   ·cases h
  ·cases h
 ·cases h
def InBlk(l:Bl)(tree:Int)(x:Ent):Prop :=
 Xc l x.2.2 tree=0∧Xp (inB l x.2.2)=true∧∃ k,k<Zt (inB l x.2.2)∧(Yo l x.2.2).getD k 0=x.1∧(Yx l x.2.2).getD k []=x.2.1∧∀ j,j<k→(Yo l x.2.2).getD j 0≠x.1
def Zgr(lo hi:Int)(es:List Ent):Prop:=es.Pairwise (fun x y=>x.1<y.1)∧∀ x∈es,lo≤x.1∧x.1<hi
theorem Zgr.nil(lo hi:Int):Zgr lo hi []:=⟨.nil,fun _ h=>by cases h⟩
theorem Zgr.app{lo mi hi:Int}{a b:List Ent}(h:Zgr lo mi a)(k:Zgr mi hi b)(h1:lo≤mi)(h2:mi≤hi):Zgr lo hi (a++b):=by
 refine⟨List.pairwise_append.2 ⟨h.1,k.1,fun x hx y hy=>?_⟩,fun x hx=>?_⟩
 ·have:=(h.2 x hx).2;have:=(k.2 y hy).1;omega
 ·rcases List.mem_append.1 hx with q|q
  ·have:=h.2 x q;omega
  ·have:=k.2 x q;omega
structure Went(l:List UInt8)(tree fuel:Int)(hd:Option Int)(lo hi:Int)(s t:WS)(es:List Ent)(fs:List (List Int×Int)):Prop where
 esE:t.es=s.es++es
 fsE:t.fs=s.fs++fs
 rise:Zgr lo hi es
 inb:∀ x∈es,InBlk l tree x
 flt:∀ f∈fs,f.1.head? = hd∧f.1≠[]∧f.2≠0
 dry:t.dry=true↔s.dry=true∨∃ f∈fs,f.2=12
 fuelE:t.dry=true→s.dry=true∨fuel≤t.looked
 look:s.looked≤fuel.toNat→t.looked≤fuel.toNat
 more:s.looked≤t.looked
 blks:t.bs.length+s.looked≤s.bs.length+t.looked
theorem Went.refl(l:Bl)(tree fuel:Int)(hd:Option Int)(lo hi:Int)(s:WS):Went l tree fuel hd lo hi s s [] [] :=
 ⟨by simp,by simp,Zgr.nil _ _,by simp,by simp,by simp,fun h=>.inl h,fun h=>h,Nat.le_refl _,Nat.le_refl _⟩
theorem Went.trans{l:Bl}{tree fuel:Int}{hd:Option Int}{lo mi hi:Int}{s t u:WS}{es es2:List Ent}{fs fs2:List (List Int×Int)}(h:Went l tree fuel hd lo mi s t es fs)(k:Went l tree fuel hd mi hi t u es2 fs2)(h1:lo≤mi)(h2:mi≤hi) :
  Went l tree fuel hd lo hi s u (es++es2) (fs++fs2) where
 esE:=by rw[k.esE,h.esE,List.append_assoc]
 fsE:=by rw[k.fsE,h.fsE,List.append_assoc]
 rise:=h.rise.app k.rise h1 h2
 inb x hx:=by
  rcases List.mem_append.1 hx with q|q
  ·exact h.inb x q
  ·exact k.inb x q
 flt f hf:=by
  rcases List.mem_append.1 hf with q|q
  ·exact h.flt f q
  ·exact k.flt f q
 dry:=by
  rw[k.dry,h.dry]
  constructor
  ·rintro((q|⟨f,q1,q2⟩)|⟨f,q1,q2⟩)
   ·exact .inl q
   ·exact .inr ⟨f,List.mem_append_left _ q1,q2⟩
   ·exact .inr ⟨f,List.mem_append_right _ q1,q2⟩
  ·rintro(q|⟨f,q1,q2⟩)
   ·exact .inl (.inl q)
   ·rcases List.mem_append.1 q1 with q|q
    ·exact .inl (.inr ⟨f,q,q2⟩)
    ·exact .inr ⟨f,q,q2⟩
 fuelE h0:=by
  rcases k.fuelE h0 with q|q
  ·rcases h.fuelE q with q|q
   ·exact .inl q
   ·exact .inr (by have:=k.more;omega)
  ·exact .inr q
 look h0:=k.look (h.look h0)
 more:=Nat.le_trans h.more k.more
 blks:=by have:=h.blks;have:=k.blks;omega
theorem Went.wide{l:Bl}{tree fuel:Int}{hd:Option Int}{lo hi lo2 hi2:Int}{s t:WS}{es:List Ent}{fs:List (List Int×Int)}(h:Went l tree fuel hd lo hi s t es fs)(h1:lo2≤lo)(h2:hi≤hi2):Went l tree fuel hd lo2 hi2 s t es fs :=
 { h with rise:=⟨h.rise.1,fun x hx=>by have:=h.rise.2 x hx;omega⟩ }
theorem Went.note(l:Bl)(tree fuel:Int){hd:Option Int}(lo hi:Int)(way:List Int)(no c:Int)(s:WS)(hc:c≠0)(hc2:c≠12)(hh:(way++[no]).head? = hd):Went l tree fuel hd lo hi s (Qx way [no] c s) [] [(way++[no],c)] :=
 ⟨by simp[Qx],by simp[Qx],Zgr.nil _ _,by simp,(fun f hf=>by rw[List.mem_singleton.1 hf];exact⟨hh,by simp,hc⟩),by simp[Qx,hc2],fun h=>.inl (by simpa [Qx] using h),fun h=>by simpa [Qx] using h,Nat.le_refl _,Nat.le_refl _⟩
theorem Ub{lo hi:Int}{L:List Int}(hf:Kq lo hi L=0){i:Nat}(h:i<L.length):lo≤(Xt hi L i).1∧(Xt hi L i).1≤(Xt hi L i).2∧(Xt hi L i).2≤hi∧(i+1<L.length→(Xt hi L i).2=(Xt hi L (i+1)).1):=by
 obtain⟨h1,h2,h3⟩:=Mx hf
 have h4:=h3 L[i] (List.getElem_mem _)
 unfold Xt
 simp only[List.getElem?_eq_getElem h,Option.getD_some]
 by_cases hn:i+1<L.length
 ·have h5:=h3 L[i+1] (List.getElem_mem _)
  have h6:=Jf.lt h2 (i+1) i (by omega) hn
  simp only[List.getElem?_eq_getElem h,List.getElem?_eq_getElem hn,Option.getD_some] at h6 ⊢
  exact⟨h4.1,by omega,by omega,fun _=>trivial⟩
 ·rw[List.getElem?_eq_none (by omega)]
  simp only[Option.getD_none]
  exact⟨h4.1,by omega,Int.le_refl _,fun h=>absurd h hn⟩
theorem leaf_rise{lo hi:Int}{l:Bl}{no:Int}(hf:Kq lo hi (Yo l no)=0)(Vs:List Bl):Zgr lo hi (Ju (Yo l no) Vs no (Zt (inB l no))):=by
 obtain⟨h1,h2,h3⟩:=Mx hf
 have hl:(Yo l no).length=Zt (inB l no):=by simp[Yo,Vt]
 refine⟨?_,?_⟩
 ·unfold Ju
  rw[List.pairwise_map]
  refine List.Pairwise.imp_of_mem (R:=fun a b=>a<b) ?_ List.pairwise_lt_range
  intro a b ha hb a0
  have:=Jf.lt h2 b a a0 (by rw[hl];simpa using hb)
  simpa [List.getD] using this
 ·intro x hx
  unfold Ju at hx
  obtain⟨j,hj,rfl⟩:=List.mem_map.1 hx
  have hj:j<(Yo l no).length:=by rw[hl];simpa using hj
  have:=h3 (Yo l no)[j] (List.getElem_mem _)
  simpa [List.getD,hj] using this
theorem leaf_inb{lo hi:Int}{l:Bl}{no tree:Int}(hn:Xc l no tree=0)(hl:Xp (inB l no)=true)(hf:Kq lo hi (Yo l no)=0):∀ x∈Ju (Yo l no) (Yx l no) no (Zt (inB l no)),InBlk l tree x:=by
 intro x hx
 obtain⟨h1,h2,h3⟩:=Mx hf
 have hk:(Yo l no).length=Zt (inB l no):=by simp[Yo,Vt]
 unfold Ju at hx
 obtain⟨j,hj,rfl⟩:=List.mem_map.1 hx
 have hj:j<Zt (inB l no):=by simpa using hj
 refine⟨hn,hl,j,hj,rfl,rfl,fun i hi=>?_⟩
 have:=Jf.lt h2 j i hi (by rw[hk];exact hj)
 simp only[List.getD]
 omega
theorem Mk(l:Bl)(tree fuel:Int):∀ (d:Nat) (way:List Int) (no lo hi:Int) (s:WS),s.dry=false→∃ es fs,Went l tree fuel (way++[no]).head? lo hi s (Zx l tree fuel d way no lo hi s) es fs
  | 0,way,no,lo,hi,s,_=>⟨[],[],Went.refl _ _ _ _ _ _ _⟩
  | d + 1, way, no, lo, hi, s, hs => by
    unfold Zx
    split
    · rename_i hf
      exact⟨[],[(way++[no],12)],by simp[Qx],by simp[Qx],Zgr.nil _ _,by simp,by simp,by simp,fun _=>.inr hf,fun h=>h,Nat.le_refl _,Nat.le_refl _⟩
    · rename_i hf
      have a2:s.looked+1≤fuel.toNat:=by omega
      split
      · rename_i he
        have:=Went.note l tree fuel lo hi way no _ { s with looked:=s.looked+1 } he (lookE_no _ _ _ _ _ _ _) rfl
        exact⟨_,_,this.esE,this.fsE,this.rise,this.inb,this.flt,this.dry,fun h=>by simp[Qx,hs] at h,fun _=>a2,by simp[Qx],by simp[Qx]⟩
      · rename_i he
        have he:Yk l way no tree lo hi s.deep=0:=Decidable.not_not.1 he
        obtain⟨hn,a0,hc⟩:=Fc he
        split
        · rename_i hl
          exact⟨_,[],rfl,by simp,leaf_rise a0 _,leaf_inb hn hl a0,by simp,by simp[hs],fun h=>by simp[hs] at h,fun _=>a2,by simp,by simp;omega⟩
        · have hk:(Yo l no).length=Zt (inB l no):=by simp[Yo,Vt]
          have a8:=Mx a0
          have b0:lo≤hi:=by have:=a8.1;unfold Uz at this;simp at this;omega
          have a1:=Bm (V:=Zx l tree fuel d) (l:=l) (way:=way) (no:=no) (hi:=hi) (s:={ s with looked:=s.looked+1,bs:=s.bs++[no] })
            (fun i t=>∃ es fs,Went l tree fuel (way++[no]).head? lo (if i=0 then lo else(Xt hi (Yo l no) (i-1)).2) { s with looked:=s.looked+1,bs:=s.bs++[no] } t es fs)
            ⟨[],[],Went.refl _ _ _ _ _ _ _⟩ (Zt (inB l no)) ?_ ?_
          · obtain⟨es,fs,q⟩:=a1
            refine⟨es,fs,q.esE,q.fsE,?_,q.inb,q.flt,q.dry,fun h=>?_,fun _=>q.look a2,by have:=q.more;simp only at this;omega,by have:=q.blks;simp at this;omega⟩
            · refine⟨q.rise.1,fun x hx=>?_⟩
              have:=q.rise.2 x hx
              split at this
              · omega
              · rename_i h0
                have:=(Ub a0 (i:=Zt (inB l no)-1) (by rw[hk];omega)).2.2.1
                omega
            · rcases q.fuelE h with q2|q2
              · exact .inl q2
              · exact .inr q2
          · rintro i t a4 a6 ⟨es,fs,q⟩
            have hp:=Ub a0 (i:=i) (by rw[hk];exact a4)
            have a3:lo≤(if i=0 then lo else(Xt hi (Yo l no) (i-1)).2)∧(if i=0 then lo else(Xt hi (Yo l no) (i-1)).2)≤(Xt hi (Yo l no) i).1:=by
              split
              · exact⟨Int.le_refl _,hp.1⟩
              · rename_i h0
                have a5:=Ub a0 (i:=i-1) (by rw[hk];omega)
                have:=a5.2.2.2 (by rw[hk];omega)
                rw[show i-1+1=i by omega] at this
                omega
            have q':=q.wide (Int.le_refl lo) a3.2
            rw[if_neg (by omega),Nat.add_sub_cancel]
            unfold Jq
            split
            · obtain⟨a9,b1,r⟩:=Mk l tree fuel d (way++[no]) (Xm ((Yx l no).getD i []):Int) (Xt hi (Yo l no) i).1 (Xt hi (Yo l no) i).2 t a6
              have hh:((way++[no])++[(Xm ((Yx l no).getD i []):Int)]).head? = (way++[no]).head? := by cases way<;>rfl
              rw[hh] at r
              exact⟨_,_,q'.trans r (by omega) hp.2.1⟩
            · rename_i a7
              have r:=Went.note l tree fuel (Xt hi (Yo l no) i).1 (Xt hi (Yo l no) i).2 way no (Xj ((Yx l no).getD i [])) t a7 (by rcases rootE_no ((Yx l no).getD i []) with h|h|h<;>rw[h]<;>decide) rfl
              exact⟨_,_,q'.trans r (by omega) hp.2.1⟩
          · rintro i t a4 a6 ⟨es,fs,q⟩
            have hp:=Ub a0 (i:=i) (by rw[hk];exact a4)
            rw[if_neg (by omega),Nat.add_sub_cancel]
            refine⟨es,fs,q.wide (Int.le_refl _) ?_⟩
            split
            · omega
            · rename_i h0
              have a5:=Ub a0 (i:=i-1) (by rw[hk];omega)
              have:=a5.2.2.2 (by rw[hk];omega)
              rw[show i-1+1=i by omega] at this
              omega
theorem Db(l:Bl)(tree fuel:Int):∀ (d:Nat) (way:List Int) (no lo hi:Int) (s:WS),s.dry=false →
  (Zx l tree fuel d way no lo hi s).fs.length+(Zx l tree fuel d way no lo hi s).es.length+18*s.looked≤s.fs.length+s.es.length+18*(Zx l tree fuel d way no lo hi s).looked+(if(Zx l tree fuel d way no lo hi s).dry=true then 1 else 0)
 | 0,way,no,lo,hi,s,hs=>by simp[Zx,hs]
 | d+1,way,no,lo,hi,s,hs=>by
  unfold Zx
  split
  ·simp[Qx];omega
  ·split
   ·simp[Qx,hs];omega
   ·rename_i he
    have he:Yk l way no tree lo hi s.deep=0:=Decidable.not_not.1 he
    obtain⟨hn,a3,hc⟩:=Fc he
    split
    ·simp[Lo,hs];omega
    ·have a1:=Bm (V:=Zx l tree fuel d) (l:=l) (way:=way) (no:=no) (hi:=hi) (s:={ s with looked:=s.looked+1,bs:=s.bs++[no] })
      (fun i t=>t.fs.length+t.es.length+18*(s.looked+1)≤s.fs.length+s.es.length+i+18*t.looked+(if t.dry=true then 1 else 0)) (by simp[hs]) (Zt (inB l no)) ?_ ?_
     ·omega
     ·intro i t a2 a0 q
      rw[a0] at q
      unfold Jq
      split
      ·have:=Db l tree fuel d (way++[no]) (Xm ((Yx l no).getD i []):Int) (Xt hi (Yo l no) i).1 (Xt hi (Yo l no) i).2 t a0
       simp at q
       omega
      ·simp[Qx,a0] at q ⊢;omega
     ·intro i t a2 a0 q;omega
end Go.Proofs.YtceeiinepijokaaGreat
namespace Go.Proofs.YtceeiinepijokaaGreat
set_option maxHeartbeats 8000000
set_option maxRecDepth 100000
open Go.RowKit Go.Extern.Stop Go.Stop Go.Extern
set_option linter.unusedVariables false
attribute [local irreducible] wpList wpAnyH Code.wp Oper.wp Go
theorem Zbw{B bw Bi b:Nat}{pi:O0}{ni ci:Nat}{l:Bl}{tree fuel:Int}(hBb:B≤bw)(hfu:fuel≤1000000):∀ d,VisitC B bw Bi b pi ni ci l tree fuel (d+1)
 | 0=>fun a0 no lo hi s pe pb pf pw ce cb cf cw fv w h1 h2 h3 h4 h5 h6 h7=>Ea B bw Bi b pi ni ci l tree fuel 0 (fun h=>absurd rfl h) a0 no lo hi s pe pb pf pw ce cb cf cw fv w hBb h2 h1 h3 hfu h4 h5 h6 h7
 | d+1=>fun a0 no lo hi s pe pb pf pw ce cb cf cw fv w h1 h2 h3 h4 h5 h6 h7=>Ea B bw Bi b pi ni ci l tree fuel (d+1) (fun _=>Zbw hBb hfu d) a0 no lo hi s pe pb pf pw ce cb cf cw fv w hBb h2 h1 h3 hfu h4 h5 h6 h7
def ws0:WS:=⟨[],[],0,0,[],false⟩
def Ze(l:Bl)(root tree fuel:Int):WS:=Zx l tree fuel 17 [] root 0 281474976710656 ws0
theorem Hh(l:Bl)(root tree fuel:Int):∃ es fs,Went l tree fuel (some root) 0 281474976710656 ws0 (Ze l root tree fuel) es fs:=Mk l tree fuel 17 [] root 0 281474976710656 ws0 rfl
theorem Ds(l:Bl)(root tree fuel:Int):(Ze l root tree fuel).looked≤fuel.toNat:=by
 obtain⟨_,_,h⟩:=Hh l root tree fuel
 exact h.look (Nat.zero_le _)
theorem Uf(l:Bl)(root tree fuel:Int)(hf:fuel≤1000000):(Ze l root tree fuel).es.length≤100000000∧(Ze l root tree fuel).bs.length≤100000000∧(Ze l root tree fuel).fs.length≤100000000:=by
 have h1:=Db l tree fuel 17 [] root 0 281474976710656 ws0 rfl
 have h2:=Ds l root tree fuel
 obtain⟨_,_,h3⟩:=Hh l root tree fuel
 have h4:=h3.blks
 simp only[ws0,List.length_nil] at h4
 change (Ze l root tree fuel).fs.length+(Ze l root tree fuel).es.length+18*0≤0+0+18*(Ze l root tree fuel).looked+(if(Ze l root tree fuel).dry=true then 1 else 0) at h1
 have h5:(if(Ze l root tree fuel).dry=true then 1 else 0)≤1:=by split<;>omega
 have h6:fuel.toNat≤1000000:=by omega
 generalize (if(Ze l root tree fuel).dry=true then 1 else 0)=q at h1 h5
 omega
def walkC(t:WS)(pe pb pf:O0)(ce cb cf:Nat):List Value:=[.slice pe t.es.length ce,.slice pb t.bs.length cb,V0 t.deep,V0 (t.looked:Int),.slice pf t.fs.length cf]
structure WalkV(B:Nat)(t:WS)(pe pb pf:Option Addr)(ce cb cf:Nat)(fv:List Value)(w:World):Prop where
 ents:w.ownsRow B 122 3 (.slice pe t.es.length ce) t.es.length (t.es.flatMap Qz)
 blks:w.ownsRow B 3 1 (.slice pb t.bs.length cb) t.bs.length (t.bs.map (Value.int .i64))
 flts:w.ownsRow B 32 1 (.slice pf t.fs.length cf) t.fs.length fv
 fltv:Jy w t.fs fv
def ScanP(l:Bl)(root tree fuel:Int)(w:World)(e:Ending)(w':World):Prop :=
 ∃ pe pb pf ce cb cf fv,e=.returned (.agg (walkC (Ze l root tree fuel) pe pb pf ce cb cf).toArray)∧B3 w w'∧WalkV w.heap.size (Ze l root tree fuel) pe pb pf ce cb cf fv w'
theorem walk_Scan(Bi b:Nat)(pi:O0)(ni ci:Nat)(l:Bl)(root tree fuel:Int)(w:World)(hfu:fuel≤1000000)(hI:ImgR Bi b pi ni ci l w) :
 C0 80 #[P0 b,V0 root,V0 tree,V0 fuel] w (ScanP l root tree fuel w):=by
 refine zin 23 Tryz.func80 ?_
 refine xa 2 [S0,S0,V0 0,V0 0,S0] 108 fun b1 W1 n1=>?_
 refine xa 8 [S0,S0,V0 0,V0 0,S0,P0 b,V0 tree,V0 fuel,S0,.bool false] 251 fun b2 W2 n2=>?_
 refine xr 7 (args:=#[]) (Zfx _) fun W3 a5=>?_
 have a0:=Uf l root tree fuel hfu
 have g2:=n2.ge n1.below
 have hB:=bln (bln n1.below n2.below) a5
 have k2:=n2.blk.below a5
 have a7:=((hI.below n1.below).below n2.below).below a5
 refine xc 0 (args:=#[P0 b2,V0 root,.agg #[V0 0,V0 281474976710656]]) (Zbw (B:=w.heap.size) (bw:=b2) (Bi:=Bi) (b:=b) (pi:=pi) (ni:=ni) (ci:=ci) (l:=l) (tree:=tree) (fuel:=fuel) g2 (by omega) 16 [] root 0 281474976710656 ws0 none none none none 0 0 0 0 [] _ rfl hB.size rfl ⟨k2,World.ownsRow_nil _ _ _ _,World.ownsRow_nil _ _ _ _,World.ownsRow_nil _ _ _ _,trivial,World.ownsRow_nil _ _ _ _,Jt.nil _,a7⟩ a0.1 a0.2.1 a0.2.2) ?_
 rintro _ W4 ⟨u4,pe,pb,pf,pw,ce,cb,cf,cw,fv,rfl,a9,b3,hR⟩
 change WalkR _ _ _ _ _ _ _ _ _ _ _ (Ze l root tree fuel) _ _ _ _ _ _ _ _ _ _ at hR
 obtain⟨kW,b0,b5,a8,b4,b6,b7,hI⟩:=hR
 refine xlv 7 (kW.rpp 0 5) ?_
 have k1:=((n1.blk.below n2.below).below a5).only b3 (by decide)
 refine xsv 0 k1 [.slice pe ((Ze l root tree fuel).es.length) ce,.slice pb ((Ze l root tree fuel).bs.length) cb,V0 (Ze l root tree fuel).deep,V0 ((Ze l root tree fuel).looked:Int),.slice pf ((Ze l root tree fuel).fs.length) cf] fun W5 u5 k5=>?_
 have g1:=n1.ge (B4 w)
 have a6:=u5.below (hB.trans a9) g1
 have a3:=u5.own2 b0 k1 (by decide)
 have a4:=u5.own2 b5 k1 (by decide)
 have a1:=u5.own2 a8 k1 (by decide)
 have a2:=b4.only (Zd.of_upd (T:=[108]) u5 k1 (by decide)) (by decide)
 exact xec 3 k5 (.agg #[.slice pe ((Ze l root tree fuel).es.length) ce,.slice pb ((Ze l root tree fuel).bs.length) cb,V0 (Ze l root tree fuel).deep,V0 ((Ze l root tree fuel).looked:Int),.slice pf ((Ze l root tree fuel).fs.length) cf]) ⟨_,_,_,_,_,_,_,rfl,a6,⟨a3,a4,a1,a2⟩⟩
end Go.Proofs.YtceeiinepijokaaGreat
namespace Go.Proofs.YtceeiinepijokaaGreat
set_option maxHeartbeats 8000000
set_option maxRecDepth 100000
open Go.RowKit Go.Extern.Stop Go.Stop Go.Extern
set_option linter.unusedVariables false
theorem Rf{l:Bl}:∀ {n:Nat},Yg l n=0→∀ i,i<n→Ts l i=0
 | 0,_,i,h=>absurd h (by omega)
 | n+1,h,i,hi=>by
  by_cases h1:Yg l n=0
  ·rw[Yg,if_neg (by rw[h1];decide)] at h
   by_cases e:i=n
   ·rw[e];exact h
   ·exact Rf h1 i (by omega)
  ·rw[Yg,if_pos h1] at h
   exact absurd h h1
theorem nodeE_keys{l:Bl}(h:Jm l=0):Yg l (Zt l)=0:=by
 unfold Jm at h
 split at h
 ·split at h
  ·exact h
  ·cases h
 ·cases h
theorem keysI_sort{l:Bl}{n:Nat}(h:Yg l n=0):Jf (Vt l n):=by
 intro k hk h1
 rw[Hx] at hk
 have e:=Rf h k hk
 have g:∀ j,j<n→(Vt l n)[j]?.getD 0=(Ir l j:Int):=fun j hj=>by simp[Vt,List.getElem?_range hj]
 rw[g _ (by omega),g _ hk]
 unfold Ts at e
 split at e
 ·cases e
 ·split at e
  ·cases e
  ·rename_i q;omega
theorem nodK_sort{l:Bl}{no tree:Int}(h:Xc l no tree=0):Jf (Yo l no):=keysI_sort (nodeE_keys (Ul (Pv h).2))
end Go.Proofs.YtceeiinepijokaaGreat
namespace Go.Proofs.YtceeiinepijokaaGreat
set_option maxHeartbeats 8000000
set_option maxRecDepth 100000
open Go.RowKit Go.Extern.Stop Go.Stop Go.Extern
set_option linter.unusedVariables false
section
variable {P:Program} {fn:Func} {R:Ending→World→Prop} {w:World} {s:Zs}
def BlksOf(w:World):List (Nat×List Value)→Prop
 | []=>True
 | p::r=>(∃ t,Blk w p.1 p.2 t)∧BlksOf w r
noncomputable def zrlm (P:Program) (n:Nat) (kv:List (Nat×Value)) (l:List ResultVar):List (List Value)→Option (List Nat×List Value):=List.rec (motive:=fun _=>List (List Value)→Option (List Nat×List Value)) (fun _=>some ([],[])) (fun r _ ih css=>match r with
 | .tmp t=>match ih css with
  | some r=>some (r.1,zget n kv t::r.2)
  | none=>none
 | .cell k t=>match css with
  | []=>none
  | p::css'=>match zget n kv k with
   | .pointer (some ⟨b,off,sp⟩)=>match sp with
    | none=>match Nat.beq off 0&&(zrow P t&&zsz P t p.length) with
     | true=>match ih css' with
      | some r=>some (b::r.1,.agg p.toArray::r.2)
      | none=>none
     | false=>none
    | some _=>none
   | _=>none) l
theorem Iu(n:Nat)(kv:List (Nat×Value))(w:World):∀ (l:List ResultVar) (css:List (Nat×List Value)) (vs:List Value),BlksOf w css→zrlm P n kv l (css.map Prod.snd)=some (css.map Prod.fst,vs)→(l.mapM (zrf (zact n kv).tmps)).run P w=.ok vs w
  | [],css,vs,_,h=>by
    have h':some (([]:List Nat),([]:List Value))=some (css.map Prod.fst,vs):=h
    simp only[Option.some.injEq,Prod.mk.injEq] at h'
    rw[←h'.2];rfl
  | r :: l, css, vs, hb, h => by
    rw[List.mapM_cons]
    cases r with
    | tmp t =>
      have h':(match zrlm P n kv l (css.map Prod.snd) with|some r=>some (r.1,zget n kv t::r.2)|none=>none)=some (css.map Prod.fst,vs):=h
      split at h'
      · rename_i r' hv
        simp only[Option.some.injEq,Prod.mk.injEq] at h'
        obtain⟨h1,rfl⟩:=h'
        have a1:zrlm P n kv l (css.map Prod.snd)=some (css.map Prod.fst,r'.2):=by rw[hv,←h1]
        simp only[zrf,Sem.run_bind,Sem.run_pure,Result.andThen_ok,Iu n kv w l css r'.2 hb a1,Uh]
      · cases h'
    | cell k t' =>
      cases css with
      | nil=>cases h
      | cons p css =>
      have h':(match zget n kv k with
      | .pointer (some ⟨b,a0,sp⟩)=>match sp with
        | none=>match Nat.beq a0 0&&(zrow P t'&&zsz P t' p.2.length) with
          | true=>match zrlm P n kv l (css.map Prod.snd) with
            | some r=>some (b::r.1,.agg p.2.toArray::r.2)
            | none=>none
          | false=>none
        | some _=>none
      | _=>none)=some (p.1::css.map Prod.fst,vs):=h
      split at h'
      · rename_i b' a0 sp a2
        cases sp with
        | some _=>cases h'
        | none =>
          dsimp only at h'
          split at h'
          · rename_i hc
            simp only[Bool.and_eq_true] at hc
            split at h'
            · rename_i r' hv
              simp only[Option.some.injEq,Prod.mk.injEq,List.cons.injEq] at h'
              obtain⟨⟨rfl,h1⟩,rfl⟩:=h'
              obtain⟨⟨t,kb⟩,a3⟩:=hb
              have a1:zrlm P n kv l (css.map Prod.snd)=some (css.map Prod.fst,r'.2):=by rw[hv,←h1]
              obtain rfl:a0=0:=Nat.eq_of_beq_eq_true hc.1
              have hu:=hc.2.1
              unfold zrow at hu
              split at hu
              · rename_i d hd
                have hl:=run_loadVar_mid (P:=P) w p.1 0 t' p.2 d kb.whole hd hu (Zb3 hc.2.2)
                have e:(zact n kv).tmps.getD k undef=.pointer (some ⟨p.1,0,none⟩):=by rw[Uh];exact a2
                simp only[zrf,e,asAddr,Sem.run_bind,Sem.run_pure,Result.andThen_ok,hl,Iu n kv w l css r'.2 a3 a1]
              · cases hu
            · cases h'
          · cases h'
      · cases h'
noncomputable def zresm (P:Program) (s:Zs) (fn:Func) (css:List (List Value)):Option (List Nat×Value):=match zfin s with
 | true=>match zrlm P s.n s.kv fn.results.toList css with
  | some r=>some (r.1,zvs r.2)
  | none=>none
 | false=>none
theorem xecm(q:Zq)(css:List (Nat×List Value))(hb:BlksOf w css)(v:Value)(hR:R (.returned v) w)(h:zresm P (zq P q s) fn (css.map Prod.snd)=some (css.map Prod.fst,v):=by kernel_rfl):Go P fn R s w:=by
 refine Zy q s ?_
 unfold zresm at h
 split at h
 ·rename_i hf
  split at h
  ·rename_i r hv
   simp only[Option.some.injEq,Prod.mk.injEq] at h
   obtain⟨h1,rfl⟩:=h
   have hv:zrlm P (zq P q s).n (zq P q s).kv fn.results.toList (css.map Prod.snd)=some (css.map Prod.fst,r.2):=by rw[hv,←h1]
   exact Zeh hf (Nz (Iu _ _ _ _ _ _ hb hv)) hR
  ·cases h
 ·cases h
end
end Go.Proofs.YtceeiinepijokaaGreat
namespace Go.Proofs.YtceeiinepijokaaGreat
set_option maxHeartbeats 8000000
set_option maxRecDepth 100000
open Go.RowKit Go.Extern.Stop Go.Stop Go.Extern
set_option linter.unusedVariables false
attribute [local irreducible] wpList wpAnyH Code.wp Oper.wp Go
theorem Zgi(L:List Int):∀ u∈L.map V0,u.oneCell'=true:=by intro u hu;obtain⟨x,_,rfl⟩:=List.mem_map.1 hu;rfl
abbrev Wu:=Nat×Int×Int
def Ze3(p:Wu):List Value:=[V0 (p.1:Int),V0 p.2.1,V0 p.2.2]
theorem Uj(p:Wu):(Ze3 p).length=3:=rfl
def Yi:Wu:=(4,0,0)
def Hv(ps:List Wu):Prop:=ps.length≤1000∧∀ i,i<ps.length→((ps.getD i Yi).1=4∨(ps.getD i Yi).1=8)∧0≤(ps.getD i Yi).2.1∧(ps.getD i Yi).2.2<9223372036854775808∧((ps.getD i Yi).1=4→(ps.getD i Yi).2.2<4294967296)
def inP (p:Wu)(n:Int):Bool:=decide (p.2.1≤n∧n≤p.2.2)
def Gd(ps:List Wu)(N:List Int)(k:Nat):Bool:=(List.range k).all fun i=>inP (ps.getD i Yi) (N.getD i 0)
theorem allIn_succ(ps:List Wu)(N:List Int)(k:Nat):Gd ps N (k+1)=(Gd ps N k&&inP (ps.getD k Yi) (N.getD k 0)):=by simp[Gd,List.range_succ]
theorem Ay{ps:List Wu}{N:List Int}{i k:Nat}(hi:i<k)(h:inP (ps.getD i Yi) (N.getD i 0)=false):Gd ps N k=false:=by
 unfold Gd
 rw[List.all_eq_false]
 exact⟨i,List.mem_range.2 hi,by rw[h];decide⟩
def Dc(ps:List Wu)(N:List Int)(k:Nat):Bl:=(List.range k).flatMap fun i=>leB (N.getD i 0) (ps.getD i Yi).1
theorem Lj(ps:List Wu)(N:List Int)(k:Nat):Dc ps N (k+1)=Dc ps N k++leB (N.getD k 0) (ps.getD k Yi).1:=by simp[Dc,List.range_succ]
def Gx(ps:List Wu)(k:Nat):List Nat:=(List.range k).map fun i=>(ps.getD i Yi).1
theorem Kl(ps:List Wu)(k:Nat):Gx ps (k+1)=Gx ps k++[(ps.getD k Yi).1]:=by simp[Gx,List.range_succ]
theorem Lu(ps:List Wu)(k:Nat):(Gx ps k).length=k:=by simp[Gx]
theorem wids_get(ps:List Wu){k i:Nat}(h:i<k):(Gx ps k).getD i 0=(ps.getD i Yi).1:=by simp[Gx,List.getD,List.getElem?_range h]
theorem Nf(ps:List Wu)(N:List Int)(k:Nat):(Dc ps N k).length=(Gx ps k).sum:=by
 induction k with
 | zero=>rfl
 | succ k ih=>rw[Lj,Kl,List.length_append,Zj,ih];simp
theorem Pack_48(g w:Nat)(n:Int)(W:World)(hw:w=4∨w=8)(h0:0≤n)(hb:w=4→n<4294967296)(hk:Blk W g [V0 (w:Int),V0 n] 235):C0 131 #[.slice (S1 g) 1 1] W (Vo (fun w' r=>∃ p c,r=.tuple #[.slice p w c,V0 0]∧w'.ownsRow W.heap.size 5 1 (.slice p w c) w ((leB n w).map bv)) W):=by
 rcases hw with rfl|rfl
 ·exact Da g n h0 (hb rfl) W hk
 ·exact Pack_8 g n h0 W hk
def ValPutP(ps:List Wu)(N:List Int)(w:World)(e:Ending)(w':World):Prop :=
 (Gd ps N ps.length=false∧e=.returned (.string ⟨#[]⟩)∧B3 w w')∨(Gd ps N ps.length=true∧e=.returned (.string ⟨(Dc ps N ps.length).toArray⟩)∧B3 w w')
theorem value_putG(ps:List Wu)(N:List Int)(gl gn:O0)(cl cn:Nat)(w:World)(hps:Hv ps)(hNl:N.length=ps.length)(hP:Sts Ze3 w (.slice gl ps.length cl) ps)(hN:Sl w (.slice gn ps.length cn) ps.length (N.map V0)) :
 C0 157 #[.slice gl ps.length cl,.slice gn ps.length cn] w (ValPutP ps N w):=by
 have c4:=hps.1
 refine zin 51 Tryz.func157 ?_
 have hB:=Below.refl w.heap.size w
 refine zl 19 51 (fun zm b6 V=>∃ (i m:Nat) (q:O0) (d:Nat),b6=[(1,.slice gn ps.length cn),(5,.slice q m d),(10,.slice gl ps.length cl),(11,V0 (ps.length:Int)),(12,V0 (i:Int))]∧zm=ps.length-((i:Int)).toNat∧B3 w V∧V.ownsRow w.heap.size 5 1 (.slice q m d) m ((Dc ps N i).map bv)∧i≤ps.length∧m=(Gx ps i).sum∧m≤i*8∧Gd ps N i=true) ⟨0,0,_,_,rfl,rfl,hB,World.ownsRow_nil _ _ _ _,Nat.zero_le _,rfl,Nat.zero_le _,rfl⟩ ?_
 rintro _ _ W1 ⟨i,m,q,d,rfl,rfl,a1,ho,hi,hm,c0,a5⟩ J1 b2 r1
 refine xid 6 ((i:Int)<(ps.length:Int)) (fun b8=>?_) (fun b8=>?_)
 ·refine xx 7 _ ps.length i 3 (Sts.cell hP Uj Yi (k:=i) (i:=0) (by omega) rfl).1 ?_
  refine xlv 0 (Sts.rp (k:=i) (hP.below a1) Uj Yi (by omega) (by decide)) ?_
  refine xa 0 [V0 0,V0 0,V0 0] 268 fun b3 W3 n3=>?_
  have g3:=n3.ge a1
  refine xsv 1 n3.blk [V0 (↑(ps.getD i Yi).1:Int),V0 ((ps.getD i Yi).2.1),V0 ((ps.getD i Yi).2.2)] fun W4 u4 k4=>?_
  refine xd 4 .z ?_
  refine xx (.e [0,1] 2) _ ps.length i 1 (IntsN.elem hN hNl (k:=i) (by omega)).1 ?_
  have a0:=bln (u4.below (bln a1 n3.below) g3) (Za W4)
  refine xl (.e [] 3) ((IntsN.elem (hN.below a0) hNl (k:=i) (by omega)).2) ?_
  have a3:=k4.below (Za W4)
  refine xb (.e [4] 5) 1 a3 ?_
  refine xg (.b [6,7]) [23,24] (decide ((N.getD i 0)<(ps.getD i Yi).2.1)) (fun a4=>?_) (fun a4=>?_)
  ·have a4:=of_decide_eq_true a4
   exact xe (.r [8,9,10,11,12,13,14,15] 15) (.string ⟨#[]⟩) (.inl ⟨Ay (i:=i) (by omega) (decide_eq_false (by omega)),rfl,a0⟩)
  have a4:=of_decide_eq_false a4
  refine xx (.e [8,9] 10) _ ps.length i 1 (IntsN.elem hN hNl (k:=i) (by omega)).1 ?_
  refine xl (.e [] 11) ((IntsN.elem (hN.below a0) hNl (k:=i) (by omega)).2) ?_
  refine xb (.e [12] 13) 2 a3 ?_
  refine xid (.r [14,15] 2) ((N.getD i 0)>(ps.getD i Yi).2.2) (fun b4=>?_) (fun b4=>?_)
  ·exact xe 12 (.string ⟨#[]⟩) (.inl ⟨Ay (i:=i) (by omega) (decide_eq_false (by omega)),rfl,a0⟩)
  refine xd 3 .z ?_
  have a7:=a3.below (Za W4.drew)
  refine xb (.e [0] 1) 0 a7 ?_
  refine xx (.e [2,3] 4) _ ps.length i 1 (IntsN.elem hN hNl (k:=i) (by omega)).1 ?_
  have a2:=bln a0 (Za W4.drew)
  refine xl (.e [] 5) ((IntsN.elem (hN.below a2) hNl (k:=i) (by omega)).2) ?_
  refine xbs (.o [6] 7) 1 [V0 (↑(ps.getD i Yi).1:Int),V0 (N.getD i 0)] 235 fun b7 W7 n7=>?_
  have g7:=n7.ge a2
  refine yc (.o [] 8) (args:=#[.slice (S1 b7) 1 1]) .z (Pack_48 b7 (ps.getD i Yi).1 (N.getD i 0) _ (hps.2 i (by omega)).1 (by have:=(hps.2 i (by omega)).2.1;omega) (fun q=>by have:=(hps.2 i (by omega)).2.2.2 q;omega) n7.blk) ?_
  rintro _ W8 ⟨_,rfl,a9,p2,c2,rfl,h2⟩
  have b9:=(bln a2 n7.below).size
  refine⟨a9,?_⟩
  have b0:=Zb (Zb (Zb (Zb (u4.own2 (Zb ho n3.below) n3.blk (by decide)) (Za W4)) (Za W4.drew)) n7.below) a9
  have a8:=Zh h2 b9
  have a6:=bln (bln a2 n7.below) a9
  refine xbi (.r [9,10,11,12,13] 5) fun _ _ _ _ zJ zQ zo zx zy zK=>Xd (m:=(ps.getD i Yi).1) (news:=(leB (N.getD i 0) (ps.getD i Yi).1).map bv) (.int .u8 0) 1 1 ((m+(ps.getD i Yi).1)) (((Dc ps N (i+1)).map bv)) zo Tryz.underlying22 (by kernel_rfl) rfl (by decide) zx b0 zy (Zf a8) (by simp[Zj]) (Qn _) (by unfold maxLen;have:=(hps.2 i (by omega)).1;omega) (by have:=(hps.2 i (by omega)).1;omega) a6.size (by rfl) (by rw[Lj,List.map_append]) fun c3 c5 W9 o9 c1 b5=>?_
  refine zK _ _ ?_
  refine xwm 5 ((i:Int)+1) (↑(i+1):Int) ?_
  have b1:=a6.trans b5
  exact ze 2 (b2 _ _ _ ⟨i+1,_,_,_,rfl,rfl,b1,o9,by omega,by rw[Kl,hm];simp,by have:=(hps.2 i (by omega)).1;omega,by rw[allIn_succ,a5];exact decide_eq_true ⟨by omega,by omega⟩⟩ (by omega))
 refine xcv0 8 (fun _ _ _ zo zx=>Nc zo zx (Qu (Zf ho) (by rw[Nf];exact hm.symm)) (by rw[Nf];exact hm.symm) Tryz.underlying22 Tryz.underlying5 Tryz.underlying9) ?_
 refine xe 4 (.string ⟨(Dc ps N i).toArray⟩) ?_
 obtain rfl:i=ps.length:=by omega
 exact .inr ⟨a5,rfl,a1⟩
def Jw(ps:List Wu)(s:Bl):List Nat:=Wg s 0 (Gx ps ps.length)
theorem Wm(ps:List Wu)(s:Bl):(Jw ps s).length=ps.length:=by rw[Jw,Oz,Lu]
def We(ps:List Wu)(s:Bl):Bool:=Gd ps ((Jw ps s).map fun n:Nat=>(n:Int)) ps.length
def Xk(ps:List Wu)(s:Bl):Int:=if s.length=(Gx ps ps.length).sum then(if We ps s then 0 else 2) else 7
def Ql(ps:List Wu)(s:Bl):List Nat:=if Xk ps s=0 then Jw ps s else List.replicate ps.length 0
theorem Qp(ps:List Wu)(s:Bl):(Ql ps s).length=ps.length:=by
 unfold Ql;split
 ·exact Wm ps s
 ·simp
theorem readOk_lt{ps:List Wu}{s:Bl}(hp:Hv ps)(h:We ps s=true):∀ i,i<(Gx ps ps.length).length→(Wg s 0 (Gx ps ps.length)).getD i 0<9223372036854775808:=by
 intro i hi
 rw[Lu] at hi
 unfold We Gd at h
 rw[List.all_eq_true] at h
 have h1:=of_decide_eq_true (h i (List.mem_range.2 hi))
 have h2:=(hp.2 i hi).2.2.1
 rw[show((Jw ps s).map fun n:Nat=>(n:Int)).getD i 0=(((Jw ps s).getD i 0:Nat):Int) by simp[List.getD,show i<(Jw ps s).length by rw[Wm];exact hi]] at h1
 change (Jw ps s).getD i 0<_
 omega
theorem map_nv(l:List Nat):l.map nv=(l.map fun n:Nat=>(n:Int)).map V0:=by simp[nv]
theorem putL_ne{ps:List Wu}{N:List Int}(hp:Hv ps)(h0:0<ps.length):((⟨(Dc ps N ps.length).toArray⟩:ByteArray).toList==(⟨#[]⟩:ByteArray).toList)=false:=by
 rw[show(⟨#[]⟩:ByteArray)=⟨([]:Bl).toArray⟩ from rfl,str_beq]
 apply beq_false_of_ne
 intro q
 have h1:=congrArg List.length q
 obtain⟨k,hk⟩:∃ k,ps.length=k+1:=⟨ps.length-1,by omega⟩
 rw[hk,Lj,List.length_append,Zj] at h1
 rw[List.length_nil] at h1
 have:=(hp.2 k (by omega)).1
 omega
theorem Zaz(n:Nat):Kv (Value.int .i64 0).cells.toList n=(List.replicate n 0).map nv:=by
 rw[show(Value.int .i64 0).cells.toList=[Value.int .i64 0] from rfl,Kv,List.map_replicate]
 induction n with
 | zero=>rfl
 | succ n ih=>rw[List.replicate_succ,List.flatten_cons,ih,List.replicate_succ];rfl
theorem Sd(ps:List Wu)(s:Bl)(gl:O0)(cl:Nat)(w:World)(hps:Hv ps)(h0:0<ps.length)(hs:s.length≤100000)(hP:Sts Ze3 w (.slice gl ps.length cl) ps)(hsl:s.length≠(Gx ps ps.length).sum) :
 C0 89 #[.slice gl ps.length cl,.string ⟨s.toArray⟩] w (Vo (fun w' r=>∃ p c,r=.tuple #[.slice p ps.length c,V0 (Xk ps s)]∧w'.ownsRow w.heap.size 3 1 (.slice p ps.length c) ps.length ((Ql ps s).map nv)) w):=by
 have c2:=hps.1
 refine zin 54 Tryz.func89 ?_
 have hB:=Below.refl w.heap.size w
 refine zl 25 54 (fun zm b2 V=>∃ (i:Nat) (q:O0) (d:Nat),b2=[(0,.slice gl ps.length cl),(1,.string ⟨s.toArray⟩),(4,S0),(5,V0 0),(6,.slice q i d),(7,V0 (↑(Gx ps i).sum:Int)),(12,.slice gl ps.length cl),(13,V0 (ps.length:Int)),(14,V0 (i:Int))]∧zm=ps.length-((i:Int)).toNat∧B3 w V∧V.ownsRow w.heap.size 3 1 (.slice q i d) i ((Gx ps i).map nv)∧i≤ps.length∧(Gx ps i).sum≤i*8) ⟨0,_,_,rfl,rfl,hB,World.ownsRow_nil _ _ _ _,Nat.zero_le _,Nat.zero_le _⟩ ?_
 rintro _ _ W1 ⟨i,q,d,rfl,rfl,a0,ho,hi,b9⟩ J1 b1 r1
 have b8:i<ps.length→(ps.getD i Yi).1≤8:=fun q=>by have:=(hps.2 i q).1;omega
 refine xid 6 ((i:Int)<(ps.length:Int)) (fun b4=>?_) (fun b4=>?_)
 ·refine xx 6 _ ps.length i 3 (Sts.cell hP Uj Yi (k:=i) (i:=0) (by omega) rfl).1 ?_
  refine xlv 0 (Sts.rp (k:=i) (hP.below a0) Uj Yi (by omega) (by decide)) ?_
  refine xa 0 [V0 0,V0 0,V0 0] 268 fun b3 W3 n3=>?_
  have g3:=n3.ge a0
  refine xsv 0 n3.blk [V0 (↑(ps.getD i Yi).1:Int),V0 ((ps.getD i Yi).2.1),V0 ((ps.getD i Yi).2.2)] fun W4 u4 k4=>?_
  refine xb 6 0 k4 ?_
  refine xbs 0 1 [V0 (↑(ps.getD i Yi).1:Int)] 3 fun b5 W5 n5=>?_
  have a2:=u4.below (bln a0 n3.below) g3
  have g5:=n5.ge a2
  have a3:=u4.own2 (Zb ho n3.below) n3.blk (by decide)
  have a9:=Zu a3 n5
  have a1:=Zb a3 n5.below
  have a4:=bln a2 n5.below
  refine xbi 0 fun _ _ _ _ zJ zQ zo zx zy zK=>Xd (m:=1) (news:=[V0 (↑(ps.getD i Yi).1:Int)]) (V0 0) 1 8 (i+1) (((Gx ps (i+1)).map nv)) zo Tryz.underlying35 (by kernel_rfl) rfl (by decide) zx a1 zy (n5.blk.sl 1 1 (by decide) (by decide)) rfl (by simp[Value.oneCell']) (by unfold maxLen;omega) (by omega) a4.size (by rfl) (by rw[Kl,List.map_append];rfl) fun c0 c1 W6 o6 b6 b0=>?_
  refine zK _ _ ?_
  have a5:=(k4.below n5.below).grown b6 a1 (by decide)
  refine xb 6 0 a5 ?_
  refine xwm 0 ((↑(Gx ps i).sum:Int)+(↑(ps.getD i Yi).1:Int)) (↑((Gx ps i).sum+((ps.getD i Yi).1)):Int) ?_
  refine xwm 5 ((i:Int)+1) (↑(i+1):Int) ?_
  refine xv1 2 7 (show(V0 (↑((Gx ps i).sum+((ps.getD i Yi).1)):Int):Value)=V0 (↑(Gx ps (i+1)).sum:Int) from by rw[Kl];simp) ?_
  have a6:=a4.trans b0
  exact ze 0 (b1 _ _ _ ⟨i+1,_,_,rfl,rfl,a6,o6,by omega,by rw[Kl,List.sum_append,List.sum_cons,List.sum_nil];have:=b8 (by omega);omega⟩ (by omega))
 refine xk 14 (show(((s.length:Int) != (↑(Gx ps i).sum:Int)):Bool)=true from bne_iff_ne.2 (by rw[show i=ps.length by omega];omega)) ?_
 refine xmk 4 fun _ _ _ _ zJ zQ zo zx zy zK=>Kw ps.length (V0 0) 1 8 ((List.replicate ps.length 0).map nv) zo zx zy Tryz.underlying35 (by kernel_rfl) rfl (by omega) (by omega) (Zaz _) fun b7 W7 n7=>?_
 have g7:=n7.ge a0
 have a8:=Zu ho n7
 refine zK _ _ ?_
 have a7:=bln a0 n7.below
 have o7:=Xl (size:=1) (n:=ps.length) n7.blk g7 (by simp) (by unfold maxLen;omega)
 refine xe 6 (.tuple #[.slice (S1 b7) ps.length ps.length,V0 7]) ?_
 have he:Xk ps s=7:=if_neg hsl
 exact⟨_,rfl,a7,_,_,by rw[he],by rw[Ql,if_neg (by rw[he];decide)];exact o7⟩
def UnpP(s:Bl)(ws:List Nat)(n:Nat)(W:World)(e:Ending)(w':World):Prop :=
 ((¬ ∀ i,i<ws.length→(Wg s 0 ws).getD i 0<9223372036854775808)∧e=.returned (.tuple #[S0,V0 2])∧B3 W w') ∨
 ((∀ i,i<ws.length→(Wg s 0 ws).getD i 0<9223372036854775808)∧∃ p c,e=.returned (.tuple #[.slice p n c,V0 0])∧B3 W w'∧w'.ownsRow W.heap.size 3 1 (.slice p n c) n ((Wg s 0 ws).map nv))
theorem Unpack_P(a:O0)(n c m:Nat)(s:Bl)(aw:O0)(cw:Nat)(ws:List Nat)(W:World)(hn:s.length=n)(hm:ws.length=m)(hk:∀ i,i<ws.length→ws.getD i 0=1∨ws.getD i 0=2∨ws.getD i 0=4∨ws.getD i 0=8)(hs:ws.sum≤n)(hl:n≤100000000)(hw:m≤1000)(h:Bys W (.slice a n c) s)(hws:Sl W (.slice aw m cw) m (ws.map nv)) :
 C0 156 #[.slice a n c,.slice aw m cw] W (UnpP s ws m W):=by
 subst hn hm
 by_cases hq:∀ i,i<ws.length→(Wg s 0 ws).getD i 0<9223372036854775808
 ·refine(Zb1 a c s aw cw ws W hk hs hl hw h hws hq).mono ?_
  rintro e V ⟨_,rfl,hb,p,c2,rfl,ho⟩
  exact .inr ⟨hq,p,c2,rfl,hb,ho⟩
 ·refine(Unpack_bad a c s aw cw ws W hk hs hl hw h hws hq).mono ?_
  rintro e V ⟨rfl,hb⟩
  exact .inl ⟨hq,rfl,hb⟩
theorem rawsI_len(ps:List Wu)(s:Bl)(k:Nat):((Wg s 0 (Gx ps k)).map fun n:Nat=>(n:Int)).length=k:=by rw[List.length_map,Oz,Lu]
theorem Rl(ps:List Wu)(N:List Int)(gl gn:O0)(cl cn n:Nat)(w:World)(hps:Hv ps)(hn:n=ps.length)(hNl:N.length=n)(hP:Sts Ze3 w (.slice gl ps.length cl) ps)(hN:Sl w (.slice gn n cn) n (N.map V0)) :
 C0 157 #[.slice gl ps.length cl,.slice gn n cn] w (fun e w'=>(Gd ps N n=false∧e=.returned (.string ⟨#[]⟩)∧B3 w w')∨(Gd ps N n=true∧e=.returned (.string ⟨(Dc ps N ps.length).toArray⟩)∧B3 w w')):=by
 subst hn;exact value_putG ps N gl gn cl cn w hps hNl hP hN
theorem Th(ps:List Wu)(s:Bl)(gl:O0)(cl:Nat)(w:World)(hps:Hv ps)(h0:0<ps.length)(hs:s.length≤100000)(hP:Sts Ze3 w (.slice gl ps.length cl) ps)(hsl:s.length=(Gx ps ps.length).sum) :
 C0 89 #[.slice gl ps.length cl,.string ⟨s.toArray⟩] w (Vo (fun w' r=>∃ p c,r=.tuple #[.slice p ps.length c,V0 (Xk ps s)]∧w'.ownsRow w.heap.size 3 1 (.slice p ps.length c) ps.length ((Ql ps s).map nv)) w):=by
 have f3:=hps.1
 refine zin 54 Tryz.func89 ?_
 have hB:=Below.refl w.heap.size w
 refine zl 25 54 (fun zm e2 V=>∃ (i:Nat) (q:O0) (d:Nat),e2=[(0,.slice gl ps.length cl),(1,.string ⟨s.toArray⟩),(4,S0),(5,V0 0),(6,.slice q i d),(7,V0 (↑(Gx ps i).sum:Int)),(12,.slice gl ps.length cl),(13,V0 (ps.length:Int)),(14,V0 (i:Int))]∧zm=ps.length-((i:Int)).toNat∧B3 w V∧V.ownsRow w.heap.size 3 1 (.slice q i d) i ((Gx ps i).map nv)∧i≤ps.length∧(Gx ps i).sum≤i*8) ⟨0,_,_,rfl,rfl,hB,World.ownsRow_nil _ _ _ _,Nat.zero_le _,Nat.zero_le _⟩ ?_
 rintro _ _ W1 ⟨i,q,d,rfl,rfl,a0,ho,hi,e9⟩ J1 d7 r1
 have e8:i<ps.length→(ps.getD i Yi).1≤8:=fun q=>by have:=(hps.2 i q).1;omega
 refine xid 6 ((i:Int)<(ps.length:Int)) (fun e5=>?_) (fun e5=>?_)
 ·refine xx 6 _ ps.length i 3 (Sts.cell hP Uj Yi (k:=i) (i:=0) (by omega) rfl).1 ?_
  refine xlv 0 (Sts.rp (k:=i) (hP.below a0) Uj Yi (by omega) (by decide)) ?_
  refine xa 0 [V0 0,V0 0,V0 0] 268 fun b3 W3 n3=>?_
  have g3:=n3.ge a0
  refine xsv 0 n3.blk [V0 (↑(ps.getD i Yi).1:Int),V0 ((ps.getD i Yi).2.1),V0 ((ps.getD i Yi).2.2)] fun W4 u4 k4=>?_
  refine xb 6 0 k4 ?_
  refine xbs 0 1 [V0 (↑(ps.getD i Yi).1:Int)] 3 fun b5 W5 n5=>?_
  have a8:=u4.below (bln a0 n3.below) g3
  have g5:=n5.ge a8
  have b0:=u4.own2 (Zb ho n3.below) n3.blk (by decide)
  have d5:=Zu b0 n5
  have a6:=Zb b0 n5.below
  have b1:=bln a8 n5.below
  refine xbi 0 fun _ _ _ _ zJ zQ zo zx zy zK=>Xd (m:=1) (news:=[V0 (↑(ps.getD i Yi).1:Int)]) (V0 0) 1 8 (i+1) (((Gx ps (i+1)).map nv)) zo Tryz.underlying35 (by kernel_rfl) rfl (by decide) zx a6 zy (n5.blk.sl 1 1 (by decide) (by decide)) rfl (by simp[Value.oneCell']) (by unfold maxLen;omega) (by omega) b1.size (by rfl) (by rw[Kl,List.map_append];rfl) fun f0 f1 W6 o6 e7 d6=>?_
  refine zK _ _ ?_
  have b7:=(k4.below n5.below).grown e7 a6 (by decide)
  refine xb 6 0 b7 ?_
  refine xwm 0 ((↑(Gx ps i).sum:Int)+(↑(ps.getD i Yi).1:Int)) (↑((Gx ps i).sum+((ps.getD i Yi).1)):Int) ?_
  refine xwm 5 ((i:Int)+1) (↑(i+1):Int) ?_
  refine xv1 2 7 (show(V0 (↑((Gx ps i).sum+((ps.getD i Yi).1)):Int):Value)=V0 (↑(Gx ps (i+1)).sum:Int) from by rw[Kl];simp) ?_
  have d2:=b1.trans d6
  exact ze 0 (d7 _ _ _ ⟨i+1,_,_,rfl,rfl,d2,o6,by omega,by rw[Kl,List.sum_append,List.sum_cons,List.sum_nil];have:=e8 (by omega);omega⟩ (by omega))
 refine xk 14 (show(((s.length:Int) != (↑(Gx ps i).sum:Int)):Bool)=false from by rw[show i=ps.length by omega,hsl];simp) ?_
 refine xcf 5 fun _ _ _ zJ zQ zo zx zK=>Me s zo zx Tryz.underlying9 Tryz.underlying22 Tryz.underlying5 (by omega) ?_
 intro bz cz W7 b6 e1
 refine zK _ _ ?_
 have a2:=Zb ho b6
 refine xc 1 (args:=#[.slice (S1 bz) s.length cz,.slice q i d]) (Unpack_P (S1 bz) s.length cz i s q d (Gx ps i) _ rfl (Lu ps i) (fun j hj=>by rw[Lu] at hj;rw[wids_get ps hj];have:=(hps.2 j (by omega)).1;omega) (by rw[show i=ps.length by omega];omega) (by omega) (by omega) e1 (Zf a2)) ?_
 rintro e W8 d9
 rcases d9 with ⟨hq,rfl,a7⟩|⟨hq,p5,c5,rfl,a7,h5⟩
 ·have a5:i=ps.length:=by omega
  have d3:We ps s=false:=by rw[←Bool.not_eq_true];intro q;exact hq (by rw[a5];exact readOk_lt hps q)
  refine xmk 25 fun _ _ _ _ zJ zQ zo zx zy zK=>Kw ps.length (V0 0) 1 8 ((List.replicate ps.length 0).map nv) zo zx zy Tryz.underlying35 (by kernel_rfl) rfl (by omega) (by omega) (Zaz _) fun b9 W9 n9=>?_
  have b2:=bln (bln a0 b6) a7
  have g9:=n9.ge b2
  have c1:=Zb a2 a7
  have d4:=Zu c1 n9
  refine zK _ _ ?_
  have c3:=bln b2 n9.below
  have o9:=Xl (size:=1) (n:=ps.length) n9.blk g9 (by simp) (by unfold maxLen;omega)
  refine xe 6 (.tuple #[.slice (S1 b9) ps.length ps.length,V0 2]) ?_
  have he:Xk ps s=2:=by unfold Xk;rw[if_pos hsl,if_neg (by rw[d3];decide)]
  exact⟨_,rfl,c3,_,_,by rw[he],by rw[Ql,if_neg (by rw[he];decide)];exact o9⟩
 have e6:=(bln a0 b6).size
 have a5:i=ps.length:=by omega
 have a3:=Zh h5 e6
 have e0:Sl (W8) (.slice p5 i c5) i (((Wg s 0 (Gx ps i)).map fun n:Nat=>(n:Int)).map V0):=by have q:=Zf a3;rw[map_nv] at q;exact q
 have a4:=bln (bln a0 b6) a7
 refine xc 15 (args:=#[.slice gl ps.length cl,.slice p5 i c5]) (Rl ps ((Wg s 0 (Gx ps i)).map fun n:Nat=>(n:Int)) gl p5 cl c5 i _ hps a5 (rawsI_len ps s i) (hP.below a4) e0) ?_
 rintro e f2 c7
 rcases c7 with ⟨c6,rfl,a1⟩|⟨c6,rfl,a1⟩
 ·have d3:We ps s=false:=by unfold We Jw;rw[←a5];exact c6
  refine xmk 9 fun _ _ _ _ zJ zQ zo zx zy zK=>Kw ps.length (V0 0) 1 8 ((List.replicate ps.length 0).map nv) zo zx zy Tryz.underlying35 (by kernel_rfl) rfl (by omega) (by omega) (Zaz _) fun d8 f4 b4=>?_
  have a9:=bln a4 a1
  have e3:=b4.ge a9
  have d1:=Zb (Zb a2 a7) a1
  have c0:=Zu d1 b4
  have d0:=Zb a3 a1
  have c8:=Zu d0 b4
  refine zK _ _ ?_
  have c2:=bln a9 b4.below
  have e4:=Xl (size:=1) (n:=ps.length) b4.blk e3 (by simp) (by unfold maxLen;omega)
  refine xe 6 (.tuple #[.slice (S1 d8) ps.length ps.length,V0 2]) ?_
  have he:Xk ps s=2:=by unfold Xk;rw[if_pos hsl,if_neg (by rw[d3];decide)]
  exact⟨_,rfl,c2,_,_,by rw[he],by rw[Ql,if_neg (by rw[he];decide)];exact e4⟩
 have b8:We ps s=true:=by unfold We Jw;rw[←a5];exact c6
 refine xk 4 (show(((⟨(Dc ps ((Wg s 0 (Gx ps i)).map fun n:Nat=>(n:Int)) ps.length).toArray⟩:ByteArray).toList==(⟨#[]⟩:ByteArray).toList):Bool)=false from putL_ne hps h0) ?_
 have c4:=bln a4 a1
 have c9:=Zb a3 a1
 refine xe 10 (.tuple #[.slice p5 i c5,V0 0]) ?_
 have he:Xk ps s=0:=by unfold Xk;rw[if_pos hsl,if_pos b8]
 subst a5
 exact⟨_,rfl,c4,_,_,by rw[he],by rw[Ql,if_pos he];exact c9⟩
theorem Ta(ps:List Wu)(s:Bl)(gl:O0)(cl:Nat)(w:World)(hps:Hv ps)(h0:0<ps.length)(hs:s.length≤100000)(hP:Sts Ze3 w (.slice gl ps.length cl) ps) :
 C0 89 #[.slice gl ps.length cl,.string ⟨s.toArray⟩] w (Vo (fun w' r=>∃ p c,r=.tuple #[.slice p ps.length c,V0 (Xk ps s)]∧w'.ownsRow w.heap.size 3 1 (.slice p ps.length c) ps.length ((Ql ps s).map nv)) w):=by
 by_cases h:s.length=(Gx ps ps.length).sum
 ·exact Th ps s gl cl w hps h0 hs hP h
 ·exact Sd ps s gl cl w hps h0 hs hP h
def Vm:List Wu:=[(8,0,1099511627775)]
theorem Zdy:Hv Vm:=by
 refine⟨by decide,fun i hi=>?_⟩
 have a0:i<1:=hi
 obtain rfl:i=0:=by omega
 simp[Vm,List.getD]
def Hm:List Wu:=[(8,0,16384),(8,0,2147483647),(4,0,16777215),(4,0,16777215)]
theorem Zfe:Hv Hm:=by
 refine⟨by decide,fun i hi=>?_⟩
 have a0:i<4:=hi
 obtain rfl|rfl|rfl|rfl:i=0∨i=1∨i=2∨i=3:=by omega
 all_goals simp[Hm,List.getD]
abbrev Mp:=Int×Int×Int
def Pj(m:Mp):List Value:=[V0 m.1,V0 m.2.1,V0 m.2.2]
theorem Ya(m:Mp):(Pj m).length=3:=rfl
abbrev Dv:=(Int×Int×Int×Int)×List Mp
structure MapsOk(data:Int)(M:List Mp):Prop where
 rise:M.Pairwise (fun x y=>x.1<y.1)
 each:∀ m∈M,(0≤m.1∧m.1≤281474976710655)∧(0≤m.2.1∧m.2.1<data)∧0≤m.2.2∧m.2.2≤16777215
theorem MapsOk.nil(data:Int):MapsOk data []:=⟨.nil,fun _ h=>by cases h⟩
structure DevOk(data:Int)(d:Dv):Prop where
 id:0≤d.1.1∧d.1.1≤16777215
 tx:0≤d.1.2.1∧d.1.2.1≤2147483647
 made:0≤d.1.2.2.1∧d.1.2.2.1≤16777215
 snap:0≤d.1.2.2.2∧d.1.2.2.2≤16777215
 maps:MapsOk data d.2
def Gv(L:List Dv):Nat:=(L.map fun d=>d.2.length).sum
structure DevsOk(data:Int)(L:List Dv):Prop where
 few:L.length≤4096
 sum:Gv L≤16384
 rise:L.Pairwise (fun x y=>x.1.1<y.1.1)
 each:∀ d∈L,DevOk data d
theorem DevsOk.nil(data:Int):DevsOk data []:=⟨by decide,by decide,.nil,fun _ h=>by cases h⟩
def mapN(v:Bl):Nat:=(Ql Vm v).getD 0 0
def Uk(v:Bl):Nat:=mapN v/16777216
def Pb(v:Bl):Nat:=mapN v%16777216
theorem mapN_bd(v:Bl):mapN v≤1099511627775:=by
 unfold mapN Ql
 by_cases h:Xk Vm v=0
 ·rw[if_pos h]
  unfold Xk at h
  split at h
  ·split at h
   ·rename_i h1 h2
    unfold We Gd at h2
    rw[List.all_eq_true] at h2
    have h3:=of_decide_eq_true (h2 0 (List.mem_range.2 (by decide)))
    rw[show((Jw Vm v).map fun n:Nat=>(n:Int)).getD 0 0=(((Jw Vm v).getD 0 0:Nat):Int) by simp[List.getD,show 0<(Jw Vm v).length by rw[Wm];decide]] at h3
    have h4:(((Jw Vm v).getD 0 0:Nat):Int)≤1099511627775:=h3.2
    omega
   ·simp at h
  ·simp at h
 ·rw[if_neg h];decide
theorem mapB_bd(v:Bl):Uk v≤65535∧Pb v≤16777215:=by
 have:=mapN_bd v
 unfold Uk Pb;omega
def Ij(data:Int)(v:Bl):Int:=if Xk Vm v≠0 then Xk Vm v else if data≤(Uk v:Int) then 2 else 0
def Qs(v:Bl)(i:Nat):Nat:=(Ql Hm v).getD i 0
def mpD:Mp:=(0,0,0)
end Go.Proofs.YtceeiinepijokaaGreat
