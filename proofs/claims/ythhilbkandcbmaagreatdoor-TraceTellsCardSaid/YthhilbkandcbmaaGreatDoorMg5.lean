/- The document's answer for the layers 6 and 11: Read, Super. -/
import Derived.RangeFuncNested
import Derived.RangeFuncBound
import Derived.RangeFuncCalls
import Derived.RangeFuncLeaves
import Derived.OwnWalkIn
import Derived.OrdersIn
import Derived.Shelf.Abstract
import Derived.Shelf.RegionOpen
import Derived.TacticsInMore
import Derived.LoopNIn
import Derived.LoopIn
import Derived.Sort.BigQuietIn
import Derived.Test.YthhilbkandcbmaaGreatDoorMg4
namespace Go.Proofs.YthhilbkandcbmaaGreatDoor
set_option maxHeartbeats 8000000
set_option maxRecDepth 100000
open Go.RowKit Go.Extern.Stop Go.Stop Go.Extern
set_option linter.unusedVariables false
attribute [local irreducible] wpList wpAnyH Code.wp Oper.wp Go
theorem Zam(l:Bl)(d:Nat):∀ (w k:Nat),Zh (l.drop d) k w=Zh l (d+k) w
 | 0,k=>rfl
 | w+1,k=>by
  rw[Zh,Zh,Zam l d w (k+1)]
  simp[List.getD,Nat.add_assoc]
theorem unpL_lt(l:Bl)(k:Nat)(ws:List Nat)(h:∀ x∈ws,x≤4)(i:Nat)(hi:i<ws.length):(Jk l k ws).getD i 0<9223372036854775808:=by
 rw[Nq l ws k i hi]
 have:=Yg l (k+(ws.take i).sum) (ws.getD i 0) (h _ (by simp[List.getD,hi]))
 omega
def Kd(l:Bl):List Nat:=[Zh l 8 4,Zh l 12 4,Zh l 16 4,Zh l 20 4,Zh l 24 4,Zh l 28 4,Zh l 32 4,Zh l 36 4,Zh l 40 4,Zh l 44 4,Zh l 48 4,Zh l 52 4]
theorem sup12_eq(l:Bl):Jk (l.drop 8) 0 [4,4,4,4,4,4,4,4,4,4,4,4]=Kd l:=by
 simp[Jk,Zam,Kd]
theorem bysD{w:World}{a:O0}{c:Nat}{l:Bl}(h:Bys w (.slice a 244 c) l)(hl:l.length=244):Bys w (.slice (Ke a 8 c 1) (244-8) (c-8)) (l.drop 8):=by
 have:=Bys.cut h hl 8 244 (by decide) (by decide)
 rwa [List.take_of_length_le (by simp;omega)] at this
theorem bysE{w:World}{a:O0}{c:Nat}{l:Bl}(h:Bys w (.slice a 244 c) l)(hl:l.length=244):Bys w (.slice (Ke a 56 c 1) (244-56) (c-56)) (l.drop 56):=by
 have:=Bys.cut h hl 56 244 (by decide) (by decide)
 rwa [List.take_of_length_le (by simp;omega)] at this
theorem ref06_Read(a:O0)(c:Nat)(l:Bl)(w:World)(hl:l.length=244)(h:Bys w (.slice a 244 c) l) :
 C0 45 #[.slice a 244 c] w (SupP l w):=by
 have d6:=Bys.cap h hl
 refine zin 75 Tryz.func45 ?_
 refine xa 2 [V0 0,V0 0,V0 0,V0 0,V0 0,V0 0,V0 0,V0 0,V0 0,V0 0,V0 0] 69 fun b1 W1 n1=>?_
 refine xsH 11 (fun _ _ _ _ zo zx zy V=>Qr (k:=8) (b:=a) (n:=244) (c:=c) (i:=8) (ki:=.i64) zo zx zy rfl (by omega) Tryz.underlying22 (by kernel_rfl) V) ?_
 refine xcv0 0 (fun _ _ _ zo zx=>Vb zo zx ((Bys.take h hl 8 (by decide)).below n1.below) (by simp;omega) Tryz.underlying22 Tryz.underlying5 Tryz.underlying9) ?_
 refine xi 4 (!((⟨(l.take 8).toArray⟩:ByteArray).toList==(⟨#[83,67,65,78,84,76,73,78]⟩:ByteArray).toList)) (fun b3=>?_) (fun b3=>?_)
 ·have d1:(l.take 8==Hi)=false:=by rw[←Lz];exact Pc b3
  refine xsv 3 n1.blk [V0 0,V0 0,V0 0,V0 0,V0 0,V0 0,V0 0,V0 0,V0 0,V0 0,V0 0] fun W3 u3 k3=>?_
  have g1:=n1.ge (B4 w)
  have c0:=u3.below n1.below g1
  exact xec 5 k3 (.tuple #[.agg #[V0 0,V0 0,V0 0,V0 0,V0 0,V0 0,V0 0,V0 0,V0 0,V0 0,V0 0],V0 7]) (.inl ⟨by unfold Fz;simp_all,rfl,c0⟩)
 have d1:(l.take 8==Hi)=true:=by rw[←Lz];exact Pe b3
 refine xsL 5 (fun _ _ _ _ zo zx zy V=>Yl (k:=8) (b:=a) (n:=244) (c:=c) (i:=8) (ki:=.i64) 1 zo zx zy rfl (by omega) Tryz.underlying22 (by kernel_rfl) V) ?_
 refine xbs 0 12 [V0 4,V0 4,V0 4,V0 4,V0 4,V0 4,V0 4,V0 4,V0 4,V0 4,V0 4,V0 4] 3 fun b4 W4 n4=>?_
 have g4:=n4.ge n1.below
 have a9:=bln n1.below n4.below
 refine xc 0 (args:=#[.slice (Ke a 8 c 1) (244-8) (c-8),.slice (S1 b4) 12 12]) (Ev (Ke a 8 c 1) (244-8) (c-8) (l.drop 8) (S1 b4) 12 12 [4,4,4,4,4,4,4,4,4,4,4,4] (Kd l) _ (by simp;omega) rfl (sup12_eq l) (by decide) (by decide) (by decide) (by decide) ((bysD h hl).below a9) (n4.blk.sl 12 12 (by decide) (by decide)) (unpL_lt _ _ _ (by decide))) ?_
 rintro _ W5 ⟨_,rfl,c9,p5,c5,rfl,h5⟩
 have d9:=(bln n1.below n4.below).size
 refine xd 8 (.t w.heap.size [69]) ?_
 have a0:=Zb (Ze h5 d9) (Za W5)
 refine xx (.e [0] 1) _ 12 1 1 (Zl (l:=Kd l) (Zd a0) rfl (k:=1) (by decide)).1 ?_
 refine xlt (.e [] 2) (.t w.heap.size [69]) (fun V hV=>(Zl (l:=Kd l) (Zd (Zr a0 hV.2 (by decide))) rfl (k:=1) (by decide)).2) ?_
 refine xx (.e [3] 4) _ 12 2 1 (Zl (l:=Kd l) (Zd a0) rfl (k:=2) (by decide)).1 ?_
 refine xlt (.e [] 5) (.t w.heap.size [69]) (fun V hV=>(Zl (l:=Kd l) (Zd (Zr a0 hV.2 (by decide))) rfl (k:=2) (by decide)).2) ?_
 refine xx (.e [6] 7) _ 12 3 1 (Zl (l:=Kd l) (Zd a0) rfl (k:=3) (by decide)).1 ?_
 refine xlt (.e [] 8) (.t w.heap.size [69]) (fun V hV=>(Zl (l:=Kd l) (Zd (Zr a0 hV.2 (by decide))) rfl (k:=3) (by decide)).2) ?_
 refine xx (.e [9] 10) _ 12 4 1 (Zl (l:=Kd l) (Zd a0) rfl (k:=4) (by decide)).1 ?_
 refine xlt (.e [] 11) (.t w.heap.size [69]) (fun V hV=>(Zl (l:=Kd l) (Zd (Zr a0 hV.2 (by decide))) rfl (k:=4) (by decide)).2) ?_
 refine xx (.e [12] 13) _ 12 5 1 (Zl (l:=Kd l) (Zd a0) rfl (k:=5) (by decide)).1 ?_
 refine xlt (.e [] 14) (.t w.heap.size [69]) (fun V hV=>(Zl (l:=Kd l) (Zd (Zr a0 hV.2 (by decide))) rfl (k:=5) (by decide)).2) ?_
 refine xx (.e [15] 16) _ 12 6 1 (Zl (l:=Kd l) (Zd a0) rfl (k:=6) (by decide)).1 ?_
 refine xlt (.e [] 17) (.t w.heap.size [69]) (fun V hV=>(Zl (l:=Kd l) (Zd (Zr a0 hV.2 (by decide))) rfl (k:=6) (by decide)).2) ?_
 refine xx (.e [18] 19) _ 12 7 1 (Zl (l:=Kd l) (Zd a0) rfl (k:=7) (by decide)).1 ?_
 refine xlt (.e [] 20) (.t w.heap.size [69]) (fun V hV=>(Zl (l:=Kd l) (Zd (Zr a0 hV.2 (by decide))) rfl (k:=7) (by decide)).2) ?_
 refine xx (.e [21] 22) _ 12 8 1 (Zl (l:=Kd l) (Zd a0) rfl (k:=8) (by decide)).1 ?_
 refine xlt (.e [] 23) (.t w.heap.size [69]) (fun V hV=>(Zl (l:=Kd l) (Zd (Zr a0 hV.2 (by decide))) rfl (k:=8) (by decide)).2) ?_
 refine xx (.e [24] 25) _ 12 9 1 (Zl (l:=Kd l) (Zd a0) rfl (k:=9) (by decide)).1 ?_
 refine xlt (.e [] 26) (.t w.heap.size [69]) (fun V hV=>(Zl (l:=Kd l) (Zd (Zr a0 hV.2 (by decide))) rfl (k:=9) (by decide)).2) ?_
 refine xx (.e [27] 28) _ 12 10 1 (Zl (l:=Kd l) (Zd a0) rfl (k:=10) (by decide)).1 ?_
 refine xlt (.e [] 29) (.t w.heap.size [69]) (fun V hV=>(Zl (l:=Kd l) (Zd (Zr a0 hV.2 (by decide))) rfl (k:=10) (by decide)).2) ?_
 refine xx (.e [30] 31) _ 12 11 1 (Zl (l:=Kd l) (Zd a0) rfl (k:=11) (by decide)).1 ?_
 refine xlt (.e [] 32) (.t w.heap.size [69]) (fun V hV=>(Zl (l:=Kd l) (Zd (Zr a0 hV.2 (by decide))) rfl (k:=11) (by decide)).2) ?_
 refine xa (.o [33] 34) [V0 0,V0 0,V0 0,V0 0,V0 0,V0 0,V0 0,V0 0,V0 0,V0 0,V0 0] 69 fun b6 W6 n6=>?_
 have k1:=((n1.blk.below n4.below).below c9).below (Za W5)
 have a2:=n6.ne k1
 have a5:=bln (bln a9 c9) (Za W5)
 have g6:=n6.ge a5
 refine ysv (.o [] 35) n6.blk [V0 (↑(Zh l 12 4):Int),V0 (↑(Zh l 16 4):Int),V0 (↑(Zh l 20 4):Int),V0 (↑(Zh l 24 4):Int),V0 (↑(Zh l 28 4):Int),V0 (↑(Zh l 32 4):Int),V0 (↑(Zh l 36 4):Int),V0 (↑(Zh l 40 4):Int),V0 (↑(Zh l 44 4):Int),V0 (↑(Zh l 48 4):Int),V0 (↑(Zh l 52 4):Int)] (.t w.heap.size [69]) fun W7 u7 k7=>⟨(Zi u7 n6.blk g6 (by decide)),?_⟩
 have a8:=u7.own2 (Zb a0 n6.below) n6.blk (by decide)
 refine xx 6 _ 12 0 1 (Zl (l:=Kd l) (Zd a8) rfl (k:=0) (by decide)).1 ?_
 refine xl 0 ((Zl (l:=Kd l) (Zd a8) rfl (k:=0) (by decide)).2) ?_
 refine xg 2 [61,62] ((↑(Zh l 8 4):Int) != (1:Int)) (fun b2=>?_) (fun b2=>?_)
 ·have b2:=Kh b2
  have c7:decide (Zh l 8 4=1)=false:=decide_eq_false (by omega)
  have b8:=u7.blk (k1.below n6.below) (Ne.symm (Ne.symm a2))
  refine xsv 16 b8 [V0 0,V0 0,V0 0,V0 0,V0 0,V0 0,V0 0,V0 0,V0 0,V0 0,V0 0] fun W9 u9 k9=>?_
  have g1:=n1.ge (B4 w)
  have c4:=u9.below (u7.below (bln a5 n6.below) g6) g1
  exact xec 5 k9 (.tuple #[.agg #[V0 0,V0 0,V0 0,V0 0,V0 0,V0 0,V0 0,V0 0,V0 0,V0 0,V0 0],V0 7]) (.inl ⟨by unfold Fz;simp_all,rfl,c4⟩)
 have b2:=Xr b2
 have c7:decide (Zh l 8 4=1)=true:=decide_eq_true (by omega)
 refine xsL 1 (fun _ _ _ _ zo zx zy V=>Yl (k:=56) (b:=a) (n:=244) (c:=c) (i:=56) (ki:=.i64) 1 zo zx zy rfl (by omega) Tryz.underlying22 (by kernel_rfl) V) ?_
 have a4:=u7.below (bln a5 n6.below) g6
 refine xr 0 (args:=#[.slice (Ke a 56 c 1) (244-56) (c-56)]) (Uw (Ke a 56 c 1) (244-56) (c-56) (l.drop 56) _ (by simp;omega) (by decide) ((bysE h hl).below a4)) fun e1 a1=>?_
 refine xg 3 [66,67,68] (!(Qf (l.drop 56))) (fun a6=>?_) (fun a6=>?_)
 ·have c8:Qf (l.drop 56)=false:=Pc a6
  have b5:=(u7.blk (k1.below n6.below) (Ne.symm (Ne.symm a2))).below a1
  refine xsv 10 b5 [V0 0,V0 0,V0 0,V0 0,V0 0,V0 0,V0 0,V0 0,V0 0,V0 0,V0 0] fun e3 d5 d7=>?_
  have g1:=n1.ge (B4 w)
  have c2:=d5.below (bln a4 a1) g1
  exact xec 5 d7 (.tuple #[.agg #[V0 0,V0 0,V0 0,V0 0,V0 0,V0 0,V0 0,V0 0,V0 0,V0 0,V0 0],V0 7]) (.inl ⟨by unfold Fz;simp_all,rfl,c2⟩)
 have c8:Qf (l.drop 56)=true:=Pe a6
 have b0:=k7.below a1
 refine xlv 0 b0.rp ?_
 refine xr 0 (args:=#[.agg #[V0 (↑(Zh l 12 4):Int),V0 (↑(Zh l 16 4):Int),V0 (↑(Zh l 20 4):Int),V0 (↑(Zh l 24 4):Int),V0 (↑(Zh l 28 4):Int),V0 (↑(Zh l 32 4):Int),V0 (↑(Zh l 36 4):Int),V0 (↑(Zh l 40 4):Int),V0 (↑(Zh l 44 4):Int),V0 (↑(Zh l 48 4):Int),V0 (↑(Zh l 52 4):Int)]]) (Zc3 (Zf l) _ (Iq l).1 (Iq l).2) fun e4 a3=>?_
 refine xi 4 (!(Xk (Zf l))) (fun a7=>?_) (fun a7=>?_)
 ·have d0:Xk (Zf l)=false:=Pc a7
  have c1:=((u7.blk (k1.below n6.below) (Ne.symm (Ne.symm a2))).below a1).below a3
  refine xsv 3 c1 [V0 0,V0 0,V0 0,V0 0,V0 0,V0 0,V0 0,V0 0,V0 0,V0 0,V0 0] fun e2 d2 d4=>?_
  have g1:=n1.ge (B4 w)
  have b7:=d2.below (bln (bln a4 a1) a3) g1
  exact xec 5 d4 (.tuple #[.agg #[V0 0,V0 0,V0 0,V0 0,V0 0,V0 0,V0 0,V0 0,V0 0,V0 0,V0 0],V0 7]) (.inl ⟨by unfold Fz;simp_all,rfl,b7⟩)
 have d0:Xk (Zf l)=true:=Pe a7
 have c6:=b0.below a3
 refine xlv 4 c6.rp ?_
 have b9:=((u7.blk (k1.below n6.below) (Ne.symm (Ne.symm a2))).below a1).below a3
 refine xsv 0 b9 [V0 (↑(Zh l 12 4):Int),V0 (↑(Zh l 16 4):Int),V0 (↑(Zh l 20 4):Int),V0 (↑(Zh l 24 4):Int),V0 (↑(Zh l 28 4):Int),V0 (↑(Zh l 32 4):Int),V0 (↑(Zh l 36 4):Int),V0 (↑(Zh l 40 4):Int),V0 (↑(Zh l 44 4):Int),V0 (↑(Zh l 48 4):Int),V0 (↑(Zh l 52 4):Int)] fun e0 d8 d3=>?_
 have g1:=n1.ge (B4 w)
 have c3:=d8.below (bln (bln a4 a1) a3) g1
 exact xec 4 d3 (.tuple #[.agg #[V0 (↑(Zh l 12 4):Int),V0 (↑(Zh l 16 4):Int),V0 (↑(Zh l 20 4):Int),V0 (↑(Zh l 24 4):Int),V0 (↑(Zh l 28 4):Int),V0 (↑(Zh l 32 4):Int),V0 (↑(Zh l 36 4):Int),V0 (↑(Zh l 40 4):Int),V0 (↑(Zh l 44 4):Int),V0 (↑(Zh l 48 4):Int),V0 (↑(Zh l 52 4):Int)],V0 0]) (.inr ⟨by unfold Fz;rw[d1,c7,c8,d0];rfl,rfl,c3⟩)
def RBlkSupP(l:Bl)(w:World)(e:Ending)(w':World):Prop :=
 (Zz l≠0∧∃ a c,e=.returned (.tuple #[.agg #[V0 0,V0 0,V0 0,V0 0,V0 0,V0 0,V0 0,V0 0,V0 0,V0 0,V0 0],.agg #[.slice a 1 c,V0 (Zz l)]])∧B3 w w'∧w'.ownsRow w.heap.size 3 1 (.slice a 1 c) 1 [V0 0]) ∨
 (Zz l=0∧e=.returned (.tuple #[.agg #[V0 ((Zf (inB l 0)).tx),V0 ((Zf (inB l 0)).time),V0 ((Zf (inB l 0)).unit),V0 ((Zf (inB l 0)).data),V0 ((Zf (inB l 0)).blocks),V0 ((Zf (inB l 0)).top),V0 ((Zf (inB l 0)).details),V0 ((Zf (inB l 0)).dslots),V0 ((Zf (inB l 0)).dover),V0 ((Zf (inB l 0)).mindex),V0 ((Zf (inB l 0)).mover)],.agg #[S0,V0 0]])∧B3 w w')
theorem Zcq(B bm:Nat)(p:O0)(k c:Nat)(l:Bl)(w:World)(hI:RefI B bm p k c l w) :
 C0 20 #[P0 bm] w (RBlkSupP l w):=by
 have f3:=hI.blk
 have e7:l.length/256=k:=by rw[hI.hl];omega
 refine zin 40 Tryz.func20 ?_
 refine xa 2 [V0 0,V0 0,V0 0,V0 0,V0 0,V0 0,V0 0,V0 0,V0 0,V0 0,V0 0] 69 fun b1 W1 n1=>?_
 refine xa 0 [S0,V0 0] 37 fun b2 W2 n2=>?_
 have hB:=bln n1.below n2.below
 refine xc 5 (args:=#[P0 bm,V0 0,V0 1]) (Zd0 B bm p k c l _ (hI.below hB) 0 1) ?_
 rintro e W3 f7
 rcases f7 with ⟨a7,rfl,a1⟩|⟨a7,e8,p3,c3,rfl,a1,h3⟩
 ·refine xk 14 (show(((inE l 1 0) != (0:Int)):Bool)=true from bne_iff_ne.2 a7) ?_
  refine xc 4 (args:=#[V0 0,V0 (inE l 1 0)]) (Jm 0 (inE l 1 0) _ a7) ?_
  rintro _ W4 ⟨_,rfl,d6,a5,c5,rfl,c9⟩
  have f8:=(bln hB a1).size
  have k1:=((n1.blk.below n2.below).below a1).below d6
  refine xsv 0 k1 [V0 0,V0 0,V0 0,V0 0,V0 0,V0 0,V0 0,V0 0,V0 0,V0 0,V0 0] fun W5 u5 k5=>?_
  have g1:=n1.ge (B4 w)
  have k2:=u5.blkT ((n2.blk.below a1).below d6) k1 (by decide)
  refine xsv 0 k2 [.slice a5 1 c5,V0 (inE l 1 0)] fun W6 u6 k6=>?_
  have g2:=n2.ge n1.below
  have d3:=u6.below (u5.below (bln (bln hB a1) d6) g1) g2
  have b7:=u6.own2 (u5.own2 (Ze c9 f8) k1 (by decide)) k2 (by decide)
  have d7:=u6.blkT k5 k2 (by decide)
  refine Bd 4 [(b1,[V0 0,V0 0,V0 0,V0 0,V0 0,V0 0,V0 0,V0 0,V0 0,V0 0,V0 0]),(b2,[.slice a5 1 c5,V0 (inE l 1 0)])] ⟨⟨_,d7⟩,⟨_,k6⟩,trivial⟩ (.tuple #[.agg #[V0 0,V0 0,V0 0,V0 0,V0 0,V0 0,V0 0,V0 0,V0 0,V0 0,V0 0],.agg #[.slice a5 1 c5,V0 (inE l 1 0)]]) ?_
  have he:Zz l=(inE l 1 0):=by unfold Zz;rw[if_neg a7]
  exact .inl ⟨by rw[he];exact a7,_,_,by rw[he],d3,b7⟩
 have g3:=(bln n1.below n2.below).size
 have e3:=Ze h3 g3
 refine xc 20 (args:=#[.slice p3 244 c3]) (ref06_Read p3 c3 (inB l 0) _ e8 (Yr (Zd e3) e8)) ?_
 rintro e W7 f1
 rcases f1 with ⟨d0,rfl,a6⟩|⟨d0,rfl,a6⟩
 ·refine xa 3 [V0 0,V0 0,V0 0,V0 0,V0 0,V0 0,V0 0,V0 0,V0 0,V0 0,V0 0] 69 fun b8 W8 n8=>?_
  have k1:=((n1.blk.below n2.below).below a1).below a6
  have c1:=n8.ne k1
  have b5:=bln (bln hB a1) a6
  have g8:=n8.ge b5
  refine xsv 0 n8.blk [V0 0,V0 0,V0 0,V0 0,V0 0,V0 0,V0 0,V0 0,V0 0,V0 0,V0 0] fun W9 u9 k9=>?_
  refine xc 15 (args:=#[V0 0,V0 7]) (Jm 0 7 _ (by decide)) ?_
  rintro _ g6 ⟨_,rfl,b4,a5,c5,rfl,c9⟩
  have d1:=(u9.below (bln b5 n8.below) g8).size
  have b3:=(u9.blk (k1.below n8.below) (Ne.symm (Ne.symm c1))).below b4
  refine xsv 0 b3 [V0 0,V0 0,V0 0,V0 0,V0 0,V0 0,V0 0,V0 0,V0 0,V0 0,V0 0] fun h6 e2 g0=>?_
  have g1:=n1.ge (B4 w)
  have k2:=e2.blkT ((u9.blkT (((n2.blk.below a1).below a6).below n8.below) n8.blk (by decide)).below b4) b3 (by decide)
  refine xsv 0 k2 [.slice a5 1 c5,V0 7] fun h2 d4 f6=>?_
  have g2:=n2.ge n1.below
  have d2:=d4.below (e2.below (bln (u9.below (bln b5 n8.below) g8) b4) g1) g2
  have c6:=d4.own2 (e2.own2 (Ze c9 d1) b3 (by decide)) k2 (by decide)
  have c7:=d4.blkT g0 k2 (by decide)
  refine Bd 4 [(b1,[V0 0,V0 0,V0 0,V0 0,V0 0,V0 0,V0 0,V0 0,V0 0,V0 0,V0 0]),(b2,[.slice a5 1 c5,V0 7])] ⟨⟨_,c7⟩,⟨_,f6⟩,trivial⟩ (.tuple #[.agg #[V0 0,V0 0,V0 0,V0 0,V0 0,V0 0,V0 0,V0 0,V0 0,V0 0,V0 0],.agg #[.slice a5 1 c5,V0 7]]) ?_
  have he:Zz l=7:=by unfold Zz Gj;rw[if_pos a7,d0,if_neg (by decide)]
  exact .inl ⟨by rw[he];decide,_,_,by rw[he],d2,c6⟩
 refine xa 3 [V0 0,V0 0,V0 0,V0 0,V0 0,V0 0,V0 0,V0 0,V0 0,V0 0,V0 0] 69 fun g7 h4 a0=>?_
 have k1:=((n1.blk.below n2.below).below a1).below a6
 have a2:=a0.ne k1
 have a4:=bln (bln hB a1) a6
 have e0:=a0.ge a4
 refine xsv 0 a0.blk [V0 ((Zf (inB l 0)).tx),V0 ((Zf (inB l 0)).time),V0 ((Zf (inB l 0)).unit),V0 ((Zf (inB l 0)).data),V0 ((Zf (inB l 0)).blocks),V0 ((Zf (inB l 0)).top),V0 ((Zf (inB l 0)).details),V0 ((Zf (inB l 0)).dslots),V0 ((Zf (inB l 0)).dover),V0 ((Zf (inB l 0)).mindex),V0 ((Zf (inB l 0)).mover)] fun a3 a9 f9=>?_
 refine xd 15 .z ?_
 have a8:=f9.below (Za a3)
 refine xb (.e [0] 1) 4 a8 ?_
 have b9:=(a9.blkT (((((f3.below n1.below).below n2.below).below a1).below a6).below a0.below) a0.blk (by decide)).below (Za a3)
 refine xb (.e [2,3,4] 5) 0 b9 ?_
 refine xid (.r [6,7] 2) ((Zf (inB l 0)).blocks>(k:Int)) (fun d8=>?_) (fun d8=>?_)
 ·refine xc 3 (args:=#[V0 0,V0 2]) (Jm 0 2 _ (by decide)) ?_
  rintro _ g5 ⟨_,rfl,b6,a5,c5,rfl,c9⟩
  have e1:=(bln (a9.below (bln a4 a0.below) e0) (Za a3)).size
  have b0:=((a9.blk (k1.below a0.below) (Ne.symm (Ne.symm a2))).below (Za a3)).below b6
  refine xsv 0 b0 [V0 0,V0 0,V0 0,V0 0,V0 0,V0 0,V0 0,V0 0,V0 0,V0 0,V0 0] fun h5 e4 f4=>?_
  have g1:=n1.ge (B4 w)
  have k2:=e4.blkT (((a9.blkT (((n2.blk.below a1).below a6).below a0.below) a0.blk (by decide)).below (Za a3)).below b6) b0 (by decide)
  refine xsv 0 k2 [.slice a5 1 c5,V0 2] fun h1 d9 f2=>?_
  have g2:=n2.ge n1.below
  have e5:=d9.below (e4.below (bln (bln (a9.below (bln a4 a0.below) e0) (Za a3)) b6) g1) g2
  have c8:=d9.own2 (e4.own2 (Ze c9 e1) b0 (by decide)) k2 (by decide)
  have c2:=d9.blkT f4 k2 (by decide)
  refine Bd 4 [(b1,[V0 0,V0 0,V0 0,V0 0,V0 0,V0 0,V0 0,V0 0,V0 0,V0 0,V0 0]),(b2,[.slice a5 1 c5,V0 2])] ⟨⟨_,c2⟩,⟨_,f2⟩,trivial⟩ (.tuple #[.agg #[V0 0,V0 0,V0 0,V0 0,V0 0,V0 0,V0 0,V0 0,V0 0,V0 0,V0 0],.agg #[.slice a5 1 c5,V0 2]]) ?_
  have he:Zz l=2:=by unfold Zz Gj;rw[if_pos a7,if_pos d0,e7,if_pos (by omega)]
  exact .inl ⟨by rw[he];decide,_,_,by rw[he],e5,c8⟩
 refine xlv 4 a8.rp ?_
 have c4:=(a9.blk (k1.below a0.below) (Ne.symm (Ne.symm a2))).below (Za a3)
 refine xsv 1 c4 [V0 ((Zf (inB l 0)).tx),V0 ((Zf (inB l 0)).time),V0 ((Zf (inB l 0)).unit),V0 ((Zf (inB l 0)).data),V0 ((Zf (inB l 0)).blocks),V0 ((Zf (inB l 0)).top),V0 ((Zf (inB l 0)).details),V0 ((Zf (inB l 0)).dslots),V0 ((Zf (inB l 0)).dover),V0 ((Zf (inB l 0)).mindex),V0 ((Zf (inB l 0)).mover)] fun g9 e9 f0=>?_
 have g1:=n1.ge (B4 w)
 have k2:=e9.blkT ((a9.blkT (((n2.blk.below a1).below a6).below a0.below) a0.blk (by decide)).below (Za a3)) c4 (by decide)
 refine xsv 0 k2 [S0,V0 0] fun h0 e6 f5=>?_
 have g2:=n2.ge n1.below
 have d5:=e6.below (e9.below (bln (a9.below (bln a4 a0.below) e0) (Za a3)) g1) g2
 have c0:=e6.blkT f0 k2 (by decide)
 exact Bd 3 [(b1,[V0 ((Zf (inB l 0)).tx),V0 ((Zf (inB l 0)).time),V0 ((Zf (inB l 0)).unit),V0 ((Zf (inB l 0)).data),V0 ((Zf (inB l 0)).blocks),V0 ((Zf (inB l 0)).top),V0 ((Zf (inB l 0)).details),V0 ((Zf (inB l 0)).dslots),V0 ((Zf (inB l 0)).dover),V0 ((Zf (inB l 0)).mindex),V0 ((Zf (inB l 0)).mover)]),(b2,[S0,V0 0])] ⟨⟨_,c0⟩,⟨_,f5⟩,trivial⟩ (.tuple #[.agg #[V0 ((Zf (inB l 0)).tx),V0 ((Zf (inB l 0)).time),V0 ((Zf (inB l 0)).unit),V0 ((Zf (inB l 0)).data),V0 ((Zf (inB l 0)).blocks),V0 ((Zf (inB l 0)).top),V0 ((Zf (inB l 0)).details),V0 ((Zf (inB l 0)).dslots),V0 ((Zf (inB l 0)).dover),V0 ((Zf (inB l 0)).mindex),V0 ((Zf (inB l 0)).mover)],.agg #[S0,V0 0]]) (.inr ⟨by unfold Zz Gj;rw[if_pos a7,if_pos d0,e7,if_neg (by omega)],rfl,d5⟩)
theorem ra_bad1{l:Bl}{way:List Int}{top id v:Int}{fl:List Int}{c:Int}(h:(Zj l 1 id 16 way top).2=.bad fl c)(hc:c≠0):Xx l way top id v=Lq fl c:=by
 unfold Xx
 generalize Zj l 1 id 16 way top=r at *
 obtain⟨a,b⟩:=r
 simp only at h;subst h
 simp[trE,hc]
theorem ra_no1{l:Bl}{way:List Int}{top id v:Int}(h:(Zj l 1 id 16 way top).2=.no):Xx l way top id v=⟨(Zj l 1 id 16 way top).1,false,0,0,[],0⟩:=by
 unfold Xx
 generalize Zj l 1 id 16 way top=r at *
 obtain⟨a,b⟩:=r
 simp only at h;subst h
 simp[trE,Dg]
theorem ra_root{l:Bl}{way:List Int}{top id v:Int}{s:Bl}(h:(Zj l 1 id 16 way top).2=.val s)(hr:Xl s≠0):Xx l way top id v=Lq (Zj l 1 id 16 way top).1 (Xl s):=by
 unfold Xx
 generalize Zj l 1 id 16 way top=r at *
 obtain⟨a,b⟩:=r
 simp only at h;subst h
 simp[trE,hr]
theorem ra_2{l:Bl}{way:List Int}{top id v:Int}{s:Bl}(h:(Zj l 1 id 16 way top).2=.val s)(hr:Xl s=0):Xx l way top id v =
 (let q:=Zj l 2 v 16 (Zj l 1 id 16 way top).1 (Xi s:Int)
 if(trE (Xo Yz) q).2≠0 then Lq (trE (Xo Yz) q).1 (trE (Xo Yz) q).2 else
 if Dg q=false then⟨q.1,false,0,0,[],0⟩ else⟨q.1,true,Um (trS q),Ws (trS q),[],0⟩):=by
 unfold Xx
 generalize Zj l 1 id 16 way top=r at *
 obtain⟨a,b⟩:=r
 simp only at h;subst h
 simp only[trE_v0 hr]
 rw[if_neg (by simp),if_neg (by simp[Dg])]
 rfl
theorem ra_bad2{l:Bl}{way:List Int}{top id v:Int}{s:Bl}{fl:List Int}{c:Int}(h:(Zj l 1 id 16 way top).2=.val s)(hr:Xl s=0)(h2:(Zj l 2 v 16 (Zj l 1 id 16 way top).1 (Xi s:Int)).2=.bad fl c)(hc:c≠0):Xx l way top id v=Lq fl c:=by
 rw[ra_2 h hr]
 generalize Zj l 2 v 16 (Zj l 1 id 16 way top).1 (Xi s:Int)=r at *
 obtain⟨a,b⟩:=r
 simp only at h2;subst h2
 simp[trE,hc]
theorem ra_no2{l:Bl}{way:List Int}{top id v:Int}{s:Bl}(h:(Zj l 1 id 16 way top).2=.val s)(hr:Xl s=0)(h2:(Zj l 2 v 16 (Zj l 1 id 16 way top).1 (Xi s:Int)).2=.no):Xx l way top id v=⟨(Zj l 2 v 16 (Zj l 1 id 16 way top).1 (Xi s:Int)).1,false,0,0,[],0⟩:=by
 rw[ra_2 h hr]
 generalize Zj l 2 v 16 (Zj l 1 id 16 way top).1 (Xi s:Int)=r at *
 obtain⟨a,b⟩:=r
 simp only at h2;subst h2
 simp[trE,Dg]
theorem ra_map{l:Bl}{way:List Int}{top id v:Int}{s s2:Bl}(h:(Zj l 1 id 16 way top).2=.val s)(hr:Xl s=0)(h2:(Zj l 2 v 16 (Zj l 1 id 16 way top).1 (Xi s:Int)).2=.val s2)(hm:Xo Yz s2≠0):Xx l way top id v=Lq (Zj l 2 v 16 (Zj l 1 id 16 way top).1 (Xi s:Int)).1 (Xo Yz s2):=by
 rw[ra_2 h hr]
 generalize Zj l 2 v 16 (Zj l 1 id 16 way top).1 (Xi s:Int)=r at *
 obtain⟨a,b⟩:=r
 simp only at h2;subst h2
 simp[trE,hm]
theorem ra_val{l:Bl}{way:List Int}{top id v:Int}{s s2:Bl}(h:(Zj l 1 id 16 way top).2=.val s)(hr:Xl s=0)(h2:(Zj l 2 v 16 (Zj l 1 id 16 way top).1 (Xi s:Int)).2=.val s2)(hm:Xo Yz s2=0):Xx l way top id v=⟨(Zj l 2 v 16 (Zj l 1 id 16 way top).1 (Xi s:Int)).1,true,Um s2,Ws s2,[],0⟩:=by
 rw[ra_2 h hr]
 generalize Zj l 2 v 16 (Zj l 1 id 16 way top).1 (Xi s:Int)=r at *
 obtain⟨a,b⟩:=r
 simp only at h2;subst h2
 simp[trE,Dg,trS,hm]
theorem str_nil:((⟨([]:Bl).toArray⟩:ByteArray).toList==(⟨#[]⟩:ByteArray).toList)=true:=by simp
theorem str_ne{s:Bl}(h:s≠[]):((⟨s.toArray⟩:ByteArray).toList==(⟨#[]⟩:ByteArray).toList)=false:=by simp[h]
def RAllP(O:TrO)(B:Nat)(w:World)(e:Ending)(w':World):Prop :=
 (O.c≠0∧∃ a d,e=.returned (.tuple #[.agg #[S0,.bool false,V0 0,V0 0],.agg #[.slice a O.fl.length d,V0 O.c]])∧B3 w w'∧w'.ownsRow w.heap.size 3 1 (.slice a O.fl.length d) O.fl.length (O.fl.map V0)) ∨
 (O.c=0∧∃ p d,e=.returned (.tuple #[.agg #[.slice p O.way.length d,.bool O.found,V0 O.b,V0 O.t],.agg #[S0,V0 0]])∧B3 w w'∧w'.ownsRow B 3 1 (.slice p O.way.length d) O.way.length (O.way.map V0))
theorem Za0(B Bi bm:Nat)(p:O0)(n c:Nat)(l:Bl)(top id v:Int)(way:List Int)(pw:O0)(cw:Nat)(w:World)(hBw:B≤w.heap.size)(hway:w.ownsRow B 3 1 (.slice pw way.length cw) way.length (way.map V0))(hI:RefI Bi bm p n c l w)(hwl:way.length≤1000) :
 C0 18 #[P0 bm,.slice pw way.length cw,V0 top,V0 id,V0 v] w (RAllP (Xx l way top id v) B w):=by
 refine zin 87 Tryz.func18 ?_
 refine xa 2 [S0,.bool false,V0 0,V0 0] 35 fun b1 W1 n1=>?_
 refine xa 0 [S0,V0 0] 37 fun b2 W2 n2=>?_
 have f4:=Zb (Zb hway n1.below) n2.below
 have h5:=(hI.below n1.below).below n2.below
 have hB:=bln n1.below n2.below
 refine xc 8 (args:=#[P0 bm,.slice pw way.length cw,V0 top,V0 1,V0 id]) (Rr B Bi bm p n c l 1 id top way pw cw _ (Nat.le_trans hBw hB.size) f4 h5 (by omega)) ?_
 rintro e W3 r5
 rcases r5 with ⟨f7,c1,b8,h3,v1,a1,e1,rfl,b0,q7⟩|⟨b8,p1,d1,rfl,b0,m3⟩|⟨s1,b8,q9,s4,p1,d1,rfl,b0,m3⟩
 ·have q4:=(bln n1.below n2.below).size
  refine xa 4 [S0,V0 0] 37 fun b4 W4 n4=>?_
  have k2:=n2.blk.below b0
  have e9:=n4.ne k2
  have g3:=bln hB b0
  have g4:=n4.ge g3
  refine xsv 2 n4.blk [.slice a1 f7.length e1,V0 c1] fun W5 u5 k5=>?_
  refine xb 6 1 k5 ?_
  refine xk 3 (show((c1 != (0:Int)):Bool)=true from bne_iff_ne.2 h3) ?_
  refine xd 1 (.t w.heap.size [35,37]) ?_
  refine xm2 (.b [0]) 1 2 ?_ ?_
  ·have o6:=k5.below (Za W5)
   refine xlv 0 o6.rp ?_
   have k1:=(u5.blkT (((n1.blk.below n2.below).below b0).below n4.below) n4.blk (by decide)).below (Za W5)
   have g1:=n1.ge (B4 w)
   refine ysv (.o [] 2) k1 [S0,.bool false,V0 0,V0 0] (.t w.heap.size [35,37]) fun W6 u6 k6=>⟨(Zi u6 k1 g1 (by decide)),?_⟩
   have d6:=u6.blkT ((u5.blk (k2.below n4.below) (Ne.symm (Ne.symm e9))).below (Za W5)) k1 (by decide)
   have g2:=n2.ge n1.below
   refine ysv (.o [] 3) d6 [.slice a1 f7.length e1,V0 c1] (.t w.heap.size [35,37]) fun W7 u7 k7=>⟨(Zi u7 d6 g2 (by decide)),?_⟩
   have j5:=u7.own2 (u6.own2 (Zb (u5.own2 (Zb (Ze q7 q4) n4.below) n4.blk (by decide)) (Za W5)) k1 (by decide)) d6 (by decide)
   have p6:=u7.below (u6.below (bln (u5.below (bln g3 n4.below) g4) (Za W5)) g1) g2
   have p9:=u7.blkT k6 d6 (by decide)
   refine Bd 4 [(b1,[S0,.bool false,V0 0,V0 0]),(b2,[.slice a1 f7.length e1,V0 c1])] ⟨⟨_,p9⟩,⟨_,k7⟩,trivial⟩ (.tuple #[.agg #[S0,.bool false,V0 0,V0 0],.agg #[.slice a1 f7.length e1,V0 c1]]) ?_
   rw[ra_bad1 b8 h3]
   exact .inl ⟨h3,_,_,rfl,p6,j5⟩
  have k1:=(u5.blkT (((n1.blk.below n2.below).below b0).below n4.below) n4.blk (by decide)).below (Za W5)
  have g1:=n1.ge (B4 w)
  refine ysv 0 k1 [S0,.bool false,V0 0,V0 0] (.t w.heap.size [35,37]) fun W8 u8 k8=>⟨(Zi u8 k1 g1 (by decide)),?_⟩
  have o9:=u8.blkT (k5.below (Za W5)) k1 (by decide)
  refine xlv (.o [] 1) o9.rp ?_
  have d7:=u8.blkT ((u5.blk (k2.below n4.below) (Ne.symm (Ne.symm e9))).below (Za W5)) k1 (by decide)
  have g2:=n2.ge n1.below
  refine ysv (.o [] 3) d7 [.slice a1 f7.length e1,V0 c1] (.t w.heap.size [35,37]) fun W9 u9 k9=>⟨(Zi u9 d7 g2 (by decide)),?_⟩
  have k0:=u9.own2 (u8.own2 (Zb (u5.own2 (Zb (Ze q7 q4) n4.below) n4.blk (by decide)) (Za W5)) k1 (by decide)) d7 (by decide)
  have o0:=u9.below (u8.below (bln (u5.below (bln g3 n4.below) g4) (Za W5)) g1) g2
  have o2:=u9.blkT k8 d7 (by decide)
  refine Bd 4 [(b1,[S0,.bool false,V0 0,V0 0]),(b2,[.slice a1 f7.length e1,V0 c1])] ⟨⟨_,o2⟩,⟨_,k9⟩,trivial⟩ (.tuple #[.agg #[S0,.bool false,V0 0,V0 0],.agg #[.slice a1 f7.length e1,V0 c1]]) ?_
  rw[ra_bad1 b8 h3]
  exact .inl ⟨h3,_,_,rfl,o0,k0⟩
 ·refine xa 4 [S0,V0 0] 37 fun w6 t7 b7=>?_
  have k2:=n2.blk.below b0
  have c5:=b7.ne k2
  have f8:=bln hB b0
  have q6:=b7.ge f8
  refine xsv 2 b7.blk [S0,V0 0] fun d3 f2 p5=>?_
  refine xb 6 1 p5 ?_
  refine xk 13 (show(((⟨([]).toArray⟩:ByteArray).toList==(⟨#[]⟩:ByteArray).toList):Bool)=true from str_nil) ?_
  refine xd 1 (.t w.heap.size [35,37]) ?_
  refine xm2 (.b [0,1]) 2 3 ?_ ?_
  ·have k3:=p5.below (Za d3)
   refine xlv 0 k3.rp ?_
   have k1:=(f2.blkT (((n1.blk.below n2.below).below b0).below b7.below) b7.blk (by decide)).below (Za d3)
   have g1:=n1.ge (B4 w)
   refine ysv (.o [] 3) k1 [.slice p1 ((Zj l 1 id 16 way top).1.length) d1,.bool false,V0 0,V0 0] (.t w.heap.size [35,37]) fun u1 n8 r4=>⟨(Zi n8 k1 g1 (by decide)),?_⟩
   have e6:=n8.blkT ((f2.blk (k2.below b7.below) (Ne.symm (Ne.symm c5))).below (Za d3)) k1 (by decide)
   have g2:=n2.ge n1.below
   refine ysv (.o [] 4) e6 [S0,V0 0] (.t w.heap.size [35,37]) fun u2 n9 r9=>⟨(Zi n9 e6 g2 (by decide)),?_⟩
   have j2:=n9.own2 (n8.own2 (Zb (f2.own2 (Zb m3 b7.below) b7.blk (by decide)) (Za d3)) k1 (by decide)) e6 (by decide)
   have p3:=n9.below (n8.below (bln (f2.below (bln f8 b7.below) q6) (Za d3)) g1) g2
   have i3:=n9.blkT r4 e6 (by decide)
   refine Bd 4 [(b1,[.slice p1 ((Zj l 1 id 16 way top).1.length) d1,.bool false,V0 0,V0 0]),(b2,[S0,V0 0])] ⟨⟨_,i3⟩,⟨_,r9⟩,trivial⟩ (.tuple #[.agg #[.slice p1 ((Zj l 1 id 16 way top).1.length) d1,.bool false,V0 0,V0 0],.agg #[S0,V0 0]]) ?_
   rw[ra_no1 b8]
   exact .inr ⟨rfl,_,_,rfl,p3,j2⟩
  have k1:=(f2.blkT (((n1.blk.below n2.below).below b0).below b7.below) b7.blk (by decide)).below (Za d3)
  have g1:=n1.ge (B4 w)
  refine ysv 0 k1 [.slice p1 ((Zj l 1 id 16 way top).1.length) d1,.bool false,V0 0,V0 0] (.t w.heap.size [35,37]) fun t9 i9 r7=>⟨(Zi i9 k1 g1 (by decide)),?_⟩
  have i4:=i9.blkT (p5.below (Za d3)) k1 (by decide)
  refine xlv (.o [] 2) i4.rp ?_
  have e3:=i9.blkT ((f2.blk (k2.below b7.below) (Ne.symm (Ne.symm c5))).below (Za d3)) k1 (by decide)
  have g2:=n2.ge n1.below
  refine ysv (.o [] 4) e3 [S0,V0 0] (.t w.heap.size [35,37]) fun w9 m5 r2=>⟨(Zi m5 e3 g2 (by decide)),?_⟩
  have j6:=m5.own2 (i9.own2 (Zb (f2.own2 (Zb m3 b7.below) b7.blk (by decide)) (Za d3)) k1 (by decide)) e3 (by decide)
  have o5:=m5.below (i9.below (bln (f2.below (bln f8 b7.below) q6) (Za d3)) g1) g2
  have m1:=m5.blkT r7 e3 (by decide)
  refine Bd 4 [(b1,[.slice p1 ((Zj l 1 id 16 way top).1.length) d1,.bool false,V0 0,V0 0]),(b2,[S0,V0 0])] ⟨⟨_,m1⟩,⟨_,r2⟩,trivial⟩ (.tuple #[.agg #[.slice p1 ((Zj l 1 id 16 way top).1.length) d1,.bool false,V0 0,V0 0],.agg #[S0,V0 0]]) ?_
  rw[ra_no1 b8]
  exact .inr ⟨rfl,_,_,rfl,o5,j6⟩
 refine xa 4 [S0,V0 0] 37 fun t6 v5 a5=>?_
 have k2:=n2.blk.below b0
 have a0:=a5.ne k2
 have c7:=bln hB b0
 have c4:=a5.ge c7
 refine xsv 2 a5.blk [S0,V0 0] fun w3 a8 n3=>?_
 refine xb 6 1 n3 ?_
 refine xk 13 (show(((⟨s1.toArray⟩:ByteArray).toList==(⟨#[]⟩:ByteArray).toList):Bool)=false from str_ne q9) ?_
 refine xr 5 (args:=#[.string ⟨s1.toArray⟩]) (Sb s1 _ s4) fun w2 a4=>?_
 refine xin 14 (Xl s1) (0:Int) (fun g0=>?_) (fun g0=>?_)
 ·have d0:=g0
  have i8:=Zb (a8.own2 (Zb m3 a5.below) a5.blk (by decide)) a4
  refine xc 6 (args:=#[.slice p1 ((Zj l 1 id 16 way top).1.length) d1,.agg #[S0,V0 (Xl s1)]]) (Hz _ _ _ _ (Zj l 1 id 16 way top).1 [] _ _ (Zd i8) (Dx _) (Nat.le_trans (Vn _ _ _ _ _ _) (by have:=Vn l 1 id 16 way top;omega)) (by simp)) ?_
  rintro _ v9 ⟨a6,c6,rfl,g5,o8⟩
  have p7:=(bln (a8.below (bln c7 a5.below) c4) a4).size
  have e7:=Ze o8 p7
  rw[List.append_nil] at e7 ⊢
  have k1:=((a8.blkT (((n1.blk.below n2.below).below b0).below a5.below) a5.blk (by decide)).below a4).below g5
  refine xsv 0 k1 [S0,.bool false,V0 0,V0 0] fun t5 p0 r3=>?_
  have g1:=n1.ge (B4 w)
  have f5:=p0.blkT (((a8.blk (k2.below a5.below) (Ne.symm (Ne.symm a0))).below a4).below g5) k1 (by decide)
  refine xsv 0 f5 [.slice a6 ((Zj l 1 id 16 way top).1.length) c6,V0 (Xl s1)] fun w7 o7 s7=>?_
  have g2:=n2.ge n1.below
  have l2:=o7.own2 (p0.own2 e7 k1 (by decide)) f5 (by decide)
  have q1:=o7.below (p0.below (bln (bln (a8.below (bln c7 a5.below) c4) a4) g5) g1) g2
  have i1:=o7.blkT r3 f5 (by decide)
  refine Bd 4 [(b1,[S0,.bool false,V0 0,V0 0]),(b2,[.slice a6 ((Zj l 1 id 16 way top).1.length) c6,V0 (Xl s1)])] ⟨⟨_,i1⟩,⟨_,s7⟩,trivial⟩ (.tuple #[.agg #[S0,.bool false,V0 0,V0 0],.agg #[.slice a6 ((Zj l 1 id 16 way top).1.length) c6,V0 (Xl s1)]]) ?_
  rw[ra_root b8 d0]
  exact .inl ⟨d0,_,_,rfl,q1,l2⟩
 have d0:=g0
 have h2:=Zb (a8.own2 (Zb m3 a5.below) a5.blk (by decide)) a4
 have q3:=(((h5.below b0).below a5.below).only (Zg.of_upd (T:=[37]) a8 a5.blk (by decide)) (by decide)).below a4
 have b3:=bln (a8.below (bln c7 a5.below) c4) a4
 refine xc 8 (args:=#[P0 bm,.slice p1 ((Zj l 1 id 16 way top).1.length) d1,V0 (↑(Xi s1):Int),V0 2,V0 v]) (Rr B Bi bm p n c l 2 v (↑(Xi s1):Int) (Zj l 1 id 16 way top).1 p1 d1 _ (Nat.le_trans hBw b3.size) h2 q3 (Nat.le_trans (Vn l 1 id 16 way top) (by omega))) ?_
 rintro e u4 p8
 rcases p8 with ⟨f9,c2,e0,g7,v2,a2,e2,rfl,a3,q5⟩|⟨e0,p2,d2,rfl,a3,g6⟩|⟨s2,e0,r8,r6,p2,d2,rfl,a3,g6⟩
 ·have i5:=(bln (a8.below (bln c7 a5.below) c4) a4).size
  have b6:=(n3.below a4).below a3
  refine xsv 6 b6 [.slice a2 f9.length e2,V0 c2] fun c9 f0 q2=>?_
  refine xb 6 1 q2 ?_
  refine xk 3 (show((c2 != (0:Int)):Bool)=true from bne_iff_ne.2 g7) ?_
  refine xd 1 (.t w.heap.size [35,37]) ?_
  refine xm2 (.b [0]) 1 2 ?_ ?_
  ·have j0:=q2.below (Za c9)
   refine xlv 0 j0.rp ?_
   have k1:=(f0.blkT (((a8.blkT (((n1.blk.below n2.below).below b0).below a5.below) a5.blk (by decide)).below a4).below a3) b6 (by decide)).below (Za c9)
   have g1:=n1.ge (B4 w)
   refine ysv (.o [] 2) k1 [S0,.bool false,V0 0,V0 0] (.t w.heap.size [35,37]) fun w1 n7 s8=>⟨(Zi n7 k1 g1 (by decide)),?_⟩
   have e5:=n7.blkT ((f0.blk (((a8.blk (k2.below a5.below) (Ne.symm (Ne.symm a0))).below a4).below a3) (Ne.symm (Ne.symm a0))).below (Za c9)) k1 (by decide)
   have g2:=n2.ge n1.below
   refine ysv (.o [] 3) e5 [.slice a2 f9.length e2,V0 c2] (.t w.heap.size [35,37]) fun x0 m6 s9=>⟨(Zi m6 e5 g2 (by decide)),?_⟩
   have l6:=m6.own2 (n7.own2 (Zb (f0.own2 (Ze q5 i5) b6 (by decide)) (Za c9)) k1 (by decide)) e5 (by decide)
   have j4:=m6.below (n7.below (bln (f0.below (bln b3 a3) c4) (Za c9)) g1) g2
   have h8:=m6.blkT s8 e5 (by decide)
   refine Bd 4 [(b1,[S0,.bool false,V0 0,V0 0]),(b2,[.slice a2 f9.length e2,V0 c2])] ⟨⟨_,h8⟩,⟨_,s9⟩,trivial⟩ (.tuple #[.agg #[S0,.bool false,V0 0,V0 0],.agg #[.slice a2 f9.length e2,V0 c2]]) ?_
   rw[ra_bad2 b8 d0 e0 g7]
   exact .inl ⟨g7,_,_,rfl,j4,l6⟩
  have k1:=(f0.blkT (((a8.blkT (((n1.blk.below n2.below).below b0).below a5.below) a5.blk (by decide)).below a4).below a3) b6 (by decide)).below (Za c9)
  have g1:=n1.ge (B4 w)
  refine ysv 0 k1 [S0,.bool false,V0 0,V0 0] (.t w.heap.size [35,37]) fun v6 h1 s3=>⟨(Zi h1 k1 g1 (by decide)),?_⟩
  have k4:=h1.blkT (q2.below (Za c9)) k1 (by decide)
  refine xlv (.o [] 1) k4.rp ?_
  have e4:=h1.blkT ((f0.blk (((a8.blk (k2.below a5.below) (Ne.symm (Ne.symm a0))).below a4).below a3) (Ne.symm (Ne.symm a0))).below (Za c9)) k1 (by decide)
  have g2:=n2.ge n1.below
  refine ysv (.o [] 3) e4 [.slice a2 f9.length e2,V0 c2] (.t w.heap.size [35,37]) fun w0 n0 r1=>⟨(Zi n0 e4 g2 (by decide)),?_⟩
  have l0:=n0.own2 (h1.own2 (Zb (f0.own2 (Ze q5 i5) b6 (by decide)) (Za c9)) k1 (by decide)) e4 (by decide)
  have h4:=n0.below (h1.below (bln (f0.below (bln b3 a3) c4) (Za c9)) g1) g2
  have g8:=n0.blkT s3 e4 (by decide)
  refine Bd 4 [(b1,[S0,.bool false,V0 0,V0 0]),(b2,[.slice a2 f9.length e2,V0 c2])] ⟨⟨_,g8⟩,⟨_,r1⟩,trivial⟩ (.tuple #[.agg #[S0,.bool false,V0 0,V0 0],.agg #[.slice a2 f9.length e2,V0 c2]]) ?_
  rw[ra_bad2 b8 d0 e0 g7]
  exact .inl ⟨g7,_,_,rfl,h4,l0⟩
 ·have b5:=(n3.below a4).below a3
  refine xsv 6 b5 [S0,V0 0] fun d4 f1 q0=>?_
  refine xb 6 1 q0 ?_
  refine xk 13 (show(((⟨([]).toArray⟩:ByteArray).toList==(⟨#[]⟩:ByteArray).toList):Bool)=true from str_nil) ?_
  refine xd 1 (.t w.heap.size [35,37]) ?_
  refine xm2 (.b [0,1]) 2 3 ?_ ?_
  ·have j8:=q0.below (Za d4)
   refine xlv 0 j8.rp ?_
   have k1:=(f1.blkT (((a8.blkT (((n1.blk.below n2.below).below b0).below a5.below) a5.blk (by decide)).below a4).below a3) b5 (by decide)).below (Za d4)
   have g1:=n1.ge (B4 w)
   refine ysv (.o [] 3) k1 [.slice p2 ((Zj l 2 v 16 (Zj l 1 id 16 way top).1 (↑(Xi s1):Int)).1.length) d2,.bool false,V0 0,V0 0] (.t w.heap.size [35,37]) fun v8 m9 r0=>⟨(Zi m9 k1 g1 (by decide)),?_⟩
   have d9:=m9.blkT ((f1.blk (((a8.blk (k2.below a5.below) (Ne.symm (Ne.symm a0))).below a4).below a3) (Ne.symm (Ne.symm a0))).below (Za d4)) k1 (by decide)
   have g2:=n2.ge n1.below
   refine ysv (.o [] 4) d9 [S0,V0 0] (.t w.heap.size [35,37]) fun v3 n5 t1=>⟨(Zi n5 d9 g2 (by decide)),?_⟩
   have i6:=n5.own2 (m9.own2 (Zb (f1.own2 g6 b5 (by decide)) (Za d4)) k1 (by decide)) d9 (by decide)
   have i7:=n5.below (m9.below (bln (f1.below (bln b3 a3) c4) (Za d4)) g1) g2
   have i2:=n5.blkT r0 d9 (by decide)
   refine Bd 4 [(b1,[.slice p2 ((Zj l 2 v 16 (Zj l 1 id 16 way top).1 (↑(Xi s1):Int)).1.length) d2,.bool false,V0 0,V0 0]),(b2,[S0,V0 0])] ⟨⟨_,i2⟩,⟨_,t1⟩,trivial⟩ (.tuple #[.agg #[.slice p2 ((Zj l 2 v 16 (Zj l 1 id 16 way top).1 (↑(Xi s1):Int)).1.length) d2,.bool false,V0 0,V0 0],.agg #[S0,V0 0]]) ?_
   rw[ra_no2 b8 d0 e0]
   exact .inr ⟨rfl,_,_,rfl,i7,i6⟩
  have k1:=(f1.blkT (((a8.blkT (((n1.blk.below n2.below).below b0).below a5.below) a5.blk (by decide)).below a4).below a3) b5 (by decide)).below (Za d4)
  have g1:=n1.ge (B4 w)
  refine ysv 0 k1 [.slice p2 ((Zj l 2 v 16 (Zj l 1 id 16 way top).1 (↑(Xi s1):Int)).1.length) d2,.bool false,V0 0,V0 0] (.t w.heap.size [35,37]) fun t8 l7 t2=>⟨(Zi l7 k1 g1 (by decide)),?_⟩
  have h6:=l7.blkT (q0.below (Za d4)) k1 (by decide)
  refine xlv (.o [] 2) h6.rp ?_
  have d8:=l7.blkT ((f1.blk (((a8.blk (k2.below a5.below) (Ne.symm (Ne.symm a0))).below a4).below a3) (Ne.symm (Ne.symm a0))).below (Za d4)) k1 (by decide)
  have g2:=n2.ge n1.below
  refine ysv (.o [] 4) d8 [S0,V0 0] (.t w.heap.size [35,37]) fun u0 m4 t4=>⟨(Zi m4 d8 g2 (by decide)),?_⟩
  have j1:=m4.own2 (l7.own2 (Zb (f1.own2 g6 b5 (by decide)) (Za d4)) k1 (by decide)) d8 (by decide)
  have l3:=m4.below (l7.below (bln (f1.below (bln b3 a3) c4) (Za d4)) g1) g2
  have m0:=m4.blkT t2 d8 (by decide)
  refine Bd 4 [(b1,[.slice p2 ((Zj l 2 v 16 (Zj l 1 id 16 way top).1 (↑(Xi s1):Int)).1.length) d2,.bool false,V0 0,V0 0]),(b2,[S0,V0 0])] ⟨⟨_,m0⟩,⟨_,t4⟩,trivial⟩ (.tuple #[.agg #[.slice p2 ((Zj l 2 v 16 (Zj l 1 id 16 way top).1 (↑(Xi s1):Int)).1.length) d2,.bool false,V0 0,V0 0],.agg #[S0,V0 0]]) ?_
  rw[ra_no2 b8 d0 e0]
  exact .inr ⟨rfl,_,_,rfl,l3,j1⟩
 have a9:=(n3.below a4).below a3
 refine xsv 6 a9 [S0,V0 0] fun x1 c3 p4=>?_
 refine xb 6 1 p4 ?_
 refine xk 13 (show(((⟨s2.toArray⟩:ByteArray).toList==(⟨#[]⟩:ByteArray).toList):Bool)=false from str_ne r8) ?_
 refine xr 5 (args:=#[.string ⟨s2.toArray⟩]) (Tz s2 _ r6) fun d5 a7=>?_
 refine xin 16 (Xo Yz s2) (0:Int) (fun f6=>?_) (fun f6=>?_)
 ·have m2:=f6
  have h9:=Zb (c3.own2 g6 a9 (by decide)) a7
  refine xc 6 (args:=#[.slice p2 ((Zj l 2 v 16 (Zj l 1 id 16 way top).1 (↑(Xi s1):Int)).1.length) d2,.agg #[S0,V0 (Xo Yz s2)]]) (Hz _ _ _ _ (Zj l 2 v 16 (Zj l 1 id 16 way top).1 (↑(Xi s1):Int)).1 [] _ _ (Zd h9) (Dx _) (Nat.le_trans (Vn _ _ _ _ _ _) (by have:=Vn l 1 id 16 way top;omega)) (by simp)) ?_
  rintro _ v0 ⟨a6,c6,rfl,f3,o8⟩
  have o3:=(bln (c3.below (bln b3 a3) c4) a7).size
  have e8:=Ze o8 o3
  rw[List.append_nil] at e8 ⊢
  have k1:=((c3.blkT (((a8.blkT (((n1.blk.below n2.below).below b0).below a5.below) a5.blk (by decide)).below a4).below a3) a9 (by decide)).below a7).below f3
  refine xsv 0 k1 [S0,.bool false,V0 0,V0 0] fun w4 o1 s5=>?_
  have g1:=n1.ge (B4 w)
  have c8:=o1.blkT (((c3.blk (((a8.blk (k2.below a5.below) (Ne.symm (Ne.symm a0))).below a4).below a3) (Ne.symm (Ne.symm a0))).below a7).below f3) k1 (by decide)
  refine xsv 0 c8 [.slice a6 ((Zj l 2 v 16 (Zj l 1 id 16 way top).1 (↑(Xi s1):Int)).1.length) c6,V0 (Xo Yz s2)] fun v4 o4 t3=>?_
  have g2:=n2.ge n1.below
  have l9:=o4.own2 (o1.own2 e8 k1 (by decide)) c8 (by decide)
  have j7:=o4.below (o1.below (bln (bln (c3.below (bln b3 a3) c4) a7) f3) g1) g2
  have i0:=o4.blkT s5 c8 (by decide)
  refine Bd 4 [(b1,[S0,.bool false,V0 0,V0 0]),(b2,[.slice a6 ((Zj l 2 v 16 (Zj l 1 id 16 way top).1 (↑(Xi s1):Int)).1.length) c6,V0 (Xo Yz s2)])] ⟨⟨_,i0⟩,⟨_,t3⟩,trivial⟩ (.tuple #[.agg #[S0,.bool false,V0 0,V0 0],.agg #[.slice a6 ((Zj l 2 v 16 (Zj l 1 id 16 way top).1 (↑(Xi s1):Int)).1.length) c6,V0 (Xo Yz s2)]]) ?_
  rw[ra_map b8 d0 e0 m2]
  exact .inl ⟨m2,_,_,rfl,j7,l9⟩
 have m2:=f6
 refine xd 3 (.t w.heap.size [35,37]) ?_
 refine xm2 (.b [0,1,2,3]) 4 5 ?_ ?_
 ·have l5:=(p4.below a7).below (Za d5)
  refine xlv 0 l5.rp ?_
  have k1:=((c3.blkT (((a8.blkT (((n1.blk.below n2.below).below b0).below a5.below) a5.blk (by decide)).below a4).below a3) a9 (by decide)).below a7).below (Za d5)
  have g1:=n1.ge (B4 w)
  refine ysv (.o [] 5) k1 [.slice p2 ((Zj l 2 v 16 (Zj l 1 id 16 way top).1 (↑(Xi s1):Int)).1.length) d2,.bool true,V0 (↑(Um s2):Int),V0 (↑(Ws s2):Int)] (.t w.heap.size [35,37]) fun w8 n6 s6=>⟨(Zi n6 k1 g1 (by decide)),?_⟩
  have c0:=n6.blkT (((c3.blk (((a8.blk (k2.below a5.below) (Ne.symm (Ne.symm a0))).below a4).below a3) (Ne.symm (Ne.symm a0))).below a7).below (Za d5)) k1 (by decide)
  have g2:=n2.ge n1.below
  refine ysv (.o [] 6) c0 [S0,V0 0] (.t w.heap.size [35,37]) fun v7 m8 s0=>⟨(Zi m8 c0 g2 (by decide)),?_⟩
  have g9:=m8.own2 (n6.own2 (Zb (Zb (c3.own2 g6 a9 (by decide)) a7) (Za d5)) k1 (by decide)) c0 (by decide)
  have j3:=m8.below (n6.below (bln (bln (c3.below (bln b3 a3) c4) a7) (Za d5)) g1) g2
  have l8:=m8.blkT s6 c0 (by decide)
  refine Bd 3 [(b1,[.slice p2 ((Zj l 2 v 16 (Zj l 1 id 16 way top).1 (↑(Xi s1):Int)).1.length) d2,.bool true,V0 (↑(Um s2):Int),V0 (↑(Ws s2):Int)]),(b2,[S0,V0 0])] ⟨⟨_,l8⟩,⟨_,s0⟩,trivial⟩ (.tuple #[.agg #[.slice p2 ((Zj l 2 v 16 (Zj l 1 id 16 way top).1 (↑(Xi s1):Int)).1.length) d2,.bool true,V0 (↑(Um s2):Int),V0 (↑(Ws s2):Int)],.agg #[S0,V0 0]]) ?_
  rw[ra_val b8 d0 e0 m2]
  exact .inr ⟨rfl,_,_,rfl,j3,g9⟩
 have k1:=((c3.blkT (((a8.blkT (((n1.blk.below n2.below).below b0).below a5.below) a5.blk (by decide)).below a4).below a3) a9 (by decide)).below a7).below (Za d5)
 have g1:=n1.ge (B4 w)
 refine ysv 0 k1 [.slice p2 ((Zj l 2 v 16 (Zj l 1 id 16 way top).1 (↑(Xi s1):Int)).1.length) d2,.bool true,V0 (↑(Um s2):Int),V0 (↑(Ws s2):Int)] (.t w.heap.size [35,37]) fun w5 h0 q8=>⟨(Zi h0 k1 g1 (by decide)),?_⟩
 have h7:=h0.blkT ((p4.below a7).below (Za d5)) k1 (by decide)
 refine xlv (.o [] 4) h7.rp ?_
 have b9:=h0.blkT (((c3.blk (((a8.blk (k2.below a5.below) (Ne.symm (Ne.symm a0))).below a4).below a3) (Ne.symm (Ne.symm a0))).below a7).below (Za d5)) k1 (by decide)
 have g2:=n2.ge n1.below
 refine ysv (.o [] 6) b9 [S0,V0 0] (.t w.heap.size [35,37]) fun u3 m7 t0=>⟨(Zi m7 b9 g2 (by decide)),?_⟩
 have l1:=m7.own2 (h0.own2 (Zb (Zb (c3.own2 g6 a9 (by decide)) a7) (Za d5)) k1 (by decide)) b9 (by decide)
 have j9:=m7.below (h0.below (bln (bln (c3.below (bln b3 a3) c4) a7) (Za d5)) g1) g2
 have l4:=m7.blkT q8 b9 (by decide)
 refine Bd 3 [(b1,[.slice p2 ((Zj l 2 v 16 (Zj l 1 id 16 way top).1 (↑(Xi s1):Int)).1.length) d2,.bool true,V0 (↑(Um s2):Int),V0 (↑(Ws s2):Int)]),(b2,[S0,V0 0])] ⟨⟨_,l4⟩,⟨_,t0⟩,trivial⟩ (.tuple #[.agg #[.slice p2 ((Zj l 2 v 16 (Zj l 1 id 16 way top).1 (↑(Xi s1):Int)).1.length) d2,.bool true,V0 (↑(Um s2):Int),V0 (↑(Ws s2):Int)],.agg #[S0,V0 0]]) ?_
 rw[ra_val b8 d0 e0 m2]
 exact .inr ⟨rfl,_,_,rfl,j9,l1⟩
theorem Zbn(Bi bm:Nat)(p:O0)(n c:Nat)(l:Bl)(top:Int)(id v:Int)(w:World)(hI:RefI Bi bm p n c l w) :
 C0 8 #[P0 bm,V0 top,V0 id,V0 v] w (RAllP (Xx l [] top id v) w.heap.size w):=by
 refine zin 17 Tryz.func8 ?_
 refine xa 2 [S0,.bool false,V0 0,V0 0] 35 fun b1 W1 n1=>?_
 refine xa 0 [S0,V0 0] 37 fun b2 W2 n2=>?_
 have a5:=(hI.below n1.below).below n2.below
 have hB:=bln n1.below n2.below
 refine xc 8 (args:=#[P0 bm,S0,V0 top,V0 id,V0 v]) (Za0 w.heap.size Bi bm p n c l top id v [] none 0 _ hB.size (World.ownsRow_nil _ _ _ _) a5 (by decide)) ?_
 rintro e W3 a9
 rcases a9 with ⟨hz,a8,c8,rfl,a0,b3⟩|⟨hz,p8,c8,rfl,a0,b0⟩
 ·have b4:=(bln n1.below n2.below).size
  have k1:=(n1.blk.below n2.below).below a0
  refine xsv 2 k1 [S0,.bool false,V0 0,V0 0] fun W4 u4 k4=>?_
  have g1:=n1.ge (B4 w)
  have k2:=u4.blkT (n2.blk.below a0) k1 (by decide)
  refine xsv 0 k2 [.slice a8 ((Xx l [] top id v).fl.length) c8,V0 ((Xx l [] top id v).c)] fun W5 u5 k5=>?_
  have g2:=n2.ge n1.below
  have a2:=u5.own2 (u4.own2 (Ze b3 b4) k1 (by decide)) k2 (by decide)
  have a6:=u5.below (u4.below (bln hB a0) g1) g2
  have a7:=u5.blkT k4 k2 (by decide)
  refine Bd 3 [(b1,[S0,.bool false,V0 0,V0 0]),(b2,[.slice a8 ((Xx l [] top id v).fl.length) c8,V0 ((Xx l [] top id v).c)])] ⟨⟨_,a7⟩,⟨_,k5⟩,trivial⟩ (.tuple #[.agg #[S0,.bool false,V0 0,V0 0],.agg #[.slice a8 ((Xx l [] top id v).fl.length) c8,V0 ((Xx l [] top id v).c)]]) ?_
  exact .inl ⟨hz,_,_,rfl,a6,a2⟩
 have k1:=(n1.blk.below n2.below).below a0
 refine xsv 2 k1 [.slice p8 ((Xx l [] top id v).way.length) c8,.bool ((Xx l [] top id v).found),V0 ((Xx l [] top id v).b),V0 ((Xx l [] top id v).t)] fun W6 u6 k6=>?_
 have g1:=n1.ge (B4 w)
 have k2:=u6.blkT (n2.blk.below a0) k1 (by decide)
 refine xsv 0 k2 [S0,V0 0] fun W7 u7 k7=>?_
 have g2:=n2.ge n1.below
 have a1:=u7.own2 (u6.own2 b0 k1 (by decide)) k2 (by decide)
 have a3:=u7.below (u6.below (bln hB a0) g1) g2
 have a4:=u7.blkT k6 k2 (by decide)
 refine Bd 3 [(b1,[.slice p8 ((Xx l [] top id v).way.length) c8,.bool ((Xx l [] top id v).found),V0 ((Xx l [] top id v).b),V0 ((Xx l [] top id v).t)]),(b2,[S0,V0 0])] ⟨⟨_,a4⟩,⟨_,k7⟩,trivial⟩ (.tuple #[.agg #[.slice p8 ((Xx l [] top id v).way.length) c8,.bool ((Xx l [] top id v).found),V0 ((Xx l [] top id v).b),V0 ((Xx l [] top id v).t)],.agg #[S0,V0 0]]) ?_
 exact .inr ⟨hz,_,_,rfl,a3,a1⟩
theorem Zbw(Bi bm:Nat)(p:O0)(n c:Nat)(l:Bl)(id v:Int)(w:World)(hI:RefI Bi bm p n c l w) :
 C0 10 #[P0 bm,V0 id,V0 v] w (RAllP (Pv l id v) w.heap.size w):=by
 refine zin 29 Tryz.func10 ?_
 refine xa 2 [S0,.bool false,V0 0,V0 0] 35 fun b1 W1 n1=>?_
 refine xa 0 [S0,V0 0] 37 fun b2 W2 n2=>?_
 have c7:=(hI.below n1.below).below n2.below
 refine xc 5 (args:=#[P0 bm]) (Zcq Bi bm p n c l _ c7) ?_
 rintro e W3 f8
 rcases f8 with ⟨b7,a3,c3,rfl,a0,f0⟩|⟨b7,rfl,a0⟩
 ·have f1:=(bln n1.below n2.below).size
  refine xa 3 [V0 0,V0 0,V0 0,V0 0,V0 0,V0 0,V0 0,V0 0,V0 0,V0 0,V0 0] 69 fun b4 W4 n4=>?_
  refine xa 0 [S0,V0 0] 37 fun b5 W5 n5=>?_
  have k2:=(n2.blk.below a0).below n4.below
  have b6:=n5.ne k2
  have k4:=n4.blk.below n5.below
  refine xsv 0 k4 [V0 0,V0 0,V0 0,V0 0,V0 0,V0 0,V0 0,V0 0,V0 0,V0 0,V0 0] fun W6 u6 k6=>?_
  have g4:=n4.ge (bln (bln n1.below n2.below) a0)
  have k5:=u6.blkT n5.blk k4 (by decide)
  refine xsv 0 k5 [.slice a3 1 c3,V0 (Zz l)] fun W7 u7 k7=>?_
  have g5:=n5.ge (bln (bln (bln n1.below n2.below) a0) n4.below)
  refine xb 6 1 k7 ?_
  refine xk 3 (show(((Zz l) != (0:Int)):Bool)=true from bne_iff_ne.2 b7) ?_
  refine xd 1 (.t w.heap.size [35,37]) ?_
  refine xm2 (.b [0]) 1 2 ?_ ?_
  ·have e0:=k7.below (Za W7)
   refine xlv 0 e0.rp ?_
   have k1:=(u7.blkT (u6.blkT ((((n1.blk.below n2.below).below a0).below n4.below).below n5.below) k4 (by decide)) k5 (by decide)).below (Za W7)
   have g1:=n1.ge (B4 w)
   refine ysv (.o [] 2) k1 [S0,.bool false,V0 0,V0 0] (.t w.heap.size [35,37]) fun W8 u8 k8=>⟨(Zi u8 k1 g1 (by decide)),?_⟩
   have a9:=u8.blkT ((u7.blk (u6.blkT (k2.below n5.below) k4 (by decide)) (Ne.symm (Ne.symm b6))).below (Za W7)) k1 (by decide)
   have g2:=n2.ge n1.below
   refine ysv (.o [] 3) a9 [.slice a3 1 c3,V0 (Zz l)] (.t w.heap.size [35,37]) fun W9 u9 k9=>⟨(Zi u9 a9 g2 (by decide)),?_⟩
   have c2:=u9.own2 (u8.own2 (Zb (u7.own2 (u6.own2 (Zb (Zb (Ze f0 f1) n4.below) n5.below) k4 (by decide)) k5 (by decide)) (Za W7)) k1 (by decide)) a9 (by decide)
   have hB:=u9.below (u8.below (bln (u7.below (u6.below (bln (bln (bln (bln n1.below n2.below) a0) n4.below) n5.below) g4) g5) (Za W7)) g1) g2
   have d8:=u9.blkT k8 a9 (by decide)
   refine Bd 4 [(b1,[S0,.bool false,V0 0,V0 0]),(b2,[.slice a3 1 c3,V0 (Zz l)])] ⟨⟨_,d8⟩,⟨_,k9⟩,trivial⟩ (.tuple #[.agg #[S0,.bool false,V0 0,V0 0],.agg #[.slice a3 1 c3,V0 (Zz l)]]) ?_
   rw[Aj b7]
   exact .inl ⟨b7,_,_,rfl,hB,c2⟩
  have k1:=(u7.blkT (u6.blkT ((((n1.blk.below n2.below).below a0).below n4.below).below n5.below) k4 (by decide)) k5 (by decide)).below (Za W7)
  have g1:=n1.ge (B4 w)
  refine ysv 0 k1 [S0,.bool false,V0 0,V0 0] (.t w.heap.size [35,37]) fun h0 d0 g0=>⟨(Zi d0 k1 g1 (by decide)),?_⟩
  have e7:=d0.blkT (k7.below (Za W7)) k1 (by decide)
  refine xlv (.o [] 1) e7.rp ?_
  have b0:=d0.blkT ((u7.blk (u6.blkT (k2.below n5.below) k4 (by decide)) (Ne.symm (Ne.symm b6))).below (Za W7)) k1 (by decide)
  have g2:=n2.ge n1.below
  refine ysv (.o [] 3) b0 [.slice a3 1 c3,V0 (Zz l)] (.t w.heap.size [35,37]) fun i1 d4 g7=>⟨(Zi d4 b0 g2 (by decide)),?_⟩
  have d1:=d4.own2 (d0.own2 (Zb (u7.own2 (u6.own2 (Zb (Zb (Ze f0 f1) n4.below) n5.below) k4 (by decide)) k5 (by decide)) (Za W7)) k1 (by decide)) b0 (by decide)
  have hB:=d4.below (d0.below (bln (u7.below (u6.below (bln (bln (bln (bln n1.below n2.below) a0) n4.below) n5.below) g4) g5) (Za W7)) g1) g2
  have d2:=d4.blkT g0 b0 (by decide)
  refine Bd 4 [(b1,[S0,.bool false,V0 0,V0 0]),(b2,[.slice a3 1 c3,V0 (Zz l)])] ⟨⟨_,d2⟩,⟨_,g7⟩,trivial⟩ (.tuple #[.agg #[S0,.bool false,V0 0,V0 0],.agg #[.slice a3 1 c3,V0 (Zz l)]]) ?_
  rw[Aj b7]
  exact .inl ⟨b7,_,_,rfl,hB,d1⟩
 refine xa 3 [V0 0,V0 0,V0 0,V0 0,V0 0,V0 0,V0 0,V0 0,V0 0,V0 0,V0 0] 69 fun h1 h8 a6=>?_
 refine xa 0 [S0,V0 0] 37 fun h3 h9 a2=>?_
 have k2:=(n2.blk.below a0).below a6.below
 have a4:=a2.ne k2
 have b9:=a6.blk.below a2.below
 refine xsv 0 b9 [V0 ((Zf (inB l 0)).tx),V0 ((Zf (inB l 0)).time),V0 ((Zf (inB l 0)).unit),V0 ((Zf (inB l 0)).data),V0 ((Zf (inB l 0)).blocks),V0 ((Zf (inB l 0)).top),V0 ((Zf (inB l 0)).details),V0 ((Zf (inB l 0)).dslots),V0 ((Zf (inB l 0)).dover),V0 ((Zf (inB l 0)).mindex),V0 ((Zf (inB l 0)).mover)] fun h2 b3 g6=>?_
 have e4:=a6.ge (bln (bln n1.below n2.below) a0)
 have c6:=b3.blkT a2.blk b9 (by decide)
 refine xsv 0 c6 [S0,V0 0] fun h6 a7 f5=>?_
 have e2:=a2.ge (bln (bln (bln n1.below n2.below) a0) a6.below)
 refine xb 6 1 f5 ?_
 refine xbs 9 1 [V0 0] 3 fun e9 g9 a5=>?_
 have c9:=(a7.blkT g6 c6 (by decide)).below a5.below
 refine xb 1 5 c9 ?_
 have e6:=(((((c7.below a0).below a6.below).below a2.below).only (Zg.of_upd (T:=[69]) b3 b9 (by decide)) (by decide)).only (Zg.of_upd (T:=[37]) a7 c6 (by decide)) (by decide)).below a5.below
 have hB:=bln (a7.below (b3.below (bln (bln (bln (bln n1.below n2.below) a0) a6.below) a2.below) e4) e2) a5.below
 have g3:=a5.ge (a7.below (b3.below (bln (bln (bln (bln n1.below n2.below) a0) a6.below) a2.below) e4) e2)
 refine xc 2 (args:=#[P0 bm,.slice (S1 e9) 1 1,V0 ((Zf (inB l 0)).top),V0 id,V0 v]) (Za0 w.heap.size Bi bm p n c l (Zf (inB l 0)).top id v [0] (S1 e9) 1 _ hB.size (Zp (size:=1) (n:=1) a5.blk g3 rfl (by decide)) e6 (by decide)) ?_
 rintro e i0 e3
 rcases e3 with ⟨hz,a8,c8,rfl,a1,f3⟩|⟨hz,p8,c8,rfl,a1,f9⟩
 ·have e5:=(bln (a7.below (b3.below (bln (bln (bln (bln n1.below n2.below) a0) a6.below) a2.below) e4) e2) a5.below).size
  have k1:=((a7.blkT (b3.blkT ((((n1.blk.below n2.below).below a0).below a6.below).below a2.below) b9 (by decide)) c6 (by decide)).below a5.below).below a1
  refine xsv 2 k1 [S0,.bool false,V0 0,V0 0] fun h7 e1 f4=>?_
  have g1:=n1.ge (B4 w)
  have b8:=e1.blkT (((a7.blk (b3.blkT (k2.below a2.below) b9 (by decide)) (Ne.symm (Ne.symm a4))).below a5.below).below a1) k1 (by decide)
  refine xsv 0 b8 [.slice a8 ((Xx l [0] (Zf (inB l 0)).top id v).fl.length) c8,V0 ((Xx l [0] (Zf (inB l 0)).top id v).c)] fun h4 e8 f2=>?_
  have g2:=n2.ge n1.below
  have d3:=e8.own2 (e1.own2 (Ze f3 e5) k1 (by decide)) b8 (by decide)
  have d5:=e8.below (e1.below (bln hB a1) g1) g2
  have c5:=e8.blkT f4 b8 (by decide)
  refine Bd 3 [(b1,[S0,.bool false,V0 0,V0 0]),(b2,[.slice a8 ((Xx l [0] (Zf (inB l 0)).top id v).fl.length) c8,V0 ((Xx l [0] (Zf (inB l 0)).top id v).c)])] ⟨⟨_,c5⟩,⟨_,f2⟩,trivial⟩ (.tuple #[.agg #[S0,.bool false,V0 0,V0 0],.agg #[.slice a8 ((Xx l [0] (Zf (inB l 0)).top id v).fl.length) c8,V0 ((Xx l [0] (Zf (inB l 0)).top id v).c)]]) ?_
  rw[Ey b7];exact .inl ⟨hz,_,_,rfl,d5,d3⟩
 have k1:=((a7.blkT (b3.blkT ((((n1.blk.below n2.below).below a0).below a6.below).below a2.below) b9 (by decide)) c6 (by decide)).below a5.below).below a1
 refine xsv 2 k1 [.slice p8 ((Xx l [0] (Zf (inB l 0)).top id v).way.length) c8,.bool ((Xx l [0] (Zf (inB l 0)).top id v).found),V0 ((Xx l [0] (Zf (inB l 0)).top id v).b),V0 ((Xx l [0] (Zf (inB l 0)).top id v).t)] fun h5 d7 f6=>?_
 have g1:=n1.ge (B4 w)
 have c0:=d7.blkT (((a7.blk (b3.blkT (k2.below a2.below) b9 (by decide)) (Ne.symm (Ne.symm a4))).below a5.below).below a1) k1 (by decide)
 refine xsv 0 c0 [S0,V0 0] fun g8 d6 f7=>?_
 have g2:=n2.ge n1.below
 have c4:=d6.own2 (d7.own2 f9 k1 (by decide)) c0 (by decide)
 have d9:=d6.below (d7.below (bln hB a1) g1) g2
 have c1:=d6.blkT f6 c0 (by decide)
 refine Bd 3 [(b1,[.slice p8 ((Xx l [0] (Zf (inB l 0)).top id v).way.length) c8,.bool ((Xx l [0] (Zf (inB l 0)).top id v).found),V0 ((Xx l [0] (Zf (inB l 0)).top id v).b),V0 ((Xx l [0] (Zf (inB l 0)).top id v).t)]),(b2,[S0,V0 0])] ⟨⟨_,c1⟩,⟨_,f7⟩,trivial⟩ (.tuple #[.agg #[.slice p8 ((Xx l [0] (Zf (inB l 0)).top id v).way.length) c8,.bool ((Xx l [0] (Zf (inB l 0)).top id v).found),V0 ((Xx l [0] (Zf (inB l 0)).top id v).b),V0 ((Xx l [0] (Zf (inB l 0)).top id v).t)],.agg #[S0,V0 0]]) ?_
 rw[Ey b7];exact .inr ⟨hz,_,_,rfl,d9,c4⟩
def erT (er:Int):Option Int:=if er=0 then none else some er
structure TrOk(O:TrO):Prop where
 bad:O.c≠0→O=Lq O.fl O.c
 ok:O.c=0→O.fl=[]
 len:O.fl.length≤40
theorem Ai{fl:List Int}{c:Int}(hc:c≠0)(hl:fl.length≤40):TrOk (Lq fl c):=⟨fun _=>rfl,fun h=>absurd h hc,hl⟩
theorem Fc{way:List Int}{f:Bool}{b t:Int}:TrOk ⟨way,f,b,t,[],0⟩:=⟨fun h=>absurd rfl h,fun _=>rfl,by simp⟩
theorem Zc9(l:Bl)(t key:Int):∀ (d:Nat) (wy:List Int) (no:Int) (fl:List Int) (c:Int),(Zj l t key d wy no).2=.bad fl c→fl.length≤wy.length+d+1
 | 0,wy,no,fl,c,h=>by
  simp only[Zj,Tr.bad.injEq] at h
  rw[←h.1];simp
 | d+1,wy,no,fl,c,h=>by
  rw[Zj] at h
  split at h
  ·simp only[Tr.bad.injEq] at h;rw[←h.1];first|(simp;done)|(simp;omega)
  split at h
  ·cases h
  split at h
  ·split at h<;>cases h
  split at h
  ·simp only[Tr.bad.injEq] at h;rw[←h.1];first|(simp;done)|(simp;omega)
  ·have:=Zc9 l t key d (wy++[no]) (Xi (trV l no key):Int) fl c h
   simp at this;omega
theorem trE_len{g:Bl→Int}{l:Bl}{t key:Int}{wy:List Int}{no:Int}:(trE g (Zj l t key 16 wy no)).1.length≤wy.length+17:=by
 have h1:=Zc9 l t key 16 wy no
 have h2:=Vn l t key 16 wy no
 generalize Zj l t key 16 wy no=r at *
 obtain⟨a,b⟩:=r
 cases b with
 | no=>simp[trE]
 | bad fl c=>exact h1 fl c rfl
 | val s =>
  show(if g s≠0 then(a,g s) else([],0)).1.length≤_
  split
  ·simp only at h2 ⊢;omega
  ·simp
theorem Tk{l:Bl}{way:List Int}{top id v:Int}(hw:way.length≤1):TrOk (Xx l way top id v):=by
 have h1:=trE_len (g:=Xl) (l:=l) (t:=1) (key:=id) (wy:=way) (no:=top)
 have h2:=Vn l 1 id 16 way top
 have h3:=trE_len (g:=Xo Yz) (l:=l) (t:=2) (key:=v) (wy:=(Zj l 1 id 16 way top).1) (no:=(Xi (trS (Zj l 1 id 16 way top)):Int))
 unfold Xx
 simp only
 split
 ·exact Ai (by assumption) (by omega)
 split
 ·exact Fc
 split
 ·exact Ai (by assumption) (by omega)
 split
 ·exact Fc
 ·exact Fc
theorem Zbq{l:Bl}{id v:Int}:TrOk (Pv l id v):=by
 unfold Pv
 split
 ·exact Ai (by assumption) (by decide)
 ·exact Tk (by decide)
def TrU (O:TrO)(w:World)(e:Ending)(w':World):Prop :=
 ∃ p c v,e=.returned (.tuple #[.agg #[.slice p O.way.length c,.bool O.found,V0 O.b,V0 O.t],v])∧B3 w w'∧w'.ownsRow w.heap.size 3 1 (.slice p O.way.length c) O.way.length (O.way.map V0)∧Kv w' (O.fl.map some) (erT O.c) v
theorem TrP.u{O:TrO}{w:World}{e:Ending}{w':World}(hO:TrOk O)(h:TrP O w e w'):TrU O w e w':=by
 rcases h with ⟨hc,ty,x,rfl,hb,hv⟩|⟨hc,p,c,rfl,hb,ho⟩
 ·have e:=hO.bad hc
  refine⟨none,0,.iface ty x,by rw[e];rfl,hb,?_,?_⟩
  ·rw[e];exact World.ownsRow_nil _ _ _ _
  ·unfold erT;rw[if_neg hc];exact hv
 ·refine⟨p,c,.nilIface,rfl,hb,ho,?_⟩
  rw[hO.ok hc,hc];rfl
def RTrU(O:TrO)(w:World)(e:Ending)(w':World):Prop :=
 ∃ p c a d,e=.returned (.tuple #[.agg #[.slice p O.way.length c,.bool O.found,V0 O.b,V0 O.t],.agg #[.slice a O.fl.length d,V0 O.c]])∧B3 w w'∧w'.ownsRow w.heap.size 3 1 (.slice p O.way.length c) O.way.length (O.way.map V0)∧w'.ownsRow w.heap.size 3 1 (.slice a O.fl.length d) O.fl.length (O.fl.map V0)
theorem RAllP.u{O:TrO}{w:World}{e:Ending}{w':World}(hO:TrOk O)(h:RAllP O w.heap.size w e w'):RTrU O w e w':=by
 rcases h with ⟨hc,a,d,rfl,hb,ho⟩|⟨hc,p,c,rfl,hb,ho⟩
 ·have e:=hO.bad hc
  refine⟨none,0,a,d,?_,hb,?_,ho⟩
  ·have e1:O.way=[]:=by rw[e];rfl
   have e2:O.found=false:=by rw[e];rfl
   have e3:O.b=0:=by rw[e];rfl
   have e4:O.t=0:=by rw[e];rfl
   rw[e1,e2,e3,e4];rfl
  ·rw[e];exact World.ownsRow_nil _ _ _ _
 ·refine⟨p,c,none,0,?_,hb,ho,?_⟩
  ·rw[hO.ok hc,hc];rfl
  ·rw[hO.ok hc];exact World.ownsRow_nil _ _ _ _
theorem told_T{O:TrO}(hO:TrOk O)(v:Value)(w:World)(hg:ErrT w)(hv:Kv w (O.fl.map some) (erT O.c) v):C0 13 #[v] w (Qd (fun w' r=>FltV w' r O.fl O.c) w):=by
 have hl:=hO.len
 by_cases hc:O.c=0
 ·have:=Rw none [] v w (by decide) hg (by rw[hO.ok hc,hc] at hv;exact hv)
  rw[hO.ok hc,hc];exact this
 ·have:=Rw (some O.c) (O.fl.map some) v w (by rw[List.length_map];omega) hg (by unfold erT at hv;rw[if_neg hc] at hv;exact hv)
  rwa [Zc4,Ia] at this
theorem Si(O:TrO)(p1 p2:O0)(c1 c2:Nat)(w:World)(h1:Ints w (.slice p1 O.way.length c1) O.way)(h2:Ints w (.slice p2 O.way.length c2) O.way) :
 C0 11 #[.agg #[.slice p1 O.way.length c1,.bool O.found,V0 O.b,V0 O.t],.agg #[.slice p2 O.way.length c2,.bool O.found,V0 O.b,V0 O.t]] w (Ret (.bool true) w):=by
 refine zin 31 Tryz.func11 ?_
 refine xa 2 [.slice p1 O.way.length c1,.bool O.found,V0 O.b,V0 O.t] 35 fun b1 W1 n1=>?_
 refine xa 0 [.slice p2 O.way.length c2,.bool O.found,V0 O.b,V0 O.t] 35 fun b2 W2 n2=>?_
 have a5:=n2.ne n1.blk
 have a2:=n1.blk.below n2.below
 refine xb 6 0 a2 ?_
 refine xb 1 0 n2.blk ?_
 have hB:=bln n1.below n2.below
 refine xr 0 (args:=#[.slice p1 O.way.length c1,.slice p2 O.way.length c2]) (Sk p1 p2 c1 c2 O.way _ (h1.below hB) (h2.below hB)) fun W3 a3=>?_
 have a0:=a2.below a3
 refine xb 2 1 a0 ?_
 have a1:=n2.blk.below a3
 refine xb 1 1 a1 ?_
 refine xgk 3 [15,16,17] (show((O.found==O.found):Bool)=true from by simp) ?_
 refine xb 1 2 a0 ?_
 refine xb 1 2 a1 ?_
 refine xgk 3 [22,23,24] (show((O.b==O.b):Bool)=true from by simp) ?_
 refine xb 1 3 a0 ?_
 refine xb 1 3 a1 ?_
 have a4:=bln hB a3
 exact xe 6 (.bool (O.t==O.t)) ⟨by simp,a4⟩
end Go.Proofs.YthhilbkandcbmaaGreatDoor
namespace Go.Proofs.YthhilbkandcbmaaGreatDoor
set_option maxHeartbeats 8000000
set_option maxRecDepth 100000
open Go.RowKit
set_option linter.unusedVariables false
theorem rows_in{n:Nat}{P:Program}{row:String}{args:Array Value}{w:World}{R:Value→World→Prop}(h:Rows P row args w R):RowsIn Fence.wide n P row args w R :=
 fun c cs _=>let ⟨v,w',r,q⟩:=h c cs;⟨v,w',r,stepsIn_wide.2 q⟩
theorem oper_in{P:Program}{l n:Nat}{o:Oper}{a:Act}{w:World}{K:Act→World→Prop}{Q:Exit→Act→World→Prop}(hd:∀ c,o.op≠.defer c)(h:o.wp P a w K Q):o.wpIn (Fence.wide.inRound l) n P a w K Q:=by
 unfold Oper.wpIn
 refine⟨fun f _=>trivial,?_⟩
 rw[Oper.semAt_plain _ _ _ hd]
 unfold Oper.wp at h
 generalize (execOp a.eval o).run P w=r at *
 cases r with
 | ok nx w' =>
  cases nx with
  | value v=>exact h
  | skip=>exact h
  | defer d=>exact h
  | enter f args=>exact⟨(fun q=>by cases q),callsIn_wide.2 h⟩
  | row r args=>exact⟨(fun q=>by cases q),rows_in h⟩
  | _=>exact h.elim
 | halt hh w' =>
  cases hh with
  | panic v=>exact h
  | _=>exact h.elim
theorem op_in{P:Program}{l n i:Nat}{ops:Array Oper}{a:Act}{w:World}{K K':Act→World→Prop}{Q:Exit→Act→World→Prop}(hQ:¬ LetsOut Q)(hd:∀ o∈ops.toList,∀ c,o.op≠.defer c)(hK:∀ a w,K a w→K' a w)(h:wpOp P ops Q i K a w):wpOpIn (Fence.wide.inRound l) n P ops Q i K' a w:=by
 unfold wpOp at h
 unfold wpOpIn
 cases ho:ops[i]? with
 | none=>rw[ho] at h;exact hK _ _ h
 | some o =>
  rw[ho] at h
  dsimp only at h ⊢
  split at h
  ·rename_i hw
   rw[if_pos hw]
   have a0:o∈ops.toList:=by
    obtain⟨hi,e⟩:=Array.getElem?_eq_some_iff.1 ho
    rw[←e];exact Array.mem_toList_iff.2 (Array.getElem_mem hi)
   exact Oper.wpIn_mono hK (oper_in (hd o a0) (h.resolve_right fun q=>hQ q.2))
  ·rename_i hw
   rw[if_neg hw]
   exact⟨fun f _=>trivial,hK _ _ h⟩
theorem any_in{P:Program}{l n:Nat}{md:Region.Mode}{ops:Array Oper}{Q:Exit→Act→World→Prop}(hQ:¬ LetsOut Q)(hd:∀ o∈ops.toList,∀ c,o.op≠.defer c):∀ (fuel:Nat) (L:Array Bool) (a:Act) (w:World),wpAny P md ops Q fuel L a w→wpAnyIn (Fence.wide.inRound l) n P md ops Q fuel L a w
 | 0,_,_,_,h=>h
 | fuel+1,L,a,w,h=>⟨h.1,fun i hi=>op_in hQ hd (fun a w=>any_in hQ hd fuel _ a w) (h.2 i hi)⟩
theorem h_regIn{P:Program}{l0 n0 id:Nat}{l:List Oper}{Q:Exit→Act→World→Prop}{a:Act}{w:World}(S:World→Prop)(n:Nat)(hn:l.toArray.size=n)(L:Array Bool)(hL:Array.replicate n false=L)(hm:P.follows .mixedOrders=true)(hQ:¬ LetsOut Q)(hd:∀ o∈l,∀ c,o.op≠.defer c)(hS:S w.drew)(h:S w.drew→wpAnyH P .any l.toArray Q S n L a w.drew):(Code.region id l.toArray true).wpIn (Fence.wide.inRound l0) n0 P Q a w :=
 wpIn_region_any hm (any_in hQ (by simpa using hd) _ _ _ _ (wpAny_of_held _ _ _ _ (by rw[hn,hL];exact h hS)))
def rdPost(B:Nat)(Kp:World→World→Prop)(I:Nat→World→Prop)(Ix:Code→Nat→World→Prop)(k:Nat)(W:World):Exit→Act→World→Prop
 | .normal,_,V=>KeepsFrom B W V∧Kp W V∧I (k+1) V
 | .ret,_,V=>KeepsFrom B W V∧Ix .ret k V
 | .exit id,_,V=>KeepsFrom B W V∧Ix (.exit id) k V
 | .goto _,_,_=>False
 | .panic _,_,_=>False
 | .outgrown,_,_=>False
structure RecAt(n:Nat)(r:Loop)(W:World):Prop where
 l:W.heap[n+1]? = some (.loop r)
 d:W.heap[n]? = some (.deferred (some []))
theorem RecAt.lt{n:Nat}{r:Loop}{W:World}(h:RecAt n r W):n+1<W.heap.size:=(Array.getElem?_eq_some_iff.1 h.l).1
theorem RecAt.kept{n:Nat}{r:Loop}{A B:World}{row:Option Nat}(h:RecAt n r A)(hg:A.grownBy B row)(hr:∀ k,row=some k→k<n):RecAt n r B :=
 ⟨(hg.block _ h.lt (fun e=>by have:=hr _ e.symm;omega)).trans h.l,(hg.block _ (by have:=h.lt;omega) (fun e=>by have:=hr _ e.symm;omega)).trans h.d⟩
theorem RecAt.from{n:Nat}{r:Loop}{A B:World}(h:RecAt n r A)(k:KeepsFrom n A B):RecAt n r B:=⟨k.same _ _ (by omega) h.l rfl,k.same _ _ (Nat.le_refl _) h.d rfl⟩
theorem RecAt.put{n:Nat}{r:Loop}{A:World}(h:RecAt n r A)(r':Loop):RecAt n r' (A.putObj (n+1) (.loop r')) :=
 ⟨World.putObj_heap_same h.lt,(World.putObj_heap_other (by omega)).trans h.d⟩
def SeqB{α:Type}(P:Program)(g:Nat)(lb:Array Value)(encs:α→Array Value)(Kp:World→World→Prop)(R:List α)(w:World):Prop :=
 ∀ (l:Nat) (J Jx:Nat→World→Prop) (W:World),B3 w W →
  (∀ k A B,J k A→Below A.heap.size A B→J k B) →
  (∀ k x V,R[k]? = some x→J k V→YieldAt Fence.wide 2 P l (encs x) V fun e U =>
   (e=.returned (.bool true)∧J (k+1) U∧Kp V U)∨(e=.returned (.bool false)∧Jx k U)) →
  J 0 W →
  CallsIn Fence.wide 3 P g (#[.func (.yield l) #[] #[]]++lb) W fun e U=>(∃ v,e=.returned v)∧(J R.length U∨∃ k,k<R.length∧Jx k U)
theorem RecAt.bel{n:Nat}{r:Loop}{A B:World}(h:RecAt n r A)(k:Below A.heap.size A B):RecAt n r B:=⟨(k.block _ h.lt).trans h.l,(k.block _ (by have:=h.lt;omega)).trans h.d⟩
theorem wp_rangeD{α:Type}{P:Program}{g:Operand}{ps:Array Tmp}{assign body:Code}{Q:Exit→Act→World→Prop}{a:Act}{w:World}{gf:Nat}{lb:Array Value}
  (hg:a.eval g=.func (.func gf) #[] lb) (eg:∀ args w,(callFunc gf args).run P w=.ok (.enter gf args) w) {encs:α→Array Value} {R:List α} (p:Nat→Prop) (hp:∀ b,p b→b<w.heap.size)
  (hseq:SeqB P gf lb encs (Keeps p) R w) (hps:∀ x,(encs x).size=ps.size)
  (I:Nat→World→Prop) (Ix:Code→Nat→World→Prop) (hIb:∀ k A B,I k A→Below A.heap.size A B→I k B) (hI:∀ k A B row,I k A→A.grownBy B row→(∀ r,row=some r→w.heap.size≤r∧∃ o:Obj,A.heap[r]? = some o∧o.isCells=false)→I k B)
  (hIx:∀ c k A B row,Ix c k A→A.grownBy B row→(∀ r,row=some r→w.heap.size≤r∧∃ o:Obj,A.heap[r]? = some o∧o.isCells=false)→Ix c k B) (h0:I 0 w) (A2:α→Act→World→Prop)
  (hA2:∀ x a A B row,A2 x a A→A.grownBy B row→(∀ r,row=some r→w.heap.size≤r∧∃ o:Obj,A.heap[r]? = some o∧o.isCells=false)→A2 x a B)
  (hassign:∀ (l k:Nat) (x:α) (W:World) (K:Act→World→Prop),R[k]? = some x→I k W→(∀ a2 W2,B3 W W2→A2 x a2 W2→K a2 W2) →
   assign.wpIn (Fence.wide.inRound l) 2 P (Exit.then K (fun _ _ _=>False)) { tmps:=(ps.zip (encs x)).foldl (fun t (p,v)=>t.setIfInBounds p v) a.tmps,defers:=[] } W)
  (hbody:∀ (l k:Nat) (x:α) (a2:Act) (W:World),w.heap.size≤l→R[k]? = some x→I k W→A2 x a2 W→body.wpIn (Fence.wide.inRound l) 2 P (rdPost w.heap.size (Keeps p) I Ix k W) a2 W)
  (hdone:∀ (D:Nat) (W:World),w.heap.size≤D→I R.length W→W.heap[D]? = some (.deferred (some []))→Q .normal { a with defers:={ target:=.collected D,args:=#[] }::a.defers } W)
  (hstop:∀ (D:Nat) (c:Code) (k:Nat) (W:World),w.heap.size≤D→k<R.length→Ix c k W→W.heap[D]? = some (.deferred (some []))→c.wp P Q { a with defers:={ target:=.collected D,args:=#[] }::a.defers } W) :
  (Code.rangeFunc g ps assign body).wp P Q a w:=by
 refine(wpIn_wide (n:=4)).1 (wpIn_rangeFunc fun fn _=>?_)
 obtain⟨a4,a0⟩:∃ a4:LoopState→Option Code→Loop,a4=fun st pe=>{ state:=st,pending:=pe,fn,tmps:=a.tmps,params:=ps,assign,body,defers:=w.heap.size }:=⟨_,rfl⟩
 obtain⟨W1,b2⟩:∃ W1,(w.alloc (.deferred (some []))).alloc (.loop (a4 .ready none))=W1:=⟨_,rfl⟩
 have c3:RecAt w.heap.size (a4 .ready none) W1:=by
  rw[←b2]
  refine⟨?_,(Below.heap_alloc _ _ _ (by simp)).trans (World.alloc_heap_new w _)⟩
  have:=World.alloc_heap_new (w.alloc (.deferred (some []))) (.loop (a4 .ready none))
  rwa [World.size_alloc] at this
 have b8:I 0 W1:=by
  rw[←b2]
  exact hI _ _ _ none (hI _ _ _ none h0 (World.grownBy_alloc _ _ _) (fun _ e=>by cases e)) (World.grownBy_alloc _ _ _) (fun _ e=>by cases e)
 have c0:B3 w W1:=by
  rw[←b2];exact((Below.refl _ w).alloc (Nat.le_refl _) _).alloc (by simp) _
 refine⟨w.heap.size+1,[{ target:=.collected w.heap.size,args:=#[] }],W1,{ target:=.fn (.func gf) lb,args:=#[.func (.yield (w.heap.size+1)) #[] #[]] },W1,gf,
  #[.func (.yield (w.heap.size+1)) #[] #[]]++lb,W1,?_,?_,fun _ _=>trivial,?_,fun _=>by omega,?_⟩
 ·rw[←b2,a0];exact run_enterLoop_outer _ _ _ _ _
 ·simp only[resolve,hg]
  simp[go_sem]
 ·simp[invoke,go_sem,eg]
 refine(hseq (w.heap.size+1) (fun k W=>I k W∧RecAt w.heap.size (a4 .ready none) W) (fun k W=>∃ c,Ix c k W∧RecAt w.heap.size (a4 .done (some c)) W) W1 c0
  (fun k A B hs hb=>⟨hIb _ _ _ hs.1 hb,hs.2.bel hb⟩) ?_ ⟨b8,c3⟩).mono ?_
 ·rintro k x W hx ⟨hi,hl⟩
  have hy:=run_yield (P:=P) (args:=encs x) hl.l (by rw[a0];exact hps x)
  rw[a0] at hy
  refine⟨fn,_,assign,body,hy,roundIn_of_wpIn trivial (hassign _ k x W _ hx hi fun a2 W2 a9 b7=>⟨_,run_beginRound (hl.bel a9).l (by rw[a0]),?_⟩)⟩
  have b3:=hl.bel a9
  obtain⟨Wb,a5⟩:∃ Wb,W2.putObj (w.heap.size+1) (.loop { a4 .ready none with state:=.busy })=Wb:=⟨_,rfl⟩
  have c1:RecAt w.heap.size (a4 .busy none) Wb:=by
   have:=b3.put (a4 .busy none)
   rw[a0] at this a5
   rw[a5] at this
   rw[a0]
   exact this
  have b9:I k Wb:=by
   rw[←a5]
   exact hI _ _ _ _ (hIb _ _ _ hi a9) (grownBy_putObj' W2 _ _) (fun r e=>by cases e;exact⟨by omega,_,b3.l,rfl⟩)
  have c4:A2 x a2 Wb:=by
   rw[←a5]
   exact hA2 _ _ _ _ _ b7 (grownBy_putObj' W2 _ _) (fun r e=>by cases e;exact⟨by omega,_,b3.l,rfl⟩)
  have c2:Keeps p W Wb:=by
   have h1:Keeps p W W2:=⟨a9.size,fun b hb=>a9.block b (Nat.lt_trans (hp b hb) (by have:=hl.lt;omega))⟩
   rw[←a5]
   exact h1.trans (Zcn hp W2 _ _ _ (by omega) b3.l rfl rfl)
  rw[a5]
  refine wpIn_mono (hbody _ k x a2 Wb (by omega) hx b9 c4) ?_
  have b5:∀ (a1:Option Code) (V:World),KeepsFrom w.heap.size Wb V→RecAt w.heap.size (a4 .busy none) V∧∃ U,U=V.putObj (w.heap.size+1) (.loop (a4 (if a1.isNone then .ready else .done) a1)) ∧
    (Instr.endRound (w.heap.size+1) a1).run P V=.ok (.bool a1.isNone) U∧RecAt w.heap.size (a4 (if a1.isNone then .ready else .done) a1) U:=fun a1 V hk=>by
   have hv:=c1.from hk
   have he:=run_endRound (P:=P) a1 hv.l
   refine⟨hv,_,rfl,?_,hv.put _⟩
   rw[a0] at he ⊢
   exact he
  have b4:∀ {V:World} {r r':Loop} {k:Nat},RecAt w.heap.size r V→I k V→I k (V.putObj (w.heap.size+1) (.loop r')):=fun hv h=>hI _ _ _ _ h (grownBy_putObj' _ _ _) (fun r e=>(by cases e;exact⟨by omega,_,hv.l,rfl⟩))
  have b0:∀ {V:World} {r r':Loop} {c:Code} {k:Nat},RecAt w.heap.size r V→Ix c k V→Ix c k (V.putObj (w.heap.size+1) (.loop r')):=fun hv h=>hIx _ _ _ _ _ h (grownBy_putObj' _ _ _) (fun r e=>by cases e;exact⟨by omega,_,hv.l,rfl⟩)
  rintro e a3 V a6
  cases e with
  | normal =>
   obtain⟨a8,b6,b1⟩:=a6
   obtain⟨hv,U,rfl,hr,a7⟩:=b5 none V a8
   exact⟨_,_,hr,.inl ⟨rfl,⟨b4 hv b1,a7⟩,(c2.trans b6).trans (Zcn hp V _ _ _ (by omega) hv.l rfl rfl)⟩⟩
  | ret =>
   obtain⟨a8,b1⟩:=a6
   obtain⟨hv,U,rfl,hr,a7⟩:=b5 (some .ret) V a8
   exact⟨_,_,hr,.inr ⟨rfl,.ret,b0 hv b1,a7⟩⟩
  | exit id =>
   obtain⟨a8,b1⟩:=a6
   obtain⟨hv,U,rfl,hr,a7⟩:=b5 (some (.exit id)) V a8
   exact⟨_,_,hr,.inr ⟨rfl,.exit id,b0 hv b1,a7⟩⟩
  | goto t=>exact a6.elim
  | panic ch=>exact a6.elim
  | outgrown=>exact a6.elim
 ·rintro e W2 ⟨⟨v,rfl⟩,(⟨hi,hl⟩|⟨k,hk,c,hi,hl⟩)⟩
  ·have he:=run_endLoop (P:=P) hl.l (by rw[a0];simp)
   rw[show(a4 .ready none).pending=none by rw[a0]] at he
   exact⟨none,_,he,hdone _ _ (Nat.le_refl _) (hI _ _ _ _ hi (grownBy_putObj' _ _ _) (fun r e=>(by cases e;exact⟨by omega,_,hl.l,rfl⟩))) ((World.putObj_heap_other (by omega)).trans hl.d)⟩
  ·have he:=run_endLoop (P:=P) hl.l (by rw[a0];simp)
   rw[show(a4 .done (some c)).pending=some c by rw[a0]] at he
   exact⟨some c,_,he,wpIn_wide.2 (hstop _ c k _ (Nat.le_refl _) hk (hIx _ _ _ _ _ hi (grownBy_putObj' _ _ _) (fun r e=>by cases e;exact⟨by omega,_,hl.l,rfl⟩)) ((World.putObj_heap_other (by omega)).trans hl.d))⟩
end Go.Proofs.YthhilbkandcbmaaGreatDoor
namespace Go.Proofs.YthhilbkandcbmaaGreatDoor
set_option maxHeartbeats 8000000
set_option maxRecDepth 100000
open Go.RowKit Go.Extern.Stop Go.Stop Go.Extern
set_option linter.unusedVariables false
attribute [local irreducible] wpList wpAnyH Code.wp Oper.wp Go
def inZ (n lo hi:Int):Bool:=decide (lo≤n∧n≤hi)
theorem inZ_t{n lo hi:Int}:inZ n lo hi=true↔lo≤n∧n≤hi:=decide_eq_true_iff
def dvE (d:Dv)(last:Int):Int:=if inZ d.1.1 0 16777215&&(inZ d.1.2.1 0 2147483647&&(inZ d.1.2.2.1 0 16777215&&inZ d.1.2.2.2 0 16777215)) then(if d.1.1≤last then 8 else 0) else 2
def mpE (data:Int)(m:Mp)(last:Int):Int:=if inZ m.1 0 281474976710655&&(inZ m.2.1 0 (data-1)&&inZ m.2.2 0 16777215) then(if m.1≤last then 8 else 0) else 2
def St(data:Int):List Mp→Int→Int
 | [],_=>0
 | m::r,last=>if mpE data m last≠0 then mpE data m last else St data r m.1
def dvsE(data:Int):List Dv→Int→Int
 | [],_=>0
 | d::r,last=>if dvE d last≠0 then dvE d last else if St data d.2 (-1)≠0 then St data d.2 (-1) else dvsE data r d.1.1
def wsum(L:List Dv):Int:=IntKind.i64.wrap (Ud L:Int)
def Hl(tx time unit data:Int)(L:List Dv):Int :=
 if(inZ tx 0 2147483647&&inZ time 0 16777215)&&(inZ unit 1 65536&&inZ data 0 65536) then(if 4096<L.length∨16384<wsum L then 2 else dvsE data L (-1)) else 2
theorem mpE_2{data:Int}{m:Mp}{last:Int}(h:(inZ m.1 0 281474976710655&&(inZ m.2.1 0 (data-1)&&inZ m.2.2 0 16777215))=false):mpE data m last=2:=if_neg (by rw[h];decide)
theorem mpE_8{data:Int}{m:Mp}{last:Int}(h:(inZ m.1 0 281474976710655&&(inZ m.2.1 0 (data-1)&&inZ m.2.2 0 16777215))=true)(h2:m.1≤last):mpE data m last=8:=(if_pos h).trans (if_pos h2)
theorem mpE_0{data:Int}{m:Mp}{last:Int}(h:(inZ m.1 0 281474976710655&&(inZ m.2.1 0 (data-1)&&inZ m.2.2 0 16777215))=true)(h2:¬ m.1≤last):mpE data m last=0:=(if_pos h).trans (if_neg h2)
theorem dvE_2{d:Dv}{last:Int}(h:(inZ d.1.1 0 16777215&&(inZ d.1.2.1 0 2147483647&&(inZ d.1.2.2.1 0 16777215&&inZ d.1.2.2.2 0 16777215)))=false):dvE d last=2:=if_neg (by rw[h];decide)
theorem dvE_8{d:Dv}{last:Int}(h:(inZ d.1.1 0 16777215&&(inZ d.1.2.1 0 2147483647&&(inZ d.1.2.2.1 0 16777215&&inZ d.1.2.2.2 0 16777215)))=true)(h2:d.1.1≤last):dvE d last=8:=(if_pos h).trans (if_pos h2)
theorem dvE_0{d:Dv}{last:Int}(h:(inZ d.1.1 0 16777215&&(inZ d.1.2.1 0 2147483647&&(inZ d.1.2.2.1 0 16777215&&inZ d.1.2.2.2 0 16777215)))=true)(h2:¬ d.1.1≤last):dvE d last=0:=(if_pos h).trans (if_neg h2)
theorem mpE_ok{data:Int}{m:Mp}{last:Int}:mpE data m last=0↔((0≤m.1∧m.1≤281474976710655)∧(0≤m.2.1∧m.2.1<data)∧0≤m.2.2∧m.2.2≤16777215)∧last<m.1:=by
 unfold mpE
 simp only[Bool.and_eq_true,inZ_t]
 split
 ·split
  ·exact⟨fun h=>absurd h (by decide),fun h=>by omega⟩
  ·exact⟨fun _=>by omega,fun _=>rfl⟩
 ·exact⟨fun h=>absurd h (by decide),fun h=>by omega⟩
theorem dvE_ok{d:Dv}{last:Int}:dvE d last=0↔((0≤d.1.1∧d.1.1≤16777215)∧(0≤d.1.2.1∧d.1.2.1≤2147483647)∧(0≤d.1.2.2.1∧d.1.2.2.1≤16777215)∧0≤d.1.2.2.2∧d.1.2.2.2≤16777215)∧last<d.1.1:=by
 unfold dvE
 simp only[Bool.and_eq_true,inZ_t]
 split
 ·split
  ·exact⟨fun h=>absurd h (by decide),fun h=>by omega⟩
  ·exact⟨fun _=>by omega,fun _=>rfl⟩
 ·exact⟨fun h=>absurd h (by decide),fun h=>by omega⟩
theorem Zby{data:Int}:∀ {M:List Mp} {last:Int},St data M last=0↔MapsOk data M∧∀ m∈M,last<m.1
 | [],last=>⟨fun _=>⟨.nil _,fun _ h=>by cases h⟩,fun _=>rfl⟩
 | m::r,last=>by
  have ih:=@Zby data r m.1
  show(if mpE data m last≠0 then mpE data m last else St data r m.1)=0↔_
  by_cases h:mpE data m last=0
  ·rw[if_neg (fun q=>q h),ih]
   have h2:=mpE_ok.1 h
   constructor
   ·rintro⟨a,b⟩
    refine⟨⟨.cons b a.rise,fun x hx=>?_⟩,fun x hx=>?_⟩
    ·rcases List.mem_cons.1 hx with rfl|hx
     ·exact h2.1
     ·exact a.each x hx
    ·rcases List.mem_cons.1 hx with rfl|hx
     ·exact h2.2
     ·have:=b x hx;omega
   ·rintro⟨a,_⟩
    obtain⟨c1,c2⟩:=List.pairwise_cons.1 a.rise
    exact⟨⟨c2,fun x hx=>a.each x (List.mem_cons_of_mem _ hx)⟩,c1⟩
  ·rw[if_pos h]
   exact⟨fun q=>absurd q h,fun q=>absurd (mpE_ok.2 ⟨q.1.each m (List.mem_cons_self ..),q.2 m (List.mem_cons_self ..)⟩) h⟩
theorem dvsE_ok{data:Int}:∀ {L:List Dv} {last:Int},dvsE data L last=0↔(L.Pairwise (fun x y=>x.1.1<y.1.1)∧∀ d∈L,DevOk data d)∧∀ d∈L,last<d.1.1
  | [],last=>⟨fun _=>⟨⟨.nil,fun _ h=>by cases h⟩,fun _ h=>by cases h⟩,fun _=>rfl⟩
  | d :: r, last => by
    have ih:=@dvsE_ok data r d.1.1
    show(if dvE d last≠0 then dvE d last else if St data d.2 (-1)≠0 then St data d.2 (-1) else dvsE data r d.1.1)=0↔_
    by_cases h:dvE d last=0
    · rw[if_neg (fun q=>q h)]
      have h2:=dvE_ok.1 h
      by_cases g:St data d.2 (-1)=0
      · rw[if_neg (fun q=>q g),ih]
        have g2:=Zby.1 g
        constructor
        · rintro⟨⟨a1,a2⟩,b⟩
          refine⟨⟨.cons b a1,fun x hx=>?_⟩,fun x hx=>?_⟩
          · rcases List.mem_cons.1 hx with rfl|hx
            · exact⟨h2.1.1,h2.1.2.1,h2.1.2.2.1,h2.1.2.2.2,g2.1⟩
            · exact a2 x hx
          · rcases List.mem_cons.1 hx with rfl|hx
            · exact h2.2
            · have:=b x hx;omega
        · rintro⟨⟨a1,a2⟩,_⟩
          obtain⟨c1,c2⟩:=List.pairwise_cons.1 a1
          exact⟨⟨c2,fun x hx=>a2 x (List.mem_cons_of_mem _ hx)⟩,c1⟩
      · rw[if_pos g]
        refine⟨fun q=>absurd q g,fun q=>absurd (Zby.2 ⟨(q.1.2 d (List.mem_cons_self ..)).maps,fun m hm=>?_⟩) g⟩
        have:=(q.1.2 d (List.mem_cons_self ..)).maps.each m hm;omega
    · rw[if_pos h]
      refine⟨fun q=>absurd q h,fun q=>absurd (dvE_ok.2 ⟨?_,q.2 d (List.mem_cons_self ..)⟩) h⟩
      have:=q.1.2 d (List.mem_cons_self ..)
      exact⟨this.id,this.tx,this.made,this.snap⟩
structure PoolOk(tx time unit data:Int)(L:List Dv):Prop where
 htx:0≤tx∧tx≤2147483647
 htime:0≤time∧time≤16777215
 hunit:1≤unit∧unit≤65536
 hdata:0≤data∧data≤65536
 devs:DevsOk data L
theorem rise_ge{M:List Mp}(h:M.Pairwise (fun x y=>x.1<y.1))(h0:∀ m∈M,0≤m.1):∀ i (hi:i<M.length),(i:Int)≤M[i].1
 | 0,hi=>h0 _ (List.getElem_mem hi)
 | i+1,hi=>by
  have ih:=rise_ge h h0 i (by omega)
  have:=List.pairwise_iff_getElem.1 h i (i+1) (by omega) hi (by omega)
  omega
theorem maps_few{data:Int}{M:List Mp}(h:MapsOk data M):M.length≤281474976710656:=by
 by_cases h0:M.length=0
 ·omega
 ·have h1:=rise_ge h.rise (fun m hm=>(h.each m hm).1.1) (M.length-1) (by omega)
  have h2:=(h.each _ (List.getElem_mem (show M.length-1<M.length by omega))).1.2
  omega
theorem sum_few{L:List Dv}{k:Nat}(h:∀ d∈L,d.2.length≤k):Ud L≤L.length*k:=by
 induction L with
 | nil=>exact Nat.zero_le _
 | cons d r ih =>
  have h1:=h d (List.mem_cons_self ..)
  have h2:=ih fun x hx=>h x (List.mem_cons_of_mem _ hx)
  have e:Ud (d::r)=d.2.length+Ud r:=rfl
  rw[e,List.length_cons,Nat.add_mul];omega
theorem wsum_ok{data:Int}{L:List Dv}(hf:L.length≤4096)(h:∀ d∈L,DevOk data d):wsum L=(Ud L:Int):=by
 have h1:=sum_few fun d hd=>maps_few (h d hd).maps
 have h2:L.length*281474976710656≤4096*281474976710656:=Nat.mul_le_mul_right _ hf
 exact IntWalk.i64_in _ (by omega)
theorem wrap_add(a b:Int):IntKind.i64.wrap (IntKind.i64.wrap a+b)=IntKind.i64.wrap (a+b):=by
 simp only[IntKind.wrap,IntKind.signed,IntKind.bits]
 simp
 try omega
theorem Am{tx time unit data:Int}{L:List Dv}:Hl tx time unit data L=0↔PoolOk tx time unit data L:=by
 unfold Hl
 simp only[Bool.and_eq_true,inZ_t]
 split
 ·rename_i h
  split
  ·rename_i g
   refine⟨fun q=>absurd q (by decide),fun q=>?_⟩
   have a:=q.devs.few
   have b:=q.devs.sum
   rw[wsum_ok a q.devs.each] at g
   omega
  ·rename_i g
   rw[dvsE_ok]
   constructor
   ·rintro⟨⟨a,b⟩,_⟩
    have hw:=wsum_ok (L:=L) (by omega) b
    exact⟨h.1.1,h.1.2,h.2.1,h.2.2,by omega,by omega,a,b⟩
   ·intro q
    exact⟨⟨q.devs.rise,q.devs.each⟩,fun d hd=>by have:=(q.devs.each d hd).id;omega⟩
 ·rename_i h
  exact⟨fun q=>absurd q (by decide),fun q=>absurd ⟨⟨q.htx,q.htime⟩,q.hunit,q.hdata⟩ h⟩
theorem sumM_take{L:List Dv}{n:Nat}(h:n<L.length){x:Dv}:Ud (L.take (n+1))=Ud (L.take n)+(L.getD n x).2.length:=by
 unfold Ud
 rw[List.take_succ_eq_append_getElem h,List.map_append,List.sum_append]
 simp[List.getD,h]
theorem Wc{data:Int}{M:List Mp}{i:Nat}{x:Mp}{last:Int}(h:i<M.length):St data (M.drop i) last=if mpE data (M.getD i x) last≠0 then mpE data (M.getD i x) last else St data (M.drop (i+1)) (M.getD i x).1:=by
 rw[List.drop_eq_getElem_cons h,show M.getD i x=M[i] from by simp[List.getD,h]];rfl
theorem mpsE_end{data:Int}{M:List Mp}{i:Nat}{last:Int}(h:M.length≤i):St data (M.drop i) last=0:=by
 rw[List.drop_eq_nil_of_le h];rfl
theorem dvsE_drop{data:Int}{L:List Dv}{i:Nat}{x:Dv}{last:Int}(h:i<L.length):dvsE data (L.drop i) last=if dvE (L.getD i x) last≠0 then dvE (L.getD i x) last else if St data (L.getD i x).2 (-1)≠0 then St data (L.getD i x).2 (-1) else dvsE data (L.drop (i+1)) (L.getD i x).1.1:=by
 rw[List.drop_eq_getElem_cons h,show L.getD i x=L[i] from by simp[List.getD,h]];rfl
theorem dvsE_end{data:Int}{L:List Dv}{i:Nat}{last:Int}(h:L.length≤i):dvsE data (L.drop i) last=0:=by
 rw[List.drop_eq_nil_of_le h];rfl
abbrev Zv:=Dv×O0×Nat
def zvD:Zv:=(((0,0,0,0),[]),none,0)
def devZ(z:Zv):List Value:=[V0 z.1.1.1,V0 z.1.1.2.1,V0 z.1.1.2.2.1,V0 z.1.1.2.2.2,.slice z.2.1 z.1.2.length z.2.2]
theorem Wm(z:Zv):(devZ z).length=5:=rfl
structure DevsR(w:World)(p:Option Addr)(c:Nat)(Z:List Zv):Prop where
 row:Sts devZ w (.slice p Z.length c) Z
 each:∀ i,i<Z.length→Sts mapC w (.slice (Z.getD i zvD).2.1 (Z.getD i zvD).1.2.length (Z.getD i zvD).2.2) (Z.getD i zvD).1.2
theorem DevsR.below{w W:World}{p:O0}{c:Nat}{Z:List Zv}(h:DevsR w p c Z)(hb:B3 w W):DevsR W p c Z:=⟨h.row.below hb,fun i hi=>(h.each i hi).below hb⟩
theorem DevsR.rowN{w:World}{p:O0}{c n:Nat}{Z:List Zv}(h:DevsR w p c Z)(hn:Z.length=n):Sl w (.slice p n c) n (Z.flatMap devZ):=by subst hn;exact h.row
theorem DevsR.someN{w:World}{p:O0}{c n i:Nat}{Z:List Zv}(h:DevsR w p c Z)(hn:Z.length=n)(hi:i<n):p.isSome=true:=by subst hn;exact(Sts.cell h.row Wm zvD (k:=i) (i:=0) hi rfl).1
theorem Gy(n lo hi:Int)(w:World) :
 C0 49 #[V0 n,V0 lo,V0 hi] w (Ret (.bool (inZ n lo hi)) w):=by
 refine zin 15 Tryz.func49 ?_
 refine xg 11 [9,10] (decide (lo≤n)) (fun a0=>?_) (fun a0=>?_)
 ·have a0:=of_decide_eq_true a0
  exact xe 8 (.bool (decide (n≤hi))) ⟨by rw[show inZ n lo hi=decide (n≤hi) from by unfold inZ;exact decide_eq_decide.2 (by omega)],(B4 w)⟩
 have a0:=of_decide_eq_false a0
 exact xe 8 (.bool false) ⟨by rw[show inZ n lo hi=false from decide_eq_false (by omega)],(B4 w)⟩
theorem Nj(t:Int)(w:World) :
 C0 91 #[V0 t] w (Ret (.bool !(inZ t 0 16777215)) w):=by
 refine zin 6 Tryz.func91 ?_
 refine xr 8 (args:=#[V0 t,V0 0,V0 16777215]) (Gy t 0 16777215 _) fun W1 a0=>?_
 exact xe 5 (.bool (!(inZ t 0 16777215))) ⟨rfl,a0⟩
theorem indexT1(t:Int)(b:Nat)(w:World)(k:Blk w b [V0 t] 3) :
 C0 152 #[.slice (S1 b) 1 1,.func (.func 91) #[] #[]] w ((fun e w'=>((inZ t 0 16777215)=true∧e=.returned (V0 (-1))∧B3 w w')∨((inZ t 0 16777215)=false∧∃ i:Nat,e=.returned (V0 (i:Int))∧B3 w w'))):=by
 refine zin 19 Tryz.func152 ?_
 refine xu 14 2 ?_
 refine xb 23 0 k ?_
 refine xr 0 (args:=#[V0 t]) (Nj t _) fun W1 a0=>?_
 refine xi 2 (!(inZ t 0 16777215)) (fun a1=>?_) (fun a1=>?_)
 ·exact xe 12 (V0 0) (.inr ⟨by simp_all,0,rfl,a0⟩)
 exact xe 26 (V0 (-1)) (.inl ⟨by simp_all,rfl,a0⟩)
theorem Ze2(t:Int)(b:Nat)(w:World)(k:Blk w b [V0 t] 3) :
 C0 90 #[.slice (S1 b) 1 1,.func (.func 91) #[] #[]] w (Ret (.bool !(inZ t 0 16777215)) w):=by
 refine zin 9 Tryz.func90 ?_
 refine xc 9 (args:=#[.slice (S1 b) 1 1,.func (.func 91) #[] #[]]) (indexT1 t b _ k) ?_
 rintro e W1 a1
 rcases a1 with ⟨hz,rfl,a0⟩|⟨hz,i0,rfl,a0⟩
 ·exact xe 5 (.bool false) ⟨by first|(rw[hz];rfl)|(rw[hz,decide_eq_true (by omega)];rfl),a0⟩
 exact xe 5 (.bool (decide ((i0:Int)≥(0:Int)))) ⟨by first|(rw[hz];rfl)|(rw[hz,decide_eq_true (by omega)];rfl),a0⟩
theorem Zag(tx:Int)(t:Int)(b:Nat)(w:World)(k:Blk w b [V0 t] 3) :
 C0 48 #[V0 tx,.slice (S1 b) 1 1] w (Ret (.bool ((inZ tx 0 2147483647)&&(inZ t 0 16777215))) w):=by
 refine zin 12 Tryz.func48 ?_
 refine xr 8 (args:=#[V0 tx,V0 0,V0 2147483647]) (Gy tx 0 2147483647 _) fun W1 a0=>?_
 refine xg 1 [6,7] (inZ tx 0 2147483647) (fun a1=>?_) (fun a1=>?_)
 ·have a2:=k.below a0
  refine xr 1 (args:=#[.slice (S1 b) 1 1,.func (.func 91) #[] #[]]) (Ze2 t b _ a2) fun W3 a3=>?_
  have hB:=bln a0 a3
  exact xe 6 (.bool (!(!(inZ t 0 16777215)))) ⟨by simp_all,hB⟩
 exact xe 8 (.bool false) ⟨by simp_all,a0⟩
theorem indexT2(t u:Int)(b:Nat)(w:World)(k:Blk w b [V0 t,V0 u] 3) :
 C0 152 #[.slice (S1 b) 2 2,.func (.func 91) #[] #[]] w ((fun e w'=>(((inZ t 0 16777215)&&(inZ u 0 16777215))=true∧e=.returned (V0 (-1))∧B3 w w')∨(((inZ t 0 16777215)&&(inZ u 0 16777215))=false∧∃ i:Nat,e=.returned (V0 (i:Int))∧B3 w w'))):=by
 refine zin 19 Tryz.func152 ?_
 refine xu 14 3 ?_
 refine xb 23 0 k ?_
 refine xr 0 (args:=#[V0 t]) (Nj t _) fun W1 a0=>?_
 refine xi 2 (!(inZ t 0 16777215)) (fun a2=>?_) (fun a2=>?_)
 ·exact xe 12 (V0 0) (.inr ⟨by simp_all,0,rfl,a0⟩)
 have a4:=k.below a0
 refine xb 31 1 a4 ?_
 refine xr 0 (args:=#[V0 u]) (Nj u _) fun W3 a1=>?_
 refine xi 2 (!(inZ u 0 16777215)) (fun a3=>?_) (fun a3=>?_)
 ·have hB:=bln a0 a1
  exact xe 12 (V0 1) (.inr ⟨by simp_all,1,rfl,hB⟩)
 have hB:=bln a0 a1
 exact xe 26 (V0 (-1)) (.inl ⟨by simp_all,rfl,hB⟩)
theorem Zgo(t u:Int)(b:Nat)(w:World)(k:Blk w b [V0 t,V0 u] 3) :
 C0 90 #[.slice (S1 b) 2 2,.func (.func 91) #[] #[]] w (Ret (.bool !((inZ t 0 16777215)&&(inZ u 0 16777215))) w):=by
 refine zin 9 Tryz.func90 ?_
 refine xc 9 (args:=#[.slice (S1 b) 2 2,.func (.func 91) #[] #[]]) (indexT2 t u b _ k) ?_
 rintro e W1 a1
 rcases a1 with ⟨hz,rfl,a0⟩|⟨hz,i0,rfl,a0⟩
 ·exact xe 5 (.bool false) ⟨by first|(rw[hz];rfl)|(rw[hz,decide_eq_true (by omega)];rfl),a0⟩
 exact xe 5 (.bool (decide ((i0:Int)≥(0:Int)))) ⟨by first|(rw[hz];rfl)|(rw[hz,decide_eq_true (by omega)];rfl),a0⟩
theorem Za1(tx:Int)(t u:Int)(b:Nat)(w:World)(k:Blk w b [V0 t,V0 u] 3) :
 C0 48 #[V0 tx,.slice (S1 b) 2 2] w (Ret (.bool ((inZ tx 0 2147483647)&&((inZ t 0 16777215)&&(inZ u 0 16777215)))) w):=by
 refine zin 12 Tryz.func48 ?_
 refine xr 8 (args:=#[V0 tx,V0 0,V0 2147483647]) (Gy tx 0 2147483647 _) fun W1 a0=>?_
 refine xg 1 [6,7] (inZ tx 0 2147483647) (fun a1=>?_) (fun a1=>?_)
 ·have a2:=k.below a0
  refine xr 1 (args:=#[.slice (S1 b) 2 2,.func (.func 91) #[] #[]]) (Zgo t u b _ a2) fun W3 a3=>?_
  have hB:=bln a0 a3
  exact xe 6 (.bool (!(!((inZ t 0 16777215)&&(inZ u 0 16777215))))) ⟨by simp_all,hB⟩
 exact xe 8 (.bool false) ⟨by simp_all,a0⟩
theorem Zcw(d:Dv)(last:Int)(a:O0)(n c:Nat)(w:World) :
 C0 51 #[.agg #[V0 d.1.1,V0 d.1.2.1,V0 d.1.2.2.1,V0 d.1.2.2.2,.slice a n c],V0 last] w (Ret (V0 (dvE d last)) w):=by
 refine zin 26 Tryz.func51 ?_
 refine xa 2 [V0 d.1.1,V0 d.1.2.1,V0 d.1.2.2.1,V0 d.1.2.2.2,.slice a n c] 48 fun b1 W1 n1=>?_
 refine xb 8 0 n1.blk ?_
 refine xr 0 (args:=#[V0 d.1.1,V0 0,V0 16777215]) (Gy d.1.1 0 16777215 _) fun W2 a3=>?_
 refine xg 2 [9,10] (!(inZ d.1.1 0 16777215)) (fun a1=>?_) (fun a1=>?_)
 ·have a1:=Pc a1
  have hB:=bln n1.below a3
  exact xe 22 (V0 2) ⟨by rw[dvE_2 (by rw[a1];rfl)],hB⟩
 have a1:=Pe a1
 have a0:=n1.blk.below a3
 refine xb 1 1 a0 ?_
 refine xb 1 2 a0 ?_
 refine xb 1 3 a0 ?_
 refine xbs 0 2 [V0 d.1.2.2.1,V0 d.1.2.2.2] 3 fun b4 W4 n4=>?_
 refine xr 0 (args:=#[V0 d.1.2.1,.slice (S1 b4) 2 2]) (Za1 d.1.2.1 d.1.2.2.1 d.1.2.2.2 b4 _ n4.blk) fun W5 a4=>?_
 refine xi 5 (!((inZ d.1.2.1 0 2147483647)&&((inZ d.1.2.2.1 0 16777215)&&(inZ d.1.2.2.2 0 16777215)))) (fun a2=>?_) (fun a2=>?_)
 ·have a2:=Pc a2
  have hB:=bln (bln (bln n1.below a3) n4.below) a4
  exact xe 8 (V0 2) ⟨by rw[dvE_2 (by rw[a1,a2];rfl)],hB⟩
 have a2:=Pe a2
 have a5:=(a0.below n4.below).below a4
 refine xb 3 0 a5 ?_
 refine xid 5 (d.1.1≤last) (fun a6=>?_) (fun a6=>?_)
 ·have hB:=bln (bln (bln n1.below a3) n4.below) a4
  exact xe 8 (V0 8) ⟨by rw[dvE_8 (by rw[a1,a2];rfl) (by omega)],hB⟩
 have hB:=bln (bln (bln n1.below a3) n4.below) a4
 exact xe 9 (V0 0) ⟨by rw[dvE_0 (by rw[a1,a2];rfl) (by omega)],hB⟩
theorem Zbv(a:O0)(c:Nat)(L:List Mp)(data:Int)(w:World)(hd:0≤data∧data≤65536)(ha:Sts mapC w (.slice a L.length c) L) :
 C0 52 #[.slice a L.length c,V0 data] w (Ret (V0 (St data L (-1))) w):=by
 have c1:=Sl.len ha
 refine zin 41 Tryz.func52 ?_
 have hB:=Below.refl w.heap.size w
 refine zl 19 41 (fun zm c0 V=>∃ (i:Nat) (a3:Int),c0=[(1,V0 data),(5,V0 a3),(8,.slice a L.length c),(9,V0 (L.length:Int)),(10,V0 (i:Int))]∧zm=L.length-((i:Int)).toNat∧B3 w V∧i≤L.length∧St data L (-1)=St data (L.drop i) a3) ⟨0,(-1),rfl,rfl,hB,Nat.zero_le _,rfl⟩ ?_
 rintro _ _ W1 ⟨i,a3,rfl,rfl,a0,hi,he⟩ J1 b9 r1
 refine xid 6 ((i:Int)<(L.length:Int)) (fun b8=>?_) (fun b8=>?_)
 ·refine xx 6 _ L.length i 3 (Sts.cell ha Ms mpD (k:=i) (i:=0) (by omega) rfl).1 ?_
  refine xlv 0 (Sts.rp (k:=i) (ha.below a0) Ms mpD (by omega) (by decide)) ?_
  refine xa 0 [V0 0,V0 0,V0 0] 50 fun b3 W3 n3=>?_
  have g3:=n3.ge a0
  refine xsv 0 n3.blk [V0 ((L.getD i mpD).1),V0 ((L.getD i mpD).2.1),V0 ((L.getD i mpD).2.2)] fun W4 u4 k4=>?_
  refine xb 7 0 k4 ?_
  refine xr 0 (args:=#[V0 ((L.getD i mpD).1),V0 0,V0 281474976710655]) (Gy ((L.getD i mpD).1) 0 281474976710655 _) fun W5 a5=>?_
  refine xg 2 [18,19] (!(inZ ((L.getD i mpD).1) 0 281474976710655)) (fun a2=>?_) (fun a2=>?_)
  ·have a2:=Pc a2
   have b2:=bln (u4.below (bln a0 n3.below) g3) a5
   exact xe 30 (V0 2) ⟨by rw[he,Wc (x:=mpD) (by omega),mpE_2 (by rw[a2];rfl)];rfl,b2⟩
  have a2:=Pe a2
  have a9:=k4.below a5
  refine xb 1 1 a9 ?_
  refine xw 1 (data-1) ?_
  refine xr 0 (args:=#[V0 ((L.getD i mpD).2.1),V0 0,V0 (data-1)]) (Gy ((L.getD i mpD).2.1) 0 (data-1) _) fun W7 a8=>?_
  refine xg 3 [25,26,27] (!(inZ ((L.getD i mpD).2.1) 0 (data-1))) (fun a4=>?_) (fun a4=>?_)
  ·have a4:=Pc a4
   have b4:=bln (bln (u4.below (bln a0 n3.below) g3) a5) a8
   exact xe 22 (V0 2) ⟨by rw[he,Wc (x:=mpD) (by omega),mpE_2 (by rw[a2,a4];rfl)];rfl,b4⟩
  have a4:=Pe a4
  have a6:=a9.below a8
  refine xb 1 2 a6 ?_
  refine xr 0 (args:=#[V0 ((L.getD i mpD).2.2),V0 0,V0 16777215]) (Gy ((L.getD i mpD).2.2) 0 16777215 _) fun W9 b0=>?_
  refine xi 5 (!(inZ ((L.getD i mpD).2.2) 0 16777215)) (fun a1=>?_) (fun a1=>?_)
  ·have a1:=Pc a1
   have b1:=bln (bln (bln (u4.below (bln a0 n3.below) g3) a5) a8) b0
   exact xe 13 (V0 2) ⟨by rw[he,Wc (x:=mpD) (by omega),mpE_2 (by rw[a2,a4,a1];rfl)];rfl,b1⟩
  have a1:=Pe a1
  have a7:=a6.below b0
  refine xb 3 0 a7 ?_
  refine xid 5 ((L.getD i mpD).1≤a3) (fun b6=>?_) (fun b6=>?_)
  ·have b5:=bln (bln (bln (u4.below (bln a0 n3.below) g3) a5) a8) b0
   exact xe 13 (V0 8) ⟨by rw[he,Wc (x:=mpD) (by omega),mpE_8 (by rw[a2,a4,a1];rfl) (by omega)];rfl,b5⟩
  refine xb 5 0 a7 ?_
  refine xwm 5 ((i:Int)+1) (↑(i+1):Int) ?_
  have b7:=bln (bln (bln (u4.below (bln a0 n3.below) g3) a5) a8) b0
  exact ze 2 (b9 _ _ _ ⟨i+1,(L.getD i mpD).1,rfl,rfl,b7,by omega,by rw[he,Wc (x:=mpD) (by omega),mpE_0 (by rw[a2,a4,a1];rfl) (by omega)];rfl⟩ (by omega))
 exact xe 11 (V0 0) ⟨by rw[he,mpsE_end (by omega)],a0⟩
theorem zfst{Z:List Zv}{i:Nat}(h:i<Z.length)(x:Dv):(Z.map Prod.fst).getD i x=(Z.getD i zvD).1:=by simp[List.getD,h]
theorem Lj{data:Int}{Z:List Zv}{i:Nat}{last:Int}(h:i<Z.length):dvsE data ((Z.map Prod.fst).drop i) last=if dvE (Z.getD i zvD).1 last≠0 then dvE (Z.getD i zvD).1 last else if St data (Z.getD i zvD).1.2 (-1)≠0 then St data (Z.getD i zvD).1.2 (-1) else dvsE data ((Z.map Prod.fst).drop (i+1)) (Z.getD i zvD).1.1.1:=by
 rw[dvsE_drop (x:=zvD.1) (by rw[List.length_map];exact h),zfst h]
theorem Sc{Z:List Zv}{i:Nat}(h:i<Z.length):Ud ((Z.map Prod.fst).take (i+1))=Ud ((Z.map Prod.fst).take i)+(Z.getD i zvD).1.2.length:=by
 rw[sumM_take (x:=zvD.1) (by rw[List.length_map];exact h),zfst h]
theorem Zhb(p:O0)(c n:Nat)(t u v x:Int)(Z:List Zv)(w:World)(hZ:Z.length=n)(hP:DevsR w p c Z) :
 C0 50 #[.agg #[V0 t,V0 u,V0 v,V0 x,.slice p n c]] w (Ret (V0 (wsum (Z.map Prod.fst))) w):=by
 have a7:=Sl.len (hP.rowN hZ)
 refine zin 20 Tryz.func50 ?_
 refine xa 2 [V0 t,V0 u,V0 v,V0 x,.slice p n c] 53 fun b1 W1 n1=>?_
 refine xb 12 4 n1.blk ?_
 refine zl 5 20 (fun zm a5 V=>∃ (i:Nat),a5=[(2,V0 0),(3,V0 (IntKind.i64.wrap (↑(Ud ((Z.map Prod.fst).take i)):Int))),(7,.slice p n c),(8,V0 (n:Int)),(9,V0 (i:Int))]∧zm=n-((i:Int)).toNat∧B3 w V∧Blk V b1 ([V0 t,V0 u,V0 v,V0 x,.slice p n c]) 53∧i≤n) ⟨0,rfl,rfl,n1.below,n1.blk,Nat.zero_le _⟩ ?_
 rintro _ _ W2 ⟨i,rfl,rfl,a0,a2,hi⟩ J2 a4 r2
 refine xid 6 ((i:Int)<(n:Int)) (fun a6=>?_) (fun a6=>?_)
 ·refine xx 6 _ n i 5 (hP.someN hZ (i:=i) (by omega)) ?_
  refine xlv 0 (Sts.rp (k:=i) (hP.below a0).row Wm zvD (by omega) (by decide)) ?_
  refine xa 0 [V0 0,V0 0,V0 0,V0 0,S0] 48 fun b4 W4 n4=>?_
  have g4:=n4.ge a0
  refine xsv 0 n4.blk [V0 ((Z.getD i zvD).1.1.1),V0 ((Z.getD i zvD).1.1.2.1),V0 ((Z.getD i zvD).1.1.2.2.1),V0 ((Z.getD i zvD).1.1.2.2.2),.slice ((Z.getD i zvD).2.1) ((Z.getD i zvD).1.2.length) ((Z.getD i zvD).2.2)] fun W5 u5 k5=>?_
  refine xb 5 4 k5 ?_
  refine xwm 7 ((i:Int)+1) (↑(i+1):Int) ?_
  refine xv1 2 3 (show(V0 (IntKind.i64.wrap ((IntKind.i64.wrap (↑(Ud ((Z.map Prod.fst).take i)):Int))+(↑((Z.getD i zvD).1.2.length):Int))):Value)=V0 (IntKind.i64.wrap (↑(Ud ((Z.map Prod.fst).take (i+1))):Int)) from congrArg V0 ((wrap_add _ _).trans (congrArg IntKind.i64.wrap (by have:=Sc (Z:=Z) (i:=i) (by omega);omega)))) ?_
  have a3:=u5.below (bln a0 n4.below) g4
  have a1:=u5.blkT (a2.below n4.below) n4.blk (by decide)
  exact ze 0 (a4 _ _ _ ⟨i+1,rfl,rfl,a3,a1,by omega⟩ (by omega))
 exact xe 12 (V0 (IntKind.i64.wrap (↑(Ud ((Z.map Prod.fst).take i)):Int))) ⟨by unfold wsum;rw[List.take_of_length_le (by rw[List.length_map];omega)],a0⟩
theorem Eb{tx time unit data:Int}{L:List Dv}(h:((inZ tx 0 2147483647&&inZ time 0 16777215)&&(inZ unit 1 65536&&inZ data 0 65536))=false):Hl tx time unit data L=2:=if_neg (by rw[h];decide)
theorem Zaz{tx time unit data:Int}{L:List Dv}(h:((inZ tx 0 2147483647&&inZ time 0 16777215)&&(inZ unit 1 65536&&inZ data 0 65536))=true)(h2:4096<L.length∨16384<wsum L):Hl tx time unit data L=2:=(if_pos h).trans (if_pos h2)
theorem Ln{tx time unit data:Int}{L:List Dv}(h:((inZ tx 0 2147483647&&inZ time 0 16777215)&&(inZ unit 1 65536&&inZ data 0 65536))=true)(h2:¬ (4096<L.length∨16384<wsum L)):Hl tx time unit data L=dvsE data L (-1):=(if_pos h).trans (if_neg h2)
theorem Lp(p:O0)(c n:Nat)(t u v x:Int)(Z:List Zv)(w:World)(hZ:Z.length=n)(hP:DevsR w p c Z) :
 C0 24 #[.agg #[V0 t,V0 u,V0 v,V0 x,.slice p n c]] w (Ret (V0 (Hl t u v x (Z.map Prod.fst))) w):=by
 have e5:=Sl.len (hP.rowN hZ)
 refine zin 60 Tryz.func24 ?_
 refine xa 2 [V0 t,V0 u,V0 v,V0 x,.slice p n c] 53 fun b1 W1 n1=>?_
 refine xb 7 0 n1.blk ?_
 refine xb 1 1 n1.blk ?_
 refine xbs 0 1 [V0 u] 3 fun b2 W2 n2=>?_
 refine xr 0 (args:=#[V0 t,.slice (S1 b2) 1 1]) (Zag t u b2 _ n2.blk) fun W3 c0=>?_
 refine xg 2 [14,15] (!((inZ t 0 2147483647)&&(inZ u 0 16777215))) (fun a3=>?_) (fun a3=>?_)
 ·have a3:=Pc a3
  have hB:=bln (bln n1.below n2.below) c0
  exact xe 21 (V0 2) ⟨by rw[Eb (by rw[a3];rfl)],hB⟩
 have a3:=Pe a3
 have c4:=(n1.blk.below n2.below).below c0
 refine xb 1 2 c4 ?_
 refine xr 0 (args:=#[V0 v,V0 1,V0 65536]) (Gy v 1 65536 _) fun W5 c2=>?_
 refine xg 3 [19,20,21] (!(inZ v 1 65536)) (fun a4=>?_) (fun a4=>?_)
 ·have a4:=Pc a4
  have hB:=bln (bln (bln n1.below n2.below) c0) c2
  exact xe 15 (V0 2) ⟨by rw[Eb (by rw[a3,a4];rfl)],hB⟩
 have a4:=Pe a4
 have c3:=c4.below c2
 refine xb 1 3 c3 ?_
 refine xr 0 (args:=#[V0 x,V0 0,V0 65536]) (Gy x 0 65536 _) fun W7 c8=>?_
 refine xi 4 (!(inZ x 0 65536)) (fun a5=>?_) (fun a5=>?_)
 ·have a5:=Pc a5
  have hB:=bln (bln (bln (bln n1.below n2.below) c0) c2) c8
  exact xe 7 (V0 2) ⟨by rw[Eb (by rw[a3,a4,a5];rfl)],hB⟩
 have a5:=Pe a5
 have b7:=c3.below c8
 refine xb 6 4 b7 ?_
 refine xg 3 [30,31] (decide ((n:Int)>(4096:Int))) (fun c7=>?_) (fun c7=>?_)
 ·have c7:=of_decide_eq_true c7
  have hB:=bln (bln (bln (bln n1.below n2.below) c0) c2) c8
  exact xe 14 (V0 2) ⟨by rw[Zaz (by rw[a3,a4,a5];rfl) (by rw[List.length_map];omega)],hB⟩
 have c7:=of_decide_eq_false c7
 refine xlv 0 b7.rp ?_
 have hB:=bln (bln (bln (bln n1.below n2.below) c0) c2) c8
 refine xr 0 (args:=#[.agg #[V0 t,V0 u,V0 v,V0 x,.slice p n c]]) (Zhb p c n t u v x Z _ hZ (hP.below hB)) fun e3 b0=>?_
 refine xid 4 ((wsum (Z.map Prod.fst))>(16384:Int)) (fun d7=>?_) (fun d7=>?_)
 ·have d2:=bln hB b0
  exact xe 7 (V0 2) ⟨by rw[Zaz (by rw[a3,a4,a5];rfl) (by rw[List.length_map];omega)],d2⟩
 have d1:¬ (4096<(Z.map Prod.fst).length∨16384<wsum (Z.map Prod.fst)):=by rw[List.length_map];omega
 have c5:=b7.below b0
 refine xb 11 4 c5 ?_
 have d3:=bln hB b0
 have d4:=(((n2.blk.below c0).below c2).below c8).below b0
 refine zl 5 60 (fun zm e2 V=>∃ (i:Nat) (a2:Int),e2=[(1,P0 b1),(3,V0 a2),(37,.slice p n c),(38,V0 (n:Int)),(39,V0 (i:Int))]∧zm=n-((i:Int)).toNat∧B3 w V∧Blk V b1 ([V0 t,V0 u,V0 v,V0 x,.slice p n c]) 53∧Blk V b2 ([V0 u]) 3∧i≤n∧dvsE x (Z.map Prod.fst) (-1)=dvsE x ((Z.map Prod.fst).drop i) a2) ⟨0,(-1),rfl,rfl,d3,c5,d4,Nat.zero_le _,rfl⟩ ?_
 rintro _ _ f1 ⟨i,a2,rfl,rfl,a1,b6,b8,hi,he⟩ e7 d9 e8
 have hx:=inZ_t.1 a5
 refine xid 6 ((i:Int)<(n:Int)) (fun d6=>?_) (fun d6=>?_)
 ·refine xx 6 _ n i 5 (hP.someN hZ (i:=i) (by omega)) ?_
  refine xlv 0 (Sts.rp (k:=i) (hP.below a1).row Wm zvD (by omega) (by decide)) ?_
  refine xa 0 [V0 0,V0 0,V0 0,V0 0,S0] 48 fun f2 e6 b5=>?_
  have e0:=b5.ge a1
  refine xsv 0 b5.blk [V0 ((Z.getD i zvD).1.1.1),V0 ((Z.getD i zvD).1.1.2.1),V0 ((Z.getD i zvD).1.1.2.2.1),V0 ((Z.getD i zvD).1.1.2.2.2),.slice ((Z.getD i zvD).2.1) ((Z.getD i zvD).1.2.length) ((Z.getD i zvD).2.2)] fun e9 c9 e1=>?_
  refine xlv 5 e1.rp ?_
  refine xr 1 (args:=#[.agg #[V0 ((Z.getD i zvD).1.1.1),V0 ((Z.getD i zvD).1.1.2.1),V0 ((Z.getD i zvD).1.1.2.2.1),V0 ((Z.getD i zvD).1.1.2.2.2),.slice ((Z.getD i zvD).2.1) ((Z.getD i zvD).1.2.length) ((Z.getD i zvD).2.2)],V0 a2]) (Zcw (Z.getD i zvD).1 a2 _ _ _ _) fun e4 a7=>?_
  refine xin 9 (dvE (Z.getD i zvD).1 a2) (0:Int) (fun b3=>?_) (fun b3=>?_)
  ·have d0:=bln (c9.below (bln a1 b5.below) e0) a7
   exact xe 13 (V0 (dvE (Z.getD i zvD).1 a2)) ⟨by rw[Ln (by rw[a3,a4,a5];rfl) d1,he,Lj (by omega),if_pos b3],d0⟩
  have b4:=e1.below a7
  refine xb 6 4 b4 ?_
  have a0:=(c9.blkT (b6.below b5.below) b5.blk (by decide)).below a7
  refine xb 1 3 a0 ?_
  have b9:=bln (c9.below (bln a1 b5.below) e0) a7
  refine xr 0 (args:=#[.slice ((Z.getD i zvD).2.1) ((Z.getD i zvD).1.2.length) ((Z.getD i zvD).2.2),V0 x]) (Zbv _ _ (Z.getD i zvD).1.2 x _ hx ((hP.below b9).each i (by omega))) fun f0 a6=>?_
  refine xin 9 (St x (Z.getD i zvD).1.2 (-1)) (0:Int) (fun c1=>?_) (fun c1=>?_)
  ·have d8:=bln b9 a6
   exact xe 13 (V0 (St x (Z.getD i zvD).1.2 (-1))) ⟨by rw[Ln (by rw[a3,a4,a5];rfl) d1,he,Lj (by omega),if_neg (fun q=>q b3),if_pos c1],d8⟩
  have c6:=b4.below a6
  refine xb 4 0 c6 ?_
  refine xwm 5 ((i:Int)+1) (↑(i+1):Int) ?_
  have d5:=bln b9 a6
  have a8:=a0.below a6
  have a9:=((c9.blkT (b8.below b5.below) b5.blk (by decide)).below a7).below a6
  exact ze 2 (d9 _ _ _ ⟨i+1,(Z.getD i zvD).1.1.1,rfl,rfl,d5,a8,a9,by omega,by rw[he,Lj (by omega),if_neg (fun q=>q b3),if_neg (fun q=>q c1)]⟩ (by omega))
 exact xe 11 (V0 0) ⟨by rw[Ln (by rw[a3,a4,a5];rfl) d1,he,dvsE_end (by rw[List.length_map];omega)],a1⟩
def bmN (n:Nat):Nat:=(n+959)/960
theorem bmN_lt{n i:Nat}(h:i<bmN n):i*960<n:=by unfold bmN at h;omega
theorem bmN_done{n i:Nat}(h:i=bmN n):n≤i*960:=by subst h;unfold bmN;omega
def mn3 (n:Int):Int:=if n<3 then n else 3
def Zu(l:List Int):List Int:=l.map mn3
theorem Zg4{l:List Int}{k:Nat}(h:k<l.length):Zu (l.take (k+1))=Zu (l.take k)++[mn3 (l.getD k 0)]:=by
 unfold Zu
 rw[List.take_succ_eq_append_getElem h,List.map_append,show l.getD k 0=l[k] from by simp[List.getD,h]]
 rfl
def ovX (l:List Int)(k:Nat):List Ent:=if 3≤l.getD k 0 then [((k:Int),leB (l.getD k 0) 4,0)] else []
def Zx(l:List Int)(k:Nat):List Ent:=(List.range k).flatMap (ovX l)
theorem Sg(l:List Int)(k:Nat):Zx l (k+1)=Zx l k++ovX l k:=by simp[Zx,List.range_succ]
theorem Wf{l:List Int}{k:Nat}(h:3≤l.getD k 0):Zx l (k+1)=Zx l k++[((k:Int),leB (l.getD k 0) 4,0)]:=by rw[Sg];unfold ovX;rw[if_pos h]
theorem Wq{l:List Int}{k:Nat}(h:¬ 3≤l.getD k 0):Zx l (k+1)=Zx l k:=by rw[Sg];unfold ovX;rw[if_neg h];simp
theorem overK_ok(l:List Int)(k:Nat):(Zx l k).Pairwise (fun a b=>a.1<b.1)∧∀ x∈Zx l k,0≤x.1∧x.1<k∧x.2.1.length=4:=by
 induction k with
 | zero=>simp[Zx]
 | succ k ih =>
  by_cases h3:3≤l.getD k 0
  ·rw[Wf h3]
   refine⟨List.pairwise_append.2 ⟨ih.1,by simp,fun a ha b hb=>?_⟩,fun x hx=>?_⟩
   ·simp only[List.mem_singleton] at hb;subst hb;exact(ih.2 a ha).2.1
   ·rcases List.mem_append.1 hx with h|h
    ·have:=ih.2 x h;exact⟨this.1,by have:=this.2.1;omega,this.2.2⟩
    ·simp only[List.mem_singleton] at h;subst h;exact⟨Int.natCast_nonneg _,by show(k:Int)<((k+1:Nat):Int);omega,Zm _ _⟩
  ·rw[Wq h3]
   exact⟨ih.1,fun x hx=>by have:=ih.2 x hx;exact⟨this.1,by have:=this.2.1;omega,this.2.2⟩⟩
theorem Mf(l:List Int)(k:Nat):(Zx l k).length≤k:=by
 induction k with
 | zero=>simp[Zx]
 | succ k ih =>
  by_cases h3:3≤l.getD k 0
  ·rw[Wf h3];simp;exact ih
  ·rw[Wq h3];omega
theorem Mr{l:List Ent}{i:Nat}(h:i<l.length):l.getD i Vt=l[i]:=by simp[List.getD,h]
theorem Ma(l:List Int)(k:Nat)(hk:k≤65536):EntsOk 4 (Zx l k):=by
 have h:=overK_ok l k
 refine⟨fun i hi=>?_,fun j hj=>?_,fun i hi=>?_⟩
 ·rw[Mr hi];have:=h.2 _ (List.getElem_mem hi);omega
 ·rw[Mr hj,Mr (by omega)];exact List.pairwise_iff_getElem.1 h.1 j (j+1) (by omega) hj (by omega)
 ·rw[Mr hi];exact(h.2 _ (List.getElem_mem hi)).2.2
def Uk(n:Int):Prop:=0≤n∧n≤2147483647
instance (n:Int):Decidable (Uk n):=by unfold Uk;infer_instance
def Kt(l:List Int):Int:=if 65536<l.length then 1 else if ∀ k,k<l.length→Uk (l.getD k 0) then 0 else 2
theorem Ew{l:List Int}(h:Kt l=0):l.length≤65536∧∀ k,k<l.length→Uk (l.getD k 0):=by
 unfold Kt at h
 split at h
 ·simp at h
 ·split at h
  ·exact⟨by omega,by assumption⟩
  ·simp at h
def Gz(l:List Int)(i:Nat):List Int:=(l.drop (i*960)).take 960
def Xn(l:List Int)(n:Nat):List (List Int):=(List.range n).map (Gz l)
theorem Js(l:List Int)(n:Nat):(Xn l n).length=n:=by simp[Xn]
theorem Zb5{l:List Int}{n i:Nat}(h:i<n):(Xn l n).getD i []=Gz l i:=by simp[Xn,List.getD,h]
theorem Sq(l:List Int)(i:Nat):(Gz l i).length=min 960 (l.length-i*960):=by simp[Gz]
def Ux(l:List Int):Prop:=∀ n∈l,0≤n∧n≤3
theorem small_ok{l:List Int}(h:∀ k,k<l.length→Uk (l.getD k 0)):Ux (Zu l):=by
 intro n hn
 obtain⟨m,hm,rfl⟩:=List.mem_map.1 hn
 obtain⟨k,hk,rfl⟩:=List.getElem_of_mem hm
 have:=h k hk
 rw[show l.getD k 0=l[k] from by simp[List.getD,hk]] at this
 unfold Uk at this
 unfold mn3;split<;>omega
theorem Zba{l:List Int}(h:Ux l)(i:Nat):Ux (Gz l i):=fun n hn=>h n (List.mem_of_mem_drop (List.mem_of_mem_take hn))
def atI (l:List Int)(i j:Nat):Int:=if j<i then l.getD j 0 else 0
def g4 (l:List Int)(i k:Nat):Int:=atI l i (4*k)+4*atI l i (4*k+1)+16*atI l i (4*k+2)+64*atI l i (4*k+3)
def g4B (l:List Int)(i k:Nat):UInt8:=UInt8.ofNat (g4 l i k).toNat
def Mc(l:List Int)(i:Nat):Bl:=leB l.length 4++(List.range 240).map (g4B l i)
theorem Ju(l:List Int)(i:Nat):(Mc l i).length=244:=by simp[Mc,Zm]
def Rj(l:List Int):Bl:=Mc l l.length
def Zgp(l:List Int)(k:Nat):Nat:=((l.take k).filter fun n=>n==0).length
def Yi(l:List Int):Nat:=Zgp l l.length
def Xj(l:List Int):Nat:=l.findIdx fun n=>n==0
theorem Zhf{l:List Int}{k:Nat}(h:k<l.length):Zgp l (k+1)=Zgp l k+(if l.getD k 0=0 then 1 else 0):=by
 unfold Zgp
 rw[List.take_succ_eq_append_getElem h,List.filter_append,List.length_append]
 simp only[List.getD,List.getElem?_eq_getElem h,Option.getD_some]
 by_cases e:l[k]=0<;>simp[e]
theorem Da(l:List Int)(k:Nat):Zgp l k≤k:=Nat.le_trans (List.length_filter_le _ _) (by simp;omega)
theorem Dm(l:List Int):Xj l≤l.length:=List.findIdx_le_length
theorem firstN_at{l:List Int}{i:Nat}(h:i<l.length)(h0:l.getD i 0=0)(hp:∀ j,j<i→l.getD j 0≠0):Xj l=i:=by
 unfold Xj
 refine(List.findIdx_eq h).2 ⟨?_,fun j hj=>?_⟩
 ·rw[List.getD,List.getElem?_eq_getElem h] at h0;simpa using h0
 ·have:=hp j hj
  rw[List.getD,List.getElem?_eq_getElem (by omega)] at this;simpa using this
theorem Zcx{l:List Int}(hp:∀ j,j<l.length→l.getD j 0≠0):Xj l=l.length:=by
 unfold Xj
 rw[List.findIdx_eq_length]
 intro n hn
 obtain⟨k,hk,rfl⟩:=List.getElem_of_mem hn
 have:=hp k hk
 rw[List.getD,List.getElem?_eq_getElem hk] at this;simpa using this
def slotB(n f g:Int):Bl:=leB n 8++leB f 4++leB g 4
theorem slotB_len(n f g:Int):(slotB n f g).length=16:=by simp[slotB,Zm]
def Kj(L:List (List Int))(q:Nat)(bs:Bl):Nat→Bl
 | 0=>bs
 | i+1=>Vu (Kj L q bs i) ((q+i)*256) (Xw 3 ((q+i:Nat):Int) (Rj (L.getD i [])))
def Ze8(L:List (List Int))(q i:Nat):Ent:=((i:Int),slotB ((q+i:Nat):Int) (Yi (L.getD i []):Int) (Xj (L.getD i []):Int),0)
def Xz(L:List (List Int))(q j:Nat):List Ent:=(List.range j).map (Ze8 L q)
theorem Jd(L:List (List Int))(q j:Nat):(Xz L q j).length=j:=by simp[Xz]
theorem Zb7(L:List (List Int))(q j:Nat):Xz L q (j+1)=Xz L q j++[Ze8 L q j]:=by simp[Xz,List.range_succ]
theorem Wr{L:List (List Int)}{q j i:Nat}(h:i<j):(Xz L q j).getD i Vt=Ze8 L q i:=by simp[Xz,List.getD,h]
theorem So(L:List (List Int))(q j:Nat)(hj:j≤65536):EntsOk 16 (Xz L q j):=by
 refine⟨fun i hi=>?_,fun i hi=>?_,fun i hi=>?_⟩<;>rw[Jd] at hi
 ·rw[Wr hi];simp only[Ze8];omega
 ·rw[Wr hi,Wr (by omega)];simp only[Ze8];omega
 ·rw[Wr hi];exact slotB_len _ _ _
def Ad(l:List Int)(q:Nat)(bs:Bl):Int×Int×Bl :=
 let L:=Xn (Zu l) (bmN l.length)
 let x:=Yo 4 (Xz L q (bmN l.length)) (q+bmN l.length) (Kj L q bs (bmN l.length))
 let y:=Yo 5 (Zx l l.length) (q+bmN l.length+Xq 4 (bmN l.length)) x.2
 (x.1,y.1,y.2)
def Uf(l:List Int):Nat:=bmN l.length+Xq 4 (bmN l.length)+Xq 5 (Zx l l.length).length
theorem Om{l:List Int}(h:Ux l)(i j:Nat):0≤atI l i j∧atI l i j≤3:=by
 unfold atI
 split
 ·by_cases hj:j<l.length
  ·rw[show l.getD j 0=l[j] from by simp[List.getD,hj]];exact h _ (List.getElem_mem hj)
  ·rw[show l.getD j 0=0 from by simp[List.getD,Nat.le_of_not_lt hj]];omega
 ·omega
theorem Nb{l:List Int}(h:Ux l)(j:Nat):0≤l.getD j 0∧l.getD j 0≤3:=by
 have:=Om h (j+1) j
 unfold atI at this
 rwa [if_pos (by omega)] at this
theorem Kw{l:List Int}{i j:Nat}(h:j≠i):atI l (i+1) j=atI l i j:=by
 unfold atI
 by_cases q:j<i
 ·rw[if_pos q,if_pos (by omega)]
 ·rw[if_neg q,if_neg (by omega)]
theorem Zdp(l:List Int)(i:Nat):atI l (i+1) i=l.getD i 0:=by unfold atI;rw[if_pos (by omega)]
theorem Pi{l:List Int}{i j:Nat}(h:i≤j):atI l i j=0:=by unfold atI;rw[if_neg (by omega)]
theorem g4_ne{l:List Int}{i k:Nat}(h:k≠i/4):g4 l (i+1) k=g4 l i k:=by
 unfold g4
 rw[Kw (by omega),Kw (by omega),Kw (by omega),Kw (by omega)]
theorem g4_at{l:List Int}(h:Ux l){i q r:Nat}(hi:i=4*q+r)(hr:r<4):g4 l (i+1) q=g4 l i q+l.getD i 0*4 ^ r∧0≤g4 l i q∧g4 l i q<4 ^ r:=by
 have b0:=Om h i (4*q)
 have b1:=Om h i (4*q+1)
 have b2:=Om h i (4*q+2)
 have b3:=Om h i (4*q+3)
 unfold g4
 obtain rfl|rfl|rfl|rfl:r=0∨r=1∨r=2∨r=3:=by omega
 ·rw[show 4*q=i from by omega,Zdp,Kw (by omega),Kw (by omega),Kw (by omega),Pi (Nat.le_refl i),Pi (Nat.le_add_right i 1),Pi (Nat.le_add_right i 2),Pi (Nat.le_add_right i 3)]
  omega
 ·have e2:atI l i (4*q+2)=0:=Pi (by omega)
  have e3:atI l i (4*q+3)=0:=Pi (by omega)
  have e1:atI l i (4*q+1)=0:=Pi (by omega)
  rw[Kw (j:=4*q) (by omega),Kw (j:=4*q+2) (by omega),Kw (j:=4*q+3) (by omega),e1,e2,e3,←hi,Zdp]
  omega
 ·have e2:atI l i (4*q+2)=0:=Pi (by omega)
  have e3:atI l i (4*q+3)=0:=Pi (by omega)
  rw[Kw (j:=4*q) (by omega),Kw (j:=4*q+1) (by omega),Kw (j:=4*q+3) (by omega),e2,e3,←hi,Zdp]
  omega
 ·have e3:atI l i (4*q+3)=0:=Pi (by omega)
  rw[Kw (j:=4*q) (by omega),Kw (j:=4*q+1) (by omega),Kw (j:=4*q+2) (by omega),e3,←hi,Zdp]
  omega
theorem g4B_at{l:List Int}(h:Ux l){i:Nat}:((g4B l (i+1) (i/4)).toNat:Int)=((g4B l i (i/4)).toNat:Int)+l.getD i 0*4 ^ (i%4)∧(g4B l i (i/4)).toNat<4 ^ (i%4):=by
 obtain⟨h1,h2,h3⟩:=g4_at h (show i=4*(i/4)+i%4 by omega) (by omega)
 have hn:=Nb h i
 have hp:(4:Int) ^ (i%4)≤64:=by
  have:i%4<4:=by omega
  obtain e|e|e|e:i%4=0∨i%4=1∨i%4=2∨i%4=3:=by omega
  all_goals rw[e];decide
 have a2:(0:Int)<4 ^ (i%4):=Int.pow_pos (by decide)
 generalize hP:(4:Int) ^ (i%4)=Pq at *
 have hq:l.getD i 0*Pq≤3*Pq:=Int.mul_le_mul_of_nonneg_right hn.2 (by omega)
 have a1:0≤l.getD i 0*Pq:=Int.mul_nonneg hn.1 (by omega)
 generalize l.getD i 0*Pq=M at *
 have a0:((4 ^ (i%4):Nat):Int)=Pq:=by rw[←hP];simp
 unfold g4B
 rw[UInt8.toNat_ofNat',UInt8.toNat_ofNat',h1]
 omega
def Iu(gs:List (Nat×Nat))(L:List (List Int))(i:Nat):Value:=.slice (some ⟨(gs.getD i (0,0)).1,0,none⟩) (L.getD i []).length (gs.getD i (0,0)).2
structure Lists(w:World)(base:Nat)(v:Value)(gs:List (Nat×Nat))(L:List (List Int)):Prop where
 row:w.ownsRow base 28 1 v L.length ((List.range L.length).map (Iu gs L))
 each:∀ i,i<L.length→w.ownsRow base 3 1 (Iu gs L i) (L.getD i []).length ((L.getD i []).map (Value.int .i64))
theorem Lists.below{w W:World}{base:Nat}{v:Value}{gs:List (Nat×Nat)}{L:List (List Int)}(h:Lists w base v gs L)(hb:B3 w W):Lists W base v gs L:=⟨Zb h.row hb,fun i hi=>Zb (h.each i hi) hb⟩
theorem Lists.only{T:List TypeId}{w W:World}{base:Nat}{v:Value}{gs:List (Nat×Nat)}{L:List (List Int)}(h:Lists w base v gs L)(hO:Zg T w W)(hT:T.contains 28=false∧T.contains 3=false):Lists W base v gs L:=⟨Zr h.row hO hT.1,fun i hi=>Zr (h.each i hi) hO hT.2⟩
theorem Lists.elem{w:World}{base:Nat}{p:O0}{n c:Nat}{gs:List (Nat×Nat)}{L:List (List Int)}(h:Lists w base (.slice p n c) gs L)(hn:L.length=n){k:Nat}(hk:k<n):p.isSome=true∧w.cell? (Xe p (k*1))=some (Iu gs L k):=by
 subst hn
 rw[Nat.mul_one]
 exact Sl.elem (Zd h.row) (by simp[hk])
theorem Lists.mono{w:World}{base base':Nat}{v:Value}{gs:List (Nat×Nat)}{L:List (List Int)}(h:Lists w base' v gs L)(hb:base≤base'):Lists w base v gs L:=⟨Ze h.row hb,fun i hi=>Ze (h.each i hi) hb⟩
def FrB (B:Nat)(S:List Nat)(w W:World):Prop:=w.heap.size≤W.heap.size∧∀ k,k<B→k∉S→W.heap[k]? = w.heap[k]?
theorem Fr.trans_B{S S':List Nat}{a w W:World}(h:Fr S a w)(k:FrB a.heap.size S' w W)(hs:∀ k∈S',k∈S):Fr S a W:=⟨Nat.le_trans h.size k.1,fun i hi hn=>(k.2 i hi fun q=>hn (hs i q)).trans (h.block i hi hn)⟩
theorem or_step:∀ r:Fin 4,∀ n:Fin 4,∀ o:Fin 64,o.val<4 ^ r.val→o.val ||| (n.val*4 ^ r.val)=o.val+n.val*4 ^ r.val:=by decide
theorem getD_app{P Q:Bl}{k i:Nat}(hk:P.length=k):(P++Q).getD (k+i) 0=Q.getD i 0:=by
 subst hk
 simp[List.getD,List.getElem?_append_right]
theorem getD_hd{P Q:Bl}{i:Nat}(hi:i<P.length):(P++Q).getD i 0=P.getD i 0:=by
 simp[List.getD,List.getElem?_append_left hi]
theorem Kf{P Q:Bl}{k w:Nat}{x:Int}(hk:P.length=k)(h0:0≤x)(hb:x.toNat<256 ^ w):(Zh (P++(leB x w++Q)) k w:Int)=x:=by
 rw[Wx w k x.toNat,Nat.mod_eq_of_lt hb]
 ·omega
 ·intro i hi
  rw[getD_app hk,getD_hd (by rw[Zm];exact hi)]
  simp[leB,Zt,List.getD,List.getElem?_range hi]
theorem An{P Q:Bl}{k:Nat}(hk:P.length=k):(P++Q).drop k=Q:=List.drop_left' hk
theorem Oe(n m:Nat):Qf ((List.replicate n (0:UInt8)).take m)=true:=by
 unfold Qf;rw[List.all_eq_true]
 intro x hx
 have:=List.mem_of_mem_take hx
 rw[(List.mem_replicate.1 this).2];rfl
theorem Ff(K:List Int)(n j:Nat):∀ d,∃ X,Yv K n (j+d)=Yv K n j++X
 | 0=>⟨[],by simp⟩
 | d+1=>by
  obtain⟨X,hX⟩:=Ff K n j d
  exact⟨_,by rw[←Nat.add_assoc,Ve,hX,List.append_assoc]⟩
theorem Ft(Vs:List Bl)(j:Nat):∀ d,∃ X,Qu Vs (j+d)=Qu Vs j++X
 | 0=>⟨[],by simp⟩
 | d+1=>by
  obtain⟨X,hX⟩:=Ft Vs j d
  exact⟨_,by rw[←Nat.add_assoc,Gn,hX,List.append_assoc]⟩
theorem Cf{l:Bl}:∀ {n:Nat},(∀ i,i<n→Pu l i=0)→Ye l n=0
 | 0,_=>rfl
 | n+1,h=>Qq (Cf fun i hi=>h i (by omega)) (h n (by omega))
theorem getD_ext{l l':List Int}(h:l.length=l'.length)(h2:∀ j,j<l.length→l.getD j 0=l'.getD j 0):l=l':=by
 apply List.ext_getElem h
 intro j h3 h4
 have:=h2 j h3
 simpa [List.getD,h3,h4] using this
theorem getD_extV{l l':List Bl}(h:l.length=l'.length)(h2:∀ j,j<l.length→l.getD j []=l'.getD j []):l=l':=by
 apply List.ext_getElem h
 intro j h3 h4
 have:=h2 j h3
 simpa [List.getD,h3,h4] using this
structure NodBack(b:List UInt8)(t:Int)(leaf:Bool)(n m v:Nat)(K:List Int)(Vs:List (List UInt8)):Prop where
 len:b.length=244
 e:Yk b=0
 t:Yx b=t
 l:Yb b=leaf
 c:Xf b=n
 k:Vy b n=K
 v:Vx b n=Vs
theorem Zd3{t:Int}{leaf:Bool}{n m v:Nat}{K:List Int}{Vs:List Bl}(N:NodeOk t leaf n m v K Vs):NodBack (Jy m v (Vv t leaf n m v) K Vs n) t leaf n m v K Vs:=by
 have b0:=Qh t leaf
 rw[N.hm] at b0
 have a9:=Ez t leaf
 rw[N.hv] at a9
 have a2:=fitN t leaf
 rw[N.hm,N.hv] at a2
 have a7:=N.ht1
 have a8:=N.ht2
 have a4:=N.hn
 have a0:=Sf (H:=Vv t leaf n m v) (K:=K) (Vs:=Vs) (Vk _ _ _ _ _) a2 a4 (fun j hj=>N.hw j hj)
 have a3:=Fs (H:=Vv t leaf n m v) (K:=K) (Vs:=Vs) (Vk _ _ _ _ _) a2 a4 (fun j hj=>N.hw j hj)
 generalize Jy m v (Vv t leaf n m v) K Vs n=b at a0 a3
 obtain⟨R,hR⟩:∃ R,b=Vv t leaf n m v++R:=⟨_,by rw[a0,List.append_assoc,List.append_assoc]⟩
 have b1:=Ts leaf
 have r0:(Zh b 0 1:Int)=Gs leaf:=by
  rw[hR,Vv];simp only[List.append_assoc]
  exact Kf (P:=[]) (k:=0) (w:=1) (x:=Gs leaf) rfl b1.1 (Nat.lt_of_le_of_lt (show(Gs leaf).toNat≤255 by omega) (by decide))
 have r1:(Zh b 1 1:Int)=t:=by
  rw[hR,Vv];simp only[List.append_assoc]
  exact Kf (P:=leB (Gs leaf) 1) (by rw[Zm]) (by omega) (by omega)
 have r2:(Zh b 2 2:Int)=(n:Int):=by
  rw[hR,Vv];simp only[List.append_assoc]
  rw[←List.append_assoc]
  exact Kf (P:=leB (Gs leaf) 1++leB t 1) (by simp[Zm]) (by omega) (by omega)
 have r4:(Zh b 4 2:Int)=(v:Int):=by
  rw[hR,Vv];simp only[List.append_assoc]
  rw[←List.append_assoc,←List.append_assoc]
  exact Kf (P:=leB (Gs leaf) 1++leB t 1++leB (n:Int) 2) (by simp[Zm]) (by omega) (by omega)
 have r6:(Zh b 6 2:Int)=(m:Int):=by
  rw[hR,Vv];simp only[List.append_assoc]
  rw[←List.append_assoc,←List.append_assoc,←List.append_assoc]
  exact Kf (P:=leB (Gs leaf) 1++leB t 1++leB (n:Int) 2++leB (v:Int) 2) (by simp[Zm]) (by omega) (by omega)
 have r8:(Zh b 8 4:Int)=0:=by
  rw[hR,Vv];simp only[List.append_assoc]
  rw[←List.append_assoc,←List.append_assoc,←List.append_assoc,←List.append_assoc]
  exact Kf (P:=leB (Gs leaf) 1++leB t 1++leB (n:Int) 2++leB (v:Int) 2++leB (m:Int) 2) (by simp[Zm]) (by omega) (by decide)
 have eT:Yx b=t:=r1
 have eL:Yb b=leaf:=by
  unfold Yb;rw[r0];cases leaf<;>rfl
 have eC:Xf b=n:=by unfold Xf;omega
 have eW:Xg b=v:=by unfold Xg;rw[eT,eL,widG,if_pos ⟨a7,a8⟩];exact N.hv
 have eM:Xh b=m:=by unfold Xh;rw[eT,eL,Zfy,if_pos ⟨a7,a8⟩];exact N.hm
 have a1:∀ i,i<n→(Cu b i:Int)=K.getD i 0:=by
  intro i hi
  obtain⟨X,hX⟩:=Ff K n (i+1) (m-(i+1))
  rw[show i+1+(m-(i+1))=m by omega,Ve,if_pos hi] at hX
  unfold Cu
  rw[a0,hX]
  have hk:=N.hk0 i hi
  have:=Kf (P:=Vv t leaf n m v++Yv K n i) (Q:=X++(Qu Vs n++List.replicate (232-m*8-n*v) 0)) (k:=12+i*8) (w:=8) (x:=K.getD i 0) (by rw[List.length_append,Vk,Jh]) hk.1 (Nat.lt_of_le_of_lt (show(K.getD i 0).toNat≤281474976710655 by omega) (by decide))
  simp only[List.append_assoc] at this ⊢
  exact this
 have a5:∀ i,i<n→Cj b i=Vs.getD i []:=by
  intro i hi
  obtain⟨X,hX⟩:=Ft Vs (i+1) (n-(i+1))
  rw[show i+1+(n-(i+1))=n by omega,Gn] at hX
  have a6:(Qu Vs i).length=i*v:=Wo fun j hj=>N.hw j (by omega)
  unfold Cj
  rw[eM,eW,a0,hX]
  have:=An (P:=Vv t leaf n m v++Yv K n m++Qu Vs i) (Q:=Vs.getD i []++(X++List.replicate (232-m*8-n*v) 0)) (k:=12+m*8+i*v) (by rw[List.length_append,List.length_append,Vk,Jh,a6])
  simp only[List.append_assoc] at this ⊢
  rw[this]
  exact List.take_left' (N.hw i hi)
 have b2:n*v≤m*v:=Nat.mul_le_mul_right v a4
 refine⟨a3,?_,eT,eL,eC,?_,?_⟩
 ·have hs:Qv b=true:=by
   unfold Qv
   rw[eW,eM]
   refine decide_eq_true ⟨?_,by omega,by omega,by omega,by omega,by omega,?_⟩
   ·cases leaf<;>simp only[Gs] at r0<;>simp at r0<;>omega
   ·cases leaf with
    | true=>left;simp only[Gs] at r0;simp at r0;omega
    | false=>right;have:=N.hl rfl;omega
  have hz:Nv b=true:=by
   unfold Nv Fb Oc Ds
   rw[eC,eM,eW,Bool.and_eq_true]
   constructor
   ·have hk:=Jq K n (m-n)
    rw[show n+(m-n)=m by omega] at hk
    have:=An (P:=Vv t leaf n m v++Yv K n n) (Q:=List.replicate ((m-n)*8) 0++(Qu Vs n++List.replicate (232-m*8-n*v) 0)) (k:=12+n*8) (by rw[List.length_append,Vk,Jh])
    rw[a0,hk]
    simp only[List.append_assoc] at this ⊢
    rw[this,List.take_append_of_le_length (by rw[List.length_replicate];omega)]
    exact Oe _ _
   ·have a6:(Qu Vs n).length=n*v:=Wo fun j hj=>N.hw j hj
    have:=An (P:=Vv t leaf n m v++Yv K n m++Qu Vs n) (Q:=List.replicate (232-m*8-n*v) 0) (k:=12+m*8+n*v) (by rw[List.length_append,List.length_append,Vk,Jh,a6])
    rw[a0,this]
    exact Oe _ _
  unfold Yk
  rw[if_pos hs,if_pos hz,eC]
  refine Cf fun i hi=>?_
  have h1:=a1 i hi
  have h2:=N.hk0 i hi
  unfold Pu
  rw[if_neg (by omega),if_neg ?_]
  rintro⟨h3,h4⟩
  have h5:=a1 (i-1) (by omega)
  have h6:=N.hk1 (i-1) (by omega)
  rw[show i-1+1=i by omega] at h6
  omega
 ·exact getD_ext (by rw[Jw,N.hK]) fun j hj=>by rw[Jw] at hj;rw[La b hj];exact a1 j hj
 ·exact getD_extV (by rw[Fw,N.hV]) fun j hj=>by rw[Fw] at hj;rw[Es b hj];exact a5 j hj
theorem blk_back{t:Int}{leaf:Bool}{n m v:Nat}{K:List Int}{Vs:List Bl}(N:NodeOk t leaf n m v K Vs){l:Bl}{j len:Nat}(hl:l.length=len)(hj:j<len/256)(h4:j<14400)(hb:Qj l j=Xw 2 (j:Int) (Jy m v (Vv t leaf n m v) K Vs n))(tree:Int)(ht:tree=0∨t=tree) :
 Zy l (j:Int) tree=0∧inB l (j:Int)=Jy m v (Vv t leaf n m v) K Vs n:=by
 have B:=Zd3 N
 have a0:inB l (j:Int)=Jy m v (Vv t leaf n m v) K Vs n:=by
  rw[Zak (no:=(j:Int)) (j:=j) rfl,hb,in_seal (by rw[B.len];decide)]
  unfold Zaj;rw[B.len];simp
 refine⟨?_,a0⟩
 unfold Zy
 rw[Oj (no:=(j:Int)) (j:=j) hl rfl hj,hb,if_pos (Ol (by decide) (by decide) (by omega) (by omega) (by rw[B.len];decide)),a0]
 unfold Qc
 rw[if_pos B.e,if_pos (by rw[B.t];exact ht)]
theorem root_leB{q:Nat}(h1:1≤q)(h2:q≤14399):Xl (leB (q:Int) 4)=0∧(Xi (leB (q:Int) 4):Int)=(q:Int):=by
 have hr:(Zh (leB (q:Int) 4) 0 4:Int)=(q:Int):=by
  have:=Kf (P:=[]) (Q:=[]) (k:=0) (w:=4) (x:=(q:Int)) rfl (by omega) (Nat.lt_of_le_of_lt (show(q:Int).toNat≤14399 by omega) (by decide))
  simpa using this
 have he:Xl (leB (q:Int) 4)=0:=by
  unfold Xl;rw[if_pos (Zm _ _),if_pos (by omega)]
 exact⟨he,by unfold Xi;rw[if_pos he];exact hr⟩
theorem unp_put{ps:List Wg}{N:List Int}{C:Bl}:∀ k,k≤ps.length→(∀ i,i<k→0≤N.getD i 0∧(N.getD i 0).toNat<256 ^ (ps.getD i Ya).1) →
 Jk (Cv ps N k++C) 0 (Hs ps k)=(List.range k).map fun i=>(N.getD i 0).toNat:=by
 intro k
 induction k generalizing C with
 | zero=>intro _ _;rfl
 | succ k ih =>
  intro hk h
  have e:Cv ps N (k+1)++C=Cv ps N k++(leB (N.getD k 0) (ps.getD k Ya).1++C):=by rw[Mj,List.append_assoc]
  rw[Vl,Wa,e,ih (by omega) fun i hi=>h i (by omega),List.range_succ,List.map_append]
  congr 1
  have h2:=h k (by omega)
  have:=Kf (P:=Cv ps N k) (Q:=C) (k:=0+(Hs ps k).sum) (w:=(ps.getD k Ya).1) (x:=N.getD k 0) (by rw[Wk];omega) h2.1 h2.2
  simp only[List.map_cons,List.map_nil,List.cons.injEq,and_true]
  omega
theorem put_read{ps:List Wg}{N:List Int}(hp:Jn ps)(hN:N.length=ps.length)(h:Jz ps N ps.length=true):Xo ps (Cv ps N ps.length)=0∧∀ i,i<ps.length→(((Ja ps (Cv ps N ps.length)).getD i 0:Nat):Int)=N.getD i 0:=by
 have a0:=h
 unfold Jz at a0
 rw[List.all_eq_true] at a0
 have hb:∀ i,i<ps.length→0≤N.getD i 0∧(N.getD i 0).toNat<256 ^ (ps.getD i Ya).1:=fun i hi=>by
  have h1:=of_decide_eq_true (a0 i (List.mem_range.2 hi))
  have h2:=hp.2 i hi
  refine⟨by omega,?_⟩
  rcases h2.1 with h4|h8
  ·have:=h2.2.2.2 h4
   rw[h4,show(256:Nat) ^ 4=4294967296 from rfl];omega
  ·rw[h8,show(256:Nat) ^ 8=18446744073709551616 from rfl];omega
 have hr:Gp ps (Cv ps N ps.length)=(List.range ps.length).map fun i=>(N.getD i 0).toNat:=by
  have:=unp_put (ps:=ps) (N:=N) (C:=[]) ps.length (Nat.le_refl _) hb
  rw[List.append_nil] at this
  exact this
 have hg:∀ i,i<ps.length→(((Gp ps (Cv ps N ps.length)).getD i 0:Nat):Int)=N.getD i 0:=fun i hi=>by
  rw[hr]
  have:=(hb i hi).1
  simp only[List.getD,List.getElem?_map,List.getElem?_range hi,Option.map_some,Option.getD_some] at this ⊢
  omega
 have he:Xo ps (Cv ps N ps.length)=0:=by
  unfold Xo
  rw[if_pos (Wk _ _ _),if_pos]
  unfold Ua Jz
  rw[List.all_eq_true]
  intro i hi
  have hi:=List.mem_range.1 hi
  have e:((Gp ps (Cv ps N ps.length)).map fun n:Nat=>(n:Int)).getD i 0=N.getD i 0:=by
   rw[←hg i hi]
   simp[List.getD,show i<(Gp ps (Cv ps N ps.length)).length by rw[Ny];exact hi]
  rw[e]
  exact a0 i (List.mem_range.2 hi)
 refine⟨he,fun i hi=>?_⟩
 unfold Ja
 rw[if_pos he]
 exact hg i hi
def Zcc(m:Mp):Bl:=Cv Yz [m.2.1*16777216+m.2.2] 1
theorem mapV_len(m:Mp):(Zcc m).length=8:=by unfold Zcc;rw[Wk];rfl
def Me(n:Int)(d:Dv):Bl:=Cv detP [n,d.1.2.1,d.1.2.2.1,d.1.2.2.2] 4
theorem detVal_len(n:Int)(d:Dv):(Me n d).length=24:=by unfold Me;rw[Wk];rfl
def Pd(M:List Mp):List Ent:=M.map fun m=>(m.1,Zcc m,0)
theorem Kr(M:List Mp):(Pd M).length=M.length:=List.length_map ..
def dvD:Dv:=((0,0,0,0),[])
def Pw(L:List Dv)(R:Nat→Nat):List Ent:=(List.range L.length).map fun i=>((L.getD i dvD).1.1,leB (R i:Int) 4,0)
def Mx(L:List Dv)(C:Nat→Int):List Ent:=(List.range L.length).map fun i=>((L.getD i dvD).1.1,Me (C i) (L.getD i dvD),0)
theorem Kl(L:List Dv)(R:Nat→Nat):(Pw L R).length=L.length:=by simp[Pw]
theorem Kk(L:List Dv)(C:Nat→Int):(Mx L C).length=L.length:=by simp[Mx]
theorem Uy{L:List Dv}{R:Nat→Nat}{i:Nat}(h:i<L.length):(Pw L R).getD i Vt=((L.getD i dvD).1.1,leB (R i:Int) 4,0):=by simp[Pw,List.getD,List.getElem?_range h]
theorem Uu{L:List Dv}{C:Nat→Int}{i:Nat}(h:i<L.length):(Mx L C).getD i Vt=((L.getD i dvD).1.1,Me (C i) (L.getD i dvD),0):=by simp[Mx,List.getD,List.getElem?_range h]
theorem Uj{M:List Mp}{i:Nat}(h:i<M.length):(Pd M).getD i Vt=((M.getD i (0,0,0)).1,Zcc (M.getD i (0,0,0)),0):=by simp[Pd,List.getD,h]
theorem Zec{data:Int}{M:List Mp}(h:MapsOk data M):EntsOk 8 (Pd M):=by
 refine⟨fun i hi=>?_,fun j hj=>?_,fun i hi=>?_⟩
 ·rw[Kr] at hi
  rw[Uj hi]
  have:=h.each (M.getD i (0,0,0)) (by simp[List.getD,hi])
  exact this.1
 ·rw[Kr] at hj
  rw[Uj (by omega),Uj hj]
  have:=List.pairwise_iff_getElem.1 h.rise j (j+1) (by omega) hj (by omega)
  simpa [List.getD,hj,show j<M.length by omega] using this
 ·rw[Kr] at hi
  rw[Uj hi];exact mapV_len _
theorem Zc7{data:Int}{L:List Dv}(h:DevsOk data L):(∀ i,i<L.length→0≤(L.getD i dvD).1.1∧(L.getD i dvD).1.1≤281474976710655)∧∀ j,j+1<L.length→(L.getD j dvD).1.1<(L.getD (j+1) dvD).1.1:=by
 refine⟨fun i hi=>?_,fun j hj=>?_⟩
 ·have:=(h.each (L.getD i dvD) (by simp[List.getD,hi])).id;omega
 ·have:=List.pairwise_iff_getElem.1 h.rise j (j+1) (by omega) hj (by omega)
  simpa [List.getD,hj,show j<L.length by omega] using this
theorem Zdw{data:Int}{L:List Dv}{R:Nat→Nat}(h:DevsOk data L):EntsOk 4 (Pw L R):=by
 obtain⟨h1,h2⟩:=Zc7 h
 refine⟨fun i hi=>?_,fun j hj=>?_,fun i hi=>?_⟩
 ·rw[Kl] at hi
  rw[Uy hi];exact h1 i hi
 ·rw[Kl] at hj
  rw[Uy (by omega),Uy hj];exact h2 j hj
 ·rw[Kl] at hi
  rw[Uy hi];exact Zm _ _
theorem detEs_ok{data:Int}{L:List Dv}{C:Nat→Int}(h:DevsOk data L):EntsOk 24 (Mx L C):=by
 obtain⟨h1,h2⟩:=Zc7 h
 refine⟨fun i hi=>?_,fun j hj=>?_,fun i hi=>?_⟩
 ·rw[Kk] at hi
  rw[Uu hi];exact h1 i hi
 ·rw[Kk] at hj
  rw[Uu (by omega),Uu hj];exact h2 j hj
 ·rw[Kk] at hi
  rw[Uu hi];exact detVal_len _ _
def LevelPost(B ba b g nn cc:Nat)(pa:O0)(ca f N k0:Nat)(bs:Bl)(t:Int)(leaf:Bool)(m v:Nat)(l:List Ent)(w:World)(e:Ending)(w':World):Prop :=
 ∃ p c,e=.returned (.tuple #[.slice p (ovN l.length m) c,.nilIface])∧Below B w w'∧Zg [128,5] w w'∧Fr [ba,g] w w'∧Al B ba b g nn cc pa ca f N (k0+ovN l.length m) (Zat t leaf m v l (f+k0) bs (ovN l.length m)) w'∧w'.ownsRow w.heap.size 192 3 (.slice p (ovN l.length m) c) (ovN l.length m) ((upE l m (f+k0) (ovN l.length m)).flatMap Ku)
theorem Zb0(B ba b g nn cc:Nat)(pa:O0)(ca f N k0:Nat)(bs:Bl)(t:Int)(leaf:Bool)(m v:Nat)(a:O0)(c:Nat)(l:List Ent)(w:World)(hC:AlC B ba nn cc ca f N)(hA:Al B ba b g nn cc pa ca f N k0 bs w)(ht1:1≤t)(ht2:t≤5)(hm:Qi t leaf=m)(hv:Ht t leaf=v)(E:EntsOk v l)(hl:leaf=false→1≤l.length)(hn:l.length≤32768)(hf1:1≤f)(hk:k0+ovN l.length m≤N)(hin:∀ W,Below B w W→Zg [128,5] w W→Sts Ku W (.slice a l.length c) l)(hBw:B≤w.heap.size) :
 C0 166 #[P0 ba,V0 t,.bool leaf,.slice a l.length c] w (LevelPost B ba b g nn cc pa ca f N k0 bs t leaf m v l w):=by
 have o2:=Qh t leaf
 rw[hm] at o2
 have q9:=hC.hf
 have q6:=hC.hn
 refine zin 96 Tryz.func166 ?_
 refine xr 18 (args:=#[V0 t,.bool leaf]) (Dr t leaf m hm ht1 ht2 _) fun W1 h8=>?_
 refine xc 0 (args:=#[V0 (l.length:Int),V0 (m:Int)]) (Zg6 l.length m _ hn (by omega) (by omega)) ?_
 rintro _ W2 ⟨_,rfl,i6,ps,cs,rfl,e5⟩
 have m7:=(blB (Below.refl B w) hBw h8).size
 have f7:=Ze e5 m7
 have j8:=(hA.below h8).below i6
 have hB:=blB (blB (Below.refl B w) hBw h8) hBw i6
 have hX:=(show Fr [ba,g] w _ from(Fr.of_below h8)).trans (Fr.of_below i6)
 have hO:=(show Zg [128,5] w _ from(Zg.of_below h8)).trans (Zg.of_below i6)
 refine zl 5 96 (fun zm k9 V=>∃ (i:Nat) (a2:O0) (c2:Nat) (l2:List Ent) (p4:O0) (c4:Nat),k9=[(0,P0 ba),(1,V0 t),(2,.bool leaf),(3,.slice a2 l2.length c2),(10,.slice p4 i c4),(26,.slice ps (ovN l.length m) cs),(27,V0 (↑(ovN l.length m):Int)),(28,V0 (i:Int))]∧zm=ovN l.length m-((i:Int)).toNat∧Below B w V∧Fr [ba,g] w V∧Zg [128,5] w V∧V.ownsRow w.heap.size 3 1 (.slice ps (ovN l.length m) cs) (ovN l.length m) ((sizL l.length m).map nv)∧V.ownsRow w.heap.size 192 3 (.slice p4 i c4) i ((upE l m (f+k0) i).flatMap Ku)∧Al B ba b g nn cc pa ca f N (k0+i) (Zat t leaf m v l (f+k0) bs i) V∧(∀ W,Below B w W→Zg [128,5] w W→Sts Ku W (.slice a2 l2.length c2) l2)∧i≤ovN l.length m∧l2=l.drop (i*m)) ⟨0,a,c,l,none,0,rfl,rfl,hB,hX,hO,f7,World.ownsRow_nil _ _ _ _,j8,?_,Nat.zero_le _,by simp⟩ ?_
 ·exact hin
 rintro _ _ W3 ⟨i,a2,c2,l2,p4,c4,rfl,rfl,d7,h5,e2,e5,l9,hA,j1,hi,f1⟩ J3 m2 r3
 have m3:=Sl.cap (j1 _ d7 e2)
 have q8:i<ovN l.length m→i*m≤l.length:=siz_le (by omega)
 have l0:l2.length=l.length-i*m:=by rw[f1];simp
 have g1:Ks l.length m i≤l2.length:=by rw[l0];unfold Ks;omega
 refine xid 6 ((i:Int)<(↑(ovN l.length m):Int)) (fun n0=>?_) (fun n0=>?_)
 ·refine xx 6 _ (ovN l.length m) i 1 (Zds (Zd e5) (k:=i) (by omega)).1 ?_
  refine xl 0 ((Zds (Zd e5) (k:=i) (by omega)).2) ?_
  have i3:=d7
  have d4:=e2
  have d1:=h5
  refine xa 8 [V0 0,.bool false,S0,S0] 140 fun b6 W6 n6=>?_
  refine xsv 0 n6.blk [V0 t,.bool leaf,S0,S0] fun W7 u7 k7=>?_
  have g6:=n6.ge (B4 W3)
  refine xsH 7 (fun _ _ _ _ zo zx zy V=>Qr (k:=(Ks l.length m i)) (b:=a2) (n:=l2.length) (c:=c2) (i:=(↑(Ks l.length m i):Int)) (ki:=.i64) zo zx zy rfl (by omega) Tryz.underlying187 (by kernel_rfl) V) ?_
  have hB:=u7.below n6.below g6
  refine zl 5 96 (fun zm k9 V=>∃ (j:Nat) (kp:O0) (kc:Nat) (vp:O0) (vc:Nat),k9=[(0,P0 ba),(1,V0 t),(2,.bool leaf),(3,.slice a2 l2.length c2),(10,.slice p4 i c4),(12,V0 (↑(Ks l.length m i):Int)),(13,P0 b6),(26,.slice ps (ovN l.length m) cs),(27,V0 (↑(ovN l.length m):Int)),(28,V0 (i:Int)),(37,.slice a2 (Ks l.length m i) c2),(38,V0 (↑(Ks l.length m i):Int)),(39,V0 (j:Int))]∧zm=Ks l.length m i-((j:Int)).toNat∧B3 W3 V∧Blk V b6 ([V0 t,.bool leaf,.slice kp j kc,.slice vp j vc]) 140∧V.ownsRow W3.heap.size 3 1 (.slice kp j kc) j (((Kb l2).take j).map V0)∧V.ownsRow W3.heap.size 9 1 (.slice vp j vc) j (((Hc l2).take j).map sv)∧j≤Ks l.length m i) ⟨0,none,0,none,0,rfl,rfl,hB,k7,World.ownsRow_nil _ _ _ _,World.ownsRow_nil _ _ _ _,Nat.zero_le _⟩ ?_
  rintro _ _ W8 ⟨j,kp,kc,vp,vc,rfl,rfl,c5,b3,hK,hV,hj⟩ J8 n4 r8
  refine xid 6 ((j:Int)<(↑(Ks l.length m i):Int)) (fun n8=>?_) (fun n8=>?_)
  ·have b0:=j1 _ i3 d4
   refine xx 6 _ (Ks l.length m i) j 3 (Sts.cell b0 Hh Vt (k:=j) (i:=0) (by omega) rfl).1 ?_
   refine xlv 0 (Sts.rp (k:=j) (b0.below c5) Hh Vt (by omega) (by decide)) ?_
   refine xa 0 [V0 0,.string ⟨#[]⟩,V0 0] 192 fun r1 o4 c3=>?_
   have n1:=c3.ge c5
   refine xsv 0 c3.blk [V0 ((l2.getD j Vt).1),.string ⟨((l2.getD j Vt).2.1).toArray⟩,V0 ((l2.getD j Vt).2.2)] fun o9 j0 m0=>?_
   have b2:=j0.blkT (b3.below c3.below) c3.blk (by decide)
   refine xb 5 2 b2 ?_
   refine xb 1 0 m0 ?_
   refine xbs 0 1 [V0 ((l2.getD j Vt).1)] 3 fun q7 o7 d5=>?_
   have h4:=j0.below (bln c5 c3.below) n1
   have p3:=d5.ge h4
   have h7:=j0.own2 (Zb hK c3.below) c3.blk (by decide)
   have k3:=Xa h7 d5
   have c7:=Zb h7 d5.below
   have g5:=bln h4 d5.below
   refine xbi 0 fun _ _ _ _ zJ zQ zo zx zy zK=>Zo (m:=1) (news:=[V0 ((l2.getD j Vt).1)]) (V0 0) 1 8 (j+1) (((Kb l2).take (j+1)).map V0) zo Tryz.underlying28 (by kernel_rfl) rfl (by decide) zx c7 zy (d5.blk.sl 1 1 (by decide) (by decide)) rfl (by simp[Value.oneCell']) (by unfold maxLen;omega) (by omega) g5.size (by rfl) ((keys_take (by omega)).symm) fun f3 f6 o8 n5 e0 k4=>?_
   refine zK _ _ ?_
   have a1:=(b2.below d5.below).grown e0 c7 (by decide)
   refine xs 1 a1 [V0 t,.bool leaf,.slice f3 (j+1) f6,.slice vp j vc] fun o5 i7 l8=>?_
   refine xb 4 3 l8 ?_
   have g9:=i7.blkT ((m0.below d5.below).grown e0 c7 (by decide)) a1 (by decide)
   refine xb 1 1 g9 ?_
   refine xbs 0 1 [.string ⟨((l2.getD j Vt).2.1).toArray⟩] 9 fun r2 r5 e4=>?_
   have e7:=i7.below (g5.trans k4) g6
   have p0:=e4.ge e7
   have i0:=i7.own2 (Xc (Zb (j0.own2 (Zb hV c3.below) c3.blk (by decide)) d5.below) e0 c7 (by decide)) a1 (by decide)
   have j4:=Xa i0 e4
   have e1:=Zb i0 e4.below
   have f9:=bln e7 e4.below
   refine xbi 0 fun _ _ _ _ zJ zQ zo zx zy zK=>Zo (m:=1) (news:=[.string ⟨((l2.getD j Vt).2.1).toArray⟩]) (.string ⟨#[]⟩) 1 16 (j+1) (((Hc l2).take (j+1)).map sv) zo Tryz.underlying60 (by kernel_rfl) rfl (by decide) zx e1 zy (e4.blk.sl 1 1 (by decide) (by decide)) rfl (by simp[Value.oneCell']) (by unfold maxLen;omega) (by omega) f9.size (by rfl) ((vals_take (by omega)).symm) fun j3 k2 p5 m8 h0 j5=>?_
   refine zK _ _ ?_
   have b4:=(l8.below e4.below).grown h0 e1 (by decide)
   refine xs 1 b4 [V0 t,.bool leaf,.slice f3 (j+1) f6,.slice j3 (j+1) k2] fun q5 j7 n7=>?_
   refine xwm 4 ((j:Int)+1) (↑(j+1):Int) ?_
   have k8:=j7.below (f9.trans j5) g6
   have e9:=j7.own2 (Xc (Zb (i7.own2 n5 a1 (by decide)) e4.below) h0 e1 (by decide)) b4 (by decide)
   have h3:=j7.own2 m8 b4 (by decide)
   exact ze 2 (n4 _ _ _ ⟨j+1,_,_,_,_,rfl,rfl,k8,n7,e9,h3,by omega⟩ (by omega))
  refine xsL 9 (fun _ _ _ _ zo zx zy V=>Yl (k:=(Ks l.length m i)) (b:=a2) (n:=l2.length) (c:=c2) (i:=(↑(Ks l.length m i):Int)) (ki:=.i64) 3 zo zx zy rfl (by omega) Tryz.underlying187 (by kernel_rfl) V) ?_
  refine xlv 5 b3.rp ?_
  have a5:B3 W3 W8:=c5
  have g2:w.heap.size≤W3.heap.size:=i3.size
  have g7:Ks l.length m i=j:=by omega
  have n2:(Kb l2).take j=Kb (Xm l m i):=by rw[f1];exact Zg0 g7
  have m9:(Hc l2).take j=Hc (Xm l m i):=by rw[f1];exact Zfm g7
  have i8:(Xm l m i).length=j:=by rw[My,g7]
  have e3:=Ze hK g2
  rw[n2] at e3
  have f2:=Ze hV g2
  rw[m9] at f2
  have hN:=Ii E ht1 ht2 hm hv hl (show i<ovN l.length m by omega)
  have f5:=Dc hN
  rw[i8] at hN
  have m6:Jy m v (Vv t leaf j m v) (Kb (Xm l m i)) (Hc (Xm l m i)) j=Zc1 t leaf m v (Xm l m i):=by rw[←i8];rfl
  refine xc 0 (args:=#[.agg #[V0 t,.bool leaf,.slice kp j kc,.slice vp j vc]]) (node_Put t leaf j m v (Kb (Xm l m i)) (Hc (Xm l m i)) kp vp kc vc _ hN (Zd e3) (Zd f2)) ?_
  rintro _ r0 ⟨_,rfl,a4,p6,c6,rfl,h6⟩
  have l1:=(blB i3 hBw a5).size
  have i1:=Ze h6 l1
  rw[m6] at i1
  have l7:=(hA.below a5).below a4
  have hO:=(d4.trans (Zg.of_below a5)).trans (Zg.of_below a4)
  have hB:=blB (blB i3 hBw a5) hBw a4
  refine xc 21 (args:=#[P0 ba,V0 2,.slice p6 244 c6]) (Wi B ba b g nn cc pa ca f N (k0+i) (Zat t leaf m v l (f+k0) bs i) 2 p6 c6 (Zc1 t leaf m v (Xm l m i)) (f+k0+i) 244 _ (Nat.add_assoc _ _ _).symm f5 hC l7 (by omega) (by decide) (by decide) (fun W _ hO=>Yr (Zd (Zr i1 hO (by decide))) f5) (by decide) (Nat.le_trans hBw hB.size)) ?_
  rintro _ q2 ⟨rfl,l4,a9,f0,hA⟩
  refine xr 20 (args:=#[V0 (↑(f+k0+i):Int)]) (Su ((f+k0+i:Nat):Int) (by omega) (by omega) _) fun o3 a0=>?_
  refine xa 2 [V0 0,.string ⟨#[]⟩,V0 0] 192 fun q1 r4 a3=>?_
  have d8:=blB (hB.trans l4) hBw a0
  have c8:=a3.ge0 d8
  have b5:=Zb (Zr (Zb (Zb l9 a5) a4) a9 (by decide)) a0
  have a6:=Xa b5 a3
  refine xsv 0 a3.blk [V0 0,.string ⟨(leB (↑(f+k0+i):Int) 4).toArray⟩,V0 (↑(f+k0+i):Int)] fun p1 b1 i2=>?_
  refine xid 9 ((↑(Ks l.length m i):Int)>(0:Int)) (fun l6=>?_) (fun l6=>?_)
  ·have e8:((Kb (Xm l m i))).getD 0 0=((Xm l m i).getD 0 Vt).1:=chunk_key g7 (by omega)
   have c0:=b1.blkT ((((b3.below a4).only a9 (by decide)).below a0).below a3.below) a3.blk (by decide)
   refine xb 2 2 c0 ?_
   have g3:=b1.own2 (Zb (Zb (Zr (Zb e3 a4) a9 (by decide)) a0) a3.below) a3.blk (by decide)
   refine xx 0 _ j 0 1 (IntsN.elem (Zd g3) (by rw[Mq,i8]) (k:=0) (by omega)).1 ?_
   refine xl 0 ((IntsN.elem (Zd g3) (by rw[Mq,i8]) (k:=0) (by omega)).2) ?_
   refine xs 1 i2 [V0 ((Kb (Xm l m i)).getD 0 0),.string ⟨(leB (↑(f+k0+i):Int) 4).toArray⟩,V0 (↑(f+k0+i):Int)] fun q4 e6 m1=>?_
   refine xlv 4 m1.rp ?_
   refine xbs 0 1 [V0 ((Kb (Xm l m i)).getD 0 0),.string ⟨(leB (↑(f+k0+i):Int) 4).toArray⟩,V0 (↑(f+k0+i):Int)] 192 fun p2 r6 b7=>?_
   have i4:=b7.ne m1
   have f4:=e6.below (b1.below (blB d8 hBw a3.below) (Nat.le_trans hBw c8)) (Nat.le_trans hBw c8)
   have p8:=b7.ge0 f4
   have c9:=e6.own3 (b1.own3 (Zb b5 a3.below) a6) a6
   have j2:=Xa c9 b7
   have a8:=Zb c9 b7.below
   have h9:=blB f4 hBw b7.below
   refine xbi 0 fun _ _ _ _ zJ zQ zo zx zy zK=>Zo (m:=1) (news:=[V0 ((Kb (Xm l m i)).getD 0 0),.string ⟨(leB (↑(f+k0+i):Int) 4).toArray⟩,V0 (↑(f+k0+i):Int)]) (.agg #[V0 0,.string ⟨#[]⟩,V0 0]) 3 32 (i+1) ((upE l m (f+k0) (i+1)).flatMap Ku) zo Tryz.underlying187 (by kernel_rfl) rfl (by decide) zx a8 zy (b7.blk.sl 1 1 (by decide) (by decide)) rfl (by simp[Value.oneCell']) (by unfold maxLen;omega) (by omega) h9.size (by rfl) (up_row (by first|exact e8|exact d2)) fun o0 m5 p7 m4 b9 j9=>?_
   refine zK _ _ ?_
   refine xwm 5 ((i:Int)+1) (↑(i+1):Int) ?_
   refine xv1 2 3 (show(.slice (Ke a2 (Ks l.length m i) c2 3) (l2.length-(Ks l.length m i)) (c2-(Ks l.length m i)):Value)=.slice (Ke a2 (Ks l.length m i) c2 3) ((l2.drop (Ks l.length m i)).length) (c2-Ks l.length m i) from by rw[List.length_drop]) ?_
   have k5:=(((((hA.below a0).below a3.below).only (Zg.of_upd (T:=[192]) b1 a3.blk (by decide)) (by decide)).only (Zg.of_upd (T:=[192]) e6 i2 (by decide)) (by decide)).below b7.below).only (Zg.of_grown (T:=[192]) b9 a8 (by decide)) (by decide)
   have d9:l2.drop (Ks l.length m i)=l.drop ((i+1)*m):=by
    rw[f1,List.drop_drop,Nat.add_mul,Nat.one_mul]
    unfold Ks
    rcases Nat.le_total m (l.length-i*m) with q|q
    ·rw[Nat.min_eq_left q]
    ·rw[Nat.min_eq_right q,List.drop_eq_nil_of_le (by omega),List.drop_eq_nil_of_le (by omega)]
   have k1:=h9.trans (j9.mono hBw)
   have hX:=(Fr.grown_new ((Fr.upd_new (Fr.upd_new (((((d1.trans (Fr.of_below a5)).trans (Fr.of_below a4)).trans (f0.mono (by simp))).trans (Fr.of_below a0)).trans (Fr.of_below a3.below)) b1 c8) e6 c8).trans (Fr.of_below b7.below)) b9 a8)
   have k6:=(Zg.grown_new ((Zg.upd_new (Zg.upd_new (((hO.trans a9).trans (Zg.of_below a0)).trans (Zg.of_below a3.below)) b1 c8) e6 c8).trans (Zg.of_below b7.below)) b9 a8)
   have g0:=Xc (Zb (e6.own2 (b1.own2 (Zb (Zb (Zr (Zb (Zb e5 a5) a4) a9 (by decide)) a0) a3.below) a3.blk (by decide)) i2 (by decide)) b7.below) b9 a8 (by decide)
   exact ze 0 (m2 _ _ _ ⟨i+1,_,_,(l2.drop (Ks l.length m i)),_,_,rfl,rfl,k1,hX,k6,g0,m4,k5,fun W h1 h2=>Sts.cut Hh (j1 W h1 h2) _ g1,by omega,d9⟩ (by omega))
  have d2:(0:Int)=((Xm l m i).getD 0 Vt).1:=Zbf g7 (by omega)
  refine xlv 4 i2.rp ?_
  refine xbs 0 1 [V0 0,.string ⟨(leB (↑(f+k0+i):Int) 4).toArray⟩,V0 (↑(f+k0+i):Int)] 192 fun o6 q3 b8=>?_
  have i5:=b8.ne i2
  have d3:=b1.below (blB d8 hBw a3.below) (Nat.le_trans hBw c8)
  have q0:=b8.ge0 d3
  have d6:=b1.own3 (Zb b5 a3.below) a6
  have i9:=Xa d6 b8
  have a7:=Zb d6 b8.below
  have d0:=blB d3 hBw b8.below
  refine xbi 0 fun _ _ _ _ zJ zQ zo zx zy zK=>Zo (m:=1) (news:=[V0 0,.string ⟨(leB (↑(f+k0+i):Int) 4).toArray⟩,V0 (↑(f+k0+i):Int)]) (.agg #[V0 0,.string ⟨#[]⟩,V0 0]) 3 32 (i+1) ((upE l m (f+k0) (i+1)).flatMap Ku) zo Tryz.underlying187 (by kernel_rfl) rfl (by decide) zx a7 zy (b8.blk.sl 1 1 (by decide) (by decide)) rfl (by simp[Value.oneCell']) (by unfold maxLen;omega) (by omega) d0.size (by rfl) (up_row (by first|exact e8|exact d2)) fun o1 n3 p9 n9 c1 j6=>?_
  refine zK _ _ ?_
  refine xwm 5 ((i:Int)+1) (↑(i+1):Int) ?_
  refine xv1 2 3 (show(.slice (Ke a2 (Ks l.length m i) c2 3) (l2.length-(Ks l.length m i)) (c2-(Ks l.length m i)):Value)=.slice (Ke a2 (Ks l.length m i) c2 3) ((l2.drop (Ks l.length m i)).length) (c2-Ks l.length m i) from by rw[List.length_drop]) ?_
  have l5:=((((hA.below a0).below a3.below).only (Zg.of_upd (T:=[192]) b1 a3.blk (by decide)) (by decide)).below b8.below).only (Zg.of_grown (T:=[192]) c1 a7 (by decide)) (by decide)
  have d9:l2.drop (Ks l.length m i)=l.drop ((i+1)*m):=by
   rw[f1,List.drop_drop,Nat.add_mul,Nat.one_mul]
   unfold Ks
   rcases Nat.le_total m (l.length-i*m) with q|q
   ·rw[Nat.min_eq_left q]
   ·rw[Nat.min_eq_right q,List.drop_eq_nil_of_le (by omega),List.drop_eq_nil_of_le (by omega)]
  have f8:=d0.trans (j6.mono hBw)
  have hX:=(Fr.grown_new ((Fr.upd_new (((((d1.trans (Fr.of_below a5)).trans (Fr.of_below a4)).trans (f0.mono (by simp))).trans (Fr.of_below a0)).trans (Fr.of_below a3.below)) b1 c8).trans (Fr.of_below b8.below)) c1 a7)
  have l3:=(Zg.grown_new ((Zg.upd_new (((hO.trans a9).trans (Zg.of_below a0)).trans (Zg.of_below a3.below)) b1 c8).trans (Zg.of_below b8.below)) c1 a7)
  have g8:=Xc (Zb (b1.own2 (Zb (Zb (Zr (Zb (Zb e5 a5) a4) a9 (by decide)) a0) a3.below) a3.blk (by decide)) b8.below) c1 a7 (by decide)
  exact ze 0 (m2 _ _ _ ⟨i+1,_,_,(l2.drop (Ks l.length m i)),_,_,rfl,rfl,f8,hX,l3,g8,n9,l5,fun W h1 h2=>Sts.cut Hh (j1 W h1 h2) _ g1,by omega,d9⟩ (by omega))
 refine xe 13 (.tuple #[.slice p4 i c4,.nilIface]) ?_
 obtain rfl:i=ovN l.length m:=by omega
 exact⟨_,_,rfl,d7,e2,h5,hA,l9⟩
theorem only_a3{w w':World}(h:Zg [128,5] w w'):Zg [128,5,32] w w':=h.mono fun t ht=>by simp at ht ⊢;exact⟨ht.1,ht.2.1⟩
def Tree1Post(B ba b g nn cc:Nat)(pa:O0)(ca f N k0:Nat)(bs:Bl)(t:Int)(leaf:Bool)(m v:Nat)(l:List Ent)(b8:Nat)(w:World)(e:Ending)(w':World):Prop :=
 ∃ p c,e=.returned (.slice p (ovN l.length m) c)∧Below B w w'∧Zg [128,5,32] w w'∧Fr [ba,g,b8] w w'∧Blk w' b8 [.nilIface] 32∧Al B ba b g nn cc pa ca f N (k0+ovN l.length m) (Zat t leaf m v l (f+k0) bs (ovN l.length m)) w'∧w'.ownsRow w.heap.size 192 3 (.slice p (ovN l.length m) c) (ovN l.length m) ((upE l m (f+k0) (ovN l.length m)).flatMap Ku)
theorem Fo(B ba b g nn cc:Nat)(pa:O0)(ca f N k0:Nat)(bs:Bl)(t:Int)(leaf:Bool)(m v:Nat)(a:O0)(c:Nat)(l:List Ent)(b3 b4 b8:Nat)(w:World)(k3:Blk w b3 [P0 ba] 84)(k4:Blk w b4 [V0 t] 3)(k8:Blk w b8 [.nilIface] 32)(h38:b3≠b8)(h48:b4≠b8)(hB8:B≤b8)(hC:AlC B ba nn cc ca f N)(hA:Al B ba b g nn cc pa ca f N k0 bs w)(ht1:1≤t)(ht2:t≤5)(hm:Qi t leaf=m)(hv:Ht t leaf=v)(E:EntsOk v l)(hl:leaf=false→1≤l.length)(hn:l.length≤32768)(hf1:1≤f)(hk:k0+ovN l.length m≤N)(hin:∀ W,Below B w W→Zg [128,5,32] w W→Sts Ku W (.slice a l.length c) l)(hBw:B≤w.heap.size) :
 C0 165 #[.bool leaf,.slice a l.length c,P0 b3,P0 b4,P0 b8] w (Tree1Post B ba b g nn cc pa ca f N k0 bs t leaf m v l b8 w):=by
 refine zin 20 Tryz.func165 ?_
 refine xb 7 0 k3 ?_
 refine xb 0 0 k4 ?_
 refine xc 2 (args:=#[P0 ba,V0 t,.bool leaf,.slice a l.length c]) (Zb0 B ba b g nn cc pa ca f N k0 bs t leaf m v a c l _ hC hA ht1 ht2 hm hv E hl hn hf1 hk (fun W h1 h2=>hin W ((Below.refl B _).trans h1) ((Zg.refl _ _).trans (only_a3 h2))) (Nat.le_trans hBw (Below.refl B _).size)) ?_
 rintro _ W1 ⟨p4,c4,rfl,a4,a3,a6,hA,a7⟩
 have a5:=Nat.le_refl w.heap.size
 have a0:=k8.only a3 (by decide)
 refine xs 10 a0 [.nilIface] fun W2 u2 k2=>?_
 have hB:=u2.below a4 hB8
 have hO:=(show Zg [128,5,32] w _ from(only_a3 a3)).trans (Zg.of_upd u2 a0 (by decide))
 have hX:=(show Fr [ba,g,b8] w _ from(a6.mono (by simp))).trans (Fr.of_upd u2 (by simp))
 have a2:=hA.only (Zg.of_upd (T:=[32]) u2 a0 (by decide)) (by decide)
 have a1:=u2.own2 (Ze a7 a5) a0 (by decide)
 exact xe 9 (.slice p4 (ovN l.length m) c4) ⟨_,_,rfl,hB,hO,hX,k2,a2,a1⟩
def Zde(B ba b g nn cc:Nat)(pa:O0)(ca f N k0:Nat)(bs:Bl)(t:Int)(l:List Ent)(w:World)(e:Ending)(w':World):Prop :=
 e=.returned (.tuple #[V0 (Yo t l (f+k0) bs).1,.nilIface])∧Below B w w'∧Zg [128,5,32] w w'∧Fr [ba,g] w w'∧Al B ba b g nn cc pa ca f N (k0+Xq t l.length) (Yo t l (f+k0) bs).2 w'
theorem Zhe(B ba b g nn cc:Nat)(pa:O0)(ca f N k0:Nat)(bs:Bl)(t:Int)(a:O0)(c:Nat)(l:List Ent)(w:World)(hC:AlC B ba nn cc ca f N)(hA:Al B ba b g nn cc pa ca f N k0 bs w)(ht1:1≤t)(ht2:t≤5)(E:EntsOk (Ht t true) l)(hn:l.length≤32768)(hf1:1≤f)(hkN:k0≤N)(hk:k0+Xq t l.length≤N)(hin:∀ W,Below B w W→Zg [128,5,32] w W→Sts Ku W (.slice a l.length c) l)(hBw:B≤w.heap.size) :
 C0 104 #[P0 ba,V0 t,.slice a l.length c] w (Zde B ba b g nn cc pa ca f N k0 bs t l w):=by
 have f8:=Gx t l.length
 have g3:(ovN l.length (Qi t true))≤Xq t l.length:=Na _
 have g1:=Zac l.length (Qi t true) (Qh t true).1
 have f2:=Vj l.length (Qi t true)
 have g0:=hC.hf
 have f7:=hC.hn
 refine zin 52 Tryz.func104 ?_
 refine xa 2 [P0 ba] 84 fun b1 W1 n1=>?_
 refine xa 0 [V0 t] 3 fun b2 W2 n2=>?_
 have k1:=n1.blk.below n2.below
 refine xb 8 0 k1 ?_
 have c0:=(hA.below n1.below).below n2.below
 refine xr 0 (args:=#[P0 ba]) (Yy ba b _ _ _ c0.blkA) fun W3 b8=>?_
 have k2:=n2.blk.below b8
 refine xb 7 0 k2 ?_
 have hB:=blB (blB (blB (Below.refl B w) hBw n1.below) hBw n2.below) hBw b8
 have hO:=((show Zg [128,5,32] w _ from(Zg.of_below n1.below)).trans (Zg.of_below n2.below)).trans (Zg.of_below b8)
 refine xr 1 (args:=#[V0 t,.slice a l.length c]) (Zbt t (Ht t true) a c l _ ht1 ht2 rfl E (hin _ hB hO) hn) fun W4 b5=>?_
 refine xd 6 .z ?_
 have b9:=((k1.below b8).below b5).below (Za W4)
 refine xb (.e [] 0) 0 b9 ?_
 have c3:=(k2.below b5).below (Za W4)
 refine xb (.e [] 2) 0 c3 ?_
 have c6:=((c0.below b8).below b5).below (Za W4)
 refine xr (.o [3,4] 1) (args:=#[P0 ba]) (Ll ba b pa N ca k0 _ c6.blkA hkN) fun W5 b6=>?_
 refine xr (.o [] 5) (args:=#[V0 t,V0 (l.length:Int)]) (Qe t l.length _ ht1 ht2 hn) fun W6 b4=>?_
 refine xk (.r [6,7] 2) (show(decide ((↑(N-k0):Int)<(↑(Xq t l.length):Int)):Bool)=false from decide_eq_false (by omega)) ?_
 refine xa 5 [.nilIface] 32 fun b7 W7 n7=>?_
 have a8:=blB (blB (blB (blB hB hBw b5) hBw (Za W4)) hBw b6) hBw b4
 have g7:=n7.ge0 a8
 have a6:=((b9.below b6).below b4).below n7.below
 have b0:=((c3.below b6).below b4).below n7.below
 have e1:=((c6.below b6).below b4).below n7.below
 have a9:=blB a8 hBw n7.below
 have c5:=((((hO.trans (Zg.of_below b5)).trans (Zg.of_below (Za W4))).trans (Zg.of_below b6)).trans (Zg.of_below b4)).trans (Zg.of_below n7.below)
 refine xc 12 (args:=#[.bool true,.slice a l.length c,P0 b1,P0 b2,P0 b7]) (Fo B ba b g nn cc pa ca f N k0 bs t true (Qi t true) (Ht t true) a c l b1 b2 b7 _ a6 b0 n7.blk (Blk.tne a6 n7.blk (by decide)) (Blk.tne b0 n7.blk (by decide)) (Nat.le_trans hBw g7) hC e1 ht1 ht2 rfl rfl E (by simp) hn hf1 (by omega) (fun W h1 h2=>hin W (a9.trans h1) (c5.trans h2)) (Nat.le_trans hBw a9.size)) ?_
 rintro _ W8 ⟨e6,e2,rfl,f4,d3,f1,d4,hA,b3⟩
 have e9:=(blB a8 hBw n7.below).size
 refine xv1 5 10 (show(.slice e6 (ovN l.length (Qi t true)) e2:Value)=.slice e6 ((upE l (Qi t true) (f+k0) (ovN l.length (Qi t true))).length) e2 from by rw[Xu]) ?_
 have c8:=Ze b3 e9
 have d1:=a9.trans f4
 have hX:=(Fr.trans_new ((((((((show Fr [ba,g] w _ from(Fr.of_below n1.below)).trans (Fr.of_below n2.below)).trans (Fr.of_below b8)).trans (Fr.of_below b5)).trans (Fr.of_below (Za W4))).trans (Fr.of_below b6)).trans (Fr.of_below b4)).trans (Fr.of_below n7.below)) f1 g7)
 have e0:=c5.trans d3
 have d7:=a6.only d3 (by decide)
 have d8:=b0.only d3 (by decide)
 refine zl 0 52 (fun zm f5 V=>∃ (u:List Ent) (K:Nat) (c9:Bl) (p:O0) (c2:Nat),f5=[(6,V0 0),(7,.nilIface),(8,P0 b7),(9,.func (.func 165) #[] #[P0 b1,P0 b2,P0 b7]),(10,.slice p u.length c2)]∧zm=u.length∧Below B w V∧Fr [ba,g] w V∧Zg [128,5,32] w V∧Blk V b1 ([P0 ba]) 84∧Blk V b2 ([V0 t]) 3∧Blk V b7 ([.nilIface]) 32∧V.ownsRow w.heap.size 192 3 (.slice p u.length c2) u.length (u.flatMap Ku)∧Al B ba b g nn cc pa ca f N K c9 V∧K+(Aa u.length).sum=k0+Xq t l.length+u.length∧1≤u.length∧u.length≤32768∧EntsOk 4 u∧Ul t u (f+K) c9=Yo t l (f+k0) bs) ⟨(upE l (Qi t true) (f+k0) (ovN l.length (Qi t true))),(k0+(ovN l.length (Qi t true))),(Zat t true (Qi t true) (Ht t true) l (f+k0) bs (ovN l.length (Qi t true))),e6,e2,rfl,rfl,d1,hX,e0,d7,d8,d4,(by rw[Xu];exact c8),hA,(by rw[Xu];unfold Xq Hw;omega),(by rw[Xu];exact f2),(by rw[Xu];omega),up_ok E (Qh t true).1,(by rw[←Nat.add_assoc];rfl)⟩ ?_
 rintro _ _ W9 ⟨u,K,c9,p,c2,rfl,rfl,a4,c1,c7,a1,a2,a0,b3,hA,hK,f0,g5,hE,d0⟩ J9 f3 r9
 have f9:¬ u.length≤1→(Aa u.length).sum=u.length+(Aa (ovN u.length 18)).sum:=fun h=>by rw[Jl h];rfl
 have g2:=Na (ovN u.length 18)
 have f6:2≤u.length→ovN u.length 18≤u.length/2:=ov18
 have d5:=Vj u.length 18
 refine xb 3 0 a0 ?_
 refine xid 8 ((u.length:Int)>(1:Int)) (fun e3=>?_) (fun e3=>?_)
 ·refine xc 6 (args:=#[.bool false,.slice p u.length c2,P0 b1,P0 b2,P0 b7]) (Fo B ba b g nn cc pa ca f N K c9 t false 18 4 p c2 u b1 b2 b7 _ a1 a2 a0 (Blk.tne a1 a0 (by decide)) (Blk.tne a2 a0 (by decide)) (Nat.le_trans hBw g7) hC hA ht1 ht2 rfl rfl hE (fun _=>f0) (by omega) hf1 (by omega) (fun W _ h2=>Zd (Zr b3 h2 (by decide))) (Nat.le_trans hBw a4.size)) ?_
  rintro _ g6 ⟨e8,e7,rfl,d2,a7,d9,d4,hA,b3⟩
  refine xv1 3 10 (show(.slice e8 (ovN u.length 18) e7:Value)=.slice e8 ((upE u 18 (f+K) (ovN u.length 18)).length) e7 from by rw[Xu]) ?_
  have c4:=Ze b3 a4.size
  have e5:=a4.trans d2
  have d6:=(Fr.trans_new c1 d9 g7)
  have e4:=c7.trans a7
  have a5:=a1.only a7 (by decide)
  have a3:=a2.only a7 (by decide)
  refine ze 0 (f3 _ _ _ ⟨(upE u 18 (f+K) (ovN u.length 18)),(K+ovN u.length 18),_,_,_,rfl,rfl,e5,d6,e4,a5,a3,d4,(by rw[Xu];exact c4),hA,(by rw[Xu];omega),(by rw[Xu];exact d5),(by rw[Xu];omega),up_ok hE (by decide),(by rw[←d0,←Nat.add_assoc];exact(Nf (by omega)).symm)⟩ ?_)
  show((upE u 18 (f+K) (ovN u.length 18)).length)<u.length
  rw[Xu];omega
 refine xb 8 0 a0 ?_
 refine xx 9 _ u.length 0 3 (Sts.cell (Zd b3) Hh Vt (k:=0) (i:=0) (by omega) rfl).1 ?_
 refine xl 1 ((Sts.cell (Zd b3) Hh Vt (k:=0) (i:=2) (by omega) rfl).2) ?_
 refine xe 5 (.tuple #[V0 ((u.getD 0 Vt).2.2),.nilIface]) ?_
 have h1:u.length≤1:=by omega
 rw[Wn h1] at d0
 rw[Hj h1] at hK
 simp only[List.sum_cons,List.sum_nil] at hK
 obtain rfl:K=k0+Xq t l.length:=by omega
 refine⟨by rw[←d0],a4,c7,c1,by rw[←d0];exact hA⟩
theorem Al.mono{B B' ba b g n c:Nat}{pa:O0}{ca f N k:Nat}{l:Bl}{w:World}(h:Al B' ba b g n c pa ca f N k l w)(hB:B≤B'):Al B ba b g n c pa ca f N k l w:=⟨h.blkA,h.blkI,Ze h.data hB,Ze h.nums hB⟩
theorem AlC.mono{B B' ba n c ca f N:Nat}(h:AlC B' ba n c ca f N)(hB:B≤B'):AlC B ba n c ca f N:=⟨h.hn,h.hc,h.hca,h.hf,Nat.le_trans hB h.hB⟩
theorem row_at{w:World}{base g n c size:Nat}{e:TypeId}{xs:List Value}(h:w.ownsRow base e size (.slice (S1 g) n c) n xs):∃ cur,w.heap[g]? = some (.cells cur e (0,0)):=by
 rcases h.2 with ⟨hv,_⟩|⟨g2,a0,cur,hv,_,hh,_⟩
 ·cases hv
 ·simp only[Value.slice.injEq,Option.some.injEq,Addr.mk.injEq] at hv
  obtain⟨⟨rfl,_,_⟩,_⟩:=hv
  exact⟨cur,hh⟩
theorem Al.ne{B ba b g n c:Nat}{pa:O0}{ca f N k:Nat}{l:Bl}{B2 ba2 b2 g2 n2 c2:Nat}{pa2:O0}{ca2 f2 N2 k2:Nat}{l2:Bl}{w:World}(h:Al B ba b g n c pa ca f N k l w)(h2:Al B2 ba2 b2 g2 n2 c2 pa2 ca2 f2 N2 k2 l2 w):b2≠ba∧b2≠g:=by
 constructor
 ·rintro rfl
  exact absurd (h.blkA.ty h2.blkI) (by decide)
 ·rintro rfl
  obtain⟨a0,hh⟩:=row_at h.data
  have h3:w.heap[b2]? = some (.cells [.slice (S1 g2) n2 c2].toArray 59 (0,0)):=h2.blkI
  rw[hh] at h3
  simp only[Option.some.injEq,Obj.cells.injEq] at h3
  exact absurd h3.2.1 (by decide)
theorem Al.apart{B2 ba2 b2 g2 n2 c2:Nat}{pa2:O0}{ca2 f2 N2 k2:Nat}{l2:Bl}{w W:World}{ba g:Nat}(h:Al B2 ba2 b2 g2 n2 c2 pa2 ca2 f2 N2 k2 l2 w)(hC:AlC B2 ba2 n2 c2 ca2 f2 N2)(h1:ba<B2)(h2:g<B2)(hne:b2≠ba∧b2≠g)(hX:Fr [ba,g] w W):Al B2 ba2 b2 g2 n2 c2 pa2 ca2 f2 N2 k2 l2 W:=by
 have hB:=hC.hB
 refine⟨h.blkA.fr hX (by simp;omega),h.blkI.fr hX (by simp;exact hne),own_fr h.data hX fun k hk=>?_,own_fr h.nums hX fun k hk=>?_⟩
 ·have:=(h.data.lt k hk).1;simp;omega
 ·have:=(h.nums.lt k hk).1;simp;omega
theorem Gr(B ba b g nn cc:Nat)(pa:O0)(ca f N k0:Nat)(bs:Bl)(t:Int)(a:O0)(c:Nat)(l:List Ent)(n:Nat)(w:World)(hl:l.length=n)(hC:AlC B ba nn cc ca f N)(hA:Al B ba b g nn cc pa ca f N k0 bs w)(ht1:1≤t)(ht2:t≤5)(E:EntsOk (Ht t true) l)(hn:n≤32768)(hf1:1≤f)(hkN:k0≤N)(hk:k0+Xq t n≤N)(hin:∀ W,Below B w W→Zg [128,5,32] w W→Sts Ku W (.slice a l.length c) l)(hBw:B≤w.heap.size) :
 C0 104 #[P0 ba,V0 t,.slice a n c] w (Zde B ba b g nn cc pa ca f N k0 bs t l w):=by
 subst hl;exact Zhe B ba b g nn cc pa ca f N k0 bs t a c l w hC hA ht1 ht2 E hn hf1 hkN hk hin hBw
theorem Wu{t:Int}{l:List Ent}{q:Nat}{bs:Bl}(hq:1≤q):(Yo t l q bs).1=((q+Xq t l.length-1:Nat):Int):=by
 have hp:=Vj l.length (Qi t true)
 have hg:=Na (ovN l.length (Qi t true))
 unfold Yo
 rw[Zb3 (by rw[Xu];exact hp) (by rw[Xu,Uv (by omega)];simp only[upX];congr 1;omega) (by omega),Xu]
 unfold Xq Hw
 congr 1;omega
abbrev Hq:=Int×List Ent
def Mk(x:Hq):Prop:=1≤x.1∧x.1≤5∧EntsOk (Ht x.1 true) x.2∧x.2.length≤32768
def Vw(x:Hq):Nat:=Xq x.1 x.2.length
def Xp:List Hq→Nat
 | []=>0
 | x::r=>Vw x+Xp r
def Za8:List Hq→Nat→Bl→Bl
 | [],_,bs=>bs
 | x::r,q,bs=>Za8 r (q+Vw x) (Yo x.1 x.2 q bs).2
theorem Ef(a b:List Hq):Xp (a++b)=Xp a+Xp b:=by
 induction a with
 | nil=>simp[Xp]
 | cons x a ih=>simp only[List.cons_append,Xp,ih];omega
theorem Zbo(a b:List Hq):∀ (q:Nat) (bs:Bl),Za8 (a++b) q bs=Za8 b (q+Xp a) (Za8 a q bs):=by
 induction a with
 | nil=>intro q bs;simp[Za8,Xp]
 | cons x a ih =>
  intro q bs
  simp only[List.cons_append,Za8,Xp,ih]
  rw[show q+Vw x+Xp a=q+(Vw x+Xp a) by omega]
theorem Ow(L:List Dv)(i:Nat):Ud (L.take i)≤Ud L:=by
 conv=>rhs;rw[←List.take_append_drop i L]
 unfold Ud
 rw[List.map_append,List.sum_append];omega
theorem gd_mem{α:Type}{l:List α}{k:Nat}(d:α)(h:k<l.length):l.getD k d∈l:=by
 rw[show l.getD k d=l[k] from by simp[List.getD,h]];exact List.getElem_mem _
def Nm(L:List Dv):List Hq:=L.map fun d=>(2,Pd d.2)
def Ep(L:List Dv)(i:Nat):Nat:=Xp (Nm (L.take (i+1)))
theorem Er(a b:List Dv):Nm (a++b)=Nm a++Nm b:=List.map_append ..
theorem Oq{L:List Dv}{i:Nat}(h:i<L.length):Nm (L.take (i+1))=Nm (L.take i)++[(2,Pd (L.getD i dvD).2)]:=by
 rw[List.take_succ_eq_append_getElem h,Er]
 simp[Nm,List.getD,h]
theorem Zg7{l:List Nat}{a:Nat}(h:a∈l):a≤l.sum:=by
 induction l with
 | nil=>cases h
 | cons b l ih =>
  rw[List.sum_cons]
  rcases List.mem_cons.1 h with rfl|h
  ·omega
  ·have:=ih h;omega
theorem devT_ok{data:Int}{L:List Dv}(h:DevsOk data L):∀ x∈Nm L,Mk x:=by
 intro x hx
 obtain⟨d,hd,rfl⟩:=List.mem_map.1 hx
 have hs:d.2.length≤Ud L:=by
  unfold Ud
  exact Zg7 (List.mem_map.2 ⟨d,hd,rfl⟩)
 have:=h.sum
 exact⟨show(1:Int)≤2 by decide,show(2:Int)≤5 by decide,Zec (h.each d hd).maps,by rw[Kr];omega⟩
theorem forN_one(x:Hq):Xp [x]=Vw x:=by show Vw x+0=_;omega
theorem Km(F:List Hq)(x:Hq):Xp (F++[x])=Xp F+Vw x:=by rw[Ef,forN_one]
theorem forB_snoc(F:List Hq)(x:Hq)(q:Nat)(bs:Bl):Za8 (F++[x]) q bs=(Yo x.1 x.2 (q+Xp F) (Za8 F q bs)).2:=by rw[Zbo];rfl
theorem Nw(x:Hq):1≤Vw x:=Gx _ _
def AlF (B ba b g nn cc:Nat)(pa:O0)(ca N:Nat)(bs:Bl)(F:List Hq)(w:World):Prop:=Al B ba b g nn cc pa ca 1 N (Xp F) (Za8 F 1 bs) w
theorem AlF.below{B ba b g nn cc:Nat}{pa:O0}{ca N:Nat}{bs:Bl}{F:List Hq}{w W:World}(h:AlF B ba b g nn cc pa ca N bs F w)(hb:B3 w W):AlF B ba b g nn cc pa ca N bs F W:=Al.below h hb
theorem AlF.only{B ba b g nn cc:Nat}{pa:O0}{ca N:Nat}{bs:Bl}{F:List Hq}{w W:World}{T:List TypeId}(h:AlF B ba b g nn cc pa ca N bs F w)(hO:Zg T w W)(hT:(T.contains 128||(T.contains 59||(T.contains 5||T.contains 3)))=false):AlF B ba b g nn cc pa ca N bs F W:=by
 simp only[Bool.or_eq_false_iff] at hT
 exact⟨h.blkA.only hO hT.1,h.blkI.only hO hT.2.1,Zr h.data hO hT.2.2.1,Zr h.nums hO hT.2.2.2⟩
theorem build_F(B ba b g nn cc:Nat)(pa:O0)(ca N:Nat)(bs:Bl)(F:List Hq)(t:Int)(a:O0)(c n:Nat)(l:List Ent)(w:World)(hl:l.length=n)(hC:AlC B ba nn cc ca 1 N)(hA:AlF B ba b g nn cc pa ca N bs F w)(hok:Mk (t,l))(hr:Xp (F++[(t,l)])≤N)
 (hin:∀ W,Below B w W→Zg [128,5,32] w W→Sl W (.slice a n c) n (l.flatMap Ku)) (hBw:B≤w.heap.size) :
 C0 104 #[P0 ba,V0 t,.slice a n c] w (fun e w'=>e=.returned (.tuple #[V0 (Xp (F++[(t,l)]):Int),.nilIface])∧Below B w w'∧Zg [128,5,32] w w'∧Fr [ba,g] w w'∧AlF B ba b g nn cc pa ca N bs (F++[(t,l)]) w'):=by
 subst hl
 have hn:=Nw (t,l)
 rw[Km] at hr
 refine(Gr B ba b g nn cc pa ca 1 N (Xp F) (Za8 F 1 bs) t a c l l.length w rfl hC hA hok.1 hok.2.1 hok.2.2.1 (Nat.le_trans hok.2.2.2 (by decide)) (Nat.le_refl _) (by omega) hr hin hBw).mono ?_
 rintro e w' ⟨rfl,hb,hO,hX,a1⟩
 have a0:(Yo t l (1+Xp F) (Za8 F 1 bs)).1=((Xp (F++[(t,l)]):Nat):Int):=by
  rw[Wu (by omega),Km]
  show((1+Xp F+Vw (t,l)-1:Nat):Int)=_
  omega
 refine⟨by rw[a0],hb,hO,hX,?_⟩
 unfold AlF
 rw[Km,forB_snoc]
 exact a1
theorem top_ok{data:Int}{L:List Dv}{R:Nat→Nat}(h:DevsOk data L):Mk (1,Pw L R):=by
 have:=h.few
 exact⟨show(1:Int)≤1 by decide,show(1:Int)≤5 by decide,Zdw h,by rw[Kl];omega⟩
theorem det_ok{data:Int}{L:List Dv}{C:Nat→Int}(h:DevsOk data L):Mk (3,Mx L C):=by
 have:=h.few
 exact⟨show(1:Int)≤3 by decide,show(3:Int)≤5 by decide,detEs_ok h,by rw[Kk];omega⟩
theorem Zcy{E:List Ent}{i:Nat}(h:i<E.length){x:Ent}(hx:E.getD i Vt=x):(E.take i).flatMap Ku++Ku x=(E.take (i+1)).flatMap Ku:=by
 subst hx
 rw[List.take_succ_eq_append_getElem h,List.flatMap_append]
 simp[List.getD,h]
theorem rootR_pos{L:List Dv}{i:Nat}(h:i<L.length):1≤Xp (Nm (L.take (i+1))):=by
 rw[Oq h,Km]
 have:=Nw (2,Pd (L.getD i dvD).2);omega
theorem Ze3{data:Int}{L:List Dv}(hD:DevsOk data L){i:Nat}(h:i<L.length):Mk (2,Pd (L.getD i dvD).2):=devT_ok hD _ (List.mem_map.2 ⟨L.getD i dvD,by simp[List.getD,h],rfl⟩)
theorem Zda{L:List Dv}{i:Nat}(h:i<L.length):(L.getD i dvD).2.length≤Ud L:=by
 have a:=Ow L (i+1)
 have e:Ud (L.take (i+1))=Ud (L.take i)+(L.getD i dvD).2.length:=by
  unfold Ud
  rw[List.take_succ_eq_append_getElem h,List.map_append,List.sum_append]
  simp[List.getD,h]
 omega
def Un(L:List Dv):Nat→Int:=fun i=>((L.getD i dvD).2.length:Int)
def F1 (L:List Dv):List Hq:=Nm L++[(1,Pw L (Ep L))]
def F2 (L:List Dv):List Hq:=F1 L++[(3,Mx L (Un L))]
def Zek(cs:List Nat)(k:Int):List Nat:=cs.set k.toNat (cs.getD k.toNat 0+1)
theorem Ie(cs:List Nat)(k:Int):(Zek cs k).length=cs.length:=by simp[Zek]
theorem sum_set{cs:List Nat}{k:Nat}(h:k<cs.length)(v:Nat):(cs.set k v).sum+cs.getD k 0=cs.sum+v:=by
 induction cs generalizing k with
 | nil=>exact absurd h (by simp)
 | cons a cs ih =>
  cases k with
  | zero=>simp[List.getD];omega
  | succ k =>
   have:=ih (k:=k) (by simpa using h)
   simp only[List.set_cons_succ,List.sum_cons,List.getD_cons_succ]
   omega
theorem bump_sum{cs:List Nat}{k:Int}(h0:0≤k)(h:k<cs.length):(Zek cs k).sum=cs.sum+1:=by
 have:=sum_set (cs:=cs) (k:=k.toNat) (by omega) (cs.getD k.toNat 0+1)
 unfold Zek;omega
def Ky:Nat→List Dv→List (Nat×Mp)
 | _,[]=>[]
 | i,d::r=>d.2.map (fun m=>(i,m))++Ky (i+1) r
theorem Ej(L:List Dv):∀ i,(Ky i L).length=Ud L:=by
 induction L with
 | nil=>intro i;rfl
 | cons d r ih=>intro i;rw[Ky,List.length_append,List.length_map,ih];rfl
theorem Zfu(L:List Dv):∀ (b i:Nat),i≤L.length→(Ky b L).drop (Ud (L.take i))=Ky (b+i) (L.drop i):=by
 induction L with
 | nil =>
  intro b i hi;obtain rfl:i=0:=by simpa using hi
  rfl
 | cons d r ih =>
   intro b i hi
   cases i with
   | zero=>rfl
   | succ i =>
    have e:Ud ((d::r).take (i+1))=d.2.length+Ud (r.take i):=rfl
    rw[e,Ky,List.drop_append,List.length_map,show d.2.length+Ud (r.take i)-d.2.length=Ud (r.take i) by omega,List.drop_eq_nil_of_le (by rw[List.length_map];omega),List.nil_append,ih (b+1) i (by simpa using hi)]
    rw[show b+1+i=b+(i+1) by omega];rfl
theorem mapsR_at{L:List Dv}{i j:Nat}(hi:i<L.length)(hj:j<(L.getD i dvD).2.length):(Ky 0 L)[Ud (L.take i)+j]? = some (i,(L.getD i dvD).2.getD j (0,0,0)):=by
 have h:=Zfu L 0 i (by omega)
 rw[←List.getElem?_drop,h,List.drop_eq_getElem_cons hi,Ky,Nat.zero_add]
 have e:L.getD i dvD=L[i]:=by simp[List.getD,hi]
 rw[e] at hj ⊢
 rw[List.getElem?_append_left (by rw[List.length_map];exact hj),List.getElem?_map,List.getElem?_eq_getElem hj]
 simp[List.getD,hj]
def Cz(cs:List Nat)(R:List (Nat×Mp)):List Nat:=R.foldl (fun c x=>Zek c x.2.2.1) cs
def Kx(data:Nat)(L:List Dv):List Nat:=Cz (List.replicate data 0) (Ky 0 L)
theorem Iw(R:List (Nat×Mp)):∀ cs,(Cz cs R).length=cs.length:=by
 induction R with
 | nil=>intro cs;rfl
 | cons x r ih=>intro cs;show(Cz (Zek cs x.2.2.1) r).length=_;rw[ih,Ie]
theorem Vm(data:Nat)(L:List Dv):(Kx data L).length=data:=by unfold Kx;rw[Iw,List.length_replicate]
theorem Zf5(cs:List Nat)(R:List (Nat×Mp)){k:Nat}{x:Nat×Mp}(h:R[k]? = some x):Cz cs (R.take (k+1))=Zek (Cz cs (R.take k)) x.2.2.1:=by
 have hk:k<R.length:=by
  rcases Nat.lt_or_ge k R.length with q|q
  ·exact q
  ·rw[List.getElem?_eq_none q] at h;cases h
 rw[List.getElem?_eq_getElem hk,Option.some.injEq] at h
 unfold Cz
 rw[List.take_succ_eq_append_getElem hk,List.foldl_append,h];rfl
theorem Ox{data:Int}:∀ (L:List Dv),(∀ d∈L,DevOk data d)→∀ (b:Nat),∀ x∈Ky b L,0≤x.2.2.1∧x.2.2.1<data
 | [],_,_,x,hx=>by cases hx
 | d::r,he,b,x,hx=>by
  rw[Ky] at hx
  rcases List.mem_append.1 hx with hx|hx
  ·obtain⟨m,hm,rfl⟩:=List.mem_map.1 hx
   exact((he d (List.mem_cons_self ..)).maps.each m hm).2.1
  ·exact Ox r (fun y hy=>he y (List.mem_cons_of_mem _ hy)) (b+1) x hx
theorem Zdq{data:Int}{L:List Dv}(h:DevsOk data L)(b:Nat):∀ x∈Ky b L,0≤x.2.2.1∧x.2.2.1<data:=Ox L h.each b
theorem Og{data:Nat}(R:List (Nat×Mp))(h:∀ x∈R,0≤x.2.2.1∧x.2.2.1<(data:Int)):∀ cs,cs.length=data→(Cz cs R).sum=cs.sum+R.length:=by
 induction R with
 | nil=>intro cs _;rfl
 | cons x r ih =>
  intro cs hc
  have hx:=h x (List.mem_cons_self ..)
  show(Cz (Zek cs x.2.2.1) r).sum=_
  rw[ih (fun y hy=>h y (List.mem_cons_of_mem _ hy)) _ (by rw[Ie];exact hc),bump_sum hx.1 (by omega),List.length_cons];omega
theorem Zav{data:Nat}{L:List Dv}(h:DevsOk (data:Int) L):(Kx data L).sum=Ud L:=by
 unfold Kx
 rw[Og _ (Zdq h 0) _ List.length_replicate,List.sum_replicate_nat,Ej];omega
theorem Fp(l:List Nat)(i:Nat):l.getD i 0≤l.sum:=by
 induction l generalizing i with
 | nil=>simp[List.getD]
 | cons a l ih =>
  cases i with
  | zero=>simp[List.getD]
  | succ i=>have:=ih i;simp only[List.getD_cons_succ,List.sum_cons];omega
def Yh(data:Nat)(L:List Dv):List Int:=(Kx data L).map fun n:Nat=>(n:Int)
theorem Yp(data:Nat)(L:List Dv):(Yh data L).length=data:=by unfold Yh;rw[List.length_map,Vm]
theorem Fe(data:Nat)(L:List Dv)(i:Nat):(Yh data L).getD i 0=((Kx data L).getD i 0:Nat):=by
 unfold Yh
 simp only[List.getD,List.getElem?_map]
 cases (Kx data L)[i]? <;> rfl
theorem Po{data:Nat}{L:List Dv}(hd:data≤65536)(h:DevsOk (data:Int) L):Kt (Yh data L)=0:=by
 unfold Kt
 rw[Yp,if_neg (by omega),if_pos]
 intro k hk
 rw[Fe]
 have a:=Fp (Kx data L) k
 rw[Zav h] at a
 have b:=h.sum
 unfold Uk;omega
def Ir(cs:List Nat)(k:Nat):Nat:=((cs.take k).filter fun n=>decide (3≤n)).length
theorem Nn{cs:List Nat}{k:Nat}(h:k<cs.length):Ir cs (k+1)=Ir cs k+if 3≤cs.getD k 0 then 1 else 0:=by
 unfold Ir
 rw[List.take_succ_eq_append_getElem h,List.filter_append,List.length_append,show cs.getD k 0=cs[k] from by simp[List.getD,h]]
 congr 1
 by_cases q:3≤cs[k]<;>simp[q]
theorem Zey(cs:List Nat):∀ k,k≤cs.length→3*Ir cs k≤(cs.take k).sum
 | 0,_=>by simp[Ir]
 | k+1,h=>by
  have ih:=Zey cs k (by omega)
  rw[Nn (by omega),List.take_succ_eq_append_getElem (by omega),List.sum_append]
  have e:cs.getD k 0=cs[k]:=by simp[List.getD,show k<cs.length by omega]
  rw[e]
  simp only[List.sum_cons,List.sum_nil,Nat.add_zero]
  split<;>omega
theorem Zex(data:Nat)(L:List Dv):∀ k,k≤data→(Zx (Yh data L) k).length=Ir (Kx data L) k
 | 0,_=>by simp[Zx,Ir]
 | k+1,h=>by
  have ih:=Zex data L k (by omega)
  rw[Nn (by rw[Vm];omega),←ih]
  by_cases q:3≤(Yh data L).getD k 0
  ·rw[Wf q,List.length_append,if_pos (by rw[Fe] at q;omega)];rfl
  ·rw[Wq q,if_neg (by rw[Fe] at q;omega),Nat.add_zero]
def oftL(data:Nat)(L:List Dv):Nat:=Ir (Kx data L) data
theorem Mb(data:Nat)(L:List Dv):(Zx (Yh data L) (Yh data L).length).length=oftL data L:=by rw[Yp];exact Zex data L data (Nat.le_refl _)
theorem Mv{data:Nat}{L:List Dv}(h:DevsOk (data:Int) L):oftL data L≤5462:=by
 have a:=Zey (Kx data L) data (by rw[Vm];exact Nat.le_refl _)
 rw[List.take_of_length_le (by rw[Vm];exact Nat.le_refl _),Zav h] at a
 have:=h.sum
 unfold oftL;omega
def Nt(L:List Dv):Nat:=(L.map fun d=>Xq 2 d.2.length).sum
def Cy(data:Nat)(L:List Dv):Nat:=1+Xq 3 L.length+Xq 1 L.length+Nt L+bmN data+Xq 4 (bmN data)+Xq 5 (oftL data L)
theorem Zfj(L:List Dv):Xp (Nm L)=Nt L:=by
 induction L with
 | nil=>rfl
 | cons d r ih =>
  have e:Xp (Nm (d::r))=Xq 2 (Pd d.2).length+Xp (Nm r):=rfl
  have e2:Nt (d::r)=Xq 2 d.2.length+Nt r:=rfl
  rw[e,e2,ih,Kr]
def Zcg(m:Nat):Nat:=m+(m-1)/959+1
def Pp(data:Nat)(L:List Dv):Nat:=Zcg (Cy data L+2)
theorem Zdt{L:List Dv}:Nt L≤2*Ud L+2*L.length:=by
 induction L with
 | nil=>exact Nat.zero_le _
 | cons d r ih =>
  have e2:Nt (d::r)=Xq 2 d.2.length+Nt r:=rfl
  have e3:Ud (d::r)=d.2.length+Ud r:=rfl
  have:=Jj 2 d.2.length
  rw[e2,e3,List.length_cons];omega
theorem Zdn{data:Nat}{L:List Dv}(hd:data≤65536)(h:DevsOk (data:Int) L):1≤Cy data L∧Cy data L≤100000:=by
 have a:=Jj 3 L.length
 have b:=Jj 1 L.length
 have c:=@Zdt L
 have d:=Jj 4 (bmN data)
 have e:=Jj 5 (oftL data L)
 have f:=Mv h
 have g:=h.few
 have i:=h.sum
 have j:bmN data≤69:=by unfold bmN;omega
 unfold Cy;omega
theorem need_room{m n:Nat}(h:Zcg m≤n):m+bmN n≤n:=by unfold Zcg at h;unfold bmN;omega
end Go.Proofs.YthhilbkandcbmaaGreatDoor
namespace Go.Proofs.YthhilbkandcbmaaGreatDoor
set_option maxHeartbeats 8000000
set_option maxRecDepth 100000
open Go.RowKit
set_option linter.unusedVariables false
attribute [local go_sem] Oper.semAt_some
theorem Sl.to{w W:World}{v:Value}{n:Nat}{xs:List Value}(h:Sl w v n xs)(hk:∀ a x,w.cell? a=some x→W.cell? a=some x):Sl W v n xs:=by
 rcases h with h|⟨b,a0,a1,h1,h2,h3,h4⟩
 ·exact .inl h
 ·exact .inr ⟨b,a0,a1,h1,h2,h3,fun j x hj=>hk _ _ (h4 j x hj)⟩
theorem DevsR.to{w W:World}{p:O0}{c:Nat}{Z:List Zv}(h:DevsR w p c Z)(hk:∀ a x,w.cell? a=some x→W.cell? a=some x):DevsR W p c Z:=⟨Sl.to h.row hk,fun i hi=>Sl.to (h.each i hi) hk⟩
def encM(x:Nat×Mp):Array Value:=#[V0 (x.1:Int),.agg #[V0 x.2.1,V0 x.2.2.1,V0 x.2.2.2]]
theorem Fd{q:Nat→Prop}{W V:World}(h:Keeps q W V)(hq:∀ b,q b→b<W.heap.size)(o:Obj):Keeps q W (V.alloc o):=by
 have hb:=(Below.refl V.heap.size V).alloc (Nat.le_refl _) o
 exact⟨Nat.le_trans h.size hb.size,fun b a0=>(hb.block b (Nat.lt_of_lt_of_le (hq b a0) h.size)).trans (h.block b a0)⟩
theorem sl_lit{α:Type}{f:α→List Value}{w:World}{p:O0}{n c:Nat}{l:List α}(h:Sl w (.slice p n c) n (l.flatMap f))(hn:0<n):∃ pb po,p=some ⟨pb,po,none⟩∧∀ j x,(l.flatMap f)[j]? = some x→w.cell? ⟨pb,po+j,none⟩=some x:=by
 rcases h with ⟨a,cc,h1,h2,_⟩|⟨pb,po,a0,h1,_,_,h4⟩
 ·omega
 ·simp only[Value.slice.injEq] at h1
  exact⟨pb,po,h1.1,h4⟩
theorem maps1_in(l B1:Nat)(pp:O0)(n c:Nat)(t u v x:Int)(Z:List Zv)(w:World)(hZ:Z.length=n)(hP:DevsR w pp c Z)(hn:n≤1000000000)(q:Nat→Prop)(hq:∀ b,b<w.heap.size→q b)(J Jx:Nat→World→Prop)(hJ:∀ k A B,J k A→Below A.heap.size A B→J k B)
 (hY:∀ k x V,(Ky 0 (Z.map Prod.fst))[k]? = some x→J k V→YieldAt Fence.wide 2 Tryz.prog l (encM x) V fun e U =>
 (e=.returned (.bool true)∧J (k+1) U∧Keeps q V U)∨(e=.returned (.bool false)∧Jx k U))
 (W:World) (hW:B3 w W) (hqlt:∀ b,q b→b<W.heap.size) (hk1:Blk W B1 [V0 t,V0 u,V0 v,V0 x,.slice pp n c] 53) (h0:J 0 W) :
 CallsIn Fence.wide 3 Tryz.prog 167 #[.func (.yield l) #[] #[],P0 B1] W fun e U=>(∃ v,e=.returned v)∧(J (Ky 0 (Z.map Prod.fst)).length U∨∃ k,k<(Ky 0 (Z.map Prod.fst)).length∧Jx k U):=by
 refine callsIn_of_wp Tryz.func167 rfl trivial ?_ rfl
 simp only[Tryz.ntmps167,List.size_toArray,List.length_cons,List.length_nil,Nat.reduceAdd,Nat.reduceSub,Array.replicate_succ,Array.replicate_zero,List.push_toArray,List.append_toArray,List.nil_append,List.cons_append]
 have z4:=hk1.cell (i:=4) rfl
 have c5:(Z.map Prod.fst).length=n:=by rw[List.length_map];exact hZ
 gi_wp2
 gi_loopw [10] (fun i wr=>∃ k:Nat,k≤n∧i=V0 (k:Int)∧J (Ud ((Z.map Prod.fst).take k)) wr∧Keeps q W wr)
  (fun i _=>(n-(intOf i)).toNat)
 case atStart=>exact⟨0,Nat.zero_le _,rfl,h0,Keeps.refl _ _⟩
 case round =>
  obtain⟨k,hk,rfl,a0,b3⟩:=hrel
  by_cases hlt:k<n
  ·have b5:∀ {V:World},Keeps q W V→DevsR V pp c Z:=fun hV=>hP.to (fun a x ha=>(hV.cell (a:=a) (hq _ (ltC ha))).trans (Zd8 hW ha))
   have b1:=b5 b3
   have a1:Sl wr (.slice pp n c) n (Z.flatMap devZ):=b1.rowN hZ
   obtain⟨pb,po,c0,hc⟩:=sl_lit a1 (by omega)
   have gz:∀ i x,i<5→(devZ (Z.getD k zvD))[i]? = some x→wr.cell? ⟨pb,po+k*5+i,none⟩=some x:=fun i x hi hx=>by
    rw[Nat.add_assoc]
    exact hc _ _ ((Db Wm Z k i zvD (by omega) hi).trans hx)
   have a2:=fun j hj=>mapsR_at (L:=Z.map Prod.fst) (i:=k) (j:=j) (by omega) hj
   rw[zfst (by omega)] at a2
   have a5:=Sc (Z:=Z) (i:=k) (by omega)
   have b6:=fun {V:World} (hV:Keeps q W V)=>(b5 hV).each k (by omega)
   obtain⟨⟨⟨⟨i0,i1,i2,i3⟩,M⟩,mp,mc⟩,hz⟩:∃ z,Z.getD k zvD=z:=⟨_,rfl⟩
   rw[hz] at gz a2 a5
   simp only[hz] at b6
   have z5:=gz 0 _ (by decide) rfl
   have z6:=gz 1 _ (by decide) rfl
   have z7:=gz 2 _ (by decide) rfl
   have z8:=gz 3 _ (by decide) rfl
   have z9:=gz 4 _ (by decide) rfl
   rw[Nat.add_zero] at z5
   clear gz hc hz a1 b1
   subst c0
   obtain⟨S,hS⟩:∃ S,Ud ((Z.map Prod.fst).take k)=S:=⟨_,rfl⟩
   rw[hS] at a0 a2 a5
   gi_wp2
   gi_loopw [18] (fun j b2=>∃ m:Nat,m≤M.length∧j=V0 (m:Int)∧J (S+m) b2∧Keeps q W b2)
    (fun j _=>(M.length-(intOf j)).toNat)
   case atStart=>exact⟨0,Nat.zero_le _,rfl,hJ _ _ _ a0 ((Below.refl _ wr).alloc (Nat.le_refl _) _),Fd b3 hqlt _⟩
   case round =>
    obtain⟨m,hm,rfl,b0,a7⟩:=hrel
    have hM:=b6 a7
    have c6:M.length≤9223372036854775807:=Sl.len hM
    by_cases hmt:m<M.length
    ·have a9:Sl wr (.slice mp M.length mc) M.length (M.flatMap mapC):=hM
     obtain⟨mb,mo,c4,b4⟩:=sl_lit a9 (by omega)
     have gm:∀ i x,i<3→(mapC (M.getD m (0,0,0)))[i]? = some x→wr.cell? ⟨mb,mo+m*3+i,none⟩=some x:=fun i x hi hx=>by
      rw[Nat.add_assoc]
      exact b4 _ _ ((Db Ms M m i (0,0,0) hmt hi).trans hx)
     have hx:=a2 m hmt
     obtain⟨⟨m1,m2,m3⟩,a8⟩:∃ y,M.getD m (0,0,0)=y:=⟨_,rfl⟩
     rw[a8] at gm
     have a4:(Ky 0 (Z.map Prod.fst))[S+m]? = some (k,(m1,m2,m3)):=by rw[hx];exact congrArg (fun y=>some (k,y)) a8
     have y1:=gm 0 _ (by decide) rfl
     have y2:=gm 1 _ (by decide) rfl
     have y3:=gm 2 _ (by decide) rfl
     rw[Nat.add_zero] at y1
     clear gm b4 a9 hM hx a8
     subst c4
     have c2:=(Below.refl wr.heap.size wr).alloc (Nat.le_refl _) (.cells #[V0 m1,V0 m2,V0 m3] 50)
     obtain⟨fn,c1,a6,c3,hy,hR⟩:=hY _ _ (wr.alloc (.cells #[V0 m1,V0 m2,V0 m3] 50)) a4 (hJ _ _ _ b0 c2)
     have b9:=Fd a7 hqlt (.cells #[V0 m1,V0 m2,V0 m3] 50)
     simp only[encM] at hy
     gi_wp2
     refine hR.mono ?_
     rintro e W3 (⟨rfl,b8,b7⟩|⟨rfl,a3⟩)
     ·gi_wp2
      go_roundw
      case rel =>
       refine⟨m+1,by omega,?_,b8,b9.trans b7⟩
       exact congrArg V0 (by omega)
      case measure=>simp only[intOf];omega
     ·gi_wp2
      refine bodyPost_ret (results_none rfl _ _ _) rfl ?_
      refine⟨⟨_,rfl⟩,.inr ⟨_,?_,a3⟩⟩
      rcases Nat.lt_or_ge (S+m) (Ky 0 (Z.map Prod.fst)).length with h|h
      ·exact h
      ·rw[List.getElem?_eq_none h] at a4;cases a4
    ·obtain rfl:m=M.length:=by omega
     gi_wp2
     go_roundw
     case rel =>
      refine⟨k+1,by omega,?_,by rw[a5];exact b0,a7⟩
      exact congrArg V0 (by omega)
     case measure=>simp only[intOf];omega
  ·obtain rfl:k=n:=by omega
   have HJ:=Lib.hid a0;clear a0
   gi_wp2
   go_end0
   have a0:=HJ.out
   rw[List.take_of_length_le (by omega)] at a0
   exact⟨⟨_,rfl⟩,.inl (by rw[Ej];exact a0)⟩
end Go.Proofs.YthhilbkandcbmaaGreatDoor
namespace Go.Proofs.YthhilbkandcbmaaGreatDoor
set_option maxHeartbeats 8000000
set_option maxRecDepth 100000
open Go.RowKit Go.Extern.Stop Go.Stop Go.Extern
set_option linter.unusedVariables false
attribute [local irreducible] wpList wpAnyH Code.wp Oper.wp Go
section
variable {P:Program} {a:Act}
theorem shl_bd{n:Int}(h:0≤n∧n≤3){s:Nat}(hs:s≤6):0≤n*2 ^ s∧n*2 ^ s≤192:=by
 obtain rfl|rfl|rfl|rfl:n=0∨n=1∨n=2∨n=3:=by omega
 all_goals obtain rfl|rfl|rfl|rfl|rfl|rfl|rfl:s=0∨s=1∨s=2∨s=3∨s=4∨s=5∨s=6:=by omega
 all_goals decide
theorem run_shlS{o:Oper}{t t2:TypeId}{x y:Operand}{n:Int}{s:Nat}{j:Int}{kj:IntKind}(ho:o.op=.binOp .shl t x y t2)(hx:a.eval x=V0 n)(hy:a.eval y=.int kj j)(hj:j=(s:Int))(hn:0≤n∧n≤3)(hs:s≤6)(w:World):(execOp a.eval o).run P w=.ok (.value (V0 (n*2 ^ s))) w:=by
 subst hj
 have e:=shift_shl .i64 kj n (s:Int) (Int.natCast_nonneg s) (by show(s:Int)≤64;omega)
 rw[show((s:Int)).toNat=s from by omega] at e
 have hb:=shl_bd hn hs
 rw[IntWalk.i64_in _ (by omega)] at e
 simp only[execOp,ho,hx,hy,eqGuard_shl,binOp_shl,e]
 simp
end
section
variable {P:Program} {fn:Func} {R:Ending→World→Prop} {w:World} {s:Zs}
theorem xbot(q:Zq){b:BinOp}{t t2:TypeId}{u1 u2 v:Value}(hv:∀ (a:Act) (o:Oper) (x y:Operand),o.op=.binOp b t x y t2→a.eval x=u1→a.eval y=u2→∀ V,True→(execOp a.eval o).run P V=.ok (.value v) V)(g:Go P fn R (znx (zq P q s) v) w)(h:zk (zq P q s)=some (.bn b t t2 u1 u2):=by kernel_rfl):Go P fn R s w:=by
 refine Zw q s ?_
 obtain⟨o,ho,h⟩:=Va h
 exact Zb6 ho (fun V _=>by
  obtain⟨x,y,h1,h2,h3⟩:=Us h
  exact hv _ o x y h1 h2 h3 V trivial) g
end
theorem u8_shl{n:Int}(h:0≤n∧n≤3){s:Nat}(hs:s≤6):IntKind.u8.wrap (n*2 ^ s)=n*2 ^ s:=by
 have hb:=shl_bd h hs
 generalize n*2 ^ s=m at *
 simp[IntKind.wrap,IntKind.bits,IntKind.signed];omega
theorem bitsT_at(l:List Int)(i:Nat){k:Nat}(hk:k<240):(Mc l i).getD (4+k) 0=g4B l i k:=by
 unfold Mc
 rw[List.getD,List.getElem?_append_right (by rw[Zm];omega),Zm,Nat.add_sub_cancel_left]
 simp[hk]
theorem bits_or{l:List Int}(h:Ux l){i:Nat}(hi:i<960):IntKind.u8.wrap (↑(BitVec.ofInt 8 (↑((Mc l i).getD (4+(i/4)) 0).toNat:Int) ||| BitVec.ofInt 8 (l.getD i 0*2 ^ ((i%4)*2))).toNat:Int)=((g4B l (i+1) (i/4)).toNat:Int):=by
 rw[bitsT_at l i (by omega)]
 obtain⟨h1,h2⟩:=g4B_at h (i:=i)
 rw[h1]
 obtain⟨n,hn⟩:∃ n:Nat,l.getD i 0=n:=⟨(l.getD i 0).toNat,by have:=(Nb h i).1;omega⟩
 have hb:=Nb h i
 rw[hn] at hb ⊢
 generalize (g4B l i (i/4)).toNat=o at *
 have hr:i%4<4:=by omega
 generalize i%4=r at *
 have ho:o<64:=Nat.lt_of_lt_of_le h2 (by
  obtain rfl|rfl|rfl|rfl:r=0∨r=1∨r=2∨r=3:=by omega
  all_goals decide)
 have hs:=or_step ⟨r,hr⟩ ⟨n,by omega⟩ ⟨o,ho⟩ h2
 simp only at hs
 have e4:(4:Nat) ^ r=2 ^ (r*2):=by rw[Nat.mul_comm,Nat.pow_mul]
 have e:((n:Int)*2 ^ (r*2))=((n*4 ^ r:Nat):Int):=by rw[e4];simp
 have e':((n:Int)*4 ^ r)=((n*4 ^ r:Nat):Int):=by simp
 have hm:n*4 ^ r≤192:=by
   have h3:4 ^ r≤64:=by
    obtain rfl|rfl|rfl|rfl:r=0∨r=1∨r=2∨r=3:=by omega
    all_goals decide
   calc n*4 ^ r≤3*64:=Nat.mul_le_mul (by omega) h3
     _=192:=rfl
 rw[e,e',BitVec.ofInt_natCast,BitVec.ofInt_natCast,BitVec.toNat_or,BitVec.toNat_ofNat,BitVec.toNat_ofNat,Nat.mod_eq_of_lt (by omega),Nat.mod_eq_of_lt (by omega),hs]
 generalize n*4 ^ r=m at *
 simp[IntKind.wrap,IntKind.bits,IntKind.signed];omega
theorem bits_set{l:List Int}{i:Nat}(hi:i<960):((Mc l i).map bv).set (4+(i/4)) (.int .u8 ((g4B l (i+1) (i/4)).toNat:Int))=(Mc l (i+1)).map bv:=by
 rw[show Value.int .u8 ((g4B l (i+1) (i/4)).toNat:Int)=bv (g4B l (i+1) (i/4)) from rfl,←List.map_set]
 congr 1
 unfold Mc
 rw[List.set_append_right _ _ (by rw[Zm];omega),Zm,Nat.add_sub_cancel_left]
 congr 1
 apply List.ext_getElem
 ·simp
 ·intro k h1 h2
  rw[List.getElem_set]
  split
  ·rename_i e;subst e;simp
  ·rename_i e;simp only[List.getElem_map,List.getElem_range];unfold g4B;rw[g4_ne (by omega)]
theorem bits0(l:List Int):((List.replicate 244 (0:UInt8)).map bv).take 0++(leB (l.length:Int) 4).map bv++((List.replicate 244 (0:UInt8)).map bv).drop (0+4)=(Mc l 0).map bv:=by
 unfold Mc
 rw[List.map_append,List.take_zero,List.nil_append]
 congr 1
theorem BysN.elem{w:World}{b:O0}{n c:Nat}{l:Bl}(h:Sl w (.slice b n c) n (l.map bv))(hl:l.length=n){k:Nat}(hk:k<n):b.isSome=true∧w.cell? (Xe b (k*1))=some (.int .u8 ((l.getD k 0).toNat:Int)):=by
 subst hl;exact Bys.elem (Yr h rfl) hk
theorem bits_put1(n:Int)(w:World)(h0:0≤n)(h3:n≤3) :
 C0 194 #[V0 n] w (Ret (.bool false) w):=by
 refine zin 9 Tryz.func194 ?_
 refine xgk 10 [4,5] (show(decide (n<(0:Int)):Bool)=false from decide_eq_false (by omega)) ?_
 refine xe 7 (.bool (decide (n>(3:Int)))) ?_
 rw[show decide (n>(3:Int))=false from decide_eq_false (by omega)];exact⟨rfl,(B4 w)⟩
theorem Zfc(a:O0)(c:Nat)(l:List Int)(w:World)(hS:Ux l)(hl:l.length≤960)(h:Sl w (.slice a l.length c) l.length (l.map V0)) :
 C0 152 #[.slice a l.length c,.func (.func 194) #[] #[]] w (Ret (V0 (-1)) w):=by
 refine zin 19 Tryz.func152 ?_
 have hB:=Below.refl w.heap.size w
 refine zl 14 19 (fun zm a5 V=>∃ (i:Nat),a5=[(0,.slice a l.length c),(1,.func (.func 194) #[] #[]),(7,V0 (l.length:Int)),(8,V0 (i:Int))]∧zm=l.length-((i:Int)).toNat∧B3 w V∧i≤l.length) ⟨0,rfl,rfl,hB,Nat.zero_le _⟩ ?_
 rintro _ _ W1 ⟨i,rfl,rfl,a0,hi⟩ J1 a4 r1
 refine xid 6 ((i:Int)<(l.length:Int)) (fun a2=>?_) (fun a2=>?_)
 ·refine xx 15 _ l.length i 1 (Ints.elem h (k:=i) (by omega)).1 ?_
  refine xl 0 ((Ints.elem (h.below a0) (k:=i) (by omega)).2) ?_
  refine xr 0 (args:=#[V0 (l.getD i 0)]) (bits_put1 (l.getD i 0) _ (Nb hS i).1 (Nb hS i).2) fun W3 a3=>?_
  refine xwm 7 ((i:Int)+1) (↑(i+1):Int) ?_
  have a1:=bln a0 a3
  exact ze 2 (a4 _ _ _ ⟨i+1,rfl,rfl,a1,by omega⟩ (by omega))
 exact xe 11 (V0 (-1)) ⟨rfl,a0⟩
theorem Ty(a:O0)(c:Nat)(l:List Int)(w:World)(hS:Ux l)(hl:l.length≤960)(h:Sl w (.slice a l.length c) l.length (l.map V0)) :
 C0 90 #[.slice a l.length c,.func (.func 194) #[] #[]] w (Ret (.bool false) w):=by
 refine zin 9 Tryz.func90 ?_
 refine xr 9 (args:=#[.slice a l.length c,.func (.func 194) #[] #[]]) (Zfc a c l _ hS hl (h.below (B4 w))) fun W1 a0=>?_
 exact xe 5 (.bool false) ⟨rfl,a0⟩
theorem Zar(a:O0)(c:Nat)(l:List Int)(w:World)(hl:l.length≤960)(h:Sl w (.slice a l.length c) l.length (l.map V0)) :
 C0 162 #[.slice a l.length c] w (Ret (.tuple #[V0 (↑(Yi l):Int),V0 (↑(Xj l):Int)]) w):=by
 refine zin 27 Tryz.func162 ?_
 have hB:=Below.refl w.heap.size w
 refine zl 23 27 (fun zm a6 V=>∃ (i f g:Nat),a6=[(2,V0 0),(3,V0 0),(4,V0 (f:Int)),(5,V0 (g:Int)),(10,.slice a l.length c),(11,V0 (l.length:Int)),(12,V0 (i:Int))]∧zm=l.length-((i:Int)).toNat∧B3 w V∧i≤l.length∧f=Zgp l i∧((f=0∧g=l.length∧∀ j,j<i→l.getD j 0≠0)∨(0<f∧g=Xj l))) ⟨0,0,l.length,rfl,rfl,hB,Nat.zero_le _,rfl,?_⟩ ?_
 ·exact .inl ⟨rfl,rfl,fun j hj=>absurd hj (by omega)⟩
 rintro _ _ W1 ⟨i,f,g,rfl,rfl,a0,hi,hf,hg⟩ J1 a3 r1
 have a2:=fun(q:i<l.length)=>Zhf q
 have a8:=Da l i
 refine xid 6 ((i:Int)<(l.length:Int)) (fun a4=>?_) (fun a4=>?_)
 ·refine xx 7 _ l.length i 1 (Ints.elem h (k:=i) (by omega)).1 ?_
  refine xl 0 ((Ints.elem (h.below a0) (k:=i) (by omega)).2) ?_
  refine xin 11 (l.getD i 0) (0:Int) (fun a7=>?_) (fun a7=>?_)
  ·refine xwm 5 ((i:Int)+1) (↑(i+1):Int) ?_
   exact ze 2 (a3 _ _ _ ⟨i+1,f,g,rfl,rfl,a0,by omega,by rw[a2 (by omega),if_neg (by assumption)];exact hf,hg.elim (fun⟨h1,h2,h3⟩=>.inl ⟨h1,h2,fun j hj=>(Nat.lt_or_ge j i).elim (fun q=>h3 j q) (fun q=>by obtain rfl:j=i:=(by omega);assumption)⟩) .inr⟩ (by omega))
  refine xie 9 (f:Int) (0:Int) (fun a5=>?_) (fun a5=>?_)
  ·refine xwm 7 ((f:Int)+1) (↑(f+1):Int) ?_
   refine xwm 5 ((i:Int)+1) (↑(i+1):Int) ?_
   exact ze 2 (a3 _ _ _ ⟨i+1,f+1,i,rfl,rfl,a0,by omega,by rw[a2 (by omega),if_pos (by assumption),hf],.inr ⟨by omega,hg.elim (fun⟨_,_,h3⟩=>(firstN_at (by omega) (by assumption) h3).symm) (fun q=>absurd q.1 (by omega))⟩⟩ (by omega))
  refine xwm 4 ((f:Int)+1) (↑(f+1):Int) ?_
  refine xwm 5 ((i:Int)+1) (↑(i+1):Int) ?_
  exact ze 2 (a3 _ _ _ ⟨i+1,f+1,g,rfl,rfl,a0,by omega,by rw[a2 (by omega),if_pos (by assumption),hf],.inr ⟨by omega,hg.elim (fun⟨h1,_,_⟩=>absurd h1 (by omega)) (fun q=>q.2)⟩⟩ (by omega))
 refine xe 14 (.tuple #[V0 (f:Int),V0 (g:Int)]) ?_
 obtain rfl:i=l.length:=by omega
 have a1:f=Yi l:=hf
 rcases hg with ⟨h1,h2,h3⟩|⟨h1,h2⟩
 ·exact⟨by rw[a1,h2,Zcx h3],a0⟩
 ·exact⟨by rw[a1,h2],a0⟩
theorem Zdc(a:O0)(c:Nat)(l:List Int)(w:World)(hS:Ux l)(hl:l.length≤960)(h:Sl w (.slice a l.length c) l.length (l.map V0)) :
 C0 161 #[.slice a l.length c] w (Qd (fun w' r=>∃ g,r=.tuple #[.slice (S1 g) 244 244,V0 0]∧w'.ownsRow w.heap.size 5 1 (.slice (S1 g) 244 244) 244 ((Rj l).map bv)) w):=by
 refine zin 51 Tryz.func161 ?_
 refine xgk 13 [11,12] (show(decide ((l.length:Int)>(960:Int)):Bool)=false from decide_eq_false (by omega)) ?_
 refine xr 1 (args:=#[.slice a l.length c,.func (.func 194) #[] #[]]) (Ty a c l _ hS hl (h.below (B4 w))) fun W2 a6=>?_
 refine xbs 11 1 [V0 4,V0 (l.length:Int)] 221 fun b3 W3 n3=>?_
 refine xc 0 (args:=#[.slice (S1 b3) 1 1]) (Cc b3 (l.length:Int) (by omega) (by omega) _ n3.blk) ?_
 rintro _ W4 ⟨_,rfl,b0,p2,c2,rfl,h2⟩
 have b9:=(bln a6 n3.below).size
 refine xmk 9 fun _ _ _ _ zJ zQ zo zx zy zK=>Kc 244 (.int .u8 0) 1 1 ((List.replicate 244 (0:UInt8)).map bv) zo zx zy Tryz.underlying22 (by kernel_rfl) rfl (by omega) (by omega) (Oz 244) fun b5 W5 n5=>?_
 have a5:=Ze h2 b9
 have b2:=Xa a5 n5
 refine zK _ _ ?_
 have o5:=Zp (size:=1) (n:=244) n5.blk (n5.ge (bln (bln a6 n3.below) b0)) (by rw[List.length_map,List.length_replicate]) (by unfold maxLen;omega)
 have b1:=Zb a5 n5.below
 have hB:=bln (bln (bln a6 n3.below) b0) n5.below
 refine xbi 7 (t2:=22) fun _ _ _ _ zJ zQ zo zx zy zK=>Wd (dLen:=244) (dCap:=244) (off:=0) 4 ((leB (l.length:Int) 4).map bv) ((Mc l 0).map bv) zo Tryz.underlying22 (by kernel_rfl) zx zy (Zd b1) o5 (by simp[Zm]) (by omega) (by omega) (Yw _) hB.size (bits0 l) fun W6 o6 b7 b4=>?_
 refine zK _ _ ?_
 have a7:=hB.trans b4
 have a9:=((n3.blk.below b0).below n5.below).grown b7 o5 (by decide)
 refine zl 11 51 (fun zm c0 V=>∃ (i:Nat),c0=[(2,S0),(3,V0 0),(6,.slice (S1 b5) 244 244),(28,.slice a l.length c),(29,V0 (l.length:Int)),(30,V0 (i:Int))]∧zm=l.length-((i:Int)).toNat∧B3 w V∧Blk V b3 ([V0 4,V0 (l.length:Int)]) 221∧V.ownsRow w.heap.size 5 1 (.slice (S1 b5) 244 244) 244 ((Mc l i).map bv)∧i≤l.length) ⟨0,rfl,rfl,a7,a9,o6,Nat.zero_le _⟩ ?_
 rintro _ _ W7 ⟨i,rfl,rfl,a3,a4,ho,hi⟩ J7 b6 r7
 refine xid 6 ((i:Int)<(l.length:Int)) (fun b8=>?_) (fun b8=>?_)
 ·refine xx 7 _ l.length i 1 (Ints.elem h (k:=i) (by omega)).1 ?_
  refine xl 0 ((Ints.elem (h.below a3) (k:=i) (by omega)).2) ?_
  refine xd 4 (.t w.heap.size [5]) ?_
  refine xq (.e [0,1] 2) (congrArg V0 (show(IntKind.i64.wrap (Int.tdiv (i:Int) 4):Int)=(↑(i/4):Int) from Wh i 4 (by omega) (by decide))) ?_
  refine xwm (.e [] 3) (4+(↑(i/4):Int)) (↑(4+(i/4)):Int) ?_
  refine xx (.e [] 4) _ 244 (4+(i/4)) 1 (show(some (⟨b5,0,none⟩:Addr)).isSome=true from rfl) ?_
  refine xq (.e [6,7] 8) (congrArg V0 (show(Int.tmod (i:Int) 4:Int)=(↑(i%4):Int) from Fk i 4)) ?_
  refine xwm (.e [] 9) ((↑(i%4):Int)*2) (↑((i%4)*2):Int) ?_
  refine xbot (.e [] 10) (t:=3) (t2:=3) (fun _ _ _ _ zo zx zy V hV=>run_shlS (n:=(l.getD i 0)) (s:=((i%4)*2)) (kj:=.i64) (j:=(↑((i%4)*2):Int)) zo zx zy rfl (Nb hS i) (by omega) V) ?_
  refine xq (.e [] 11) (congrArg (Value.int .u8) (show(IntKind.u8.wrap (l.getD i 0*2 ^ ((i%4)*2)):Int)=l.getD i 0*2 ^ ((i%4)*2) from u8_shl (Nb hS i) (by omega))) ?_
  have a1:=Zb ho (Za W7)
  refine xl (.o [] 5) ((BysN.elem (Zd a1) (Ju l i) (k:=(4+(i/4))) (by omega)).2) ?_
  refine xq (.e [] 12) (congrArg (Value.int .u8) (show(IntKind.u8.wrap (↑(BitVec.ofInt 8 (↑((Mc l i).getD (4+(i/4)) 0).toNat:Int) ||| BitVec.ofInt 8 (l.getD i 0*2 ^ ((i%4)*2))).toNat:Int):Int)=(↑(g4B l (i+1) (i/4)).toNat:Int) from bits_or hS (by omega))) ?_
  refine xx (.e [] 13) _ 244 (4+(i/4)) 1 (show(some (⟨b5,0,none⟩:Addr)).isSome=true from rfl) ?_
  refine yst (.o [] 14) (.t w.heap.size [5]) fun _ _ _ _ zJ zQ zo zx zy zK=>Gv (t:=5) (k:=(4+(i/4))) (v:=.int .u8 (↑(g4B l (i+1) (i/4)).toNat:Int)) zo zx zy (by kernel_rfl) rfl a1 (by omega) fun W9 u9 o9=>?_
  rw[bits_set (l:=l) (i:=i) (by omega)] at o9
  have a0:=a4.below (Za W7)
  refine zK _ _ (Hd (T:=[5]) (u9.below (Below.refl _ _) (Bw a1)) (Zg.of_updRow u9 a1 (by decide))) ?_
  refine xwm 4 ((i:Int)+1) (↑(i+1):Int) ?_
  have a8:=u9.below (bln a3 (Za W7)) (Bw a1)
  have a2:=u9.blk a0 (Be a0 a1 (by decide))
  exact ze 2 (b6 _ _ _ ⟨i+1,rfl,rfl,a8,a2,o9,by omega⟩ (by omega))
 refine xe 13 (.tuple #[.slice (S1 b5) 244 244,V0 0]) ?_
 obtain rfl:i=l.length:=by omega
 exact⟨_,rfl,a3,_,rfl,ho⟩
theorem Mu(p:Addr)(N c:Nat)(xs:List Value)(w:World)(h:Sl w (.slice (some p) N c) N xs)(hl:xs.length=N)(h1:∀ u∈xs,u.oneCell'=true)(hn:N≤1000000) :
 C0 110 #[.slice (some p) N c] w (Qd (fun w' r=>∃ q c2,r=.slice q N c2∧w'.ownsRow w.heap.size 3 1 (.slice q N c2) N xs) w):=by
 refine zin 8 Tryz.func110 ?_
 refine xb0 17 3 fun b1 W1 n1=>?_
 have o1:=Zp (size:=1) (n:=0) n1.blk (n1.ge (B4 w)) rfl (by decide)
 refine xbi 1 fun _ _ _ _ zJ zQ zo zx zy zK=>Zo (m:=N) (news:=xs) (V0 0) 1 8 (N) (xs) zo Tryz.underlying28 (by kernel_rfl) rfl (by decide) zx o1 zy (h.below n1.below) (by rw[hl,Nat.mul_one]) h1 (by unfold maxLen;omega) (by omega) n1.below.size (by omega) (by rfl) fun a2 a1 W2 o2 a4 a3=>?_
 refine zK _ _ ?_
 have a0:=n1.below.trans a3
 exact xe 4 (.slice a2 N a1) ⟨_,rfl,a0,_,_,rfl,o2⟩
end Go.Proofs.YthhilbkandcbmaaGreatDoor
namespace Go.Proofs.YthhilbkandcbmaaGreatDoor
set_option maxHeartbeats 8000000
set_option maxRecDepth 100000
open Go.RowKit Go.Extern.Stop Go.Stop Go.Extern
set_option linter.unusedVariables false
attribute [local irreducible] wpList wpAnyH Code.wp Oper.wp Go
theorem Zb8(cs:List Nat):(cs.map fun c:Nat=>(c:Int)).map V0=cs.map nv:=by simp[nv]
theorem nv_get{cs:List Nat}{k:Nat}(h:k<cs.length):(cs.map nv)[k]? = some (V0 ((cs.getD k 0:Nat):Int)):=by simp[List.getD,h,nv]
theorem nv_bump(cs:List Nat)(k:Nat):(cs.map nv).set k (V0 ((cs.getD k 0+1:Nat):Int))=(Zek cs (k:Int)).map nv:=by
 unfold Zek;rw[Int.toNat_natCast,List.map_set];rfl
theorem bump_get{cs:List Nat}{k:Nat}(h:k<cs.length):(Zek cs (k:Int)).getD k 0=cs.getD k 0+1:=by
 unfold Zek;rw[Int.toNat_natCast];simp[List.getD,h]
theorem Wv{w:World}{pc:O0}{n m:Nat}{cs:List Nat}(h:Sl w (.slice pc n m) n (cs.map nv)){k:Nat}(hk:k<cs.length):pc.isSome=true∧w.cell? (Xe pc (k*1))=some (V0 ((cs.getD k 0:Nat):Int)):=by
 rcases h with ⟨a,c,h1,h2,h3⟩|⟨b,a0,a1,h1,h2,h3,h4⟩
 ·simp only[Value.slice.injEq] at h1
  have:(cs.map nv).length=0:=by rw[h3];rfl
  rw[List.length_map] at this;omega
 ·simp only[Value.slice.injEq] at h1
  obtain⟨rfl,_,_⟩:=h1
  refine⟨rfl,?_⟩
  have:=h4 k _ (nv_get hk)
  simpa [Xe,Addr.add_mid] using this
theorem zerosV(n:Nat):Hn (Value.int .i64 0).cells.toList n=(List.replicate n (0:Nat)).map nv:=by
 rw[show(Value.int .i64 0).cells.toList=[Value.int .i64 0] from rfl,Hn,List.map_replicate]
 induction n with
 | zero=>rfl
 | succ n ih=>rw[List.replicate_succ,List.flatten_cons,ih,List.replicate_succ];rfl
theorem nv_one(cs:List Nat):∀ u∈cs.map nv,u.oneCell'=true:=fun u hu=>by obtain⟨y,_,rfl⟩:=List.mem_map.1 hu;rfl
theorem refs_NewI(n:Nat)(w:World)(h:n≤65536) :
 C0 105 #[V0 (n:Int)] w (Qd (fun w' r=>∃ br g,r=.tuple #[P0 br,V0 0]∧w.heap.size≤br∧Blk w' br [.slice (S1 g) n n] 275∧w'.ownsRow w.heap.size 3 1 (.slice (S1 g) n n) n ((List.replicate n (0:Nat)).map nv)) w):=by
 refine zin 14 Tryz.func105 ?_
 refine xgk 12 [5,6] (show(decide ((n:Int)<(0:Int)):Bool)=false from decide_eq_false (by omega)) ?_
 refine xk 5 (show(decide ((n:Int)>(65536:Int)):Bool)=false from decide_eq_false (by omega)) ?_
 refine xmk 5 fun _ _ _ _ zJ zQ zo zx zy zK=>Kc n (V0 0) 1 8 ((List.replicate n (0:Nat)).map nv) zo zx zy Tryz.underlying28 (by kernel_rfl) rfl (by omega) (by omega) ((zerosV n)) fun b2 W2 n2=>?_
 refine zK _ _ ?_
 refine xa 1 [.slice (S1 b2) n n] 275 fun b3 W3 n3=>?_
 have o2:=Zb (Zp (size:=1) (n:=n) n2.blk (n2.ge (B4 w)) (by rw[List.length_map,List.length_replicate,Nat.mul_one]) (by unfold maxLen;omega)) n3.below
 have hB:=bln n2.below n3.below
 have g3:=n3.ge n2.below
 exact xe 5 (.tuple #[P0 b3,V0 0]) ⟨_,rfl,hB,_,_,rfl,g3,n3.blk,o2⟩
theorem refs_own(br n:Nat)(p:O0)(w:World)(kr:Blk w br [.slice p n n] 275) :
 C0 168 #[P0 br] w (Ret (.slice p n n) w):=by
 refine zin 9 Tryz.func168 ?_
 refine xb 20 0 kr ?_
 exact xe 4 (.slice p n n) ⟨rfl,(B4 w)⟩
theorem refs_List(br g n B0:Nat)(cs:List Nat)(w:World)(kr:Blk w br [.slice (S1 g) n n] 275)(hc:w.ownsRow B0 3 1 (.slice (S1 g) n n) n (cs.map nv))(hn:cs.length=n)(hn2:n≤100000) :
 C0 108 #[P0 br] w (Qd (fun w' r=>∃ q c2,r=.slice q n c2∧w'.ownsRow w.heap.size 3 1 (.slice q n c2) n (cs.map nv)) w):=by
 refine zin 6 Tryz.func108 ?_
 refine xr 8 (args:=#[P0 br]) (refs_own br n _ _ kr) fun W1 a0=>?_
 have a2:=Zb hc a0
 refine xc 0 (args:=#[.slice (S1 g) n n]) (Mu ⟨g,0,none⟩ n n (cs.map nv) _ (Zd a2) (by rw[List.length_map];exact hn) (nv_one _) (by omega)) ?_
 rintro _ W2 ⟨_,rfl,a3,q,c2,rfl,hq⟩
 have a1:=Ze hq a0.size
 have hB:=bln a0 a3
 exact xe 4 (.slice q n c2) ⟨_,rfl,hB,_,_,rfl,a1⟩
theorem refs_AddX(B br g n k:Nat)(cs:List Nat)(w:World)(kr:Blk w br [.slice (S1 g) n n] 275)(hBw:B≤w.heap.size)(hc:w.ownsRow B 3 1 (.slice (S1 g) n n) n (cs.map nv))(hn:cs.length=n)(hk:k<n)(hb:cs.getD k 0≤4000000000000000000) :
 C0 107 #[P0 br,V0 (k:Int)] w ((fun e w'=>e=.returned (.tuple #[V0 ((cs.getD k 0+1:Nat):Int),V0 0])∧Below B w w'∧Zg [3] w w'∧Fr [g] w w'∧w'.ownsRow B 3 1 (.slice (S1 g) n n) n ((Zek cs (k:Int)).map nv))):=by
 have a3:=Ie cs (k:Int)
 refine zin 37 Tryz.func107 ?_
 refine xg 21 [11,12] (decide ((k:Int)<(0:Int))) (fun a0=>?_) (fun a0=>?_)
 ·have a0:=of_decide_eq_true a0
  exact xe 21 (.tuple #[V0 0,V0 3]) (by exfalso;omega)
 have a0:=of_decide_eq_false a0
 refine xb 4 0 kr ?_
 refine xid 6 ((k:Int)≥(n:Int)) (fun a2=>?_) (fun a2=>?_)
 ·exact xe 9 (.tuple #[V0 0,V0 3]) (by exfalso;omega)
 refine xb 8 0 kr ?_
 refine xx 1 _ n k 1 (Wv (Zd hc) (k:=k) (by omega)).1 ?_
 refine xl 0 ((Wv (Zd hc) (k:=k) (by omega)).2) ?_
 refine xwm 0 ((↑(cs.getD k 0):Int)+1) (↑((cs.getD k 0)+1):Int) ?_
 refine xx 0 _ n k 1 (Wv (Zd hc) (k:=k) (by omega)).1 ?_
 refine xst 0 fun _ _ _ _ zJ zQ zo zx zy zK=>Gv (t:=3) (k:=k) (v:=V0 (↑((cs.getD k 0)+1):Int)) zo zx zy (by kernel_rfl) rfl hc (by omega) fun W3 u3 o3=>?_
 rw[nv_bump cs k] at o3
 refine zK _ _ ?_
 have a1:=u3.blk kr (Be kr hc (by decide))
 refine xb 7 0 a1 ?_
 refine xx 1 _ n k 1 (Wv (Zd o3) (k:=k) (by omega)).1 ?_
 refine xl 0 ((Wv (Zd o3) (k:=k) (by omega)).2) ?_
 have hB:=u3.below (Below.refl B w) (Bw hc)
 have hO:=(show Zg [3] w _ from(Zg.of_updRow u3 hc (by decide)))
 have hX:=(show Fr [g] w _ from(Fr.of_upd u3 (by simp)))
 exact xe 5 (.tuple #[V0 (↑((Zek cs (k:Int)).getD k 0):Int),V0 0]) ⟨by rw[bump_get (by omega)],hB,hO,hX,o3⟩
end Go.Proofs.YthhilbkandcbmaaGreatDoor
namespace Go.Proofs.YthhilbkandcbmaaGreatDoor
set_option maxHeartbeats 8000000
set_option maxRecDepth 100000
open Go.RowKit
set_option linter.unusedVariables false
theorem Zcr{P:Program}{l n:Nat}{ops:Array Oper}{Q:Exit→Act→World→Prop}(hQ:¬ LetsOut Q):∀ (r:List Oper) (a:Act) (w:World),(∀ o∈r,∀ c,o.op≠.defer c)→wpList P ops Q r a w→wpListIn (Fence.wide.inRound l) n P ops Q r a w
 | [],_,_,_,h=>h
 | o::r,a,w,hd,h=>by
  unfold wpList at h
  unfold wpListIn
  split at h
  ·rename_i hw
   rw[if_pos hw]
   exact Oper.wpIn_mono (fun a w=>Zcr hQ r a w (fun o ho=>hd o (by simp[ho]))) (oper_in (hd o (by simp)) (h.resolve_right fun q=>hQ q.2))
  ·rename_i hw
   rw[if_neg hw]
   exact⟨fun _ _=>trivial,Zcr hQ r _ _ (fun o ho=>hd o (by simp[ho])) h⟩
theorem reg_in{P:Program}{l0 n0 id:Nat}{l:List Oper}{Q:Exit→Act→World→Prop}{a:Act}{w:World}(hQ:¬ LetsOut Q)(hd:∀ o∈l,∀ c,o.op≠.defer c)(h:wpList P l.toArray Q l a w):(Code.region id l.toArray false).wpIn (Fence.wide.inRound l0) n0 P Q a w :=
 wpIn_region_lit (Zcr hQ l a w hd h)
def Turns(q:Nat→Prop)(n:Nat)(A:World)(row:Option Nat):Prop:=∀ r,row=some r→q r∨n≤r∧∃ o:Obj,A.heap[r]? = some o∧o.isCells=false
theorem below_ab{n m:Nat}{q:Nat→Prop}{w A B:World}{row:Option Nat}(h:Below n w A)(hg:A.grownBy B row)(hr:Turns q m A row)(hn:n≤w.heap.size)(hm:n≤m)(hq:∀ r,q r→n≤r):Below n w B :=
 h.grown hg (Nat.le_trans hn h.size) (fun r e=>by rcases hr r e with h1|h1;exact hq _ h1;omega)
theorem own_ab{q:Nat→Prop}{A B:World}{row:Option Nat}{base size n m:Nat}{e:TypeId}{v:Value}{xs:List Value}(k:A.ownsRow base e size v n xs)(hg:A.grownBy B row)(hr:Turns q m A row)(hq:∀ r,q r→r<base):B.ownsRow base e size v n xs:=by
 obtain⟨h1,h2⟩:=k
 refine⟨h1,?_⟩
 rcases h2 with h2|⟨g,a1,a0,hv,hb,hh,r⟩
 ·exact Or.inl h2
 ·refine Or.inr ⟨g,a1,a0,hv,hb,?_,r⟩
  rw[hg.block g (Array.getElem?_eq_some_iff.1 hh).1 (fun q=>by
   rcases hr g q.symm with h3|⟨_,o,ho,hc⟩
   ·have:=hq _ h3;omega
   ·rw[hh] at ho
    cases ho
    cases hc)]
  exact hh
theorem blk_ab{q:Nat→Prop}{A B:World}{row:Option Nat}{b m:Nat}{cs:List Value}{t:TypeId}(k:Blk A b cs t)(hg:A.grownBy B row)(hr:Turns q m A row)(hq:∀ r,q r→b≠r):Blk B b cs t :=
 k.kept hg (fun e'=>by
  rcases hr b e'.symm with h3|⟨_,o,ho,hc⟩
  ·exact hq _ h3 rfl
  ·rw[show A.heap[b]? = _ from k] at ho;cases ho;cases hc)
theorem zi_fr{F:Fence}{n:Nat}{P:Program}{c:Code}{Q:Exit→Act→World→Prop}{a:Act}{w:World}(a':Act)(h:a=a')(k:c.wpIn F n P Q a' w):c.wpIn F n P Q a w:=h▸k
theorem Dfr.put{D D2:Nat}{w:World}(h:Dfr D w)(hne:D≠D2)(o:Obj):Dfr D (w.putObj D2 o):=(World.putObj_heap_other hne).trans h
end Go.Proofs.YthhilbkandcbmaaGreatDoor
namespace Go.Proofs.YthhilbkandcbmaaGreatDoor
set_option maxHeartbeats 8000000
set_option maxRecDepth 100000
open Go.RowKit Go.Extern.Stop Go.Stop Go.Extern
set_option linter.unusedVariables false
attribute [local irreducible] wpList wpAnyH Code.wp Oper.wp Go
theorem maps_seq(B1:Nat)(p:O0)(n c:Nat)(t u v x:Int)(Z:List Zv)(w w0:World)(hZ:Z.length=n)(hP:DevsR w p c Z)(hn:n≤1000000000)(hW:B3 w w0)(q:Nat→Prop)(hq:∀ b,b<w.heap.size→q b)(hqlt:∀ b,q b→b<w0.heap.size)(hk1:Blk w0 B1 [V0 t,V0 u,V0 v,V0 x,.slice p n c] 53) :
  SeqB Tryz.prog 167 #[P0 B1] encM (Keeps q) (Ky 0 (Z.map Prod.fst)) w0:=fun l J Jx W hw hJ hY h0 =>
 maps1_in l B1 p n c t u v x Z w hZ hP hn q hq J Jx hJ hY W (bln hW hw) (fun b hb=>Nat.lt_of_lt_of_le (hqlt b hb) hw.size) (hk1.below hw) h0
theorem frg_ko{g:Nat}{W V:World}{cs:List Value}{t:TypeId}(h:Fr [g] W V)(k:Blk W g cs t):KeepsOthers W V:=⟨h.size,fun i o hi ho=>(h.block i (Array.getElem?_eq_some_iff.1 hi).1 (by
 simp only[List.mem_singleton]
 rintro rfl
 rw[show W.heap[i]? = _ from k] at hi
 cases hi;cases ho)).trans hi⟩
theorem frg_keeps{p:Nat→Prop}{g:Nat}{W V:World}(h:Fr [g] W V)(hp:∀ b,p b→b<W.heap.size)(hg:¬ p g):Keeps p W V:=⟨h.size,fun b hb=>h.block b (hp b hb) (by simp only[List.mem_singleton];rintro rfl;exact hg hb)⟩
theorem pool_maps(t u v x:Int)(p:O0)(n c:Nat)(w:World) :
 C0 106 #[.agg #[V0 t,V0 u,V0 v,V0 x,.slice p n c]] w (Qd (fun w' r=>∃ b,r=.func (.func 167) #[] #[P0 b]∧w.heap.size≤b∧Blk w' b [V0 t,V0 u,V0 v,V0 x,.slice p n c] 53) w):=by
 refine zin 4 Tryz.func106 ?_
 refine xa 2 [V0 t,V0 u,V0 v,V0 x,.slice p n c] 53 fun b1 W1 n1=>?_
 exact xe 10 (.func (.func 167) #[] #[P0 b1]) ⟨_,rfl,n1.below,b1,rfl,(n1.ge (B4 w)),n1.blk⟩
theorem Nr(p:O0)(c n x:Nat)(t u v:Int)(Z:List Zv)(w:World)(hZ:Z.length=n)(hP:DevsR w p c Z)(hk:PoolOk t u v (x:Int) (Z.map Prod.fst)) :
 C0 57 #[.agg #[V0 t,V0 u,V0 v,V0 (x:Int),.slice p n c]] w (Qd (fun w' r=>∃ q d,r=.slice q x d∧w'.ownsRow w.heap.size 3 1 (.slice q x d) x ((Kx x (Z.map Prod.fst)).map nv)) w):=by
 have hx:x≤65536:=by have:=hk.hdata;omega
 have d4:n≤1000000000:=by have:=hk.devs.few;rw[List.length_map] at this;omega
 have a4:=Zdq hk.devs 0
 have d1:=hk.devs.sum
 refine Hm Tryz.func57 rfl ?_
 refine g_fr ⟨#[.agg #[V0 t,V0 u,V0 v,V0 (x:Int),.slice p n c],undef,undef,undef,undef,undef,undef,undef,undef,undef,undef,undef,undef,undef,undef,undef,undef,undef,undef,undef,undef,undef,undef,undef,undef,undef],[]⟩ (by kernel_rfl) ?_
 refine wp_seq ?_
 refine wp_region_lit ?_
 refine Ko (by kernel_rfl) (Zdr [V0 t,V0 u,V0 v,V0 (x:Int),.slice p n c] rfl (by kernel_rfl) ?_)
 intro b1 W1 n1
 have g1:=n1.ge (B4 w)
 have hB:=n1.below
 have k1:=n1.blk
 refine Hk 1 [(2,S0)] (by kernel_rfl) ?_
 refine wpList_nil ?_
 refine wp_seq ?_
 refine wp_seq ?_
 refine wp_region_lit ?_
 refine Ko (by kernel_rfl) (Ml (b:=b1) (off:=0) [V0 t,V0 u,V0 v,V0 (x:Int),.slice p n c] _ rfl (by kernel_rfl) Tryz.underlying53 rfl (by kernel_rfl) k1.whole ?_)
 refine Ko (by kernel_rfl) (Qm (lb:=#[]) 24 #[.agg #[V0 t,V0 u,V0 v,V0 (x:Int),.slice p n c]] rfl (by kernel_rfl) (fun _ _=>by kernel_rfl) (by kernel_rfl) ((Lp p c n t u v (x:Int) Z _ hZ (hP.below hB)).mono ?_))
 rintro e W2 ⟨rfl,c1⟩
 refine⟨_,rfl,?_⟩
 replace hB:=bln hB c1
 replace k1:=k1.below c1
 refine Hk 1 [(9,.bool ((Hl t u v (x:Int) (Z.map Prod.fst)) != (0:Int)))] (by kernel_rfl) ?_
 refine wpList_nil ?_
 refine wp_cond_split (t:=((Hl t u v (x:Int) (Z.map Prod.fst)) != (0:Int))) (by kernel_rfl) (fun hh=>absurd (hh.symm.trans (show(((Hl t u v (x:Int) (Z.map Prod.fst)) != (0:Int)):Bool)=false from by rw[Am.2 hk];rfl)) (by decide)) (fun _=>?_)
 refine wp_skip ?_
 refine wp_seq ?_
 refine wp_region_lit ?_
 refine Hk 1 [(11,.pointer (some ⟨b1,3,none⟩))] (by kernel_rfl) ?_
 refine Ko (by kernel_rfl) (Vi ⟨b1,3,none⟩ (V0 (x:Int)) rfl (by kernel_rfl) (by kernel_rfl) (k1.cell (i:=3) rfl) ?_)
 have c6:=hB.size
 have d5:w.heap.size≤(W2).heap.size:=hB.size
 refine Ko (by kernel_rfl) (Qm (lb:=#[]) 105 #[V0 (x:Int)] rfl (by kernel_rfl) (fun _ _=>by kernel_rfl) (by kernel_rfl) ((refs_NewI x _ hx).mono ?_))
 rintro e W4 ⟨_,rfl,c4,br,g,rfl,c2,a1,hc⟩
 refine⟨_,rfl,?_⟩
 replace hB:=bln hB c4
 replace k1:=k1.below c4
 replace hc:=Ze hc d5
 replace c2:=Nat.le_trans c6 c2
 refine Hk 3 [(10,.tuple #[P0 br,V0 0]),(14,P0 br),(15,V0 0)] (by kernel_rfl) ?_
 refine Ko (by kernel_rfl) (Wt [.pointer none] rfl (by kernel_rfl) ?_)
 intro b5 W5 n5
 have a3:=n5.ne k1
 have a5:=n5.ne a1
 have g5:=n5.ge hB
 replace hB:=bln hB n5.below
 replace k1:=k1.below n5.below
 replace a1:=a1.below n5.below
 replace hc:=Zb hc n5.below
 have k5:=n5.blk
 refine Ko (by kernel_rfl) (Kg (v:=P0 br) (b:=b5) (off:=0) rfl (by kernel_rfl) (by kernel_rfl) (by kernel_rfl) rfl k5 (by first|decide|simp) ?_)
 intro W6 u6 k6
 change Blk _ _ [P0 br] _ at k6
 replace hB:=u6.below hB g5
 replace k1:=u6.blk k1 (Ne.symm (Ne.symm a3))
 replace a1:=u6.blk a1 (Ne.symm (Ne.symm a5))
 replace hc:=u6.own2 hc k5 (by decide)
 refine Hk 1 [(4,V0 0)] (by kernel_rfl) ?_
 refine wpList_nil ?_
 refine wp_seq ?_
 refine wp_seq ?_
 refine wp_region_lit ?_
 refine Ko (by kernel_rfl) (Ml (b:=b1) (off:=0) [V0 t,V0 u,V0 v,V0 (x:Int),.slice p n c] _ rfl (by kernel_rfl) Tryz.underlying53 rfl (by kernel_rfl) k1.whole ?_)
 have d0:=hB.size
 refine Ko (by kernel_rfl) (Qm (lb:=#[]) 106 #[.agg #[V0 t,V0 u,V0 v,V0 (x:Int),.slice p n c]] rfl (by kernel_rfl) (fun _ _=>by kernel_rfl) (by kernel_rfl) ((pool_maps t u v (x:Int) p n c _).mono ?_))
 rintro e W7 ⟨_,rfl,a6,bm,rfl,c3,d2⟩
 refine⟨_,rfl,?_⟩
 replace hB:=bln hB a6
 replace k1:=k1.below a6
 replace a1:=a1.below a6
 replace k6:=k6.below a6
 replace hc:=Zb hc a6
 replace c3:=Nat.le_trans d0 c3
 refine wpList_nil ?_
 refine wp_block ?_
 have b2:=hB
 have a7:w.heap.size≤W7.heap.size:=b2.size
 have m3:=k6
 have mr:=a1
 have mm:=d2
 have mc:=hc
 have c7:w.heap.size≤g∧g<W7.heap.size:=mc.lt g rfl
 have hq:=maps_seq bm p n c t u v (x:Int) Z w W7 hZ hP d4 b2 (fun b=>b<w.heap.size) (fun b h=>h) (fun b h=>Nat.lt_of_lt_of_le h a7) mm
 refine g_fr ⟨#[.agg #[V0 t,V0 u,V0 v,V0 (x:Int),.slice p n c],P0 b1,S0,P0 b5,V0 0,undef,undef,.agg #[V0 t,V0 u,V0 v,V0 (x:Int),.slice p n c],V0 (Hl t u v (x:Int) (Z.map Prod.fst)),.bool ((Hl t u v (x:Int) (Z.map Prod.fst)) != (0:Int)),.tuple #[P0 br,V0 0],.pointer (some ⟨b1,3,none⟩),V0 (x:Int),.tuple #[P0 br,V0 0],P0 br,V0 0,.agg #[V0 t,V0 u,V0 v,V0 (x:Int),.slice p n c],.func (.func 167) #[] #[P0 bm],undef,undef,undef,undef,undef,undef,undef,undef],[]⟩ (by kernel_rfl) ?_
 refine wp_rangeD (g:=.tmp 17) (gf:=167) (lb:=#[P0 bm]) rfl (enters_of Tryz.func167 (by kernel_rfl) rfl) (fun b=>b<w.heap.size) (fun b h=>Nat.lt_of_lt_of_le h a7) hq (fun _=>rfl)
  (fun k V=>B3 w V∧Blk V b5 [P0 br] 207∧Blk V br [.slice (S1 g) x x] 275∧V.ownsRow w.heap.size 3 1 (.slice (S1 g) x x) x ((Cz (List.replicate x 0) ((Ky 0 (Z.map Prod.fst)).take k)).map nv))
  (fun _ _ _=>False) ?bel ?own (fun _ _ _ _ _ h _ _=>h.elim) ⟨b2,m3,mr,mc⟩
  (fun y a' V=>∃ b6,a'={ tmps:=#[.agg #[V0 t,V0 u,V0 v,V0 (x:Int),.slice p n c],P0 b1,S0,P0 b5,V0 0,undef,P0 b6,.agg #[V0 t,V0 u,V0 v,V0 (x:Int),.slice p n c],V0 (Hl t u v (x:Int) (Z.map Prod.fst)),.bool ((Hl t u v (x:Int) (Z.map Prod.fst)) != (0:Int)),.tuple #[P0 br,V0 0],.pointer (some ⟨b1,3,none⟩),V0 (x:Int),.tuple #[P0 br,V0 0],P0 br,V0 0,.agg #[V0 t,V0 u,V0 v,V0 (x:Int),.slice p n c],.func (.func 167) #[] #[P0 bm],V0 (y.1:Int),.agg #[V0 y.2.1,V0 y.2.2.1,V0 y.2.2.2],undef,undef,undef,undef,undef,undef],defers:=[] }∧Blk V b6 [V0 y.2.1,V0 y.2.2.1,V0 y.2.2.2] 50) ?two ?assign ?body ?done (fun _ _ _ _ _ _ h _=>h.elim)
 case bel=>exact fun k A B h hb=>⟨bln h.1 hb,h.2.1.below hb,h.2.2.1.below hb,Zb h.2.2.2 hb⟩
 case own=>exact fun k A B c8 h hg hr=>⟨below_ab (q:=fun _=>False) h.1 hg (fun r e=>.inr (hr r e)) (Nat.le_refl _) a7 (fun _ q=>q.elim),blk_ab (q:=fun _=>False) (m:=W7.heap.size) h.2.1 hg (fun r e=>.inr (hr r e)) (fun _ q=>q.elim),blk_ab (q:=fun _=>False) (m:=W7.heap.size) h.2.2.1 hg (fun r e=>.inr (hr r e)) (fun _ q=>q.elim),own_ab (q:=fun _=>False) (m:=W7.heap.size) h.2.2.2 hg (fun r e=>.inr (hr r e)) (fun _ q=>q.elim)⟩
 case two=>exact fun y a' A B c8 ⟨b6,ha,h6⟩ hg hr=>⟨b6,ha,blk_ab (q:=fun _=>False) (m:=W7.heap.size) h6 hg (fun r e=>.inr (hr r e)) (fun _ q=>q.elim)⟩
 case assign =>
  rintro lr k y W K hy hI hK
  refine zi_fr { tmps:=#[.agg #[V0 t,V0 u,V0 v,V0 (x:Int),.slice p n c],P0 b1,S0,P0 b5,V0 0,undef,undef,.agg #[V0 t,V0 u,V0 v,V0 (x:Int),.slice p n c],V0 (Hl t u v (x:Int) (Z.map Prod.fst)),.bool ((Hl t u v (x:Int) (Z.map Prod.fst)) != (0:Int)),.tuple #[P0 br,V0 0],.pointer (some ⟨b1,3,none⟩),V0 (x:Int),.tuple #[P0 br,V0 0],P0 br,V0 0,.agg #[V0 t,V0 u,V0 v,V0 (x:Int),.slice p n c],.func (.func 167) #[] #[P0 bm],V0 (y.1:Int),.agg #[V0 y.2.1,V0 y.2.2.1,V0 y.2.2.2],undef,undef,undef,undef,undef,undef],defers:=[] } (by kernel_rfl) ?_
  refine reg_in (fun⟨_,_,q⟩=>q) (by simp) ?_
  refine Ko (by kernel_rfl) (Wt [V0 0,V0 0,V0 0] rfl (by kernel_rfl) ?_)
  intro b8 W8 n8
  have g8:=n8.ge (B4 W)
  have hB:=n8.below
  have k8:=n8.blk
  refine Ko (by kernel_rfl) (Zab (b:=b8) (off:=0) [V0 y.2.1,V0 y.2.2.1,V0 y.2.2.2] rfl (by kernel_rfl) (by kernel_rfl) (by kernel_rfl) (by first|decide|simp[Value.oneCell']) k8 (by first|decide|simp) ?_)
  intro W9 u9 k9
  change Blk _ _ [V0 y.2.1,V0 y.2.2.1,V0 y.2.2.2] _ at k9
  replace hB:=u9.below hB g8
  refine wpList_nil ?_
  exact hK _ _ hB ⟨_,rfl,k9⟩
 case body =>
  rintro lr k y a' W d7 hy ⟨a8,n3,nr,nc⟩ ⟨b6,rfl,n6⟩
  have b9:w.heap.size≤W.heap.size:=a8.size
  obtain⟨e0,d8⟩:=a4 y (List.mem_of_getElem? hy)
  obtain⟨j,hj⟩:∃ j:Nat,y.2.2.1=(j:Int):=⟨y.2.2.1.toNat,by omega⟩
  have c9:(Cz (List.replicate x 0) ((Ky 0 (Z.map Prod.fst)).take k)).length=x:=by rw[Iw,List.length_replicate]
  have e1:=Fp (Cz (List.replicate x 0) ((Ky 0 (Z.map Prod.fst)).take k)) j
  have c5:=Og (data:=x) ((Ky 0 (Z.map Prod.fst)).take k) (fun z hz=>a4 z (List.mem_of_mem_take hz)) (List.replicate x 0) List.length_replicate
  rw[List.sum_replicate_nat,List.length_take] at c5
  have d3:=Nat.min_le_right k (Ky 0 (Z.map Prod.fst)).length
  rw[Ej] at d3 c5
  rw[hj] at n6
  obtain⟨cg,kg⟩:=En nc
  refine wpIn_block ?_
  refine reg_in (fun⟨_,_,q⟩=>q) (by simp) ?_
  refine Ko (by kernel_rfl) (Vi ⟨b5,0,none⟩ (P0 br) rfl (by kernel_rfl) (by kernel_rfl) (n3.cell (i:=0) rfl) ?_)
  refine Hk 1 [(21,.pointer (some ⟨b6,1,none⟩))] (by kernel_rfl) ?_
  refine Ko (by kernel_rfl) (Vi ⟨b6,1,none⟩ (V0 (j:Int)) rfl (by kernel_rfl) (by kernel_rfl) (n6.cell (i:=1) rfl) ?_)
  refine Ko (by kernel_rfl) (Qm (lb:=#[]) 107 #[P0 br,V0 (j:Int)] rfl (by kernel_rfl) (fun _ _=>by kernel_rfl) (by kernel_rfl) ((refs_AddX w.heap.size br g x j (Cz (List.replicate x 0) ((Ky 0 (Z.map Prod.fst)).take k)) _ nr (Nat.le_trans b9 (Below.refl w.heap.size _).size) nc c9 (by omega) (by omega)).mono ?_))
  rintro e d6 ⟨rfl,b0,a2,b4,b3⟩
  refine⟨_,rfl,?_⟩
  have hX:Fr [g] W _:=b4
  have hB:=b0
  replace n3:=n3.only a2 (by decide)
  replace nr:=nr.only a2 (by decide)
  replace n6:=n6.only a2 (by decide)
  refine wpList_nil ?_
  exact⟨(frg_ko hX kg).from _,frg_keeps hX (fun b hb=>Nat.lt_of_lt_of_le hb b9) (Nat.not_lt.2 c7.1),a8.trans hB,n3,nr,by rw[Zf5 _ _ hy,hj];exact b3⟩
 case done =>
  rintro D W hD ⟨a8,n3,nr,nc⟩ c0
  have hK:Dfr D W:=c0;clear c0
  rw[List.take_of_length_le (Nat.le_refl _)] at nc
  refine Zbi ?_
  have hB:=a8
  refine wp_seq ?_
  refine wp_region_lit ?_
  refine Ko (by kernel_rfl) (Vi ⟨b5,0,none⟩ (P0 br) rfl (by kernel_rfl) (by kernel_rfl) (n3.cell (i:=0) rfl) ?_)
  have b7:w.heap.size≤(W).heap.size:=hB.size
  refine Ko (by kernel_rfl) (Qm (lb:=#[]) 108 #[P0 br] rfl (by kernel_rfl) (fun _ _=>by kernel_rfl) (by kernel_rfl) ((refs_List br g x w.heap.size (Kx x (Z.map Prod.fst)) _ nr nc (Vm _ _) (by omega)).mono ?_))
  rintro e e2 ⟨_,rfl,a0,q9,d9,rfl,a9⟩
  refine⟨_,rfl,?_⟩
  replace hB:=bln hB a0
  replace n3:=n3.below a0
  replace nr:=nr.below a0
  replace nc:=Zb nc a0
  replace hK:=hK.below a0
  replace a9:=Ze a9 b7
  refine Hk 1 [(2,.slice q9 x d9)] (by kernel_rfl) ?_
  refine wpList_nil ?_
  refine wp_ret ?_
  exact g_endM hK (.slice q9 x d9) (by kernel_rfl) (by kernel_rfl) ⟨_,rfl,(Upd.of_put _ _ _).below hB (Nat.le_trans a7 hD),_,_,rfl,(Upd.of_put _ _ _).own3 a9 (hK.row a9)⟩
end Go.Proofs.YthhilbkandcbmaaGreatDoor
