/- The document's answer for the layers 6 and 11: Read, Super. -/
import Derived.Maps.Own
import Derived.RangeFuncNested
import Derived.RangeFuncBound
import Derived.RangeFuncCalls
import Derived.RangeFuncLeaves
import Derived.OwnWalkIn
import Derived.OrdersIn
import Derived.Shelf.Abstract
import Derived.Shelf.RegionOpen
import Derived.TacticsInMore
import Derived.LoopNIn
import Derived.LoopIn
import Derived.Sort.BigQuietIn
import Derived.Maps.RangeRun
import Derived.Shelf.Sort.Plain
import Derived.Shelf.Slices.In.SortNone
import Derived.Ground.SlgnProg
import Derived.Shelf.SlicesG.CompactI
import Derived.Test.YtceeiinepijokaaGreatProg
import Derived.Sort.OwnSortedInts
import Derived.Lib.SlicesCompact
import Derived.ArgAppend
import Derived.Test.YtceeiinepijokaaGreatMg3
namespace Go.Proofs.YtceeiinepijokaaGreat
set_option maxHeartbeats 8000000
set_option maxRecDepth 100000
open Go.RowKit Go.Extern.Stop Go.Stop Go.Extern
set_option linter.unusedVariables false
attribute [local irreducible] wpList wpAnyH Code.wp Oper.wp Go
theorem Zai(l:Bl)(d:Nat):∀ (w k:Nat),Zh (l.drop d) k w=Zh l (d+k) w
 | 0,k=>rfl
 | w+1,k=>by
  rw[Zh,Zh,Zai l d w (k+1)]
  simp[List.getD,Nat.add_assoc]
theorem unpL_lt(l:Bl)(k:Nat)(ws:List Nat)(h:∀ x∈ws,x≤4)(i:Nat)(hi:i<ws.length):(Jk l k ws).getD i 0<9223372036854775808:=by
 rw[Lh l ws k i hi]
 have:=Yf l (k+(ws.take i).sum) (ws.getD i 0) (h _ (by simp[List.getD,hi]))
 omega
def Kd(l:Bl):List Nat:=[Zh l 8 4,Zh l 12 4,Zh l 16 4,Zh l 20 4,Zh l 24 4,Zh l 28 4,Zh l 32 4,Zh l 36 4,Zh l 40 4,Zh l 44 4,Zh l 48 4,Zh l 52 4]
theorem sup12_eq(l:Bl):Jk (l.drop 8) 0 [4,4,4,4,4,4,4,4,4,4,4,4]=Kd l:=by
 simp[Jk,Zai,Kd]
theorem bysD{w:World}{a:O0}{c:Nat}{l:Bl}(h:Bys w (.slice a 244 c) l)(hl:l.length=244):Bys w (.slice (Vp a 8 c 1) (244-8) (c-8)) (l.drop 8):=by
 have:=Bys.cut h hl 8 244 (by decide) (by decide)
 rwa [List.take_of_length_le (by simp;omega)] at this
theorem bysE{w:World}{a:O0}{c:Nat}{l:Bl}(h:Bys w (.slice a 244 c) l)(hl:l.length=244):Bys w (.slice (Vp a 56 c 1) (244-56) (c-56)) (l.drop 56):=by
 have:=Bys.cut h hl 56 244 (by decide) (by decide)
 rwa [List.take_of_length_le (by simp;omega)] at this
theorem Zga(a:O0)(c:Nat)(l:Bl)(w:World)(hl:l.length=244)(h:Bys w (.slice a 244 c) l) :
 C0 54 #[.slice a 244 c] w (SupP l w):=by
 have d3:=Bys.cap h hl
 refine zin 75 Tryz.func54 ?_
 refine xa 2 [V0 0,V0 0,V0 0,V0 0,V0 0,V0 0,V0 0,V0 0,V0 0,V0 0,V0 0] 30 fun b1 W1 n1=>?_
 refine xsH 11 (fun _ _ _ _ zo zx zy V=>Vh (k:=8) (b:=a) (n:=244) (c:=c) (i:=8) (ki:=.i64) zo zx zy rfl (by omega) Tryz.underlying22 (by kernel_rfl) V) ?_
 refine xcv0 0 (fun _ _ _ zo zx=>Vm zo zx ((Bys.take h hl 8 (by decide)).below n1.below) (by simp;omega) Tryz.underlying22 Tryz.underlying5 Tryz.underlying9) ?_
 refine xi 4 (!((⟨(l.take 8).toArray⟩:ByteArray).toList==(⟨#[83,67,65,78,84,76,73,78]⟩:ByteArray).toList)) (fun b5=>?_) (fun b5=>?_)
 ·have c9:(l.take 8==Ho)=false:=by rw[←Ce];exact Gs b5
  refine xsv 3 n1.blk [V0 0,V0 0,V0 0,V0 0,V0 0,V0 0,V0 0,V0 0,V0 0,V0 0,V0 0] fun W3 u3 k3=>?_
  have g1:=n1.ge (B4 w)
  have c0:=u3.below n1.below g1
  exact xec 5 k3 (.tuple #[.agg #[V0 0,V0 0,V0 0,V0 0,V0 0,V0 0,V0 0,V0 0,V0 0,V0 0,V0 0],V0 7]) (.inl ⟨by unfold Sb;simp_all,rfl,c0⟩)
 have c9:(l.take 8==Ho)=true:=by rw[←Ce];exact Hx b5
 refine xsL 5 (fun _ _ _ _ zo zx zy V=>Yc (k:=8) (b:=a) (n:=244) (c:=c) (i:=8) (ki:=.i64) 1 zo zx zy rfl (by omega) Tryz.underlying22 (by kernel_rfl) V) ?_
 refine xbs 0 12 [V0 4,V0 4,V0 4,V0 4,V0 4,V0 4,V0 4,V0 4,V0 4,V0 4,V0 4,V0 4] 3 fun b4 W4 n4=>?_
 have g4:=n4.ge n1.below
 have b2:=bln n1.below n4.below
 refine xc 0 (args:=#[.slice (Vp a 8 c 1) (244-8) (c-8),.slice (S1 b4) 12 12]) (Zdf (Vp a 8 c 1) (244-8) (c-8) (l.drop 8) (S1 b4) 12 12 [4,4,4,4,4,4,4,4,4,4,4,4] (Kd l) _ (by simp;omega) rfl (sup12_eq l) (by decide) (by decide) (by decide) (by decide) ((bysD h hl).below b2) (n4.blk.sl 12 12 (by decide) (by decide)) (unpL_lt _ _ _ (by decide))) ?_
 rintro _ W5 ⟨_,rfl,c7,p5,c5,rfl,h5⟩
 have d2:=(bln n1.below n4.below).size
 refine xd 8 (.t w.heap.size [30]) ?_
 have a0:=Zb (Zf h5 d2) (Za W5)
 refine xx (.e [0] 1) _ 12 1 1 (Zj (l:=Kd l) (Ze a0) rfl (k:=1) (by decide)).1 ?_
 refine xlt (.e [] 2) (.t w.heap.size [30]) (fun V hV=>(Zj (l:=Kd l) (Ze (Zi a0 hV.2 (by decide))) rfl (k:=1) (by decide)).2) ?_
 refine xx (.e [3] 4) _ 12 2 1 (Zj (l:=Kd l) (Ze a0) rfl (k:=2) (by decide)).1 ?_
 refine xlt (.e [] 5) (.t w.heap.size [30]) (fun V hV=>(Zj (l:=Kd l) (Ze (Zi a0 hV.2 (by decide))) rfl (k:=2) (by decide)).2) ?_
 refine xx (.e [6] 7) _ 12 3 1 (Zj (l:=Kd l) (Ze a0) rfl (k:=3) (by decide)).1 ?_
 refine xlt (.e [] 8) (.t w.heap.size [30]) (fun V hV=>(Zj (l:=Kd l) (Ze (Zi a0 hV.2 (by decide))) rfl (k:=3) (by decide)).2) ?_
 refine xx (.e [9] 10) _ 12 4 1 (Zj (l:=Kd l) (Ze a0) rfl (k:=4) (by decide)).1 ?_
 refine xlt (.e [] 11) (.t w.heap.size [30]) (fun V hV=>(Zj (l:=Kd l) (Ze (Zi a0 hV.2 (by decide))) rfl (k:=4) (by decide)).2) ?_
 refine xx (.e [12] 13) _ 12 5 1 (Zj (l:=Kd l) (Ze a0) rfl (k:=5) (by decide)).1 ?_
 refine xlt (.e [] 14) (.t w.heap.size [30]) (fun V hV=>(Zj (l:=Kd l) (Ze (Zi a0 hV.2 (by decide))) rfl (k:=5) (by decide)).2) ?_
 refine xx (.e [15] 16) _ 12 6 1 (Zj (l:=Kd l) (Ze a0) rfl (k:=6) (by decide)).1 ?_
 refine xlt (.e [] 17) (.t w.heap.size [30]) (fun V hV=>(Zj (l:=Kd l) (Ze (Zi a0 hV.2 (by decide))) rfl (k:=6) (by decide)).2) ?_
 refine xx (.e [18] 19) _ 12 7 1 (Zj (l:=Kd l) (Ze a0) rfl (k:=7) (by decide)).1 ?_
 refine xlt (.e [] 20) (.t w.heap.size [30]) (fun V hV=>(Zj (l:=Kd l) (Ze (Zi a0 hV.2 (by decide))) rfl (k:=7) (by decide)).2) ?_
 refine xx (.e [21] 22) _ 12 8 1 (Zj (l:=Kd l) (Ze a0) rfl (k:=8) (by decide)).1 ?_
 refine xlt (.e [] 23) (.t w.heap.size [30]) (fun V hV=>(Zj (l:=Kd l) (Ze (Zi a0 hV.2 (by decide))) rfl (k:=8) (by decide)).2) ?_
 refine xx (.e [24] 25) _ 12 9 1 (Zj (l:=Kd l) (Ze a0) rfl (k:=9) (by decide)).1 ?_
 refine xlt (.e [] 26) (.t w.heap.size [30]) (fun V hV=>(Zj (l:=Kd l) (Ze (Zi a0 hV.2 (by decide))) rfl (k:=9) (by decide)).2) ?_
 refine xx (.e [27] 28) _ 12 10 1 (Zj (l:=Kd l) (Ze a0) rfl (k:=10) (by decide)).1 ?_
 refine xlt (.e [] 29) (.t w.heap.size [30]) (fun V hV=>(Zj (l:=Kd l) (Ze (Zi a0 hV.2 (by decide))) rfl (k:=10) (by decide)).2) ?_
 refine xx (.e [30] 31) _ 12 11 1 (Zj (l:=Kd l) (Ze a0) rfl (k:=11) (by decide)).1 ?_
 refine xlt (.e [] 32) (.t w.heap.size [30]) (fun V hV=>(Zj (l:=Kd l) (Ze (Zi a0 hV.2 (by decide))) rfl (k:=11) (by decide)).2) ?_
 refine xa (.o [33] 34) [V0 0,V0 0,V0 0,V0 0,V0 0,V0 0,V0 0,V0 0,V0 0,V0 0,V0 0] 30 fun b6 W6 n6=>?_
 have k1:=((n1.blk.below n4.below).below c7).below (Za W5)
 have a2:=n6.ne k1
 have a6:=bln (bln b2 c7) (Za W5)
 have g6:=n6.ge a6
 refine ysv (.o [] 35) n6.blk [V0 (↑(Zh l 12 4):Int),V0 (↑(Zh l 16 4):Int),V0 (↑(Zh l 20 4):Int),V0 (↑(Zh l 24 4):Int),V0 (↑(Zh l 28 4):Int),V0 (↑(Zh l 32 4):Int),V0 (↑(Zh l 36 4):Int),V0 (↑(Zh l 40 4):Int),V0 (↑(Zh l 44 4):Int),V0 (↑(Zh l 48 4):Int),V0 (↑(Zh l 52 4):Int)] (.t w.heap.size [30]) fun W7 u7 k7=>⟨(Zt u7 n6.blk g6 (by decide)),?_⟩
 have b0:=u7.own2 (Zb a0 n6.below) n6.blk (by decide)
 refine xx 6 _ 12 0 1 (Zj (l:=Kd l) (Ze b0) rfl (k:=0) (by decide)).1 ?_
 refine xl 0 ((Zj (l:=Kd l) (Ze b0) rfl (k:=0) (by decide)).2) ?_
 refine xg 2 [61,62] ((↑(Zh l 8 4):Int) != (1:Int)) (fun a9=>?_) (fun a9=>?_)
 ·have a9:=Uu a9
  have c8:decide (Zh l 8 4=1)=false:=decide_eq_false (by omega)
  have c4:=u7.blk (k1.below n6.below) (Ne.symm (Ne.symm a2))
  refine xsv 16 c4 [V0 0,V0 0,V0 0,V0 0,V0 0,V0 0,V0 0,V0 0,V0 0,V0 0,V0 0] fun W9 u9 k9=>?_
  have g1:=n1.ge (B4 w)
  have c2:=u9.below (u7.below (bln a6 n6.below) g6) g1
  exact xec 5 k9 (.tuple #[.agg #[V0 0,V0 0,V0 0,V0 0,V0 0,V0 0,V0 0,V0 0,V0 0,V0 0,V0 0],V0 7]) (.inl ⟨by unfold Sb;simp_all,rfl,c2⟩)
 have a9:=Yo a9
 have c8:decide (Zh l 8 4=1)=true:=decide_eq_true (by omega)
 refine xsL 1 (fun _ _ _ _ zo zx zy V=>Yc (k:=56) (b:=a) (n:=244) (c:=c) (i:=56) (ki:=.i64) 1 zo zx zy rfl (by omega) Tryz.underlying22 (by kernel_rfl) V) ?_
 have a4:=u7.below (bln a6 n6.below) g6
 refine xr 0 (args:=#[.slice (Vp a 56 c 1) (244-56) (c-56)]) (ref_ZeroN (Vp a 56 c 1) (244-56) (c-56) (l.drop 56) _ (by simp;omega) (by decide) ((bysE h hl).below a4)) fun e0 a1=>?_
 refine xg 3 [66,67,68] (!(Qm (l.drop 56))) (fun a5=>?_) (fun a5=>?_)
 ·have d1:Qm (l.drop 56)=false:=Gs a5
  have b7:=(u7.blk (k1.below n6.below) (Ne.symm (Ne.symm a2))).below a1
  refine xsv 10 b7 [V0 0,V0 0,V0 0,V0 0,V0 0,V0 0,V0 0,V0 0,V0 0,V0 0,V0 0] fun e1 d9 d4=>?_
  have g1:=n1.ge (B4 w)
  have c3:=d9.below (bln a4 a1) g1
  exact xec 5 d4 (.tuple #[.agg #[V0 0,V0 0,V0 0,V0 0,V0 0,V0 0,V0 0,V0 0,V0 0,V0 0,V0 0],V0 7]) (.inl ⟨by unfold Sb;simp_all,rfl,c3⟩)
 have d1:Qm (l.drop 56)=true:=Hx a5
 have a8:=k7.below a1
 refine xlv 0 a8.rp ?_
 refine xr 0 (args:=#[.agg #[V0 (↑(Zh l 12 4):Int),V0 (↑(Zh l 16 4):Int),V0 (↑(Zh l 20 4):Int),V0 (↑(Zh l 24 4):Int),V0 (↑(Zh l 28 4):Int),V0 (↑(Zh l 32 4):Int),V0 (↑(Zh l 36 4):Int),V0 (↑(Zh l 40 4):Int),V0 (↑(Zh l 44 4):Int),V0 (↑(Zh l 48 4):Int),V0 (↑(Zh l 52 4):Int)]]) (Zc0 (Xe l) _ (Ze1 l).1 (Ze1 l).2) fun e4 a3=>?_
 refine xi 4 (!(Xc (Xe l))) (fun a7=>?_) (fun a7=>?_)
 ·have d0:Xc (Xe l)=false:=Gs a7
  have b8:=((u7.blk (k1.below n6.below) (Ne.symm (Ne.symm a2))).below a1).below a3
  refine xsv 3 b8 [V0 0,V0 0,V0 0,V0 0,V0 0,V0 0,V0 0,V0 0,V0 0,V0 0,V0 0] fun e3 d7 d6=>?_
  have g1:=n1.ge (B4 w)
  have c1:=d7.below (bln (bln a4 a1) a3) g1
  exact xec 5 d6 (.tuple #[.agg #[V0 0,V0 0,V0 0,V0 0,V0 0,V0 0,V0 0,V0 0,V0 0,V0 0,V0 0],V0 7]) (.inl ⟨by unfold Sb;simp_all,rfl,c1⟩)
 have d0:Xc (Xe l)=true:=Hx a7
 have b9:=a8.below a3
 refine xlv 4 b9.rp ?_
 have b3:=((u7.blk (k1.below n6.below) (Ne.symm (Ne.symm a2))).below a1).below a3
 refine xsv 0 b3 [V0 (↑(Zh l 12 4):Int),V0 (↑(Zh l 16 4):Int),V0 (↑(Zh l 20 4):Int),V0 (↑(Zh l 24 4):Int),V0 (↑(Zh l 28 4):Int),V0 (↑(Zh l 32 4):Int),V0 (↑(Zh l 36 4):Int),V0 (↑(Zh l 40 4):Int),V0 (↑(Zh l 44 4):Int),V0 (↑(Zh l 48 4):Int),V0 (↑(Zh l 52 4):Int)] fun e2 d8 d5=>?_
 have g1:=n1.ge (B4 w)
 have c6:=d8.below (bln (bln a4 a1) a3) g1
 exact xec 4 d5 (.tuple #[.agg #[V0 (↑(Zh l 12 4):Int),V0 (↑(Zh l 16 4):Int),V0 (↑(Zh l 20 4):Int),V0 (↑(Zh l 24 4):Int),V0 (↑(Zh l 28 4):Int),V0 (↑(Zh l 32 4):Int),V0 (↑(Zh l 36 4):Int),V0 (↑(Zh l 40 4):Int),V0 (↑(Zh l 44 4):Int),V0 (↑(Zh l 48 4):Int),V0 (↑(Zh l 52 4):Int)],V0 0]) (.inr ⟨by unfold Sb;rw[c9,c8,d1,d0];rfl,rfl,c6⟩)
def RBlkSupP(l:Bl)(w:World)(e:Ending)(w':World):Prop :=
 (Qo l≠0∧∃ a c,e=.returned (.tuple #[.agg #[V0 0,V0 0,V0 0,V0 0,V0 0,V0 0,V0 0,V0 0,V0 0,V0 0,V0 0],.agg #[.slice a 1 c,V0 (Qo l)]])∧B3 w w'∧w'.ownsRow w.heap.size 3 1 (.slice a 1 c) 1 [V0 0]) ∨
 (Qo l=0∧e=.returned (.tuple #[.agg #[V0 ((Xe (inB l 0)).tx),V0 ((Xe (inB l 0)).time),V0 ((Xe (inB l 0)).unit),V0 ((Xe (inB l 0)).data),V0 ((Xe (inB l 0)).blocks),V0 ((Xe (inB l 0)).top),V0 ((Xe (inB l 0)).details),V0 ((Xe (inB l 0)).dslots),V0 ((Xe (inB l 0)).dover),V0 ((Xe (inB l 0)).mindex),V0 ((Xe (inB l 0)).mover)],.agg #[S0,V0 0]])∧B3 w w')
theorem Zdp(B bm:Nat)(p:O0)(k c:Nat)(l:Bl)(w:World)(hI:RefI B bm p k c l w) :
 C0 25 #[P0 bm] w (RBlkSupP l w):=by
 have f3:=hI.blk
 have e9:l.length/256=k:=by rw[hI.hl];omega
 refine zin 40 Tryz.func25 ?_
 refine xa 2 [V0 0,V0 0,V0 0,V0 0,V0 0,V0 0,V0 0,V0 0,V0 0,V0 0,V0 0] 30 fun b1 W1 n1=>?_
 refine xa 0 [S0,V0 0] 72 fun b2 W2 n2=>?_
 have hB:=bln n1.below n2.below
 refine xc 5 (args:=#[P0 bm,V0 0,V0 1]) (ref11_in B bm p k c l _ (hI.below hB) 0 1) ?_
 rintro e W3 f1
 rcases f1 with ⟨a9,rfl,a1⟩|⟨a9,e6,p3,c3,rfl,a1,h3⟩
 ·refine xk 14 (show(((inE l 1 0) != (0:Int)):Bool)=true from bne_iff_ne.2 a9) ?_
  refine xc 4 (args:=#[V0 0,V0 (inE l 1 0)]) (Fw 0 (inE l 1 0) _ a9) ?_
  rintro _ W4 ⟨_,rfl,e1,a5,c5,rfl,b7⟩
  have g3:=(bln hB a1).size
  have k1:=((n1.blk.below n2.below).below a1).below e1
  refine xsv 0 k1 [V0 0,V0 0,V0 0,V0 0,V0 0,V0 0,V0 0,V0 0,V0 0,V0 0,V0 0] fun W5 u5 k5=>?_
  have g1:=n1.ge (B4 w)
  have k2:=u5.blkT ((n2.blk.below a1).below e1) k1 (by decide)
  refine xsv 0 k2 [.slice a5 1 c5,V0 (inE l 1 0)] fun W6 u6 k6=>?_
  have g2:=n2.ge n1.below
  have e2:=u6.below (u5.below (bln (bln hB a1) e1) g1) g2
  have c6:=u6.own2 (u5.own2 (Zf b7 g3) k1 (by decide)) k2 (by decide)
  have d8:=u6.blkT k5 k2 (by decide)
  refine xecm 4 [(b1,[V0 0,V0 0,V0 0,V0 0,V0 0,V0 0,V0 0,V0 0,V0 0,V0 0,V0 0]),(b2,[.slice a5 1 c5,V0 (inE l 1 0)])] ⟨⟨_,d8⟩,⟨_,k6⟩,trivial⟩ (.tuple #[.agg #[V0 0,V0 0,V0 0,V0 0,V0 0,V0 0,V0 0,V0 0,V0 0,V0 0,V0 0],.agg #[.slice a5 1 c5,V0 (inE l 1 0)]]) ?_
  have he:Qo l=(inE l 1 0):=by unfold Qo;rw[if_neg a9]
  exact .inl ⟨by rw[he];exact a9,_,_,by rw[he],e2,c6⟩
 have f7:=(bln n1.below n2.below).size
 have d9:=Zf h3 f7
 refine xc 20 (args:=#[.slice p3 244 c3]) (Zga p3 c3 (inB l 0) _ e6 (Yi (Ze d9) e6)) ?_
 rintro e W7 g0
 rcases g0 with ⟨d0,rfl,a6⟩|⟨d0,rfl,a6⟩
 ·refine xa 3 [V0 0,V0 0,V0 0,V0 0,V0 0,V0 0,V0 0,V0 0,V0 0,V0 0,V0 0] 30 fun b8 W8 n8=>?_
  have k1:=((n1.blk.below n2.below).below a1).below a6
  have b9:=n8.ne k1
  have b6:=bln (bln hB a1) a6
  have g8:=n8.ge b6
  refine xsv 0 n8.blk [V0 0,V0 0,V0 0,V0 0,V0 0,V0 0,V0 0,V0 0,V0 0,V0 0,V0 0] fun W9 u9 k9=>?_
  refine xc 15 (args:=#[V0 0,V0 7]) (Fw 0 7 _ (by decide)) ?_
  rintro _ g5 ⟨_,rfl,b0,a5,c5,rfl,b7⟩
  have e5:=(u9.below (bln b6 n8.below) g8).size
  have b5:=(u9.blk (k1.below n8.below) (Ne.symm (Ne.symm b9))).below b0
  refine xsv 0 b5 [V0 0,V0 0,V0 0,V0 0,V0 0,V0 0,V0 0,V0 0,V0 0,V0 0,V0 0] fun h0 d5 f6=>?_
  have g1:=n1.ge (B4 w)
  have k2:=d5.blkT ((u9.blkT (((n2.blk.below a1).below a6).below n8.below) n8.blk (by decide)).below b0) b5 (by decide)
  refine xsv 0 k2 [.slice a5 1 c5,V0 7] fun g6 e4 f4=>?_
  have g2:=n2.ge n1.below
  have d7:=e4.below (d5.below (bln (u9.below (bln b6 n8.below) g8) b0) g1) g2
  have c7:=e4.own2 (d5.own2 (Zf b7 e5) b5 (by decide)) k2 (by decide)
  have c9:=e4.blkT f6 k2 (by decide)
  refine xecm 4 [(b1,[V0 0,V0 0,V0 0,V0 0,V0 0,V0 0,V0 0,V0 0,V0 0,V0 0,V0 0]),(b2,[.slice a5 1 c5,V0 7])] ⟨⟨_,c9⟩,⟨_,f4⟩,trivial⟩ (.tuple #[.agg #[V0 0,V0 0,V0 0,V0 0,V0 0,V0 0,V0 0,V0 0,V0 0,V0 0,V0 0],.agg #[.slice a5 1 c5,V0 7]]) ?_
  have he:Qo l=7:=by unfold Qo supTE;rw[if_pos a9,d0,if_neg (by decide)]
  exact .inl ⟨by rw[he];decide,_,_,by rw[he],d7,c7⟩
 refine xa 3 [V0 0,V0 0,V0 0,V0 0,V0 0,V0 0,V0 0,V0 0,V0 0,V0 0,V0 0] 30 fun g7 h5 a0=>?_
 have k1:=((n1.blk.below n2.below).below a1).below a6
 have a2:=a0.ne k1
 have a4:=bln (bln hB a1) a6
 have d4:=a0.ge a4
 refine xsv 0 a0.blk [V0 ((Xe (inB l 0)).tx),V0 ((Xe (inB l 0)).time),V0 ((Xe (inB l 0)).unit),V0 ((Xe (inB l 0)).data),V0 ((Xe (inB l 0)).blocks),V0 ((Xe (inB l 0)).top),V0 ((Xe (inB l 0)).details),V0 ((Xe (inB l 0)).dslots),V0 ((Xe (inB l 0)).dover),V0 ((Xe (inB l 0)).mindex),V0 ((Xe (inB l 0)).mover)] fun a3 a7 f9=>?_
 refine xd 15 .z ?_
 have a8:=f9.below (Za a3)
 refine xb (.e [0] 1) 4 a8 ?_
 have c1:=(a7.blkT (((((f3.below n1.below).below n2.below).below a1).below a6).below a0.below) a0.blk (by decide)).below (Za a3)
 refine xb (.e [2,3,4] 5) 0 c1 ?_
 refine xid (.r [6,7] 2) ((Xe (inB l 0)).blocks>(k:Int)) (fun d3=>?_) (fun d3=>?_)
 ·refine xc 3 (args:=#[V0 0,V0 2]) (Fw 0 2 _ (by decide)) ?_
  rintro _ h2 ⟨_,rfl,b4,a5,c5,rfl,b7⟩
  have d6:=(bln (a7.below (bln a4 a0.below) d4) (Za a3)).size
  have b3:=((a7.blk (k1.below a0.below) (Ne.symm (Ne.symm a2))).below (Za a3)).below b4
  refine xsv 0 b3 [V0 0,V0 0,V0 0,V0 0,V0 0,V0 0,V0 0,V0 0,V0 0,V0 0,V0 0] fun h1 d1 f2=>?_
  have g1:=n1.ge (B4 w)
  have k2:=d1.blkT (((a7.blkT (((n2.blk.below a1).below a6).below a0.below) a0.blk (by decide)).below (Za a3)).below b4) b3 (by decide)
  refine xsv 0 k2 [.slice a5 1 c5,V0 2] fun h6 d2 f0=>?_
  have g2:=n2.ge n1.below
  have e0:=d2.below (d1.below (bln (bln (a7.below (bln a4 a0.below) d4) (Za a3)) b4) g1) g2
  have c8:=d2.own2 (d1.own2 (Zf b7 d6) b3 (by decide)) k2 (by decide)
  have c0:=d2.blkT f2 k2 (by decide)
  refine xecm 4 [(b1,[V0 0,V0 0,V0 0,V0 0,V0 0,V0 0,V0 0,V0 0,V0 0,V0 0,V0 0]),(b2,[.slice a5 1 c5,V0 2])] ⟨⟨_,c0⟩,⟨_,f0⟩,trivial⟩ (.tuple #[.agg #[V0 0,V0 0,V0 0,V0 0,V0 0,V0 0,V0 0,V0 0,V0 0,V0 0,V0 0],.agg #[.slice a5 1 c5,V0 2]]) ?_
  have he:Qo l=2:=by unfold Qo supTE;rw[if_pos a9,if_pos d0,e9,if_pos (by omega)]
  exact .inl ⟨by rw[he];decide,_,_,by rw[he],e0,c8⟩
 refine xlv 4 a8.rp ?_
 have c2:=(a7.blk (k1.below a0.below) (Ne.symm (Ne.symm a2))).below (Za a3)
 refine xsv 1 c2 [V0 ((Xe (inB l 0)).tx),V0 ((Xe (inB l 0)).time),V0 ((Xe (inB l 0)).unit),V0 ((Xe (inB l 0)).data),V0 ((Xe (inB l 0)).blocks),V0 ((Xe (inB l 0)).top),V0 ((Xe (inB l 0)).details),V0 ((Xe (inB l 0)).dslots),V0 ((Xe (inB l 0)).dover),V0 ((Xe (inB l 0)).mindex),V0 ((Xe (inB l 0)).mover)] fun g9 e8 f5=>?_
 have g1:=n1.ge (B4 w)
 have k2:=e8.blkT ((a7.blkT (((n2.blk.below a1).below a6).below a0.below) a0.blk (by decide)).below (Za a3)) c2 (by decide)
 refine xsv 0 k2 [S0,V0 0] fun h4 e7 f8=>?_
 have g2:=n2.ge n1.below
 have e3:=e7.below (e8.below (bln (a7.below (bln a4 a0.below) d4) (Za a3)) g1) g2
 have c4:=e7.blkT f5 k2 (by decide)
 exact xecm 3 [(b1,[V0 ((Xe (inB l 0)).tx),V0 ((Xe (inB l 0)).time),V0 ((Xe (inB l 0)).unit),V0 ((Xe (inB l 0)).data),V0 ((Xe (inB l 0)).blocks),V0 ((Xe (inB l 0)).top),V0 ((Xe (inB l 0)).details),V0 ((Xe (inB l 0)).dslots),V0 ((Xe (inB l 0)).dover),V0 ((Xe (inB l 0)).mindex),V0 ((Xe (inB l 0)).mover)]),(b2,[S0,V0 0])] ⟨⟨_,c4⟩,⟨_,f8⟩,trivial⟩ (.tuple #[.agg #[V0 ((Xe (inB l 0)).tx),V0 ((Xe (inB l 0)).time),V0 ((Xe (inB l 0)).unit),V0 ((Xe (inB l 0)).data),V0 ((Xe (inB l 0)).blocks),V0 ((Xe (inB l 0)).top),V0 ((Xe (inB l 0)).details),V0 ((Xe (inB l 0)).dslots),V0 ((Xe (inB l 0)).dover),V0 ((Xe (inB l 0)).mindex),V0 ((Xe (inB l 0)).mover)],.agg #[S0,V0 0]]) (.inr ⟨by unfold Qo supTE;rw[if_pos a9,if_pos d0,e9,if_neg (by omega)],rfl,e3⟩)
def bitR(l:Bl)(no:Int):List Int:=if Ys l no=0 then bitI (inB l no) (Zh (inB l no) 0 4) else []
def Un(l:Bl)(no:Int):List (Nat×Nat×Nat):=if Qv l no=0 then Bj (inB l no) (Zh (inB l no) 0 4) else []
theorem Zdg{l:Bl}{no:Int}(h:Ys l no=0):bitR l no=bitI (inB l no) (Zh (inB l no) 0 4)∧(bitR l no).length=Zh (inB l no) 0 4:=by unfold bitR;rw[if_pos h];exact⟨rfl,Ze4 _ _⟩
theorem Fy{l:Bl}{no:Int}(h:Qv l no=0):Un l no=Bj (inB l no) (Zh (inB l no) 0 4)∧(Un l no).length=Zh (inB l no) 0 4:=by unfold Un;rw[if_pos h];exact⟨rfl,Zbx _ _⟩
theorem idxR_bad{l:Bl}{no:Int}(h:Qv l no≠0):Un l no=[]:=if_neg h
theorem bitI_map(l:Bl)(n:Nat):(bitI l n).map V0=(Em l n).map nv:=by simp[bitI,nv]
def Zea(cs:List Nat)(k:Int):List Nat:=cs.set k.toNat (cs.getD k.toNat 0+1)
def zer (cs:List Nat):Nat:=cs.count 0
def phi (cs:List Nat):Nat:=cs.sum+2001*zer cs
theorem Af(cs:List Nat)(k:Int):(Zea cs k).length=cs.length:=by simp[Zea]
theorem sum_set{cs:List Nat}{k:Nat}(h:k<cs.length)(v:Nat):(cs.set k v).sum+cs.getD k 0=cs.sum+v:=by
 induction cs generalizing k with
 | nil=>exact absurd h (by simp)
 | cons a cs ih =>
  cases k with
  | zero=>simp[List.getD];omega
  | succ k =>
   have:=ih (k:=k) (by simpa using h)
   simp only[List.set_cons_succ,List.sum_cons,List.getD_cons_succ]
   omega
theorem bump_sum{cs:List Nat}{k:Int}(h0:0≤k)(h:k<cs.length):(Zea cs k).sum=cs.sum+1:=by
 have:=sum_set (cs:=cs) (k:=k.toNat) (by omega) (cs.getD k.toNat 0+1)
 unfold Zea;omega
end Go.Proofs.YtceeiinepijokaaGreat
namespace Go.Proofs.YtceeiinepijokaaGreat
set_option maxHeartbeats 8000000
set_option maxRecDepth 100000
set_option linter.unusedVariables false
abbrev Rx:=Int×Int×Int
def valX(no t:Int)(leaf:Bool)(v:Bl):Rx :=
 if leaf=true∧t=4 then(if Qi Xs v≠0 then(no,7,Qi Xs v) else(((Qf Xs v).getD 0 0:Nat),7,0))
 else if Nb v≠0 then(no,(if leaf then 2 else t),Nb v) else((Mg v:Int),(if leaf then 2 else t),0)
def Zb4(t:Int)(leaf:Bool):Prop:=leaf=true∧t≠1∧t≠4
instance (t:Int) (leaf:Bool):Decidable (Zb4 t leaf):=inferInstanceAs (Decidable (_∧_∧_))
def Sd(l:Bl)(no ak:Int):Int:=if ak=6 then Qv l no else if ak=7 then Ys l no else Xv l no ak
def nodX(l:Bl)(no:Int):List Rx:=if Zb4 (Ql (inB l no)) (Qr (inB l no)) then [] else(Uq l no).map (valX no (Ql (inB l no)) (Qr (inB l no)))
def sltRx(s:Nat×Nat×Nat):Rx:=((s.1:Int),7,0)
def hasL(l:Bl)(no ak:Int):List Rx:=if ak=6 then(Un l no).map sltRx else if ak=7 then [] else nodX l no
theorem maxC(l:Bl)(no ak:Int)(h:Xv l no ak=0):Xq (inB l no)≤18:=Nat.le_trans (Fk (Zb9 (Ew (Tk h).2))) (maxG_18 _ _)
theorem Zej(l:Bl)(no:Int):(Un l no).length≤255:=by
 by_cases h:Qv l no=0
 ·rw[(Fy h).2]
  unfold Qv at h
  by_cases h1:inE l 4 no=0
  ·rw[if_pos h1] at h
   unfold Oj at h
   by_cases h2:As (inB l no)=true
   ·have h3:(decide (Zh (inB l no) 0 4≤15)&&_)=true:=h2
    rw[Bool.and_eq_true] at h3
    have:=of_decide_eq_true h3.1
    omega
   ·rw[if_neg h2] at h;omega
  ·rw[if_neg h1] at h;exact absurd h h1
 ·rw[idxR_bad h];exact Nat.zero_le _
theorem hasL_few{l:Bl}{no ak:Int}(h:Sd l no ak=0):(hasL l no ak).length≤1000:=by
 unfold Sd at h;unfold hasL
 split
 ·rw[List.length_map];have:=Zej l no;omega
 ·rename_i h6
  rw[if_neg h6] at h
  split
  ·exact Nat.zero_le _
  ·rename_i h7
   rw[if_neg h7] at h
   unfold nodX
   split
   ·exact Nat.zero_le _
   ·rw[List.length_map]
    have:=maxC l no ak h
    unfold Uq;rw[Wc];omega
end Go.Proofs.YtceeiinepijokaaGreat
namespace Go.Proofs.YtceeiinepijokaaGreat
set_option maxHeartbeats 8000000
set_option maxRecDepth 100000
set_option linter.unusedVariables false
abbrev Lk:=Int×Int×Int×Int
abbrev Kx:=List Lk×List Int×Int
def Ky(out:List Lk)(no:Int):Bool:=out.any fun x=>decide (x.2.1=no)
def Px(no t:Int)(leaf:Bool)(v:Bl):Lk :=
 if leaf=true∧t=4 then(no,((Qf Xs v).getD 0 0:Nat),7,Qi Xs v) else(no,(Mg v:Int),(if leaf then 2 else t),Nb v)
def Ta(no:Int)(s:Nat×Nat×Nat):Lk:=(no,(s.1:Int),7,0)
def Zfc(l:Bl)(no:Int):List Lk:=if Zb4 (Ql (inB l no)) (Qr (inB l no)) then [] else(Uq l no).map (Px no (Ql (inB l no)) (Qr (inB l no)))
def On(l:Bl)(no ak:Int):List Lk:=if ak=6 then(Un l no).map (Ta no) else if ak=7 then [] else Zfc l no
def Qd(f:List Lk→Lk→Kx):List Lk→List Lk→Kx
 | out,[]=>(out,[],0)
 | out,x::r=>if(f out x).2.2≠0 then f out x else Qd f (f out x).1 r
def Xu(l:Bl)(n:Nat):Nat→List Lk→Lk→Kx
 | 0,out,x=>(out,[],0)
 | d+1,out,x =>
  if x.2.2.2≠0 then(out,[x.1],x.2.2.2)
  else if ¬ (0≤x.2.1∧x.2.1<n) then(out,[x.2.1],3)
  else if Ky out x.2.1=true then(out++[x],[],0)
  else if Sd l x.2.1 x.2.2.1≠0 then(out++[x],[x.2.1],Sd l x.2.1 x.2.2.1)
  else Qd (Xu l n d) (out++[x]) (On l x.2.1 x.2.2.1)
theorem Ga(f:List Lk→Lk→Kx)(out:List Lk):Qd f out []=(out,[],0):=rfl
theorem Qq(f:List Lk→Lk→Kx)(out:List Lk)(x:Lk)(r:List Lk):Qd f out (x::r)=if(f out x).2.2≠0 then f out x else Qd f (f out x).1 r:=rfl
theorem Hi(f:List Lk→Lk→Kx):∀ (A B:List Lk) (out:List Lk),Qd f out (A++B)=if(Qd f out A).2.2≠0 then Qd f out A else Qd f (Qd f out A).1 B
 | [],B,out=>by simp[Qd]
 | x::A,B,out=>by
  rw[List.cons_append,Qq,Qq]
  by_cases h:(f out x).2.2≠0
  ·rw[if_pos h,if_pos h,if_pos h]
  ·rw[if_neg h,if_neg h]
   exact Hi f A B _
theorem Bb(out:List Lk)(x:Lk)(no:Int):Ky (out++[x]) no=(Ky out no||decide (x.2.1=no)):=by
 unfold Ky;simp
def unt (out:List Lk):Nat→Nat
 | 0=>0
 | n+1=>unt out n+if Ky out (n:Int)=true then 0 else 1
theorem unt_le(out:List Lk):∀ n,unt out n≤n
 | 0=>Nat.le_refl _
 | n+1=>by
  have:=unt_le out n
  unfold unt
  split<;>omega
theorem Ak(out:List Lk)(x:Lk):∀ n:Nat,unt (out++[x]) n+(if(0≤x.2.1∧x.2.1<n)∧Ky out x.2.1=false then 1 else 0)=unt out n
 | 0=>by
  rw[if_neg (fun q=>by have:=q.1;omega)];rfl
 | n+1=>by
  have ih:=Ak out x n
  unfold unt
  rw[Bb]
  by_cases h:x.2.1=(n:Int)
  ·rw[if_neg (fun q=>by have:=q.1;omega)] at ih
   rw[h]
   simp only[decide_true,Bool.or_true,if_true]
   cases ht:Ky out (n:Int) with
   | true=>rw[if_neg (fun q=>by cases q.2),if_pos rfl];omega
   | false=>rw[if_pos ⟨by omega,rfl⟩,if_neg (by decide)];omega
  ·rw[decide_eq_false h,Bool.or_false]
   have e:((0≤x.2.1∧x.2.1<((n+1:Nat):Int))∧Ky out x.2.1=false)↔((0≤x.2.1∧x.2.1<(n:Int))∧Ky out x.2.1=false):=by
    constructor<;>rintro⟨q,r⟩<;>exact⟨by omega,r⟩
   have e2:(if(0≤x.2.1∧x.2.1<((n+1:Nat):Int))∧Ky out x.2.1=false then 1 else 0)=if(0≤x.2.1∧x.2.1<(n:Int))∧Ky out x.2.1=false then 1 else 0:=by
    by_cases q:(0≤x.2.1∧x.2.1<(n:Int))∧Ky out x.2.1=false
    ·rw[if_pos q,if_pos (e.2 q)]
    ·rw[if_neg q,if_neg (fun r=>q (e.1 r))]
   rw[e2]
   omega
theorem Vg{out:List Lk}{x:Lk}{n:Nat}(h:0≤x.2.1∧x.2.1<n)(ht:Ky out x.2.1=false):unt (out++[x]) n+1=unt out n:=by
 have:=Ak out x n
 rwa [if_pos ⟨h,ht⟩] at this
theorem unt_mono(out:List Lk)(x:Lk)(n:Nat):unt (out++[x]) n≤unt out n:=by have:=Ak out x n;omega
def Qg(n:Nat)(out:List Lk):Nat:=out.length+1001*unt out n
structure WellK(n:Nat)(out:List Lk)(m:Nat)(o:Kx):Prop where
 unt:unt o.1 n≤unt out n
 phi:Qg n o.1≤Qg n out+m
theorem WellK.refl(n:Nat)(out:List Lk)(m:Nat)(b:List Int)(e:Int):WellK n out m (out,b,e):=⟨Nat.le_refl _,Nat.le_add_right _ _⟩
theorem WellK.mono{n m k:Nat}{out:List Lk}{o:Kx}(h:WellK n out m o)(hm:m≤k):WellK n out k o:=⟨h.unt,by have:=h.phi;omega⟩
theorem WellK.trans{n m k:Nat}{out:List Lk}{o o2:Kx}(h:WellK n out m o)(q:WellK n o.1 k o2):WellK n out (m+k) o2:=⟨Nat.le_trans q.unt h.unt,by have:=h.phi;have:=q.phi;omega⟩
theorem By{n:Nat}{f:List Lk→Lk→Kx}(hf:∀ out x,WellK n out 1 (f out x)):∀ (L:List Lk) (out:List Lk),WellK n out L.length (Qd f out L)
 | [],out=>WellK.refl n out _ _ _
 | x::r,out=>by
  rw[Qq]
  split
  ·exact(hf out x).mono (by simp)
  ·have:=(hf out x).trans (By hf r (f out x).1)
   exact this.mono (by simp;omega)
theorem hasJ_few{l:Bl}{no ak:Int}(h:Sd l no ak=0):(On l no ak).length≤1000:=by
 have h2:=hasL_few h
 unfold On
 unfold hasL at h2
 split
 ·rename_i h6;rw[if_pos h6] at h2;rwa [List.length_map] at h2 ⊢
 ·rename_i h6
  rw[if_neg h6] at h2
  split
  ·exact Nat.zero_le _
  ·rename_i h7
   rw[if_neg h7] at h2
   unfold Zfc
   unfold nodX at h2
   split
   ·exact Nat.zero_le _
   ·rename_i h8;rw[if_neg h8] at h2;rwa [List.length_map] at h2 ⊢
theorem Pd(l:Bl)(n:Nat):∀ (d:Nat) (out:List Lk) (x:Lk),WellK n out 1 (Xu l n d out x)
 | 0,out,x=>WellK.refl n out _ _ _
 | d+1,out,x=>by
  unfold Xu
  split
  ·exact WellK.refl n out _ _ _
  ·split
   ·exact WellK.refl n out _ _ _
   ·rename_i h1 h2
    have h2:0≤x.2.1∧x.2.1<n:=Classical.not_not.1 h2
    have hm:=unt_mono out x n
    have hb:WellK n out 1 (out++[x],([]:List Int),0):=⟨hm,by show Qg n (out++[x])≤_;unfold Qg;rw[List.length_append];simp only[List.length_cons,List.length_nil];omega⟩
    split
    ·exact hb
    ·rename_i h3
     have hz:=Vg h2 (Bool.eq_false_iff.2 h3)
     split
     ·exact⟨hb.unt,hb.phi⟩
     ·rename_i h4
      have hw:=By (Pd l n d) (On l x.2.1 x.2.2.1) (out++[x])
      have hf:=hasJ_few (Classical.not_not.1 h4)
      refine⟨Nat.le_trans hw.unt hm,?_⟩
      have:=hw.phi
      unfold Qg at this ⊢
      rw[List.length_append] at this
      simp only[List.length_cons,List.length_nil] at this
      omega
theorem Me{n m:Nat}{f g:List Lk→Lk→Kx}(hf:∀ out x,WellK n out 1 (f out x))(h:∀ out x,unt out n≤m→f out x=g out x):∀ (L:List Lk) (out:List Lk),unt out n≤m→Qd f out L=Qd g out L
 | [],out,_=>rfl
 | x::r,out,hn=>by
  rw[Qq,Qq,h out x hn]
  split
  ·rfl
  ·have:=(hf out x).unt
   rw[h out x hn] at this
   exact Me hf h r _ (Nat.le_trans this hn)
theorem Sq(l:Bl)(n:Nat):∀ (d d':Nat) (out:List Lk) (x:Lk),unt out n<d→unt out n<d'→Xu l n d out x=Xu l n d' out x
 | 0,_,_,_,h,_=>absurd h (by omega)
 | _+1,0,_,_,_,h=>absurd h (by omega)
 | d+1,d'+1,out,x,h,h'=>by
  unfold Xu
  by_cases h1:x.2.2.2≠0
  ·rw[if_pos h1,if_pos h1]
  ·rw[if_neg h1,if_neg h1]
   by_cases h2:¬ (0≤x.2.1∧x.2.1<n)
   ·rw[if_pos h2,if_pos h2]
   ·rw[if_neg h2,if_neg h2]
    by_cases h3:Ky out x.2.1=true
    ·rw[if_pos h3,if_pos h3]
    ·rw[if_neg h3,if_neg h3]
     by_cases h4:Sd l x.2.1 x.2.2.1≠0
     ·rw[if_pos h4,if_pos h4]
     ·rw[if_neg h4,if_neg h4]
      have hz:=Vg (Classical.not_not.1 h2) (Bool.eq_false_iff.2 h3)
      exact Me (n:=n) (m:=unt (out++[x]) n) (Pd l n d) (fun o' x' hn=>Sq l n d d' o' x' (by omega) (by omega)) _ _ (Nat.le_refl _)
def Zd2(l:Bl)(n:Nat)(out:List Lk)(L:List Lk):Kx:=Qd (Xu l n (n+1)) out L
variable {l:List UInt8} {n:Nat} {out:List Lk} {x:Lk} {r:List Lk}
theorem Zcx(h:x.2.2.2=0)(h2:0≤x.2.1∧x.2.1<n)(h3:Ky out x.2.1=false)(h4:Sd l x.2.1 x.2.2.1=0):Zd2 l n out (x::r)=Zd2 l n (out++[x]) (On l x.2.1 x.2.2.1++r):=by
 have hz:=Vg h2 h3
 have a0:=unt_le out n
 have e:Xu l n (n+1) out x=Qd (Xu l n (n+1)) (out++[x]) (On l x.2.1 x.2.2.1):=by
  conv=>lhs;unfold Xu
  rw[if_neg (fun q=>q h),if_neg (fun q=>q h2),if_neg (by rw[h3];decide),if_neg (fun q=>q h4)]
  exact Me (n:=n) (m:=unt (out++[x]) n) (Pd l n _) (fun o' x' hn=>Sq l n _ _ o' x' (by omega) (by omega)) _ _ (Nat.le_refl _)
 unfold Zd2
 rw[Qq,e,Hi]
def Kj(f:List Lk→Lk→Kx)(o:List Lk)(L:List Lk)(c:List Lk):Prop:=(Qd f o L).2.2=0∧(Qd f o L).1=c
theorem Kj.nil(f:List Lk→Lk→Kx)(o:List Lk):Kj f o [] o:=⟨rfl,rfl⟩
theorem Kj.next{f:List Lk→Lk→Kx}{o c L:List Lk}(h:Kj f o L c){x:Lk}(h2:(f c x).2.2=0):Kj f o (L++[x]) (f c x).1:=by
 have e:Qd f o (L++[x])=Qd f (Qd f o L).1 [x]:=by rw[Hi,if_neg (fun q=>q h.1)]
 rw[h.2,Qq,if_neg (fun q=>q h2)] at e
 unfold Kj
 rw[e];exact⟨rfl,rfl⟩
theorem Kj.bad{f:List Lk→Lk→Kx}{o c L:List Lk}(h:Kj f o L c){x:Lk}(h2:(f c x).2.2≠0)(r:List Lk):Qd f o (L++x::r)=f c x:=by
 rw[Hi,if_neg (fun q=>q h.1),h.2,Qq,if_pos h2]
theorem Kj.well{d:Nat}{o c L:List Lk}(h:Kj (Xu l n d) o L c):unt c n≤unt o n∧Qg n c≤Qg n o+L.length:=by
 have hw:=By (Pd l n d) L o
 rw[←h.2]
 exact⟨hw.unt,hw.phi⟩
def Nq(l:Bl)(no:Int)(i:Nat):List Lk:=if Zb4 (Ql (inB l no)) (Qr (inB l no)) then [] else((Uq l no).take i).map (Px no (Ql (inB l no)) (Qr (inB l no)))
theorem Zf7(l:Bl)(no:Int):Nq l no 0=[]:=by unfold Nq;split<;>simp
theorem takeJ_all(l:Bl)(no:Int):Nq l no (Uq l no).length=Zfc l no:=by unfold Nq Zfc;rw[List.take_length]
theorem takeJ_len(l:Bl)(no:Int)(i:Nat):(Nq l no i).length≤i:=by
 unfold Nq
 split
 ·exact Nat.zero_le _
 ·rw[List.length_map,List.length_take];exact Nat.min_le_left _ _
theorem Zg6{no:Int}{i:Nat}(hi:i<(Uq l no).length)(hd:¬ Zb4 (Ql (inB l no)) (Qr (inB l no))):Nq l no (i+1)=Nq l no i++[Px no (Ql (inB l no)) (Qr (inB l no)) ((Uq l no).getD i [])]:=by
 unfold Nq
 rw[if_neg hd,if_neg hd,List.take_succ_eq_append_getElem hi,List.map_append,show(Uq l no).getD i []=(Uq l no)[i] from by simp[List.getD,hi]];rfl
theorem Fs{no:Int}{i:Nat}(hi:i<(Uq l no).length)(hd:¬ Zb4 (Ql (inB l no)) (Qr (inB l no))):Zfc l no=Nq l no i++Px no (Ql (inB l no)) (Qr (inB l no)) ((Uq l no).getD i [])::((Uq l no).drop (i+1)).map (Px no (Ql (inB l no)) (Qr (inB l no))):=by
 unfold Nq Zfc
 rw[if_neg hd,if_neg hd,show(Uq l no).getD i []=(Uq l no)[i] from by simp[List.getD,hi],←List.map_cons,←List.map_append,←List.drop_eq_getElem_cons hi,List.take_append_drop]
theorem sltK_take{no:Int}{L:List (Nat×Nat×Nat)}{i:Nat}(hi:i<L.length):(L.take (i+1)).map (Ta no)=(L.take i).map (Ta no)++[Ta no (L.getD i (0,0,0))]:=by
 rw[List.take_succ_eq_append_getElem hi,List.map_append,show L.getD i (0,0,0)=L[i] from by simp[List.getD,hi]];rfl
theorem sltK_split{no:Int}{L:List (Nat×Nat×Nat)}{i:Nat}(hi:i<L.length):L.map (Ta no)=(L.take i).map (Ta no)++Ta no (L.getD i (0,0,0))::(L.drop (i+1)).map (Ta no):=by
 rw[show L.getD i (0,0,0)=L[i] from by simp[List.getD,hi]]
 rw[←List.map_cons,←List.map_append,←List.drop_eq_getElem_cons hi,List.take_append_drop]
def supKs(s:Sup):List Lk:=[(0,s.top,1,0),(0,s.details,3,0),(0,s.dslots,4,0),(0,s.dover,5,0),(0,s.mindex,6,0),(0,s.mover,5,0)]
def Re(l:Bl)(s:Sup):Kx:=if Xc s=false then([],[],1) else Zd2 l s.blocks.toNat [] (supKs s)
end Go.Proofs.YtceeiinepijokaaGreat
namespace Go.Proofs.YtceeiinepijokaaGreat
set_option maxHeartbeats 8000000
set_option maxRecDepth 100000
open Go.RowKit Go.Extern.Stop Go.Stop Go.Extern
open Go.ChangeMaps (setBlock heap_setBlock_same heap_setBlock_other)
set_option linter.unusedVariables false
attribute [local irreducible] wpList wpAnyH Code.wp Oper.wp Go
theorem run_keyN{P:Program}{kt:TypeId}(hk:P.underlying kt=some (.int .i64))(k:Int)(b:Bool)(n:Nat)(w:World):(Instr.checkKey b (n+1) kt (V0 k)).run P w=.ok () w:=by
 simp only[Instr.checkKey,Sem.run_bind,run_underlying hk,Result.andThen_ok]
 rfl
theorem run_keyOk{P:Program}{kt:TypeId}(hk:P.underlying kt=some (.int .i64))(k:Int)(b:Bool)(w:World):(Instr.checkKey b 10000 kt (V0 k)).run P w=.ok () w:=run_keyN hk k b 9999 w
variable {P:Program} {w:World}
theorem Zby{r:Nat}{es:Array MapEntry}{c:Nat}(hb:w.heap[r]? = some (.map es c))(o:Obj):Upd w r (setBlock w r o):=⟨rfl,rfl,rfl,by simp[setBlock],fun k hk=>heap_setBlock_other hb _ hk⟩
/-! ### in a walk -/
inductive Zm
 | mm (t:TypeId)
 | lk (t:TypeId) (m k:Value)
 | mu (t:TypeId) (m k v:Value)
 | b1 (b:Builtin) (t:TypeId) (u:Value)
 | b2 (b:Builtin) (t t2:TypeId) (u v:Value)
noncomputable def zmf (n:Nat) (kv:List (Nat×Value)) (o:Oper):Option Zm:=match o.op with
 | .makeMap t none=>some (.mm t)
 | .lookup t x y false=>some (.lk t (zev n kv x) (zev n kv y))
 | .mapUpdate t x y z=>some (.mu t (zev n kv x) (zev n kv y) (zev n kv z))
 | .call c=>match c.callee with
  | .builtin b=>match c.args.toList,c.argTypes.toList with
   | [x],[t]=>some (.b1 b t (zev n kv x))
   | [x,y],[t,t2]=>some (.b2 b t t2 (zev n kv x) (zev n kv y))
   | _,_=>none
  | _=>none
 | _=>none
noncomputable def zm (s:Zs):Option Zm:=match zop s with
 | some o=>zmf s.n s.kv o
 | none=>none
section
variable {P:Program} {fn:Func} {R:Ending→World→Prop} {w:World} {s:Zs}
theorem op_skip{a:Act}{o:Oper}{K:Act→World→Prop}{Q:Exit→Act→World→Prop}{w':World}(hv:(execOp a.eval o).run P w=.ok .skip w')(k:K (a.put o.dst undef) w'):o.wp P a w K Q:=by
 simp only[Oper.wp,hv,Oper.upon];exact k
end
end Go.Proofs.YtceeiinepijokaaGreat
namespace Go.Proofs.YtceeiinepijokaaGreat
set_option maxHeartbeats 8000000
set_option maxRecDepth 100000
open Go.RowKit
set_option linter.unusedVariables false
theorem rows_in{n:Nat}{P:Program}{row:String}{args:Array Value}{w:World}{R:Value→World→Prop}(h:Rows P row args w R):RowsIn Fence.wide n P row args w R :=
 fun c cs _=>let ⟨v,w',r,q⟩:=h c cs;⟨v,w',r,stepsIn_wide.2 q⟩
theorem oper_in{P:Program}{l n:Nat}{o:Oper}{a:Act}{w:World}{K:Act→World→Prop}{Q:Exit→Act→World→Prop}(hd:∀ c,o.op≠.defer c)(h:o.wp P a w K Q):o.wpIn (Fence.wide.inRound l) n P a w K Q:=by
 unfold Oper.wpIn
 refine⟨fun f _=>trivial,?_⟩
 rw[Oper.semAt_plain _ _ _ hd]
 unfold Oper.wp at h
 generalize (execOp a.eval o).run P w=r at *
 cases r with
 | ok nx w' =>
  cases nx with
  | value v=>exact h
  | skip=>exact h
  | defer d=>exact h
  | enter f args=>exact⟨(fun q=>by cases q),callsIn_wide.2 h⟩
  | row r args=>exact⟨(fun q=>by cases q),rows_in h⟩
  | _=>exact h.elim
 | halt hh w' =>
  cases hh with
  | panic v=>exact h
  | _=>exact h.elim
theorem op_in{P:Program}{l n i:Nat}{ops:Array Oper}{a:Act}{w:World}{K K':Act→World→Prop}{Q:Exit→Act→World→Prop}(hQ:¬ LetsOut Q)(hd:∀ o∈ops.toList,∀ c,o.op≠.defer c)(hK:∀ a w,K a w→K' a w)(h:wpOp P ops Q i K a w):wpOpIn (Fence.wide.inRound l) n P ops Q i K' a w:=by
 unfold wpOp at h
 unfold wpOpIn
 cases ho:ops[i]? with
 | none=>rw[ho] at h;exact hK _ _ h
 | some o =>
  rw[ho] at h
  dsimp only at h ⊢
  split at h
  ·rename_i hw
   rw[if_pos hw]
   have a0:o∈ops.toList:=by
    obtain⟨hi,e⟩:=Array.getElem?_eq_some_iff.1 ho
    rw[←e];exact Array.mem_toList_iff.2 (Array.getElem_mem hi)
   exact Oper.wpIn_mono hK (oper_in (hd o a0) (h.resolve_right fun q=>hQ q.2))
  ·rename_i hw
   rw[if_neg hw]
   exact⟨fun f _=>trivial,hK _ _ h⟩
theorem any_in{P:Program}{l n:Nat}{md:Region.Mode}{ops:Array Oper}{Q:Exit→Act→World→Prop}(hQ:¬ LetsOut Q)(hd:∀ o∈ops.toList,∀ c,o.op≠.defer c):∀ (fuel:Nat) (L:Array Bool) (a:Act) (w:World),wpAny P md ops Q fuel L a w→wpAnyIn (Fence.wide.inRound l) n P md ops Q fuel L a w
 | 0,_,_,_,h=>h
 | fuel+1,L,a,w,h=>⟨h.1,fun i hi=>op_in hQ hd (fun a w=>any_in hQ hd fuel _ a w) (h.2 i hi)⟩
theorem h_regIn{P:Program}{l0 n0 id:Nat}{l:List Oper}{Q:Exit→Act→World→Prop}{a:Act}{w:World}(S:World→Prop)(n:Nat)(hn:l.toArray.size=n)(L:Array Bool)(hL:Array.replicate n false=L)(hm:P.follows .mixedOrders=true)(hQ:¬ LetsOut Q)(hd:∀ o∈l,∀ c,o.op≠.defer c)(hS:S w.drew)(h:S w.drew→wpAnyH P .any l.toArray Q S n L a w.drew):(Code.region id l.toArray true).wpIn (Fence.wide.inRound l0) n0 P Q a w :=
 wpIn_region_any hm (any_in hQ (by simpa using hd) _ _ _ _ (wpAny_of_held _ _ _ _ (by rw[hn,hL];exact h hS)))
end Go.Proofs.YtceeiinepijokaaGreat
namespace Go.Proofs.YtceeiinepijokaaGreat
set_option maxHeartbeats 8000000
set_option maxRecDepth 100000
open Go.RowKit
set_option linter.unusedVariables false
attribute [local go_sem] Oper.semAt_some
def encK(b off n:Nat)(j:Fin (bmN n)):Array Value:=#[.slice (some ⟨b,off+j.val*960,none⟩) (min 960 (n-j.val*960)) (min 960 (n-j.val*960))]
theorem chunk1_in(l B1 B2:Nat)(p:Nat→Prop)(b off n cap:Nat)(hlen:n≤1000000)(hcap:n≤cap)(hB1:p B1)(hB2:p B2)(J Jx:List (Fin (bmN n))→World→Prop)
  (hY:∀ pre x W,J pre W→pre.length<bmN n→YieldAt Fence.wide 2 Tryz.prog l (encK b off n x) W fun e W' =>
   (e=.returned (.bool true)∧J (pre++[x]) W'∧Keeps p W W')∨(e=.returned (.bool false)∧Jx (pre++[x]) W'))
  (W:World) (hck:W.cell? ⟨B1,0,none⟩=some (.slice (some ⟨b,off,none⟩) n cap)) (hcn:W.cell? ⟨B2,0,none⟩=some (V0 960)) (hJa:AbidesFrom W.heap.size J) (h0:J [] W) :
  CallsIn Fence.wide 3 Tryz.prog 227 #[.func (.yield l) #[] #[],P0 B1,P0 B2] W fun e W'=>(∃ v,e=.returned v) ∧
   ((∃ ys,ys=List.finRange (bmN n)∧J ys W')∨(∃ pre,(∃ k,k≤bmN n∧pre=(List.finRange (bmN n)).take k)∧Jx pre W')):=by
 refine callsIn_of_wp Tryz.func227 rfl trivial ?_ rfl
 simp only[Tryz.ntmps227,List.size_toArray,List.length_cons,List.length_nil,Nat.reduceAdd,Nat.reduceSub,Array.replicate_succ,Array.replicate_zero,List.push_toArray,List.append_toArray,List.nil_append,List.cons_append]
 gi_wp2
 gi_loopw [4] (fun i wr=>∃ k:Nat,k≤bmN n∧i=V0 ((k*960:Nat):Int)∧J ((List.finRange (bmN n)).take k) wr∧Keeps p W wr)
  (fun i _=>(n-(intOf i)).toNat)
 case atStart=>exact⟨0,Nat.zero_le _,by simp,h0,Keeps.refl _ _⟩
 case round =>
  obtain⟨k,hk,rfl,a0,a2⟩:=hrel
  have a6:=(a2.cell (a:=⟨B1,0,none⟩) hB1).trans hck
  have a1:=(a2.cell (a:=⟨B2,0,none⟩) hB2).trans hcn
  by_cases hlt:k<bmN n
  ·have b1:=bmN_lt hlt
   gi_wp2
   gi_big_quiet_th (fail)
   obtain⟨fn,b0,a4,a7,hy,hR⟩:=hY _ ⟨k,hlt⟩ (wr.drewN nq) (hJa _ wr _ none a0 ⟨rfl,rfl,rfl,Nat.le_refl _,fun _ _ _=>rfl⟩ (fun _ e=>by cases e)) (by rw[Rh hk];exact hlt)
   have hE:encK b off n ⟨k,hlt⟩=#[.slice (some ⟨b,off+k*960,none⟩) (min 960 (n-k*960)) (min 960 (n-k*960))]:=rfl
   rw[hE] at hy
   have HE:=Lib.hid hE;clear hE
   first|rw[show(if((n-k*960:Nat):Int)<960 then((n-k*960:Nat):Int) else 960)=((min 960 (n-k*960):Nat):Int) from by split<;>omega]|rw[show(min 960 ((n-k*960:Nat):Int):Int)=((min 960 (n-k*960):Nat):Int) from by omega]
   obtain⟨m,hm⟩:∃ m,min 960 (n-k*960)=m:=⟨_,rfl⟩
   rw[hm] at hy ⊢
   have b2:k*960+m≤n:=by omega
   have b5:k*960+m≤cap:=by omega
   have b4:k*960+m-k*960=m:=by omega
   gi_wp2
   refine hR.mono ?_
   rintro e W3 (⟨rfl,a8,a5⟩|⟨rfl,a3⟩)
   ·have a9:W3.cell? ⟨B2,0,none⟩=some (V0 960):=(a5.cell (a:=⟨B2,0,none⟩) hB2).trans a1
    gi_wp2
    go_roundw
    case rel =>
     refine⟨k+1,by omega,?_,by rw[Ms hlt];exact a8,(a2.trans (show Keeps p wr (wr.drewN nq) from⟨Nat.le_refl _,fun _ _=>rfl⟩)).trans a5⟩
     exact congrArg V0 (by omega)
    case measure=>simp only[intOf];omega
   ·gi_wp2
    refine bodyPost_ret (results_none rfl _ _ _) rfl ?_
    exact⟨⟨_,rfl⟩,.inr ⟨_,⟨k+1,by omega,by rw[Ms hlt]⟩,a3⟩⟩
  ·obtain rfl:k=bmN n:=by omega
   have b6:=bmN_done (n:=n) rfl
   have b3:¬ (((bmN n*960:Nat):Int)<(n:Int)):=by omega
   rw[Za6] at a0
   have HJ:=Lib.hid a0;clear a0
   gi_wp2
   go_end0
   exact⟨⟨_,rfl⟩,.inl HJ.out⟩
theorem Aj{α:Type}(l B1 B2:Nat)(J:List α→World→Prop)(W:World){a0:O0}{c0:Nat}(hck:W.cell? ⟨B1,0,none⟩=some (.slice a0 0 c0))(h0:J [] W) :
 CallsIn Fence.wide 3 Tryz.prog 227 #[.func (.yield l) #[] #[],P0 B1,P0 B2] W fun e W'=>(∃ v,e=.returned v)∧J [] W':=by
 refine callsIn_of_wp Tryz.func227 rfl trivial ?_ rfl
 simp only[Tryz.ntmps227,List.size_toArray,List.length_cons,List.length_nil,Nat.reduceAdd,Nat.reduceSub,Array.replicate_succ,Array.replicate_zero,List.push_toArray,List.append_toArray,List.nil_append,List.cons_append]
 gi_wp2
 gi_loopw [4] (fun i wr=>i=V0 0∧J [] wr∧wr.cell? ⟨B1,0,none⟩=some (.slice a0 0 c0)) (fun _ _=>0)
 case atStart=>exact⟨rfl,h0,hck⟩
 case round =>
  obtain⟨rfl,a1,a2⟩:=hrel
  have HJ:=Lib.hid a1;clear a1
  gi_wp2
  go_end0
  exact⟨⟨_,rfl⟩,HJ.out⟩
theorem Zd3(B1 B2:Nat)(p:Nat→Prop)(b off n cap:Nat)(v:Value)(w:World)(hp:∀ b,p b→b<w.heap.size)(h1:p B1)(h2:p B2)(hlen:n≤1000000)(hv:(n=0∧∃ a c,v=.slice a 0 c)∨v=.slice (some ⟨b,off,none⟩) n cap∧n≤cap)(hck:w.cell? ⟨B1,0,none⟩=some v)(hcn:w.cell? ⟨B2,0,none⟩=some (V0 960)) :
  SeqStopsK Fence.wide 3 Tryz.prog 227 #[P0 B1,P0 B2] (encK b off n) (Keeps p)
   (fun ys=>ys=List.finRange (bmN n)) (fun pre=>∃ k,k≤bmN n∧pre=(List.finRange (bmN n)).take k) (bmN n) w:=fun l J Jx W hW a3 _ hY h0=>by
 have a0:=getC hW hck
 have a1:=getC hW hcn
 rcases hv with ⟨rfl,a,c,rfl⟩|⟨rfl,a2⟩
 ·exact(Aj l B1 B2 J W a0 h0).mono fun e W' ⟨he,hj⟩=>⟨he,.inl ⟨_,rfl,hj⟩⟩
 ·exact chunk1_in l B1 B2 p b off n cap hlen a2 h1 h2 J Jx hY W a0 a1 a3 h0
end Go.Proofs.YtceeiinepijokaaGreat
namespace Go.Proofs.YtceeiinepijokaaGreat
set_option maxHeartbeats 8000000
set_option maxRecDepth 100000
open Go.RowKit Go.Extern.Stop Go.Stop Go.Extern
set_option linter.unusedVariables false
attribute [local irreducible] wpList wpAnyH Code.wp Oper.wp Go
theorem Zbc(p:O0)(n c:Nat)(w:World) :
 C0 183 #[.slice p n c,V0 960] w (fun e w'=>∃ b1 b2,e=.returned (.func (.func 227) #[] #[P0 b1,P0 b2])∧B3 w w'∧w.heap.size≤b1∧w.heap.size≤b2∧b1≠b2∧Blk w' b1 [.slice p n c] 35∧Blk w' b2 [V0 960] 3):=by
 refine zin 9 Tryz.func183 ?_
 refine xa 2 [.slice p n c] 35 fun b1 W1 n1=>?_
 refine xa 0 [V0 960] 3 fun b2 W2 n2=>?_
 refine xb 6 0 n2.blk ?_
 have k1:=n1.blk.below n2.below
 have hB:=bln n1.below n2.below
 have g1:=n1.ge (B4 w)
 have g2:=n2.ge n1.below
 exact xe 13 (.func (.func 227) #[] #[P0 b1,P0 b2]) ⟨_,_,rfl,hB,g1,g2,(Blk.tne k1 n2.blk (by decide)),k1,n2.blk⟩
end Go.Proofs.YtceeiinepijokaaGreat
namespace Go.Proofs.YtceeiinepijokaaGreat
set_option maxHeartbeats 8000000
set_option maxRecDepth 100000
open Go.RowKit
set_option linter.unusedVariables false
theorem Zet{A B:World}{row:Option Nat}{base size n:Nat}{e:TypeId}{v:Value}{xs:List Value}(k:A.ownsRow base e size v n xs)(hg:A.grownBy B row)(hr:∀ r,row=some r→∃ o:Obj,A.heap[r]? = some o∧o.isCells=false):B.ownsRow base e size v n xs:=by
 obtain⟨h1,h2⟩:=k
 refine⟨h1,?_⟩
 rcases h2 with h2|⟨g,a0,a1,hv,hb,hh,r⟩
 ·exact Or.inl h2
 ·refine Or.inr ⟨g,a0,a1,hv,hb,?_,r⟩
  rw[hg.block g (Array.getElem?_eq_some_iff.1 hh).1 (fun q=>by
   obtain⟨o,ho,hc⟩:=hr g q.symm
   rw[hh] at ho
   cases ho
   cases hc)]
  exact hh
theorem Lists.turn{A B:World}{row:Option Nat}{base:Nat}{v:Value}{gs:List (Nat×Nat)}{L:List (List Int)}(h:Lists A base v gs L)(hg:A.grownBy B row)(hr:∀ r,row=some r→∃ o:Obj,A.heap[r]? = some o∧o.isCells=false):Lists B base v gs L:=⟨Zet h.row hg hr,fun i hi=>Zet (h.each i hi) hg hr⟩
structure RdZ(w0:World)(b:Nat)(W V:World):Prop where
 bb:BelowBut w0 b V
 ko:KeepsOthers W V
 fr:∀ k,k<w0.heap.size→k≠b→V.heap[k]? = W.heap[k]?
 le:W.heap.size≤V.heap.size
theorem RdZ.refl{w0 W:World}{b:Nat}(h:BelowBut w0 b W):RdZ w0 b W W:=⟨h,⟨Nat.le_refl _,fun _ _ h _=>h⟩,fun _ _ _=>rfl,Nat.le_refl _⟩
theorem RdZ.below{w0 W V U:World}{b:Nat}(h:RdZ w0 b W V)(hb:Below V.heap.size V U):RdZ w0 b W U :=
 ⟨h.bb.next hb,h.ko.trans (Zae hb),fun k hk hn=>(hb.block k (Nat.lt_of_lt_of_le hk h.bb.size)).trans (h.fr k hk hn),Nat.le_trans h.le hb.size⟩
theorem RdZ.upd{w0 W V U:World}{b:Nat}{cs:List Value}{t:TypeId}(h:RdZ w0 b W V)(u:Upd V b U)(k:Blk V b cs t):RdZ w0 b W U :=
 ⟨h.bb.upd u,h.ko.trans (Zgk u k),fun k hk hn=>(u.block k hn).trans (h.fr k hk hn),Nat.le_trans h.le (Nat.le_of_eq u.size.symm)⟩
theorem RdZ.grown{w0 W V U:World}{b size n:Nat}{e:TypeId}{v:Value}{xs:List Value}(h:RdZ w0 b W V)(hg:V.grownBy U v.ownBlock)(k:V.ownsRow w0.heap.size e size v n xs):RdZ w0 b W U :=
 ⟨⟨hg.os.trans h.bb.os,hg.tape.trans h.bb.tape,hg.output.trans h.bb.output,Nat.le_trans h.bb.size hg.size,fun i hi hn=>(hg.block i (Nat.lt_of_lt_of_le hi h.bb.size) (fun e=>by have:=(k.lt i e.symm).1;omega)).trans (h.bb.block i hi hn)⟩,
  ⟨Nat.le_trans h.ko.size hg.size,fun i o hi ho=>by
   have h1:=h.ko.same i o hi ho
   rw[hg.block i (Array.getElem?_eq_some_iff.1 h1).1 (fun q=>by
    rcases k.2 with ⟨rfl,_⟩|⟨g,a0,a1,rfl,_,hh,_⟩
    ·cases q
    ·simp only[Value.ownBlock,Option.some.injEq] at q
     subst q
     rw[hh] at h1
     cases h1
     cases ho)]
   exact h1⟩,
  fun i hi hn=>(hg.block i (Nat.lt_of_lt_of_le hi h.bb.size) (fun e=>by have:=(k.lt i e.symm).1;omega)).trans (h.fr i hi hn),Nat.le_trans h.le hg.size⟩
theorem row_or{w:World}{base e n c:Nat}{p:O0}{xs:List Value}(k:w.ownsRow base e 1 (.slice p n c) n xs):∃ g,(n=0∧∃ a c',Value.slice p n c=.slice a 0 c')∨Value.slice p n c=.slice (S1 g) n c∧n≤c:=by
 rcases k.2 with ⟨h,_⟩|⟨g,a0,a1,hv,_,_,hc,_⟩
 ·simp only[Value.slice.injEq] at h
  exact⟨0,.inl ⟨h.2.1,none,0,by rw[h.1,h.2.1,h.2.2]⟩⟩
 ·simp only[Value.slice.injEq] at hv
  obtain⟨rfl,_,rfl⟩:=hv
  exact⟨g,.inr ⟨rfl,hc⟩⟩
def Each(w:World)(base:Nat)(gs:List (Nat×Nat))(L:List (List Int)):Prop:=∀ i,i<L.length→w.ownsRow base 3 1 (Ol gs L i) (L.getD i []).length ((L.getD i []).map V0)
theorem Each.below{w W:World}{base:Nat}{gs:List (Nat×Nat)}{L:List (List Int)}(h:Each w base gs L)(hb:B3 w W):Each W base gs L:=fun i hi=>Zb (h i hi) hb
theorem Each.only{T:List TypeId}{w W:World}{base:Nat}{gs:List (Nat×Nat)}{L:List (List Int)}(h:Each w base gs L)(hO:Zd T w W)(hT:T.contains 3=false):Each W base gs L:=fun i hi=>Zi (h i hi) hO hT
theorem Zey{gs:List (Nat×Nat)}{L:List (List Int)}{g c i:Nat}{ch:List Int}(hg:gs.length=L.length)(hi:i<L.length):Ol (gs++[(g,c)]) (L++[ch]) i=Ol gs L i:=by
 unfold Ol
 simp[List.getD,List.getElem?_append_left,hi,hg]
theorem Ze7{gs:List (Nat×Nat)}{L:List (List Int)}{g c:Nat}{ch:List Int}(hg:gs.length=L.length):Ol (gs++[(g,c)]) (L++[ch]) L.length=.slice (S1 g) ch.length c:=by
 unfold Ol
 rw[show(gs++[(g,c)]).getD L.length (0,0)=(g,c) from by rw[←hg];simp[List.getD],show(L++[ch]).getD L.length []=ch from by simp[List.getD]]
theorem Lists.snoc{w:World}{base g c n:Nat}{v:Value}{gs:List (Nat×Nat)}{L:List (List Int)}{ch:List Int}(hn:n=L.length+1)(hrow:w.ownsRow base 35 1 v n ((List.range L.length).map (Ol gs L)++[.slice (S1 g) ch.length c]))(he:Each w base gs L)(hnew:w.ownsRow base 3 1 (.slice (S1 g) ch.length c) ch.length (ch.map V0))(hg:gs.length=L.length):Lists w base v (gs++[(g,c)]) (L++[ch]):=by
 subst hn
 refine⟨?_,fun i hi=>?_⟩
 ·rw[show(L++[ch]).length=L.length+1 from by simp,List.range_succ,List.map_append]
  rw[show(List.range L.length).map (Ol (gs++[(g,c)]) (L++[ch]))=(List.range L.length).map (Ol gs L) from List.map_congr_left fun i hi=>Zey hg (List.mem_range.1 hi),List.map_singleton,Ze7 hg]
  exact hrow
 ·by_cases h:i<L.length
  ·rw[Zey hg h,show(L++[ch]).getD i []=L.getD i [] from by simp[List.getD,List.getElem?_append_left,h]]
   exact he i h
  ·obtain rfl:i=L.length:=by simp at hi;omega
   rw[Ze7 hg,show(L++[ch]).getD L.length []=ch from by simp[List.getD]]
   exact hnew
theorem Sl.midI{w:World}{g n c:Nat}{xs:List Value}(h:Sl w (.slice (S1 g) n c) n xs)(hl:xs.length=n)(k m:Nat)(hm:0<m)(hk:k+m≤n):Sl w (.slice (some ⟨g,0+k,none⟩) m m) m ((xs.drop k).take m):=by
 rcases h with ⟨a',c',h1,h2,h3⟩|⟨g',a1,a2,h1,h2,h3,h4⟩
 ·omega
 ·simp only[Value.slice.injEq,Option.some.injEq,Addr.mk.injEq] at h1
  obtain⟨⟨rfl,rfl,_⟩,_,rfl⟩:=h1
  refine .inr ⟨g,0+k,m,rfl,Nat.le_refl _,by omega,fun j x hj=>?_⟩
  have a0:j<m:=by
   rcases Nat.lt_or_ge j m with q|q
   ·exact q
   ·rw[List.getElem?_eq_none (by simp;omega)] at hj;cases hj
  rw[List.getElem?_take_of_lt a0,List.getElem?_drop] at hj
  have:=h4 (k+j) x hj
  rw[show 0+k+j=0+(k+j) from by omega]
  exact this
end Go.Proofs.YtceeiinepijokaaGreat
namespace Go.Proofs.YtceeiinepijokaaGreat
set_option maxHeartbeats 8000000
set_option maxRecDepth 100000
open Go.RowKit Go.Extern.Stop Go.Stop Go.Extern
set_option linter.unusedVariables false
attribute [local irreducible] wpList wpAnyH Code.wp Oper.wp Go
theorem Zc2(w:World) :
 C0 226 #[] w (Yy (fun w' r=>∃ b,r=.slice (S1 b) 1 1∧w.heap.size≤b∧Blk w' b [V0 4,V0 3,V0 2147483647] 268) w):=by
 refine zin 3 Tryz.func226 ?_
 refine xbs 8 1 [V0 4,V0 3,V0 2147483647] 268 fun b1 W1 n1=>?_
 have g1:=n1.ge (B4 w)
 exact xe 4 (.slice (S1 b1) 1 1) ⟨_,rfl,n1.below,_,rfl,g1,n1.blk⟩
theorem Ef(gl gn:Nat)(n:Int)(h1:3≤n)(h2:n≤2147483647)(w:World)(hl:Blk w gl [V0 4,V0 3,V0 2147483647] 268)(hn:Blk w gn [V0 n] 3) :
 C0 157 #[.slice (S1 gl) 1 1,.slice (S1 gn) 1 1] w (Ret (.string ⟨(leB n 4).toArray⟩) w):=by
 refine zin 51 Tryz.func157 ?_
 refine xu 19 2 ?_
 refine xlv 15 hl.rp ?_
 refine xa 0 [V0 0,V0 0,V0 0] 268 fun b1 W1 n1=>?_
 have a8:=n1.ne hl
 refine xsv 1 n1.blk [V0 4,V0 3,V0 2147483647] fun W2 u2 k2=>?_
 have g1:=n1.ge (B4 w)
 refine xd 4 .z ?_
 have a1:=(u2.blkT (hn.below n1.below) n1.blk (by decide)).below (Za W2)
 refine xb (.e [0,1,2] 3) 0 a1 ?_
 have a0:=k2.below (Za W2)
 refine xb (.e [4] 5) 1 a0 ?_
 refine xgk (.b [6,7]) [23,24] (show(decide (n<(3:Int)):Bool)=false from decide_eq_false (by omega)) ?_
 refine xb (.e [8,9,10] 11) 0 a1 ?_
 refine xb (.e [12] 13) 2 a0 ?_
 refine xk (.r [14,15] 2) (show(decide (n>(2147483647:Int)):Bool)=false from decide_eq_false (by omega)) ?_
 refine xd 3 .z ?_
 have a5:=a0.below (Za W2.drew)
 refine xb (.e [0] 1) 0 a5 ?_
 have a6:=a1.below (Za W2.drew)
 refine xb (.e [2,3,4] 5) 0 a6 ?_
 refine xbs (.o [6] 7) 1 [V0 4,V0 n] 235 fun b4 W4 n4=>?_
 refine yc (.o [] 8) (args:=#[.slice (S1 b4) 1 1]) .z (Cn b4 n (by omega) (by omega) _ n4.blk) ?_
 rintro _ W5 ⟨_,rfl,a7,b0,b3,rfl,a3⟩
 have a9:=(bln (bln (bln (u2.below n1.below g1) (Za W2)) (Za W2.drew)) n4.below).size
 refine⟨a7,?_⟩
 have o6:=World.ownsRow_nil W5 w.heap.size 5 1
 have a2:=Zf a3 a9
 have hB:=bln (bln (bln (bln (u2.below n1.below g1) (Za W2)) (Za W2.drew)) n4.below) a7
 refine xbi (.r [9,10,11,12,13] 5) fun _ _ _ _ zJ zQ zo zx zy zK=>Zy (m:=4) (news:=(leB n 4).map bv) (.int .u8 0) 1 1 (4) ((leB n 4).map bv) zo Tryz.underlying22 (by kernel_rfl) rfl (by decide) zx o6 zy (Ze a2) (by simp[Zg]) (Yt _) (by unfold maxLen;omega) (by omega) hB.size (by rfl) (by simp) fun b5 b7 W7 o7 b6 b2=>?_
 refine zK _ _ ?_
 refine xcv0 24 (fun _ _ _ zo zx=>Vm zo zx (Yi (Ze o7) (by simp[Zg])) (by simp[Zg]) Tryz.underlying22 Tryz.underlying5 Tryz.underlying9) ?_
 have a4:=hB.trans b2
 exact xe 4 (.string ⟨(leB n 4).toArray⟩) ⟨rfl,a4⟩
theorem Zcz(n:Int)(h1:3≤n)(h2:n≤2147483647)(w:World) :
 C0 182 #[V0 n] w (Ret (.string ⟨(leB n 4).toArray⟩) w):=by
 refine zin 7 Tryz.func182 ?_
 refine xc 7 (args:=#[]) (Zc2 _) ?_
 rintro _ W1 ⟨_,rfl,a2,gl,rfl,gg,kl⟩
 refine xbs 1 1 [V0 n] 3 fun b2 W2 n2=>?_
 have a0:=kl.below n2.below
 refine xr 0 (args:=#[.slice (S1 gl) 1 1,.slice (S1 b2) 1 1]) (Ef gl b2 n h1 h2 _ a0 n2.blk) fun W3 a1=>?_
 have hB:=bln (bln a2 n2.below) a1
 exact xe 4 (.string ⟨(leB n 4).toArray⟩) ⟨rfl,hB⟩
theorem Sz(w:World) :
 C0 188 #[] w (Yy (fun w' r=>∃ b,r=.slice (S1 b) 3 3∧w.heap.size≤b∧Blk w' b [V0 8,V0 1,V0 14399,V0 4,V0 0,V0 960,V0 4,V0 0,V0 960] 268) w):=by
 refine zin 5 Tryz.func188 ?_
 refine xbs 10 3 [V0 8,V0 1,V0 14399,V0 4,V0 0,V0 960,V0 4,V0 0,V0 960] 268 fun b1 W1 n1=>?_
 have g1:=n1.ge (B4 w)
 exact xe 4 (.slice (S1 b1) 3 3) ⟨_,rfl,n1.below,_,rfl,g1,n1.blk⟩
theorem Nn(gl gn:Nat)(n f g:Int)(h1:1≤n)(h2:n≤14399)(h3:0≤f)(h4:f≤960)(h5:0≤g)(h6:g≤960)(w:World)(hl:Blk w gl [V0 8,V0 1,V0 14399,V0 4,V0 0,V0 960,V0 4,V0 0,V0 960] 268)(hn:Blk w gn [V0 n,V0 f,V0 g] 3) :
 C0 157 #[.slice (S1 gl) 3 3,.slice (S1 gn) 3 3] w (Ret (.string ⟨(leB n 8++leB f 4++leB g 4).toArray⟩) w):=by
 refine zin 51 Tryz.func157 ?_
 refine xu 19 4 ?_
 refine xlv 15 (hl.rpp 0 3) ?_
 refine xa 0 [V0 0,V0 0,V0 0] 268 fun b1 W1 n1=>?_
 have d3:=n1.ne hl
 refine xsv 1 n1.blk [V0 8,V0 1,V0 14399] fun W2 u2 k2=>?_
 have g1:=n1.ge (B4 w)
 refine xd 4 .z ?_
 have b5:=(u2.blkT (hn.below n1.below) n1.blk (by decide)).below (Za W2)
 refine xb (.e [0,1,2] 3) 0 b5 ?_
 have c0:=k2.below (Za W2)
 refine xb (.e [4] 5) 1 c0 ?_
 refine xgk (.b [6,7]) [23,24] (show(decide (n<(1:Int)):Bool)=false from decide_eq_false (by omega)) ?_
 refine xb (.e [8,9,10] 11) 0 b5 ?_
 refine xb (.e [12] 13) 2 c0 ?_
 refine xk (.r [14,15] 2) (show(decide (n>(14399:Int)):Bool)=false from decide_eq_false (by omega)) ?_
 refine xd 3 .z ?_
 have d5:=c0.below (Za W2.drew)
 refine xb (.e [0] 1) 0 d5 ?_
 have c8:=b5.below (Za W2.drew)
 refine xb (.e [2,3,4] 5) 0 c8 ?_
 refine xbs (.o [6] 7) 1 [V0 8,V0 n] 235 fun b4 W4 n4=>?_
 refine yc (.o [] 8) (args:=#[.slice (S1 b4) 1 1]) .z (Pack_8 b4 n (by omega) _ n4.blk) ?_
 rintro _ W5 ⟨_,rfl,c3,g6,g7,rfl,e9⟩
 have i0:=(bln (bln (bln (u2.below n1.below g1) (Za W2)) (Za W2.drew)) n4.below).size
 refine⟨c3,?_⟩
 have o6:=World.ownsRow_nil W5 w.heap.size 5 1
 have a8:=Zf e9 i0
 have hB:=bln (bln (bln (bln (u2.below n1.below g1) (Za W2)) (Za W2.drew)) n4.below) c3
 refine xbi (.r [9,10,11,12,13] 5) fun _ _ _ _ zJ zQ zo zx zy zK=>Zy (m:=8) (news:=(leB n 8).map bv) (.int .u8 0) 1 1 (8) ((leB n 8).map bv) zo Tryz.underlying22 (by kernel_rfl) rfl (by decide) zx o6 zy (Ze a8) (by simp[Zg]) (Yt _) (by unfold maxLen;omega) (by omega) hB.size (by rfl) (by simp) fun j6 j2 W7 o7 e3 h7=>?_
 refine zK _ _ ?_
 have c2:=(((((u2.blk (hl.below n1.below) (Ne.symm (Ne.symm d3))).below (Za W2)).below (Za W2.drew)).below n4.below).below c3).grown e3 o6 (by decide)
 refine xlv 24 (c2.rpp 3 3) ?_
 refine xa 0 [V0 0,V0 0,V0 0] 268 fun b8 W8 n8=>?_
 have d6:=n8.ne c2
 have c6:=((d5.below n4.below).below c3).grown e3 o6 (by decide)
 have c5:=n8.ne c6
 have d7:=hB.trans h7
 have g8:=n8.ge d7
 refine xsv 1 n8.blk [V0 4,V0 0,V0 960] fun W9 u9 k9=>?_
 refine xd 4 .z ?_
 have b6:=(u9.blkT ((((c8.below n4.below).below c3).grown e3 o6 (by decide)).below n8.below) n8.blk (by decide)).below (Za W9)
 refine xb (.e [0,1,2] 3) 1 b6 ?_
 have b0:=k9.below (Za W9)
 refine xb (.e [4] 5) 1 b0 ?_
 refine xgk (.b [6,7]) [23,24] (show(decide (f<(0:Int)):Bool)=false from decide_eq_false (by omega)) ?_
 refine xb (.e [8,9,10] 11) 1 b6 ?_
 refine xb (.e [12] 13) 2 b0 ?_
 refine xk (.r [14,15] 2) (show(decide (f>(960:Int)):Bool)=false from decide_eq_false (by omega)) ?_
 refine xd 3 .z ?_
 have c7:=b0.below (Za W9.drew)
 refine xb (.e [0] 1) 0 c7 ?_
 have c9:=b6.below (Za W9.drew)
 refine xb (.e [2,3,4] 5) 1 c9 ?_
 refine xbs (.o [6] 7) 1 [V0 4,V0 f] 235 fun g2 j0 a4=>?_
 have d0:=((u9.blkT (((n4.blk.below c3).grown e3 o6 (by decide)).below n8.below) n8.blk (by decide)).below (Za W9)).below (Za W9.drew)
 have e7:=a4.ne d0
 have a7:=bln (bln (u9.below (bln d7 n8.below) g8) (Za W9)) (Za W9.drew)
 have j4:=a4.ge a7
 refine yc (.o [] 8) (args:=#[.slice (S1 g2) 1 1]) .z (Cn g2 f (by omega) (by omega) _ a4.blk) ?_
 rintro _ i9 ⟨_,rfl,a0,h0,i4,rfl,f6⟩
 have f0:=(bln a7 a4.below).size
 refine⟨a0,?_⟩
 have a1:=Zb (Zb (Zb (Zb (u9.own2 (Zb o7 n8.below) n8.blk (by decide)) (Za W9)) (Za W9.drew)) a4.below) a0
 have b9:=Zf f6 f0
 have d1:=bln (bln a7 a4.below) a0
 refine xbi (.r [9,10,11,12,13] 5) fun _ _ _ _ zJ zQ zo zx zy zK=>Zy (m:=4) (news:=(leB f 4).map bv) (.int .u8 0) 1 1 (12) ((leB n 8++leB f 4).map bv) zo Tryz.underlying22 (by kernel_rfl) rfl (by decide) zx a1 zy (Ze b9) (by simp[Zg]) (Yt _) (by unfold maxLen;omega) (by omega) d1.size (by rfl) (by simp) fun h9 i6 j7 g9 a3 f9=>?_
 refine zK _ _ ?_
 have d9:=(((((u9.blk (c2.below n8.below) (Ne.symm (Ne.symm d6))).below (Za W9)).below (Za W9.drew)).below a4.below).below a0).grown a3 a1 (by decide)
 refine xlv 24 (d9.rpp 6 3) ?_
 refine xa 0 [V0 0,V0 0,V0 0] 268 fun j3 j9 a2=>?_
 have f8:=a2.ne d9
 have e6:=(((((u9.blk (c6.below n8.below) (Ne.symm (Ne.symm c5))).below (Za W9)).below (Za W9.drew)).below a4.below).below a0).grown a3 a1 (by decide)
 have e5:=a2.ne e6
 have f4:=((c7.below a4.below).below a0).grown a3 a1 (by decide)
 have f5:=a2.ne f4
 have e1:=d1.trans f9
 have i3:=a2.ge e1
 refine xsv 1 a2.blk [V0 4,V0 0,V0 960] fun a5 d2 g5=>?_
 refine xd 4 .z ?_
 have b7:=(d2.blkT ((((c9.below a4.below).below a0).grown a3 a1 (by decide)).below a2.below) a2.blk (by decide)).below (Za a5)
 refine xb (.e [0,1,2] 3) 2 b7 ?_
 have a6:=g5.below (Za a5)
 refine xb (.e [4] 5) 1 a6 ?_
 refine xgk (.b [6,7]) [23,24] (show(decide (g<(0:Int)):Bool)=false from decide_eq_false (by omega)) ?_
 refine xb (.e [8,9,10] 11) 2 b7 ?_
 refine xb (.e [12] 13) 2 a6 ?_
 refine xk (.r [14,15] 2) (show(decide (g>(960:Int)):Bool)=false from decide_eq_false (by omega)) ?_
 refine xd 3 .z ?_
 have e0:=a6.below (Za a5.drew)
 refine xb (.e [0] 1) 0 e0 ?_
 have f2:=b7.below (Za a5.drew)
 refine xb (.e [2,3,4] 5) 2 f2 ?_
 refine xbs (.o [6] 7) 1 [V0 4,V0 g] 235 fun g3 j5 c1=>?_
 have g0:=((d2.blkT ((((d0.below a4.below).below a0).grown a3 a1 (by decide)).below a2.below) a2.blk (by decide)).below (Za a5)).below (Za a5.drew)
 have e8:=c1.ne g0
 have d8:=((d2.blkT (((a4.blk.below a0).grown a3 a1 (by decide)).below a2.below) a2.blk (by decide)).below (Za a5)).below (Za a5.drew)
 have e2:=c1.ne d8
 have a9:=bln (bln (d2.below (bln e1 a2.below) i3) (Za a5)) (Za a5.drew)
 have j1:=c1.ge a9
 refine yc (.o [] 8) (args:=#[.slice (S1 g3) 1 1]) .z (Cn g3 g (by omega) (by omega) _ c1.blk) ?_
 rintro _ j8 ⟨_,rfl,b3,h8,i1,rfl,e4⟩
 have f3:=(bln a9 c1.below).size
 refine⟨b3,?_⟩
 have c4:=Zb (Zb (Zb (Zb (d2.own2 (Zb g9 a2.below) a2.blk (by decide)) (Za a5)) (Za a5.drew)) c1.below) b3
 have b2:=Zf e4 f3
 have d4:=bln (bln a9 c1.below) b3
 refine xbi (.r [9,10,11,12,13] 5) fun _ _ _ _ zJ zQ zo zx zy zK=>Zy (m:=4) (news:=(leB g 4).map bv) (.int .u8 0) 1 1 (16) ((leB n 8++leB f 4++leB g 4).map bv) zo Tryz.underlying22 (by kernel_rfl) rfl (by decide) zx c4 zy (Ze b2) (by simp[Zg]) (Yt _) (by unfold maxLen;omega) (by omega) d4.size (by rfl) (by simp) fun i8 i5 k0 i7 i2 f1=>?_
 refine zK _ _ ?_
 refine xcv0 24 (fun _ _ _ zo zx=>Vm zo zx (Yi (Ze i7) (by simp[Zg])) (by simp[Zg]) Tryz.underlying22 Tryz.underlying5 Tryz.underlying9) ?_
 have f7:=d4.trans f1
 exact xe 4 (.string ⟨(leB n 8++leB f 4++leB g 4).toArray⟩) ⟨rfl,f7⟩
theorem Jj(n f g:Int)(h1:1≤n)(h2:n≤14399)(h3:0≤f)(h4:f≤960)(h5:0≤g)(h6:g≤960)(w:World) :
 C0 117 #[.agg #[V0 n,V0 f,V0 g]] w (Ret (.string ⟨(leB n 8++leB f 4++leB g 4).toArray⟩) w):=by
 refine zin 12 Tryz.func117 ?_
 refine xa 2 [V0 n,V0 f,V0 g] 217 fun b1 W1 n1=>?_
 refine xd 4 .z ?_
 have k1:=n1.blk.below (Za W1)
 refine xb (.e [1] 2) 0 k1 ?_
 refine xb (.e [3] 4) 1 k1 ?_
 refine xb (.e [5] 6) 2 k1 ?_
 refine xm2 0 0 7 ?_ ?_
 ·refine yc 0 (args:=#[]) .z (Sz _) ?_
  rintro _ W2 ⟨_,rfl,a2,gl,rfl,gg,kl⟩
  refine⟨a2,?_⟩
  refine xbs (.o [] 7) 3 [V0 n,V0 f,V0 g] 3 fun b3 W3 n3=>?_
  have a0:=kl.below n3.below
  refine xr (.o [] 8) (args:=#[.slice (S1 gl) 3 3,.slice (S1 b3) 3 3]) (Nn gl b3 n f g h1 h2 h3 h4 h5 h6 _ a0 n3.blk) fun W4 a4=>?_
  have hB:=bln (bln (bln (bln n1.below (Za W1)) a2) n3.below) a4
  exact xe (.r [9] 3) (.string ⟨(leB n 8++leB f 4++leB g 4).toArray⟩) ⟨rfl,hB⟩
 refine xbs 0 3 [V0 n,V0 f,V0 g] 3 fun b5 W5 n5=>?_
 refine yc (.o [] 0) (args:=#[]) .z (Sz _) ?_
 rintro _ W6 ⟨_,rfl,a1,gl,rfl,gg,kl⟩
 refine⟨a1,?_⟩
 have k5:=n5.blk.below a1
 refine xr (.o [] 8) (args:=#[.slice (S1 gl) 3 3,.slice (S1 b5) 3 3]) (Nn gl b5 n f g h1 h2 h3 h4 h5 h6 _ kl k5) fun W7 a3=>?_
 have hB:=bln (bln (bln (bln n1.below (Za W1)) n5.below) a1) a3
 exact xe (.r [9] 3) (.string ⟨(leB n 8++leB f 4++leB g 4).toArray⟩) ⟨rfl,hB⟩
end Go.Proofs.YtceeiinepijokaaGreat
namespace Go.Proofs.YtceeiinepijokaaGreat
set_option maxHeartbeats 8000000
set_option maxRecDepth 100000
open Go.RowKit Go.Extern.Stop Go.Stop Go.Extern
set_option linter.unusedVariables false
attribute [local irreducible] wpList wpAnyH Code.wp Oper.wp Go
section
variable {P:Program} {a:Act}
theorem shl_bd{n:Int}(h:0≤n∧n≤3){s:Nat}(hs:s≤6):0≤n*2 ^ s∧n*2 ^ s≤192:=by
 obtain rfl|rfl|rfl|rfl:n=0∨n=1∨n=2∨n=3:=by omega
 all_goals obtain rfl|rfl|rfl|rfl|rfl|rfl|rfl:s=0∨s=1∨s=2∨s=3∨s=4∨s=5∨s=6:=by omega
 all_goals decide
theorem run_shlS{o:Oper}{t t2:TypeId}{x y:Operand}{n:Int}{s:Nat}{j:Int}{kj:IntKind}(ho:o.op=.binOp .shl t x y t2)(hx:a.eval x=V0 n)(hy:a.eval y=.int kj j)(hj:j=(s:Int))(hn:0≤n∧n≤3)(hs:s≤6)(w:World):(execOp a.eval o).run P w=.ok (.value (V0 (n*2 ^ s))) w:=by
 subst hj
 have e:=shift_shl .i64 kj n (s:Int) (Int.natCast_nonneg s) (by show(s:Int)≤64;omega)
 rw[show((s:Int)).toNat=s from by omega] at e
 have hb:=shl_bd hn hs
 rw[IntWalk.i64_in _ (by omega)] at e
 simp only[execOp,ho,hx,hy,eqGuard_shl,binOp_shl,e]
 simp
end
section
variable {P:Program} {fn:Func} {R:Ending→World→Prop} {w:World} {s:Zs}
theorem xbot(q:Zq){b:BinOp}{t t2:TypeId}{u1 u2 v:Value}(hv:∀ (a:Act) (o:Oper) (x y:Operand),o.op=.binOp b t x y t2→a.eval x=u1→a.eval y=u2→∀ V,True→(execOp a.eval o).run P V=.ok (.value v) V)(g:Go P fn R (znx (zq P q s) v) w)(h:zk (zq P q s)=some (.bn b t t2 u1 u2):=by kernel_rfl):Go P fn R s w:=by
 refine Zn q s ?_
 obtain⟨o,ho,h⟩:=Qa h
 exact Zb5 ho (fun V _=>by
  obtain⟨x,y,h1,h2,h3⟩:=Uv h
  exact hv _ o x y h1 h2 h3 V trivial) g
end
theorem u8_shl{n:Int}(h:0≤n∧n≤3){s:Nat}(hs:s≤6):IntKind.u8.wrap (n*2 ^ s)=n*2 ^ s:=by
 have hb:=shl_bd h hs
 generalize n*2 ^ s=m at *
 simp[IntKind.wrap,IntKind.bits,IntKind.signed];omega
theorem Zev(l:List Int)(i:Nat){k:Nat}(hk:k<240):(Nu l i).getD (4+k) 0=g4B l i k:=by
 unfold Nu
 rw[List.getD,List.getElem?_append_right (by rw[Zg];omega),Zg,Nat.add_sub_cancel_left]
 simp[hk]
theorem bits_or{l:List Int}(h:Hq l){i:Nat}(hi:i<960):IntKind.u8.wrap (↑(BitVec.ofInt 8 (↑((Nu l i).getD (4+(i/4)) 0).toNat:Int) ||| BitVec.ofInt 8 (l.getD i 0*2 ^ ((i%4)*2))).toNat:Int)=((g4B l (i+1) (i/4)).toNat:Int):=by
 rw[Zev l i (by omega)]
 obtain⟨h1,h2⟩:=g4B_at h (i:=i)
 rw[h1]
 obtain⟨n,hn⟩:∃ n:Nat,l.getD i 0=n:=⟨(l.getD i 0).toNat,by have:=(Jo h i).1;omega⟩
 have hb:=Jo h i
 rw[hn] at hb ⊢
 generalize (g4B l i (i/4)).toNat=o at *
 have hr:i%4<4:=by omega
 generalize i%4=r at *
 have ho:o<64:=Nat.lt_of_lt_of_le h2 (by
  obtain rfl|rfl|rfl|rfl:r=0∨r=1∨r=2∨r=3:=by omega
  all_goals decide)
 have hs:=or_step ⟨r,hr⟩ ⟨n,by omega⟩ ⟨o,ho⟩ h2
 simp only at hs
 have e4:(4:Nat) ^ r=2 ^ (r*2):=by rw[Nat.mul_comm,Nat.pow_mul]
 have e:((n:Int)*2 ^ (r*2))=((n*4 ^ r:Nat):Int):=by rw[e4];simp
 have e':((n:Int)*4 ^ r)=((n*4 ^ r:Nat):Int):=by simp
 have hm:n*4 ^ r≤192:=by
   have h3:4 ^ r≤64:=by
    obtain rfl|rfl|rfl|rfl:r=0∨r=1∨r=2∨r=3:=by omega
    all_goals decide
   calc n*4 ^ r≤3*64:=Nat.mul_le_mul (by omega) h3
     _=192:=rfl
 rw[e,e',BitVec.ofInt_natCast,BitVec.ofInt_natCast,BitVec.toNat_or,BitVec.toNat_ofNat,BitVec.toNat_ofNat,Nat.mod_eq_of_lt (by omega),Nat.mod_eq_of_lt (by omega),hs]
 generalize n*4 ^ r=m at *
 simp[IntKind.wrap,IntKind.bits,IntKind.signed];omega
theorem bits_set{l:List Int}{i:Nat}(hi:i<960):((Nu l i).map bv).set (4+(i/4)) (.int .u8 ((g4B l (i+1) (i/4)).toNat:Int))=(Nu l (i+1)).map bv:=by
 rw[show Value.int .u8 ((g4B l (i+1) (i/4)).toNat:Int)=bv (g4B l (i+1) (i/4)) from rfl,←List.map_set]
 congr 1
 unfold Nu
 rw[List.set_append_right _ _ (by rw[Zg];omega),Zg,Nat.add_sub_cancel_left]
 congr 1
 apply List.ext_getElem
 ·simp
 ·intro k h1 h2
  rw[List.getElem_set]
  split
  ·rename_i e;subst e;simp
  ·rename_i e;simp only[List.getElem_map,List.getElem_range];unfold g4B;rw[g4_ne (by omega)]
theorem bits0(l:List Int):((List.replicate 244 (0:UInt8)).map bv).take 0++(leB (l.length:Int) 4).map bv++((List.replicate 244 (0:UInt8)).map bv).drop (0+4)=(Nu l 0).map bv:=by
 unfold Nu
 rw[List.map_append,List.take_zero,List.nil_append]
 congr 1
theorem BysN.elem{w:World}{b:O0}{n c:Nat}{l:Bl}(h:Sl w (.slice b n c) n (l.map bv))(hl:l.length=n){k:Nat}(hk:k<n):b.isSome=true∧w.cell? (Xd b (k*1))=some (.int .u8 ((l.getD k 0).toNat:Int)):=by
 subst hl;exact Bys.elem (Yi h rfl) hk
theorem bits_put1(n:Int)(w:World)(h0:0≤n)(h3:n≤3) :
 C0 229 #[V0 n] w (Ret (.bool false) w):=by
 refine zin 9 Tryz.func229 ?_
 refine xgk 10 [4,5] (show(decide (n<(0:Int)):Bool)=false from decide_eq_false (by omega)) ?_
 refine xe 7 (.bool (decide (n>(3:Int)))) ?_
 rw[show decide (n>(3:Int))=false from decide_eq_false (by omega)];exact⟨rfl,(B4 w)⟩
theorem Zgn(a:O0)(c:Nat)(l:List Int)(w:World)(hS:Hq l)(hl:l.length≤960)(h:Sl w (.slice a l.length c) l.length (l.map V0)) :
 C0 178 #[.slice a l.length c,.func (.func 229) #[] #[]] w (Ret (V0 (-1)) w):=by
 refine zin 19 Tryz.func178 ?_
 have hB:=Below.refl w.heap.size w
 refine zl 14 19 (fun zm a4 V=>∃ (i:Nat),a4=[(0,.slice a l.length c),(1,.func (.func 229) #[] #[]),(7,V0 (l.length:Int)),(8,V0 (i:Int))]∧zm=l.length-((i:Int)).toNat∧B3 w V∧i≤l.length) ⟨0,rfl,rfl,hB,Nat.zero_le _⟩ ?_
 rintro _ _ W1 ⟨i,rfl,rfl,a0,hi⟩ J1 a2 r1
 refine xid 6 ((i:Int)<(l.length:Int)) (fun a5=>?_) (fun a5=>?_)
 ·refine xx 15 _ l.length i 1 (Ints.elem h (k:=i) (by omega)).1 ?_
  refine xl 0 ((Ints.elem (h.below a0) (k:=i) (by omega)).2) ?_
  refine xr 0 (args:=#[V0 (l.getD i 0)]) (bits_put1 (l.getD i 0) _ (Jo hS i).1 (Jo hS i).2) fun W3 a3=>?_
  refine xwm 7 ((i:Int)+1) (↑(i+1):Int) ?_
  have a1:=bln a0 a3
  exact ze 2 (a2 _ _ _ ⟨i+1,rfl,rfl,a1,by omega⟩ (by omega))
 exact xe 11 (V0 (-1)) ⟨rfl,a0⟩
theorem Ib(a:O0)(c:Nat)(l:List Int)(w:World)(hS:Hq l)(hl:l.length≤960)(h:Sl w (.slice a l.length c) l.length (l.map V0)) :
 C0 104 #[.slice a l.length c,.func (.func 229) #[] #[]] w (Ret (.bool false) w):=by
 refine zin 9 Tryz.func104 ?_
 refine xr 9 (args:=#[.slice a l.length c,.func (.func 229) #[] #[]]) (Zgn a c l _ hS hl (h.below (B4 w))) fun W1 a0=>?_
 exact xe 5 (.bool false) ⟨rfl,a0⟩
theorem Zbv(a:O0)(c:Nat)(l:List Int)(w:World)(hl:l.length≤960)(h:Sl w (.slice a l.length c) l.length (l.map V0)) :
 C0 187 #[.slice a l.length c] w (Ret (.tuple #[V0 (↑(Yg l):Int),V0 (↑(Xj l):Int)]) w):=by
 refine zin 27 Tryz.func187 ?_
 have hB:=Below.refl w.heap.size w
 refine zl 23 27 (fun zm a5 V=>∃ (i f g:Nat),a5=[(2,V0 0),(3,V0 0),(4,V0 (f:Int)),(5,V0 (g:Int)),(10,.slice a l.length c),(11,V0 (l.length:Int)),(12,V0 (i:Int))]∧zm=l.length-((i:Int)).toNat∧B3 w V∧i≤l.length∧f=Zgf l i∧((f=0∧g=l.length∧∀ j,j<i→l.getD j 0≠0)∨(0<f∧g=Xj l))) ⟨0,0,l.length,rfl,rfl,hB,Nat.zero_le _,rfl,?_⟩ ?_
 ·exact .inl ⟨rfl,rfl,fun j hj=>absurd hj (by omega)⟩
 rintro _ _ W1 ⟨i,f,g,rfl,rfl,a0,hi,hf,hg⟩ J1 a2 r1
 have a3:=fun(q:i<l.length)=>freeK_succ q
 have a8:=Dp l i
 refine xid 6 ((i:Int)<(l.length:Int)) (fun a6=>?_) (fun a6=>?_)
 ·refine xx 7 _ l.length i 1 (Ints.elem h (k:=i) (by omega)).1 ?_
  refine xl 0 ((Ints.elem (h.below a0) (k:=i) (by omega)).2) ?_
  refine xin 11 (l.getD i 0) (0:Int) (fun a7=>?_) (fun a7=>?_)
  ·refine xwm 5 ((i:Int)+1) (↑(i+1):Int) ?_
   exact ze 2 (a2 _ _ _ ⟨i+1,f,g,rfl,rfl,a0,by omega,by rw[a3 (by omega),if_neg (by assumption)];exact hf,hg.elim (fun⟨h1,h2,h3⟩=>.inl ⟨h1,h2,fun j hj=>(Nat.lt_or_ge j i).elim (fun q=>h3 j q) (fun q=>by obtain rfl:j=i:=(by omega);assumption)⟩) .inr⟩ (by omega))
  refine xie 9 (f:Int) (0:Int) (fun a4=>?_) (fun a4=>?_)
  ·refine xwm 7 ((f:Int)+1) (↑(f+1):Int) ?_
   refine xwm 5 ((i:Int)+1) (↑(i+1):Int) ?_
   exact ze 2 (a2 _ _ _ ⟨i+1,f+1,i,rfl,rfl,a0,by omega,by rw[a3 (by omega),if_pos (by assumption),hf],.inr ⟨by omega,hg.elim (fun⟨_,_,h3⟩=>(firstN_at (by omega) (by assumption) h3).symm) (fun q=>absurd q.1 (by omega))⟩⟩ (by omega))
  refine xwm 4 ((f:Int)+1) (↑(f+1):Int) ?_
  refine xwm 5 ((i:Int)+1) (↑(i+1):Int) ?_
  exact ze 2 (a2 _ _ _ ⟨i+1,f+1,g,rfl,rfl,a0,by omega,by rw[a3 (by omega),if_pos (by assumption),hf],.inr ⟨by omega,hg.elim (fun⟨h1,_,_⟩=>absurd h1 (by omega)) (fun q=>q.2)⟩⟩ (by omega))
 refine xe 14 (.tuple #[V0 (f:Int),V0 (g:Int)]) ?_
 obtain rfl:i=l.length:=by omega
 have a1:f=Yg l:=hf
 rcases hg with ⟨h1,h2,h3⟩|⟨h1,h2⟩
 ·exact⟨by rw[a1,h2,Zde h3],a0⟩
 ·exact⟨by rw[a1,h2],a0⟩
theorem Zen(a:O0)(c:Nat)(l:List Int)(w:World)(hS:Hq l)(hl:l.length≤960)(h:Sl w (.slice a l.length c) l.length (l.map V0)) :
 C0 186 #[.slice a l.length c] w (Yy (fun w' r=>∃ g,r=.tuple #[.slice (S1 g) 244 244,V0 0]∧w'.ownsRow w.heap.size 5 1 (.slice (S1 g) 244 244) 244 ((Jz l).map bv)) w):=by
 refine zin 51 Tryz.func186 ?_
 refine xgk 13 [11,12] (show(decide ((l.length:Int)>(960:Int)):Bool)=false from decide_eq_false (by omega)) ?_
 refine xr 1 (args:=#[.slice a l.length c,.func (.func 229) #[] #[]]) (Ib a c l _ hS hl (h.below (B4 w))) fun W2 a8=>?_
 refine xbs 11 1 [V0 4,V0 (l.length:Int)] 235 fun b3 W3 n3=>?_
 refine xc 0 (args:=#[.slice (S1 b3) 1 1]) (Cn b3 (l.length:Int) (by omega) (by omega) _ n3.blk) ?_
 rintro _ W4 ⟨_,rfl,a9,p2,c2,rfl,h2⟩
 have c0:=(bln a8 n3.below).size
 refine xmk 9 fun _ _ _ _ zJ zQ zo zx zy zK=>Ke 244 (.int .u8 0) 1 1 ((List.replicate 244 (0:UInt8)).map bv) zo zx zy Tryz.underlying22 (by kernel_rfl) rfl (by omega) (by omega) (Zbi 244) fun b5 W5 n5=>?_
 have a5:=Zf h2 c0
 have b2:=Zr a5 n5
 refine zK _ _ ?_
 have o5:=Zz (size:=1) (n:=244) n5.blk (n5.ge (bln (bln a8 n3.below) a9)) (by rw[List.length_map,List.length_replicate]) (by unfold maxLen;omega)
 have a7:=Zb a5 n5.below
 have hB:=bln (bln (bln a8 n3.below) a9) n5.below
 refine xbi 7 (t2:=22) fun _ _ _ _ zJ zQ zo zx zy zK=>Wk (dLen:=244) (dCap:=244) (off:=0) 4 ((leB (l.length:Int) 4).map bv) ((Nu l 0).map bv) zo Tryz.underlying22 (by kernel_rfl) zx zy (Ze a7) o5 (by simp[Zg]) (by omega) (by omega) (Yt _) hB.size (bits0 l) fun W6 o6 b7 b4=>?_
 refine zK _ _ ?_
 have b0:=hB.trans b4
 have a6:=((n3.blk.below a9).below n5.below).grown b7 o5 (by decide)
 refine zl 11 51 (fun zm b9 V=>∃ (i:Nat),b9=[(2,S0),(3,V0 0),(6,.slice (S1 b5) 244 244),(28,.slice a l.length c),(29,V0 (l.length:Int)),(30,V0 (i:Int))]∧zm=l.length-((i:Int)).toNat∧B3 w V∧Blk V b3 ([V0 4,V0 (l.length:Int)]) 235∧V.ownsRow w.heap.size 5 1 (.slice (S1 b5) 244 244) 244 ((Nu l i).map bv)∧i≤l.length) ⟨0,rfl,rfl,b0,a6,o6,Nat.zero_le _⟩ ?_
 rintro _ _ W7 ⟨i,rfl,rfl,a3,a4,ho,hi⟩ J7 b8 r7
 refine xid 6 ((i:Int)<(l.length:Int)) (fun b6=>?_) (fun b6=>?_)
 ·refine xx 7 _ l.length i 1 (Ints.elem h (k:=i) (by omega)).1 ?_
  refine xl 0 ((Ints.elem (h.below a3) (k:=i) (by omega)).2) ?_
  refine xd 4 (.t w.heap.size [5]) ?_
  refine xq (.e [0,1] 2) (congrArg V0 (show(IntKind.i64.wrap (Int.tdiv (i:Int) 4):Int)=(↑(i/4):Int) from Lo i 4 (by omega) (by decide))) ?_
  refine xwm (.e [] 3) (4+(↑(i/4):Int)) (↑(4+(i/4)):Int) ?_
  refine xx (.e [] 4) _ 244 (4+(i/4)) 1 (show(some (⟨b5,0,none⟩:Addr)).isSome=true from rfl) ?_
  refine xq (.e [6,7] 8) (congrArg V0 (show(Int.tmod (i:Int) 4:Int)=(↑(i%4):Int) from Mw i 4)) ?_
  refine xwm (.e [] 9) ((↑(i%4):Int)*2) (↑((i%4)*2):Int) ?_
  refine xbot (.e [] 10) (t:=3) (t2:=3) (fun _ _ _ _ zo zx zy V hV=>run_shlS (n:=(l.getD i 0)) (s:=((i%4)*2)) (kj:=.i64) (j:=(↑((i%4)*2):Int)) zo zx zy rfl (Jo hS i) (by omega) V) ?_
  refine xq (.e [] 11) (congrArg (Value.int .u8) (show(IntKind.u8.wrap (l.getD i 0*2 ^ ((i%4)*2)):Int)=l.getD i 0*2 ^ ((i%4)*2) from u8_shl (Jo hS i) (by omega))) ?_
  have a1:=Zb ho (Za W7)
  refine xl (.o [] 5) ((BysN.elem (Ze a1) (Va l i) (k:=(4+(i/4))) (by omega)).2) ?_
  refine xq (.e [] 12) (congrArg (Value.int .u8) (show(IntKind.u8.wrap (↑(BitVec.ofInt 8 (↑((Nu l i).getD (4+(i/4)) 0).toNat:Int) ||| BitVec.ofInt 8 (l.getD i 0*2 ^ ((i%4)*2))).toNat:Int):Int)=(↑(g4B l (i+1) (i/4)).toNat:Int) from bits_or hS (by omega))) ?_
  refine xx (.e [] 13) _ 244 (4+(i/4)) 1 (show(some (⟨b5,0,none⟩:Addr)).isSome=true from rfl) ?_
  refine yst (.o [] 14) (.t w.heap.size [5]) fun _ _ _ _ zJ zQ zo zx zy zK=>Vx (t:=5) (k:=(4+(i/4))) (v:=.int .u8 (↑(g4B l (i+1) (i/4)).toNat:Int)) zo zx zy (by kernel_rfl) rfl a1 (by omega) fun W9 u9 o9=>?_
  rw[bits_set (l:=l) (i:=i) (by omega)] at o9
  have a0:=a4.below (Za W7)
  refine zK _ _ (Hm (T:=[5]) (u9.below (Below.refl _ _) (Nk a1)) (Zd.of_updRow u9 a1 (by decide))) ?_
  refine xwm 4 ((i:Int)+1) (↑(i+1):Int) ?_
  have b1:=u9.below (bln a3 (Za W7)) (Nk a1)
  have a2:=u9.blk a0 (Cb a0 a1 (by decide))
  exact ze 2 (b8 _ _ _ ⟨i+1,rfl,rfl,b1,a2,o9,by omega⟩ (by omega))
 refine xe 13 (.tuple #[.slice (S1 b5) 244 244,V0 0]) ?_
 obtain rfl:i=l.length:=by omega
 exact⟨_,rfl,a3,_,rfl,ho⟩
theorem Mu(p:Addr)(N c:Nat)(xs:List Value)(w:World)(h:Sl w (.slice (some p) N c) N xs)(hl:xs.length=N)(h1:∀ u∈xs,u.oneCell'=true)(hn:N≤1000000) :
 C0 124 #[.slice (some p) N c] w (Yy (fun w' r=>∃ q c2,r=.slice q N c2∧w'.ownsRow w.heap.size 3 1 (.slice q N c2) N xs) w):=by
 refine zin 8 Tryz.func124 ?_
 refine xb0 17 3 fun b1 W1 n1=>?_
 have o1:=Zz (size:=1) (n:=0) n1.blk (n1.ge (B4 w)) rfl (by decide)
 refine xbi 1 fun _ _ _ _ zJ zQ zo zx zy zK=>Zy (m:=N) (news:=xs) (V0 0) 1 8 (N) (xs) zo Tryz.underlying35 (by kernel_rfl) rfl (by decide) zx o1 zy (h.below n1.below) (by rw[hl,Nat.mul_one]) h1 (by unfold maxLen;omega) (by omega) n1.below.size (by omega) (by rfl) fun a2 a1 W2 o2 a4 a3=>?_
 refine zK _ _ ?_
 have a0:=n1.below.trans a3
 exact xe 4 (.slice a2 N a1) ⟨_,rfl,a0,_,_,rfl,o2⟩
end Go.Proofs.YtceeiinepijokaaGreat
namespace Go.Proofs.YtceeiinepijokaaGreat
set_option maxHeartbeats 8000000
set_option maxRecDepth 100000
open Go.RowKit Go.Extern.Stop Go.Stop Go.Extern
set_option linter.unusedVariables false
attribute [local irreducible] wpList wpAnyH Code.wp Oper.wp Go
theorem Eu(no er:Int)(bl:List Int)(v:Value)(w:World)(hv:Hw w (bl.map some) (some er) v) :
 C0 82 #[V0 no,v] w (fun e w'=>∃ ty x,e=.returned (.iface ty x)∧B3 w w'∧Hw w' ((no::bl).map some) (some er) (.iface ty x)):=by
 refine(Ze9 no (some er) (bl.map some) v w hv).mono ?_
 rintro e W ⟨r,rfl,hb,hr⟩
 rw[show atL no (bl.map some) (some er)=(no::bl).map some from by unfold atL noErr;simp] at hr
 have a0:Hw W (some no::bl.map some) (some er) r:=hr
 obtain⟨a1,v',rfl,h1,h2⟩:=a0
 exact⟨_,_,rfl,hb,a1,v',rfl,h1,h2⟩
theorem Kb(B b:Nat)(p:O0)(n c:Nat)(l:Bl)(no:Int)(w:World)(hI:ImgR B b p n c l w) :
 C0 100 #[P0 b,V0 no] w (fun e w' =>
 (Ys l no≠0∧∃ ty x,e=.returned (.tuple #[S0,.iface ty x])∧B3 w w'∧Hw w' (([no]:List Int).map some) (some (Ys l no)) (.iface ty x)) ∨
 (Ys l no=0∧∃ p c,e=.returned (.tuple #[.slice p (bitR l no).length c,.nilIface])∧B3 w w'∧w'.ownsRow w.heap.size 3 1 (.slice p (bitR l no).length c) (bitR l no).length ((bitR l no).map V0))):=by
 refine(block_Bits B b p n c l no w hI).mono ?_
 rintro e W q
 rcases q with ⟨h,b,rfl,hb,hv⟩|⟨h,p,c,rfl,hb,ho⟩
 ·exact .inl ⟨h,_,_,rfl,hb,hv⟩
 ·refine .inr ⟨h,p,c,by rw[(Zdg h).2],hb,?_⟩
  rw[(Zdg h).2,(Zdg h).1,bitI_map];exact ho
end Go.Proofs.YtceeiinepijokaaGreat
namespace Go.Proofs.YtceeiinepijokaaGreat
set_option maxHeartbeats 8000000
set_option maxRecDepth 100000
open Go.RowKit Go.Extern.Stop Go.Stop Go.Extern
set_option linter.unusedVariables false
attribute [local irreducible] wpList wpAnyH Code.wp Oper.wp Go
def SplitP(l:List Int)(w:World)(e:Ending)(w':World):Prop :=
 (Ku l≠0∧e=.returned (.tuple #[S0,S0,V0 2])∧B3 w w') ∨
 (Ku l=0∧∃ pb cb gs po co,e=.returned (.tuple #[.slice pb (bmN l.length) cb,.slice po (Zu l l.length).length co,V0 0])∧B3 w w'∧Lists w' w.heap.size (.slice pb (bmN l.length) cb) gs (Xi (Zo l) (bmN l.length))∧w'.ownsRow w.heap.size 122 3 (.slice po (Zu l l.length).length co) (Zu l l.length).length ((Zu l l.length).flatMap Kv))
theorem Sy{l:List Int}{i:Nat}(hl:l.length≤65536)(hi:i<l.length)(h:¬ Wl (l.getD i 0)):Ku l≠0:=fun q=>h ((Eg q).2 i hi)
theorem Zdu{l:List Int}(hl:l.length≤65536)(h:∀ k,k<l.length→Wl (l.getD k 0)):Ku l=0:=by
 unfold Ku;rw[if_neg (by omega),if_pos h]
attribute [local go_sem] Oper.semAt_some
theorem g_retM{P:Program}{fn:Func}{R:Ending→World→Prop}{a:Act}{w:World}(v:Value)(hd:a.defers=[])(hr:(results fn a.tmps).run P w=.ok v w)(h:R (.returned v) w):bodyPostM Fence.wide 4 P fn R .ret a w:=by
 show LeavesInM _ _ _ _ a.tmps R a.defers .returning w
 rw[hd]
 exact⟨v,hr,h⟩
theorem Lists.put{W U:World}{D base:Nat}{v:Value}{gs:List (Nat×Nat)}{L:List (List Int)}(h:Lists W base v gs L)(u:Upd W D U)(hK:Dfr D W):Lists U base v gs L:=⟨u.own3 h.row (hK.row h.row),fun i hi=>u.own3 (h.each i hi) (hK.row (h.each i hi))⟩
theorem mn3_if(n:Int):(if 3<n then 3 else n)=mn3 n:=by unfold mn3;split<;>split<;>omega
def Hz(s:List Int){n:Nat}(pre:List (Fin n)):List (List Int):=pre.map fun j=>Ul s j.val
theorem Gg(s:List Int){n:Nat}(pre:List (Fin n))(x:Fin n):Hz s (pre++[x])=Hz s pre++[Ul s x.val]:=by simp[Hz]
theorem preC_all(s:List Int)(n:Nat):Hz s (List.finRange n)=Xi s n:=by
 unfold Hz Xi
 apply List.ext_getElem
 ·simp
 ·intro i h1 h2;simp
theorem Zcp(a:O0)(c:Nat)(l:List Int)(w:World)(h:Sl w (.slice a l.length c) l.length (l.map V0))(hl:l.length≤65536) :
 C0 112 #[.slice a l.length c] w (SplitP l w):=by
 refine Nh Tryz.func112 rfl ?_
 refine g_fr ⟨#[.slice a l.length c,undef,undef,undef,undef,undef,undef,undef,undef,undef,undef,undef,undef,undef,undef,undef,undef,undef,undef,undef,undef,undef,undef,undef,undef,undef,undef,undef,undef,undef,undef,undef,undef,undef,undef,undef,undef,undef,undef,undef,undef,undef,undef,undef,undef,undef,undef,undef,undef,undef,undef,undef],[]⟩ (by kernel_rfl) ?_
 refine wp_seq ?_
 refine wp_region_lit ?_
 refine Gk 3 [(2,S0),(3,S0),(4,V0 0)] (by kernel_rfl) ?_
 refine wpList_nil ?_
 refine wp_seq ?_
 refine wp_seq ?_
 refine wp_region_lit ?_
 refine Gk 3 [(11,.slice a l.length c),(12,V0 (l.length:Int)),(13,.bool (decide ((l.length:Int)>(65536:Int))))] (by kernel_rfl) ?_
 refine wpList_nil ?_
 refine wp_cond_split (t:=decide ((l.length:Int)>(65536:Int))) (by kernel_rfl) (fun hh=>absurd (hh.symm.trans (show(decide ((l.length:Int)>(65536:Int)):Bool)=false from decide_eq_false (by omega))) (by decide)) (fun _=>?_)
 refine wp_skip ?_
 refine wp_seq ?_
 refine wp_region_lit ?_
 refine Gk 1 [(5,S0)] (by kernel_rfl) ?_
 refine wpList_nil ?_
 refine wp_seq ?_
 refine wp_region_lit ?_
 refine Gk 1 [(6,S0)] (by kernel_rfl) ?_
 refine wpList_nil ?_
 refine wp_seq ?_
 refine wp_seq ?_
 refine wp_region_lit ?_
 refine Gk 3 [(14,.slice a l.length c),(15,V0 (l.length:Int)),(16,V0 0)] (by kernel_rfl) ?_
 refine wpList_nil ?_
 refine wp_block ?_
 refine g_fr ⟨#[.slice a l.length c,undef,S0,S0,V0 0,S0,S0,undef,undef,undef,undef,.slice a l.length c,V0 (l.length:Int),.bool (decide ((l.length:Int)>(65536:Int))),.slice a l.length c,V0 (l.length:Int),V0 0,undef,undef,undef,undef,undef,undef,undef,undef,undef,undef,undef,undef,undef,undef,undef,undef,undef,undef,undef,undef,undef,undef,undef,undef,undef,undef,undef,undef,undef,undef,undef,undef,undef,undef,undef],[]⟩ (by kernel_rfl) ?_
 have hB:=Below.refl w.heap.size w
 refine wp_loop (fun i9 V=>∃ (i:Nat) (ps:O0) (cs:Nat) (po:O0) (co:Nat) (x2:Nat→Value),i9=⟨#[.slice a l.length c,undef,(x2 0),(x2 1),(x2 2),.slice ps i cs,.slice po ((Zu l i).length) co,(x2 3),(x2 4),undef,undef,.slice a l.length c,V0 (l.length:Int),.bool (decide ((l.length:Int)>(65536:Int))),.slice a l.length c,V0 (l.length:Int),V0 (i:Int),(x2 5),(x2 6),(x2 7),(x2 8),(x2 9),(x2 10),(x2 11),(x2 12),(x2 13),(x2 14),(x2 15),(x2 16),(x2 17),(x2 18),(x2 19),(x2 20),(x2 21),(x2 22),(x2 23),(x2 24),(x2 25),(x2 26),(x2 27),(x2 28),(x2 29),undef,undef,undef,undef,undef,undef,undef,undef,undef,undef],[]⟩∧B3 w V∧V.ownsRow w.heap.size 3 1 (.slice ps i cs) i ((Zo (l.take i)).map V0)∧V.ownsRow w.heap.size 122 3 (.slice po (Zu l i).length co) (Zu l i).length ((Zu l i).flatMap Kv)∧i≤l.length∧((∀ j,j<i→Wl (l.getD j 0)))) (fun i9 V=>l.length-((intOf (i9.tmps.getD 16 undef))).toNat) ⟨0,none,0,none,0,(pk [S0,S0,V0 0,undef,undef,undef,undef,undef,undef,undef,undef,undef,undef,undef,undef,undef,undef,undef,undef,undef,undef,undef,undef,undef,undef,undef,undef,undef,undef,undef]),rfl,hB,World.ownsRow_nil _ _ _ _,World.ownsRow_nil _ _ _ _,Nat.zero_le _,?_⟩ ?_
 ·exact fun j hj=>absurd hj (by omega)
 rintro _ W2 ⟨i,ps,cs,po,co,x2,rfl,hB,hs,ho,hi,hz⟩
 refine wp_seq ?_
 refine wp_region_lit ?_
 refine Gk 1 [(17,.bool (decide ((i:Int)<(l.length:Int))))] (by kernel_rfl) ?_
 refine wpList_nil ?_
 refine wp_seq ?_
 refine wp_cond_split (t:=decide ((i:Int)<(l.length:Int))) (by kernel_rfl) (fun f5=>?_) (fun f5=>?_)
 ·have f5:=of_decide_eq_true f5
  refine wp_skip ?_
  refine wp_seq ?_
  refine wp_block ?_
  refine wp_seq ?_
  refine wp_region_lit ?_
  refine Gk 1 [(18,V0 (i:Int))] (by kernel_rfl) ?_
  refine Jd (by kernel_rfl) (Hf (Tn (size:=1) (k:=i) (b:=a) (n:=l.length) (c:=c) (i:=(i:Int)) (ki:=.i64) rfl (by kernel_rfl) (by kernel_rfl) rfl (by omega) (Ints.elem h (k:=i) (by omega)).1 Tryz.underlying35 (by kernel_rfl) W2) ?_)
  refine Jd (by kernel_rfl) (Kw (Xd a (i*1)) (V0 (l.getD i 0)) rfl (by kernel_rfl) (by kernel_rfl) (Ints.elem (h.below hB) (k:=i) (by omega)).2 ?_)
  refine Gk 2 [(7,V0 (i:Int)),(8,V0 (l.getD i 0))] (by kernel_rfl) ?_
  refine wpList_nil ?_
  refine wp_seq ?_
  refine wp_seq ?_
  refine wp_region_lit ?_
  refine Gk 3 [(21,V0 (l.getD i 0)),(22,.bool (decide ((l.getD i 0)<(0:Int)))),(23,.bool (decide ((l.getD i 0)<(0:Int))))] (by kernel_rfl) ?_
  rcases Bool.eq_false_or_eq_true (decide ((l.getD i 0)<(0:Int))) with d9|d9
  ·refine g_b [22,23] _ _ d9 (by kernel_rfl) ?_
   have d9:=of_decide_eq_true d9
   refine Gk 3 [(24,undef),(25,undef),(26,.bool true)] (by kernel_rfl) ?_
   refine wpList_nil ?_
   refine wp_cond_true (by kernel_rfl) ?_
   refine wp_seq ?_
   refine wp_region_lit ?_
   refine Gk 3 [(2,S0),(3,S0),(4,V0 2)] (by kernel_rfl) ?_
   refine wpList_nil ?_
   refine wp_ret (Hh (Ud (Hh (Hh (Ud (Hh ?_))))))
   exact g_retM (.tuple #[S0,S0,V0 2]) (by kernel_rfl) (by kernel_rfl) (.inl ⟨Sy (i:=i) hl (by omega) (fun q=>by unfold Wl at q;omega),rfl,hB⟩)
  ·refine g_b [22,23] _ _ d9 (by kernel_rfl) ?_
   have d9:=of_decide_eq_false d9
   refine Gk 3 [(24,V0 (l.getD i 0)),(25,.bool (decide ((l.getD i 0)>(2147483647:Int)))),(26,.bool (decide ((l.getD i 0)>(2147483647:Int))))] (by kernel_rfl) ?_
   refine wpList_nil ?_
   refine wp_cond_split (t:=decide ((l.getD i 0)>(2147483647:Int))) (by kernel_rfl) (fun f0=>?_) (fun f0=>?_)
   ·have f0:=of_decide_eq_true f0
    refine wp_seq ?_
    refine wp_region_lit ?_
    refine Gk 3 [(2,S0),(3,S0),(4,V0 2)] (by kernel_rfl) ?_
    refine wpList_nil ?_
    refine wp_ret (Hh (Ud (Hh (Hh (Ud (Hh ?_))))))
    exact g_retM (.tuple #[S0,S0,V0 2]) (by kernel_rfl) (by kernel_rfl) (.inl ⟨Sy (i:=i) hl (by omega) (fun q=>by unfold Wl at q;omega),rfl,hB⟩)
   ·have f0:=of_decide_eq_false f0
    refine wp_skip ?_
    refine wp_seq ?_
    refine wp_region_lit ?_
    refine Gk 3 [(27,.slice ps i cs),(28,V0 (l.getD i 0)),(29,V0 (if(3:Int)<(l.getD i 0) then(3:Int) else(l.getD i 0)))] (by kernel_rfl) ?_
    refine Jd (by kernel_rfl) (Qn 3 [V0 (if(3:Int)<(l.getD i 0) then(3:Int) else(l.getD i 0))] rfl (by kernel_rfl) ?_)
    intro b6 W6 n6
    have g6:=n6.ge hB
    have j6:=Zr hs n6
    replace hB:=bln hB n6.below
    replace hs:=Zb hs n6.below
    replace ho:=Zb ho n6.below
    have k6:=n6.blk
    refine Jd (by kernel_rfl) (Zy (e:=3) (n:=i) (xs:=(Zo (l.take i)).map V0) (m:=1) (news:=[V0 (if(3:Int)<(l.getD i 0) then(3:Int) else(l.getD i 0))]) (V0 0) 1 8 (i+1) ((Zo (l.take (i+1))).map V0) rfl Tryz.underlying35 (by kernel_rfl) rfl (by decide) (by kernel_rfl) hs (by kernel_rfl) (k6.sl 1 1 (by decide) (by decide)) rfl (by simp[Value.oneCell']) (by unfold maxLen;omega) (by omega) hB.size (by rfl) (by rw[mn3_if,Zhl (by omega),List.map_append];rfl) ?_)
    intro p7 c7 W7 o7 m6 m4
    replace ho:=Yb ho m6 hs (by decide)
    replace hB:=hB.trans m4
    refine Gk 1 [(5,.slice p7 (i+1) c7)] (by kernel_rfl) ?_
    refine wpList_nil ?_
    refine wp_seq ?_
    refine wp_region_lit ?_
    refine Gk 2 [(32,V0 (l.getD i 0)),(33,.bool (decide ((l.getD i 0)≥(3:Int))))] (by kernel_rfl) ?_
    refine wpList_nil ?_
    refine wp_cond_split (t:=decide ((l.getD i 0)≥(3:Int))) (by kernel_rfl) (fun e7=>?_) (fun e7=>?_)
    ·have e7:=of_decide_eq_true e7
     refine wp_region_lit ?_
     refine Gk 3 [(34,.slice po ((Zu l i).length) co),(35,V0 (i:Int)),(36,V0 (l.getD i 0))] (by kernel_rfl) ?_
     refine Jd (by kernel_rfl) (Qw (lb:=#[]) 182 #[V0 (l.getD i 0)] rfl (by kernel_rfl) (fun _ _=>by kernel_rfl) (by kernel_rfl) ((Zcz (l.getD i 0) (by omega) (by omega) _).mono ?_))
     rintro e W9 ⟨rfl,c0⟩
     refine⟨_,rfl,?_⟩
     replace hB:=bln hB c0
     replace ho:=Zb ho c0
     replace o7:=Zb o7 c0
     refine Gk 1 [(38,.agg #[V0 (i:Int),.string ⟨(leB (l.getD i 0) 4).toArray⟩,V0 0])] (by kernel_rfl) ?_
     refine Jd (by kernel_rfl) (Qn 122 [V0 (i:Int),.string ⟨(leB (l.getD i 0) 4).toArray⟩,V0 0] rfl (by kernel_rfl) ?_)
     intro j2 n3 e5
     have o2:=e5.ge hB
     have h7:=Zr ho e5
     replace hB:=bln hB e5.below
     replace ho:=Zb ho e5.below
     replace o7:=Zb o7 e5.below
     have n0:=e5.blk
     refine Jd (by kernel_rfl) (Zy (e:=122) (n:=(Zu l i).length) (xs:=(Zu l i).flatMap Kv) (m:=1) (news:=[V0 (i:Int),.string ⟨(leB (l.getD i 0) 4).toArray⟩,V0 0]) (.agg #[V0 0,.string ⟨#[]⟩,V0 0]) 3 32 ((Zu l (i+1)).length) ((Zu l (i+1)).flatMap Kv) rfl Tryz.underlying105 (by kernel_rfl) rfl (by decide) (by kernel_rfl) ho (by kernel_rfl) (n0.sl 1 1 (by decide) (by decide)) rfl (by simp[Value.oneCell']) (by have:=Lm l i;unfold maxLen;omega) (by have:=Lm l i;omega) hB.size (by rw[Ws (by omega)];simp) (by rw[Ws (by omega)];simp[Kv]) ?_)
     intro g5 f9 n5 m2 i2 i7
     replace o7:=Yb o7 i2 ho (by decide)
     replace hB:=hB.trans i7
     refine Gk 1 [(6,.slice g5 ((Zu l (i+1)).length) f9)] (by kernel_rfl) ?_
     refine wpList_nil ?_
     refine wp_region_lit ?_
     refine Jd (by kernel_rfl) (op_wrap .i64 ((i:Int)+1) (↑(i+1):Int) (by kernel_rfl) ((show IntKind.i64.wrap ((i:Int)+1)=((i:Int)+1) from by first|exact IntWalk.i64_in _ (by omega)|(simp only[IntKind.wrap];omega)).trans (by omega)) ?_)
     refine Gk 1 [(16,V0 (↑(i+1):Int))] (by kernel_rfl) ?_
     refine wpList_nil ?_
     refine g_nfr ⟨#[.slice a l.length c,undef,(x2 0),(x2 1),(x2 2),.slice p7 (i+1) c7,.slice g5 ((Zu l (i+1)).length) f9,V0 (i:Int),V0 (l.getD i 0),undef,undef,.slice a l.length c,V0 (l.length:Int),.bool (decide ((l.length:Int)>(65536:Int))),.slice a l.length c,V0 (l.length:Int),V0 (↑(i+1):Int),.bool (decide ((i:Int)<(l.length:Int))),V0 (i:Int),.pointer (some (Xd a (i*1))),V0 (l.getD i 0),V0 (l.getD i 0),.bool false,.bool false,V0 (l.getD i 0),.bool (decide ((l.getD i 0)>(2147483647:Int))),.bool (decide ((l.getD i 0)>(2147483647:Int))),.slice ps i cs,V0 (l.getD i 0),V0 (if(3:Int)<(l.getD i 0) then(3:Int) else(l.getD i 0)),.slice (S1 b6) 1 1,.slice p7 (i+1) c7,V0 (l.getD i 0),.bool (decide ((l.getD i 0)≥(3:Int))),.slice po ((Zu l i).length) co,V0 (i:Int),V0 (l.getD i 0),.string ⟨(leB (l.getD i 0) 4).toArray⟩,.agg #[V0 (i:Int),.string ⟨(leB (l.getD i 0) 4).toArray⟩,V0 0],.slice (S1 j2) 1 1,.slice g5 ((Zu l (i+1)).length) f9,V0 (↑(i+1):Int),undef,undef,undef,undef,undef,undef,undef,undef,undef,undef],[]⟩ (by kernel_rfl) ?_
     refine⟨⟨i+1,_,_,_,_,(pk [(x2 0),(x2 1),(x2 2),V0 (i:Int),V0 (l.getD i 0),.bool (decide ((i:Int)<(l.length:Int))),V0 (i:Int),.pointer (some (Xd a (i*1))),V0 (l.getD i 0),V0 (l.getD i 0),.bool false,.bool false,V0 (l.getD i 0),.bool (decide ((l.getD i 0)>(2147483647:Int))),.bool (decide ((l.getD i 0)>(2147483647:Int))),.slice ps i cs,V0 (l.getD i 0),V0 (if(3:Int)<(l.getD i 0) then(3:Int) else(l.getD i 0)),.slice (S1 b6) 1 1,.slice p7 (i+1) c7,V0 (l.getD i 0),.bool (decide ((l.getD i 0)≥(3:Int))),.slice po ((Zu l i).length) co,V0 (i:Int),V0 (l.getD i 0),.string ⟨(leB (l.getD i 0) 4).toArray⟩,.agg #[V0 (i:Int),.string ⟨(leB (l.getD i 0) 4).toArray⟩,V0 0],.slice (S1 j2) 1 1,.slice g5 ((Zu l (i+1)).length) f9,V0 (↑(i+1):Int)]),rfl,hB,o7,m2,by omega,fun j hj=>(Nat.lt_or_ge j i).elim (hz j) (fun q=>by obtain rfl:j=i:=(by omega);exact⟨by omega,by omega⟩)⟩,?_⟩
     show l.length-((↑(i+1):Int)).toNat<l.length-((i:Int)).toNat
     omega
    ·have e7:=of_decide_eq_false e7
     refine wp_skip ?_
     refine wp_region_lit ?_
     refine Jd (by kernel_rfl) (op_wrap .i64 ((i:Int)+1) (↑(i+1):Int) (by kernel_rfl) ((show IntKind.i64.wrap ((i:Int)+1)=((i:Int)+1) from by first|exact IntWalk.i64_in _ (by omega)|(simp only[IntKind.wrap];omega)).trans (by omega)) ?_)
     refine Gk 1 [(16,V0 (↑(i+1):Int))] (by kernel_rfl) ?_
     refine wpList_nil ?_
     refine g_nfr ⟨#[.slice a l.length c,undef,(x2 0),(x2 1),(x2 2),.slice p7 (i+1) c7,.slice po ((Zu l i).length) co,V0 (i:Int),V0 (l.getD i 0),undef,undef,.slice a l.length c,V0 (l.length:Int),.bool (decide ((l.length:Int)>(65536:Int))),.slice a l.length c,V0 (l.length:Int),V0 (↑(i+1):Int),.bool (decide ((i:Int)<(l.length:Int))),V0 (i:Int),.pointer (some (Xd a (i*1))),V0 (l.getD i 0),V0 (l.getD i 0),.bool false,.bool false,V0 (l.getD i 0),.bool (decide ((l.getD i 0)>(2147483647:Int))),.bool (decide ((l.getD i 0)>(2147483647:Int))),.slice ps i cs,V0 (l.getD i 0),V0 (if(3:Int)<(l.getD i 0) then(3:Int) else(l.getD i 0)),.slice (S1 b6) 1 1,.slice p7 (i+1) c7,V0 (l.getD i 0),.bool (decide ((l.getD i 0)≥(3:Int))),(x2 22),(x2 23),(x2 24),(x2 25),(x2 26),(x2 27),(x2 28),V0 (↑(i+1):Int),undef,undef,undef,undef,undef,undef,undef,undef,undef,undef],[]⟩ (by kernel_rfl) ?_
     refine g_nfr ⟨#[.slice a l.length c,undef,(x2 0),(x2 1),(x2 2),.slice p7 (i+1) c7,.slice po ((Zu l (i+1)).length) co,V0 (i:Int),V0 (l.getD i 0),undef,undef,.slice a l.length c,V0 (l.length:Int),.bool (decide ((l.length:Int)>(65536:Int))),.slice a l.length c,V0 (l.length:Int),V0 (↑(i+1):Int),.bool (decide ((i:Int)<(l.length:Int))),V0 (i:Int),.pointer (some (Xd a (i*1))),V0 (l.getD i 0),V0 (l.getD i 0),.bool false,.bool false,V0 (l.getD i 0),.bool (decide ((l.getD i 0)>(2147483647:Int))),.bool (decide ((l.getD i 0)>(2147483647:Int))),.slice ps i cs,V0 (l.getD i 0),V0 (if(3:Int)<(l.getD i 0) then(3:Int) else(l.getD i 0)),.slice (S1 b6) 1 1,.slice p7 (i+1) c7,V0 (l.getD i 0),.bool (decide ((l.getD i 0)≥(3:Int))),(x2 22),(x2 23),(x2 24),(x2 25),(x2 26),(x2 27),(x2 28),V0 (↑(i+1):Int),undef,undef,undef,undef,undef,undef,undef,undef,undef,undef],[]⟩ (by rw[Pr (by omega)]) ?_
     refine⟨⟨i+1,_,_,_,_,(pk [(x2 0),(x2 1),(x2 2),V0 (i:Int),V0 (l.getD i 0),.bool (decide ((i:Int)<(l.length:Int))),V0 (i:Int),.pointer (some (Xd a (i*1))),V0 (l.getD i 0),V0 (l.getD i 0),.bool false,.bool false,V0 (l.getD i 0),.bool (decide ((l.getD i 0)>(2147483647:Int))),.bool (decide ((l.getD i 0)>(2147483647:Int))),.slice ps i cs,V0 (l.getD i 0),V0 (if(3:Int)<(l.getD i 0) then(3:Int) else(l.getD i 0)),.slice (S1 b6) 1 1,.slice p7 (i+1) c7,V0 (l.getD i 0),.bool (decide ((l.getD i 0)≥(3:Int))),(x2 22),(x2 23),(x2 24),(x2 25),(x2 26),(x2 27),(x2 28),V0 (↑(i+1):Int)]),rfl,hB,o7,(by rw[Pr (by omega)];exact ho),by omega,fun j hj=>(Nat.lt_or_ge j i).elim (hz j) (fun q=>by obtain rfl:j=i:=(by omega);exact⟨by omega,by omega⟩)⟩,?_⟩
     show l.length-((↑(i+1):Int)).toNat<l.length-((i:Int)).toNat
     omega
 ·have f5:=of_decide_eq_false f5
  refine wp_exit ?_
  refine Zbz ?_
  refine Zbz ?_
  refine Zdv ?_
  refine wp_seq ?_
  refine wp_region_lit ?_
  refine Jd (by kernel_rfl) (Pm [S0] rfl (by kernel_rfl) ?_)
  intro b8 n4 e9
  have l2:=e9.ge hB
  replace hB:=bln hB e9.below
  replace hs:=Zb hs e9.below
  replace ho:=Zb ho e9.below
  have c1:=e9.blk
  refine wpList_nil ?_
  refine wp_seq ?_
  refine wp_seq ?_
  refine wp_region_lit ?_
  refine Gk 1 [(42,.slice ps i cs)] (by kernel_rfl) ?_
  refine Jd (by kernel_rfl) (Qw (lb:=#[]) 183 #[.slice ps i cs,V0 960] rfl (by kernel_rfl) (fun _ _=>by kernel_rfl) (by kernel_rfl) ((Zbc ps i cs _).mono ?_))
  rintro e c9 ⟨b1,b2,rfl,c6,n7,o3,m3,d6,e2⟩
  refine⟨_,rfl,?_⟩
  replace hB:=bln hB c6
  replace c1:=c1.below c6
  replace hs:=Zb hs c6
  replace ho:=Zb ho c6
  refine wpList_nil ?_
  refine wp_block ?_
  have k1:i=l.length:=by omega
  obtain⟨g,hv⟩:=row_or hs
  have n2:=Zd3 b1 b2 (fun b=>b<c9.heap.size∧b≠b8) g 0 i cs (.slice ps i cs) c9 (fun b h=>h.1) ⟨d6.lt,(by rintro rfl;exact absurd (d6.ty c1) (by decide))⟩ ⟨e2.lt,(by rintro rfl;exact absurd (e2.ty c1) (by decide))⟩ (by omega) hv (d6.cell (i:=0) rfl) (e2.cell (i:=0) rfl)
  refine g_fr ⟨#[.slice a l.length c,undef,(x2 0),(x2 1),(x2 2),.slice ps i cs,.slice po ((Zu l i).length) co,(x2 3),(x2 4),P0 b8,undef,.slice a l.length c,V0 (l.length:Int),.bool (decide ((l.length:Int)>(65536:Int))),.slice a l.length c,V0 (l.length:Int),V0 (i:Int),.bool (decide ((i:Int)<(l.length:Int))),(x2 6),(x2 7),(x2 8),(x2 9),(x2 10),(x2 11),(x2 12),(x2 13),(x2 14),(x2 15),(x2 16),(x2 17),(x2 18),(x2 19),(x2 20),(x2 21),(x2 22),(x2 23),(x2 24),(x2 25),(x2 26),(x2 27),(x2 28),(x2 29),.slice ps i cs,.func (.func 227) #[] #[P0 b1,P0 b2],undef,undef,undef,undef,undef,undef,undef,undef],[]⟩ (by kernel_rfl) ?_
  refine wp_range (g:=.tmp 43) (gf:=227) (lb:=#[P0 b1,P0 b2]) rfl (enters_of Tryz.func227 (by kernel_rfl) rfl) _ (fun b h=>h.1) n2 (fun _=>rfl)
   (fun a0 W=>(∃ pb cb gs,gs.length=a0.length∧Blk W b8 [.slice pb (Hz (Zo (l.take i)) a0).length cb] 211∧Lists W c9.heap.size (.slice pb (Hz (Zo (l.take i)) a0).length cb) gs (Hz (Zo (l.take i)) a0))∧BelowBut c9 b8 W)
   (fun _ _ _=>False) ?own (fun _ _ _ _ _ h _ _=>h) ⟨⟨none,0,[],rfl,c1,⟨World.ownsRow_nil _ _ _ _,fun i hi=>absurd hi (Nat.not_lt_zero _)⟩⟩,(Below.refl _ _).but _⟩
   (fun x a' _=>a'={ tmps:=#[.slice a l.length c,undef,(x2 0),(x2 1),(x2 2),.slice ps i cs,.slice po ((Zu l i).length) co,(x2 3),(x2 4),P0 b8,.slice (some ⟨g,0+x.val*960,none⟩) (min 960 (i-x.val*960)) (min 960 (i-x.val*960)),.slice a l.length c,V0 (l.length:Int),.bool (decide ((l.length:Int)>(65536:Int))),.slice a l.length c,V0 (l.length:Int),V0 (i:Int),.bool (decide ((i:Int)<(l.length:Int))),(x2 6),(x2 7),(x2 8),(x2 9),(x2 10),(x2 11),(x2 12),(x2 13),(x2 14),(x2 15),(x2 16),(x2 17),(x2 18),(x2 19),(x2 20),(x2 21),(x2 22),(x2 23),(x2 24),(x2 25),(x2 26),(x2 27),(x2 28),(x2 29),.slice ps i cs,.func (.func 227) #[] #[P0 b1,P0 b2],.slice (some ⟨g,0+x.val*960,none⟩) (min 960 (i-x.val*960)) (min 960 (i-x.val*960)),undef,undef,undef,undef,undef,undef,undef],defers:=[] }) (fun _ _ _ _ _ _ h _ _=>h) ?assign ?body ?done (fun _ _ _ _ _ _ h _=>h.elim)
  case own=>exact OwnFrom.and (Own.from (fun s A B o5 hs hg hr=>by obtain⟨pb,cb,gs,h0,h1,h2⟩:=hs;exact⟨pb,cb,gs,h0,h1.turn hg hr,h2.turn hg hr⟩) _) (Zc4 (Nat.le_refl _))
  case assign =>
   rintro lr a0 x W K hI hK
   unfold encK
   gi_wp2
   refine hK _ _ (KeepsFrom.refl _ _) (Keeps.refl _ _) hI ?_
   simp only[k1,Nat.zero_add,decide_eq_false (show ¬ ((l.length:Int)>65536) by omega),Int.lt_irrefl,decide_false]
  case body =>
   rintro lr a0 x a' W o0 ⟨⟨pb,cb,gs,d8,m9,hL⟩,e4⟩ rfl n9
   have hx:=bmN_lt x.isLt
   have m5:=hv.resolve_left (fun q=>by omega)
   have a2:=e4.own2 hs c1 (by decide)
   rw[m5.1] at a2
   obtain⟨m,hm⟩:∃ m,min 960 (i-x.val*960)=m:=⟨_,rfl⟩
   rw[hm]
   have e6:0<m:=by omega
   have j8:x.val*960+m≤i:=by omega
   have g1:(Zo (l.take i)).length=i:=by simp[Zo];omega
   have d1:(Ul (Zo (l.take i)) x.val).length=m:=by rw[Si,g1];exact hm
   have j4:(((Zo (l.take i)).map V0).drop (x.val*960)).take m=(Ul (Zo (l.take i)) x.val).map V0:=by rw[←List.map_drop,←List.map_take];unfold Ul;rw[show((Zo (l.take i)).drop (x.val*960)).take m=((Zo (l.take i)).drop (x.val*960)).take 960 from by rw[List.take_eq_take_iff,List.length_drop,g1];omega]
   have i1:(Hz (Zo (l.take i)) a0).length=a0.length:=by simp[Hz]
   have n8:a0.length≤69:=by have:bmN i≤69:=(by unfold bmN;omega);omega
   have a1:=hL.row
   have hE:Each W c9.heap.size gs (Hz (Zo (l.take i)) a0):=hL.each
   have hZ:RdZ c9 b8 W W:=RdZ.refl e4
   have a5:c9.heap.size≤W.heap.size:=e4.size
   have a3:w.heap.size≤c9.heap.size:=hB.size
   have c0:=l2
   refine wpIn_block ?_
   have hB:=blB (Below.refl w.heap.size W) (Nat.le_trans a3 a5) (Za W)
   replace m9:=m9.below (Za W)
   replace a2:=Zb a2 (Za W)
   replace a1:=Zb a1 (Za W)
   replace hE:=hE.below (Za W)
   replace hZ:=hZ.below (Za W)
   refine h_regIn (fun V=>Below w.heap.size (W.drew) V∧Zd [211,35] (W.drew) V) 6 rfl #[false,false,false,false,false,false] rfl (by kernel_rfl) (fun⟨_,_,q⟩=>q) (by simp) ⟨Below.refl _ _,Zd.refl _ _⟩ ?_
   intro c4
   have a8:=hB
   have f4:=m9
   have i0:=a1
   refine h_pv [1] 5 rfl #[false,true,false,false,false,false] [(46,.slice (some ⟨g,0+x.val*960,none⟩) m m)] (by kernel_rfl) (fun _ _ _ _ _ h=>h) (by kernel_rfl) c4 ?_
   refine h_two 0 2 4 rfl (by kernel_rfl) rfl rfl (by kernel_rfl) (by kernel_rfl) ?_ ?_
   ·refine Kw ⟨b8,0,none⟩ (.slice pb ((Hz (Zo (l.take i)) a0).length) cb) rfl (by kernel_rfl) (by kernel_rfl) (m9.cell (i:=0) rfl) ?_
    have d4:Below w.heap.size (W.drew) (W.drew)∧Zd [211,35] (W.drew) (W.drew):=c4
    refine⟨d4,?_⟩
    have i3:W.heap.size≤(W.drew).heap.size:=hB.size
    refine Sc 2 3 rfl (by kernel_rfl) rfl (by kernel_rfl) (Qw (lb:=#[]) 124 #[.slice (some ⟨g,0+x.val*960,none⟩) m m] rfl (by kernel_rfl) (fun _ _=>by kernel_rfl) (by kernel_rfl) ((Mu ⟨g,0+x.val*960,none⟩ m m ((Ul (Zo (l.take i)) x.val).map V0) _ (j4▸Sl.midI (Ze a2) (by rw[List.length_map];exact g1) (x.val*960) m e6 j8) (by rw[List.length_map];exact d1) (fun u hu=>by obtain⟨y,_,rfl⟩:=List.mem_map.1 hu;rfl) (by omega)).mono ?_))
    rintro e l0 ⟨_,rfl,a7,q,c2,rfl,hq⟩
    refine⟨_,rfl,?_⟩
    replace hB:=blB hB (Nat.le_trans a3 a5) a7
    replace m9:=m9.below a7
    replace a2:=Zb a2 a7
    replace a1:=Zb a1 a7
    replace hE:=hE.below a7
    replace hZ:=hZ.below a7
    replace hq:=Zf hq i3
    have c5:Below w.heap.size (W.drew) (l0)∧Zd [211,35] (W.drew) (l0):=⟨blB d4.1 (Nat.le_trans (Nat.le_trans a3 a5) a8.size) a7,d4.2.trans (Zd.of_below a7)⟩
    refine⟨c5,?_⟩
    refine Sc 3 2 rfl (by kernel_rfl) rfl (by kernel_rfl) (Qn 35 [.slice q m c2] rfl (by kernel_rfl) ?_)
    intro l8 k8 b0
    have f7:=b0.ne m9
    have o6:=b0.ge0 hB
    have f6:=Zr a1 b0
    have h6:(W.drew).heap.size≤l8:=by have:=c5.1.size;have:=b0.at_;omega
    replace hB:=blB hB (Nat.le_trans a3 a5) b0.below
    replace m9:=m9.below b0.below
    replace a2:=Zb a2 b0.below
    replace a1:=Zb a1 b0.below
    replace hE:=hE.below b0.below
    replace hZ:=hZ.below b0.below
    replace hq:=Zb hq b0.below
    have m8:=b0.blk
    have e3:Below w.heap.size (W.drew) (k8)∧Zd [211,35] (W.drew) (k8):=⟨blB c5.1 (Nat.le_trans (Nat.le_trans a3 a5) a8.size) b0.below,c5.2.trans (Zd.of_below b0.below)⟩
    refine⟨e3,?_⟩
    refine Sc 4 1 rfl (by kernel_rfl) rfl (by kernel_rfl) (Zy (e:=35) (n:=(Hz (Zo (l.take i)) a0).length) (xs:=(List.range (Hz (Zo (l.take i)) a0).length).map (Ol gs (Hz (Zo (l.take i)) a0))) (m:=1) (news:=[.slice q m c2]) (S0) 1 24 ((Hz (Zo (l.take i)) a0).length+1) ((List.range (Hz (Zo (l.take i)) a0).length).map (Ol gs (Hz (Zo (l.take i)) a0))++[.slice q m c2]) rfl Tryz.underlying211 (by kernel_rfl) rfl (by decide) (by kernel_rfl) a1 (by kernel_rfl) (m8.sl 1 1 (by decide) (by decide)) rfl (by simp[Value.oneCell']) (by unfold maxLen;omega) (by omega) (Nat.le_trans a5 hZ.le) (by simp) (by simp) ?_)
    intro k5 l4 k9 i5 b7 f1
    replace m9:=m9.grown b7 a1 (by decide)
    replace a2:=Yb a2 b7 a1 (by decide)
    replace hE:=hE.only (Zd.of_grown (T:=[35]) b7 a1 (by decide)) (by decide)
    replace hZ:=hZ.grown b7 a1
    replace hq:=Yb hq b7 a1 (by decide)
    replace hB:=hB.trans (f1.mono a3)
    have e1:Below w.heap.size (W.drew) (k9)∧Zd [211,35] (W.drew) (k9):=⟨e3.1.trans (f1.mono a3),e3.2.trans (Zd.of_grown b7 a1 (by decide))⟩
    refine⟨e1,?_⟩
    refine Sc 5 0 rfl (by kernel_rfl) rfl (by kernel_rfl) (Kf (v:=.slice k5 ((Hz (Zo (l.take i)) a0).length+1) l4) (b:=b8) (off:=0) rfl (by kernel_rfl) (by kernel_rfl) (by kernel_rfl) rfl m9 (by first|decide|simp) ?_)
    intro l5 c8 j3
    change Blk _ _ [.slice k5 ((Hz (Zo (l.take i)) a0).length+1) l4] _ at j3
    replace hB:=c8.below hB c0
    replace a2:=c8.own2 a2 m9 (by decide)
    replace hE:=hE.only (Zd.of_upd (T:=[211]) c8 m9 (by decide)) (by decide)
    replace hZ:=hZ.upd c8 m9
    replace hq:=c8.own2 hq m9 (by decide)
    replace i5:=c8.own2 i5 m9 (by decide)
    have h8:Below w.heap.size (W.drew) (l5)∧Zd [211,35] (W.drew) (l5):=⟨c8.below e1.1 c0,e1.2.trans (Zd.of_upd c8 m9 (by decide))⟩
    refine⟨h8,?_⟩
    refine h_done _ (by kernel_rfl) ?_
    obtain⟨g2,rfl,k3⟩:=Mq hq e6
    rw[←d1] at hq
    have a6:=i5
    rw[←d1] at a6
    have hS:=Lists.snoc (n:=(Hz (Zo (l.take i)) a0).length+1) rfl a6 hE (Zf hq a5) (by rw[d8,i1])
    exact⟨hZ.ko.from _,⟨hZ.le,fun b hb=>hZ.fr b hb.1 hb.2⟩,⟨_,_,gs++[(g2,_)],by simp[d8],by rw[Gg,List.length_append];exact j3,by rw[Gg,List.length_append];exact hS⟩,hZ.bb⟩
   ·have i6:W.heap.size≤(W.drew).heap.size:=hB.size
    refine Qw (lb:=#[]) 124 #[.slice (some ⟨g,0+x.val*960,none⟩) m m] rfl (by kernel_rfl) (fun _ _=>by kernel_rfl) (by kernel_rfl) ((Mu ⟨g,0+x.val*960,none⟩ m m ((Ul (Zo (l.take i)) x.val).map V0) _ (j4▸Sl.midI (Ze a2) (by rw[List.length_map];exact g1) (x.val*960) m e6 j8) (by rw[List.length_map];exact d1) (fun u hu=>by obtain⟨y,_,rfl⟩:=List.mem_map.1 hu;rfl) (by omega)).mono ?_)
    rintro e f8 ⟨_,rfl,a4,q,c2,rfl,hq⟩
    refine⟨_,rfl,?_⟩
    replace hB:=blB hB (Nat.le_trans a3 a5) a4
    replace m9:=m9.below a4
    replace a2:=Zb a2 a4
    replace a1:=Zb a1 a4
    replace hE:=hE.below a4
    replace hZ:=hZ.below a4
    replace hq:=Zf hq i6
    have b9:Below w.heap.size (W.drew) (f8)∧Zd [211,35] (W.drew) (f8):=⟨blB c4.1 (Nat.le_trans (Nat.le_trans a3 a5) a8.size) a4,c4.2.trans (Zd.of_below a4)⟩
    refine⟨b9,?_⟩
    refine h_two 0 3 3 rfl (by kernel_rfl) rfl rfl (by kernel_rfl) (by kernel_rfl) ?_ ?_
    ·refine Kw ⟨b8,0,none⟩ (.slice pb ((Hz (Zo (l.take i)) a0).length) cb) rfl (by kernel_rfl) (by kernel_rfl) (m9.cell (i:=0) rfl) ?_
     have c3:Below w.heap.size (W.drew) (f8)∧Zd [211,35] (W.drew) (f8):=b9
     refine⟨c3,?_⟩
     refine Sc 3 2 rfl (by kernel_rfl) rfl (by kernel_rfl) (Qn 35 [.slice q m c2] rfl (by kernel_rfl) ?_)
     intro l9 l1 b3
     have g9:=b3.ne m9
     have o1:=b3.ge0 hB
     have g0:=Zr a1 b3
     have h9:(W.drew).heap.size≤l9:=by have:=c3.1.size;have:=b3.at_;omega
     replace hB:=blB hB (Nat.le_trans a3 a5) b3.below
     replace m9:=m9.below b3.below
     replace a2:=Zb a2 b3.below
     replace a1:=Zb a1 b3.below
     replace hE:=hE.below b3.below
     replace hZ:=hZ.below b3.below
     replace hq:=Zb hq b3.below
     have m0:=b3.blk
     have d5:Below w.heap.size (W.drew) (l1)∧Zd [211,35] (W.drew) (l1):=⟨blB c3.1 (Nat.le_trans (Nat.le_trans a3 a5) a8.size) b3.below,c3.2.trans (Zd.of_below b3.below)⟩
     refine⟨d5,?_⟩
     refine Sc 4 1 rfl (by kernel_rfl) rfl (by kernel_rfl) (Zy (e:=35) (n:=(Hz (Zo (l.take i)) a0).length) (xs:=(List.range (Hz (Zo (l.take i)) a0).length).map (Ol gs (Hz (Zo (l.take i)) a0))) (m:=1) (news:=[.slice q m c2]) (S0) 1 24 ((Hz (Zo (l.take i)) a0).length+1) ((List.range (Hz (Zo (l.take i)) a0).length).map (Ol gs (Hz (Zo (l.take i)) a0))++[.slice q m c2]) rfl Tryz.underlying211 (by kernel_rfl) rfl (by decide) (by kernel_rfl) a1 (by kernel_rfl) (m0.sl 1 1 (by decide) (by decide)) rfl (by simp[Value.oneCell']) (by unfold maxLen;omega) (by omega) (Nat.le_trans a5 hZ.le) (by simp) (by simp) ?_)
     intro j7 l6 l7 h4 b5 f3
     replace m9:=m9.grown b5 a1 (by decide)
     replace a2:=Yb a2 b5 a1 (by decide)
     replace hE:=hE.only (Zd.of_grown (T:=[35]) b5 a1 (by decide)) (by decide)
     replace hZ:=hZ.grown b5 a1
     replace hq:=Yb hq b5 a1 (by decide)
     replace hB:=hB.trans (f3.mono a3)
     have d3:Below w.heap.size (W.drew) (l7)∧Zd [211,35] (W.drew) (l7):=⟨d5.1.trans (f3.mono a3),d5.2.trans (Zd.of_grown b5 a1 (by decide))⟩
     refine⟨d3,?_⟩
     refine Sc 5 0 rfl (by kernel_rfl) rfl (by kernel_rfl) (Kf (v:=.slice j7 ((Hz (Zo (l.take i)) a0).length+1) l6) (b:=b8) (off:=0) rfl (by kernel_rfl) (by kernel_rfl) (by kernel_rfl) rfl m9 (by first|decide|simp) ?_)
     intro j9 d2 k7
     change Blk _ _ [.slice j7 ((Hz (Zo (l.take i)) a0).length+1) l6] _ at k7
     replace hB:=d2.below hB c0
     replace a2:=d2.own2 a2 m9 (by decide)
     replace hE:=hE.only (Zd.of_upd (T:=[211]) d2 m9 (by decide)) (by decide)
     replace hZ:=hZ.upd d2 m9
     replace hq:=d2.own2 hq m9 (by decide)
     replace h4:=d2.own2 h4 m9 (by decide)
     have h3:Below w.heap.size (W.drew) (j9)∧Zd [211,35] (W.drew) (j9):=⟨d2.below d3.1 c0,d3.2.trans (Zd.of_upd d2 m9 (by decide))⟩
     refine⟨h3,?_⟩
     refine h_done _ (by kernel_rfl) ?_
     obtain⟨g2,rfl,k3⟩:=Mq hq e6
     rw[←d1] at hq
     have a6:=h4
     rw[←d1] at a6
     have hS:=Lists.snoc (n:=(Hz (Zo (l.take i)) a0).length+1) rfl a6 hE (Zf hq a5) (by rw[d8,i1])
     exact⟨hZ.ko.from _,⟨hZ.le,fun b hb=>hZ.fr b hb.1 hb.2⟩,⟨_,_,gs++[(g2,_)],by simp[d8],by rw[Gg,List.length_append];exact k7,by rw[Gg,List.length_append];exact hS⟩,hZ.bb⟩
    ·refine Qn 35 [.slice q m c2] rfl (by kernel_rfl) ?_
     intro n1 g3 a9
     have g7:=a9.ne m9
     have o4:=a9.ge0 hB
     have g8:=Zr a1 a9
     have i8:(W.drew).heap.size≤n1:=by have:=b9.1.size;have:=a9.at_;omega
     replace hB:=blB hB (Nat.le_trans a3 a5) a9.below
     replace m9:=m9.below a9.below
     replace a2:=Zb a2 a9.below
     replace a1:=Zb a1 a9.below
     replace hE:=hE.below a9.below
     replace hZ:=hZ.below a9.below
     replace hq:=Zb hq a9.below
     have m1:=a9.blk
     have f2:Below w.heap.size (W.drew) (g3)∧Zd [211,35] (W.drew) (g3):=⟨blB b9.1 (Nat.le_trans (Nat.le_trans a3 a5) a8.size) a9.below,b9.2.trans (Zd.of_below a9.below)⟩
     refine⟨f2,?_⟩
     refine Sc 0 2 rfl (by kernel_rfl) rfl (by kernel_rfl) (Kw ⟨b8,0,none⟩ (.slice pb ((Hz (Zo (l.take i)) a0).length) cb) rfl (by kernel_rfl) (by kernel_rfl) (m9.cell (i:=0) rfl) ?_)
     have d7:Below w.heap.size (W.drew) (g3)∧Zd [211,35] (W.drew) (g3):=f2
     refine⟨d7,?_⟩
     refine Sc 4 1 rfl (by kernel_rfl) rfl (by kernel_rfl) (Zy (e:=35) (n:=(Hz (Zo (l.take i)) a0).length) (xs:=(List.range (Hz (Zo (l.take i)) a0).length).map (Ol gs (Hz (Zo (l.take i)) a0))) (m:=1) (news:=[.slice q m c2]) (S0) 1 24 ((Hz (Zo (l.take i)) a0).length+1) ((List.range (Hz (Zo (l.take i)) a0).length).map (Ol gs (Hz (Zo (l.take i)) a0))++[.slice q m c2]) rfl Tryz.underlying211 (by kernel_rfl) rfl (by decide) (by kernel_rfl) a1 (by kernel_rfl) (m1.sl 1 1 (by decide) (by decide)) rfl (by simp[Value.oneCell']) (by unfold maxLen;omega) (by omega) (Nat.le_trans a5 hZ.le) (by simp) (by simp) ?_)
     intro j0 k4 j1 i4 b4 e8
     replace m9:=m9.grown b4 a1 (by decide)
     replace a2:=Yb a2 b4 a1 (by decide)
     replace hE:=hE.only (Zd.of_grown (T:=[35]) b4 a1 (by decide)) (by decide)
     replace hZ:=hZ.grown b4 a1
     replace hq:=Yb hq b4 a1 (by decide)
     replace hB:=hB.trans (e8.mono a3)
     have e0:Below w.heap.size (W.drew) (j1)∧Zd [211,35] (W.drew) (j1):=⟨d7.1.trans (e8.mono a3),d7.2.trans (Zd.of_grown b4 a1 (by decide))⟩
     refine⟨e0,?_⟩
     refine Sc 5 0 rfl (by kernel_rfl) rfl (by kernel_rfl) (Kf (v:=.slice j0 ((Hz (Zo (l.take i)) a0).length+1) k4) (b:=b8) (off:=0) rfl (by kernel_rfl) (by kernel_rfl) (by kernel_rfl) rfl m9 (by first|decide|simp) ?_)
     intro j5 d0 k2
     change Blk _ _ [.slice j0 ((Hz (Zo (l.take i)) a0).length+1) k4] _ at k2
     replace hB:=d0.below hB c0
     replace a2:=d0.own2 a2 m9 (by decide)
     replace hE:=hE.only (Zd.of_upd (T:=[211]) d0 m9 (by decide)) (by decide)
     replace hZ:=hZ.upd d0 m9
     replace hq:=d0.own2 hq m9 (by decide)
     replace i4:=d0.own2 i4 m9 (by decide)
     have h5:Below w.heap.size (W.drew) (j5)∧Zd [211,35] (W.drew) (j5):=⟨d0.below e0.1 c0,e0.2.trans (Zd.of_upd d0 m9 (by decide))⟩
     refine⟨h5,?_⟩
     refine h_done _ (by kernel_rfl) ?_
     obtain⟨g2,rfl,k3⟩:=Mq hq e6
     rw[←d1] at hq
     have a6:=i4
     rw[←d1] at a6
     have hS:=Lists.snoc (n:=(Hz (Zo (l.take i)) a0).length+1) rfl a6 hE (Zf hq a5) (by rw[d8,i1])
     exact⟨hZ.ko.from _,⟨hZ.le,fun b hb=>hZ.fr b hb.1 hb.2⟩,⟨_,_,gs++[(g2,_)],by simp[d8],by rw[Gg,List.length_append];exact k2,by rw[Gg,List.length_append];exact hS⟩,hZ.bb⟩
  case done =>
   rintro D xs W hD rfl ⟨⟨pb,cb,gs,d8,m9,hL⟩,e4⟩ l3
   rw[preC_all] at m9 hL
   have hK:Dfr D W:=l3;clear l3
   subst k1
   rw[List.take_length] at m9 hL
   rw[Jn] at m9 hL
   refine g_nopan ?_
   have m7:=hB
   replace hB:=e4.below hB l2 hB.size
   have k0:=e4.own2 ho c1 (by decide)
   have a3:=m7.size
   replace c1:=m9
   refine wp_seq ?_
   refine wp_region_lit ?_
   refine Jd (by kernel_rfl) (Kw ⟨b8,0,none⟩ (.slice pb (bmN l.length) cb) rfl (by kernel_rfl) (by kernel_rfl) (c1.cell (i:=0) rfl) ?_)
   refine Gk 4 [(51,.slice po ((Zu l l.length).length) co),(2,.slice pb (bmN l.length) cb),(3,.slice po ((Zu l l.length).length) co),(4,V0 0)] (by kernel_rfl) ?_
   refine wpList_nil ?_
   refine wp_ret ?_
   exact g_endM hK (.tuple #[.slice pb (bmN l.length) cb,.slice po ((Zu l l.length).length) co,V0 0]) (by kernel_rfl) (by kernel_rfl) (.inr ⟨Zdu hl (fun k hk=>hz k (by omega)),_,_,gs,_,_,rfl,(Upd.of_put _ _ _).below hB (Nat.le_trans a3 hD),(hL.mono a3).put (Upd.of_put _ _ _) hK,(Upd.of_put _ _ _).own3 k0 (hK.row k0)⟩)
end Go.Proofs.YtceeiinepijokaaGreat
namespace Go.Proofs.YtceeiinepijokaaGreat
set_option maxHeartbeats 8000000
set_option maxRecDepth 100000
open Go.RowKit Go.Extern.Stop Go.Stop Go.Extern
set_option linter.unusedVariables false
attribute [local irreducible] wpList wpAnyH Code.wp Oper.wp Go
theorem Zb1(B b:Nat)(p:O0)(n c:Nat)(l:Bl)(no:Int)(w:World)(hI:ImgR B b p n c l w) :
 C0 164 #[P0 b,V0 no] w (fun e w' =>
 (Qv l no≠0∧∃ ty x,e=.returned (.tuple #[S0,.iface ty x])∧B3 w w'∧Hw w' (([no]:List Int).map some) (some (Qv l no)) (.iface ty x)) ∨
 (Qv l no=0∧∃ p c,e=.returned (.tuple #[.slice p (Un l no).length c,.nilIface])∧B3 w w'∧w'.ownsRow w.heap.size 217 3 (.slice p (Un l no).length c) (Un l no).length ((Un l no).flatMap sltC))):=by
 refine(Zdd B b p n c l no w hI).mono ?_
 rintro e W q
 rcases q with ⟨h,b,rfl,hb,hv⟩|⟨h,p,c,rfl,hb,ho⟩
 ·exact .inl ⟨h,_,_,rfl,hb,hv⟩
 ·refine .inr ⟨h,p,c,by rw[(Fy h).2],hb,?_⟩
  rw[(Fy h).2,(Fy h).1];exact ho
def ljC (x:Int×Int×Int):List Value:=[V0 x.1,V0 x.2.1,V0 x.2.2]
def ljE:Int×Int×Int:=(0,0,0)
theorem Xw(x:Int×Int×Int):(ljC x).length=3:=rfl
theorem lj_take{L:List (Int×Int×Int)}{i:Nat}(hi:i<L.length):(L.take (i+1)).flatMap ljC=(L.take i).flatMap ljC++[V0 (L.getD i ljE).1,V0 (L.getD i ljE).2.1,V0 (L.getD i ljE).2.2]:=by
 rw[List.take_succ_eq_append_getElem hi,List.flatMap_append,show L.getD i ljE=L[i] from by simp[List.getD,hi]];simp[ljC]
theorem Zbp(pl:O0)(cl:Nat)(L:List (Int×Int×Int))(w:World)(hL:Sts ljC w (.slice pl L.length cl) L)(hl:L.length≤100000000) :
 C0 14 #[.slice pl L.length cl] w (Yy (fun w' r=>∃ p c,r=.slice p L.length c∧w'.ownsRow w.heap.size 83 3 (.slice p L.length c) L.length (L.flatMap ljC)) w):=by
 refine zin 19 Tryz.func14 ?_
 have hB:=Below.refl w.heap.size w
 refine zl 17 19 (fun zm a7 V=>∃ (i:Nat) (p:O0) (c:Nat),a7=[(0,.slice pl L.length cl),(2,S0),(3,.slice p i c),(4,V0 (i:Int))]∧zm=L.length-((i:Int)).toNat∧B3 w V∧V.ownsRow w.heap.size 83 3 (.slice p i c) i ((L.take i).flatMap ljC)∧i≤L.length) ⟨0,none,0,rfl,rfl,hB,World.ownsRow_nil _ _ _ _,Nat.zero_le _⟩ ?_
 rintro _ _ W1 ⟨i,p,c,rfl,rfl,a0,ho,hi⟩ J1 a5 r1
 refine xid 9 ((i:Int)<(L.length:Int)) (fun a6=>?_) (fun a6=>?_)
 ·refine xx 8 _ L.length i 3 (Sts.cell (f:=ljC) hL Xw ljE (k:=i) (i:=0) (by omega) rfl).1 ?_
  refine xlv 0 (Sts.rp (k:=i) (hL.below a0) Xw ljE (by omega) (by decide)) ?_
  refine xbs 0 1 [V0 ((L.getD i ljE).1),V0 ((L.getD i ljE).2.1),V0 ((L.getD i ljE).2.2)] 83 fun b3 W3 n3=>?_
  have g3:=n3.ge a0
  have a4:=Zr ho n3
  have a3:=Zb ho n3.below
  have a1:=bln a0 n3.below
  refine xbi 0 fun _ _ _ _ zJ zQ zo zx zy zK=>Zy (m:=1) (news:=[V0 ((L.getD i ljE).1),V0 ((L.getD i ljE).2.1),V0 ((L.getD i ljE).2.2)]) (.agg #[V0 0,V0 0,V0 0]) 3 24 (i+1) (((L.take (i+1)).flatMap ljC)) zo Tryz.underlying52 (by kernel_rfl) rfl (by decide) zx a3 zy (n3.blk.sl 1 1 (by decide) (by decide)) rfl (by simp[Value.oneCell']) (by unfold maxLen;omega) (by omega) a1.size (rfl) (by rw[lj_take (by omega)]) fun b1 a9 W4 o4 b0 a8=>?_
  refine zK _ _ ?_
  refine xwm 6 ((i:Int)+1) (↑(i+1):Int) ?_
  have a2:=a1.trans a8
  exact ze 2 (a5 _ _ _ ⟨i+1,_,_,rfl,rfl,a2,o4,by omega⟩ (by omega))
 refine xe 12 (.slice p i c) ?_
 obtain rfl:i=L.length:=by omega
 rw[List.take_length] at ho
 exact⟨_,rfl,a0,_,_,rfl,ho⟩
end Go.Proofs.YtceeiinepijokaaGreat
namespace Go.Proofs.YtceeiinepijokaaGreat
set_option maxHeartbeats 8000000
set_option maxRecDepth 100000
open Go.RowKit Go.Extern.Stop Go.Stop Go.Extern
open Go.ChangeMaps (setBlock heap_setBlock_same heap_setBlock_other)
set_option linter.unusedVariables false
attribute [local irreducible] wpList wpAnyH Code.wp Oper.wp Go
structure KeyK{α:Type}[DecidableEq α](P:Program)(kt:TypeId)(mk:α→Value)(un:Value→α):Prop where
 inv:∀ a,un (mk a)=a
 d:∃ D,P.underlying kt=some D∧∀ a b,Instr.sameNow D (mk a) (mk b)=some (decide (a=b))
 ok:∀ (b:Bool) (a:α) (w:World),(Instr.checkKey b 10000 kt (mk a)).run P w=.ok () w
def unI:Value→Int
 | .int _ a=>a
 | _=>0
theorem keyI{P:Program}{kt:TypeId}(hk:P.underlying kt=some (.int .i64)):KeyK P kt V0 unI where
 inv:=fun _=>rfl
 d:=⟨_,hk,fun a b=>by
  show(if IntKind.i64=IntKind.i64 then some (a==b) else none)=_
  rw[if_pos rfl];congr 1⟩
 ok:=fun b a w=>run_keyOk hk a b w
section
variable {α:Type} {mk:α→Value} {un:Value→α}
def Zca(mk:α→Value)(kv:List (α×Value)):List (Value×Value):=kv.map fun p=>(mk p.1,p.2)
def Gx(mk:α→Value)(W:World)(r:Nat)(kv:List (α×Value)):Prop :=
 ∃ es clock,W.heap[r]? = some (.map es clock)∧es.toList.map (fun e=>(e.key,e.val))=Zca mk kv∧(∀ x∈es.toList,x.born<clock)∧(es.toList.map (·.born)).Nodup
theorem Gx.lt{W:World}{r:Nat}{kv:List (α×Value)}(h:Gx mk W r kv):r<W.heap.size:=by
 obtain⟨es,a0,h1,_⟩:=h
 exact(Array.getElem?_eq_some_iff.1 h1).1
theorem Gx.kept{w W:World}{r:Nat}{kv:List (α×Value)}(h:Gx mk w r kv)(hb:W.heap[r]? = w.heap[r]?):Gx mk W r kv:=by
 obtain⟨es,a0,h1,h2⟩:=h
 exact⟨es,a0,hb.trans h1,h2⟩
theorem Gx.below{w W:World}{r:Nat}{kv:List (α×Value)}(h:Gx mk w r kv)(hb:B3 w W):Gx mk W r kv:=h.kept (hb.block r h.lt)
theorem Gx.ne_blk{w:World}{r b:Nat}{kv:List (α×Value)}{cs:List Value}{t:TypeId}(h:Gx mk w r kv)(k:Blk w b cs t):r≠b:=fun e=>by
 subst e
 obtain⟨es,a0,h1,_⟩:=h
 have:w.heap[r]? = some (.cells cs.toArray t (0,0)):=k
 rw[h1] at this;cases this
theorem Gx.ne_own{w:World}{r base size n:Nat}{kv:List (α×Value)}{e:TypeId}{v:Value}{xs:List Value}(h:Gx mk w r kv)(k:w.ownsRow base e size v n xs):some r≠v.ownBlock:=fun q=>by
 rcases k.2 with ⟨h2,_⟩|⟨g,a1,a2,hv,hg,hh,_⟩
 ·subst h2;simp[Value.ownBlock] at q
 ·subst hv
  simp only[Value.ownBlock,Option.some.injEq] at q
  subst q
  obtain⟨es,a0,h1,_⟩:=h
  rw[h1] at hh;cases hh
theorem Gx.grown{w W:World}{r base size n:Nat}{kv:List (α×Value)}{e:TypeId}{v:Value}{xs:List Value}(h:Gx mk w r kv)(hg:w.grownBy W v.ownBlock)(k:w.ownsRow base e size v n xs):Gx mk W r kv:=h.kept (hg.block r h.lt (h.ne_own k))
theorem Gx.updBlk{w W:World}{r b:Nat}{kv:List (α×Value)}{cs:List Value}{t:TypeId}(h:Gx mk w r kv)(u:Upd w b W)(k:Blk w b cs t):Gx mk W r kv:=h.kept (u.block r (h.ne_blk k))
theorem Gx.upd{w W:World}{r b:Nat}{kv:List (α×Value)}(h:Gx mk w r kv)(u:Upd w b W)(hn:r≠b):Gx mk W r kv:=h.kept (u.block r hn)
theorem Qe{w W:World}{r base size n:Nat}{e:TypeId}{v:Value}{xs:List Value}(k:w.ownsRow base e size v n xs)(h:∀ cs t f,w.heap[r]? ≠ some (.cells cs t f))(u:Upd w r W):W.ownsRow base e size v n xs:=u.own3 k fun j hj q=>by
 subst q
 rcases k.2 with ⟨h2,_⟩|⟨g,a0,a1,hv,hg,hh,_⟩
 ·subst h2;simp[Value.ownBlock] at hj
 ·subst hv
  simp only[Value.ownBlock,Option.some.injEq] at hj
  subst hj
  exact h _ _ _ hh
theorem Xf{w W:World}{r b:Nat}{cs:List Value}{t:TypeId}(k:Blk w b cs t)(h:∀ cs t f,w.heap[r]? ≠ some (.cells cs t f))(u:Upd w r W):Blk W b cs t:=u.blk k (fun q=>by
 subst q
 exact h cs.toArray t (0,0) k)
theorem Zl{T:List TypeId}{w W:World}{r:Nat}(h:∀ cs t f,w.heap[r]? ≠ some (.cells cs t f))(u:Upd w r W):Zd T w W:=fun i cs t fr hi _=>by
 rw[u.block i (fun q=>by
  subst q
  exact h _ _ _ hi)]
 exact hi
theorem Gx.obj{w:World}{r:Nat}{kv:List (α×Value)}(h:Gx mk w r kv):∀ cs t f,w.heap[r]? ≠ some (.cells cs t f):=fun cs t f q=>by
 obtain⟨es,a0,h1,_⟩:=h
 rw[h1] at q;cases q
structure NewMV(mk:α→Value)(w:World)(r:Nat)(W:World):Prop where
 at_:r=w.heap.size
 below:Below w.heap.size w W
 map:Gx mk W r []
theorem NewMV.ge{w W A:World}{r:Nat}(h:NewMV mk w r W)(k:Below A.heap.size A w):A.heap.size≤r:=by have:=k.size;have:=h.at_;omega
theorem NewMV.mk'(mk:α→Value)(w:World):NewMV mk w w.heap.size (w.alloc (.map #[] 0)):=⟨rfl,blx _ _,#[],0,World.alloc_heap_new w _,rfl,(fun _ h=>by cases h),List.Pairwise.nil⟩
def Ur[DecidableEq α]:List (α×Value)→α→Option Value
 | [],_=>none
 | p::r,k=>if k=p.1 then some p.2 else Ur r k
theorem Zbn[DecidableEq α]{D:TypeDesc}(hd:∀ a b:α,Instr.sameNow D (mk a) (mk b)=some (decide (a=b)))(k:α):∀ (es:List MapEntry) (kv:List (α×Value)) (i:Nat),es.map (fun e=>(e.key,e.val))=Zca mk kv→∃ j,Instr.findNow D (mk k) es i=some ((Ur kv k).map fun v=>(j,v))
 | [],kv,i,h=>by
  have:kv=[]:=by simpa [Zca] using h.symm
  subst this;exact⟨0,rfl⟩
 | e::es,[],i,h=>by simp[Zca] at h
 | e::es,p::kv,i,h=>by
  simp only[Zca,List.map_cons,List.cons.injEq,Prod.mk.injEq] at h
  obtain⟨⟨h1,h2⟩,h3⟩:=h
  by_cases q:k=p.1
  ·refine⟨i,?_⟩
   simp[Instr.findNow,h1,h2,hd,Ur,q]
  ·obtain⟨j,ih⟩:=Zbn hd k es kv (i+1) h3
   refine⟨j,?_⟩
   simp[Instr.findNow,h1,hd,Ur,q,ih]
theorem Uw[DecidableEq α]{P:Program}{kt:TypeId}(K:KeyK P kt mk un)(k:α){es:List MapEntry}{kv:List (α×Value)}(h:es.map (fun e=>(e.key,e.val))=Zca mk kv)(w:World) :
 ∃ j,(Instr.findKey kt (mk k) es).run P w=.ok ((Ur kv k).map fun v=>(j,v)) w:=by
 obtain⟨D,hD,hd⟩:=K.d
 obtain⟨j,hj⟩:=Zbn hd k es kv 0 h
 refine⟨j,?_⟩
 simp only[Instr.findKey,Sem.run_bind,run_underlying hD,Result.andThen_ok,hj]
 rfl
variable {P:Program} {w:World}
theorem run_lookS[DecidableEq α]{t kt et:TypeId}{r:Nat}{kv:List (α×Value)}(K:KeyK P kt mk un)(ht:P.underlying t=some (.map kt et))(h:Gx mk w r kv){k:α}{v:Value}(hv:Ur kv k=some v)(ok:Bool) :
 (Instr.lookup t (.map (some r)) (mk k) ok).run P w=.ok (if ok then .tuple #[v,.bool true] else v) w:=by
 obtain⟨es,a0,h1,h2,_⟩:=h
 obtain⟨j,hf⟩:=Uw K k h2 w
 rw[hv] at hf
 cases ok<;>simp[Instr.lookup,run_underlying ht,MapKept.run_getObj_map h1,K.ok,hf,Result.andThen]
theorem run_lookN[DecidableEq α]{t kt et:TypeId}{r:Nat}{kv:List (α×Value)}(K:KeyK P kt mk un)(ht:P.underlying t=some (.map kt et))(h:Gx mk w r kv){k:α}{z:Value}(hz:(zeroValue et).run P w=.ok z w)(hv:Ur kv k=none)(ok:Bool) :
 (Instr.lookup t (.map (some r)) (mk k) ok).run P w=.ok (if ok then .tuple #[z,.bool false] else z) w:=by
 obtain⟨es,a0,h1,h2,_⟩:=h
 obtain⟨j,hf⟩:=Uw K k h2 w
 rw[hv] at hf
 cases ok<;>simp[Instr.lookup,run_underlying ht,MapKept.run_getObj_map h1,K.ok,hf,hz,Result.andThen]
theorem Zct[DecidableEq α]{t kt et:TypeId}{r:Nat}{kv:List (α×Value)}(K:KeyK P kt mk un)(ht:P.underlying t=some (.map kt et))(h:Gx mk w r kv){k:α}(v:Value)(hn:Ur kv k=none) :
 ∃ W,(Instr.mapUpdate t (.map (some r)) (mk k) v).run P w=.ok () W∧Upd w r W∧Gx mk W r (kv++[(k,v)]):=by
 obtain⟨es,a0,h1,h2,h3,h4⟩:=h
 obtain⟨j,hf⟩:=Uw K k h2 w
 rw[hn] at hf
 refine⟨setBlock w r (.map (es.push ⟨mk k,v,a0⟩) (a0+1)),?_,Zby h1 _,_,_,heap_setBlock_same h1 _,?_,?_,?_⟩
 ·simp[Instr.mapUpdate,run_underlying ht,MapKept.run_getObj_map h1,K.ok,hf,MapKept.run_setObj_map _ h1,Result.andThen,setBlock]
 ·rw[Array.toList_push,List.map_append,h2];simp[Zca]
 ·intro x hx
  rw[Array.toList_push,List.mem_append] at hx
  rcases hx with hx|hx
  ·exact Nat.lt_succ_of_lt (h3 x hx)
  ·obtain rfl:=List.mem_singleton.1 hx
   exact Nat.lt_succ_self a0
 ·rw[Array.toList_push,List.map_append,List.nodup_append]
  refine⟨h4,by simp,fun a ha b hb q=>?_⟩
  obtain⟨x,hx,rfl⟩:=List.mem_map.1 ha
  simp at hb
  have:=h3 x hx
  omega
end
/-! ### in a walk -/
inductive Zmv
 | mm (t:TypeId)
 | lk (t:TypeId) (m k:Value) (ok:Bool)
 | mu (t:TypeId) (m k v:Value)
 | rg (t:TypeId) (m:Value)
 | nx (i:Value)
 | en (i:Value)
noncomputable def zmvf (n:Nat) (kv:List (Nat×Value)) (o:Oper):Option Zmv:=match o.op with
 | .makeMap t none=>some (.mm t)
 | .lookup t x y ok=>some (.lk t (zev n kv x) (zev n kv y) ok)
 | .mapUpdate t x y z=>some (.mu t (zev n kv x) (zev n kv y) (zev n kv z))
 | .range t x=>some (.rg t (zev n kv x))
 | .next x false=>some (.nx (zev n kv x))
 | .entry x=>some (.en (zev n kv x))
 | _=>none
noncomputable def zmv (s:Zs):Option Zmv:=match zop s with
 | some o=>zmvf s.n s.kv o
 | none=>none
def ZmvOk(a:Act)(o:Oper):Zmv→Prop
 | .mm t=>o.op=.makeMap t none
 | .lk t m k ok=>∃ x y,o.op=.lookup t x y ok∧a.eval x=m∧a.eval y=k
 | .mu t m k v=>∃ x y z,o.op=.mapUpdate t x y z∧a.eval x=m∧a.eval y=k∧a.eval z=v
 | .rg t m=>∃ x,o.op=.range t x∧a.eval x=m
 | .nx i=>∃ x,o.op=.next x false∧a.eval x=i
 | .en i=>∃ x,o.op=.entry x∧a.eval x=i
theorem Ia{n:Nat}{kv:List (Nat×Value)}{o:Oper}{k:Zmv}(h:zmvf n kv o=some k):ZmvOk (zact n kv) o k:=by
 unfold zmvf at h
 split at h
 ·rename_i a0;cases h;exact a0
 ·rename_i a0;cases h;exact⟨_,_,a0,by rw[Zw],by rw[Zw]⟩
 ·rename_i a0;cases h;exact⟨_,_,_,a0,by rw[Zw],by rw[Zw],by rw[Zw]⟩
 ·rename_i a0;cases h;exact⟨_,a0,by rw[Zw]⟩
 ·rename_i a0;cases h;exact⟨_,a0,by rw[Zw]⟩
 ·rename_i a0;cases h;exact⟨_,a0,by rw[Zw]⟩
 ·cases h
section
variable {P:Program} {fn:Func} {R:Ending→World→Prop} {w:World} {s:Zs} {α:Type} {mk:α→Value} {un:Value→α}
theorem xmmV(mk:α→Value)(q:Zq)(t:TypeId)(k:∀ r W,NewMV mk w r W→Go P fn R (znx (zq P q s) (.map (some r))) W)(h:zmv (zq P q s)=some (.mm t):=by kernel_rfl)(hz:Gm (zq P q s)=true:=by kernel_rfl):Go P fn R s w:=by
 obtain⟨o,ho,h⟩:=Qa h
 have a0:o.op=.makeMap t none:=Ia h
 exact Zn q s (zgo ho (Kc hz) fun K hK=>Hf (v:=.map (some w.heap.size)) (w':=w.alloc (.map #[] 0)) (by simp[execOp,a0,Instr.makeMap,newObj,Sem.run,Result.andThen]) (hK _ _ (Ka hz) (k _ _ (NewMV.mk' mk w))))
theorem xlkS[DecidableEq α](q:Zq){t kt et:TypeId}{r:Nat}{kv:List (α×Value)}(k:α)(ok:Bool){v:Value}(ht:P.underlying t=some (.map kt et))(K:KeyK P kt mk un)(hM:Gx mk w r kv)(hv:Ur kv k=some v)(g:Go P fn R (znx (zq P q s) (if ok then .tuple #[v,.bool true] else v)) w)
 (h:zmv (zq P q s)=some (.lk t (.map (some r)) (mk k) ok):=by kernel_rfl) (hz:Mt (zq P q s)=true:=by kernel_rfl):Go P fn R s w:=by
 obtain⟨o,ho,h⟩:=Qa h
 obtain⟨x,y,h1,h2,h3⟩:=Ia h
 exact Zn q s (Zb5 ho (fun V hV=>by
  have hr:=run_lookS (P:=P) K ht (hM.below (Gd hz hV)) hv ok
  simp only[execOp,h1,h2,h3,Sem.run_bind,hr,Result.andThen];rfl) g)
theorem xlkN[DecidableEq α](q:Zq){t kt et:TypeId}{r:Nat}{kv:List (α×Value)}(k:α)(ok:Bool){z:Value}(ht:P.underlying t=some (.map kt et))(K:KeyK P kt mk un)(hz0:∀ V,(zeroValue et).run P V=.ok z V)(hM:Gx mk w r kv)(hv:Ur kv k=none)(g:Go P fn R (znx (zq P q s) (if ok then .tuple #[z,.bool false] else z)) w)
 (h:zmv (zq P q s)=some (.lk t (.map (some r)) (mk k) ok):=by kernel_rfl) (hz:Mt (zq P q s)=true:=by kernel_rfl):Go P fn R s w:=by
 obtain⟨o,ho,h⟩:=Qa h
 obtain⟨x,y,h1,h2,h3⟩:=Ia h
 exact Zn q s (Zb5 ho (fun V hV=>by
  have hr:=run_lookN (P:=P) K ht (hM.below (Gd hz hV)) (hz0 V) hv ok
  simp only[execOp,h1,h2,h3,Sem.run_bind,hr,Result.andThen];rfl) g)
theorem Bk{B:Nat}{T:List TypeId}{w W:World}{r:Nat}(h:∀ cs t f,w.heap[r]? ≠ some (.cells cs t f))(u:Upd w r W)(hb:B≤r):(SF.t B T).rel w W :=
 ⟨u.below (Below.refl _ _) (Nat.le_trans (Nat.min_le_left _ _) hb),Zl h u⟩
theorem ymuV[DecidableEq α](q:Zq){t kt et:TypeId}{r:Nat}{kv:List (α×Value)}(k:α)(v:Value)(sf:SF)(ht:P.underlying t=some (.map kt et))(K:KeyK P kt mk un)(hM:Gx mk w r kv)(hn:Ur kv k=none)(g:∀ W,Upd w r W→Gx mk W r (kv++[(k,v)])→sf.rel w W∧Go P fn R (znx (zq P q s) undef) W)
 (h:zmv (zq P q s)=some (.mu t (.map (some r)) (mk k) v):=by kernel_rfl) (hz:zsf (zq P q s)=some sf:=by kernel_rfl):Go P fn R s w:=by
 obtain⟨o,ho,h⟩:=Qa h
 obtain⟨x,y,z,h1,h2,h3,h4⟩:=Ia h
 obtain⟨W,hr,hu,hm⟩:=Zct (P:=P) K ht hM v hn
 exact Zn q s (zgo ho (Eh hz) fun K hK=>op_skip (w':=W) (by simp[execOp,h1,h2,h3,h4,hr,Result.andThen]) (hK _ _ (Fh hz (g W hu hm).1) (g W hu hm).2))
end
end Go.Proofs.YtceeiinepijokaaGreat
namespace Go.Proofs.YtceeiinepijokaaGreat
set_option maxHeartbeats 8000000
set_option maxRecDepth 100000
open Go.Shelf
set_option linter.unusedVariables false
def Rp:Go.Shelf.Ren:=⟨fun|189=>57|125=>103|257=>102|128=>176|129=>177|294=>168|295=>169|296=>170|297=>171|298=>172|299=>173|216=>154|300=>174|301=>175|328=>221|329=>222|330=>223|331=>224|332=>225|215=>215|343=>242|n=>n,fun|28=>35|3=>3|46=>192|0=>0|51=>288|53=>248|4=>4|183=>282|182=>281|131=>186|5=>5|9=>9|218=>329|222=>168|228=>359|229=>154|n=>n,fun|n=>n⟩
theorem Sw:Go.Proofs.Lays.n189 Tryz.prog Rp:={
 mixed:=by kernel_rfl
 f125:=Tryz.func103.trans (congrArg some (by kernel_rfl))
 f128:=Tryz.func176.trans (congrArg some (by kernel_rfl))
 f129:=Tryz.func177.trans (congrArg some (by kernel_rfl))
 f189:=Tryz.func57.trans (congrArg some (by kernel_rfl))
 f215:=Tryz.func215.trans (congrArg some (by kernel_rfl))
 f216:=Tryz.func154.trans (congrArg some (by kernel_rfl))
 f257:=Tryz.func102.trans (congrArg some (by kernel_rfl))
 f294:=Tryz.func168.trans (congrArg some (by kernel_rfl))
 f295:=Tryz.func169.trans (congrArg some (by kernel_rfl))
 f296:=Tryz.func170.trans (congrArg some (by kernel_rfl))
 f297:=Tryz.func171.trans (congrArg some (by kernel_rfl))
 f298:=Tryz.func172.trans (congrArg some (by kernel_rfl))
 f299:=Tryz.func173.trans (congrArg some (by kernel_rfl))
 f300:=Tryz.func174.trans (congrArg some (by kernel_rfl))
 f301:=Tryz.func175.trans (congrArg some (by kernel_rfl))
 f328:=Tryz.func221.trans (congrArg some (by kernel_rfl))
 f329:=Tryz.func222.trans (congrArg some (by kernel_rfl))
 f330:=Tryz.func223.trans (congrArg some (by kernel_rfl))
 f331:=Tryz.func224.trans (congrArg some (by kernel_rfl))
 f332:=Tryz.func225.trans (congrArg some (by kernel_rfl))
 f343:=Tryz.func242.trans (congrArg some (by kernel_rfl))
 t0:=Tryz.underlying0
 a0:=Tryz.isAgg0
 z0:=Tryz.sizeOf0
 v0:=Tryz.zeroValue0
 t3:=Tryz.underlying3
 a3:=Tryz.isAgg3
 z3:=Tryz.sizeOf3
 v3:=Tryz.zeroValue3
 t4:=Tryz.underlying4
 a4:=Tryz.isAgg4
 z4:=Tryz.sizeOf4
 v4:=Tryz.zeroValue4
 t5:=Tryz.underlying5
 a5:=Tryz.isAgg5
 z5:=Tryz.sizeOf5
 v5:=Tryz.zeroValue5
 t9:=Tryz.underlying9
 a9:=Tryz.isAgg9
 z9:=Tryz.sizeOf9
 v9:=Tryz.zeroValue9
 t28:=Tryz.underlying35
 a28:=Tryz.isAgg35
 z28:=Tryz.sizeOf35
 v28:=Tryz.zeroValue35
 t46:=Tryz.underlying192
 a46:=Tryz.isAgg192
 z46:=Tryz.sizeOf192
 v46:=Tryz.zeroValue192
 t51:=Tryz.underlying288
 a51:=Tryz.isAgg288
 z51:=Tryz.sizeOf288
 v51:=Tryz.zeroValue288
 t53:=Tryz.underlying248
 a53:=Tryz.isAgg248
 z53:=Tryz.sizeOf248
 v53:=Tryz.zeroValue248
 t131:=Tryz.underlying186
 a131:=Tryz.isAgg186
 z131:=Tryz.sizeOf186
 v131:=Tryz.zeroValue186
 t182:=Tryz.underlying281
 a182:=Tryz.isAgg281
 z182:=Tryz.sizeOf281
 v182:=Tryz.zeroValue281
 t183:=Tryz.underlying282
 a183:=Tryz.isAgg282
 z183:=Tryz.sizeOf282
 v183:=Tryz.zeroValue282
 t218:=Tryz.underlying329
 a218:=Tryz.isAgg329
 z218:=Tryz.sizeOf329
 v218:=Tryz.zeroValue329
 t222:=Tryz.underlying168
 a222:=Tryz.isAgg168
 z222:=Tryz.sizeOf168
 v222:=Tryz.zeroValue168
 t228:=Tryz.underlying359
 a228:=Tryz.isAgg359
 z228:=Tryz.sizeOf359
 v228:=Tryz.zeroValue359
 t229:=Tryz.underlying154
 a229:=Tryz.isAgg154
 z229:=Tryz.sizeOf154
 v229:=Tryz.zeroValue154 }
open Go.Sort Go.RowKit in
theorem Lc(blk off cap:Nat)(zs:List Int)(w:World)(hH:Holds V0 w blk off zs.toArray)(hblk:blk<w.heap.size)(hsz:zs.length<4611686018427387904) :
 C0 57 #[.slice (some ⟨blk,off,none⟩) zs.length cap] w fun e w' =>
  e=.returned (.tuple #[])∧∃ n os,w'=grow (putRow V0 (Sort.ahead w n) blk off (zs.mergeSort fun x y=>decide (x≤y)).toArray) os:=Any.slices_Sort_int Sw blk off cap zs w hH hblk hsz
open Go.RowKit Go.Sort in
theorem Uf(p:O0)(cap:Nat)(w:World) :
 C0 57 #[.slice p 0 cap] w fun e w'=>e=.returned (.tuple #[])∧w'=w:=Any.slices_Sort_int_none Sw p cap w
def Ux:Go.Shelf.Ren:=⟨fun|43=>58|n=>n,fun|22=>35|23=>3|3=>3|4=>4|0=>0|n=>n,fun|n=>n⟩
theorem Gw:Go.Proofs.SlLaysN.n43 Tryz.prog Ux:={
 mixed:=by kernel_rfl
 f43:=⟨Tryz.f58.name,by decide,Tryz.func58.trans (congrArg some (by kernel_rfl))⟩
 t0:=Tryz.underlying0
 a0:=Tryz.isAgg0
 z0:=Tryz.sizeOf0
 v0:=Tryz.zeroValue0
 t3:=Tryz.underlying3
 a3:=Tryz.isAgg3
 z3:=Tryz.sizeOf3
 v3:=Tryz.zeroValue3
 t4:=Tryz.underlying4
 a4:=Tryz.isAgg4
 z4:=Tryz.sizeOf4
 v4:=Tryz.zeroValue4
 t22:=Tryz.underlying35
 a22:=Tryz.isAgg35
 z22:=Tryz.sizeOf35
 v22:=Tryz.zeroValue35
 t23:=Tryz.underlying3
 a23:=Tryz.isAgg3
 z23:=Tryz.sizeOf3
 v23:=Tryz.zeroValue3
 i23:=by kernel_rfl }
open Go.RowKit Go.Lib Go.Sort in
theorem Wm(blk off cap:Nat)(zs:List Int)(w:World)(hH:Holds V0 w blk off zs.toArray)(hsz:zs.length≤9223372036854775807)(hcap:zs.length≤cap) :
 C0 58 #[.slice (some ⟨blk,off,none⟩) zs.length cap] w fun e w'=>e=.returned (.slice (some ⟨blk,off,none⟩) (Lib.compact zs).length cap)∧∃ q,w'=putRow V0 (Sort.ahead w q) blk off (Lib.compact zs++List.replicate (zs.length-(Lib.compact zs).length) 0).toArray:=AnyG.slices_Compact_int Gw blk off cap zs w hH hsz hcap
open Go.RowKit Go.Lib Go.Sort in
theorem Jv(a:O0)(cap:Nat)(w:World) :
 C0 58 #[.slice a 0 cap] w fun e w'=>e=.returned (.slice a 0 cap)∧w'=w:=AnyG.slices_Compact_int_empty Gw a cap w
end Go.Proofs.YtceeiinepijokaaGreat
namespace Go.Proofs.YtceeiinepijokaaGreat
set_option maxHeartbeats 8000000
set_option maxRecDepth 100000
open Go.RowKit Go.Extern.Stop Go.Stop Go.Extern
set_option linter.unusedVariables false
attribute [local irreducible] wpList wpAnyH Code.wp Oper.wp Go
open Go.Sort in
theorem sort_row{base:Nat}{p:O0}{c:Nat}{L:List Int}(w:World)(hB:base≤w.heap.size)(hl:L.length≤1000000)(ho:w.ownsRow base 3 1 (.slice p L.length c) L.length (L.map V0)):C0 57 #[.slice p L.length c] w (fun e w'=>∃ (u:Value) (L2:List Int),e=.returned u∧L2.length=L.length∧L2.Perm L∧L2.Pairwise (·≤·)∧Below base w w'∧w.grownBy w' (Value.slice p L.length c).ownBlock∧w'.ownsRow base 3 1 (.slice p L.length c) L.length (L2.map V0)):=by
  rcases ho.2 with ⟨h1,h2⟩|⟨g,a6,a7,hv,hb,hh,a4,a3,a5,a2⟩
  · have hL:L=[]:=List.eq_nil_of_length_eq_zero h2
    subst hL
    refine(Uf p c w).mono ?_
    rintro e W ⟨rfl,rfl⟩
    exact⟨_,[],rfl,rfl,List.Perm.refl _,.nil,Below.refl _ _,⟨rfl,rfl,rfl,Nat.le_refl _,fun _ _ _=>rfl⟩,ho⟩
  · simp only[Value.slice.injEq] at hv
    obtain⟨rfl,_,rfl⟩:=hv
    have hH:=holds_of_blockI hh (by simpa using a2)
    have a1:=(Array.getElem?_eq_some_iff.1 hh).1
    refine(Lc g 0 _ L w hH a1 (by omega)).mono ?_
    rintro e W ⟨rfl,n,os,rfl⟩
    have a0:(L.mergeSort fun x y=>decide (x≤y)).length=L.length:=List.length_mergeSort _
    have hg:=grownBy_sortedI (w:=w) (g:=g) (n:=n) (os:=os) (L.mergeSort fun x y=>decide (x≤y)).toArray
    refine⟨_,L.mergeSort fun x y=>decide (x≤y),rfl,a0,List.mergeSort_perm _ _,?_,(Below.refl base w).grown hg hB (fun k e=>by cases e;exact hb),hg,ownsRow_sortedI a0 hb hh a4 a3 a5⟩
    have:=List.pairwise_mergeSort (le:=fun x y:Int=>decide (x≤y)) (fun a b c h1 h2=>by simp at h1 h2 ⊢;omega) (fun a b=>by simp;omega) L
    exact this.imp fun h=>of_decide_eq_true h
theorem Nj(zs:List Int)(hs:zs.Pairwise (·≤·)):∀ m,m≤zs.length→(Lib.compactUpTo zs.toArray m).Pairwise (·<·)∧(∀ z,z∈Lib.compactUpTo zs.toArray m↔z∈zs.take m)
  | 0,_=>⟨by simp[Lib.compactUpTo],fun z=>by simp[Lib.compactUpTo]⟩
  | m+1,h=>by
    obtain⟨h1,h2⟩:=Nj zs hs m (by omega)
    have hm:zs.toArray[m]! = zs[m]'(by omega):=by simp[show m<zs.length by omega]
    rw[Lib.compactUpTo_succ,List.take_succ_eq_append_getElem (show m<zs.length by omega),hm]
    have a2:zs.toArray[m-1]! = zs[m-1]'(by omega):=by simp[show m-1<zs.length by omega]
    have a6:∀ z∈zs.take m,z≤zs[m]'(by omega):=fun z hz=>by
      obtain⟨j,hj,rfl⟩:=List.mem_take_iff_getElem.1 hz
      exact List.pairwise_iff_getElem.1 hs j m (by omega) (by omega) (by omega)
    by_cases hk:Lib.keeps zs.toArray m=true
    · rw[if_pos hk]
      refine⟨List.pairwise_append.2 ⟨h1,by simp,fun a ha b hb=>?_⟩,fun z=>by rw[List.mem_append,List.mem_append,h2]⟩
      obtain rfl:=List.mem_singleton.1 hb
      have a3:=(h2 a).1 ha
      obtain⟨j,hj,rfl⟩:=List.mem_take_iff_getElem.1 a3
      have a4:0<m:=by omega
      have a0:zs[m-1]'(by omega)≠zs[m]'(by omega):=by
        have a1:=(of_decide_eq_true hk).resolve_left (by omega)
        rw[hm,a2] at a1
        exact fun e=>a1 e.symm
      have a5:zs[j]'(by omega)≤zs[m-1]'(by omega):=by
        by_cases e:j=m-1
        · subst e;exact Int.le_refl _
        · exact List.pairwise_iff_getElem.1 hs j (m-1) (by omega) (by omega) (by omega)
      have:=List.pairwise_iff_getElem.1 hs (m-1) m (by omega) (by omega) (by omega)
      omega
    · rw[if_neg hk,List.append_nil]
      refine⟨h1,fun z=>?_⟩
      rw[h2,List.mem_append,List.mem_singleton]
      constructor
      · exact .inl
      · rintro(h|rfl)
        · exact h
        · have a1:=fun q=>hk (decide_eq_true q)
          have a4:m≠0:=fun e=>a1 (.inl e)
          have a0:zs[m-1]'(by omega)=zs[m]'(by omega):=by
            by_cases e:zs[m-1]'(by omega)=zs[m]'(by omega)
            · exact e
            · exact absurd (.inr (by rw[hm,a2];exact fun q=>e q.symm)) a1
          rw[←a0]
          exact List.mem_take_iff_getElem.2 ⟨m-1,by omega,rfl⟩
open Go.Sort in
theorem Zcg{base:Nat}{p:O0}{c:Nat}{L:List Int}(w:World)(hB:base≤w.heap.size)(hl:L.length≤1000000)(hs:L.Pairwise (·≤·))(ho:w.ownsRow base 3 1 (.slice p L.length c) L.length (L.map V0)):C0 58 #[.slice p L.length c] w (fun e w'=>∃ (q:O0) (d:Nat) (L2:List Int),e=.returned (.slice q L2.length d)∧L2.Pairwise (·<·)∧(∀ z,z∈L2↔z∈L)∧Below base w w'∧w.grownBy w' (Value.slice p L.length c).ownBlock∧w'.ownsRow base 3 1 (.slice q L2.length d) L2.length (L2.map V0)):=by
  rcases ho.2 with ⟨h1,h2⟩|⟨g,a8,a9,hv,hb,hh,a1,a5,a6,a4⟩
  · have hL:L=[]:=List.eq_nil_of_length_eq_zero h2
    subst hL
    refine(Jv p c w).mono ?_
    rintro e W ⟨rfl,rfl⟩
    exact⟨p,c,[],rfl,.nil,fun _=>Iff.rfl,Below.refl _ _,⟨rfl,rfl,rfl,Nat.le_refl _,fun _ _ _=>rfl⟩,ho⟩
  · simp only[Value.slice.injEq] at hv
    obtain⟨rfl,_,rfl⟩:=hv
    have hH:=holds_of_blockI hh (by simpa using a4)
    have a7:=(Array.getElem?_eq_some_iff.1 hh).1
    refine(Wm g 0 _ L w hH (by omega) a1).mono ?_
    rintro e W ⟨rfl,n,rfl⟩
    have a2:=Nj L hs L.length (Nat.le_refl _)
    have a3:(Lib.compact L).length≤L.length:=by unfold Lib.compact Lib.compactUpTo;rw[List.length_map];exact Nat.le_trans (List.length_filter_le _ _) (by simp)
    have a0:(Lib.compact L++List.replicate (L.length-(Lib.compact L).length) 0).length=L.length:=by rw[List.length_append,List.length_replicate];omega
    have hg:=grownBy_sortedI (w:=w) (g:=g) (n:=n) (os:=#[]) (Lib.compact L++List.replicate (L.length-(Lib.compact L).length) 0).toArray
    have hw:=ownsRow_sortedI (os:=#[]) (n:=n) a0 hb hh a1 a5 a6
    rw[grow_empty] at hg hw
    refine⟨_,_,Lib.compact L,rfl,a2.1,fun z=>(a2.2 z).trans (by rw[List.take_length]),(Below.refl base w).grown hg hB (fun k e=>by cases e;exact hb),hg,?_⟩
    have:=own_cut hw a3 rfl
    rw[List.map_append,List.take_append_of_le_length (by simp),List.take_of_length_le (by simp)] at this
    exact this
end Go.Proofs.YtceeiinepijokaaGreat
namespace Go.Proofs.YtceeiinepijokaaGreat
set_option maxHeartbeats 8000000
set_option maxRecDepth 100000
open Go.RowKit Go.Extern.Stop Go.Stop Go.Extern
set_option linter.unusedVariables false
attribute [local irreducible] wpList wpAnyH Code.wp Oper.wp
def Ro(base:Nat)(w:World)(v:Value)(ts:List Int):Prop :=
 (v=S0∧ts=[])∨∃ g off cap cur,v=.slice (some ⟨g,off,none⟩) ts.length cap∧base≤g∧w.heap[g]? = some (.cells cur 3 (0,0))∧ts.length≤cap∧cur.size≤maxLen∧off+cap≤cur.size∧(cur.toList.drop off).take ts.length=ts.map V0
variable {base N:Nat} {w W:World} {v vo:Value} {ts:List Int}
theorem Ro.of_own{p:O0}{n c:Nat}(h:w.ownsRow base 3 1 (.slice p n c) n (ts.map V0)):Ro base w (.slice p n c) ts:=by
 obtain⟨h1,h2⟩:=h
 have hn:ts.length=n:=by simpa using h1
 subst hn
 rcases h2 with ⟨h2,h3⟩|⟨g,a1,a0,hv,hb,hh,hc,hm,hs,ht⟩
 ·exact .inl ⟨h2,List.eq_nil_of_length_eq_zero h3⟩
 ·simp only[Value.slice.injEq] at hv
  obtain⟨rfl,_,rfl⟩:=hv
  exact .inr ⟨g,0,c,a0,rfl,hb,hh,hc,by omega,by omega,by simpa using ht⟩
theorem Ro.lt(h:Ro base w v ts):∀ j,v.ownBlock=some j→j<w.heap.size:=fun j hj=>by
 rcases h with ⟨rfl,_⟩|⟨g,a0,a1,a2,rfl,_,hh,_⟩
 ·cases hj
 ·simp only[Value.ownBlock,Option.some.injEq] at hj
  subst hj
  exact(Array.getElem?_eq_some_iff.1 hh).1
theorem Ro.kept(h:Ro base w v ts)(hk:∀ j,v.ownBlock=some j→W.heap[j]? = w.heap[j]?):Ro base W v ts:=by
 rcases h with h|⟨g,a0,a1,a2,rfl,hb,hh,r⟩
 ·exact .inl h
 ·exact .inr ⟨g,a0,a1,a2,rfl,hb,(hk g rfl).trans hh,r⟩
theorem Ro.whole(h:Ro base w v ts):∃ v0 n0 xs0,w.ownsRow base 3 1 v0 n0 xs0∧v0.ownBlock=v.ownBlock:=by
 rcases h with ⟨rfl,_⟩|⟨g,a1,a2,a0,rfl,hb,hh,hc,hm,hs,ht⟩
 ·exact⟨_,_,_,World.ownsRow_nil w base _ _,rfl⟩
 ·exact⟨.slice (S1 g) a0.size a0.size,a0.size,a0.toList.take (a0.size*1),⟨by rw[List.length_take,Array.length_toList];omega,.inr ⟨g,a0.size,a0,rfl,hb,hh,Nat.le_refl _,hm,by omega,rfl⟩⟩,rfl⟩
theorem Ro.ints(h:Ro base w v ts):Ints w v ts:=by
 rcases h with ⟨rfl,rfl⟩|⟨g,a0,a1,a2,rfl,hb,hh,hc,hm,hs,ht⟩
 ·exact .inl ⟨_,_,rfl,rfl,rfl⟩
 ·refine .inr ⟨g,a0,a1,rfl,hc,by omega,fun j x hj=>?_⟩
  rw[←ht,List.getElem?_take] at hj
  split at hj
  ·rw[List.getElem?_drop] at hj
   rw[cell_of_row w g (a0+j) a2 3 (0,0) hh]
   simpa using hj
  ·cases hj
theorem Ro.tail{p:O0}{n c:Nat}{t:Int}(h:Ro base w (.slice p n c) (t::ts)):Ro base w (.slice (Vp p 1 c 1) (n-1) (c-1)) ts:=by
 rcases h with ⟨_,h⟩|⟨g,a0,a3,a1,hv,hb,hh,hc,hm,hs,ht⟩
 ·cases h
 ·simp only[Value.slice.injEq] at hv
  obtain⟨rfl,rfl,rfl⟩:=hv
  have a2:(a1.toList.drop (a0+1)).take ts.length=ts.map V0:=by
   have:=congrArg (List.drop 1) ht
   rw[List.drop_take,List.drop_drop] at this
   simpa using this
  by_cases h1:c=1
  ·subst h1
   have h0:ts=[]:=List.eq_nil_of_length_eq_zero (by rw[List.length_cons] at hc;omega)
   subst h0
   exact .inr ⟨g,a0,0,a1,by simp[Vp],hb,hh,Nat.le_refl _,hm,by omega,by simp⟩
  ·refine .inr ⟨g,a0+1,c-1,a1,?_,hb,hh,by rw[List.length_cons] at hc;omega,by omega,by rw[List.length_cons] at hc;omega,a2⟩
   unfold Vp
   rw[if_neg h1]
   simp[Addr.add]
def Je(base N:Nat)(w:World)(vo v:Value)(ts:List Int):Prop:=Ro base w v ts∧(∀ j,v.ownBlock=some j→j<N)∧∀ j,v.ownBlock=some j→vo.ownBlock≠some j
theorem Je.ints(h:Je base N w vo v ts):Ints w v ts:=h.1.ints
theorem Je.below(h:Je base N w vo v ts)(hb:B3 w W):Je base N W vo v ts:=⟨h.1.kept fun j hj=>hb.block j (h.1.lt j hj),h.2⟩
theorem Je.at_(h:Je base N w vo v ts):Je base w.heap.size w vo v ts:=⟨h.1,h.1.lt,h.2.2⟩
theorem Je.updB{b:Nat}{cs:List Value}{e:TypeId}(h:Je base N w vo v ts)(u:Upd w b W)(k:Blk w b cs e)(he:(e==3)=false):Je base N W vo v ts:=⟨h.1.kept fun j hj=>u.block j (fun q=>by
 subst q
 rcases h.1 with ⟨rfl,_⟩|⟨g,a0,a1,a2,rfl,_,hh,_⟩
 ·cases hj
 ·simp only[Value.ownBlock,Option.some.injEq] at hj
  subst hj
  have k:w.heap[g]? = some (.cells cs.toArray e (0,0)):=k
  rw[hh] at k
  cases k
  simp at he),h.2⟩
theorem Je.grow{n:Nat}{xs:List Value}{v':Value}(h:Je base N w vo v ts)(k:w.ownsRow base 3 1 vo n xs)(hg:w.grownBy W vo.ownBlock)(ha:v'.ownBlock=vo.ownBlock∨v'.ownBlock=some w.heap.size):Je base W.heap.size W v' v ts :=
 have hk:Ro base W v ts:=h.1.kept fun j hj=>hg.block j (h.1.lt j hj) (fun q=>h.2.2 j hj q.symm)
 ⟨hk,hk.lt,fun j hj q=>by
  rcases ha with ha|ha
  ·exact h.2.2 j hj (ha.symm.trans q)
  ·have:=h.1.lt j hj
   rw[ha,Option.some.injEq] at q
   omega⟩
theorem Je.tail{p:O0}{n c:Nat}{t:Int}(h:Je base N w vo (.slice p n c) (t::ts)):Je base N w vo (.slice (Vp p 1 c 1) (n-1) (c-1)) ts:=by
 have e:∀ j,(Value.slice (Vp p 1 c 1) (n-1) (c-1)).ownBlock=some j→(Value.slice p n c).ownBlock=some j:=fun j hj=>by
  cases p with
  | none=>unfold Vp at hj;split at hj<;>cases hj
  | some a =>
   unfold Vp at hj
   split at hj
   ·exact hj
   ·simp only[Option.map_some,Value.ownBlock,Option.some.injEq] at hj ⊢
    rw[←hj];unfold Addr.add;split<;>rfl
 exact⟨h.1.tail,fun j hj=>h.2.1 j (e j hj),fun j hj=>h.2.2 j (e j hj)⟩
theorem Zhc{p:O0}{n c:Nat}(h:w.ownsRow base 3 1 (.slice p n c) n (ts.map V0)):Je base w.heap.size w (S0) (.slice p n c) ts:=⟨Ro.of_own h,(Ro.of_own h).lt,fun j _ q=>by cases q⟩
theorem Je.elem0{p:O0}{n c:Nat}{t:Int}{r:List Int}(h:Je base N w vo (.slice p n c) ts)(e:ts=t::r):p.isSome=true∧w.cell? (Xd p (0*1))=some (V0 t):=by
 subst e
 have q:=h.ints
 have hn:n=(t::r).length:=by
  rcases h.1 with ⟨_,h0⟩|⟨g,a0,a1,a2,hv,_⟩
  ·cases h0
  ·simp only[Value.slice.injEq] at hv;exact hv.2.1
 subst hn
 exact Ints.elem q (k:=0) (by simp)
theorem Je.tailE{p:O0}{n c:Nat}{t:Int}{r:List Int}(h:Je base N w vo (.slice p n c) ts)(e:ts=t::r):Je base w.heap.size w vo (.slice (Vp p 1 c 1) r.length (c-1)) r:=by
 subst e
 have hn:n=(t::r).length:=by
  rcases h.1 with ⟨_,h0⟩|⟨g,a0,a1,a2,hv,_⟩
  ·cases h0
  ·simp only[Value.slice.injEq] at hv;exact hv.2.1
 subst hn
 exact h.tail.at_
theorem Rv{P:Program}(w:World)(t ty e:TypeId)(i:TypeInfo)(ht:P.underlying t=some (.slice e))(hi:P.info? e=some i)(g off n cap:Nat)(cur:Array Value)(hg:w.heap[g]? = some (.cells cur e (0,0)))
 (a:Addr) (m c:Nat) (news:List Value) (hl:news.length=m*i.size) (hnews:∀ j u,news[j]? = some u→w.cell? (a.add j)=some u) (h1:∀ u∈news,u.oneCell'=true) (hroom:n+m≤cap) (hfit:off+n*i.size+news.length≤cur.size) :
 (Builtin.append_ #[t,t] ty #[.slice (some ⟨g,off,none⟩) n cap,.slice (some a) m c]).run P w=.ok (.slice (some ⟨g,off,none⟩) (n+m) cap) (w.setRow g (cur.toList.take (off+n*i.size)++news++cur.toList.drop (off+n*i.size+news.length)).toArray):=by
 have hf:=run_firstCells_some (P:=P) w i.size m a m c news hl hnews
 have a0:=run_storeCells_at P g (off+n*i.size) e news 0 cur w hg (by simpa using hfit) h1
 simp only[Nat.add_zero] at a0
 simp[Builtin.append_,run_underlying ht,sizeOf,typeInfo,hi,Builtin.lenOf,hroom,hf,Addr.add_lit,a0]
theorem Zgp{P:Program}{a:Act}{w:World}{K:Act→World→Prop}{Q:Exit→Act→World→Prop}{o:Oper}{s x:Operand}{t te:TypeId}{vo:Value}{no:Nat}{xo:List Value}{b c:Nat}{k:Int}{p:O0}{n cp:Nat}(z:Value)(n':Nat)
 (ho:o.op=.call { callee:=.builtin .append,args:=#[s,x],argTypes:=#[t,t] }) (ht:P.underlying t=some (.slice 3)) (hi:(P.info? 3).map (fun i=>(i.zero,i.size,i.bytes))=some (some z,1,8)) (hzs:z.cells.size=1) (hs:a.eval s=.slice p n cp)
 (hown:Je base N w vo (.slice p n cp) ts) (hvo:w.ownsRow base 3 1 vo no xo) (hx:a.eval x=.slice (S1 b) 1 c) (hnew:Blk w b [V0 k] te) (hlen:ts.length≤1000000) (hbase:base≤w.heap.size) (hn:n+1=n')
 (h:∀ p2 c2 W v0 n0 xs0,w.ownsRow base 3 1 v0 n0 xs0→w.grownBy W v0.ownBlock→Below base w W→W.ownsRow base 3 1 vo no xo→Je base W.heap.size W vo (.slice p2 n' c2) (ts++[k])→K (a.put o.dst (.slice p2 n' c2)) W):o.wp P a w K Q:=by
 subst hn
 cases hq:P.info? 3 with
 | none=>simp[hq] at hi
 | some i =>
  simp only[hq,Option.map_some,Option.some.injEq,Prod.mk.injEq] at hi
  obtain⟨hz,a1,a9⟩:=hi
  have hc:∀ j u,[Value.int .i64 k][j]? = some u→w.cell? ((⟨b,0,none⟩:Addr).add j)=some u:=fun j u hj=>by
   have hc:=hnew.cell hj
   by_cases h0:j=0
   ·subst h0;simpa [Addr.add] using hc
   ·simpa [Addr.add,h0] using hc
  have a5:∀ p2 c2 W,(Builtin.append_ #[t,t] o.type #[.slice p n cp,.slice (S1 b) 1 c]).run P w=.ok (.slice p2 (n+1) c2) W→Ro base W (.slice p2 (n+1) c2) (ts++[k])→w.grownBy W (Value.slice p n cp).ownBlock →
    (∀ j,(Value.slice p2 (n+1) c2).ownBlock=some j→(Value.slice p n cp).ownBlock=some j∨w.heap.size≤j)→o.wp P a w K Q:=fun p2 c2 W hr hW hg ha=>by
   obtain⟨v0,n0,xs0,b0,a7⟩:=hown.1.whole
   rw[←a7] at hg
   have b2:W.ownsRow base 3 1 vo no xo:=by
    obtain⟨k1,k2⟩:=hvo
    refine⟨k1,?_⟩
    rcases k2 with k2|⟨g,a8,a2,rfl,hb,hh,r⟩
    ·exact Or.inl k2
    ·exact Or.inr ⟨g,a8,a2,rfl,hb,(hg.block g (Array.getElem?_eq_some_iff.1 hh).1 (fun q=>hown.2.2 g (a7▸q.symm) rfl)).trans hh,r⟩
   have hA:Je base W.heap.size W vo (.slice p2 (n+1) c2) (ts++[k]):=⟨hW,hW.lt,fun j hj q=>by
    rcases ha j hj with ha|ha
    ·exact hown.2.2 j ha q
    ·have:=(hvo.lt j q).2
     omega⟩
   unfold Oper.wp execOp
   simp only[ho,resolve,invoke,builtin,Sem.run_bind,Sem.run_pure,Result.andThen_ok,List.map_toArray,List.map_cons,List.map_nil,hs,hx,hr]
   exact h p2 c2 W v0 n0 xs0 b0 hg (Vf hg b0 (Nat.le_refl _) hbase) b2 hA
  rcases hown.1 with ⟨hv,h0⟩|⟨g,a0,a8,a2,hv,hb,hh,b4,hm,b3,b1⟩
  ·simp only[Value.slice.injEq] at hv
   obtain⟨rfl,rfl,rfl⟩:=hv
   subst h0
   obtain⟨v',W,hr,h2,h3,_⟩:=run_append_own (P:=P) w w.heap.size t o.type 3 i z 1 8 ht hq hz a1 a9 hzs (by decide) (S0) 0 [] (World.ownsRow_nil w _ _ _) ⟨b,0,none⟩ 1 c [V0 k] rfl hc (by simp[Value.oneCell']) (by unfold maxLen;omega) (by omega) (Nat.le_refl _)
   obtain⟨p2,c2,rfl⟩:=(Ze h2).slice
   exact a5 p2 c2 W hr (Ro.of_own (Zf h2 hbase)) h3 fun j hj=>.inr (h2.lt j hj).1
  ·simp only[Value.slice.injEq] at hv
   obtain⟨rfl,rfl,rfl⟩:=hv
   by_cases hr:ts.length+1≤cp
   ·have a4:=Rv (P:=P) w t o.type 3 i ht hq g a0 ts.length cp a2 hh ⟨b,0,none⟩ 1 c [V0 k] (by rw[a1];rfl) hc (by simp[Value.oneCell']) hr (by rw[a1,List.length_singleton];omega)
    refine a5 _ _ _ a4 (.inr ⟨g,a0,cp,_,by rw[List.length_append,List.length_singleton],hb,setRow_heap w g a2 _ 3 _ hh,by rw[List.length_append,List.length_singleton];exact hr,?_,?_,?_⟩) ⟨rfl,rfl,rfl,by simp,fun k _ hk=>setRow_other w g k _ (fun e=>hk (by simp[Value.ownBlock,e]))⟩ fun j hj=>.inl hj
    ·simp only[List.size_toArray,List.length_append,List.length_take,List.length_drop,Array.length_toList,List.length_singleton,a1];omega
    ·simp only[List.size_toArray,List.length_append,List.length_take,List.length_drop,Array.length_toList,List.length_singleton,a1];omega
    ·have e1:(a2.toList.take (a0+ts.length*i.size)).drop a0=ts.map V0:=by
      rw[List.drop_take,show a0+ts.length*i.size-a0=ts.length by rw[a1];omega];exact b1
     have e2:a0≤(a2.toList.take (a0+ts.length*i.size)).length:=by simp only[List.length_take,Array.length_toList,a1];omega
     rw[List.toList_toArray,List.append_assoc,List.drop_append_of_le_length e2,e1,List.length_append,List.length_singleton,List.map_append,List.map_singleton,←List.append_assoc]
     exact List.take_left' (by simp)
   ·have a3:∀ j u,(ts.map V0)[j]? = some u→w.cell? ((⟨g,a0,none⟩:Addr).add j)=some u:=fun j u hj=>by
     rw[←b1,List.getElem?_take] at hj
     split at hj
     ·rw[List.getElem?_drop] at hj
      have a6:(⟨g,a0,none⟩:Addr).add j=⟨g,a0+j,none⟩:=by unfold Addr.add;split<;>simp_all
      rw[a6,cell_of_row w g (a0+j) a2 3 (0,0) hh]
      simpa using hj
     ·cases hj
    obtain⟨v',W,a4,h2,h3⟩:=run_append_arg_grows (P:=P) w t o.type 3 i z 1 8 ht hq hz a1 a9 hzs (by decide) ⟨g,a0,none⟩ ts.length cp (ts.map V0) (by simp) a3 ⟨b,0,none⟩ 1 c [V0 k] rfl hc (by omega) (by unfold maxLen;omega) (by omega)
    obtain⟨p2,c2,rfl⟩:=(Ze h2).slice
    exact a5 p2 c2 W a4 (Ro.of_own (Zf (by rw[List.map_append];exact h2) hbase)) ⟨h3.os,h3.tape,h3.output,h3.size,fun k hk _=>h3.block k hk (by simp)⟩ fun j hj=>.inr (h2.lt j hj).1
end Go.Proofs.YtceeiinepijokaaGreat
namespace Go.Proofs.YtceeiinepijokaaGreat
set_option maxHeartbeats 8000000
set_option maxRecDepth 100000
open Go.RowKit Go.Extern.Stop Go.Stop Go.Extern
set_option linter.unusedVariables false
attribute [local irreducible] wpList wpAnyH Code.wp Oper.wp Go
theorem ljE_D:ljE=ljD:=rfl
def OnceP(base:Nat)(L:List Int)(w:World)(e:Ending)(w':World):Prop:=∃ (q:O0) (d:Nat) (L2:List Int),e=.returned (.slice q L2.length d)∧L2.Pairwise (·<·)∧(∀ z,z∈L2↔z∈L)∧Below base w w'∧w'.ownsRow base 3 1 (.slice q L2.length d) L2.length (L2.map V0)
theorem sort_rowN{base n:Nat}{p:O0}{c:Nat}{L:List Int}(w:World)(hn:L.length=n)(hB:base≤w.heap.size)(hl:L.length≤1000000)(ho:w.ownsRow base 3 1 (.slice p n c) n (L.map V0)):C0 57 #[.slice p n c] w (fun e w'=>∃ (u:Value) (L2:List Int),e=.returned u∧L2.length=n∧L2.Perm L∧L2.Pairwise (·≤·)∧Below base w w'∧w'.ownsRow base 3 1 (.slice p n c) n (L2.map V0)):=by
  subst hn
  refine(sort_row w hB hl ho).mono ?_
  rintro e W ⟨u,L2,h1,h2,h3,h4,h5,_,h6⟩
  exact⟨u,L2,h1,h2,h3,h4,h5,h6⟩
theorem Zav{base n:Nat}{p:O0}{c:Nat}{L:List Int}(w:World)(hn:L.length=n)(hB:base≤w.heap.size)(hl:L.length≤1000000)(hs:L.Pairwise (·≤·))(ho:w.ownsRow base 3 1 (.slice p n c) n (L.map V0)):C0 58 #[.slice p n c] w (fun e w'=>∃ (q:O0) (d:Nat) (L2:List Int),e=.returned (.slice q L2.length d)∧L2.Pairwise (·<·)∧(∀ z,z∈L2↔z∈L)∧Below base w w'∧w'.ownsRow base 3 1 (.slice q L2.length d) L2.length (L2.map V0)):=by
  subst hn
  refine(Zcg w hB hl hs ho).mono ?_
  rintro e W ⟨q,d,L2,h1,h2,h3,h4,_,h6⟩
  exact⟨q,d,L2,h1,h2,h3,h4,h6⟩
theorem Za2(B:Nat)(p:O0)(c n:Nat)(L:List Int)(w:World)(hBw:B≤w.heap.size)(hn:L.length=n)(hl:L.length≤1000000)(ho:w.ownsRow B 3 1 (.slice p n c) n (L.map V0)) :
 C0 29 #[.slice p n c] w (OnceP B L w):=by
 refine zin 7 Tryz.func29 ?_
 refine xc 8 (args:=#[.slice p n c]) (sort_rowN (base:=B) _ hn (Nat.le_trans hBw (Below.refl B _).size) hl ho) ?_
 rintro _ W1 ⟨u,L1,rfl,a5,a2,a9,a1,a4⟩
 refine xc 5 (args:=#[.slice p n c]) (Zav (base:=B) _ a5 (Nat.le_trans hBw a1.size) (by omega) a9 a4) ?_
 rintro _ W2 ⟨q2,d2,L2,rfl,a3,a8,a7,a6⟩
 have a0:=a1.trans a7
 exact xe 4 (.slice q2 L2.length d2) ⟨_,_,_,rfl,a3,fun z=>(a8 z).trans a2.mem_iff,a0,a6⟩
theorem Zbu(pl:O0)(cl:Nat)(L:List Lj)(to:Int)(w:World)(hL:Sts ljC w (.slice pl L.length cl) L)(hll:L.length≤100000) :
 C0 12 #[.slice pl L.length cl,V0 to] w ((fun e w'=>∃ (q:O0) (d:Nat) (L2:List Int),e=.returned (.slice q L2.length d)∧Kz (Dg L to) L2∧B3 w w'∧w'.ownsRow w.heap.size 3 1 (.slice q L2.length d) L2.length (L2.map V0))):=by
 have c2:=Sl.len hL
 refine zin 26 Tryz.func12 ?_
 have hB:=Below.refl w.heap.size w
 refine zl 19 26 (fun zm b8 V=>∃ (i:Nat) (a0:List Int) (po:O0) (co:Nat),b8=[(1,V0 to),(4,S0),(5,.slice po a0.length co),(8,.slice pl L.length cl),(9,V0 (L.length:Int)),(10,V0 (i:Int))]∧zm=L.length-((i:Int)).toNat∧B3 w V∧V.ownsRow w.heap.size 3 1 (.slice po a0.length co) a0.length (a0.map V0)∧i≤L.length∧((∀ z,z∈a0↔Dg (L.take i) to z))∧a0.length≤i) ⟨0,[],none,0,rfl,rfl,hB,World.ownsRow_nil _ _ _ _,Nat.zero_le _,?_,Nat.le_refl _⟩ ?_
 ·exact fun z=>⟨fun q=>(by cases q),fun q=>absurd q (Ti L to z)⟩
 rintro _ _ W1 ⟨i,a0,po,co,rfl,rfl,a1,ho,hi,hm,c4⟩ J1 b0 r1
 refine xid 6 ((i:Int)<(L.length:Int)) (fun b2=>?_) (fun b2=>?_)
 ·refine xx 6 _ L.length i 3 (Sts.cell (f:=ljC) hL Xw ljE (k:=i) (i:=0) (by omega) rfl).1 ?_
  refine xlv 0 (Sts.rp (k:=i) (hL.below a1) Xw ljE (by omega) (by decide)) ?_
  refine xa 0 [V0 0,V0 0,V0 0] 81 fun b3 W3 n3=>?_
  have g3:=n3.ge a1
  refine xsv 0 n3.blk [V0 ((L.getD i ljE).1),V0 ((L.getD i ljE).2.1),V0 ((L.getD i ljE).2.2)] fun W4 u4 k4=>?_
  refine xb 5 1 k4 ?_
  refine xie 4 ((L.getD i ljE).2.1) to (fun c0=>?_) (fun c0=>?_)
  ·refine xb 3 0 k4 ?_
   refine xbs 0 1 [V0 ((L.getD i ljE).1)] 3 fun b6 W6 n6=>?_
   have a3:=u4.below (bln a1 n3.below) g3
   have g6:=n6.ge a3
   have a2:=u4.own2 (Zb ho n3.below) n3.blk (by decide)
   have b1:=Zr a2 n6
   have a8:=Zb a2 n6.below
   have a4:=bln a3 n6.below
   refine xbi 0 fun _ _ _ _ zJ zQ zo zx zy zK=>Zy (m:=1) (news:=[V0 ((L.getD i ljE).1)]) (V0 0) 1 8 ((a0++[(L.getD i ljE).1]).length) (((a0++[(L.getD i ljE).1]).map V0)) zo Tryz.underlying35 (by kernel_rfl) rfl (by decide) zx a8 zy (n6.blk.sl 1 1 (by decide) (by decide)) rfl (by simp[Value.oneCell']) (by unfold maxLen;omega) (by omega) a4.size (by simp) (by simp) fun c5 c6 W7 o7 c3 c1=>?_
   refine zK _ _ ?_
   refine xwm 5 ((i:Int)+1) (↑(i+1):Int) ?_
   have a5:=a4.trans c1
   exact ze 2 (b0 _ _ _ ⟨i+1,(a0++[(L.getD i ljE).1]),_,_,rfl,rfl,a5,o7,by omega,(fun z=>by rw[Ev (i:=i) (by omega) (by assumption),List.mem_append,List.mem_singleton,hm];rfl),by rw[List.length_append,List.length_singleton];omega⟩ (by omega))
  refine xwm 4 ((i:Int)+1) (↑(i+1):Int) ?_
  have a9:=u4.below (bln a1 n3.below) g3
  have a6:=u4.own2 (Zb ho n3.below) n3.blk (by decide)
  exact ze 2 (b0 _ _ _ ⟨i+1,a0,po,co,rfl,rfl,a9,a6,by omega,(fun z=>by rw[Zfo (i:=i) (by omega) (by assumption)];exact hm z),by omega⟩ (by omega))
 refine xc 8 (args:=#[.slice po a0.length co]) (Za2 w.heap.size _ _ _ a0 _ a1.size rfl (by omega) ho) ?_
 rintro _ W8 ⟨q2,d2,L2,rfl,b7,b4,b9,b5⟩
 have a7:=a1.trans b9
 refine xe 4 (.slice q2 L2.length d2) ?_
 obtain rfl:i=L.length:=by omega
 rw[List.take_length] at hm
 exact⟨_,_,_,rfl,⟨b7,fun z=>(b4 z).trans (hm z)⟩,a7,b5⟩
theorem put_step{A B:List Int}{n:Int}(hA:0<A.length):((A++n::B).set A.length ((A++n::B).getD (A.length-1) 0)).set (A.length-1) ((A++n::B).getD A.length 0)=A.dropLast++n::(A.getD (A.length-1) 0)::B:=by
 obtain⟨A',y,rfl⟩:∃ A' y,A=A'++[y]:=by
  rcases List.eq_nil_or_concat A with rfl|⟨A',y,rfl⟩
  ·simp at hA
  ·exact⟨A',y,List.concat_eq_append⟩
 have e1:((A'++[y])++n::B).getD ((A'++[y]).length-1) 0=y:=by simp[List.getD]
 have e2:((A'++[y])++n::B).getD (A'++[y]).length 0=n:=by simp[List.getD]
 have e3:(A'++[y]).getD ((A'++[y]).length-1) 0=y:=by simp[List.getD]
 rw[e1,e2,e3]
 simp
theorem own_g{w:World}{base size n c:Nat}{e:TypeId}{p:O0}{xs:List Value}(h:w.ownsRow base e size (.slice p n c) n xs)(hn:0<n):∃ g,p=some ⟨g,0,none⟩:=by
 rcases h.2 with ⟨h2,_⟩|⟨g,a0,a1,hv,_⟩
 ·simp only[Value.slice.injEq] at h2;omega
 ·simp only[Value.slice.injEq] at hv;exact⟨g,hv.1⟩
structure PutI(l A B:List Int)(n:Int):Prop where
 eq:l=A++B
 up:∀ x∈B,n<x
theorem PutI.start(l:List Int)(n:Int):PutI l l [] n:=⟨by simp,fun _ h=>(by cases h)⟩
theorem PutI.next{l A B:List Int}{n:Int}(h:PutI l A B n)(hA:0<A.length)(hlt:(A++n::B).getD A.length 0<(A++n::B).getD (A.length-1) 0):PutI l A.dropLast ((A.getD (A.length-1) 0)::B) n:=by
 obtain⟨A',y,rfl⟩:∃ A' y,A=A'++[y]:=by
  rcases List.eq_nil_or_concat A with rfl|⟨A',y,rfl⟩
  ·simp at hA
  ·exact⟨A',y,List.concat_eq_append⟩
 have e1:((A'++[y])++n::B).getD ((A'++[y]).length-1) 0=y:=by simp[List.getD]
 have e2:((A'++[y])++n::B).getD (A'++[y]).length 0=n:=by simp[List.getD]
 have e3:(A'++[y]).getD ((A'++[y]).length-1) 0=y:=by simp[List.getD]
 rw[e1,e2] at hlt
 rw[e3]
 refine⟨by rw[h.eq];simp,fun x hx=>?_⟩
 rcases List.mem_cons.1 hx with rfl|hx
 ·exact hlt
 ·exact h.up x hx
theorem PutI.done{l A B:List Int}{n:Int}(h:PutI l A B n)(hr:l.Pairwise (·<·))(hn:n∉l)(he:A.length=0∨¬ (A++n::B).getD A.length 0<(A++n::B).getD (A.length-1) 0):A++n::B=Sa l n:=by
  refine(putS_of hr h.eq (fun x hx=>?_) h.up).symm
  rcases List.eq_nil_or_concat A with rfl|⟨A',y,rfl⟩
  · cases hx
  · have hA:A'.concat y=A'++[y]:=List.concat_eq_append
    rw[hA] at he hx h
    have e1:((A'++[y])++n::B).getD ((A'++[y]).length-1) 0=y:=by simp[List.getD]
    have e2:((A'++[y])++n::B).getD (A'++[y]).length 0=n:=by simp[List.getD]
    rcases he with he|he
    · simp at he
    · rw[e1,e2] at he
      have hy:y≠n:=fun q=>hn (by rw[h.eq,←q];simp)
      rw[h.eq,List.pairwise_append,List.pairwise_append] at hr
      rcases List.mem_append.1 hx with q|q
      · have:=hr.1.2.2 x q y (by simp)
        omega
      · obtain rfl:=List.mem_singleton.1 q;omega
theorem has2_at{l:List Int}{n:Int}{i:Nat}(hi:i<l.length)(h:l.getD i 0=n):decide (n∈l)=true:=decide_eq_true (by subst h;simp[List.getD,hi])
theorem has2_no{l:List Int}{n:Int}(h:∀ j,j<l.length→l.getD j 0≠n):decide (n∈l)=false:=decide_eq_false fun q=>by
 obtain⟨j,hj,rfl⟩:=List.mem_iff_getElem.1 q
 exact h j hj (by simp[List.getD,hj])
theorem Pf(a:O0)(c:Nat)(l:List Int)(n:Int)(w:World)(h:Ints w (.slice a l.length c) l) :
 C0 30 #[.slice a l.length c,V0 n] w (Ret (.bool (decide (n∈l))) w):=by
 have a6:=Sl.len h
 refine zin 18 Tryz.func30 ?_
 have hB:=Below.refl w.heap.size w
 refine zl 12 18 (fun zm a2 V=>∃ (i:Nat),a2=[(0,.slice a l.length c),(1,V0 n),(5,V0 (i:Int))]∧zm=l.length-((i:Int)).toNat∧B3 w V∧i≤l.length∧(∀ j,j<i→l.getD j 0≠n)) ⟨0,rfl,rfl,hB,Nat.zero_le _,?_⟩ ?_
 ·exact fun j hj=>absurd hj (by omega)
 rintro _ _ W1 ⟨i,rfl,rfl,a0,hi,a1⟩ J1 a3 r1
 refine xid 9 ((i:Int)<(l.length:Int)) (fun a4=>?_) (fun a4=>?_)
 ·refine xx 8 _ l.length i 1 (Ints.elem h (k:=i) (by omega)).1 ?_
  refine xl 0 ((Ints.elem (h.below a0) (k:=i) (by omega)).2) ?_
  refine xie 4 (l.getD i 0) n (fun a5=>?_) (fun a5=>?_)
  ·exact xe 11 (.bool true) ⟨by rw[has2_at (i:=i) (by omega) (by assumption)],a0⟩
  refine xwm 5 ((i:Int)+1) (↑(i+1):Int) ?_
  exact ze 2 (a3 _ _ _ ⟨i+1,rfl,rfl,a0,by omega,(fun j hj=>by rcases Nat.lt_succ_iff_lt_or_eq.1 hj with q|q;exact a1 j q;subst q;assumption)⟩ (by omega))
 exact xe 11 (.bool false) ⟨by rw[has2_no (fun j hj=>a1 j (by omega))],a0⟩
theorem Ff(a:O0)(c:Nat)(l:List Int)(n:Int)(w:World)(h:Ints w (.slice a l.length c) l)(hr:l.Pairwise (·<·))(hn:n∉l)(hl:l.length≤1000000) :
 C0 31 #[.slice a l.length c,V0 n] w (Yy (fun w' r=>∃ p c,r=.slice p (Sa l n).length c∧w'.ownsRow w.heap.size 3 1 (.slice p (Sa l n).length c) (Sa l n).length ((Sa l n).map V0)) w):=by
 have hll:(l++[n]).length=l.length+1:=by rw[List.length_append];rfl
 refine zin 50 Tryz.func31 ?_
 refine xb0 7 3 fun b1 W1 n1=>?_
 have o1:=Zz (size:=1) (n:=0) n1.blk (n1.ge (B4 w)) rfl (by decide)
 refine xbi 1 fun _ _ _ _ zJ zQ zo zx zy zK=>Zy (m:=l.length) (news:=(l.map V0)) (V0 0) 1 8 (l.length) ((l.map V0)) zo Tryz.underlying35 (by kernel_rfl) rfl (by decide) zx o1 zy (h.below n1.below) (by simp) (Ai l) (by unfold maxLen;omega) (by omega) n1.below.size (by omega) (by simp) fun px2 cx2 W2 o2 hg2 hb2=>?_
 refine zK _ _ ?_
 refine xbs 1 1 [V0 n] 3 fun b3 W3 n3=>?_
 have hB'1:=n1.below.trans hb2
 have g3:=n3.ge hB'1
 have r3_o2:=Zr o2 n3
 have o2'1:=Zb o2 n3.below
 have hB'2:=bln hB'1 n3.below
 refine xbi 0 fun _ _ _ _ zJ zQ zo zx zy zK=>Zy (m:=1) (news:=[V0 n]) (V0 0) 1 8 ((l++[n]).length) (((l++[n]).map V0)) zo Tryz.underlying35 (by kernel_rfl) rfl (by decide) zx o2'1 zy (n3.blk.sl 1 1 (by decide) (by decide)) rfl (by simp[Value.oneCell']) (by unfold maxLen;omega) (by omega) hB'2.size (by simp) (by simp) fun px4 cx4 W4 o4 hg4 hb4=>?_
 refine zK _ _ ?_
 refine xwm 8 ((↑((l++[n]).length):Int)-1) (↑(((l++[n]).length)-1):Int) ?_
 obtain⟨g0,hg0⟩:=own_g o4 (by omega)
 have hog:=o4
 rw[hg0] at hog
 refine xv1 4 5 (show(V0 (↑(((l++[n]).length)-1):Int):Value)=V0 (l.length:Int) from by first|rw[hg0]|exact congrArg V0 (by rw[List.length_append,List.length_singleton];omega)) ?_
 refine xv1 0 0 (show(.slice px4 ((l++[n]).length) cx4:Value)=.slice (S1 g0) ((l++[n]).length) cx4 from by first|rw[hg0]|exact congrArg V0 (by rw[List.length_append,List.length_singleton];omega)) ?_
 have hB'3:=hB'2.trans hb4
 refine zl 0 50 (fun zm zkv V=>∃ (A B:List Int) (g c:Nat),zkv=[(0,.slice (S1 g) ((l++[n]).length) c),(4,S0),(5,V0 (A.length:Int))]∧zm=((A.length:Int)).toNat∧B3 w V∧V.ownsRow w.heap.size 3 1 (.slice (S1 g) (l++[n]).length c) (l++[n]).length ((A++n::B).map V0)∧PutI l A B n∧(A++n::B).length=(l++[n]).length) ⟨l,[],_,_,rfl,rfl,hB'3,hog,PutI.start l n,rfl⟩ ?_
 rintro _ _ W5 ⟨A,B,g,c,rfl,rfl,hB_5,ho,hp,hAB⟩ J5 hJ5 r5
 have hAl:A.length+(B.length+1)=l.length+1:=by rw[←hll,←hAB,List.length_append,List.length_cons]
 refine xd 2 .z ?_
 refine xg (.b [0,1,2]) [17,18] (decide ((A.length:Int)>(0:Int))) (fun hc6=>?_) (fun hc6=>?_)
 ·have hc6:=of_decide_eq_true hc6
  have ho'1:=Zb ho (Za W5)
  refine xx (.e [3,4] 5) _ ((l++[n]).length) A.length 1 (IntsN.elem (Ze ho'1) hAB (k:=A.length) (by omega)).1 ?_
  refine xl (.e [] 6) ((IntsN.elem (Ze ho'1) hAB (k:=A.length) (by omega)).2) ?_
  refine xq (.e [7,8] 9) (congrArg V0 (show IntKind.i64.wrap ((A.length:Int)-1)=(↑(A.length-1):Int) from(show IntKind.i64.wrap ((A.length:Int)-1)=((A.length:Int)-1) from by first|exact IntWalk.i64_in _ (by omega)|(simp only[IntKind.wrap];omega)).trans (by omega))) ?_
  refine xx (.e [] 10) _ ((l++[n]).length) (A.length-1) 1 (IntsN.elem (Ze ho'1) hAB (k:=(A.length-1)) (by omega)).1 ?_
  refine xl (.e [] 11) ((IntsN.elem (Ze ho'1) hAB (k:=(A.length-1)) (by omega)).2) ?_
  refine xid (.r [12,13] 2) (((A++n::B).getD A.length 0)<((A++n::B).getD (A.length-1) 0)) (fun hc7=>?_) (fun hc7=>?_)
  ·refine xx 8 _ ((l++[n]).length) A.length 1 (IntsN.elem (Ze ho'1) hAB (k:=A.length) (by omega)).1 ?_
   refine xl 0 ((IntsN.elem (Ze ho'1) hAB (k:=A.length) (by omega)).2) ?_
   refine xq 9 (congrArg V0 (show IntKind.i64.wrap ((A.length:Int)-1)=(↑(A.length-1):Int) from(show IntKind.i64.wrap ((A.length:Int)-1)=((A.length:Int)-1) from by first|exact IntWalk.i64_in _ (by omega)|(simp only[IntKind.wrap];omega)).trans (by omega))) ?_
   refine xx 0 _ ((l++[n]).length) (A.length-1) 1 (IntsN.elem (Ze ho'1) hAB (k:=(A.length-1)) (by omega)).1 ?_
   refine xl 0 ((IntsN.elem (Ze ho'1) hAB (k:=(A.length-1)) (by omega)).2) ?_
   refine xx 0 _ ((l++[n]).length) A.length 1 (IntsN.elem (Ze ho'1) hAB (k:=A.length) (by omega)).1 ?_
   refine xst 0 fun _ _ _ _ zJ zQ zo zx zy zK=>Vx (t:=3) (k:=A.length) (v:=V0 ((A++n::B).getD (A.length-1) 0)) zo zx zy (by kernel_rfl) rfl ho'1 (by omega) fun W8 u8 o8=>?_
   rw[(show((A++n::B).map V0).set A.length (V0 ((A++n::B).getD (A.length-1) 0))=(((A++n::B).set A.length ((A++n::B).getD (A.length-1) 0)).map V0) from by simp only[List.map_set])] at o8
   refine zK _ _ ?_
   refine xq 5 (congrArg V0 (show IntKind.i64.wrap ((A.length:Int)-1)=(↑(A.length-1):Int) from(show IntKind.i64.wrap ((A.length:Int)-1)=((A.length:Int)-1) from by first|exact IntWalk.i64_in _ (by omega)|(simp only[IntKind.wrap];omega)).trans (by omega))) ?_
   refine xx 1 _ ((l++[n]).length) (A.length-1) 1 (IntsN.elem (Ze ho'1) hAB (k:=(A.length-1)) (by omega)).1 ?_
   refine xst 0 fun _ _ _ _ zJ zQ zo zx zy zK=>Vx (t:=3) (k:=(A.length-1)) (v:=V0 ((A++n::B).getD A.length 0)) zo zx zy (by kernel_rfl) rfl o8 (by omega) fun W9 u9 o9=>?_
   rw[(show(((A++n::B).set A.length ((A++n::B).getD (A.length-1) 0)).map V0).set (A.length-1) (V0 ((A++n::B).getD A.length 0))=((((A++n::B).set A.length ((A++n::B).getD (A.length-1) 0)).set (A.length-1) ((A++n::B).getD A.length 0)).map V0) from by simp only[List.map_set])] at o9
   refine zK _ _ ?_
   refine xq 5 (congrArg V0 (show IntKind.i64.wrap ((A.length:Int)-1)=(↑(A.length-1):Int) from(show IntKind.i64.wrap ((A.length:Int)-1)=((A.length:Int)-1) from by first|exact IntWalk.i64_in _ (by omega)|(simp only[IntKind.wrap];omega)).trans (by omega))) ?_
   refine xv1 2 5 (show(V0 (↑(A.length-1):Int):Value)=V0 (A.dropLast.length:Int) from congrArg V0 (by rw[List.length_dropLast])) ?_
   have hB'4:=u9.below (u8.below (bln hB_5 (Za W5)) (Nk ho'1)) (Nk o8)
   refine ze 0 (hJ5 _ _ _ ⟨A.dropLast,((A.getD (A.length-1) 0)::B),_,_,rfl,rfl,hB'4,(by rw[←put_step (by omega)];exact o9),(hp.next (by omega) (by omega)),(by rw[List.length_append,List.length_cons,List.length_cons,List.length_dropLast];omega)⟩ ?_)
   show((A.dropLast.length:Nat):Int).toNat<((A.length:Nat):Int).toNat
   rw[List.length_dropLast]
   omega
  have hB'5:=bln hB_5 (Za W5)
  refine xe 12 (.slice (S1 g) ((l++[n]).length) c) ?_
  have e9:=hp.done hr hn (by omega)
  have ho9:=ho'1
  rw[e9] at ho9
  exact⟨_,rfl,hB'5,_,_,by rw[Pn hr hn,hll],by rw[Pn hr hn,←hll];exact ho9⟩
 have hc6:=of_decide_eq_false hc6
 have ho'2:=Zb ho (Za W5)
 have hB'6:=bln hB_5 (Za W5)
 refine xe (.r [3,4,5,6,7,8,9,10,11,12,13] 15) (.slice (S1 g) ((l++[n]).length) c) ?_
 have e9:=hp.done hr hn (by omega)
 have ho9:=ho'2
 rw[e9] at ho9
 exact⟨_,rfl,hB'6,_,_,by rw[Pn hr hn,hll],by rw[Pn hr hn,←hll];exact ho9⟩
theorem ref47_Into(pl:O0)(cl:Nat)(L:List Lj)(to:Int)(w:World)(hL:Sts ljC w (.slice pl L.length cl) L)(hll:L.length≤100000) :
 C0 13 #[.slice pl L.length cl,V0 to] w ((fun e w'=>∃ (q:O0) (d:Nat) (L2:List Int),e=.returned (.slice q L2.length d)∧Kz (Dg L to) L2∧B3 w w'∧w'.ownsRow w.heap.size 3 1 (.slice q L2.length d) L2.length (L2.map V0))):=by
 have b7:=Sl.len hL
 refine zin 38 Tryz.func13 ?_
 have hB:=Below.refl w.heap.size w
 refine zl 17 38 (fun zm b6 V=>∃ (i:Nat) (a0:List Int) (po:O0) (co:Nat),b6=[(0,.slice pl L.length cl),(1,V0 to),(4,S0),(5,.slice po a0.length co),(6,V0 (i:Int))]∧zm=L.length-((i:Int)).toNat∧B3 w V∧V.ownsRow w.heap.size 3 1 (.slice po a0.length co) a0.length (a0.map V0)∧i≤L.length∧a0.Pairwise (·<·)∧((∀ z,z∈a0↔Dg (L.take i) to z))∧a0.length≤i) ⟨0,[],none,0,rfl,rfl,hB,World.ownsRow_nil _ _ _ _,Nat.zero_le _,.nil,?_,Nat.le_refl _⟩ ?_
 · exact fun z=>⟨fun q=>(by cases q),fun q=>absurd q (Ti L to z)⟩
 rintro _ _ W1 ⟨i,a0,po,co,rfl,rfl,a1,ho,hi,hr,hm,b8⟩ J1 a7 r1
 refine xid 9 ((i:Int)<(L.length:Int)) (fun b5=>?_) (fun b5=>?_)
 · refine xx 8 _ L.length i 3 (Sts.cell (f:=ljC) hL Xw ljE (k:=i) (i:=0) (by omega) rfl).1 ?_
   refine xl 1 ((Sts.cell (hL.below a1) Xw ljE (k:=i) (i:=1) (by omega) rfl).2) ?_
   refine xg 3 [19,20] ((L.getD i ljE).2.1==to) (fun a5=>?_) (fun a5=>?_)
   · have a5:=eq_of_beq a5
     refine xx 3 _ L.length i 3 (Sts.cell (f:=ljC) hL Xw ljE (k:=i) (i:=0) (by omega) rfl).1 ?_
     refine xl 1 ((Sts.cell (hL.below a1) Xw ljE (k:=i) (i:=0) (by omega) rfl).2) ?_
     refine xr 0 (args:=#[.slice po a0.length co,V0 ((L.getD i ljE).1)]) (Pf _ _ a0 ((L.getD i ljE).1) _ (Ze ho)) fun W4 a6=>?_
     refine xi 4 (!(decide ((L.getD i ljE).1∈a0))) (fun b1=>?_) (fun b1=>?_)
     · have a3:(L.getD i ljE).1∉a0:=(of_decide_eq_false (Gs b1))
       refine xx 4 _ L.length i 3 (Sts.cell (f:=ljC) hL Xw ljE (k:=i) (i:=0) (by omega) rfl).1 ?_
       have a2:=bln a1 a6
       refine xl 1 ((Sts.cell (hL.below a2) Xw ljE (k:=i) (i:=0) (by omega) rfl).2) ?_
       have a8:=Zb ho a6
       refine xc 0 (args:=#[.slice po a0.length co,V0 ((L.getD i ljE).1)]) (Ff _ _ a0 (L.getD i ljE).1 _ (Ze a8) hr a3 (by omega)) ?_
       rintro _ W6 ⟨_,rfl,b4,pn,cn,rfl,b3⟩
       refine xwm 6 ((i:Int)+1) (↑(i+1):Int) ?_
       have b2:=bln a2 b4
       have a4:=Zf b3 a2.size
       exact ze 2 (a7 _ _ _ ⟨i+1,(Sa a0 (L.getD i ljE).1),_,_,rfl,rfl,b2,a4,by omega,Za5 hr,(fun z=>by rw[Ev (i:=i) (by omega) (by assumption),Dm z a3,hm];rfl),by rw[Pn hr a3];omega⟩ (by omega))
     have a3:(L.getD i ljE).1∈a0:=(of_decide_eq_true (Hx b1))
     refine xwm 5 ((i:Int)+1) (↑(i+1):Int) ?_
     have a9:=bln a1 a6
     have b0:=Zb ho a6
     exact ze 2 (a7 _ _ _ ⟨i+1,a0,po,co,rfl,rfl,a9,b0,by omega,hr,(fun z=>by rw[Ev (i:=i) (by omega) (by assumption),←hm z];exact⟨.inl,fun q=>q.elim id fun q=>by rw[q];exact a3⟩),by omega⟩ (by omega))
   have a5:=Ya a5
   refine xwm 17 ((i:Int)+1) (↑(i+1):Int) ?_
   exact ze 2 (a7 _ _ _ ⟨i+1,a0,po,co,rfl,rfl,a1,ho,by omega,hr,(fun z=>by rw[Zfo (i:=i) (by omega) (by assumption)];exact hm z),by omega⟩ (by omega))
 refine xe 12 (.slice po a0.length co) ?_
 obtain rfl:i=L.length:=by omega
 rw[List.take_length] at hm
 exact⟨_,_,_,rfl,⟨hr,hm⟩,a1,ho⟩
theorem Zc9(pl:O0)(cl:Nat)(L:List Lj)(fr:Int)(w:World)(hL:Sts ljC w (.slice pl L.length cl) L)(hll:L.length≤100000) :
 C0 16 #[.slice pl L.length cl,V0 fr] w ((fun e w'=>∃ (q:O0) (d:Nat) (L2:List Int),e=.returned (.slice q L2.length d)∧Kz (Lead L fr) L2∧B3 w w'∧w'.ownsRow w.heap.size 3 1 (.slice q L2.length d) L2.length (L2.map V0))):=by
 have hLa:=Sl.len hL
 refine zin 49 Tryz.func16 ?_
 have hB:=Below.refl w.heap.size w
 refine zl 17 49 (fun zm zkv V=>∃ (mo:Bool) (out:List Int) (po:O0) (co:Nat),zkv=[(0,.slice pl L.length cl),(1,V0 fr),(4,S0),(5,.slice po out.length co),(6,.bool mo)]∧zm=2*unB L out+mo.toNat∧B3 w V∧V.ownsRow w.heap.size 3 1 (.slice po out.length co) out.length (out.map V0)∧FixI L fr out∧(mo=false→Jb L fr L.length out)) ⟨true,[],none,0,rfl,rfl,hB,World.ownsRow_nil _ _ _ _,FixI.start L fr,(fun q=>(by cases q))⟩ ?_
 rintro _ _ W1 ⟨mo,out,po,co,rfl,rfl,hB_1,ho,hf,hc⟩ J1 hJ1 r1
 have hfw:=hf.few
 refine xi 6 mo (fun hc2=>?_) (fun hc2=>?_)
 ·have hmo:=hc2
  obtain⟨mu0,hmuK⟩:∃ m,m=2*unB L out+mo.toNat:=⟨_,rfl⟩
  have hmt:mo.toNat=1:=by rw[hmo];rfl
  refine zl 14 49 (fun zm zkv V=>∃ (i:Nat) (out:List Int) (po:O0) (co:Nat) (m2:Bool),zkv=[(0,.slice pl L.length cl),(1,V0 fr),(4,S0),(5,.slice po out.length co),(6,.bool m2),(7,V0 (i:Int))]∧zm=L.length-((i:Int)).toNat∧B3 w V∧V.ownsRow w.heap.size 3 1 (.slice po out.length co) out.length (out.map V0)∧i≤L.length∧FixI L fr out∧(m2=false→Jb L fr i out)∧2*unB L out+m2.toNat<mu0) ⟨0,_,_,_,false,rfl,rfl,hB_1,ho,Nat.zero_le _,hf,(fun _=>Jb.zero _ _ _),(by rw[hmuK,hmt];simp)⟩ ?_
  rintro _ _ W3 ⟨i,out,po,co,m2,rfl,rfl,hB_3,ho_3,hi,hf2,hc2,hm3⟩ J3 hJ3 r3
  have hfw2:=hf2.few
  refine xid 9 ((i:Int)<(L.length:Int)) (fun hc4=>?_) (fun hc4=>?_)
  ·refine xx 9 _ L.length i 3 (Sts.cell (f:=ljC) hL Xw ljE (k:=i) (i:=0) (by omega) rfl).1 ?_
   refine xl 1 ((Sts.cell (hL.below hB_3) Xw ljE (k:=i) (i:=0) (by omega) rfl).2) ?_
   refine xg 3 [21,22] ((L.getD i ljE).1 != fr) (fun hc5=>?_) (fun hc5=>?_)
   ·have hc5:=Uu hc5
    refine xx 3 _ L.length i 3 (Sts.cell (f:=ljC) hL Xw ljE (k:=i) (i:=0) (by omega) rfl).1 ?_
    refine xl 1 ((Sts.cell (hL.below hB_3) Xw ljE (k:=i) (i:=0) (by omega) rfl).2) ?_
    refine xr 0 (args:=#[.slice po out.length co,V0 ((L.getD i ljE).1)]) (Pf _ _ out ((L.getD i ljE).1) _ (Ze ho_3)) fun W6 hb6=>?_
    refine xg 3 [30,31,32] (!(decide ((L.getD i ljE).1∈out))) (fun hc7=>?_) (fun hc7=>?_)
    ·have hm1:(L.getD i ljE).1∉out:=(of_decide_eq_false (Gs hc7))
     refine xwm 17 ((i:Int)+1) (↑(i+1):Int) ?_
     have hB'1:=bln hB_3 hb6
     have ho'1:=Zb ho_3 hb6
     exact ze 2 (hJ3 _ _ _ ⟨i+1,out,po,co,m2,rfl,rfl,hB'1,ho'1,by omega,hf2,(fun q=>(hc2 q).next (by omega) (.inl ⟨by assumption,hm1⟩)),hm3⟩ (by omega))
    have hm1:(L.getD i ljE).1∈out:=(of_decide_eq_true (Hx hc7))
    refine xx 3 _ L.length i 3 (Sts.cell (f:=ljC) hL Xw ljE (k:=i) (i:=0) (by omega) rfl).1 ?_
    have hB'2:=bln hB_3 hb6
    refine xl 1 ((Sts.cell (hL.below hB'2) Xw ljE (k:=i) (i:=1) (by omega) rfl).2) ?_
    have ho'2:=Zb ho_3 hb6
    refine xr 0 (args:=#[.slice po out.length co,V0 ((L.getD i ljE).2.1)]) (Pf _ _ out ((L.getD i ljE).2.1) _ (Ze ho'2)) fun W8 hb8=>?_
    refine xid 3 ((L.getD i ljE).2.1∈out) (fun hc9=>?_) (fun hc9=>?_)
    ·have hm2:(L.getD i ljE).2.1∈out:=hc9
     refine xwm 6 ((i:Int)+1) (↑(i+1):Int) ?_
     have hB'3:=bln hB'2 hb8
     have ho'3:=Zb ho'2 hb8
     exact ze 2 (hJ3 _ _ _ ⟨i+1,out,po,co,m2,rfl,rfl,hB'3,ho'3,by omega,hf2,(fun q=>(hc2 q).next (by omega) (.inr hm2)),hm3⟩ (by omega))
    have hm2:(L.getD i ljE).2.1∉out:=hc9
    refine xx 7 _ L.length i 3 (Sts.cell (f:=ljC) hL Xw ljE (k:=i) (i:=0) (by omega) rfl).1 ?_
    have hB'4:=bln hB'2 hb8
    refine xl 1 ((Sts.cell (hL.below hB'4) Xw ljE (k:=i) (i:=1) (by omega) rfl).2) ?_
    have ho'4:=Zb ho'2 hb8
    refine xc 0 (args:=#[.slice po out.length co,V0 ((L.getD i ljE).2.1)]) (Ff _ _ out (L.getD i ljE).2.1 _ (Ze ho'4) hf2.rise hm2 (by omega)) ?_
    rintro _ W10 ⟨_,rfl,hb10,pn,cn,rfl,hon⟩
    refine xwm 10 ((i:Int)+1) (↑(i+1):Int) ?_
    have hB'5:=bln hB'4 hb10
    have hon'1:=Zf hon hB'4.size
    exact ze 2 (hJ3 _ _ _ ⟨i+1,(Sa out (L.getD i ljE).2.1),_,_,true,rfl,rfl,hB'5,hon'1,by omega,(hf2.put (by omega) (.inr hm1) hm2).1,(fun q=>(by cases q)),(by have:=(hf2.put (i:=i) (by omega) (.inr hm1) hm2).2;simp only[Bool.toNat_true];have q:unB L (Sa out (L.getD i ljE).2.1)+1≤unB L out:=this;omega)⟩ (by omega))
   have hc5:=Yo hc5
   refine xx 13 _ L.length i 3 (Sts.cell (f:=ljC) hL Xw ljE (k:=i) (i:=0) (by omega) rfl).1 ?_
   refine xl 1 ((Sts.cell (hL.below hB_3) Xw ljE (k:=i) (i:=1) (by omega) rfl).2) ?_
   refine xr 0 (args:=#[.slice po out.length co,V0 ((L.getD i ljE).2.1)]) (Pf _ _ out ((L.getD i ljE).2.1) _ (Ze ho_3)) fun W11 hb11=>?_
   refine xid 3 ((L.getD i ljE).2.1∈out) (fun hc12=>?_) (fun hc12=>?_)
   ·have hm2:(L.getD i ljE).2.1∈out:=hc12
    refine xwm 6 ((i:Int)+1) (↑(i+1):Int) ?_
    have hB'6:=bln hB_3 hb11
    have ho'5:=Zb ho_3 hb11
    exact ze 2 (hJ3 _ _ _ ⟨i+1,out,po,co,m2,rfl,rfl,hB'6,ho'5,by omega,hf2,(fun q=>(hc2 q).next (by omega) (.inr hm2)),hm3⟩ (by omega))
   have hm2:(L.getD i ljE).2.1∉out:=hc12
   refine xx 7 _ L.length i 3 (Sts.cell (f:=ljC) hL Xw ljE (k:=i) (i:=0) (by omega) rfl).1 ?_
   have hB'7:=bln hB_3 hb11
   refine xl 1 ((Sts.cell (hL.below hB'7) Xw ljE (k:=i) (i:=1) (by omega) rfl).2) ?_
   have ho'6:=Zb ho_3 hb11
   refine xc 0 (args:=#[.slice po out.length co,V0 ((L.getD i ljE).2.1)]) (Ff _ _ out (L.getD i ljE).2.1 _ (Ze ho'6) hf2.rise hm2 (by omega)) ?_
   rintro _ W13 ⟨_,rfl,hb13,pn,cn,rfl,hon⟩
   refine xwm 10 ((i:Int)+1) (↑(i+1):Int) ?_
   have hB'8:=bln hB'7 hb13
   have hon'2:=Zf hon hB'7.size
   exact ze 2 (hJ3 _ _ _ ⟨i+1,(Sa out (L.getD i ljE).2.1),_,_,true,rfl,rfl,hB'8,hon'2,by omega,(hf2.put (by omega) (.inl (by assumption)) hm2).1,(fun q=>(by cases q)),(by have:=(hf2.put (i:=i) (by omega) (.inl (by assumption)) hm2).2;simp only[Bool.toNat_true];have q:unB L (Sa out (L.getD i ljE).2.1)+1≤unB L out:=this;omega)⟩ (by omega))
  refine ze 5 (hJ1 _ _ _ ⟨m2,out,po,co,rfl,rfl,hB_3,ho_3,hf2,(fun q=>by have:=hc2 q;rwa [show i=L.length from by omega] at this)⟩ ?_)
  refine Nat.lt_of_lt_of_eq (m:=mu0) ?_ hmuK
  show 2*unB L out+m2.toNat<mu0
  omega
 have hmo:=hc2
 exact xe 12 (.slice po out.length co) ⟨_,_,_,rfl,hf.done (hc hmo),hB_1,ho⟩
theorem mem_getD{out:List Int}{k:Nat}{x:Int}(hk:k<out.length)(h:out.getD k 0=x):x∈out:=by
 subst h;simp[List.getD,hk]
theorem Tm(pl:O0)(cl:Nat)(L:List Lj)(fr:Int)(w:World)(hL:Sts ljC w (.slice pl L.length cl) L)(hll:L.length≤100000) :
 C0 15 #[.slice pl L.length cl,V0 fr] w ((fun e w'=>∃ (q:O0) (d:Nat) (L2:List Int),e=.returned (.slice q L2.length d)∧Kz (Lead L fr) L2∧B3 w w'∧w'.ownsRow w.heap.size 3 1 (.slice q L2.length d) L2.length (L2.map V0))):=by
 have k4:=Sl.len hL
 refine zin 56 Tryz.func15 ?_
 refine xbs 13 1 [V0 fr] 3 fun b1 W1 n1=>?_
 have g1:=n1.ge (B4 w)
 refine zl 5 56 (fun zm d9 V=>∃ (a0:List Int) (po:O0) (co:Nat) (ts:List Int) (pw:O0) (cw:Nat),d9=[(0,.slice pl L.length cl),(4,S0),(5,.slice po a0.length co),(6,.slice pw ts.length cw)]∧zm=2*unB L a0+ts.length∧B3 w V∧V.ownsRow w.heap.size 3 1 (.slice po a0.length co) a0.length (a0.map V0)∧Je w.heap.size V.heap.size V (.slice po a0.length co) (.slice pw ts.length cw) ts∧BelI L fr a0 ts) ⟨[],none,0,[fr],(S1 b1),1,rfl,rfl,n1.below,World.ownsRow_nil _ _ _ _,(Zhc (ts:=[fr]) (Zz (size:=1) (n:=1) n1.blk g1 rfl (by decide))),BelI.start L fr⟩ ?_
 rintro _ _ W2 ⟨a0,po,co,ts,pw,cw,rfl,rfl,b3,ho,hW,hi⟩ J2 i3 r2
 have j3:=hi.few
 have k0:=hi.wt
 have c8:=Je.at_ hW
 refine xid 8 ((ts.length:Int)>(0:Int)) (fun f0=>?_) (fun f0=>?_)
 ·obtain⟨no,r,a9⟩:∃ x r,ts=x::r:=List.exists_cons_of_ne_nil (fun q=>by rw[q] at f0;simp at f0)
  have b6:=Je.at_ c8
  refine xx 7 _ ts.length 0 1 (Je.elem0 b6 a9).1 ?_
  refine xl 0 ((Je.elem0 b6 a9).2) ?_
  have e9:=Je.at_ b6
  refine xsL 6 (fun _ _ _ _ zo zx zy V=>Yc (k:=1) (b:=pw) (n:=ts.length) (c:=cw) (i:=1) (ki:=.i64) 1 zo zx zy rfl (by omega) Tryz.underlying35 (by kernel_rfl) V) ?_
  have e7:=Je.at_ e9
  obtain⟨f1,d5⟩:∃ m,m=2*unB L a0+ts.length:=⟨_,rfl⟩
  have f4:=d5
  rw[a9,List.length_cons] at d5
  have i8:=BelI.go (a9▸hi)
  refine xv1 14 6 (show(.slice (Vp pw 1 cw 1) (ts.length-1) (cw-1):Value)=.slice (Vp pw 1 cw 1) r.length (cw-1) from by rw[a9];rfl) ?_
  refine zl 0 56 (fun zm d9 V=>∃ (i:Nat) (a0:List Int) (po:O0) (co:Nat) (ts:List Int) (pw:O0) (cw:Nat),d9=[(0,.slice pl L.length cl),(4,S0),(5,.slice po a0.length co),(6,.slice pw ts.length cw),(7,V0 no),(22,.slice pl L.length cl),(23,V0 (L.length:Int)),(24,V0 (i:Int))]∧zm=L.length-((i:Int)).toNat∧B3 w V∧V.ownsRow w.heap.size 3 1 (.slice po a0.length co) a0.length (a0.map V0)∧Je w.heap.size V.heap.size V (.slice po a0.length co) (.slice pw ts.length cw) ts∧i≤L.length∧BelJ L fr no i a0 ts∧2*unB L a0+ts.length<f1∧ts.length≤1+a0.length) ⟨0,_,_,_,r,_,_,rfl,rfl,b3,ho,(Je.tailE e7 a9),Nat.zero_le _,i8,(by omega),(by have:=hi.wt;rw[a9,List.length_cons] at this;omega)⟩ ?_
  rintro _ _ W8 ⟨i,a0,po,co,ts,pw,cw,rfl,rfl,a2,a5,hW,j7,hj,h0,h6⟩ J8 g8 r8
  have j3:=hj.few
  have b9:=Je.at_ hW
  refine xid 6 ((i:Int)<(L.length:Int)) (fun f3=>?_) (fun f3=>?_)
  ·have d7:=Je.at_ b9
   refine xx 6 _ L.length i 3 (Sts.cell (f:=ljC) hL Xw ljE (k:=i) (i:=0) (by omega) rfl).1 ?_
   refine xlv 0 (Sts.rp (k:=i) (hL.below a2) Xw ljE (by omega) (by decide)) ?_
   refine xa 0 [V0 0,V0 0,V0 0] 81 fun h5 j9 a3=>?_
   have f9:=a3.ge a2
   refine xsv 0 a3.blk [V0 ((L.getD i ljE).1),V0 ((L.getD i ljE).2.1),V0 ((L.getD i ljE).2.2)] fun j2 b2 h3=>?_
   have g0:=(d7.below a3.below).updB b2 a3.blk (by decide)
   have a7:=Je.at_ g0
   refine xb 6 0 h3 ?_
   refine xin 4 ((L.getD i ljE).1) no (fun e6=>?_) (fun e6=>?_)
   ·have d4:=Je.at_ a7
    refine xwm 5 ((i:Int)+1) (↑(i+1):Int) ?_
    have f5:=b2.below (bln a2 a3.below) f9
    have f2:=b2.own2 (Zb a5 a3.below) a3.blk (by decide)
    exact ze 2 (g8 _ _ _ ⟨i+1,a0,po,co,ts,pw,cw,rfl,rfl,f5,f2,d4,by omega,(hj.skip (by omega) (.inl (by assumption))),h0,h6⟩ (by omega))
   have c2:=Je.at_ a7
   refine zl 11 56 (fun zm d9 V=>∃ (k:Nat),d9=[(0,.slice pl L.length cl),(4,S0),(5,.slice po a0.length co),(6,.slice pw ts.length cw),(7,V0 no),(9,P0 h5),(22,.slice pl L.length cl),(23,V0 (L.length:Int)),(24,V0 (i:Int)),(32,.slice po a0.length co),(33,V0 (a0.length:Int)),(34,V0 (k:Int))]∧zm=a0.length-((k:Int)).toNat∧V=j2∧Blk V h5 ([V0 ((L.getD i ljE).1),V0 ((L.getD i ljE).2.1),V0 ((L.getD i ljE).2.2)]) 81∧k≤a0.length∧(∀ j,j<k→a0.getD j 0≠(L.getD i ljE).2.1)) ⟨0,rfl,rfl,rfl,h3,Nat.zero_le _,?_⟩ ?_
   ·exact fun j hj=>absurd hj (by omega)
   rintro _ _ _ ⟨k,rfl,rfl,rfl,a1,hk,h7⟩ k5 g7 k2
   have a6:=Je.at_ c2
   refine xid 6 ((k:Int)<(a0.length:Int)) (fun f8=>?_) (fun f8=>?_)
   ·have e0:=Je.at_ a6
    have b0:=b2.own2 (Zb a5 a3.below) a3.blk (by decide)
    refine xx 6 _ a0.length k 1 (Ints.elem (l:=a0) (Ze b0) (k:=k) (by omega)).1 ?_
    refine xl 0 ((Ints.elem (l:=a0) (Ze b0) (k:=k) (by omega)).2) ?_
    have a8:=Je.at_ e0
    refine xb 7 1 a1 ?_
    refine xie 3 (a0.getD k 0) ((L.getD i ljE).2.1) (fun e3=>?_) (fun e3=>?_)
    ·have d1:=Je.at_ a8
     refine xwm 9 ((i:Int)+1) (↑(i+1):Int) ?_
     have e4:=b2.below (bln a2 a3.below) f9
     exact ze 2 (g8 _ _ _ ⟨i+1,a0,po,co,ts,pw,cw,rfl,rfl,e4,b0,d1,by omega,(hj.skip (by omega) (.inr (mem_getD (k:=k) (x:=(L.getD i ljE).2.1) (by omega) (by assumption)))),h0,h6⟩ (by omega))
    have g9:=Je.at_ a8
    refine xwm 4 ((k:Int)+1) (↑(k+1):Int) ?_
    exact ze 2 (g7 _ _ _ ⟨k+1,rfl,rfl,rfl,a1,by omega,(fun j hj=>by rcases Nat.lt_succ_iff_lt_or_eq.1 hj with q|q;exact h7 j q;subst q;assumption)⟩ (by omega))
   have c9:(L.getD i ljE).2.1∉a0:=fun q=>by
    obtain⟨j,hj,he⟩:=List.mem_iff_getElem.1 q
    exact h7 j (by omega) (by rw[←he];simp[List.getD,hj])
   have j6:=unB_lt (A:=a0) (B:=a0++[(L.getD i ljE).2.1]) (Zc8 (l:=L) (i:=i) (by omega)) (fun z hz=>List.mem_append_left _ hz) c9 (List.mem_append_right _ (by simp[ljE_D]))
   have c3:=Je.at_ a6
   refine xb 9 1 a1 ?_
   refine xbs 0 1 [V0 ((L.getD i ljE).2.1)] 3 fun h9 k8 b5=>?_
   have c4:=b2.below (bln a2 a3.below) f9
   have k3:=b5.ge c4
   have d6:=b2.own2 (Zb a5 a3.below) a3.blk (by decide)
   have g2:=Zr d6 b5
   have b4:=Zb d6 b5.below
   have d8:=bln c4 b5.below
   refine xbi 0 fun _ _ _ _ zJ zQ zo zx zy zK=>Vn (b:=h9) (c:=1) (m:=1) (news:=[V0 ((L.getD i ljE).2.1)]) (V0 0) 1 8 ((a0++[(L.getD i ljE).2.1]).length) (((a0++[(L.getD i ljE).2.1]).map V0)) zo Tryz.underlying35 (by kernel_rfl) rfl (by decide) zx b4 zy b5.blk rfl (by simp[Value.oneCell']) (by unfold maxLen;omega) (by omega) d8.size (by simp) (by simp) fun j5 i0 k7 h4 c0 e8 g5=>?_
   refine zK _ _ ?_
   have f6:=(c3.below b5.below).grow b4 c0 g5
   have b8:=Je.at_ f6
   have a4:=(a1.below b5.below).grown c0 b4 (by decide)
   refine xb 6 1 a4 ?_
   refine xbs 0 1 [V0 ((L.getD i ljE).2.1)] 3 fun i9 j8 b7=>?_
   have c6:=d8.trans e8
   have k1:=b7.ge c6
   have e1:=Zr h4 b7
   have e5:=b8.below b7.below
   have c5:=Zb h4 b7.below
   have d0:=bln c6 b7.below
   refine xbi 0 fun _ _ _ _ zJ zQ zo zx zy zK=>Zgp (b:=i9) (c:=1) (k:=((L.getD i ljE).2.1)) (V0 0) (ts++[(L.getD i ljE).2.1]).length zo Tryz.underlying35 (by kernel_rfl) (by kernel_rfl) zx e5 c5 zy b7.blk (by omega) d0.size (by rw[List.length_append];rfl) fun j0 j4 k9 i2 i7 h2 i5 i1 g3 c7 c1=>?_
   refine zK _ _ ?_
   have d3:=Je.at_ c1
   refine xwm 5 ((i:Int)+1) (↑(i+1):Int) ?_
   have g6:=d0.trans g3
   exact ze 2 (g8 _ _ _ ⟨i+1,(a0++[(L.getD i ljE).2.1]),_,_,(ts++[(L.getD i ljE).2.1]),_,_,rfl,rfl,g6,c7,d3,by omega,(hj.add (by omega) (by assumption) c9),(by rw[List.length_append,List.length_singleton];omega),(by simp only[List.length_append,List.length_singleton];omega)⟩ (by omega))
  refine ze 6 (i3 _ _ _ ⟨_,_,_,_,_,_,rfl,rfl,a2,a5,b9,(BelJ.end_ (by rw[←show i=L.length from by omega];exact hj) (by omega))⟩ ?_)
  refine Nat.lt_of_lt_of_eq (m:=f1) ?_ f4
  show 2*unB L a0+ts.length<f1
  omega
 have h8:ts=[]:=List.eq_nil_of_length_eq_zero (by omega)
 have h1:=Je.at_ c8
 refine xc 8 (args:=#[.slice po a0.length co]) (Za2 w.heap.size _ _ _ a0 _ b3.size rfl (by omega) ho) ?_
 rintro _ k6 ⟨q2,d2,L2,rfl,j1,i4,e2,i6⟩
 have f7:=b3.trans e2
 refine xe 4 (.slice q2 L2.length d2) ?_
 rw[h8] at hi
 exact⟨_,_,_,rfl,⟨j1,fun z=>(i4 z).trans (hi.done z)⟩,f7,i6⟩
end Go.Proofs.YtceeiinepijokaaGreat
namespace Go.Proofs.YtceeiinepijokaaGreat
set_option maxHeartbeats 8000000
set_option maxRecDepth 100000
open Go.RowKit
set_option linter.unusedVariables false
def rdPost(B:Nat)(Kp:World→World→Prop)(I:Nat→World→Prop)(Ix:Code→Nat→World→Prop)(k:Nat)(W:World):Exit→Act→World→Prop
 | .normal,_,V=>KeepsFrom B W V∧Kp W V∧I (k+1) V
 | .ret,_,V=>KeepsFrom B W V∧Ix .ret k V
 | .exit id,_,V=>KeepsFrom B W V∧Ix (.exit id) k V
 | .goto _,_,_=>False
 | .panic _,_,_=>False
 | .outgrown,_,_=>False
structure RecAt(n:Nat)(r:Loop)(W:World):Prop where
 l:W.heap[n+1]? = some (.loop r)
 d:W.heap[n]? = some (.deferred (some []))
theorem RecAt.lt{n:Nat}{r:Loop}{W:World}(h:RecAt n r W):n+1<W.heap.size:=(Array.getElem?_eq_some_iff.1 h.l).1
theorem RecAt.kept{n:Nat}{r:Loop}{A B:World}{row:Option Nat}(h:RecAt n r A)(hg:A.grownBy B row)(hr:∀ k,row=some k→k<n):RecAt n r B :=
 ⟨(hg.block _ h.lt (fun e=>by have:=hr _ e.symm;omega)).trans h.l,(hg.block _ (by have:=h.lt;omega) (fun e=>by have:=hr _ e.symm;omega)).trans h.d⟩
theorem RecAt.from{n:Nat}{r:Loop}{A B:World}(h:RecAt n r A)(k:KeepsFrom n A B):RecAt n r B:=⟨k.same _ _ (by omega) h.l rfl,k.same _ _ (Nat.le_refl _) h.d rfl⟩
theorem RecAt.put{n:Nat}{r:Loop}{A:World}(h:RecAt n r A)(r':Loop):RecAt n r' (A.putObj (n+1) (.loop r')) :=
 ⟨World.putObj_heap_same h.lt,(World.putObj_heap_other (by omega)).trans h.d⟩
def SeqB{α:Type}(P:Program)(g:Nat)(lb:Array Value)(encs:α→Array Value)(Kp:World→World→Prop)(R:List α)(w:World):Prop :=
 ∀ (l:Nat) (J Jx:Nat→World→Prop) (W:World),B3 w W →
  (∀ k A B,J k A→Below A.heap.size A B→J k B) →
  (∀ k x V,R[k]? = some x→J k V→YieldAt Fence.wide 2 P l (encs x) V fun e U =>
   (e=.returned (.bool true)∧J (k+1) U∧Kp V U)∨(e=.returned (.bool false)∧Jx k U)) →
  J 0 W →
  CallsIn Fence.wide 3 P g (#[.func (.yield l) #[] #[]]++lb) W fun e U=>(∃ v,e=.returned v)∧(J R.length U∨∃ k,k<R.length∧Jx k U)
theorem RecAt.bel{n:Nat}{r:Loop}{A B:World}(h:RecAt n r A)(k:Below A.heap.size A B):RecAt n r B:=⟨(k.block _ h.lt).trans h.l,(k.block _ (by have:=h.lt;omega)).trans h.d⟩
theorem wp_rangeD{α:Type}{P:Program}{g:Operand}{ps:Array Tmp}{assign body:Code}{Q:Exit→Act→World→Prop}{a:Act}{w:World}{gf:Nat}{lb:Array Value}
  (hg:a.eval g=.func (.func gf) #[] lb) (eg:∀ args w,(callFunc gf args).run P w=.ok (.enter gf args) w) {encs:α→Array Value} {R:List α} (p:Nat→Prop) (hp:∀ b,p b→b<w.heap.size)
  (hseq:SeqB P gf lb encs (Keeps p) R w) (hps:∀ x,(encs x).size=ps.size)
  (I:Nat→World→Prop) (Ix:Code→Nat→World→Prop) (hIb:∀ k A B,I k A→Below A.heap.size A B→I k B) (hI:∀ k A B row,I k A→A.grownBy B row→(∀ r,row=some r→w.heap.size≤r∧∃ o:Obj,A.heap[r]? = some o∧o.isCells=false)→I k B)
  (hIx:∀ c k A B row,Ix c k A→A.grownBy B row→(∀ r,row=some r→w.heap.size≤r∧∃ o:Obj,A.heap[r]? = some o∧o.isCells=false)→Ix c k B) (h0:I 0 w) (A2:α→Act→World→Prop)
  (hA2:∀ x a A B row,A2 x a A→A.grownBy B row→(∀ r,row=some r→w.heap.size≤r∧∃ o:Obj,A.heap[r]? = some o∧o.isCells=false)→A2 x a B)
  (hassign:∀ (l k:Nat) (x:α) (W:World) (K:Act→World→Prop),R[k]? = some x→I k W→(∀ a2 W2,B3 W W2→A2 x a2 W2→K a2 W2) →
   assign.wpIn (Fence.wide.inRound l) 2 P (Exit.then K (fun _ _ _=>False)) { tmps:=(ps.zip (encs x)).foldl (fun t (p,v)=>t.setIfInBounds p v) a.tmps,defers:=[] } W)
  (hbody:∀ (l k:Nat) (x:α) (a2:Act) (W:World),w.heap.size≤l→R[k]? = some x→I k W→A2 x a2 W→body.wpIn (Fence.wide.inRound l) 2 P (rdPost w.heap.size (Keeps p) I Ix k W) a2 W)
  (hdone:∀ (D:Nat) (W:World),w.heap.size≤D→I R.length W→W.heap[D]? = some (.deferred (some []))→Q .normal { a with defers:={ target:=.collected D,args:=#[] }::a.defers } W)
  (hstop:∀ (D:Nat) (c:Code) (k:Nat) (W:World),w.heap.size≤D→k<R.length→Ix c k W→W.heap[D]? = some (.deferred (some []))→c.wp P Q { a with defers:={ target:=.collected D,args:=#[] }::a.defers } W) :
  (Code.rangeFunc g ps assign body).wp P Q a w:=by
 refine(wpIn_wide (n:=4)).1 (wpIn_rangeFunc fun fn _=>?_)
 obtain⟨a4,a0⟩:∃ a4:LoopState→Option Code→Loop,a4=fun st pe=>{ state:=st,pending:=pe,fn,tmps:=a.tmps,params:=ps,assign,body,defers:=w.heap.size }:=⟨_,rfl⟩
 obtain⟨W1,b2⟩:∃ W1,(w.alloc (.deferred (some []))).alloc (.loop (a4 .ready none))=W1:=⟨_,rfl⟩
 have c4:RecAt w.heap.size (a4 .ready none) W1:=by
  rw[←b2]
  refine⟨?_,(Below.heap_alloc _ _ _ (by simp)).trans (World.alloc_heap_new w _)⟩
  have:=World.alloc_heap_new (w.alloc (.deferred (some []))) (.loop (a4 .ready none))
  rwa [World.size_alloc] at this
 have c0:I 0 W1:=by
  rw[←b2]
  exact hI _ _ _ none (hI _ _ _ none h0 (World.grownBy_alloc _ _ _) (fun _ e=>by cases e)) (World.grownBy_alloc _ _ _) (fun _ e=>by cases e)
 have b7:B3 w W1:=by
  rw[←b2];exact((Below.refl _ w).alloc (Nat.le_refl _) _).alloc (by simp) _
 refine⟨w.heap.size+1,[{ target:=.collected w.heap.size,args:=#[] }],W1,{ target:=.fn (.func gf) lb,args:=#[.func (.yield (w.heap.size+1)) #[] #[]] },W1,gf,
  #[.func (.yield (w.heap.size+1)) #[] #[]]++lb,W1,?_,?_,fun _ _=>trivial,?_,fun _=>by omega,?_⟩
 ·rw[←b2,a0];exact run_enterLoop_outer _ _ _ _ _
 ·simp only[resolve,hg]
  simp[go_sem]
 ·simp[invoke,go_sem,eg]
 refine(hseq (w.heap.size+1) (fun k W=>I k W∧RecAt w.heap.size (a4 .ready none) W) (fun k W=>∃ c,Ix c k W∧RecAt w.heap.size (a4 .done (some c)) W) W1 b7
  (fun k A B hs hb=>⟨hIb _ _ _ hs.1 hb,hs.2.bel hb⟩) ?_ ⟨c0,c4⟩).mono ?_
 ·rintro k x W hx ⟨hi,hl⟩
  have hy:=run_yield (P:=P) (args:=encs x) hl.l (by rw[a0];exact hps x)
  rw[a0] at hy
  refine⟨fn,_,assign,body,hy,roundIn_of_wpIn trivial (hassign _ k x W _ hx hi fun a2 W2 a7 c3=>⟨_,run_beginRound (hl.bel a7).l (by rw[a0]),?_⟩)⟩
  have b3:=hl.bel a7
  obtain⟨Wb,a6⟩:∃ Wb,W2.putObj (w.heap.size+1) (.loop { a4 .ready none with state:=.busy })=Wb:=⟨_,rfl⟩
  have c2:RecAt w.heap.size (a4 .busy none) Wb:=by
   have:=b3.put (a4 .busy none)
   rw[a0] at this a6
   rw[a6] at this
   rw[a0]
   exact this
  have b8:I k Wb:=by
   rw[←a6]
   exact hI _ _ _ _ (hIb _ _ _ hi a7) (grownBy_putObj' W2 _ _) (fun r e=>by cases e;exact⟨by omega,_,b3.l,rfl⟩)
  have c1:A2 x a2 Wb:=by
   rw[←a6]
   exact hA2 _ _ _ _ _ c3 (grownBy_putObj' W2 _ _) (fun r e=>by cases e;exact⟨by omega,_,b3.l,rfl⟩)
  have b9:Keeps p W Wb:=by
   have h1:Keeps p W W2:=⟨a7.size,fun b hb=>a7.block b (Nat.lt_trans (hp b hb) (by have:=hl.lt;omega))⟩
   rw[←a6]
   exact h1.trans (Zc3 hp W2 _ _ _ (by omega) b3.l rfl rfl)
  rw[a6]
  refine wpIn_mono (hbody _ k x a2 Wb (by omega) hx b8 c1) ?_
  have b4:∀ (a1:Option Code) (V:World),KeepsFrom w.heap.size Wb V→RecAt w.heap.size (a4 .busy none) V∧∃ U,U=V.putObj (w.heap.size+1) (.loop (a4 (if a1.isNone then .ready else .done) a1)) ∧
    (Instr.endRound (w.heap.size+1) a1).run P V=.ok (.bool a1.isNone) U∧RecAt w.heap.size (a4 (if a1.isNone then .ready else .done) a1) U:=fun a1 V hk=>by
   have hv:=c2.from hk
   have he:=run_endRound (P:=P) a1 hv.l
   refine⟨hv,_,rfl,?_,hv.put _⟩
   rw[a0] at he ⊢
   exact he
  have b5:∀ {V:World} {r r':Loop} {k:Nat},RecAt w.heap.size r V→I k V→I k (V.putObj (w.heap.size+1) (.loop r')):=fun hv h=>hI _ _ _ _ h (grownBy_putObj' _ _ _) (fun r e=>(by cases e;exact⟨by omega,_,hv.l,rfl⟩))
  have a9:∀ {V:World} {r r':Loop} {c:Code} {k:Nat},RecAt w.heap.size r V→Ix c k V→Ix c k (V.putObj (w.heap.size+1) (.loop r')):=fun hv h=>hIx _ _ _ _ _ h (grownBy_putObj' _ _ _) (fun r e=>by cases e;exact⟨by omega,_,hv.l,rfl⟩)
  rintro e a3 V a5
  cases e with
  | normal =>
   obtain⟨a8,b6,b1⟩:=a5
   obtain⟨hv,U,rfl,hr,b0⟩:=b4 none V a8
   exact⟨_,_,hr,.inl ⟨rfl,⟨b5 hv b1,b0⟩,(b9.trans b6).trans (Zc3 hp V _ _ _ (by omega) hv.l rfl rfl)⟩⟩
  | ret =>
   obtain⟨a8,b1⟩:=a5
   obtain⟨hv,U,rfl,hr,b0⟩:=b4 (some .ret) V a8
   exact⟨_,_,hr,.inr ⟨rfl,.ret,a9 hv b1,b0⟩⟩
  | exit id =>
   obtain⟨a8,b1⟩:=a5
   obtain⟨hv,U,rfl,hr,b0⟩:=b4 (some (.exit id)) V a8
   exact⟨_,_,hr,.inr ⟨rfl,.exit id,a9 hv b1,b0⟩⟩
  | goto t=>exact a5.elim
  | panic ch=>exact a5.elim
  | outgrown=>exact a5.elim
 ·rintro e W2 ⟨⟨v,rfl⟩,(⟨hi,hl⟩|⟨k,hk,c,hi,hl⟩)⟩
  ·have he:=run_endLoop (P:=P) hl.l (by rw[a0];simp)
   rw[show(a4 .ready none).pending=none by rw[a0]] at he
   exact⟨none,_,he,hdone _ _ (Nat.le_refl _) (hI _ _ _ _ hi (grownBy_putObj' _ _ _) (fun r e=>(by cases e;exact⟨by omega,_,hl.l,rfl⟩))) ((World.putObj_heap_other (by omega)).trans hl.d)⟩
  ·have he:=run_endLoop (P:=P) hl.l (by rw[a0];simp)
   rw[show(a4 .done (some c)).pending=some c by rw[a0]] at he
   exact⟨some c,_,he,wpIn_wide.2 (hstop _ c k _ (Nat.le_refl _) hk (hIx _ _ _ _ _ hi (grownBy_putObj' _ _ _) (fun r e=>by cases e;exact⟨by omega,_,hl.l,rfl⟩)) ((World.putObj_heap_other (by omega)).trans hl.d))⟩
end Go.Proofs.YtceeiinepijokaaGreat
namespace Go.Proofs.YtceeiinepijokaaGreat
set_option maxHeartbeats 8000000
set_option maxRecDepth 100000
open Go.RowKit Go.Extern.Stop Go.Stop Go.Extern
set_option linter.unusedVariables false
attribute [local irreducible] wpList wpAnyH Code.wp Oper.wp Go
def inZ (n lo hi:Int):Bool:=decide (lo≤n∧n≤hi)
theorem inZ_t{n lo hi:Int}:inZ n lo hi=true↔lo≤n∧n≤hi:=decide_eq_true_iff
def dvE (d:Dv)(last:Int):Int:=if inZ d.1.1 0 16777215&&(inZ d.1.2.1 0 2147483647&&(inZ d.1.2.2.1 0 16777215&&inZ d.1.2.2.2 0 16777215)) then(if d.1.1≤last then 8 else 0) else 2
def mpE (data:Int)(m:Mp)(last:Int):Int:=if inZ m.1 0 281474976710655&&(inZ m.2.1 0 (data-1)&&inZ m.2.2 0 16777215) then(if m.1≤last then 8 else 0) else 2
def Tp(data:Int):List Mp→Int→Int
 | [],_=>0
 | m::r,last=>if mpE data m last≠0 then mpE data m last else Tp data r m.1
def dvsE(data:Int):List Dv→Int→Int
 | [],_=>0
 | d::r,last=>if dvE d last≠0 then dvE d last else if Tp data d.2 (-1)≠0 then Tp data d.2 (-1) else dvsE data r d.1.1
def wsum(L:List Dv):Int:=IntKind.i64.wrap (Up L:Int)
def Hu(tx time unit data:Int)(L:List Dv):Int :=
 if(inZ tx 0 2147483647&&inZ time 0 16777215)&&(inZ unit 1 65536&&inZ data 0 65536) then(if 4096<L.length∨16384<wsum L then 2 else dvsE data L (-1)) else 2
theorem mpE_2{data:Int}{m:Mp}{last:Int}(h:(inZ m.1 0 281474976710655&&(inZ m.2.1 0 (data-1)&&inZ m.2.2 0 16777215))=false):mpE data m last=2:=if_neg (by rw[h];decide)
theorem mpE_8{data:Int}{m:Mp}{last:Int}(h:(inZ m.1 0 281474976710655&&(inZ m.2.1 0 (data-1)&&inZ m.2.2 0 16777215))=true)(h2:m.1≤last):mpE data m last=8:=(if_pos h).trans (if_pos h2)
theorem mpE_0{data:Int}{m:Mp}{last:Int}(h:(inZ m.1 0 281474976710655&&(inZ m.2.1 0 (data-1)&&inZ m.2.2 0 16777215))=true)(h2:¬ m.1≤last):mpE data m last=0:=(if_pos h).trans (if_neg h2)
theorem dvE_2{d:Dv}{last:Int}(h:(inZ d.1.1 0 16777215&&(inZ d.1.2.1 0 2147483647&&(inZ d.1.2.2.1 0 16777215&&inZ d.1.2.2.2 0 16777215)))=false):dvE d last=2:=if_neg (by rw[h];decide)
theorem dvE_8{d:Dv}{last:Int}(h:(inZ d.1.1 0 16777215&&(inZ d.1.2.1 0 2147483647&&(inZ d.1.2.2.1 0 16777215&&inZ d.1.2.2.2 0 16777215)))=true)(h2:d.1.1≤last):dvE d last=8:=(if_pos h).trans (if_pos h2)
theorem dvE_0{d:Dv}{last:Int}(h:(inZ d.1.1 0 16777215&&(inZ d.1.2.1 0 2147483647&&(inZ d.1.2.2.1 0 16777215&&inZ d.1.2.2.2 0 16777215)))=true)(h2:¬ d.1.1≤last):dvE d last=0:=(if_pos h).trans (if_neg h2)
theorem mpE_ok{data:Int}{m:Mp}{last:Int}:mpE data m last=0↔((0≤m.1∧m.1≤281474976710655)∧(0≤m.2.1∧m.2.1<data)∧0≤m.2.2∧m.2.2≤16777215)∧last<m.1:=by
 unfold mpE
 simp only[Bool.and_eq_true,inZ_t]
 split
 ·split
  ·exact⟨fun h=>absurd h (by decide),fun h=>by omega⟩
  ·exact⟨fun _=>by omega,fun _=>rfl⟩
 ·exact⟨fun h=>absurd h (by decide),fun h=>by omega⟩
theorem dvE_ok{d:Dv}{last:Int}:dvE d last=0↔((0≤d.1.1∧d.1.1≤16777215)∧(0≤d.1.2.1∧d.1.2.1≤2147483647)∧(0≤d.1.2.2.1∧d.1.2.2.1≤16777215)∧0≤d.1.2.2.2∧d.1.2.2.2≤16777215)∧last<d.1.1:=by
 unfold dvE
 simp only[Bool.and_eq_true,inZ_t]
 split
 ·split
  ·exact⟨fun h=>absurd h (by decide),fun h=>by omega⟩
  ·exact⟨fun _=>by omega,fun _=>rfl⟩
 ·exact⟨fun h=>absurd h (by decide),fun h=>by omega⟩
theorem Zce{data:Int}:∀ {M:List Mp} {last:Int},Tp data M last=0↔MapsOk data M∧∀ m∈M,last<m.1
 | [],last=>⟨fun _=>⟨.nil _,fun _ h=>by cases h⟩,fun _=>rfl⟩
 | m::r,last=>by
  have ih:=@Zce data r m.1
  show(if mpE data m last≠0 then mpE data m last else Tp data r m.1)=0↔_
  by_cases h:mpE data m last=0
  ·rw[if_neg (fun q=>q h),ih]
   have h2:=mpE_ok.1 h
   constructor
   ·rintro⟨a,b⟩
    refine⟨⟨.cons b a.rise,fun x hx=>?_⟩,fun x hx=>?_⟩
    ·rcases List.mem_cons.1 hx with rfl|hx
     ·exact h2.1
     ·exact a.each x hx
    ·rcases List.mem_cons.1 hx with rfl|hx
     ·exact h2.2
     ·have:=b x hx;omega
   ·rintro⟨a,_⟩
    obtain⟨c1,c2⟩:=List.pairwise_cons.1 a.rise
    exact⟨⟨c2,fun x hx=>a.each x (List.mem_cons_of_mem _ hx)⟩,c1⟩
  ·rw[if_pos h]
   exact⟨fun q=>absurd q h,fun q=>absurd (mpE_ok.2 ⟨q.1.each m (List.mem_cons_self ..),q.2 m (List.mem_cons_self ..)⟩) h⟩
theorem dvsE_ok{data:Int}:∀ {L:List Dv} {last:Int},dvsE data L last=0↔(L.Pairwise (fun x y=>x.1.1<y.1.1)∧∀ d∈L,DevOk data d)∧∀ d∈L,last<d.1.1
  | [],last=>⟨fun _=>⟨⟨.nil,fun _ h=>by cases h⟩,fun _ h=>by cases h⟩,fun _=>rfl⟩
  | d :: r, last => by
    have ih:=@dvsE_ok data r d.1.1
    show(if dvE d last≠0 then dvE d last else if Tp data d.2 (-1)≠0 then Tp data d.2 (-1) else dvsE data r d.1.1)=0↔_
    by_cases h:dvE d last=0
    · rw[if_neg (fun q=>q h)]
      have h2:=dvE_ok.1 h
      by_cases g:Tp data d.2 (-1)=0
      · rw[if_neg (fun q=>q g),ih]
        have g2:=Zce.1 g
        constructor
        · rintro⟨⟨a1,a2⟩,b⟩
          refine⟨⟨.cons b a1,fun x hx=>?_⟩,fun x hx=>?_⟩
          · rcases List.mem_cons.1 hx with rfl|hx
            · exact⟨h2.1.1,h2.1.2.1,h2.1.2.2.1,h2.1.2.2.2,g2.1⟩
            · exact a2 x hx
          · rcases List.mem_cons.1 hx with rfl|hx
            · exact h2.2
            · have:=b x hx;omega
        · rintro⟨⟨a1,a2⟩,_⟩
          obtain⟨c1,c2⟩:=List.pairwise_cons.1 a1
          exact⟨⟨c2,fun x hx=>a2 x (List.mem_cons_of_mem _ hx)⟩,c1⟩
      · rw[if_pos g]
        refine⟨fun q=>absurd q g,fun q=>absurd (Zce.2 ⟨(q.1.2 d (List.mem_cons_self ..)).maps,fun m hm=>?_⟩) g⟩
        have:=(q.1.2 d (List.mem_cons_self ..)).maps.each m hm;omega
    · rw[if_pos h]
      refine⟨fun q=>absurd q h,fun q=>absurd (dvE_ok.2 ⟨?_,q.2 d (List.mem_cons_self ..)⟩) h⟩
      have:=q.1.2 d (List.mem_cons_self ..)
      exact⟨this.id,this.tx,this.made,this.snap⟩
structure PoolOk(tx time unit data:Int)(L:List Dv):Prop where
 htx:0≤tx∧tx≤2147483647
 htime:0≤time∧time≤16777215
 hunit:1≤unit∧unit≤65536
 hdata:0≤data∧data≤65536
 devs:DevsOk data L
theorem rise_ge{M:List Mp}(h:M.Pairwise (fun x y=>x.1<y.1))(h0:∀ m∈M,0≤m.1):∀ i (hi:i<M.length),(i:Int)≤M[i].1
 | 0,hi=>h0 _ (List.getElem_mem hi)
 | i+1,hi=>by
  have ih:=rise_ge h h0 i (by omega)
  have:=List.pairwise_iff_getElem.1 h i (i+1) (by omega) hi (by omega)
  omega
theorem maps_few{data:Int}{M:List Mp}(h:MapsOk data M):M.length≤281474976710656:=by
 by_cases h0:M.length=0
 ·omega
 ·have h1:=rise_ge h.rise (fun m hm=>(h.each m hm).1.1) (M.length-1) (by omega)
  have h2:=(h.each _ (List.getElem_mem (show M.length-1<M.length by omega))).1.2
  omega
theorem sum_few{L:List Dv}{k:Nat}(h:∀ d∈L,d.2.length≤k):Up L≤L.length*k:=by
 induction L with
 | nil=>exact Nat.zero_le _
 | cons d r ih =>
  have h1:=h d (List.mem_cons_self ..)
  have h2:=ih fun x hx=>h x (List.mem_cons_of_mem _ hx)
  have e:Up (d::r)=d.2.length+Up r:=rfl
  rw[e,List.length_cons,Nat.add_mul];omega
theorem wsum_ok{data:Int}{L:List Dv}(hf:L.length≤4096)(h:∀ d∈L,DevOk data d):wsum L=(Up L:Int):=by
 have h1:=sum_few fun d hd=>maps_few (h d hd).maps
 have h2:L.length*281474976710656≤4096*281474976710656:=Nat.mul_le_mul_right _ hf
 exact IntWalk.i64_in _ (by omega)
theorem wrap_add(a b:Int):IntKind.i64.wrap (IntKind.i64.wrap a+b)=IntKind.i64.wrap (a+b):=by
 simp only[IntKind.wrap,IntKind.signed,IntKind.bits]
 simp
 try omega
theorem Ty{tx time unit data:Int}{L:List Dv}:Hu tx time unit data L=0↔PoolOk tx time unit data L:=by
 unfold Hu
 simp only[Bool.and_eq_true,inZ_t]
 split
 ·rename_i h
  split
  ·rename_i g
   refine⟨fun q=>absurd q (by decide),fun q=>?_⟩
   have a:=q.devs.few
   have b:=q.devs.sum
   rw[wsum_ok a q.devs.each] at g
   omega
  ·rename_i g
   rw[dvsE_ok]
   constructor
   ·rintro⟨⟨a,b⟩,_⟩
    have hw:=wsum_ok (L:=L) (by omega) b
    exact⟨h.1.1,h.1.2,h.2.1,h.2.2,by omega,by omega,a,b⟩
   ·intro q
    exact⟨⟨q.devs.rise,q.devs.each⟩,fun d hd=>by have:=(q.devs.each d hd).id;omega⟩
 ·rename_i h
  exact⟨fun q=>absurd q (by decide),fun q=>absurd ⟨⟨q.htx,q.htime⟩,q.hunit,q.hdata⟩ h⟩
theorem sumM_take{L:List Dv}{n:Nat}(h:n<L.length){x:Dv}:Up (L.take (n+1))=Up (L.take n)+(L.getD n x).2.length:=by
 unfold Up
 rw[List.take_succ_eq_append_getElem h,List.map_append,List.sum_append]
 simp[List.getD,h]
theorem Ww{data:Int}{M:List Mp}{i:Nat}{x:Mp}{last:Int}(h:i<M.length):Tp data (M.drop i) last=if mpE data (M.getD i x) last≠0 then mpE data (M.getD i x) last else Tp data (M.drop (i+1)) (M.getD i x).1:=by
 rw[List.drop_eq_getElem_cons h,show M.getD i x=M[i] from by simp[List.getD,h]];rfl
theorem mpsE_end{data:Int}{M:List Mp}{i:Nat}{last:Int}(h:M.length≤i):Tp data (M.drop i) last=0:=by
 rw[List.drop_eq_nil_of_le h];rfl
theorem dvsE_drop{data:Int}{L:List Dv}{i:Nat}{x:Dv}{last:Int}(h:i<L.length):dvsE data (L.drop i) last=if dvE (L.getD i x) last≠0 then dvE (L.getD i x) last else if Tp data (L.getD i x).2 (-1)≠0 then Tp data (L.getD i x).2 (-1) else dvsE data (L.drop (i+1)) (L.getD i x).1.1:=by
 rw[List.drop_eq_getElem_cons h,show L.getD i x=L[i] from by simp[List.getD,h]];rfl
theorem dvsE_end{data:Int}{L:List Dv}{i:Nat}{last:Int}(h:L.length≤i):dvsE data (L.drop i) last=0:=by
 rw[List.drop_eq_nil_of_le h];rfl
abbrev Zv:=Dv×O0×Nat
def zvD:Zv:=(((0,0,0,0),[]),none,0)
def devZ(z:Zv):List Value:=[V0 z.1.1.1,V0 z.1.1.2.1,V0 z.1.1.2.2.1,V0 z.1.1.2.2.2,.slice z.2.1 z.1.2.length z.2.2]
theorem Pt(z:Zv):(devZ z).length=5:=rfl
structure DevsR(w:World)(p:Option Addr)(c:Nat)(Z:List Zv):Prop where
 row:Sts devZ w (.slice p Z.length c) Z
 each:∀ i,i<Z.length→Sts mapC w (.slice (Z.getD i zvD).2.1 (Z.getD i zvD).1.2.length (Z.getD i zvD).2.2) (Z.getD i zvD).1.2
theorem DevsR.below{w W:World}{p:O0}{c:Nat}{Z:List Zv}(h:DevsR w p c Z)(hb:B3 w W):DevsR W p c Z:=⟨h.row.below hb,fun i hi=>(h.each i hi).below hb⟩
theorem DevsR.rowN{w:World}{p:O0}{c n:Nat}{Z:List Zv}(h:DevsR w p c Z)(hn:Z.length=n):Sl w (.slice p n c) n (Z.flatMap devZ):=by subst hn;exact h.row
theorem DevsR.someN{w:World}{p:O0}{c n i:Nat}{Z:List Zv}(h:DevsR w p c Z)(hn:Z.length=n)(hi:i<n):p.isSome=true:=by subst hn;exact(Sts.cell h.row Pt zvD (k:=i) (i:=0) hi rfl).1
end Go.Proofs.YtceeiinepijokaaGreat
