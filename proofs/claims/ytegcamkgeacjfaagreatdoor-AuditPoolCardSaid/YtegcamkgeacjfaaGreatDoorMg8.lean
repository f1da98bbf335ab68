/- The document's answer for the layers 6 and 11: Read, Super. -/
import Derived.Lib.SmallJoins
import Derived.Test.YtegcamkgeacjfaaGreatDoorMg7
namespace Go.Proofs.YtegcamkgeacjfaaGreatDoor
set_option maxHeartbeats 8000000
set_option maxRecDepth 100000
open Go.RowKit Go.Extern.Stop Go.Stop Go.Extern
set_option linter.unusedVariables false
attribute [local irreducible] wpList wpAnyH Code.wp Oper.wp Go
theorem Tv(l:Bl)(d:Nat):∀ (w k:Nat),Zl (l.drop d) k w=Zl l (d+k) w
 | 0,k=>rfl
 | w+1,k=>by
  rw[Zl,Zl,Tv l d w (k+1)]
  simp[List.getD,Nat.add_assoc]
theorem unpL_lt(l:Bl)(k:Nat)(ws:List Nat)(h:∀ x∈ws,x≤4)(i:Nat)(hi:i<ws.length):(Km l k ws).getD i 0<9223372036854775808:=by
 rw[Wa l ws k i hi]
 have:=Yl l (k+(ws.take i).sum) (ws.getD i 0) (h _ (by simp[List.getD,hi]))
 omega
def Ka(l:Bl):List Nat:=[Zl l 8 4,Zl l 12 4,Zl l 16 4,Zl l 20 4,Zl l 24 4,Zl l 28 4,Zl l 32 4,Zl l 36 4,Zl l 40 4,Zl l 44 4,Zl l 48 4,Zl l 52 4]
theorem sup12_eq(l:Bl):Km (l.drop 8) 0 [4,4,4,4,4,4,4,4,4,4,4,4]=Ka l:=by
 simp[Km,Tv,Ka]
theorem bysD{w:World}{a:O0}{c:Nat}{l:Bl}(h:Bys w (.slice a 244 c) l)(hl:l.length=244):Bys w (.slice (Qu a 8 c 1) (244-8) (c-8)) (l.drop 8):=by
 have:=Bys.cut h hl 8 244 (by decide) (by decide)
 rwa [List.take_of_length_le (by simp;omega)] at this
theorem bysE{w:World}{a:O0}{c:Nat}{l:Bl}(h:Bys w (.slice a 244 c) l)(hl:l.length=244):Bys w (.slice (Qu a 56 c 1) (244-56) (c-56)) (l.drop 56):=by
 have:=Bys.cut h hl 56 244 (by decide) (by decide)
 rwa [List.take_of_length_le (by simp;omega)] at this
theorem Zdc(a:O0)(c:Nat)(l:Bl)(w:World)(hl:l.length=244)(h:Bys w (.slice a 244 c) l) :
 C0 107 #[.slice a 244 c] w (SupP l w):=by
 have d5:=Bys.cap h hl
 refine zin 75 Tryz.func107 ?_
 refine xa 2 [V0 0,V0 0,V0 0,V0 0,V0 0,V0 0,V0 0,V0 0,V0 0,V0 0,V0 0] 44 fun b1 W1 n1=>?_
 refine xsH 11 (fun _ _ _ _ zo zx zy V=>Qo (k:=8) (b:=a) (n:=244) (c:=c) (i:=8) (ki:=.i64) zo zx zy rfl (by omega) Tryz.underlying40 (by kernel_rfl) V) ?_
 refine xcv0 0 (fun _ _ _ zo zx=>Kc zo zx ((Bys.take h hl 8 (by decide)).below n1.below) (by simp;omega) Tryz.underlying40 Tryz.underlying5 Tryz.underlying9) ?_
 refine xi 4 (!((⟨(l.take 8).toArray⟩:ByteArray).toList==(⟨#[83,67,65,78,84,76,73,78]⟩:ByteArray).toList)) (fun b3=>?_) (fun b3=>?_)
 ·have d1:(l.take 8==Gm)=false:=by rw[←Ue];exact Lr b3
  refine xsv 3 n1.blk [V0 0,V0 0,V0 0,V0 0,V0 0,V0 0,V0 0,V0 0,V0 0,V0 0,V0 0] fun W3 u3 k3=>?_
  have g1:=n1.ge (B1 w)
  have b5:=u3.below n1.below g1
  exact xec 5 k3 (.tuple #[.agg #[V0 0,V0 0,V0 0,V0 0,V0 0,V0 0,V0 0,V0 0,V0 0,V0 0,V0 0],V0 7]) (.inl ⟨by unfold Sr;simp_all,rfl,b5⟩)
 have d1:(l.take 8==Gm)=true:=by rw[←Ue];exact Lm b3
 refine xsL 5 (fun _ _ _ _ zo zx zy V=>Qi (k:=8) (b:=a) (n:=244) (c:=c) (i:=8) (ki:=.i64) 1 zo zx zy rfl (by omega) Tryz.underlying40 (by kernel_rfl) V) ?_
 refine xbs 0 12 [V0 4,V0 4,V0 4,V0 4,V0 4,V0 4,V0 4,V0 4,V0 4,V0 4,V0 4,V0 4] 3 fun b4 W4 n4=>?_
 have g4:=n4.ge n1.below
 have b0:=bln n1.below n4.below
 refine xc 0 (args:=#[.slice (Qu a 8 c 1) (244-8) (c-8),.slice (S1 b4) 12 12]) (Cr (Qu a 8 c 1) (244-8) (c-8) (l.drop 8) (S1 b4) 12 12 [4,4,4,4,4,4,4,4,4,4,4,4] (Ka l) _ (by simp;omega) rfl (sup12_eq l) (by decide) (by decide) (by decide) (by decide) ((bysD h hl).below b0) (n4.blk.sl 12 12 (by decide) (by decide)) (unpL_lt _ _ _ (by decide))) ?_
 rintro _ W5 ⟨_,rfl,c7,p5,c5,rfl,h5⟩
 have d8:=(bln n1.below n4.below).size
 refine xd 8 (.t w.heap.size [44]) ?_
 have a0:=Zb (Zg h5 d8) (Za W5)
 refine xx (.e [0] 1) _ 12 1 1 (Zr (l:=Ka l) (Zh a0) rfl (k:=1) (by decide)).1 ?_
 refine xlt (.e [] 2) (.t w.heap.size [44]) (fun V hV=>(Zr (l:=Ka l) (Zh (Zn a0 hV.2 (by decide))) rfl (k:=1) (by decide)).2) ?_
 refine xx (.e [3] 4) _ 12 2 1 (Zr (l:=Ka l) (Zh a0) rfl (k:=2) (by decide)).1 ?_
 refine xlt (.e [] 5) (.t w.heap.size [44]) (fun V hV=>(Zr (l:=Ka l) (Zh (Zn a0 hV.2 (by decide))) rfl (k:=2) (by decide)).2) ?_
 refine xx (.e [6] 7) _ 12 3 1 (Zr (l:=Ka l) (Zh a0) rfl (k:=3) (by decide)).1 ?_
 refine xlt (.e [] 8) (.t w.heap.size [44]) (fun V hV=>(Zr (l:=Ka l) (Zh (Zn a0 hV.2 (by decide))) rfl (k:=3) (by decide)).2) ?_
 refine xx (.e [9] 10) _ 12 4 1 (Zr (l:=Ka l) (Zh a0) rfl (k:=4) (by decide)).1 ?_
 refine xlt (.e [] 11) (.t w.heap.size [44]) (fun V hV=>(Zr (l:=Ka l) (Zh (Zn a0 hV.2 (by decide))) rfl (k:=4) (by decide)).2) ?_
 refine xx (.e [12] 13) _ 12 5 1 (Zr (l:=Ka l) (Zh a0) rfl (k:=5) (by decide)).1 ?_
 refine xlt (.e [] 14) (.t w.heap.size [44]) (fun V hV=>(Zr (l:=Ka l) (Zh (Zn a0 hV.2 (by decide))) rfl (k:=5) (by decide)).2) ?_
 refine xx (.e [15] 16) _ 12 6 1 (Zr (l:=Ka l) (Zh a0) rfl (k:=6) (by decide)).1 ?_
 refine xlt (.e [] 17) (.t w.heap.size [44]) (fun V hV=>(Zr (l:=Ka l) (Zh (Zn a0 hV.2 (by decide))) rfl (k:=6) (by decide)).2) ?_
 refine xx (.e [18] 19) _ 12 7 1 (Zr (l:=Ka l) (Zh a0) rfl (k:=7) (by decide)).1 ?_
 refine xlt (.e [] 20) (.t w.heap.size [44]) (fun V hV=>(Zr (l:=Ka l) (Zh (Zn a0 hV.2 (by decide))) rfl (k:=7) (by decide)).2) ?_
 refine xx (.e [21] 22) _ 12 8 1 (Zr (l:=Ka l) (Zh a0) rfl (k:=8) (by decide)).1 ?_
 refine xlt (.e [] 23) (.t w.heap.size [44]) (fun V hV=>(Zr (l:=Ka l) (Zh (Zn a0 hV.2 (by decide))) rfl (k:=8) (by decide)).2) ?_
 refine xx (.e [24] 25) _ 12 9 1 (Zr (l:=Ka l) (Zh a0) rfl (k:=9) (by decide)).1 ?_
 refine xlt (.e [] 26) (.t w.heap.size [44]) (fun V hV=>(Zr (l:=Ka l) (Zh (Zn a0 hV.2 (by decide))) rfl (k:=9) (by decide)).2) ?_
 refine xx (.e [27] 28) _ 12 10 1 (Zr (l:=Ka l) (Zh a0) rfl (k:=10) (by decide)).1 ?_
 refine xlt (.e [] 29) (.t w.heap.size [44]) (fun V hV=>(Zr (l:=Ka l) (Zh (Zn a0 hV.2 (by decide))) rfl (k:=10) (by decide)).2) ?_
 refine xx (.e [30] 31) _ 12 11 1 (Zr (l:=Ka l) (Zh a0) rfl (k:=11) (by decide)).1 ?_
 refine xlt (.e [] 32) (.t w.heap.size [44]) (fun V hV=>(Zr (l:=Ka l) (Zh (Zn a0 hV.2 (by decide))) rfl (k:=11) (by decide)).2) ?_
 refine xa (.o [33] 34) [V0 0,V0 0,V0 0,V0 0,V0 0,V0 0,V0 0,V0 0,V0 0,V0 0,V0 0] 44 fun b6 W6 n6=>?_
 have k1:=((n1.blk.below n4.below).below c7).below (Za W5)
 have a2:=n6.ne k1
 have a6:=bln (bln b0 c7) (Za W5)
 have g6:=n6.ge a6
 refine ysv (.o [] 35) n6.blk [V0 (↑(Zl l 12 4):Int),V0 (↑(Zl l 16 4):Int),V0 (↑(Zl l 20 4):Int),V0 (↑(Zl l 24 4):Int),V0 (↑(Zl l 28 4):Int),V0 (↑(Zl l 32 4):Int),V0 (↑(Zl l 36 4):Int),V0 (↑(Zl l 40 4):Int),V0 (↑(Zl l 44 4):Int),V0 (↑(Zl l 48 4):Int),V0 (↑(Zl l 52 4):Int)] (.t w.heap.size [44]) fun W7 u7 k7=>⟨(Zp u7 n6.blk g6 (by decide)),?_⟩
 have b2:=u7.own2 (Zb a0 n6.below) n6.blk (by decide)
 refine xx 6 _ 12 0 1 (Zr (l:=Ka l) (Zh b2) rfl (k:=0) (by decide)).1 ?_
 refine xl 0 ((Zr (l:=Ka l) (Zh b2) rfl (k:=0) (by decide)).2) ?_
 refine xg 2 [61,62] ((↑(Zl l 8 4):Int) != (1:Int)) (fun a8=>?_) (fun a8=>?_)
 ·have a8:=Qk a8
  have c9:decide (Zl l 8 4=1)=false:=decide_eq_false (by omega)
  have c2:=u7.blk (k1.below n6.below) (Ne.symm (Ne.symm a2))
  refine xsv 16 c2 [V0 0,V0 0,V0 0,V0 0,V0 0,V0 0,V0 0,V0 0,V0 0,V0 0,V0 0] fun W9 u9 k9=>?_
  have g1:=n1.ge (B1 w)
  have c0:=u9.below (u7.below (bln a6 n6.below) g6) g1
  exact xec 5 k9 (.tuple #[.agg #[V0 0,V0 0,V0 0,V0 0,V0 0,V0 0,V0 0,V0 0,V0 0,V0 0,V0 0],V0 7]) (.inl ⟨by unfold Sr;simp_all,rfl,c0⟩)
 have a8:=Xn a8
 have c9:decide (Zl l 8 4=1)=true:=decide_eq_true (by omega)
 refine xsL 1 (fun _ _ _ _ zo zx zy V=>Qi (k:=56) (b:=a) (n:=244) (c:=c) (i:=56) (ki:=.i64) 1 zo zx zy rfl (by omega) Tryz.underlying40 (by kernel_rfl) V) ?_
 have a4:=u7.below (bln a6 n6.below) g6
 refine xr 0 (args:=#[.slice (Qu a 56 c 1) (244-56) (c-56)]) (Ug (Qu a 56 c 1) (244-56) (c-56) (l.drop 56) _ (by simp;omega) (by decide) ((bysE h hl).below a4)) fun e4 a1=>?_
 refine xg 3 [66,67,68] (!(Qv (l.drop 56))) (fun a7=>?_) (fun a7=>?_)
 ·have d0:Qv (l.drop 56)=false:=Lr a7
  have c4:=(u7.blk (k1.below n6.below) (Ne.symm (Ne.symm a2))).below a1
  refine xsv 10 c4 [V0 0,V0 0,V0 0,V0 0,V0 0,V0 0,V0 0,V0 0,V0 0,V0 0,V0 0] fun e3 d9 d7=>?_
  have g1:=n1.ge (B1 w)
  have c3:=d9.below (bln a4 a1) g1
  exact xec 5 d7 (.tuple #[.agg #[V0 0,V0 0,V0 0,V0 0,V0 0,V0 0,V0 0,V0 0,V0 0,V0 0,V0 0],V0 7]) (.inl ⟨by unfold Sr;simp_all,rfl,c3⟩)
 have d0:Qv (l.drop 56)=true:=Lm a7
 have a9:=k7.below a1
 refine xlv 0 a9.rp ?_
 refine xr 0 (args:=#[.agg #[V0 (↑(Zl l 12 4):Int),V0 (↑(Zl l 16 4):Int),V0 (↑(Zl l 20 4):Int),V0 (↑(Zl l 24 4):Int),V0 (↑(Zl l 28 4):Int),V0 (↑(Zl l 32 4):Int),V0 (↑(Zl l 36 4):Int),V0 (↑(Zl l 40 4):Int),V0 (↑(Zl l 44 4):Int),V0 (↑(Zl l 48 4):Int),V0 (↑(Zl l 52 4):Int)]]) (Za9 (Zi l) _ (Sg l).1 (Sg l).2) fun e1 a3=>?_
 refine xi 4 (!(Yb (Zi l))) (fun a5=>?_) (fun a5=>?_)
 ·have c8:Yb (Zi l)=false:=Lr a5
  have b7:=((u7.blk (k1.below n6.below) (Ne.symm (Ne.symm a2))).below a1).below a3
  refine xsv 3 b7 [V0 0,V0 0,V0 0,V0 0,V0 0,V0 0,V0 0,V0 0,V0 0,V0 0,V0 0] fun e0 d4 d3=>?_
  have g1:=n1.ge (B1 w)
  have b8:=d4.below (bln (bln a4 a1) a3) g1
  exact xec 5 d3 (.tuple #[.agg #[V0 0,V0 0,V0 0,V0 0,V0 0,V0 0,V0 0,V0 0,V0 0,V0 0,V0 0],V0 7]) (.inl ⟨by unfold Sr;simp_all,rfl,b8⟩)
 have c8:Yb (Zi l)=true:=Lm a5
 have c1:=a9.below a3
 refine xlv 4 c1.rp ?_
 have b9:=((u7.blk (k1.below n6.below) (Ne.symm (Ne.symm a2))).below a1).below a3
 refine xsv 0 b9 [V0 (↑(Zl l 12 4):Int),V0 (↑(Zl l 16 4):Int),V0 (↑(Zl l 20 4):Int),V0 (↑(Zl l 24 4):Int),V0 (↑(Zl l 28 4):Int),V0 (↑(Zl l 32 4):Int),V0 (↑(Zl l 36 4):Int),V0 (↑(Zl l 40 4):Int),V0 (↑(Zl l 44 4):Int),V0 (↑(Zl l 48 4):Int),V0 (↑(Zl l 52 4):Int)] fun e2 d2 d6=>?_
 have g1:=n1.ge (B1 w)
 have c6:=d2.below (bln (bln a4 a1) a3) g1
 exact xec 4 d6 (.tuple #[.agg #[V0 (↑(Zl l 12 4):Int),V0 (↑(Zl l 16 4):Int),V0 (↑(Zl l 20 4):Int),V0 (↑(Zl l 24 4):Int),V0 (↑(Zl l 28 4):Int),V0 (↑(Zl l 32 4):Int),V0 (↑(Zl l 36 4):Int),V0 (↑(Zl l 40 4):Int),V0 (↑(Zl l 44 4):Int),V0 (↑(Zl l 48 4):Int),V0 (↑(Zl l 52 4):Int)],V0 0]) (.inr ⟨by unfold Sr;rw[d1,c9,d0,c8];rfl,rfl,c6⟩)
def RBlkSupP(l:Bl)(w:World)(e:Ending)(w':World):Prop :=
 (Xi l≠0∧∃ a c,e=.returned (.tuple #[.agg #[V0 0,V0 0,V0 0,V0 0,V0 0,V0 0,V0 0,V0 0,V0 0,V0 0,V0 0],.agg #[.slice a 1 c,V0 (Xi l)]])∧B0 w w'∧w'.ownsRow w.heap.size 3 1 (.slice a 1 c) 1 [V0 0]) ∨
 (Xi l=0∧e=.returned (.tuple #[.agg #[V0 ((Zi (inB l 0)).tx),V0 ((Zi (inB l 0)).time),V0 ((Zi (inB l 0)).unit),V0 ((Zi (inB l 0)).data),V0 ((Zi (inB l 0)).blocks),V0 ((Zi (inB l 0)).top),V0 ((Zi (inB l 0)).details),V0 ((Zi (inB l 0)).dslots),V0 ((Zi (inB l 0)).dover),V0 ((Zi (inB l 0)).mindex),V0 ((Zi (inB l 0)).mover)],.agg #[S0,V0 0]])∧B0 w w')
theorem Zap(B bm:Nat)(p:O0)(k c:Nat)(l:Bl)(w:World)(hI:RefI B bm p k c l w) :
 C0 47 #[P0 bm] w (RBlkSupP l w):=by
 have f5:=hI.blk
 have e6:l.length/256=k:=by rw[hI.hl];omega
 refine zin 40 Tryz.func47 ?_
 refine xa 2 [V0 0,V0 0,V0 0,V0 0,V0 0,V0 0,V0 0,V0 0,V0 0,V0 0,V0 0] 44 fun b1 W1 n1=>?_
 refine xa 0 [S0,V0 0] 35 fun b2 W2 n2=>?_
 have hB:=bln n1.below n2.below
 refine xc 5 (args:=#[P0 bm,V0 0,V0 1]) (Zcn B bm p k c l _ (hI.below hB) 0 1) ?_
 rintro e W3 f9
 rcases f9 with ⟨a9,rfl,a1⟩|⟨a9,e8,p3,c3,rfl,a1,h3⟩
 ·refine xk 14 (show(((inE l 1 0) != (0:Int)):Bool)=true from bne_iff_ne.2 a9) ?_
  refine xc 4 (args:=#[V0 0,V0 (inE l 1 0)]) (Qc 0 (inE l 1 0) _ a9) ?_
  rintro _ W4 ⟨_,rfl,e5,a5,c5,rfl,c6⟩
  have f7:=(bln hB a1).size
  have k1:=((n1.blk.below n2.below).below a1).below e5
  refine xsv 0 k1 [V0 0,V0 0,V0 0,V0 0,V0 0,V0 0,V0 0,V0 0,V0 0,V0 0,V0 0] fun W5 u5 k5=>?_
  have g1:=n1.ge (B1 w)
  have k2:=u5.blkT ((n2.blk.below a1).below e5) k1 (by decide)
  refine xsv 0 k2 [.slice a5 1 c5,V0 (inE l 1 0)] fun W6 u6 k6=>?_
  have g2:=n2.ge n1.below
  have d2:=u6.below (u5.below (bln (bln hB a1) e5) g1) g2
  have b9:=u6.own2 (u5.own2 (Zg c6 f7) k1 (by decide)) k2 (by decide)
  have d5:=u6.blkT k5 k2 (by decide)
  refine Ex 4 [(b1,[V0 0,V0 0,V0 0,V0 0,V0 0,V0 0,V0 0,V0 0,V0 0,V0 0,V0 0]),(b2,[.slice a5 1 c5,V0 (inE l 1 0)])] ⟨⟨_,d5⟩,⟨_,k6⟩,trivial⟩ (.tuple #[.agg #[V0 0,V0 0,V0 0,V0 0,V0 0,V0 0,V0 0,V0 0,V0 0,V0 0,V0 0],.agg #[.slice a5 1 c5,V0 (inE l 1 0)]]) ?_
  have he:Xi l=(inE l 1 0):=by unfold Xi;rw[if_neg a9]
  exact .inl ⟨by rw[he];exact a9,_,_,by rw[he],d2,b9⟩
 have f6:=(bln n1.below n2.below).size
 have e4:=Zg h3 f6
 refine xc 20 (args:=#[.slice p3 244 c3]) (Zdc p3 c3 (inB l 0) _ e8 (Gp (Zh e4) e8)) ?_
 rintro e W7 g3
 rcases g3 with ⟨d0,rfl,a4⟩|⟨d0,rfl,a4⟩
 ·refine xa 3 [V0 0,V0 0,V0 0,V0 0,V0 0,V0 0,V0 0,V0 0,V0 0,V0 0,V0 0] 44 fun b8 W8 n8=>?_
  have k1:=((n1.blk.below n2.below).below a1).below a4
  have c7:=n8.ne k1
  have b5:=bln (bln hB a1) a4
  have g8:=n8.ge b5
  refine xsv 0 n8.blk [V0 0,V0 0,V0 0,V0 0,V0 0,V0 0,V0 0,V0 0,V0 0,V0 0,V0 0] fun W9 u9 k9=>?_
  refine xc 15 (args:=#[V0 0,V0 7]) (Qc 0 7 _ (by decide)) ?_
  rintro _ h5 ⟨_,rfl,b0,a5,c5,rfl,c6⟩
  have d1:=(u9.below (bln b5 n8.below) g8).size
  have b4:=(u9.blk (k1.below n8.below) (Ne.symm (Ne.symm c7))).below b0
  refine xsv 0 b4 [V0 0,V0 0,V0 0,V0 0,V0 0,V0 0,V0 0,V0 0,V0 0,V0 0,V0 0] fun g6 d9 f1=>?_
  have g1:=n1.ge (B1 w)
  have k2:=d9.blkT ((u9.blkT (((n2.blk.below a1).below a4).below n8.below) n8.blk (by decide)).below b0) b4 (by decide)
  refine xsv 0 k2 [.slice a5 1 c5,V0 7] fun h4 e3 f8=>?_
  have g2:=n2.ge n1.below
  have d6:=e3.below (d9.below (bln (u9.below (bln b5 n8.below) g8) b0) g1) g2
  have c2:=e3.own2 (d9.own2 (Zg c6 d1) b4 (by decide)) k2 (by decide)
  have c9:=e3.blkT f1 k2 (by decide)
  refine Ex 4 [(b1,[V0 0,V0 0,V0 0,V0 0,V0 0,V0 0,V0 0,V0 0,V0 0,V0 0,V0 0]),(b2,[.slice a5 1 c5,V0 7])] ⟨⟨_,c9⟩,⟨_,f8⟩,trivial⟩ (.tuple #[.agg #[V0 0,V0 0,V0 0,V0 0,V0 0,V0 0,V0 0,V0 0,V0 0,V0 0,V0 0],.agg #[.slice a5 1 c5,V0 7]]) ?_
  have he:Xi l=7:=by unfold Xi Hx;rw[if_pos a9,d0,if_neg (by decide)]
  exact .inl ⟨by rw[he];decide,_,_,by rw[he],d6,c2⟩
 refine xa 3 [V0 0,V0 0,V0 0,V0 0,V0 0,V0 0,V0 0,V0 0,V0 0,V0 0,V0 0] 44 fun g5 g7 a0=>?_
 have k1:=((n1.blk.below n2.below).below a1).below a4
 have a2:=a0.ne k1
 have a6:=bln (bln hB a1) a4
 have d8:=a0.ge a6
 refine xsv 0 a0.blk [V0 ((Zi (inB l 0)).tx),V0 ((Zi (inB l 0)).time),V0 ((Zi (inB l 0)).unit),V0 ((Zi (inB l 0)).data),V0 ((Zi (inB l 0)).blocks),V0 ((Zi (inB l 0)).top),V0 ((Zi (inB l 0)).details),V0 ((Zi (inB l 0)).dslots),V0 ((Zi (inB l 0)).dover),V0 ((Zi (inB l 0)).mindex),V0 ((Zi (inB l 0)).mover)] fun a3 a7 g0=>?_
 refine xd 15 .z ?_
 have a8:=g0.below (Za a3)
 refine xb (.e [0] 1) 4 a8 ?_
 have c8:=(a7.blkT (((((f5.below n1.below).below n2.below).below a1).below a4).below a0.below) a0.blk (by decide)).below (Za a3)
 refine xb (.e [2,3,4] 5) 0 c8 ?_
 refine xid (.r [6,7] 2) ((Zi (inB l 0)).blocks>(k:Int)) (fun d7=>?_) (fun d7=>?_)
 ·refine xc 3 (args:=#[V0 0,V0 2]) (Qc 0 2 _ (by decide)) ?_
  rintro _ g9 ⟨_,rfl,b3,a5,c5,rfl,c6⟩
  have e0:=(bln (a7.below (bln a6 a0.below) d8) (Za a3)).size
  have b6:=((a7.blk (k1.below a0.below) (Ne.symm (Ne.symm a2))).below (Za a3)).below b3
  refine xsv 0 b6 [V0 0,V0 0,V0 0,V0 0,V0 0,V0 0,V0 0,V0 0,V0 0,V0 0,V0 0] fun h2 e2 f0=>?_
  have g1:=n1.ge (B1 w)
  have k2:=e2.blkT (((a7.blkT (((n2.blk.below a1).below a4).below a0.below) a0.blk (by decide)).below (Za a3)).below b3) b6 (by decide)
  refine xsv 0 k2 [.slice a5 1 c5,V0 2] fun g4 d3 f3=>?_
  have g2:=n2.ge n1.below
  have d4:=d3.below (e2.below (bln (bln (a7.below (bln a6 a0.below) d8) (Za a3)) b3) g1) g2
  have c4:=d3.own2 (e2.own2 (Zg c6 e0) b6 (by decide)) k2 (by decide)
  have c1:=d3.blkT f0 k2 (by decide)
  refine Ex 4 [(b1,[V0 0,V0 0,V0 0,V0 0,V0 0,V0 0,V0 0,V0 0,V0 0,V0 0,V0 0]),(b2,[.slice a5 1 c5,V0 2])] ⟨⟨_,c1⟩,⟨_,f3⟩,trivial⟩ (.tuple #[.agg #[V0 0,V0 0,V0 0,V0 0,V0 0,V0 0,V0 0,V0 0,V0 0,V0 0,V0 0],.agg #[.slice a5 1 c5,V0 2]]) ?_
  have he:Xi l=2:=by unfold Xi Hx;rw[if_pos a9,if_pos d0,e6,if_pos (by omega)]
  exact .inl ⟨by rw[he];decide,_,_,by rw[he],d4,c4⟩
 refine xlv 4 a8.rp ?_
 have c0:=(a7.blk (k1.below a0.below) (Ne.symm (Ne.symm a2))).below (Za a3)
 refine xsv 1 c0 [V0 ((Zi (inB l 0)).tx),V0 ((Zi (inB l 0)).time),V0 ((Zi (inB l 0)).unit),V0 ((Zi (inB l 0)).data),V0 ((Zi (inB l 0)).blocks),V0 ((Zi (inB l 0)).top),V0 ((Zi (inB l 0)).details),V0 ((Zi (inB l 0)).dslots),V0 ((Zi (inB l 0)).dover),V0 ((Zi (inB l 0)).mindex),V0 ((Zi (inB l 0)).mover)] fun h1 e7 f2=>?_
 have g1:=n1.ge (B1 w)
 have k2:=e7.blkT ((a7.blkT (((n2.blk.below a1).below a4).below a0.below) a0.blk (by decide)).below (Za a3)) c0 (by decide)
 refine xsv 0 k2 [S0,V0 0] fun h0 e9 f4=>?_
 have g2:=n2.ge n1.below
 have e1:=e9.below (e7.below (bln (a7.below (bln a6 a0.below) d8) (Za a3)) g1) g2
 have b7:=e9.blkT f2 k2 (by decide)
 exact Ex 3 [(b1,[V0 ((Zi (inB l 0)).tx),V0 ((Zi (inB l 0)).time),V0 ((Zi (inB l 0)).unit),V0 ((Zi (inB l 0)).data),V0 ((Zi (inB l 0)).blocks),V0 ((Zi (inB l 0)).top),V0 ((Zi (inB l 0)).details),V0 ((Zi (inB l 0)).dslots),V0 ((Zi (inB l 0)).dover),V0 ((Zi (inB l 0)).mindex),V0 ((Zi (inB l 0)).mover)]),(b2,[S0,V0 0])] ⟨⟨_,b7⟩,⟨_,f4⟩,trivial⟩ (.tuple #[.agg #[V0 ((Zi (inB l 0)).tx),V0 ((Zi (inB l 0)).time),V0 ((Zi (inB l 0)).unit),V0 ((Zi (inB l 0)).data),V0 ((Zi (inB l 0)).blocks),V0 ((Zi (inB l 0)).top),V0 ((Zi (inB l 0)).details),V0 ((Zi (inB l 0)).dslots),V0 ((Zi (inB l 0)).dover),V0 ((Zi (inB l 0)).mindex),V0 ((Zi (inB l 0)).mover)],.agg #[S0,V0 0]]) (.inr ⟨by unfold Xi Hx;rw[if_pos a9,if_pos d0,e6,if_neg (by omega)],rfl,e1⟩)
theorem To{a:Act}{o:Oper}{p q:Operand}(x:Sup)(ho:o.op=.binOp .eql 44 p q 44)(hx:a.eval p=.agg (supC x).toArray)(hy:a.eval q=.agg (supC x).toArray)(V:World) :
 (execOp a.eval o).run Tryz.prog V=.ok (.value (.bool true)) V:=by
 have h1:=Tryz.underlying44
 have h2:=Tryz.underlying3
 have h4:Tryz.prog.stoodInHeld 44=false:=by kernel_rfl
 have hb:(binOp .eql 44 (.agg (supC x).toArray) (.agg (supC x).toArray)).run Tryz.prog V=.ok (.bool true) V:=by
  obtain⟨x0,x1,x2,x3,x4,x5,x6,x7,x8,x9,a0⟩:=x
  simp[go_sem,Program.fieldsOf,h1,h2,h4,Op.eqFields,supC]
 have hg:=run_eqGuard_agg (P:=Tryz.prog) (w:=V) .eql 44 p q (supC x).toArray (supC x).toArray (by kernel_rfl)
 simp only[execOp,ho,hx,hy,Sem.run_bind,hg,Result.andThen_ok,hb]
 rfl
theorem Bz(O:List Int×Int×List Dv)(p q:O0)(c d n:Nat)(t u v x:Int)(Z Y:List Zv)(w:World)(hn:O.2.2.length=n)(hP:Wg O w p c Z)(hQ:Wg O w q d Y) :
 C0 22 #[.agg #[V0 t,V0 u,V0 v,V0 x,.slice p n c],.agg #[V0 t,V0 u,V0 v,V0 x,.slice q n d]] w (Ret (.bool true) w) :=
 Zdy p q c d n t u v x Z Y w (hP.1.trans hn) (hQ.1.trans hn) (fun i hi=>dq_fst hP hQ i (by rw[hn];exact hi)) hP.read hQ.read
def Zb8(l:Bl):List Dg:=if Xi l=0 then [] else [((1:Int),Kr [0],Xi l)]
def Gq(l:Bl):Sup:=if Xi l=0 then Zi (inB l 0) else⟨0,0,0,0,0,0,0,0,0,0,0⟩
def Si(l:Bl)(w:World)(e:Ending)(w':World):Prop :=
 ∃ q d,e=.returned (.tuple #[.agg #[V0 (Gq l).tx,V0 (Gq l).time,V0 (Gq l).unit,V0 (Gq l).data,V0 (Gq l).blocks,V0 (Gq l).top,V0 (Gq l).details,V0 (Gq l).dslots,V0 (Gq l).dover,V0 (Gq l).mindex,V0 (Gq l).mover],.slice q (Zb8 l).length d])∧B0 w w'∧w'.ownsRow w.heap.size 100 3 (.slice q (Zb8 l).length d) (Zb8 l).length ((Zb8 l).flatMap dmc)
theorem sup_bad{l:Bl}{w W:World}{q:O0}{d:Nat}(h:Xi l≠0)(hb:B0 w W)(ho:W.ownsRow w.heap.size 100 3 (.slice q 1 d) 1 [V0 1,V0 (Kr [0]),V0 (Xi l)]):Si l w (.returned (.tuple #[.agg #[V0 0,V0 0,V0 0,V0 0,V0 0,V0 0,V0 0,V0 0,V0 0,V0 0,V0 0],.slice q 1 d])) W:=by
 refine⟨q,d,?_,hb,?_⟩
 ·unfold Zb8 Gq;rw[if_neg h,if_neg h];rfl
 ·unfold Zb8;rw[if_neg h];exact ho
theorem sup_ok{l:Bl}{w W:World}(h:Xi l=0)(hb:B0 w W):Si l w (.returned (.tuple #[.agg #[V0 ((Zi (inB l 0))).tx,V0 ((Zi (inB l 0))).time,V0 ((Zi (inB l 0))).unit,V0 ((Zi (inB l 0))).data,V0 ((Zi (inB l 0))).blocks,V0 ((Zi (inB l 0))).top,V0 ((Zi (inB l 0))).details,V0 ((Zi (inB l 0))).dslots,V0 ((Zi (inB l 0))).dover,V0 ((Zi (inB l 0))).mindex,V0 ((Zi (inB l 0))).mover],S0])) W:=by
 refine⟨none,0,?_,hb,?_⟩
 ·unfold Zb8 Gq;rw[if_pos h,if_pos h];rfl
 ·unfold Zb8;rw[if_pos h];exact World.ownsRow_nil _ _ _ _
theorem Zat(Bi b:Nat)(pi:O0)(ni ci:Nat)(l:Bl)(w:World)(hI:ImgR Bi b pi ni ci l w)(hg:Sm w) :
 C0 17 #[P0 b] w (Si l w):=by
 refine zin 18 Tryz.func17 ?_
 refine xa 2 [V0 0,V0 0,V0 0,V0 0,V0 0,V0 0,V0 0,V0 0,V0 0,V0 0,V0 0] 44 fun b1 W1 n1=>?_
 refine xc 6 (args:=#[P0 b]) (Za1 Bi b pi ni ci l _ (hI.below n1.below)) ?_
 rintro e W2 b9
 rcases b9 with ⟨b0,bs,rfl,a0,b7⟩|⟨b0,rfl,a0⟩
 ·refine xa 3 [V0 0,V0 0,V0 0,V0 0,V0 0,V0 0,V0 0,V0 0,V0 0,V0 0,V0 0] 44 fun b3 W3 n3=>?_
  have k1:=n1.blk.below a0
  have a1:=n3.ne k1
  have a2:=bln n1.below a0
  have g3:=n3.ge a2
  refine xsv 0 n3.blk [V0 0,V0 0,V0 0,V0 0,V0 0,V0 0,V0 0,V0 0,V0 0,V0 0,V0 0] fun W4 u4 k4=>?_
  have a7:=(b7.below n3.below).only (Ze.of_upd (T:=[44]) u4 n3.blk (by decide)) (by decide)
  have a5:=u4.below (bln a2 n3.below) g3
  refine xr 15 (args:=#[V0 1,.iface 185 (P0 bs)]) (Cm 1 (Xi l) [0] _ _ (by decide) (hg.below a5) a7) fun W5 b5=>?_
  refine xbs 0 1 [V0 1,V0 (Kr [0]),V0 (Xi l)] 100 fun b6 W6 n6=>?_
  have a3:=bln a5 b5
  have g6:=n6.ge a3
  have a4:=((u4.blk (k1.below n3.below) (Ne.symm (Ne.symm a1))).below b5).below n6.below
  refine xsv 0 a4 [V0 0,V0 0,V0 0,V0 0,V0 0,V0 0,V0 0,V0 0,V0 0,V0 0,V0 0] fun W7 u7 k7=>?_
  have g1:=n1.ge (B1 w)
  have k6:=u7.blkT n6.blk a4 (by decide)
  have a9:=u7.below (bln a3 n6.below) g1
  exact xec 5 k7 (.tuple #[.agg #[V0 0,V0 0,V0 0,V0 0,V0 0,V0 0,V0 0,V0 0,V0 0,V0 0,V0 0],.slice (S1 b6) 1 1]) (sup_bad b0 a9 (Xc (size:=3) (n:=1) k6 g6 rfl (by decide)))
 refine xa 3 [V0 0,V0 0,V0 0,V0 0,V0 0,V0 0,V0 0,V0 0,V0 0,V0 0,V0 0] 44 fun b8 W8 n8=>?_
 have k1:=n1.blk.below a0
 have a6:=n8.ne k1
 have a8:=bln n1.below a0
 have g8:=n8.ge a8
 refine xsv 0 n8.blk [V0 (((Zi (inB l 0))).tx),V0 (((Zi (inB l 0))).time),V0 (((Zi (inB l 0))).unit),V0 (((Zi (inB l 0))).data),V0 (((Zi (inB l 0))).blocks),V0 (((Zi (inB l 0))).top),V0 (((Zi (inB l 0))).details),V0 (((Zi (inB l 0))).dslots),V0 (((Zi (inB l 0))).dover),V0 (((Zi (inB l 0))).mindex),V0 (((Zi (inB l 0))).mover)] fun W9 u9 k9=>?_
 refine xlv 15 k9.rp ?_
 have b4:=u9.blk (k1.below n8.below) (Ne.symm (Ne.symm a6))
 refine xsv 0 b4 [V0 (((Zi (inB l 0))).tx),V0 (((Zi (inB l 0))).time),V0 (((Zi (inB l 0))).unit),V0 (((Zi (inB l 0))).data),V0 (((Zi (inB l 0))).blocks),V0 (((Zi (inB l 0))).top),V0 (((Zi (inB l 0))).details),V0 (((Zi (inB l 0))).dslots),V0 (((Zi (inB l 0))).dover),V0 (((Zi (inB l 0))).mindex),V0 (((Zi (inB l 0))).mover)] fun c2 c1 c0=>?_
 have g1:=n1.ge (B1 w)
 have b2:=c1.below (u9.below (bln a8 n8.below) g8) g1
 exact xec 4 c0 (.tuple #[.agg #[V0 (((Zi (inB l 0))).tx),V0 (((Zi (inB l 0))).time),V0 (((Zi (inB l 0))).unit),V0 (((Zi (inB l 0))).data),V0 (((Zi (inB l 0))).blocks),V0 (((Zi (inB l 0))).top),V0 (((Zi (inB l 0))).details),V0 (((Zi (inB l 0))).dslots),V0 (((Zi (inB l 0))).dover),V0 (((Zi (inB l 0))).mindex),V0 (((Zi (inB l 0))).mover)],S0]) (sup_ok b0 b2)
theorem Zar(B bm:Nat)(p:O0)(k c:Nat)(l:Bl)(w:World)(hI:RefI B bm p k c l w) :
 C0 18 #[P0 bm] w (Si l w):=by
 refine zin 19 Tryz.func18 ?_
 refine xa 2 [V0 0,V0 0,V0 0,V0 0,V0 0,V0 0,V0 0,V0 0,V0 0,V0 0,V0 0] 44 fun b1 W1 n1=>?_
 refine xc 6 (args:=#[P0 bm]) (Zap B bm p k c l _ (hI.below n1.below)) ?_
 rintro e W2 d1
 rcases d1 with ⟨b7,a9,d9,rfl,a1,c7⟩|⟨b7,rfl,a1⟩
 ·refine xa 3 [V0 0,V0 0,V0 0,V0 0,V0 0,V0 0,V0 0,V0 0,V0 0,V0 0,V0 0] 44 fun b3 W3 n3=>?_
  have k1:=n1.blk.below a1
  have a2:=n3.ne k1
  have a6:=bln n1.below a1
  have g3:=n3.ge a6
  refine xa 0 [S0,V0 0] 35 fun b4 W4 n4=>?_
  have b0:=bln a6 n3.below
  have g4:=n4.ge b0
  have k3:=n3.blk.below n4.below
  refine xsv 0 k3 [V0 0,V0 0,V0 0,V0 0,V0 0,V0 0,V0 0,V0 0,V0 0,V0 0,V0 0] fun W5 u5 k5=>?_
  have k4:=u5.blkT n4.blk k3 (by decide)
  refine xsv 0 k4 [.slice a9 1 d9,V0 (Xi l)] fun W6 u6 k6=>?_
  refine xb 6 1 k6 ?_
  refine xk 3 (show(((Xi l) != (0:Int)):Bool)=true from bne_iff_ne.2 b7) ?_
  refine xlv 3 k6.rp ?_
  have a4:=u6.own2 (u5.own2 (Zb (Zb (Zg c7 n1.below.size) n3.below) n4.below) k3 (by decide)) k4 (by decide)
  refine xr 0 (args:=#[V0 1,.agg #[.slice a9 1 d9,V0 (Xi l)]]) (Tc 1 (Xi l) [0] a9 d9 _ (Zh a4)) fun W7 c5=>?_
  refine xbs 0 1 [V0 1,V0 (Kr [0]),V0 (Xi l)] 100 fun b8 W8 n8=>?_
  have a7:=bln (u6.below (u5.below (bln b0 n4.below) g3) g4) c5
  have g8:=n8.ge a7
  have a8:=((u6.blkT (u5.blk ((k1.below n3.below).below n4.below) (Ne.symm (Ne.symm a2))) k4 (by decide)).below c5).below n8.below
  refine xsv 0 a8 [V0 0,V0 0,V0 0,V0 0,V0 0,V0 0,V0 0,V0 0,V0 0,V0 0,V0 0] fun W9 u9 k9=>?_
  have g1:=n1.ge (B1 w)
  have k8:=u9.blkT n8.blk a8 (by decide)
  have c2:=u9.below (bln a7 n8.below) g1
  exact xec 5 k9 (.tuple #[.agg #[V0 0,V0 0,V0 0,V0 0,V0 0,V0 0,V0 0,V0 0,V0 0,V0 0,V0 0],.slice (S1 b8) 1 1]) (sup_bad b7 c2 (Xc (size:=3) (n:=1) k8 g8 rfl (by decide)))
 refine xa 3 [V0 0,V0 0,V0 0,V0 0,V0 0,V0 0,V0 0,V0 0,V0 0,V0 0,V0 0] 44 fun d7 e1 a3=>?_
 have k1:=n1.blk.below a1
 have a0:=a3.ne k1
 have b6:=bln n1.below a1
 have c8:=a3.ge b6
 refine xa 0 [S0,V0 0] 35 fun e2 d6 a5=>?_
 have b2:=bln b6 a3.below
 have d2:=a5.ge b2
 have c6:=a3.blk.below a5.below
 refine xsv 0 c6 [V0 (((Zi (inB l 0))).tx),V0 (((Zi (inB l 0))).time),V0 (((Zi (inB l 0))).unit),V0 (((Zi (inB l 0))).data),V0 (((Zi (inB l 0))).blocks),V0 (((Zi (inB l 0))).top),V0 (((Zi (inB l 0))).details),V0 (((Zi (inB l 0))).dslots),V0 (((Zi (inB l 0))).dover),V0 (((Zi (inB l 0))).mindex),V0 (((Zi (inB l 0))).mover)] fun e0 c4 d0=>?_
 have b9:=c4.blkT a5.blk c6 (by decide)
 refine xsv 0 b9 [S0,V0 0] fun d8 c0 d3=>?_
 refine xb 6 1 d3 ?_
 have b5:=c0.blkT d0 b9 (by decide)
 refine xlv 8 b5.rp ?_
 have c3:=c0.blkT (c4.blk ((k1.below a3.below).below a5.below) (Ne.symm (Ne.symm a0))) b9 (by decide)
 refine xsv 0 c3 [V0 (((Zi (inB l 0))).tx),V0 (((Zi (inB l 0))).time),V0 (((Zi (inB l 0))).unit),V0 (((Zi (inB l 0))).data),V0 (((Zi (inB l 0))).blocks),V0 (((Zi (inB l 0))).top),V0 (((Zi (inB l 0))).details),V0 (((Zi (inB l 0))).dslots),V0 (((Zi (inB l 0))).dover),V0 (((Zi (inB l 0))).mindex),V0 (((Zi (inB l 0))).mover)] fun d5 c9 d4=>?_
 have g1:=n1.ge (B1 w)
 have c1:=c9.below (c0.below (c4.below (bln b2 a5.below) c8) d2) g1
 exact xec 4 d4 (.tuple #[.agg #[V0 (((Zi (inB l 0))).tx),V0 (((Zi (inB l 0))).time),V0 (((Zi (inB l 0))).unit),V0 (((Zi (inB l 0))).data),V0 (((Zi (inB l 0))).blocks),V0 (((Zi (inB l 0))).top),V0 (((Zi (inB l 0))).details),V0 (((Zi (inB l 0))).dslots),V0 (((Zi (inB l 0))).dover),V0 (((Zi (inB l 0))).mindex),V0 (((Zi (inB l 0))).mover)],S0]) (sup_ok b7 c1)
theorem audP_B{O:List Dg×List Dv}{s:Sup}{f:FuncId}{args:Array Value}{w:World}(h:O.1≠[])(hc:C0 f args w (Ut O s w)):C0 f args w (Ko (fun w' r=>∃ q d,r=.tuple #[.agg #[V0 0,V0 0,V0 0,V0 0,S0],.slice q O.1.length d]∧w'.ownsRow w.heap.size 100 3 (.slice q O.1.length d) O.1.length (O.1.flatMap dmc)) w):=hc.mono (by
 rintro e W q
 rcases q with ⟨_,a,c,rfl,hb,ho⟩|⟨h2,_⟩
 ·exact⟨_,rfl,hb,a,c,rfl,ho⟩
 ·exact absurd h2 h)
theorem audP_G{O:List Dg×List Dv}{s:Sup}{f:FuncId}{args:Array Value}{w:World}(h:O.1=[])(hc:C0 f args w (Ut O s w)):C0 f args w (Ko (fun w' r=>∃ p c Z,r=.tuple #[.agg #[V0 s.tx,V0 s.time,V0 s.unit,V0 s.data,.slice p O.2.length c],S0]∧Wg ([],0,O.2) w' p c Z) w):=hc.mono (by
 rintro e W q
 rcases q with ⟨h2,_⟩|⟨_,p,c,Z,rfl,hb,hD⟩
 ·exact absurd h h2
 ·exact⟨_,rfl,hb,p,c,Z,rfl,hD⟩)
theorem Gc(D:List Dg)(a b:O0)(ca cb n:Nat)(w:World)(hn:D.length=n)(ha:Sts dmc w (.slice a D.length ca) D)(hb:Sts dmc w (.slice b D.length cb) D):C0 21 #[.slice a n ca,.slice b n cb] w (Ret (.bool true) w):=by
 subst hn;exact By a b ca cb D w ha hb
theorem Sk(a:O0)(c:Nat)(l:Bl)(s:Sup)(fuel:Int)(w:World)(h:Bys w (.slice a l.length c) l)(hg:Sm w) :
 C0 4 #[.slice a l.length c,.agg #[V0 s.tx,V0 s.time,V0 s.unit,V0 s.data,V0 s.blocks,V0 s.top,V0 s.details,V0 s.dslots,V0 s.dover,V0 s.mindex,V0 s.mover],V0 fuel] w (Ret (.bool true) w):=by
 have h5:=h.cap rfl
 obtain⟨f2,k0,m3⟩:∃ x,(if(200:Int)<fuel then(200:Int) else fuel)=x∧x≤200:=⟨_,rfl,by split<;>omega⟩
 refine zin 72 Tryz.func4 ?_
 refine xa 2 [V0 s.tx,V0 s.time,V0 s.unit,V0 s.data,V0 s.blocks,V0 s.top,V0 s.details,V0 s.dslots,V0 s.dover,V0 s.mindex,V0 s.mover] 44 fun b1 W1 n1=>?_
 refine xid 11 ((l.length:Int)>(12000:Int)) (fun k5=>?_) (fun k5=>?_)
 ·refine xr 2 (args:=#[]) (Za4 _ (hg.below n1.below)) fun W3 k2=>?_
  have h7:=bln n1.below k2
  exact xe 5 (.bool true) ⟨rfl,h7⟩
 refine xq 5 (congrArg V0 (show(if(200:Int)<fuel then(200:Int) else fuel:Int)=f2 from k0)) ?_
 refine xc 6 (args:=#[.slice a l.length c]) (Zfv a c l.length ((l.length/256)*256) l _ rfl (by omega) (h.below n1.below) (by omega) h5) ?_
 rintro _ W4 ⟨_,rfl,i8,bi,pi,ci,rfl,_,hI⟩
 have d0:=bln n1.below i8
 refine xc 1 (args:=#[.slice a l.length c]) (ref_OfM a c l.length (l.length/256) l _ rfl (by omega) (h.below d0) (by omega)) ?_
 rintro _ W5 ⟨_,rfl,g6,bj,pj,cj,rfl,_,hJ⟩
 have f4:=hI.below g6
 have f3:=bln d0 g6
 refine xc 7 (args:=#[P0 bi]) (Zat _ bi pi _ ci (l.take ((l.length/256)*256)) _ f4 (hg.below f3)) ?_
 rintro _ W6 ⟨q1,d1,rfl,g5,j0⟩
 have j1:=(bln d0 g6).size
 refine xa 3 [V0 0,V0 0,V0 0,V0 0,V0 0,V0 0,V0 0,V0 0,V0 0,V0 0,V0 0] 44 fun b7 W7 n7=>?_
 have k1:=((n1.blk.below i8).below g6).below g5
 have g4:=n7.ne k1
 have d9:=bln f3 g5
 have g7:=n7.ge d9
 refine xsv 0 n7.blk [V0 (((Gq (l.take ((l.length/256)*256)))).tx),V0 (((Gq (l.take ((l.length/256)*256)))).time),V0 (((Gq (l.take ((l.length/256)*256)))).unit),V0 (((Gq (l.take ((l.length/256)*256)))).data),V0 (((Gq (l.take ((l.length/256)*256)))).blocks),V0 (((Gq (l.take ((l.length/256)*256)))).top),V0 (((Gq (l.take ((l.length/256)*256)))).details),V0 (((Gq (l.take ((l.length/256)*256)))).dslots),V0 (((Gq (l.take ((l.length/256)*256)))).dover),V0 (((Gq (l.take ((l.length/256)*256)))).mindex),V0 (((Gq (l.take ((l.length/256)*256)))).mover)] fun W8 u8 k8=>?_
 have e1:=((hJ.below g5).below n7.below).only (Ze.of_upd (T:=[44]) u8 n7.blk (by decide)) (by decide)
 refine xc 6 (args:=#[P0 bj]) (Zar _ bj pj _ cj (l.take ((l.length/256)*256)) _ e1) ?_
 rintro _ W9 ⟨q2,d2,rfl,c1,i7⟩
 have i9:=(u8.below (bln d9 n7.below) g7).size
 refine xa 3 [V0 0,V0 0,V0 0,V0 0,V0 0,V0 0,V0 0,V0 0,V0 0,V0 0,V0 0] 44 fun n0 n8 a1=>?_
 have f9:=(u8.blk (k1.below n7.below) (Ne.symm (Ne.symm g4))).below c1
 have c6:=a1.ne f9
 have d8:=k8.below c1
 have b0:=a1.ne d8
 have d5:=bln (u8.below (bln d9 n7.below) g7) c1
 have j3:=a1.ge d5
 refine xsv 0 a1.blk [V0 (((Gq (l.take ((l.length/256)*256)))).tx),V0 (((Gq (l.take ((l.length/256)*256)))).time),V0 (((Gq (l.take ((l.length/256)*256)))).unit),V0 (((Gq (l.take ((l.length/256)*256)))).data),V0 (((Gq (l.take ((l.length/256)*256)))).blocks),V0 (((Gq (l.take ((l.length/256)*256)))).top),V0 (((Gq (l.take ((l.length/256)*256)))).details),V0 (((Gq (l.take ((l.length/256)*256)))).dslots),V0 (((Gq (l.take ((l.length/256)*256)))).dover),V0 (((Gq (l.take ((l.length/256)*256)))).mindex),V0 (((Gq (l.take ((l.length/256)*256)))).mover)] fun m1 a8 i6=>?_
 have e0:=a8.blk (f9.below a1.below) (Ne.symm (Ne.symm c6))
 refine xlv 6 e0.rp ?_
 have i1:=(((((f4.below g5).below n7.below).only (Ze.of_upd (T:=[44]) u8 n7.blk (by decide)) (by decide)).below c1).below a1.below).only (Ze.of_upd (T:=[44]) a8 a1.blk (by decide)) (by decide)
 have d7:=a8.below (bln d5 a1.below) j3
 refine xc 1 (args:=#[P0 bi,.agg #[V0 s.tx,V0 s.time,V0 s.unit,V0 s.data,V0 s.blocks,V0 s.top,V0 s.details,V0 s.dslots,V0 s.dover,V0 s.mindex,V0 s.mover],V0 f2]) (Zd4 _ bi pi _ ci (l.take ((l.length/256)*256)) s f2 _ i1 (by omega) (hg.below d7)) ?_
 rintro e l5 i5
 rcases i5 with ⟨h4,q3,d3,rfl,a0,j8⟩|⟨h4,p9,c9,Z9,rfl,a0,j6⟩
 ·have g9:=(a8.below (bln d5 a1.below) j3).size
  refine xa 3 [V0 0,V0 0,V0 0,V0 0,S0] 24 fun m8 m2 a2=>?_
  have c7:=bln d7 a0
  have j2:=a2.ge c7
  refine xsv 0 a2.blk [V0 0,V0 0,V0 0,V0 0,S0] fun l1 b5 k7=>?_
  have i0:=b5.blkT ((e0.below a0).below a2.below) a2.blk (by decide)
  refine xlv 6 i0.rp ?_
  have h9:=(((((e1.below c1).below a1.below).only (Ze.of_upd (T:=[44]) a8 a1.blk (by decide)) (by decide)).below a0).below a2.below).only (Ze.of_upd (T:=[24]) b5 a2.blk (by decide)) (by decide)
  refine xc 1 (args:=#[P0 bj,.agg #[V0 s.tx,V0 s.time,V0 s.unit,V0 s.data,V0 s.blocks,V0 s.top,V0 s.details,V0 s.dslots,V0 s.dover,V0 s.mindex,V0 s.mover],V0 f2]) (audP_B h4 (Fl _ bj pj _ cj (l.take ((l.length/256)*256)) s f2 _ h9 (by omega))) ?_
  rintro _ m9 ⟨_,rfl,a6,q4,d4,rfl,k4⟩
  have i3:=(b5.below (bln c7 a2.below) j2).size
  refine xa 3 [V0 0,V0 0,V0 0,V0 0,S0] 24 fun l7 l3 a4=>?_
  have b9:=k7.below a6
  have b3:=a4.ne b9
  have f0:=bln (b5.below (bln c7 a2.below) j2) a6
  have j9:=a4.ge f0
  refine xsv 0 a4.blk [V0 0,V0 0,V0 0,V0 0,S0] fun m4 c3 k6=>?_
  have i4:=c3.blkT (((b5.blkT (((a8.blk (d8.below a1.below) (Ne.symm (Ne.symm b0))).below a0).below a2.below) a2.blk (by decide)).below a6).below a4.below) a4.blk (by decide)
  refine xlv 5 i4.rp ?_
  have f5:=c3.blkT (((b5.blkT ((i6.below a0).below a2.below) a2.blk (by decide)).below a6).below a4.below) a4.blk (by decide)
  refine xlv 0 f5.rp ?_
  refine xbo 0 (t:=44) (t2:=44) (fun _ _ _ _ zo zx zy V hV=>To (Gq (l.take ((l.length/256)*256))) zo zx zy V) ?_
  have g0:=c3.own2 (Zb (Zb (b5.own2 (Zb (Zb (a8.own2 (Zb (Zb (u8.own2 (Zb (Zg j0 j1) n7.below) n7.blk (by decide)) c1) a1.below) a1.blk (by decide)) a0) a2.below) a2.blk (by decide)) a6) a4.below) a4.blk (by decide)
  have e4:=c3.own2 (Zb (Zb (b5.own2 (Zb (Zb (a8.own2 (Zb (Zg i7 i9) a1.below) a1.blk (by decide)) a0) a2.below) a2.blk (by decide)) a6) a4.below) a4.blk (by decide)
  refine xr 3 (args:=#[.slice q1 ((Zb8 (l.take ((l.length/256)*256))).length) d1,.slice q2 ((Zb8 (l.take ((l.length/256)*256))).length) d2]) (Gc (Zb8 (l.take ((l.length/256)*256))) q1 q2 d1 d2 _ _ rfl (Zh g0) (Zh e4)) fun m7 b2=>?_
  have e3:=(c3.blk (b9.below a4.below) (Ne.symm (Ne.symm b3))).below b2
  refine xlv 2 e3.rp ?_
  have f1:=k6.below b2
  refine xlv 0 f1.rp ?_
  refine xr 0 (args:=#[.agg #[V0 0,V0 0,V0 0,V0 0,S0],.agg #[V0 0,V0 0,V0 0,V0 0,S0]]) (Bz ([],0,[]) none none 0 0 0 0 0 0 0 [] [] _ rfl (Tn _ rfl) (Tn _ rfl)) fun n4 d6=>?_
  have f8:=Zb (Zb (c3.own2 (Zb (Zb (b5.own2 (Zb (Zg j8 g9) a2.below) a2.blk (by decide)) a6) a4.below) a4.blk (by decide)) b2) d6
  have e8:=Zb (Zb (c3.own2 (Zb (Zg k4 i3) a4.below) a4.blk (by decide)) b2) d6
  refine xr 4 (args:=#[.slice q3 ((audX (l.take ((l.length/256)*256)) s f2).1.length) d3,.slice q4 ((audX (l.take ((l.length/256)*256)) s f2).1.length) d4]) (Gc (audX (l.take ((l.length/256)*256)) s f2).1 q3 q4 d3 d4 _ _ rfl (Zh f8) (Zh e8)) fun n3 g8=>?_
  have e9:=bln (bln (bln (c3.below (bln f0 a4.below) j9) b2) d6) g8
  refine xr 2 (args:=#[]) (Za4 _ (hg.below e9)) fun l0 h6=>?_
  have e5:=bln e9 h6
  exact xe 5 (.bool true) ⟨rfl,e5⟩
 refine xa 3 [V0 0,V0 0,V0 0,V0 0,S0] 24 fun m6 n2 a5=>?_
 have c2:=bln d7 a0
 have k9:=a5.ge c2
 refine xsv 0 a5.blk [V0 s.tx,V0 s.time,V0 s.unit,V0 s.data,.slice p9 ((audX (l.take ((l.length/256)*256)) s f2).2.length) c9] fun m5 c4 j5=>?_
 have h1:=c4.blkT ((e0.below a0).below a5.below) a5.blk (by decide)
 refine xlv 6 h1.rp ?_
 have h3:=(((((e1.below c1).below a1.below).only (Ze.of_upd (T:=[44]) a8 a1.blk (by decide)) (by decide)).below a0).below a5.below).only (Ze.of_upd (T:=[24]) c4 a5.blk (by decide)) (by decide)
 refine xc 1 (args:=#[P0 bj,.agg #[V0 s.tx,V0 s.time,V0 s.unit,V0 s.data,V0 s.blocks,V0 s.top,V0 s.details,V0 s.dslots,V0 s.dover,V0 s.mindex,V0 s.mover],V0 f2]) (audP_G h4 (Fl _ bj pj _ cj (l.take ((l.length/256)*256)) s f2 _ h3 (by omega))) ?_
 rintro _ l4 ⟨_,rfl,a7,p8,c8,Z8,rfl,j4⟩
 refine xa 3 [V0 0,V0 0,V0 0,V0 0,S0] 24 fun n5 m0 a3=>?_
 have b6:=j5.below a7
 have b4:=a3.ne b6
 have c5:=bln (c4.below (bln c2 a5.below) k9) a7
 have k3:=a3.ge c5
 refine xsv 0 a3.blk [V0 s.tx,V0 s.time,V0 s.unit,V0 s.data,.slice p8 ((audX (l.take ((l.length/256)*256)) s f2).2.length) c8] fun n6 c0 j7=>?_
 have h8:=c0.blkT (((c4.blkT (((a8.blk (d8.below a1.below) (Ne.symm (Ne.symm b0))).below a0).below a5.below) a5.blk (by decide)).below a7).below a3.below) a3.blk (by decide)
 refine xlv 5 h8.rp ?_
 have e6:=c0.blkT (((c4.blkT ((i6.below a0).below a5.below) a5.blk (by decide)).below a7).below a3.below) a3.blk (by decide)
 refine xlv 0 e6.rp ?_
 refine xbo 0 (t:=44) (t2:=44) (fun _ _ _ _ zo zx zy V hV=>To (Gq (l.take ((l.length/256)*256))) zo zx zy V) ?_
 have g3:=c0.own2 (Zb (Zb (c4.own2 (Zb (Zb (a8.own2 (Zb (Zb (u8.own2 (Zb (Zg j0 j1) n7.below) n7.blk (by decide)) c1) a1.below) a1.blk (by decide)) a0) a5.below) a5.blk (by decide)) a7) a3.below) a3.blk (by decide)
 have f6:=c0.own2 (Zb (Zb (c4.own2 (Zb (Zb (a8.own2 (Zb (Zg i7 i9) a1.below) a1.blk (by decide)) a0) a5.below) a5.blk (by decide)) a7) a3.below) a3.blk (by decide)
 refine xr 3 (args:=#[.slice q1 ((Zb8 (l.take ((l.length/256)*256))).length) d1,.slice q2 ((Zb8 (l.take ((l.length/256)*256))).length) d2]) (Gc (Zb8 (l.take ((l.length/256)*256))) q1 q2 d1 d2 _ _ rfl (Zh g3) (Zh f6)) fun l8 a9=>?_
 have g1:=(c0.blk (b6.below a3.below) (Ne.symm (Ne.symm b4))).below a9
 refine xlv 2 g1.rp ?_
 have e7:=j7.below a9
 refine xlv 0 e7.rp ?_
 have f7:=(((((j6.below a5.below).only (Ze.of_upd (T:=[24]) c4 a5.blk (by decide)) (by decide)).below a7).below a3.below).only (Ze.of_upd (T:=[24]) c0 a3.blk (by decide)) (by decide)).below a9
 have e2:=((j4.below a3.below).only (Ze.of_upd (T:=[24]) c0 a3.blk (by decide)) (by decide)).below a9
 refine xr 0 (args:=#[.agg #[V0 s.tx,V0 s.time,V0 s.unit,V0 s.data,.slice p9 ((audX (l.take ((l.length/256)*256)) s f2).2.length) c9],.agg #[V0 s.tx,V0 s.time,V0 s.unit,V0 s.data,.slice p8 ((audX (l.take ((l.length/256)*256)) s f2).2.length) c8]]) (Bz ([],0,(audX (l.take ((l.length/256)*256)) s f2).2) p9 p8 c9 c8 _ s.tx s.time s.unit s.data Z9 Z8 _ rfl f7 e2) fun l2 h2=>?_
 refine xr 4 (args:=#[S0,S0]) (Gc [] none none 0 0 0 _ rfl (Zh (World.ownsRow_nil _ 0 100 3)) (Zh (World.ownsRow_nil _ 0 100 3))) fun l9 i2=>?_
 have b8:=bln (bln (bln (c0.below (bln c5 a3.below) k3) a9) h2) i2
 refine xr 2 (args:=#[]) (Za4 _ (hg.below b8)) fun l6 h0=>?_
 have g2:=bln b8 h0
 exact xe 5 (.bool true) ⟨rfl,g2⟩
end Go.Proofs.YtegcamkgeacjfaaGreatDoor
namespace Go.Proofs.YtegcamkgeacjfaaGreatDoor
set_option maxHeartbeats 8000000
set_option maxRecDepth 100000
open Go.ChangeShapes Go.WideShapes Go.ChangeAt Go.RowKit Go.Joins
set_option linter.unusedVariables false
theorem Ze6{H:Type}{enc:TypeId×Value→H}{P:Program}{W:World}{r:Reach}{b0:Nat}{t e:TypeId}{v:Value}{d:DataW H}{p:List MemPlace}(ht:P.underlying t=some (.slice e))(he:P.underlying e=some (.int .u8))(hC:P.cellsOf e=1)
 (hv:Value.okWide P W r b0 t v) (h:DataW.Trod enc P W 0 (fun _=>true) true t v d p):∃ l,Bys W v l:=by
 obtain⟨a,a3,a7,rfl⟩:=okWide_slice ht hv
 obtain⟨b1,hf⟩:=h
 rcases open_ints ht he hC hf with ⟨a1,_⟩|⟨x,l,c,zs,a1,_,hl,hm,hz,_,a0,b2⟩
 ·simp[Value.cells] at a1
  obtain⟨rfl,rfl,rfl⟩:=a1
  exact⟨[],.inl ⟨_,_,rfl,rfl,rfl⟩⟩
 ·simp[Value.cells] at a1
  obtain⟨rfl,rfl,rfl⟩:=a1
  have b3:zs.length=a7:=by simpa using hz
  by_cases h0:a3=0
  ·subst h0
   exact⟨[],.inl ⟨_,_,rfl,rfl,rfl⟩⟩
  ·obtain⟨b,a9,a5⟩:=x
   have hc:=a0 0 (by omega)
   have a2:a5=none:=by simpa [Addr.add] using World.cell?_spot hc
   subst a2
   have a4:((zs.take a3).map fun n=>UInt8.ofNat n.toNat).length=a3:=by simp;omega
   refine⟨(zs.take a3).map fun n=>UInt8.ofNat n.toNat,.inr ⟨b,a9,a7,by rw[a4],by omega,hm,fun j x hj=>?_⟩⟩
   have a8:j<a3:=by have:=(List.getElem?_eq_some_iff.1 hj).1;simp at this;omega
   have e1:zs[j]? = some zs[j]:=List.getElem?_eq_getElem (by omega)
   have hw:=b2 zs[j] (List.getElem_mem _)
   have a6:=a0 j (by omega)
   have e2:zs.getD j 0=zs[j]:=by simp[List.getD,e1]
   rw[e2] at a6
   have hx:x=.int .u8 zs[j]:=by
    rw[List.getElem?_map,List.getElem?_map,List.getElem?_take_of_lt a8,e1] at hj
    simp only[Option.map_some,Option.some.injEq] at hj
    rw[←hj]
    have hb:0≤zs[j]∧zs[j]≤255:=by simpa [Lit.wf,IntKind.min,IntKind.max,IntKind.signed,IntKind.bits] using hw
    have h3:(zs[j].toNat%256:Nat)=zs[j].toNat:=Nat.mod_eq_of_lt (by omega)
    simp only[bv,UInt8.toNat_ofNat']
    rw[show(2 ^ 8:Nat)=256 from rfl,h3,Int.toNat_of_nonneg hb.1]
   subst hx
   by_cases hj0:j=0
   ·subst hj0;simpa [Addr.add] using a6
   ·simpa [Addr.add,hj0] using a6
end Go.Proofs.YtegcamkgeacjfaaGreatDoor
namespace Go.Proofs.YtegcamkgeacjfaaGreatDoor
set_option maxHeartbeats 8000000
set_option maxRecDepth 100000
open Go.ChangeShapes Go.WideShapes Go.ChangeAt Go.RowKit Go.Joins Go.Deep
set_option linter.unusedVariables false
def intOfS:Value→Int
 | .int _ z=>z
 | _=>0
theorem Za6{H:Type}{enc:TypeId×Value→H}{P:Program}{W:World}{r:Reach}{b0:Nat}{t ti:TypeId}{fs:Array Field}{v:Value}{d:DataW H}{p:List MemPlace}(hs:P.underlying t=some (.struct fs))(hone:oneCellFields P fs=true)(hC:P.cellsOf t=fs.size)
 (hf:fs.toList.all (fun f=>f.type==ti)=true) (hti:P.underlying ti=some (.int .i64)) (hv:Value.okWide P W r b0 t v) (h:DataW.Trod enc P W 0 (fun _=>true) true t v d p) :
 ∃ N:List Int,N.length=fs.size∧v=.agg (N.map V0).toArray:=by
 obtain⟨cs,rfl,a8⟩:=okWide_struct hs hv
 obtain⟨a7,hx⟩:=h
 obtain⟨xs,n,_,_,hl,a6,a5⟩:=DataW.trod_struct hs hx
 have a4:∀ i,i<fs.size→∃ z:Int,cs[i]? = some (V0 z):=by
  intro i hi
  have a2:fs[i]? = some fs[i]:=by simp[hi]
  obtain⟨o0,k0⟩:=hone_of hone i fs[i] a2
  have a0:fs[i].type=ti:=by
   have:=List.all_eq_true.1 hf fs[i] (by simp)
   simpa using this
  have hq:=a5 i fs[i] a2
  have a3:i<cs.size:=by omega
  have e:((Value.agg cs).cells.toList.drop fs[i].offset).take (P.cellsOf fs[i].type)=[cs[i]]:=by
   rw[o0,k0]
   simp[Value.cells,List.drop_eq_getElem_cons,a3]
  rw[e,a0,List.getElem?_eq_getElem (show i<xs.length by omega)] at hq
  obtain⟨z,hz,_⟩:=DataW.trod_int hti hq
  simp only[List.cons.injEq,and_true] at hz
  exact⟨z,by simp[a3,hz]⟩
 refine⟨cs.toList.map intOfS,by simp;omega,?_⟩
 congr 1
 apply Array.ext'
 rw[List.toList_toArray]
 apply List.ext_getElem?
 intro i
 by_cases hi:i<fs.size
 ·obtain⟨z,hz⟩:=a4 i hi
  have a1:cs.toList[i]? = some (V0 z):=by simpa using hz
  rw[a1,List.getElem?_map,List.getElem?_map,a1];rfl
 ·rw[List.getElem?_eq_none (by simp;omega),List.getElem?_eq_none (by simp;omega)]
theorem sup_open{H:Type}{enc:TypeId×Value→H}{P:Program}{W:World}{r:Reach}{b0:Nat}{t ti:TypeId}{fs:Array Field}{v:Value}{d:DataW H}{p:List MemPlace}(hs:P.underlying t=some (.struct fs))(hone:oneCellFields P fs=true)(hC:P.cellsOf t=fs.size)(h11:fs.size=11)
 (hf:fs.toList.all (fun f=>f.type==ti)=true) (hti:P.underlying ti=some (.int .i64)) (hv:Value.okWide P W r b0 t v) (h:DataW.Trod enc P W 0 (fun _=>true) true t v d p) :
 ∃ s:Sup,v=.agg (supC s).toArray:=by
 obtain⟨N,hN,rfl⟩:=Za6 hs hone hC hf hti hv h
 rw[h11] at hN
 match N,hN with
 | [a,b,c,d,e,f,g,h,i,j,k],_=>exact⟨⟨a,b,c,d,e,f,g,h,i,j,k⟩,rfl⟩
end Go.Proofs.YtegcamkgeacjfaaGreatDoor
