/- super.Read and block.Super, whatever the bytes. -/
import Derived.Test.YtgphgaehfdfjjaaGreatDoorMg7
namespace Go.Proofs.YtgphgaehfdfjjaaGreatDoor
set_option maxHeartbeats 8000000
set_option maxRecDepth 100000
open Go.RowKit Go.Extern.Stop Go.Stop Go.Extern
set_option linter.unusedVariables false
attribute [local irreducible] wpList wpAnyH Code.wp Oper.wp Go
theorem Iu(l:Bl):0≤(Ze l).blocks∧(Ze l).blocks<9223372036854775808:=by
 have:=Ym l 28 4 (by decide)
 show 0≤(Zi l 28 4:Int)∧(Zi l 28 4:Int)<9223372036854775808
 omega
theorem sup_PutP(s:Sup)(w:World)(hb:0≤s.blocks∧s.blocks<9223372036854775808):C0 147 #[.agg #[V0 s.tx,V0 s.time,V0 s.unit,V0 s.data,V0 s.blocks,V0 s.top,V0 s.details,V0 s.dslots,V0 s.dover,V0 s.mindex,V0 s.mover]] w (fun e w' =>
 (Yb s=false∧e=.returned (.tuple #[S0,V0 1])∧B0 w w') ∨
 (Yb s=true∧∃ p c,e=.returned (.tuple #[.slice p 244 c,V0 0])∧B0 w w'∧w'.ownsRow w.heap.size 5 1 (.slice p 244 c) 244 ((Zcd s).map bv))):=by
 cases hr:Yb s with
 | false =>
  refine(Zb9 s w hb.1 hb.2 hr).mono ?_
  rintro e W ⟨rfl,h⟩
  exact .inl ⟨rfl,rfl,h⟩
 | true =>
  refine(Zf1 s w hb.1 hb.2 hr).mono ?_
  rintro e W ⟨_,rfl,h,p,c,rfl,ho⟩
  exact .inr ⟨rfl,p,c,rfl,h,ho⟩
def SupP(l:Bl)(w:World)(e:Ending)(w':World):Prop :=
 (Iw l=false∧e=.returned (.tuple #[.agg #[V0 0,V0 0,V0 0,V0 0,V0 0,V0 0,V0 0,V0 0,V0 0,V0 0,V0 0],V0 7])∧B0 w w')∨(Iw l=true∧e=.returned (.tuple #[.agg #[V0 ((Ze l).tx),V0 ((Ze l).time),V0 ((Ze l).unit),V0 ((Ze l).data),V0 ((Ze l).blocks),V0 ((Ze l).top),V0 ((Ze l).details),V0 ((Ze l).dslots),V0 ((Ze l).dover),V0 ((Ze l).mindex),V0 ((Ze l).mover)],V0 0])∧B0 w w')
theorem Oe{l:Bl}(hl:l.length=244):Iw l=((Zcd (Ze l)==l)&&Yb (Ze l)):=by rw[supB_eq hl];rfl
theorem sup_Read(a:O0)(c:Nat)(l:Bl)(w:World)(hl:l.length=244)(h:Bys w (.slice a 244 c) l) :
 C0 93 #[.slice a 244 c] w (SupP l w):=by
 refine zin 29 Tryz.func93 ?_
 refine xa 2 [.slice a 244 c] 22 fun b1 W1 n1=>?_
 refine xa 0 [V0 0,V0 0,V0 0,V0 0,V0 0,V0 0,V0 0,V0 0,V0 0,V0 0,V0 0] 24 fun b2 W2 n2=>?_
 refine xa 5 [V0 0,V0 0,V0 0,V0 0,V0 0,V0 0,V0 0,V0 0,V0 0,V0 0,V0 0] 24 fun b3 W3 n3=>?_
 have c5:=n3.ne n2.blk
 have k1:=(n1.blk.below n2.below).below n3.below
 refine xb 5 0 k1 ?_
 refine xa 9 [V0 0] 3 fun b4 W4 n4=>?_
 refine xs 0 n4.blk [V0 12] fun W5 u5 k5=>?_
 have g4:=n4.ge (bln (bln n1.below n2.below) n3.below)
 have b6:=u5.blkT ((n2.blk.below n3.below).below n4.below) n4.blk (by decide)
 have d2:=b6
 have hB:=u5.below (bln (bln (bln n1.below n2.below) n3.below) n4.below) g4
 have k3:=u5.blkT (n3.blk.below n4.below) n4.blk (by decide)
 have a8:=u5.blkT (k1.below n4.below) n4.blk (by decide)
 have g3:=n3.ge (bln n1.below n2.below)
 refine xc 5 (args:=#[P0 b3,.func (.func 146) #[] #[P0 b1,P0 b4]]) (Ai b3 b3 b1 b4 a c l _ (by have:=n3.at_;have:=hB.size;have q:=(k3).lt;omega) (Nat.le_refl _) (by have q1:=n3.at_;have q2:=n3.size;have q3:=n4.at_;omega) k3 a8 k5 hl (fun W q=>h.below (hB.trans (q.mono g3)))) ?_
 rintro _ W6 ⟨u6,rfl,a9,d3,b0⟩
 have c2:=d2.below' a9 (by have q1:=n2.at_;have q2:=n2.size;have q3:=n3.at_;omega)
 replace b0:Blk _ _ [V0 ((Ze l).tx),V0 ((Ze l).time),V0 ((Ze l).unit),V0 ((Ze l).data),V0 ((Ze l).blocks),V0 ((Ze l).top),V0 ((Ze l).details),V0 ((Ze l).dslots),V0 ((Ze l).dover),V0 ((Ze l).mindex),V0 ((Ze l).mover)] _:=b0
 refine xlv 5 b0.rp ?_
 refine xc 0 (args:=#[.agg #[V0 ((Ze l).tx),V0 ((Ze l).time),V0 ((Ze l).unit),V0 ((Ze l).data),V0 ((Ze l).blocks),V0 ((Ze l).top),V0 ((Ze l).details),V0 ((Ze l).dslots),V0 ((Ze l).dover),V0 ((Ze l).mindex),V0 ((Ze l).mover)]]) (sup_PutP (Ze l) _ (Iu l)) ?_
 rintro e W7 c6
 rcases c6 with ⟨b8,rfl,a0⟩|⟨b8,p4,c4,rfl,a0,h4⟩
 ·have a3:=c2.below a0
  refine xsv 23 a3 [V0 0,V0 0,V0 0,V0 0,V0 0,V0 0,V0 0,V0 0,V0 0,V0 0,V0 0] fun W8 u8 k8=>?_
  have g2:=n2.ge n1.below
  have b9:=u8.below (bln (hB.trans (a9.mono g3)) a0) g2
  exact xec 5 k8 (.tuple #[.agg #[V0 0,V0 0,V0 0,V0 0,V0 0,V0 0,V0 0,V0 0,V0 0,V0 0,V0 0],V0 7]) (.inl ⟨by rw[Oe hl,b8];exact Bool.and_false _,rfl,b9⟩)
 have d1:=(hB.trans (a9.mono g3)).size
 have b5:=(a8.only d3 (by decide)).below a0
 refine xb 13 0 b5 ?_
 have c1:=Zg h4 d1
 have a1:=bln (hB.trans (a9.mono g3)) a0
 refine xr 0 (args:=#[.slice p4 244 c4,.slice a 244 c]) (Ry p4 a c4 c 244 244 (Zcd (Ze l)) l _ (Zeu _) hl (by decide) (Ko (Zh c1) (Zeu _)) (h.below a1)) fun W9 a7=>?_
 refine xi 4 (!(Zcd (Ze l)==l)) (fun a2=>?_) (fun a2=>?_)
 ·have c0:(Zcd (Ze l)==l)=false:=by simpa using a2
  have a6:=(c2.below a0).below a7
  refine xsv 3 a6 [V0 0,V0 0,V0 0,V0 0,V0 0,V0 0,V0 0,V0 0,V0 0,V0 0,V0 0] fun d5 c7 d0=>?_
  have g2:=n2.ge n1.below
  have b7:=c7.below (bln a1 a7) g2
  exact xec 5 d0 (.tuple #[.agg #[V0 0,V0 0,V0 0,V0 0,V0 0,V0 0,V0 0,V0 0,V0 0,V0 0,V0 0],V0 7]) (.inl ⟨by rw[Oe hl,c0];rfl,rfl,b7⟩)
 have c0:(Zcd (Ze l)==l)=true:=by simpa using a2
 have a5:=(b0.below a0).below a7
 refine xlv 4 a5.rp ?_
 have a4:=(c2.below a0).below a7
 refine xsv 0 a4 [V0 ((Ze l).tx),V0 ((Ze l).time),V0 ((Ze l).unit),V0 ((Ze l).data),V0 ((Ze l).blocks),V0 ((Ze l).top),V0 ((Ze l).details),V0 ((Ze l).dslots),V0 ((Ze l).dover),V0 ((Ze l).mindex),V0 ((Ze l).mover)] fun d4 c9 c8=>?_
 have g2:=n2.ge n1.below
 have c3:=c9.below (bln a1 a7) g2
 exact xec 4 c8 (.tuple #[.agg #[V0 ((Ze l).tx),V0 ((Ze l).time),V0 ((Ze l).unit),V0 ((Ze l).data),V0 ((Ze l).blocks),V0 ((Ze l).top),V0 ((Ze l).details),V0 ((Ze l).dslots),V0 ((Ze l).dover),V0 ((Ze l).mindex),V0 ((Ze l).mover)],V0 0]) (.inr ⟨by rw[Oe hl,c0,b8];rfl,rfl,c3⟩)
def Ur(l:Bl)(n:Nat):Int:=if Iw l then(if(n:Int)<(Ze l).blocks then 2 else 0) else 7
def Xi(l:Bl):Int:=if inE l 1 0=0 then Ur (inB l 0) (l.length/256) else inE l 1 0
def Sup1P(l:Bl)(n:Nat)(w:World)(e:Ending)(w':World):Prop :=
 (Ur l n≠0∧∃ s:Sup,e=.returned (.tuple #[.agg #[V0 s.tx,V0 s.time,V0 s.unit,V0 s.data,V0 s.blocks,V0 s.top,V0 s.details,V0 s.dslots,V0 s.dover,V0 s.mindex,V0 s.mover],V0 (Ur l n)])∧B0 w w')∨(Ur l n=0∧e=.returned (.tuple #[.agg #[V0 ((Ze l).tx),V0 ((Ze l).time),V0 ((Ze l).unit),V0 ((Ze l).data),V0 ((Ze l).blocks),V0 ((Ze l).top),V0 ((Ze l).details),V0 ((Ze l).dslots),V0 ((Ze l).dover),V0 ((Ze l).mindex),V0 ((Ze l).mover)],V0 0])∧B0 w w')
def BlkSupP(l:Bl)(w:World)(e:Ending)(w':World):Prop :=
 (Xi l≠0∧∃ b,e=.returned (.tuple #[.agg #[V0 0,V0 0,V0 0,V0 0,V0 0,V0 0,V0 0,V0 0,V0 0,V0 0,V0 0],.iface 215 (P0 b)])∧B0 w w'∧Vw w' [some 0] (some (Xi l)) (.iface 215 (P0 b))) ∨
 (Xi l=0∧e=.returned (.tuple #[.agg #[V0 ((Ze (inB l 0)).tx),V0 ((Ze (inB l 0)).time),V0 ((Ze (inB l 0)).unit),V0 ((Ze (inB l 0)).data),V0 ((Ze (inB l 0)).blocks),V0 ((Ze (inB l 0)).top),V0 ((Ze (inB l 0)).details),V0 ((Ze (inB l 0)).dslots),V0 ((Ze (inB l 0)).dover),V0 ((Ze (inB l 0)).mindex),V0 ((Ze (inB l 0)).mover)],.nilIface])∧B0 w w')
def supZ:Sup:=⟨0,0,0,0,0,0,0,0,0,0,0⟩
theorem super_1(B b bm:Nat)(pi:O0)(ni ci:Nat)(li:Bl)(a:O0)(c:Nat)(l:Bl)(w:World)(hI:ImgR B b pi ni ci li w)(km:Blk w bm [P0 b] 26)(hl:l.length=244)(h:Bys w (.slice a 244 c) l) :
 C0 92 #[.slice a 244 c,P0 bm] w (Sup1P l (ni/256) w):=by
 have c8:=hI.hn
 refine zin 24 Tryz.func92 ?_
 refine xa 2 [V0 0,V0 0,V0 0,V0 0,V0 0,V0 0,V0 0,V0 0,V0 0,V0 0,V0 0] 24 fun b1 W1 n1=>?_
 refine xc 6 (args:=#[.slice a 244 c]) (sup_Read a c l _ hl (h.below n1.below)) ?_
 rintro e W2 c6
 rcases c6 with ⟨a4,rfl,a3⟩|⟨a4,rfl,a3⟩
 ·refine xa 3 [V0 0,V0 0,V0 0,V0 0,V0 0,V0 0,V0 0,V0 0,V0 0,V0 0,V0 0] 24 fun b3 W3 n3=>?_
  have k1:=n1.blk.below a3
  have a8:=n3.ne k1
  have a7:=bln n1.below a3
  have g3:=n3.ge a7
  refine xsv 0 n3.blk [V0 0,V0 0,V0 0,V0 0,V0 0,V0 0,V0 0,V0 0,V0 0,V0 0,V0 0] fun W4 u4 k4=>?_
  refine xd 5 .z ?_
  have b5:=k4.below (Za W4)
  refine xlv (.r [0,1,2,3,4,5,6,7,8] 7) b5.rp ?_
  have c1:=(u4.blk (k1.below n3.below) (Ne.symm (Ne.symm a8))).below (Za W4)
  refine xsv 1 c1 [V0 0,V0 0,V0 0,V0 0,V0 0,V0 0,V0 0,V0 0,V0 0,V0 0,V0 0] fun W5 u5 k5=>?_
  have g1:=n1.ge (B3 w)
  have b9:=u5.below (bln (u4.below (bln a7 n3.below) g3) (Za W4)) g1
  exact xec 4 k5 (.tuple #[.agg #[V0 0,V0 0,V0 0,V0 0,V0 0,V0 0,V0 0,V0 0,V0 0,V0 0,V0 0],V0 7]) (.inl ⟨by unfold Ur;rw[a4,if_neg (by decide)];decide,supZ,by unfold Ur;rw[a4,if_neg (by decide)];rfl,b9⟩)
 refine xa 3 [V0 0,V0 0,V0 0,V0 0,V0 0,V0 0,V0 0,V0 0,V0 0,V0 0,V0 0] 24 fun b6 W6 n6=>?_
 have k1:=n1.blk.below a3
 have a0:=n6.ne k1
 have a6:=bln n1.below a3
 have g6:=n6.ge a6
 refine xsv 0 n6.blk [V0 ((Ze l).tx),V0 ((Ze l).time),V0 ((Ze l).unit),V0 ((Ze l).data),V0 ((Ze l).blocks),V0 ((Ze l).top),V0 ((Ze l).details),V0 ((Ze l).dslots),V0 ((Ze l).dover),V0 ((Ze l).mindex),V0 ((Ze l).mover)] fun W7 u7 k7=>?_
 refine xd 5 .z ?_
 have a1:=k7.below (Za W7)
 refine xb (.e [0,1,2,3] 4) 4 a1 ?_
 have c0:=(u7.blkT (((km.below n1.below).below a3).below n6.below) n6.blk (by decide)).below (Za W7)
 refine xb (.e [] 5) 0 c0 ?_
 have a2:=bln (u7.below (bln a6 n6.below) g6) (Za W7)
 refine xr (.o [] 6) (args:=#[P0 b]) (Jv b _ ni ci _ (hI.below a2).blk (by omega)) fun W8 a5=>?_
 refine xid (.r [7,8] 2) ((Ze l).blocks>(↑(ni/256):Int)) (fun c4=>?_) (fun c4=>?_)
 ·have b7:=a1.below a5
  refine xlv 2 b7.rp ?_
  have b0:=((u7.blk (k1.below n6.below) (Ne.symm (Ne.symm a0))).below (Za W7)).below a5
  refine xsv 0 b0 [V0 ((Ze l).tx),V0 ((Ze l).time),V0 ((Ze l).unit),V0 ((Ze l).data),V0 ((Ze l).blocks),V0 ((Ze l).top),V0 ((Ze l).details),V0 ((Ze l).dslots),V0 ((Ze l).dover),V0 ((Ze l).mindex),V0 ((Ze l).mover)] fun c9 c7 c3=>?_
  have g1:=n1.ge (B3 w)
  have a9:=c7.below (bln a2 a5) g1
  exact xec 5 c3 (.tuple #[.agg #[V0 ((Ze l).tx),V0 ((Ze l).time),V0 ((Ze l).unit),V0 ((Ze l).data),V0 ((Ze l).blocks),V0 ((Ze l).top),V0 ((Ze l).details),V0 ((Ze l).dslots),V0 ((Ze l).dover),V0 ((Ze l).mindex),V0 ((Ze l).mover)],V0 2]) (.inl ⟨by unfold Ur;rw[if_pos a4,if_pos (by omega)];decide,Ze l,by unfold Ur;rw[if_pos a4,if_pos (by omega)],a9⟩)
 have b8:=a1.below a5
 refine xlv 4 b8.rp ?_
 have b4:=((u7.blk (k1.below n6.below) (Ne.symm (Ne.symm a0))).below (Za W7)).below a5
 refine xsv 1 b4 [V0 ((Ze l).tx),V0 ((Ze l).time),V0 ((Ze l).unit),V0 ((Ze l).data),V0 ((Ze l).blocks),V0 ((Ze l).top),V0 ((Ze l).details),V0 ((Ze l).dslots),V0 ((Ze l).dover),V0 ((Ze l).mindex),V0 ((Ze l).mover)] fun d0 c2 c5=>?_
 have g1:=n1.ge (B3 w)
 have b2:=c2.below (bln a2 a5) g1
 exact xec 4 c5 (.tuple #[.agg #[V0 ((Ze l).tx),V0 ((Ze l).time),V0 ((Ze l).unit),V0 ((Ze l).data),V0 ((Ze l).blocks),V0 ((Ze l).top),V0 ((Ze l).details),V0 ((Ze l).dslots),V0 ((Ze l).dover),V0 ((Ze l).mindex),V0 ((Ze l).mover)],V0 0]) (.inr ⟨by unfold Ur;rw[if_pos a4,if_neg (by omega)],rfl,b2⟩)
theorem readSuper(B b:Nat)(p:O0)(n c:Nat)(l:Bl)(w:World)(hI:ImgR B b p n c l w)(bt:Nat)(kt:Blk w bt [P0 b] 26) :
 C0 91 #[P0 b,V0 0,V0 1,.func (.func 92) #[] #[P0 bt]] w (BlkSupP l w):=by
 refine zin 56 Tryz.func91 ?_
 refine xa 2 [V0 0,V0 0,V0 0,V0 0,V0 0,V0 0,V0 0,V0 0,V0 0,V0 0,V0 0] 24 fun b1 W1 n1=>?_
 refine xa 5 [V0 0,V0 0,V0 0,V0 0,V0 0,V0 0,V0 0,V0 0,V0 0,V0 0,V0 0] 24 fun b2 W2 n2=>?_
 have h2:=n2.ne n1.blk
 have hB:=bln n1.below n2.below
 refine xc 6 (args:=#[P0 b,V0 0]) (Sn B b p n c l 0 _ (hI.below hB)) ?_
 rintro e W3 j4
 rcases j4 with ⟨ho,vr,rfl,a0⟩|⟨j,hk,hj,p2,c2,rfl,a0,ho⟩
 ·refine xd 16 (.t w.heap.size [24]) ?_
  refine xm2 (.b [1,2,3]) 0 4 ?_ ?_
  ·have k2:=(n2.blk.below a0).below (Za W3)
   refine xlv 0 k2.rp ?_
   refine yc (.o [] 4) (args:=#[V0 0,.iface 33 (V0 3)]) (.t w.heap.size [24]) (Yr 0 3 _) ?_
   rintro _ W4 ⟨_,rfl,g0,f6⟩
   refine⟨(SF.of_below _ g0),?_⟩
   rw[if_neg (by decide),if_neg (by decide)] at f6
   have i3:=f6
   obtain⟨i7,l2,rfl,_,_⟩:=i3
   have b8:=(((n1.blk.below n2.below).below a0).below (Za W3)).below g0
   have g1:=n1.ge (B3 w)
   refine ysv (.o [] 5) b8 [V0 0,V0 0,V0 0,V0 0,V0 0,V0 0,V0 0,V0 0,V0 0,V0 0,V0 0] (.t w.heap.size [24]) fun W5 u5 k5=>⟨(Zo u5 b8 g1 (by decide)),?_⟩
   have g5:=u5.below (bln (bln (bln hB a0) (Za W3)) g0) g1
   have d2:=f6.upd u5 b8 (by decide)
   refine xec (.r [6] 4) k5 (.tuple #[.agg #[V0 0,V0 0,V0 0,V0 0,V0 0,V0 0,V0 0,V0 0,V0 0,V0 0,V0 0],.iface 215 (P0 i7)]) ?_
   have he:Xi l=3:=by unfold Xi;rw[Fs hI.len ho];rfl
   exact .inl ⟨by rw[he];decide,_,rfl,g5,by rw[he];exact d2⟩
  refine yc 0 (args:=#[V0 0,.iface 33 (V0 3)]) (.t w.heap.size [24]) (Yr 0 3 _) ?_
  rintro _ W6 ⟨_,rfl,e0,f4⟩
  refine⟨(SF.of_below _ e0),?_⟩
  rw[if_neg (by decide),if_neg (by decide)] at f4
  have i8:=f4
  obtain⟨i0,l8,rfl,_,_⟩:=i8
  have k2:=((n2.blk.below a0).below (Za W3)).below e0
  refine xlv (.o [] 0) k2.rp ?_
  have b9:=(((n1.blk.below n2.below).below a0).below (Za W3)).below e0
  have g1:=n1.ge (B3 w)
  refine ysv (.o [] 5) b9 [V0 0,V0 0,V0 0,V0 0,V0 0,V0 0,V0 0,V0 0,V0 0,V0 0,V0 0] (.t w.heap.size [24]) fun W7 u7 k7=>⟨(Zo u7 b9 g1 (by decide)),?_⟩
  have f5:=u7.below (bln (bln (bln hB a0) (Za W3)) e0) g1
  have d9:=f4.upd u7 b9 (by decide)
  refine xec (.r [6] 4) k7 (.tuple #[.agg #[V0 0,V0 0,V0 0,V0 0,V0 0,V0 0,V0 0,V0 0,V0 0,V0 0,V0 0],.iface 215 (P0 i0)]) ?_
  have he:Xi l=3:=by unfold Xi;rw[Fs hI.len ho];rfl
  exact .inl ⟨by rw[he];decide,_,rfl,f5,by rw[he];exact d9⟩
 have i5:=(bln n1.below n2.below).size
 have i2:j<l.length/256:=by rw[hI.len];exact hj
 have h0:=Kg i2
 have d3:=Zee (l:=l) (kind:=1) hI.len hk hj
 have g2:=Zg ho i5
 refine xc 22 (args:=#[.slice p2 256 c2,V0 1,V0 0]) (Tx 1 0 p2 256 c2 (Kz l j) _ h0 (Ko (Zh g2) h0)) ?_
 rintro e W8 i4
 rcases i4 with ⟨hs,rfl,a2⟩|⟨hs,p3,c3,rfl,a2,h3⟩
 ·refine xk 14 (show(((Yi 1 0 (Kz l j)) != (0:Int)):Bool)=true from bne_iff_ne.2 hs) ?_
  refine xd 1 (.t w.heap.size [24]) ?_
  refine xm2 (.b [1,2,3]) 0 4 ?_ ?_
  ·have k2:=((n2.blk.below a0).below a2).below (Za W8)
   refine xlv 0 k2.rp ?_
   refine yc (.o [] 4) (args:=#[V0 0,.iface 33 (V0 (Yi 1 0 (Kz l j)))]) (.t w.heap.size [24]) (Yr 0 (Yi 1 0 (Kz l j)) _) ?_
   rintro _ W9 ⟨_,rfl,f9,f8⟩
   refine⟨(SF.of_below _ f9),?_⟩
   rw[if_neg hs,if_neg hs] at f8
   have h5:=f8
   obtain⟨j0,k0,rfl,_,_⟩:=h5
   have a9:=((((n1.blk.below n2.below).below a0).below a2).below (Za W8)).below f9
   have g1:=n1.ge (B3 w)
   refine ysv (.o [] 5) a9 [V0 0,V0 0,V0 0,V0 0,V0 0,V0 0,V0 0,V0 0,V0 0,V0 0,V0 0] (.t w.heap.size [24]) fun j8 g8 j3=>⟨(Zo g8 a9 g1 (by decide)),?_⟩
   have f1:=g8.below (bln (bln (bln (bln hB a0) a2) (Za W8)) f9) g1
   have d7:=f8.upd g8 a9 (by decide)
   refine xec (.r [6] 4) j3 (.tuple #[.agg #[V0 0,V0 0,V0 0,V0 0,V0 0,V0 0,V0 0,V0 0,V0 0,V0 0,V0 0],.iface 215 (P0 j0)]) ?_
   have he:Xi l=Yi 1 0 (Kz l j):=by unfold Xi;rw[d3,if_neg hs]
   exact .inl ⟨by rw[he];exact hs,_,rfl,f1,by rw[he];exact d7⟩
  refine yc 0 (args:=#[V0 0,.iface 33 (V0 (Yi 1 0 (Kz l j)))]) (.t w.heap.size [24]) (Yr 0 (Yi 1 0 (Kz l j)) _) ?_
  rintro _ l7 ⟨_,rfl,a6,b3⟩
  refine⟨(SF.of_below _ a6),?_⟩
  rw[if_neg hs,if_neg hs] at b3
  have e4:=b3
  obtain⟨e9,j6,rfl,_,_⟩:=e4
  have k2:=(((n2.blk.below a0).below a2).below (Za W8)).below a6
  refine xlv (.o [] 0) k2.rp ?_
  have c4:=((((n1.blk.below n2.below).below a0).below a2).below (Za W8)).below a6
  have g1:=n1.ge (B3 w)
  refine ysv (.o [] 5) c4 [V0 0,V0 0,V0 0,V0 0,V0 0,V0 0,V0 0,V0 0,V0 0,V0 0,V0 0] (.t w.heap.size [24]) fun k3 f3 h9=>⟨(Zo f3 c4 g1 (by decide)),?_⟩
  have g7:=f3.below (bln (bln (bln (bln hB a0) a2) (Za W8)) a6) g1
  have b7:=b3.upd f3 c4 (by decide)
  refine xec (.r [6] 4) h9 (.tuple #[.agg #[V0 0,V0 0,V0 0,V0 0,V0 0,V0 0,V0 0,V0 0,V0 0,V0 0,V0 0],.iface 215 (P0 e9)]) ?_
  have he:Xi l=Yi 1 0 (Kz l j):=by unfold Xi;rw[d3,if_neg hs]
  exact .inl ⟨by rw[he];exact hs,_,rfl,g7,by rw[he];exact b7⟩
 have i9:=(bln hB a0).size
 have d5:=Zg h3 i9
 have j5:((Kz l j).drop 8).take 244=inB l 0:=(Zeg hk).symm
 have g9:=inB_len hI.len hk hj
 rw[j5] at d5
 have a8:=bln (bln hB a0) a2
 refine xc 21 (args:=#[.slice p3 244 c3,P0 bt]) (super_1 B b bt p n c l p3 c3 (inB l 0) _ (hI.below a8) (kt.below a8) g9 (Ko (Zh d5) g9)) ?_
 rintro e l4 g6
 rcases g6 with ⟨hz,s9,rfl,a1⟩|⟨hz,rfl,a1⟩
 ·refine xa 3 [V0 0,V0 0,V0 0,V0 0,V0 0,V0 0,V0 0,V0 0,V0 0,V0 0,V0 0] 24 fun j9 k1 a5=>?_
  have b0:=(((n1.blk.below n2.below).below a0).below a2).below a1
  have a4:=a5.ne b0
  have k2:=((n2.blk.below a0).below a2).below a1
  have a3:=a5.ne k2
  have c6:=bln a8 a1
  have h4:=a5.ge c6
  refine xsv 0 a5.blk [V0 s9.tx,V0 s9.time,V0 s9.unit,V0 s9.data,V0 s9.blocks,V0 s9.top,V0 s9.details,V0 s9.dslots,V0 s9.dover,V0 s9.mindex,V0 s9.mover] fun d1 d0 k8=>?_
  refine xk 10 (show(((Ur (inB l 0) (n/256)) != (0:Int)):Bool)=true from bne_iff_ne.2 hz) ?_
  refine xd 1 (.t w.heap.size [24]) ?_
  refine xm2 (.b [1,2,3]) 0 4 ?_ ?_
  ·have g4:=(d0.blk (k2.below a5.below) (Ne.symm (Ne.symm a3))).below (Za d1)
   refine xlv 0 g4.rp ?_
   refine yc (.o [] 4) (args:=#[V0 0,.iface 33 (V0 (Ur (inB l 0) (n/256)))]) (.t w.heap.size [24]) (Yr 0 (Ur (inB l 0) (n/256)) _) ?_
   rintro _ k4 ⟨_,rfl,b4,c5⟩
   refine⟨(SF.of_below _ b4),?_⟩
   rw[if_neg hz,if_neg hz] at c5
   have e2:=c5
   obtain⟨e1,h7,rfl,_,_⟩:=e2
   have b5:=((d0.blk (b0.below a5.below) (Ne.symm (Ne.symm a4))).below (Za d1)).below b4
   have g1:=n1.ge (B3 w)
   refine ysv (.o [] 5) b5 [V0 0,V0 0,V0 0,V0 0,V0 0,V0 0,V0 0,V0 0,V0 0,V0 0,V0 0] (.t w.heap.size [24]) fun l0 e7 h6=>⟨(Zo e7 b5 g1 (by decide)),?_⟩
   have e6:=e7.below (bln (bln (d0.below (bln c6 a5.below) h4) (Za d1)) b4) g1
   have c8:=c5.upd e7 b5 (by decide)
   refine xec (.r [6] 4) h6 (.tuple #[.agg #[V0 0,V0 0,V0 0,V0 0,V0 0,V0 0,V0 0,V0 0,V0 0,V0 0,V0 0],.iface 215 (P0 e1)]) ?_
   have he:Xi l=Ur (inB l 0) (n/256):=by unfold Xi;rw[d3,if_pos hs,hI.len]
   exact .inl ⟨by rw[he];exact hz,_,rfl,e6,by rw[he];exact c8⟩
  refine yc 0 (args:=#[V0 0,.iface 33 (V0 (Ur (inB l 0) (n/256)))]) (.t w.heap.size [24]) (Yr 0 (Ur (inB l 0) (n/256)) _) ?_
  rintro _ k9 ⟨_,rfl,a7,c0⟩
  refine⟨(SF.of_below _ a7),?_⟩
  rw[if_neg hz,if_neg hz] at c0
  have f0:=c0
  obtain⟨e5,i1,rfl,_,_⟩:=f0
  have g3:=((d0.blk (k2.below a5.below) (Ne.symm (Ne.symm a3))).below (Za d1)).below a7
  refine xlv (.o [] 0) g3.rp ?_
  have b6:=((d0.blk (b0.below a5.below) (Ne.symm (Ne.symm a4))).below (Za d1)).below a7
  have g1:=n1.ge (B3 w)
  refine ysv (.o [] 5) b6 [V0 0,V0 0,V0 0,V0 0,V0 0,V0 0,V0 0,V0 0,V0 0,V0 0,V0 0] (.t w.heap.size [24]) fun k6 f7 j2=>⟨(Zo f7 b6 g1 (by decide)),?_⟩
  have e3:=f7.below (bln (bln (d0.below (bln c6 a5.below) h4) (Za d1)) a7) g1
  have c1:=c0.upd f7 b6 (by decide)
  refine xec (.r [6] 4) j2 (.tuple #[.agg #[V0 0,V0 0,V0 0,V0 0,V0 0,V0 0,V0 0,V0 0,V0 0,V0 0,V0 0],.iface 215 (P0 e5)]) ?_
  have he:Xi l=Ur (inB l 0) (n/256):=by unfold Xi;rw[d3,if_pos hs,hI.len]
  exact .inl ⟨by rw[he];exact hz,_,rfl,e3,by rw[he];exact c1⟩
 refine xa 3 [V0 0,V0 0,V0 0,V0 0,V0 0,V0 0,V0 0,V0 0,V0 0,V0 0,V0 0] 24 fun l6 l1 c9=>?_
 have d8:=(((n1.blk.below n2.below).below a0).below a2).below a1
 have c7:=c9.ne d8
 have k2:=((n2.blk.below a0).below a2).below a1
 have e8:=c9.ne k2
 have d4:=bln a8 a1
 have j1:=c9.ge d4
 refine xsv 0 c9.blk [V0 ((Ze (inB l 0)).tx),V0 ((Ze (inB l 0)).time),V0 ((Ze (inB l 0)).unit),V0 ((Ze (inB l 0)).data),V0 ((Ze (inB l 0)).blocks),V0 ((Ze (inB l 0)).top),V0 ((Ze (inB l 0)).details),V0 ((Ze (inB l 0)).dslots),V0 ((Ze (inB l 0)).dover),V0 ((Ze (inB l 0)).mindex),V0 ((Ze (inB l 0)).mover)] fun l5 h1 i6=>?_
 refine xlv 15 i6.rp ?_
 have f2:=h1.blk (d8.below c9.below) (Ne.symm (Ne.symm c7))
 refine xsv 0 f2 [V0 ((Ze (inB l 0)).tx),V0 ((Ze (inB l 0)).time),V0 ((Ze (inB l 0)).unit),V0 ((Ze (inB l 0)).data),V0 ((Ze (inB l 0)).blocks),V0 ((Ze (inB l 0)).top),V0 ((Ze (inB l 0)).details),V0 ((Ze (inB l 0)).dslots),V0 ((Ze (inB l 0)).dover),V0 ((Ze (inB l 0)).mindex),V0 ((Ze (inB l 0)).mover)] fun l3 h8 j7=>?_
 have g1:=n1.ge (B3 w)
 have d6:=h8.below (h1.below (bln d4 c9.below) j1) g1
 exact xec 4 j7 (.tuple #[.agg #[V0 ((Ze (inB l 0)).tx),V0 ((Ze (inB l 0)).time),V0 ((Ze (inB l 0)).unit),V0 ((Ze (inB l 0)).data),V0 ((Ze (inB l 0)).blocks),V0 ((Ze (inB l 0)).top),V0 ((Ze (inB l 0)).details),V0 ((Ze (inB l 0)).dslots),V0 ((Ze (inB l 0)).dover),V0 ((Ze (inB l 0)).mindex),V0 ((Ze (inB l 0)).mover)],.nilIface]) (.inr ⟨by unfold Xi;rw[d3,if_pos hs,hI.len,hz],rfl,d6⟩)
theorem Zcp(B b:Nat)(p:O0)(n c:Nat)(l:Bl)(w:World)(hI:ImgR B b p n c l w) :
 C0 43 #[P0 b] w (BlkSupP l w):=by
 refine zin 9 Tryz.func43 ?_
 refine xa 2 [P0 b] 26 fun b1 W1 n1=>?_
 refine xa 0 [V0 0,V0 0,V0 0,V0 0,V0 0,V0 0,V0 0,V0 0,V0 0,V0 0,V0 0] 24 fun b2 W2 n2=>?_
 have k1:=n1.blk.below n2.below
 refine xb 5 0 k1 ?_
 have hB:=bln n1.below n2.below
 refine xc 1 (args:=#[P0 b,V0 0,V0 1,.func (.func 92) #[] #[P0 b1]]) (readSuper B b p n c l _ (hI.below hB) b1 k1) ?_
 rintro e W3 a4
 rcases a4 with ⟨he,bf,rfl,a0,hv⟩|⟨he,rfl,a0⟩
 ·have k2:=n2.blk.below a0
  refine xsv 2 k2 [V0 0,V0 0,V0 0,V0 0,V0 0,V0 0,V0 0,V0 0,V0 0,V0 0,V0 0] fun W4 u4 k4=>?_
  have g2:=n2.ge n1.below
  have a3:=u4.below (bln hB a0) g2
  have a2:=hv.upd u4 k2 (by decide)
  exact xec 4 k4 (.tuple #[.agg #[V0 0,V0 0,V0 0,V0 0,V0 0,V0 0,V0 0,V0 0,V0 0,V0 0,V0 0],.iface 215 (P0 bf)]) (.inl ⟨he,_,rfl,a3,a2⟩)
 have k2:=n2.blk.below a0
 refine xsv 2 k2 [V0 ((Ze (inB l 0)).tx),V0 ((Ze (inB l 0)).time),V0 ((Ze (inB l 0)).unit),V0 ((Ze (inB l 0)).data),V0 ((Ze (inB l 0)).blocks),V0 ((Ze (inB l 0)).top),V0 ((Ze (inB l 0)).details),V0 ((Ze (inB l 0)).dslots),V0 ((Ze (inB l 0)).dover),V0 ((Ze (inB l 0)).mindex),V0 ((Ze (inB l 0)).mover)] fun W5 u5 k5=>?_
 have g2:=n2.ge n1.below
 have a1:=u5.below (bln hB a0) g2
 exact xec 4 k5 (.tuple #[.agg #[V0 ((Ze (inB l 0)).tx),V0 ((Ze (inB l 0)).time),V0 ((Ze (inB l 0)).unit),V0 ((Ze (inB l 0)).data),V0 ((Ze (inB l 0)).blocks),V0 ((Ze (inB l 0)).top),V0 ((Ze (inB l 0)).details),V0 ((Ze (inB l 0)).dslots),V0 ((Ze (inB l 0)).dover),V0 ((Ze (inB l 0)).mindex),V0 ((Ze (inB l 0)).mover)],.nilIface]) (.inr ⟨he,rfl,a1⟩)
theorem Kw(n lo hi:Int)(w:World) :
 C0 187 #[V0 n,V0 lo,V0 hi] w (Ret (.bool (decide (lo≤n∧n≤hi))) w):=by
 refine zin 15 Tryz.func187 ?_
 refine xg 11 [9,10] (decide (n≥lo)) (fun a0=>?_) (fun a0=>?_)
 ·have a0:=of_decide_eq_true a0
  exact xe 8 (.bool (decide (n≤hi))) ⟨by rw[show decide (lo≤n∧n≤hi)=decide (n≤hi) from by simp;omega],(B3 w)⟩
 have a0:=of_decide_eq_false a0
 exact xe 8 (.bool false) ⟨by rw[show decide (lo≤n∧n≤hi)=false from decide_eq_false (by omega)],(B3 w)⟩
theorem Zde(s:Sup)(w:World)(hb0:0≤s.blocks)(hb1:s.blocks<9223372036854775808) :
 C0 153 #[.agg #[V0 s.tx,V0 s.time,V0 s.unit,V0 s.data,V0 s.blocks,V0 s.top,V0 s.details,V0 s.dslots,V0 s.dover,V0 s.mindex,V0 s.mover]] w (Ret (.bool (Yb s)) w):=by
 refine zin 69 Tryz.func153 ?_
 refine xa 2 [V0 s.tx,V0 s.time,V0 s.unit,V0 s.data,V0 s.blocks,V0 s.top,V0 s.details,V0 s.dslots,V0 s.dover,V0 s.mindex,V0 s.mover] 24 fun b1 W1 n1=>?_
 refine xb 7 0 n1.blk ?_
 refine xr 0 (args:=#[V0 s.tx,V0 0,V0 2147483647]) (Kw s.tx 0 2147483647 _) fun W2 b4=>?_
 refine xg 2 [7,8] (!(decide ((0:Int)≤s.tx∧s.tx≤2147483647))) (fun e9=>?_) (fun e9=>?_)
 ·have f0:(decide ((0:Int)≤s.tx∧s.tx≤2147483647))=false:=Cx e9
  have hB:=bln n1.below b4
  refine xe 33 (.bool false) ?_
  have hR:Yb s=false:=by
   unfold Yb
   first|(rw[f0];done)|(rw[f0];rfl)
  rw[hR];exact⟨rfl,hB⟩
 have a5:(decide ((0:Int)≤s.tx∧s.tx≤2147483647))=true:=Cw e9
 have e6:=n1.blk.below b4
 refine xb 1 1 e6 ?_
 refine xr 0 (args:=#[V0 s.time,V0 0,V0 16777215]) (Kw s.time 0 16777215 _) fun W6 b6=>?_
 refine xg 3 [12,13,14] (!(decide ((0:Int)≤s.time∧s.time≤16777215))) (fun e7=>?_) (fun e7=>?_)
 ·have f1:(decide ((0:Int)≤s.time∧s.time≤16777215))=false:=Cx e7
  have hB:=bln (bln n1.below b4) b6
  refine xe 27 (.bool false) ?_
  have hR:Yb s=false:=by
   unfold Yb
   first|(rw[a5,f1];done)|(rw[a5,f1];rfl)
  rw[hR];exact⟨rfl,hB⟩
 have a7:(decide ((0:Int)≤s.time∧s.time≤16777215))=true:=Cw e7
 have d0:=e6.below b6
 refine xb 1 2 d0 ?_
 refine xr 0 (args:=#[V0 s.unit,V0 1,V0 65536]) (Kw s.unit 1 65536 _) fun f7 a4=>?_
 refine xg 3 [18,19,20] (!(decide ((1:Int)≤s.unit∧s.unit≤65536))) (fun b9=>?_) (fun b9=>?_)
 ·have d9:(decide ((1:Int)≤s.unit∧s.unit≤65536))=false:=Cx b9
  have hB:=bln (bln (bln n1.below b4) b6) a4
  refine xe 21 (.bool false) ?_
  have hR:Yb s=false:=by
   unfold Yb
   first|(rw[a5,a7,d9];done)|(rw[a5,a7,d9];rfl)
  rw[hR];exact⟨rfl,hB⟩
 have a0:(decide ((1:Int)≤s.unit∧s.unit≤65536))=true:=Cw b9
 have d7:=d0.below a4
 refine xb 1 3 d7 ?_
 refine xr 0 (args:=#[V0 s.data,V0 0,V0 65536]) (Kw s.data 0 65536 _) fun f9 a6=>?_
 refine xg 3 [24,25,26] (!(decide ((0:Int)≤s.data∧s.data≤65536))) (fun c5=>?_) (fun c5=>?_)
 ·have e3:(decide ((0:Int)≤s.data∧s.data≤65536))=false:=Cx c5
  have hB:=bln (bln (bln (bln n1.below b4) b6) a4) a6
  refine xe 15 (.bool false) ?_
  have hR:Yb s=false:=by
   unfold Yb
   first|(rw[a5,a7,a0,e3];done)|(rw[a5,a7,a0,e3];rfl)
  rw[hR];exact⟨rfl,hB⟩
 have a1:(decide ((0:Int)≤s.data∧s.data≤65536))=true:=Cw c5
 have d1:=d7.below a6
 refine xb 1 4 d1 ?_
 refine xr 0 (args:=#[V0 s.blocks,V0 2,V0 14400]) (Kw s.blocks 2 14400 _) fun f6 a8=>?_
 refine xi 4 (!(decide ((2:Int)≤s.blocks∧s.blocks≤14400))) (fun c7=>?_) (fun c7=>?_)
 ·have d2:(decide ((2:Int)≤s.blocks∧s.blocks≤14400))=false:=Cx c7
  have hB:=bln (bln (bln (bln (bln n1.below b4) b6) a4) a6) a8
  refine xe 7 (.bool false) ?_
  have hR:Yb s=false:=by
   unfold Yb
   first|(rw[a5,a7,a0,a1,d2];done)|(rw[a5,a7,a0,a1,d2];rfl)
  rw[hR];exact⟨rfl,hB⟩
 have a2:(decide ((2:Int)≤s.blocks∧s.blocks≤14400))=true:=Cw c7
 have c2:=d1.below a8
 refine xb 5 4 c2 ?_
 refine xw 0 (s.blocks-1) ?_
 refine xb 6 5 c2 ?_
 refine xr 1 (args:=#[V0 s.top,V0 1,V0 (s.blocks-1)]) (Kw s.top 1 (s.blocks-1) _) fun g0 b0=>?_
 refine xg 1 [38,39] (decide ((1:Int)≤s.top∧s.top≤s.blocks-1)) (fun c3=>?_) (fun c3=>?_)
 ·have a3:(decide ((1:Int)≤s.top∧s.top≤s.blocks-1))=true:=c3
  have e4:=c2.below b0
  refine xb 1 6 e4 ?_
  refine xr 1 (args:=#[V0 s.details,V0 1,V0 (s.blocks-1)]) (Kw s.details 1 (s.blocks-1) _) fun f8 b2=>?_
  refine xg 2 [43,44,45] (decide ((1:Int)≤s.details∧s.details≤s.blocks-1)) (fun c0=>?_) (fun c0=>?_)
  ·have a9:(decide ((1:Int)≤s.details∧s.details≤s.blocks-1))=true:=c0
   have d6:=e4.below b2
   refine xb 1 7 d6 ?_
   refine xr 1 (args:=#[V0 s.dslots,V0 1,V0 (s.blocks-1)]) (Kw s.dslots 1 (s.blocks-1) _) fun f2 b5=>?_
   refine xg 2 [49,50,51] (decide ((1:Int)≤s.dslots∧s.dslots≤s.blocks-1)) (fun c1=>?_) (fun c1=>?_)
   ·have b3:(decide ((1:Int)≤s.dslots∧s.dslots≤s.blocks-1))=true:=c1
    have d8:=d6.below b5
    refine xb 1 8 d8 ?_
    refine xr 1 (args:=#[V0 s.dover,V0 1,V0 (s.blocks-1)]) (Kw s.dover 1 (s.blocks-1) _) fun f3 b8=>?_
    refine xg 2 [55,56,57] (decide ((1:Int)≤s.dover∧s.dover≤s.blocks-1)) (fun c4=>?_) (fun c4=>?_)
    ·have b7:(decide ((1:Int)≤s.dover∧s.dover≤s.blocks-1))=true:=c4
     have d4:=d8.below b8
     refine xb 1 9 d4 ?_
     refine xr 1 (args:=#[V0 s.mindex,V0 1,V0 (s.blocks-1)]) (Kw s.mindex 1 (s.blocks-1) _) fun f5 c6=>?_
     refine xg 2 [61,62,63] (decide ((1:Int)≤s.mindex∧s.mindex≤s.blocks-1)) (fun c8=>?_) (fun c8=>?_)
     ·have d5:(decide ((1:Int)≤s.mindex∧s.mindex≤s.blocks-1))=true:=c8
      have e5:=d4.below c6
      refine xb 1 10 e5 ?_
      refine xr 1 (args:=#[V0 s.mover,V0 1,V0 (s.blocks-1)]) (Kw s.mover 1 (s.blocks-1) _) fun f4 e8=>?_
      have hB:=bln (bln (bln (bln (bln (bln (bln (bln (bln (bln (bln n1.below b4) b6) a4) a6) a8) b0) b2) b5) b8) c6) e8
      refine xe 5 (.bool (decide ((1:Int)≤s.mover∧s.mover≤s.blocks-1))) ?_
      have hR:Yb s=(decide ((1:Int)≤s.mover∧s.mover≤s.blocks-1)):=by
       unfold Yb
       first|(rw[a5,a7,a0,a1,a2,a3,a9,b3,b7,d5];done)|(rw[a5,a7,a0,a1,a2,a3,a9,b3,b7,d5];rfl)
      rw[hR];exact⟨rfl,hB⟩
     have c9:(decide ((1:Int)≤s.mindex∧s.mindex≤s.blocks-1))=false:=c8
     have hB:=bln (bln (bln (bln (bln (bln (bln (bln (bln (bln n1.below b4) b6) a4) a6) a8) b0) b2) b5) b8) c6
     refine xe 9 (.bool false) ?_
     have hR:Yb s=false:=by
      unfold Yb
      first|(rw[a5,a7,a0,a1,a2,a3,a9,b3,b7,c9];done)|(rw[a5,a7,a0,a1,a2,a3,a9,b3,b7,c9];rfl)
     rw[hR];exact⟨rfl,hB⟩
    have e0:(decide ((1:Int)≤s.dover∧s.dover≤s.blocks-1))=false:=c4
    have hB:=bln (bln (bln (bln (bln (bln (bln (bln (bln n1.below b4) b6) a4) a6) a8) b0) b2) b5) b8
    refine xe 15 (.bool false) ?_
    have hR:Yb s=false:=by
     unfold Yb
     first|(rw[a5,a7,a0,a1,a2,a3,a9,b3,e0];done)|(rw[a5,a7,a0,a1,a2,a3,a9,b3,e0];rfl)
    rw[hR];exact⟨rfl,hB⟩
   have e2:(decide ((1:Int)≤s.dslots∧s.dslots≤s.blocks-1))=false:=c1
   have hB:=bln (bln (bln (bln (bln (bln (bln (bln n1.below b4) b6) a4) a6) a8) b0) b2) b5
   refine xe 21 (.bool false) ?_
   have hR:Yb s=false:=by
    unfold Yb
    first|(rw[a5,a7,a0,a1,a2,a3,a9,e2];done)|(rw[a5,a7,a0,a1,a2,a3,a9,e2];rfl)
   rw[hR];exact⟨rfl,hB⟩
  have d3:(decide ((1:Int)≤s.details∧s.details≤s.blocks-1))=false:=c0
  have hB:=bln (bln (bln (bln (bln (bln (bln n1.below b4) b6) a4) a6) a8) b0) b2
  refine xe 27 (.bool false) ?_
  have hR:Yb s=false:=by
   unfold Yb
   first|(rw[a5,a7,a0,a1,a2,a3,d3];done)|(rw[a5,a7,a0,a1,a2,a3,d3];rfl)
  rw[hR];exact⟨rfl,hB⟩
 have e1:(decide ((1:Int)≤s.top∧s.top≤s.blocks-1))=false:=c3
 have hB:=bln (bln (bln (bln (bln (bln n1.below b4) b6) a4) a6) a8) b0
 refine xe 33 (.bool false) ?_
 have hR:Yb s=false:=by
  unfold Yb
  first|(rw[a5,a7,a0,a1,a2,e1];done)|(rw[a5,a7,a0,a1,a2,e1];rfl)
 rw[hR];exact⟨rfl,hB⟩
theorem Zad(l:Bl)(d:Nat):∀ (w k:Nat),Zi (l.drop d) k w=Zi l (d+k) w
 | 0,k=>rfl
 | w+1,k=>by
  rw[Zi,Zi,Zad l d w (k+1)]
  simp[List.getD,Nat.add_assoc]
theorem unpL_lt(l:Bl)(k:Nat)(ws:List Nat)(h:∀ x∈ws,x≤4)(i:Nat)(hi:i<ws.length):(Hf l k ws).getD i 0<9223372036854775808:=by
 rw[Po l ws k i hi]
 have:=Ym l (k+(ws.take i).sum) (ws.getD i 0) (h _ (by simp[List.getD,hi]))
 omega
def Jq(l:Bl):List Nat:=[Zi l 8 4,Zi l 12 4,Zi l 16 4,Zi l 20 4,Zi l 24 4,Zi l 28 4,Zi l 32 4,Zi l 36 4,Zi l 40 4,Zi l 44 4,Zi l 48 4,Zi l 52 4]
theorem sup12_eq(l:Bl):Hf (l.drop 8) 0 [4,4,4,4,4,4,4,4,4,4,4,4]=Jq l:=by
 simp[Hf,Zad,Jq]
theorem bysD{w:World}{a:O0}{c:Nat}{l:Bl}(h:Bys w (.slice a 244 c) l)(hl:l.length=244):Bys w (.slice (Qz a 8 c 1) (244-8) (c-8)) (l.drop 8):=by
 have:=Bys.cut h hl 8 244 (by decide) (by decide)
 rwa [List.take_of_length_le (by simp;omega)] at this
theorem bysE{w:World}{a:O0}{c:Nat}{l:Bl}(h:Bys w (.slice a 244 c) l)(hl:l.length=244):Bys w (.slice (Qz a 56 c 1) (244-56) (c-56)) (l.drop 56):=by
 have:=Bys.cut h hl 56 244 (by decide) (by decide)
 rwa [List.take_of_length_le (by simp;omega)] at this
theorem Zhb(a:O0)(c:Nat)(l:Bl)(w:World)(hl:l.length=244)(h:Bys w (.slice a 244 c) l) :
 C0 96 #[.slice a 244 c] w (SupP l w):=by
 have d2:=Bys.cap h hl
 refine zin 75 Tryz.func96 ?_
 refine xa 2 [V0 0,V0 0,V0 0,V0 0,V0 0,V0 0,V0 0,V0 0,V0 0,V0 0,V0 0] 24 fun b1 W1 n1=>?_
 refine xsH 11 (fun _ _ _ _ zo zx zy V=>Ys (k:=8) (b:=a) (n:=244) (c:=c) (i:=8) (ki:=.i64) zo zx zy rfl (by omega) Tryz.underlying22 (by kernel_rfl) V) ?_
 refine xcv0 0 (fun _ _ _ zo zx=>Jf zo zx ((Bys.take h hl 8 (by decide)).below n1.below) (by simp;omega) Tryz.underlying22 Tryz.underlying5 Tryz.underlying9) ?_
 refine xi 4 (!((⟨(l.take 8).toArray⟩:ByteArray).toList==(⟨#[83,67,65,78,84,76,73,78]⟩:ByteArray).toList)) (fun c2=>?_) (fun c2=>?_)
 ·have d0:(l.take 8==Wd)=false:=by rw[←Lk];exact Cx c2
  refine xsv 3 n1.blk [V0 0,V0 0,V0 0,V0 0,V0 0,V0 0,V0 0,V0 0,V0 0,V0 0,V0 0] fun W3 u3 k3=>?_
  have g1:=n1.ge (B3 w)
  have c0:=u3.below n1.below g1
  exact xec 5 k3 (.tuple #[.agg #[V0 0,V0 0,V0 0,V0 0,V0 0,V0 0,V0 0,V0 0,V0 0,V0 0,V0 0],V0 7]) (.inl ⟨by unfold Iw;simp_all,rfl,c0⟩)
 have d0:(l.take 8==Wd)=true:=by rw[←Lk];exact Cw c2
 refine xsL 5 (fun _ _ _ _ zo zx zy V=>Yu (k:=8) (b:=a) (n:=244) (c:=c) (i:=8) (ki:=.i64) 1 zo zx zy rfl (by omega) Tryz.underlying22 (by kernel_rfl) V) ?_
 refine xbs 0 12 [V0 4,V0 4,V0 4,V0 4,V0 4,V0 4,V0 4,V0 4,V0 4,V0 4,V0 4,V0 4] 3 fun b4 W4 n4=>?_
 have g4:=n4.ge n1.below
 have b2:=bln n1.below n4.below
 refine xc 0 (args:=#[.slice (Qz a 8 c 1) (244-8) (c-8),.slice (S1 b4) 12 12]) (Rl (Qz a 8 c 1) (244-8) (c-8) (l.drop 8) (S1 b4) 12 12 [4,4,4,4,4,4,4,4,4,4,4,4] (Jq l) _ (by simp;omega) rfl (sup12_eq l) (by decide) (by decide) (by decide) (by decide) ((bysD h hl).below b2) (n4.blk.sl 12 12 (by decide) (by decide)) (unpL_lt _ _ _ (by decide))) ?_
 rintro _ W5 ⟨_,rfl,c7,p5,c5,rfl,h5⟩
 have d6:=(bln n1.below n4.below).size
 refine xd 8 (.t w.heap.size [24]) ?_
 have a0:=Zb (Zg h5 d6) (Za W5)
 refine xx (.e [0] 1) _ 12 1 1 (Zm (l:=Jq l) (Zh a0) rfl (k:=1) (by decide)).1 ?_
 refine xlt (.e [] 2) (.t w.heap.size [24]) (fun V hV=>(Zm (l:=Jq l) (Zh (Zl a0 hV.2 (by decide))) rfl (k:=1) (by decide)).2) ?_
 refine xx (.e [3] 4) _ 12 2 1 (Zm (l:=Jq l) (Zh a0) rfl (k:=2) (by decide)).1 ?_
 refine xlt (.e [] 5) (.t w.heap.size [24]) (fun V hV=>(Zm (l:=Jq l) (Zh (Zl a0 hV.2 (by decide))) rfl (k:=2) (by decide)).2) ?_
 refine xx (.e [6] 7) _ 12 3 1 (Zm (l:=Jq l) (Zh a0) rfl (k:=3) (by decide)).1 ?_
 refine xlt (.e [] 8) (.t w.heap.size [24]) (fun V hV=>(Zm (l:=Jq l) (Zh (Zl a0 hV.2 (by decide))) rfl (k:=3) (by decide)).2) ?_
 refine xx (.e [9] 10) _ 12 4 1 (Zm (l:=Jq l) (Zh a0) rfl (k:=4) (by decide)).1 ?_
 refine xlt (.e [] 11) (.t w.heap.size [24]) (fun V hV=>(Zm (l:=Jq l) (Zh (Zl a0 hV.2 (by decide))) rfl (k:=4) (by decide)).2) ?_
 refine xx (.e [12] 13) _ 12 5 1 (Zm (l:=Jq l) (Zh a0) rfl (k:=5) (by decide)).1 ?_
 refine xlt (.e [] 14) (.t w.heap.size [24]) (fun V hV=>(Zm (l:=Jq l) (Zh (Zl a0 hV.2 (by decide))) rfl (k:=5) (by decide)).2) ?_
 refine xx (.e [15] 16) _ 12 6 1 (Zm (l:=Jq l) (Zh a0) rfl (k:=6) (by decide)).1 ?_
 refine xlt (.e [] 17) (.t w.heap.size [24]) (fun V hV=>(Zm (l:=Jq l) (Zh (Zl a0 hV.2 (by decide))) rfl (k:=6) (by decide)).2) ?_
 refine xx (.e [18] 19) _ 12 7 1 (Zm (l:=Jq l) (Zh a0) rfl (k:=7) (by decide)).1 ?_
 refine xlt (.e [] 20) (.t w.heap.size [24]) (fun V hV=>(Zm (l:=Jq l) (Zh (Zl a0 hV.2 (by decide))) rfl (k:=7) (by decide)).2) ?_
 refine xx (.e [21] 22) _ 12 8 1 (Zm (l:=Jq l) (Zh a0) rfl (k:=8) (by decide)).1 ?_
 refine xlt (.e [] 23) (.t w.heap.size [24]) (fun V hV=>(Zm (l:=Jq l) (Zh (Zl a0 hV.2 (by decide))) rfl (k:=8) (by decide)).2) ?_
 refine xx (.e [24] 25) _ 12 9 1 (Zm (l:=Jq l) (Zh a0) rfl (k:=9) (by decide)).1 ?_
 refine xlt (.e [] 26) (.t w.heap.size [24]) (fun V hV=>(Zm (l:=Jq l) (Zh (Zl a0 hV.2 (by decide))) rfl (k:=9) (by decide)).2) ?_
 refine xx (.e [27] 28) _ 12 10 1 (Zm (l:=Jq l) (Zh a0) rfl (k:=10) (by decide)).1 ?_
 refine xlt (.e [] 29) (.t w.heap.size [24]) (fun V hV=>(Zm (l:=Jq l) (Zh (Zl a0 hV.2 (by decide))) rfl (k:=10) (by decide)).2) ?_
 refine xx (.e [30] 31) _ 12 11 1 (Zm (l:=Jq l) (Zh a0) rfl (k:=11) (by decide)).1 ?_
 refine xlt (.e [] 32) (.t w.heap.size [24]) (fun V hV=>(Zm (l:=Jq l) (Zh (Zl a0 hV.2 (by decide))) rfl (k:=11) (by decide)).2) ?_
 refine xa (.o [33] 34) [V0 0,V0 0,V0 0,V0 0,V0 0,V0 0,V0 0,V0 0,V0 0,V0 0,V0 0] 24 fun b6 W6 n6=>?_
 have k1:=((n1.blk.below n4.below).below c7).below (Za W5)
 have a2:=n6.ne k1
 have a6:=bln (bln b2 c7) (Za W5)
 have g6:=n6.ge a6
 refine ysv (.o [] 35) n6.blk [V0 (↑(Zi l 12 4):Int),V0 (↑(Zi l 16 4):Int),V0 (↑(Zi l 20 4):Int),V0 (↑(Zi l 24 4):Int),V0 (↑(Zi l 28 4):Int),V0 (↑(Zi l 32 4):Int),V0 (↑(Zi l 36 4):Int),V0 (↑(Zi l 40 4):Int),V0 (↑(Zi l 44 4):Int),V0 (↑(Zi l 48 4):Int),V0 (↑(Zi l 52 4):Int)] (.t w.heap.size [24]) fun W7 u7 k7=>⟨(Zo u7 n6.blk g6 (by decide)),?_⟩
 have b0:=u7.own2 (Zb a0 n6.below) n6.blk (by decide)
 refine xx 6 _ 12 0 1 (Zm (l:=Jq l) (Zh b0) rfl (k:=0) (by decide)).1 ?_
 refine xl 0 ((Zm (l:=Jq l) (Zh b0) rfl (k:=0) (by decide)).2) ?_
 refine xg 2 [61,62] ((↑(Zi l 8 4):Int) != (1:Int)) (fun a9=>?_) (fun a9=>?_)
 ·have a9:=Vl a9
  have c9:decide (Zi l 8 4=1)=false:=decide_eq_false (by omega)
  have c6:=u7.blk (k1.below n6.below) (Ne.symm (Ne.symm a2))
  refine xsv 16 c6 [V0 0,V0 0,V0 0,V0 0,V0 0,V0 0,V0 0,V0 0,V0 0,V0 0,V0 0] fun W9 u9 k9=>?_
  have g1:=n1.ge (B3 w)
  have c4:=u9.below (u7.below (bln a6 n6.below) g6) g1
  exact xec 5 k9 (.tuple #[.agg #[V0 0,V0 0,V0 0,V0 0,V0 0,V0 0,V0 0,V0 0,V0 0,V0 0,V0 0],V0 7]) (.inl ⟨by unfold Iw;simp_all,rfl,c4⟩)
 have a9:=Xp a9
 have c9:decide (Zi l 8 4=1)=true:=decide_eq_true (by omega)
 refine xsL 1 (fun _ _ _ _ zo zx zy V=>Yu (k:=56) (b:=a) (n:=244) (c:=c) (i:=56) (ki:=.i64) 1 zo zx zy rfl (by omega) Tryz.underlying22 (by kernel_rfl) V) ?_
 have a4:=u7.below (bln a6 n6.below) g6
 refine xr 0 (args:=#[.slice (Qz a 56 c 1) (244-56) (c-56)]) (We (Qz a 56 c 1) (244-56) (c-56) (l.drop 56) _ (by simp;omega) (by decide) ((bysE h hl).below a4)) fun e3 a1=>?_
 refine xg 3 [66,67,68] (!(Vg (l.drop 56))) (fun a5=>?_) (fun a5=>?_)
 ·have d1:Vg (l.drop 56)=false:=Cx a5
  have b3:=(u7.blk (k1.below n6.below) (Ne.symm (Ne.symm a2))).below a1
  refine xsv 10 b3 [V0 0,V0 0,V0 0,V0 0,V0 0,V0 0,V0 0,V0 0,V0 0,V0 0,V0 0] fun e0 d5 d4=>?_
  have g1:=n1.ge (B3 w)
  have b7:=d5.below (bln a4 a1) g1
  exact xec 5 d4 (.tuple #[.agg #[V0 0,V0 0,V0 0,V0 0,V0 0,V0 0,V0 0,V0 0,V0 0,V0 0,V0 0],V0 7]) (.inl ⟨by unfold Iw;simp_all,rfl,b7⟩)
 have d1:Vg (l.drop 56)=true:=Cw a5
 have a8:=k7.below a1
 refine xlv 0 a8.rp ?_
 refine xr 0 (args:=#[.agg #[V0 (↑(Zi l 12 4):Int),V0 (↑(Zi l 16 4):Int),V0 (↑(Zi l 20 4):Int),V0 (↑(Zi l 24 4):Int),V0 (↑(Zi l 28 4):Int),V0 (↑(Zi l 32 4):Int),V0 (↑(Zi l 36 4):Int),V0 (↑(Zi l 40 4):Int),V0 (↑(Zi l 44 4):Int),V0 (↑(Zi l 48 4):Int),V0 (↑(Zi l 52 4):Int)]]) (Zde (Ze l) _ (Iu l).1 (Iu l).2) fun e1 a3=>?_
 refine xi 4 (!(Yb (Ze l))) (fun a7=>?_) (fun a7=>?_)
 ·have c8:Yb (Ze l)=false:=Cx a7
  have b9:=((u7.blk (k1.below n6.below) (Ne.symm (Ne.symm a2))).below a1).below a3
  refine xsv 3 b9 [V0 0,V0 0,V0 0,V0 0,V0 0,V0 0,V0 0,V0 0,V0 0,V0 0,V0 0] fun e4 d8 d7=>?_
  have g1:=n1.ge (B3 w)
  have c1:=d8.below (bln (bln a4 a1) a3) g1
  exact xec 5 d7 (.tuple #[.agg #[V0 0,V0 0,V0 0,V0 0,V0 0,V0 0,V0 0,V0 0,V0 0,V0 0,V0 0],V0 7]) (.inl ⟨by unfold Iw;simp_all,rfl,c1⟩)
 have c8:Yb (Ze l)=true:=Cw a7
 have c3:=a8.below a3
 refine xlv 4 c3.rp ?_
 have b5:=((u7.blk (k1.below n6.below) (Ne.symm (Ne.symm a2))).below a1).below a3
 refine xsv 0 b5 [V0 (↑(Zi l 12 4):Int),V0 (↑(Zi l 16 4):Int),V0 (↑(Zi l 20 4):Int),V0 (↑(Zi l 24 4):Int),V0 (↑(Zi l 28 4):Int),V0 (↑(Zi l 32 4):Int),V0 (↑(Zi l 36 4):Int),V0 (↑(Zi l 40 4):Int),V0 (↑(Zi l 44 4):Int),V0 (↑(Zi l 48 4):Int),V0 (↑(Zi l 52 4):Int)] fun e2 d3 d9=>?_
 have g1:=n1.ge (B3 w)
 have b8:=d3.below (bln (bln a4 a1) a3) g1
 exact xec 4 d9 (.tuple #[.agg #[V0 (↑(Zi l 12 4):Int),V0 (↑(Zi l 16 4):Int),V0 (↑(Zi l 20 4):Int),V0 (↑(Zi l 24 4):Int),V0 (↑(Zi l 28 4):Int),V0 (↑(Zi l 32 4):Int),V0 (↑(Zi l 36 4):Int),V0 (↑(Zi l 40 4):Int),V0 (↑(Zi l 44 4):Int),V0 (↑(Zi l 48 4):Int),V0 (↑(Zi l 52 4):Int)],V0 0]) (.inr ⟨by unfold Iw;rw[d0,c9,d1,c8];rfl,rfl,b8⟩)
def RBlkSupP(l:Bl)(w:World)(e:Ending)(w':World):Prop :=
 (Xi l≠0∧∃ a c,e=.returned (.tuple #[.agg #[V0 0,V0 0,V0 0,V0 0,V0 0,V0 0,V0 0,V0 0,V0 0,V0 0,V0 0],.agg #[.slice a 1 c,V0 (Xi l)]])∧B0 w w'∧w'.ownsRow w.heap.size 3 1 (.slice a 1 c) 1 [V0 0]) ∨
 (Xi l=0∧e=.returned (.tuple #[.agg #[V0 ((Ze (inB l 0)).tx),V0 ((Ze (inB l 0)).time),V0 ((Ze (inB l 0)).unit),V0 ((Ze (inB l 0)).data),V0 ((Ze (inB l 0)).blocks),V0 ((Ze (inB l 0)).top),V0 ((Ze (inB l 0)).details),V0 ((Ze (inB l 0)).dslots),V0 ((Ze (inB l 0)).dover),V0 ((Ze (inB l 0)).mindex),V0 ((Ze (inB l 0)).mover)],.agg #[S0,V0 0]])∧B0 w w')
theorem Zc8(B bm:Nat)(p:O0)(k c:Nat)(l:Bl)(w:World)(hI:RefI B bm p k c l w) :
 C0 44 #[P0 bm] w (RBlkSupP l w):=by
 have f6:=hI.blk
 have e7:l.length/256=k:=by rw[hI.hl];omega
 refine zin 40 Tryz.func44 ?_
 refine xa 2 [V0 0,V0 0,V0 0,V0 0,V0 0,V0 0,V0 0,V0 0,V0 0,V0 0,V0 0] 24 fun b1 W1 n1=>?_
 refine xa 0 [S0,V0 0] 52 fun b2 W2 n2=>?_
 have hB:=bln n1.below n2.below
 refine xc 5 (args:=#[P0 bm,V0 0,V0 1]) (Zd0 B bm p k c l _ (hI.below hB) 0 1) ?_
 rintro e W3 f5
 rcases f5 with ⟨a9,rfl,a1⟩|⟨a9,e6,p3,c3,rfl,a1,h3⟩
 ·refine xk 14 (show(((inE l 1 0) != (0:Int)):Bool)=true from bne_iff_ne.2 a9) ?_
  refine xc 4 (args:=#[V0 0,V0 (inE l 1 0)]) (Qp 0 (inE l 1 0) _ a9) ?_
  rintro _ W4 ⟨_,rfl,d3,a5,c5,rfl,c2⟩
  have g3:=(bln hB a1).size
  have k1:=((n1.blk.below n2.below).below a1).below d3
  refine xsv 0 k1 [V0 0,V0 0,V0 0,V0 0,V0 0,V0 0,V0 0,V0 0,V0 0,V0 0,V0 0] fun W5 u5 k5=>?_
  have g1:=n1.ge (B3 w)
  have k2:=u5.blkT ((n2.blk.below a1).below d3) k1 (by decide)
  refine xsv 0 k2 [.slice a5 1 c5,V0 (inE l 1 0)] fun W6 u6 k6=>?_
  have g2:=n2.ge n1.below
  have e2:=u6.below (u5.below (bln (bln hB a1) d3) g1) g2
  have c4:=u6.own2 (u5.own2 (Zg c2 g3) k1 (by decide)) k2 (by decide)
  have d4:=u6.blkT k5 k2 (by decide)
  refine Nq 4 [(b1,[V0 0,V0 0,V0 0,V0 0,V0 0,V0 0,V0 0,V0 0,V0 0,V0 0,V0 0]),(b2,[.slice a5 1 c5,V0 (inE l 1 0)])] ⟨⟨_,d4⟩,⟨_,k6⟩,trivial⟩ (.tuple #[.agg #[V0 0,V0 0,V0 0,V0 0,V0 0,V0 0,V0 0,V0 0,V0 0,V0 0,V0 0],.agg #[.slice a5 1 c5,V0 (inE l 1 0)]]) ?_
  have he:Xi l=(inE l 1 0):=by unfold Xi;rw[if_neg a9]
  exact .inl ⟨by rw[he];exact a9,_,_,by rw[he],e2,c4⟩
 have f3:=(bln n1.below n2.below).size
 have d2:=Zg h3 f3
 refine xc 20 (args:=#[.slice p3 244 c3]) (Zhb p3 c3 (inB l 0) _ e6 (Ko (Zh d2) e6)) ?_
 rintro e W7 f0
 rcases f0 with ⟨d0,rfl,a3⟩|⟨d0,rfl,a3⟩
 ·refine xa 3 [V0 0,V0 0,V0 0,V0 0,V0 0,V0 0,V0 0,V0 0,V0 0,V0 0,V0 0] 24 fun b8 W8 n8=>?_
  have k1:=((n1.blk.below n2.below).below a1).below a3
  have c7:=n8.ne k1
  have b4:=bln (bln hB a1) a3
  have g8:=n8.ge b4
  refine xsv 0 n8.blk [V0 0,V0 0,V0 0,V0 0,V0 0,V0 0,V0 0,V0 0,V0 0,V0 0,V0 0] fun W9 u9 k9=>?_
  refine xc 15 (args:=#[V0 0,V0 7]) (Qp 0 7 _ (by decide)) ?_
  rintro _ h1 ⟨_,rfl,b5,a5,c5,rfl,c2⟩
  have d6:=(u9.below (bln b4 n8.below) g8).size
  have b6:=(u9.blk (k1.below n8.below) (Ne.symm (Ne.symm c7))).below b5
  refine xsv 0 b6 [V0 0,V0 0,V0 0,V0 0,V0 0,V0 0,V0 0,V0 0,V0 0,V0 0,V0 0] fun h2 d7 f8=>?_
  have g1:=n1.ge (B3 w)
  have k2:=d7.blkT ((u9.blkT (((n2.blk.below a1).below a3).below n8.below) n8.blk (by decide)).below b5) b6 (by decide)
  refine xsv 0 k2 [.slice a5 1 c5,V0 7] fun g4 e0 f4=>?_
  have g2:=n2.ge n1.below
  have d8:=e0.below (d7.below (bln (u9.below (bln b4 n8.below) g8) b5) g1) g2
  have c9:=e0.own2 (d7.own2 (Zg c2 d6) b6 (by decide)) k2 (by decide)
  have c8:=e0.blkT f8 k2 (by decide)
  refine Nq 4 [(b1,[V0 0,V0 0,V0 0,V0 0,V0 0,V0 0,V0 0,V0 0,V0 0,V0 0,V0 0]),(b2,[.slice a5 1 c5,V0 7])] ⟨⟨_,c8⟩,⟨_,f4⟩,trivial⟩ (.tuple #[.agg #[V0 0,V0 0,V0 0,V0 0,V0 0,V0 0,V0 0,V0 0,V0 0,V0 0,V0 0],.agg #[.slice a5 1 c5,V0 7]]) ?_
  have he:Xi l=7:=by unfold Xi Ur;rw[if_pos a9,d0,if_neg (by decide)]
  exact .inl ⟨by rw[he];decide,_,_,by rw[he],d8,c9⟩
 refine xa 3 [V0 0,V0 0,V0 0,V0 0,V0 0,V0 0,V0 0,V0 0,V0 0,V0 0,V0 0] 24 fun g9 g5 a0=>?_
 have k1:=((n1.blk.below n2.below).below a1).below a3
 have a2:=a0.ne k1
 have a6:=bln (bln hB a1) a3
 have e1:=a0.ge a6
 refine xsv 0 a0.blk [V0 ((Ze (inB l 0)).tx),V0 ((Ze (inB l 0)).time),V0 ((Ze (inB l 0)).unit),V0 ((Ze (inB l 0)).data),V0 ((Ze (inB l 0)).blocks),V0 ((Ze (inB l 0)).top),V0 ((Ze (inB l 0)).details),V0 ((Ze (inB l 0)).dslots),V0 ((Ze (inB l 0)).dover),V0 ((Ze (inB l 0)).mindex),V0 ((Ze (inB l 0)).mover)] fun a4 a7 f7=>?_
 refine xd 15 .z ?_
 have a8:=f7.below (Za a4)
 refine xb (.e [0] 1) 4 a8 ?_
 have c6:=(a7.blkT (((((f6.below n1.below).below n2.below).below a1).below a3).below a0.below) a0.blk (by decide)).below (Za a4)
 refine xb (.e [2,3,4] 5) 0 c6 ?_
 refine xid (.r [6,7] 2) ((Ze (inB l 0)).blocks>(k:Int)) (fun e3=>?_) (fun e3=>?_)
 ·refine xc 3 (args:=#[V0 0,V0 2]) (Qp 0 2 _ (by decide)) ?_
  rintro _ g6 ⟨_,rfl,b3,a5,c5,rfl,c2⟩
  have d9:=(bln (a7.below (bln a6 a0.below) e1) (Za a4)).size
  have b0:=((a7.blk (k1.below a0.below) (Ne.symm (Ne.symm a2))).below (Za a4)).below b3
  refine xsv 0 b0 [V0 0,V0 0,V0 0,V0 0,V0 0,V0 0,V0 0,V0 0,V0 0,V0 0,V0 0] fun h4 e5 f1=>?_
  have g1:=n1.ge (B3 w)
  have k2:=e5.blkT (((a7.blkT (((n2.blk.below a1).below a3).below a0.below) a0.blk (by decide)).below (Za a4)).below b3) b0 (by decide)
  refine xsv 0 k2 [.slice a5 1 c5,V0 2] fun h0 e4 f2=>?_
  have g2:=n2.ge n1.below
  have d1:=e4.below (e5.below (bln (bln (a7.below (bln a6 a0.below) e1) (Za a4)) b3) g1) g2
  have c0:=e4.own2 (e5.own2 (Zg c2 d9) b0 (by decide)) k2 (by decide)
  have b9:=e4.blkT f1 k2 (by decide)
  refine Nq 4 [(b1,[V0 0,V0 0,V0 0,V0 0,V0 0,V0 0,V0 0,V0 0,V0 0,V0 0,V0 0]),(b2,[.slice a5 1 c5,V0 2])] ⟨⟨_,b9⟩,⟨_,f2⟩,trivial⟩ (.tuple #[.agg #[V0 0,V0 0,V0 0,V0 0,V0 0,V0 0,V0 0,V0 0,V0 0,V0 0,V0 0],.agg #[.slice a5 1 c5,V0 2]]) ?_
  have he:Xi l=2:=by unfold Xi Ur;rw[if_pos a9,if_pos d0,e7,if_pos (by omega)]
  exact .inl ⟨by rw[he];decide,_,_,by rw[he],d1,c0⟩
 refine xlv 4 a8.rp ?_
 have c1:=(a7.blk (k1.below a0.below) (Ne.symm (Ne.symm a2))).below (Za a4)
 refine xsv 1 c1 [V0 ((Ze (inB l 0)).tx),V0 ((Ze (inB l 0)).time),V0 ((Ze (inB l 0)).unit),V0 ((Ze (inB l 0)).data),V0 ((Ze (inB l 0)).blocks),V0 ((Ze (inB l 0)).top),V0 ((Ze (inB l 0)).details),V0 ((Ze (inB l 0)).dslots),V0 ((Ze (inB l 0)).dover),V0 ((Ze (inB l 0)).mindex),V0 ((Ze (inB l 0)).mover)] fun g7 e8 f9=>?_
 have g1:=n1.ge (B3 w)
 have k2:=e8.blkT ((a7.blkT (((n2.blk.below a1).below a3).below a0.below) a0.blk (by decide)).below (Za a4)) c1 (by decide)
 refine xsv 0 k2 [S0,V0 0] fun h5 e9 g0=>?_
 have g2:=n2.ge n1.below
 have d5:=e9.below (e8.below (bln (a7.below (bln a6 a0.below) e1) (Za a4)) g1) g2
 have b7:=e9.blkT f9 k2 (by decide)
 exact Nq 3 [(b1,[V0 ((Ze (inB l 0)).tx),V0 ((Ze (inB l 0)).time),V0 ((Ze (inB l 0)).unit),V0 ((Ze (inB l 0)).data),V0 ((Ze (inB l 0)).blocks),V0 ((Ze (inB l 0)).top),V0 ((Ze (inB l 0)).details),V0 ((Ze (inB l 0)).dslots),V0 ((Ze (inB l 0)).dover),V0 ((Ze (inB l 0)).mindex),V0 ((Ze (inB l 0)).mover)]),(b2,[S0,V0 0])] ⟨⟨_,b7⟩,⟨_,g0⟩,trivial⟩ (.tuple #[.agg #[V0 ((Ze (inB l 0)).tx),V0 ((Ze (inB l 0)).time),V0 ((Ze (inB l 0)).unit),V0 ((Ze (inB l 0)).data),V0 ((Ze (inB l 0)).blocks),V0 ((Ze (inB l 0)).top),V0 ((Ze (inB l 0)).details),V0 ((Ze (inB l 0)).dslots),V0 ((Ze (inB l 0)).dover),V0 ((Ze (inB l 0)).mindex),V0 ((Ze (inB l 0)).mover)],.agg #[S0,V0 0]]) (.inr ⟨by unfold Xi Ur;rw[if_pos a9,if_pos d0,e7,if_neg (by omega)],rfl,d5⟩)
def Us(l:Bl)(fuel:Int):List Int×Int×List Dv:=if Xi l≠0 then([0],Xi l,[]) else Yk l (Ze (inB l 0)).top (Ze (inB l 0)).details (Ze (inB l 0)).data fuel
theorem Zbc{l:Bl}{fuel:Int}(h:Xi l≠0):Us l fuel=([0],Xi l,[]):=if_pos h
theorem Pr{l:Bl}{fuel:Int}(h:Xi l=0):Us l fuel=Yk l (Ze (inB l 0)).top (Ze (inB l 0)).details (Ze (inB l 0)).data fuel:=if_neg (fun q=>q h)
def LPoolP(O:List Int×Int×List Dv)(S:Sup)(w:World)(e:Ending)(w':World):Prop :=
 (O.2.1≠0∧∃ ty v,e=.returned (.tuple #[.agg #[V0 0,V0 0,V0 0,V0 0,S0],.agg #[V0 0,V0 0,V0 0,V0 0,V0 0,V0 0,V0 0,V0 0,V0 0,V0 0,V0 0],.iface ty v])∧B0 w w'∧Vw w' (O.1.map some) (some O.2.1) (.iface ty v)) ∨
 (O.2.1=0∧∃ p c Z,e=.returned (.tuple #[.agg #[V0 S.tx,V0 S.time,V0 S.unit,V0 S.data,.slice p O.2.2.length c],.agg #[V0 S.tx,V0 S.time,V0 S.unit,V0 S.data,V0 S.blocks,V0 S.top,V0 S.details,V0 S.dslots,V0 S.dover,V0 S.mindex,V0 S.mover],.nilIface])∧B0 w w'∧Gu O w' p c Z)
theorem Za6{O:List Int×Int×List Dv}{S:Sup}{bl:List Int}{er:Int}{L:List Dv}{w W:World}{ty:TypeId}{v:Value}(h:O=(bl,er,L))(her:er≠0)(hb:B0 w W)(hv:Vw W (bl.map some) (some er) (.iface ty v)):LPoolP O S w (.returned (.tuple #[.agg #[V0 0,V0 0,V0 0,V0 0,S0],.agg #[V0 0,V0 0,V0 0,V0 0,V0 0,V0 0,V0 0,V0 0,V0 0,V0 0,V0 0],.iface ty v])) W:=by
 subst h;exact .inl ⟨her,ty,v,rfl,hb,hv⟩
theorem lpool_ok{O O':List Int×Int×List Dv}{S:Sup}{w W:World}{p:O0}{c:Nat}{Z:List Zv}(h:O=O')(her:O'.2.1=0)(hb:B0 w W)(hD:Gu O' W p c Z):LPoolP O S w (.returned (.tuple #[.agg #[V0 S.tx,V0 S.time,V0 S.unit,V0 S.data,.slice p O'.2.2.length c],.agg #[V0 S.tx,V0 S.time,V0 S.unit,V0 S.data,V0 S.blocks,V0 S.top,V0 S.details,V0 S.dslots,V0 S.dover,V0 S.mindex,V0 S.mover],.nilIface])) W:=by
 subst h;exact .inr ⟨her,p,c,Z,rfl,hb,hD⟩
def Za3(O:List Int×Int×List Dv)(S:Sup)(w:World)(e:Ending)(w':World):Prop :=
 (O.2.1≠0∧∃ a c,e=.returned (.tuple #[.agg #[V0 0,V0 0,V0 0,V0 0,S0],.agg #[V0 0,V0 0,V0 0,V0 0,V0 0,V0 0,V0 0,V0 0,V0 0,V0 0,V0 0],.agg #[.slice a O.1.length c,V0 O.2.1]])∧B0 w w'∧w'.ownsRow w.heap.size 3 1 (.slice a O.1.length c) O.1.length (O.1.map V0)) ∨
 (O.2.1=0∧∃ p c Z,e=.returned (.tuple #[.agg #[V0 S.tx,V0 S.time,V0 S.unit,V0 S.data,.slice p O.2.2.length c],.agg #[V0 S.tx,V0 S.time,V0 S.unit,V0 S.data,V0 S.blocks,V0 S.top,V0 S.details,V0 S.dslots,V0 S.dover,V0 S.mindex,V0 S.mover],.agg #[S0,V0 0]])∧B0 w w'∧Gu O w' p c Z)
theorem Zax{O:List Int×Int×List Dv}{S:Sup}{bl:List Int}{er:Int}{L:List Dv}{m c:Nat}{w W:World}{a:O0}(h:O=(bl,er,L))(her:er≠0)(hm:bl.length=m)(hb:B0 w W)(ho:W.ownsRow w.heap.size 3 1 (.slice a m c) m (bl.map V0)):Za3 O S w (.returned (.tuple #[.agg #[V0 0,V0 0,V0 0,V0 0,S0],.agg #[V0 0,V0 0,V0 0,V0 0,V0 0,V0 0,V0 0,V0 0,V0 0,V0 0,V0 0],.agg #[.slice a m c,V0 er]])) W:=by
 subst h hm;exact .inl ⟨her,a,c,rfl,hb,ho⟩
theorem rpool_ok{O O':List Int×Int×List Dv}{S:Sup}{w W:World}{p:O0}{c:Nat}{Z:List Zv}(h:O=O')(her:O'.2.1=0)(hb:B0 w W)(hD:Gu O' W p c Z):Za3 O S w (.returned (.tuple #[.agg #[V0 S.tx,V0 S.time,V0 S.unit,V0 S.data,.slice p O'.2.2.length c],.agg #[V0 S.tx,V0 S.time,V0 S.unit,V0 S.data,V0 S.blocks,V0 S.top,V0 S.details,V0 S.dslots,V0 S.dover,V0 S.mindex,V0 S.mover],.agg #[S0,V0 0]])) W:=by
 subst h;exact .inr ⟨her,p,c,Z,rfl,hb,hD⟩
theorem Ru(B bm:Nat)(p:O0)(k c:Nat)(l:Bl)(top details data fuel:Int)(w:World)(hI:RefI B bm p k c l w)(hfu:fuel≤1000):C0 45 #[P0 bm,V0 top,V0 details,V0 data,V0 fuel] w (fun e w' =>
 ((Yk l top details data fuel).2.1≠0∧∃ a c,e=.returned (.tuple #[S0,.agg #[.slice a (Yk l top details data fuel).1.length c,V0 (Yk l top details data fuel).2.1]])∧B0 w w'∧w'.ownsRow w.heap.size 3 1 (.slice a (Yk l top details data fuel).1.length c) (Yk l top details data fuel).1.length ((Yk l top details data fuel).1.map V0)) ∨
 ((Yk l top details data fuel).2.1=0∧∃ p c Z,e=.returned (.tuple #[.slice p (Yk l top details data fuel).2.2.length c,.agg #[S0,V0 0]])∧B0 w w'∧Gu (Yk l top details data fuel) w' p c Z)):=by
 refine(Ap B bm p k c l top details data fuel w hI hfu).mono ?_
 rintro e W q
 rcases q with q|⟨h,p,c,Z,rfl,hb,hZ,hM,ho⟩
 ·exact .inl q
 ·exact .inr ⟨h,p,c,Z,rfl,hb,Zdw hZ hM ho⟩
theorem load_Pool(Bi b:Nat)(pi:O0)(ni ci:Nat)(l:Bl)(fuel:Int)(w:World)(hI:ImgR Bi b pi ni ci l w)(hfu:fuel≤1000) :
 C0 14 #[P0 b,V0 fuel] w (LPoolP (Us l fuel) (Ze (inB l 0)) w):=by
 refine zin 48 Tryz.func14 ?_
 refine xa 2 [V0 0,V0 0,V0 0,V0 0,S0] 48 fun b1 W1 n1=>?_
 refine xa 0 [V0 0,V0 0,V0 0,V0 0,V0 0,V0 0,V0 0,V0 0,V0 0,V0 0,V0 0] 24 fun b2 W2 n2=>?_
 have hB:=bln n1.below n2.below
 refine xc 6 (args:=#[P0 b]) (Zcp Bi b pi ni ci l _ (hI.below hB)) ?_
 rintro e W3 d6
 rcases d6 with ⟨b0,bs,rfl,a3,d0⟩|⟨b0,rfl,a3⟩
 ·refine xa 3 [V0 0,V0 0,V0 0,V0 0,V0 0,V0 0,V0 0,V0 0,V0 0,V0 0,V0 0] 24 fun b4 W4 n4=>?_
  have k2:=n2.blk.below a3
  have c1:=n4.ne k2
  have b6:=bln hB a3
  have g4:=n4.ge b6
  refine xsv 0 n4.blk [V0 0,V0 0,V0 0,V0 0,V0 0,V0 0,V0 0,V0 0,V0 0,V0 0,V0 0] fun W5 u5 k5=>?_
  have k1:=u5.blkT (((n1.blk.below n2.below).below a3).below n4.below) n4.blk (by decide)
  refine xsv 16 k1 [V0 0,V0 0,V0 0,V0 0,S0] fun W6 u6 k6=>?_
  have g1:=n1.ge (B3 w)
  have a6:=u6.blkT (u5.blk (k2.below n4.below) (Ne.symm (Ne.symm c1))) k1 (by decide)
  refine xsv 0 a6 [V0 0,V0 0,V0 0,V0 0,V0 0,V0 0,V0 0,V0 0,V0 0,V0 0,V0 0] fun W7 u7 k7=>?_
  have g2:=n2.ge n1.below
  have a8:=(((d0.below n4.below).only (Zf.of_upd (T:=[24]) u5 n4.blk (by decide)) (by decide)).only (Zf.of_upd (T:=[48]) u6 k1 (by decide)) (by decide)).only (Zf.of_upd (T:=[24]) u7 a6 (by decide)) (by decide)
  have d2:=u7.below (u6.below (u5.below (bln b6 n4.below) g4) g1) g2
  have d1:=u7.blkT k6 a6 (by decide)
  exact Nq 5 [(b1,[V0 0,V0 0,V0 0,V0 0,S0]),(b2,[V0 0,V0 0,V0 0,V0 0,V0 0,V0 0,V0 0,V0 0,V0 0,V0 0,V0 0])] ⟨⟨_,d1⟩,⟨_,k7⟩,trivial⟩ (.tuple #[.agg #[V0 0,V0 0,V0 0,V0 0,S0],.agg #[V0 0,V0 0,V0 0,V0 0,V0 0,V0 0,V0 0,V0 0,V0 0,V0 0,V0 0],.iface 215 (P0 bs)]) (Za6 (Zbc b0) b0 d2 a8)
 refine xa 3 [V0 0,V0 0,V0 0,V0 0,V0 0,V0 0,V0 0,V0 0,V0 0,V0 0,V0 0] 24 fun b8 W8 n8=>?_
 have k2:=n2.blk.below a3
 have a0:=n8.ne k2
 have a9:=bln hB a3
 have g8:=n8.ge a9
 refine xsv 0 n8.blk [V0 (((Ze (inB l 0))).tx),V0 (((Ze (inB l 0))).time),V0 (((Ze (inB l 0))).unit),V0 (((Ze (inB l 0))).data),V0 (((Ze (inB l 0))).blocks),V0 (((Ze (inB l 0))).top),V0 (((Ze (inB l 0))).details),V0 (((Ze (inB l 0))).dslots),V0 (((Ze (inB l 0))).dover),V0 (((Ze (inB l 0))).mindex),V0 (((Ze (inB l 0))).mover)] fun W9 u9 k9=>?_
 refine xb 17 5 k9 ?_
 refine xb 1 6 k9 ?_
 refine xb 1 3 k9 ?_
 have a7:=u9.below (bln a9 n8.below) g8
 refine xc 1 (args:=#[P0 b,V0 (((Ze (inB l 0))).top),V0 (((Ze (inB l 0))).details),V0 (((Ze (inB l 0))).data),V0 fuel]) (As Bi b pi ni ci l (Ze (inB l 0)).top (Ze (inB l 0)).details (Ze (inB l 0)).data fuel _ (hI.below a7) hfu) ?_
 rintro e b7 c5
 rcases c5 with ⟨d3,e0,v9,rfl,a2,d0⟩|⟨d3,p9,c9,Z9,rfl,a2,d7⟩
 ·have k1:=(u9.blkT (((n1.blk.below n2.below).below a3).below n8.below) n8.blk (by decide)).below a2
  refine xsv 20 k1 [V0 0,V0 0,V0 0,V0 0,S0] fun e3 c7 d9=>?_
  have g1:=n1.ge (B3 w)
  have a5:=c7.blkT ((u9.blk (k2.below n8.below) (Ne.symm (Ne.symm a0))).below a2) k1 (by decide)
  refine xsv 0 a5 [V0 0,V0 0,V0 0,V0 0,V0 0,V0 0,V0 0,V0 0,V0 0,V0 0,V0 0] fun e1 c8 d4=>?_
  have g2:=n2.ge n1.below
  have b5:=(d0.only (Zf.of_upd (T:=[48]) c7 k1 (by decide)) (by decide)).only (Zf.of_upd (T:=[24]) c8 a5 (by decide)) (by decide)
  have c4:=c8.below (c7.below (bln a7 a2) g1) g2
  have c0:=c8.blkT d9 a5 (by decide)
  exact Nq 5 [(b1,[V0 0,V0 0,V0 0,V0 0,S0]),(b2,[V0 0,V0 0,V0 0,V0 0,V0 0,V0 0,V0 0,V0 0,V0 0,V0 0,V0 0])] ⟨⟨_,c0⟩,⟨_,d4⟩,trivial⟩ (.tuple #[.agg #[V0 0,V0 0,V0 0,V0 0,S0],.agg #[V0 0,V0 0,V0 0,V0 0,V0 0,V0 0,V0 0,V0 0,V0 0,V0 0,V0 0],.iface e0 (v9)]) (Za6 (Pr b0) d3 c4 b5)
 refine xd 18 (.f w.heap.size [b1,b2]) ?_
 have a1:=(k9.below a2).below (Za b7)
 have k1:=((u9.blkT (((n1.blk.below n2.below).below a3).below n8.below) n8.blk (by decide)).below a2).below (Za b7)
 refine xlt (.e [0] 1) (.f w.heap.size [b1,b2]) (fun V hV=>(a1.fr hV.2 (by simp only[List.mem_cons,List.not_mem_nil,or_false];rintro(h|h);exact(Blk.tne a1 k1 (by decide)) h;exact(Ne.symm a0) h)).cell (i:=0) rfl) ?_
 refine xlt (.e [2] 3) (.f w.heap.size [b1,b2]) (fun V hV=>(a1.fr hV.2 (by simp only[List.mem_cons,List.not_mem_nil,or_false];rintro(h|h);exact(Blk.tne a1 k1 (by decide)) h;exact(Ne.symm a0) h)).cell (i:=1) rfl) ?_
 refine xlt (.e [4] 5) (.f w.heap.size [b1,b2]) (fun V hV=>(a1.fr hV.2 (by simp only[List.mem_cons,List.not_mem_nil,or_false];rintro(h|h);exact(Blk.tne a1 k1 (by decide)) h;exact(Ne.symm a0) h)).cell (i:=2) rfl) ?_
 refine xlt (.e [6] 7) (.f w.heap.size [b1,b2]) (fun V hV=>(a1.fr hV.2 (by simp only[List.mem_cons,List.not_mem_nil,or_false];rintro(h|h);exact(Blk.tne a1 k1 (by decide)) h;exact(Ne.symm a0) h)).cell (i:=3) rfl) ?_
 refine xlvt (.e [8,9] 10) (.f w.heap.size [b1,b2]) (fun V hV=>(a1.fr hV.2 (by simp only[List.mem_cons,List.not_mem_nil,or_false];rintro(h|h);exact(Blk.tne a1 k1 (by decide)) h;exact(Ne.symm a0) h)).rp) ?_
 have g1:=n1.ge (B3 w)
 refine ysv (.o [] 11) k1 [V0 (((Ze (inB l 0))).tx),V0 (((Ze (inB l 0))).time),V0 (((Ze (inB l 0))).unit),V0 (((Ze (inB l 0))).data),.slice p9 ((Yk l (Ze (inB l 0)).top (Ze (inB l 0)).details (Ze (inB l 0)).data fuel).2.2.length) c9] (.f w.heap.size [b1,b2]) fun e2 c3 d5=>⟨(Hr c3 g1 (by simp)),?_⟩
 have a4:=c3.blkT (((u9.blk (k2.below n8.below) (Ne.symm (Ne.symm a0))).below a2).below (Za b7)) k1 (by decide)
 have g2:=n2.ge n1.below
 refine ysv (.o [] 12) a4 [V0 (((Ze (inB l 0))).tx),V0 (((Ze (inB l 0))).time),V0 (((Ze (inB l 0))).unit),V0 (((Ze (inB l 0))).data),V0 (((Ze (inB l 0))).blocks),V0 (((Ze (inB l 0))).top),V0 (((Ze (inB l 0))).details),V0 (((Ze (inB l 0))).dslots),V0 (((Ze (inB l 0))).dover),V0 (((Ze (inB l 0))).mindex),V0 (((Ze (inB l 0))).mover)] (.f w.heap.size [b1,b2]) fun e4 c2 d8=>⟨(Hr c2 g2 (by simp)),?_⟩
 have b9:=((d7.below (Za b7)).only (Zf.of_upd (T:=[48]) c3 k1 (by decide)) (by decide)).only (Zf.of_upd (T:=[24]) c2 a4 (by decide)) (by decide)
 have c6:=c2.below (c3.below (bln (bln a7 a2) (Za b7)) g1) g2
 have b3:=c2.blkT d5 a4 (by decide)
 exact Nq (.r [13] 3) [(b1,[V0 (((Ze (inB l 0))).tx),V0 (((Ze (inB l 0))).time),V0 (((Ze (inB l 0))).unit),V0 (((Ze (inB l 0))).data),.slice p9 ((Yk l (Ze (inB l 0)).top (Ze (inB l 0)).details (Ze (inB l 0)).data fuel).2.2.length) c9]),(b2,[V0 (((Ze (inB l 0))).tx),V0 (((Ze (inB l 0))).time),V0 (((Ze (inB l 0))).unit),V0 (((Ze (inB l 0))).data),V0 (((Ze (inB l 0))).blocks),V0 (((Ze (inB l 0))).top),V0 (((Ze (inB l 0))).details),V0 (((Ze (inB l 0))).dslots),V0 (((Ze (inB l 0))).dover),V0 (((Ze (inB l 0))).mindex),V0 (((Ze (inB l 0))).mover)])] ⟨⟨_,b3⟩,⟨_,d8⟩,trivial⟩ (.tuple #[.agg #[V0 (((Ze (inB l 0))).tx),V0 (((Ze (inB l 0))).time),V0 (((Ze (inB l 0))).unit),V0 (((Ze (inB l 0))).data),.slice p9 ((Yk l (Ze (inB l 0)).top (Ze (inB l 0)).details (Ze (inB l 0)).data fuel).2.2.length) c9],.agg #[V0 (((Ze (inB l 0))).tx),V0 (((Ze (inB l 0))).time),V0 (((Ze (inB l 0))).unit),V0 (((Ze (inB l 0))).data),V0 (((Ze (inB l 0))).blocks),V0 (((Ze (inB l 0))).top),V0 (((Ze (inB l 0))).details),V0 (((Ze (inB l 0))).dslots),V0 (((Ze (inB l 0))).dover),V0 (((Ze (inB l 0))).mindex),V0 (((Ze (inB l 0))).mover)],.nilIface]) (lpool_ok (Pr b0) d3 c6 b9)
theorem Sj(B bm:Nat)(p:O0)(k c:Nat)(l:Bl)(fuel:Int)(w:World)(hI:RefI B bm p k c l w)(hfu:fuel≤1000) :
 C0 15 #[P0 bm,V0 fuel] w (Za3 (Us l fuel) (Ze (inB l 0)) w):=by
 refine zin 52 Tryz.func15 ?_
 refine xa 2 [V0 0,V0 0,V0 0,V0 0,S0] 48 fun b1 W1 n1=>?_
 refine xa 0 [V0 0,V0 0,V0 0,V0 0,V0 0,V0 0,V0 0,V0 0,V0 0,V0 0,V0 0] 24 fun b2 W2 n2=>?_
 refine xa 0 [S0,V0 0] 52 fun b3 W3 n3=>?_
 have hB:=bln (bln n1.below n2.below) n3.below
 refine xc 5 (args:=#[P0 bm]) (Zc8 B bm p k c l _ (hI.below hB)) ?_
 rintro e W4 j2
 rcases j2 with ⟨e0,a9,d9,rfl,b8,j7⟩|⟨e0,rfl,b8⟩
 ·have j6:=(bln (bln n1.below n2.below) n3.below).size
  refine xa 3 [V0 0,V0 0,V0 0,V0 0,V0 0,V0 0,V0 0,V0 0,V0 0,V0 0,V0 0] 24 fun b5 W5 n5=>?_
  have k2:=(n2.blk.below n3.below).below b8
  have e7:=n5.ne k2
  have g8:=bln hB b8
  have g5:=n5.ge g8
  refine xa 0 [S0,V0 0] 52 fun b6 W6 n6=>?_
  have k3:=(n3.blk.below b8).below n5.below
  have c9:=n6.ne k3
  have f1:=bln g8 n5.below
  have g6:=n6.ge f1
  have k5:=n5.blk.below n6.below
  refine xsv 0 k5 [V0 0,V0 0,V0 0,V0 0,V0 0,V0 0,V0 0,V0 0,V0 0,V0 0,V0 0] fun W7 u7 k7=>?_
  have k6:=u7.blkT n6.blk k5 (by decide)
  refine xsv 0 k6 [.slice a9 1 d9,V0 (Xi l)] fun W8 u8 k8=>?_
  refine xb 6 1 k8 ?_
  refine xk 3 (show(((Xi l) != (0:Int)):Bool)=true from bne_iff_ne.2 e0) ?_
  refine xd 1 (.f w.heap.size [b1,b2,b3]) ?_
  have d1:=k8.below (Za W8)
  have k1:=(u8.blkT (u7.blkT (((((n1.blk.below n2.below).below n3.below).below b8).below n5.below).below n6.below) k5 (by decide)) k6 (by decide)).below (Za W8)
  have g4:=(u8.blkT (u7.blk ((k2.below n5.below).below n6.below) (Ne.symm (Ne.symm e7))) k6 (by decide)).below (Za W8)
  refine xlvt (.e [0,1] 2) (.f w.heap.size [b1,b2,b3]) (fun V hV=>(d1.fr hV.2 (by simp only[List.mem_cons,List.not_mem_nil,or_false];rintro(h|h|h);exact(Blk.tne d1 k1 (by decide)) h;exact(Blk.tne d1 g4 (by decide)) h;exact(Ne.symm c9) h)).rp) ?_
  have g1:=n1.ge (B3 w)
  refine ysv (.o [] 3) k1 [V0 0,V0 0,V0 0,V0 0,S0] (.f w.heap.size [b1,b2,b3]) fun W9 u9 k9=>⟨(Hr u9 g1 (by simp)),?_⟩
  have c4:=u9.blkT g4 k1 (by decide)
  have g2:=n2.ge n1.below
  refine ysv (.o [] 4) c4 [V0 0,V0 0,V0 0,V0 0,V0 0,V0 0,V0 0,V0 0,V0 0,V0 0,V0 0] (.f w.heap.size [b1,b2,b3]) fun l5 h6 l2=>⟨(Hr h6 g2 (by simp)),?_⟩
  have c5:=h6.blkT (u9.blkT ((u8.blk (u7.blkT (k3.below n6.below) k5 (by decide)) (Ne.symm (Ne.symm c9))).below (Za W8)) k1 (by decide)) c4 (by decide)
  have g3:=n3.ge (bln n1.below n2.below)
  refine ysv (.o [] 5) c5 [.slice a9 1 d9,V0 (Xi l)] (.f w.heap.size [b1,b2,b3]) fun n7 g7 k4=>⟨(Hr g7 g3 (by simp)),?_⟩
  have e4:=g7.own2 (h6.own2 (u9.own2 (Zb (u8.own2 (u7.own2 (Zb (Zb (Zg j7 j6) n5.below) n6.below) k5 (by decide)) k6 (by decide)) (Za W8)) k1 (by decide)) c4 (by decide)) c5 (by decide)
  have i2:=g7.below (h6.below (u9.below (bln (u8.below (u7.below (bln f1 n6.below) g5) g6) (Za W8)) g1) g2) g3
  have i5:=g7.blkT (h6.blkT k9 c4 (by decide)) c5 (by decide)
  have h1:=g7.blkT l2 c5 (by decide)
  exact Nq 4 [(b1,[V0 0,V0 0,V0 0,V0 0,S0]),(b2,[V0 0,V0 0,V0 0,V0 0,V0 0,V0 0,V0 0,V0 0,V0 0,V0 0,V0 0]),(b3,[.slice a9 1 d9,V0 (Xi l)])] ⟨⟨_,i5⟩,⟨_,h1⟩,⟨_,k4⟩,trivial⟩ (.tuple #[.agg #[V0 0,V0 0,V0 0,V0 0,S0],.agg #[V0 0,V0 0,V0 0,V0 0,V0 0,V0 0,V0 0,V0 0,V0 0,V0 0,V0 0],.agg #[.slice a9 1 d9,V0 (Xi l)]]) (Zax (bl:=[0]) (Zbc e0) e0 rfl i2 e4)
 refine xa 3 [V0 0,V0 0,V0 0,V0 0,V0 0,V0 0,V0 0,V0 0,V0 0,V0 0,V0 0] 24 fun l4 l8 b9=>?_
 have k2:=(n2.blk.below n3.below).below b8
 have a1:=b9.ne k2
 have h5:=bln hB b8
 have i7:=b9.ge h5
 refine xa 0 [S0,V0 0] 52 fun n0 m8 a6=>?_
 have k3:=(n3.blk.below b8).below b9.below
 have b7:=a6.ne k3
 have d2:=bln h5 b9.below
 have i8:=a6.ge d2
 have d4:=b9.blk.below a6.below
 refine xsv 0 d4 [V0 (((Ze (inB l 0))).tx),V0 (((Ze (inB l 0))).time),V0 (((Ze (inB l 0))).unit),V0 (((Ze (inB l 0))).data),V0 (((Ze (inB l 0))).blocks),V0 (((Ze (inB l 0))).top),V0 (((Ze (inB l 0))).details),V0 (((Ze (inB l 0))).dslots),V0 (((Ze (inB l 0))).dover),V0 (((Ze (inB l 0))).mindex),V0 (((Ze (inB l 0))).mover)] fun l7 c0 j5=>?_
 have d5:=c0.blkT a6.blk d4 (by decide)
 refine xsv 0 d5 [S0,V0 0] fun m5 c2 i4=>?_
 refine xb 6 1 i4 ?_
 have a3:=c2.blkT j5 d5 (by decide)
 refine xb 10 5 a3 ?_
 refine xb 1 6 a3 ?_
 refine xb 1 3 a3 ?_
 have d3:=c2.below (c0.below (bln d2 a6.below) i7) i8
 refine xc 1 (args:=#[P0 bm,V0 (((Ze (inB l 0))).top),V0 (((Ze (inB l 0))).details),V0 (((Ze (inB l 0))).data),V0 fuel]) (Ru B bm p k c l (Ze (inB l 0)).top (Ze (inB l 0)).details (Ze (inB l 0)).data fuel _ (hI.below d3) hfu) ?_
 rintro e m0 i0
 rcases i0 with ⟨h9,a8,d8,rfl,a2,j0⟩|⟨h9,p8,c8,Z8,rfl,a2,j9⟩
 ·have i3:=(c2.below (c0.below (bln d2 a6.below) i7) i8).size
  refine xa 3 [S0,V0 0] 52 fun m3 m2 a7=>?_
  have e3:=(c2.blk (c0.blkT (k3.below a6.below) d4 (by decide)) (Ne.symm (Ne.symm b7))).below a2
  have b4:=a7.ne e3
  have e2:=i4.below a2
  have h7:=a7.ne e2
  have e6:=bln d3 a2
  have l1:=a7.ge e6
  refine xsv 1 a7.blk [.slice a8 ((Yk l (Ze (inB l 0)).top (Ze (inB l 0)).details (Ze (inB l 0)).data fuel).1.length) d8,V0 ((Yk l (Ze (inB l 0)).top (Ze (inB l 0)).details (Ze (inB l 0)).data fuel).2.1)] fun e1 h4 i6=>?_
  refine xb 6 1 i6 ?_
  refine xk 3 (show(((Yk l (Ze (inB l 0)).top (Ze (inB l 0)).details (Ze (inB l 0)).data fuel).2.1 != (0:Int)):Bool)=true from bne_iff_ne.2 h9) ?_
  refine xd 1 (.f w.heap.size [b1,b2,b3]) ?_
  have b0:=i6.below (Za e1)
  have k1:=(h4.blkT (((c2.blkT (c0.blkT (((((n1.blk.below n2.below).below n3.below).below b8).below b9.below).below a6.below) d4 (by decide)) d5 (by decide)).below a2).below a7.below) a7.blk (by decide)).below (Za e1)
  have f3:=(h4.blkT (((c2.blkT (c0.blk ((k2.below b9.below).below a6.below) (Ne.symm (Ne.symm a1))) d5 (by decide)).below a2).below a7.below) a7.blk (by decide)).below (Za e1)
  refine xlvt (.e [0,1] 2) (.f w.heap.size [b1,b2,b3]) (fun V hV=>(b0.fr hV.2 (by simp only[List.mem_cons,List.not_mem_nil,or_false];rintro(h|h|h);exact(Blk.tne b0 k1 (by decide)) h;exact(Blk.tne b0 f3 (by decide)) h;exact(Ne.symm b4) h)).rp) ?_
  have g1:=n1.ge (B3 w)
  refine ysv (.o [] 3) k1 [V0 0,V0 0,V0 0,V0 0,S0] (.f w.heap.size [b1,b2,b3]) fun m1 f7 l0=>⟨(Hr f7 g1 (by simp)),?_⟩
  have c7:=f7.blkT f3 k1 (by decide)
  have g2:=n2.ge n1.below
  refine ysv (.o [] 4) c7 [V0 0,V0 0,V0 0,V0 0,V0 0,V0 0,V0 0,V0 0,V0 0,V0 0,V0 0] (.f w.heap.size [b1,b2,b3]) fun m4 e8 j1=>⟨(Hr e8 g2 (by simp)),?_⟩
  have c1:=e8.blkT (f7.blkT ((h4.blk (e3.below a7.below) (Ne.symm (Ne.symm b4))).below (Za e1)) k1 (by decide)) c7 (by decide)
  have g3:=n3.ge (bln n1.below n2.below)
  refine ysv (.o [] 5) c1 [.slice a8 ((Yk l (Ze (inB l 0)).top (Ze (inB l 0)).details (Ze (inB l 0)).data fuel).1.length) d8,V0 ((Yk l (Ze (inB l 0)).top (Ze (inB l 0)).details (Ze (inB l 0)).data fuel).2.1)] (.f w.heap.size [b1,b2,b3]) fun m9 f4 j4=>⟨(Hr f4 g3 (by simp)),?_⟩
  have f6:=f4.own2 (e8.own2 (f7.own2 (Zb (h4.own2 (Zb (Zg j0 i3) a7.below) a7.blk (by decide)) (Za e1)) k1 (by decide)) c7 (by decide)) c1 (by decide)
  have i1:=f4.below (e8.below (f7.below (bln (h4.below (bln e6 a7.below) l1) (Za e1)) g1) g2) g3
  have f5:=f4.blkT (e8.blkT l0 c7 (by decide)) c1 (by decide)
  have f9:=f4.blkT j1 c1 (by decide)
  exact Nq 4 [(b1,[V0 0,V0 0,V0 0,V0 0,S0]),(b2,[V0 0,V0 0,V0 0,V0 0,V0 0,V0 0,V0 0,V0 0,V0 0,V0 0,V0 0]),(b3,[.slice a8 ((Yk l (Ze (inB l 0)).top (Ze (inB l 0)).details (Ze (inB l 0)).data fuel).1.length) d8,V0 ((Yk l (Ze (inB l 0)).top (Ze (inB l 0)).details (Ze (inB l 0)).data fuel).2.1)])] ⟨⟨_,f5⟩,⟨_,f9⟩,⟨_,j4⟩,trivial⟩ (.tuple #[.agg #[V0 0,V0 0,V0 0,V0 0,S0],.agg #[V0 0,V0 0,V0 0,V0 0,V0 0,V0 0,V0 0,V0 0,V0 0,V0 0,V0 0],.agg #[.slice a8 ((Yk l (Ze (inB l 0)).top (Ze (inB l 0)).details (Ze (inB l 0)).data fuel).1.length) d8,V0 ((Yk l (Ze (inB l 0)).top (Ze (inB l 0)).details (Ze (inB l 0)).data fuel).2.1)]]) (Zax (Pr e0) h9 rfl i1 f6)
 refine xa 3 [S0,V0 0] 52 fun n4 m6 a4=>?_
 have f0:=(c2.blk (c0.blkT (k3.below a6.below) d4 (by decide)) (Ne.symm (Ne.symm b7))).below a2
 have d0:=a4.ne f0
 have h2:=i4.below a2
 have h8:=a4.ne h2
 have e9:=bln d3 a2
 have k0:=a4.ge e9
 refine xsv 1 a4.blk [S0,V0 0] fun d7 d6 i9=>?_
 refine xb 6 1 i9 ?_
 refine xd 7 (.f w.heap.size [b1,b2,b3]) ?_
 have a0:=(d6.blkT ((a3.below a2).below a4.below) a4.blk (by decide)).below (Za d7)
 have k1:=(d6.blkT (((c2.blkT (c0.blkT (((((n1.blk.below n2.below).below n3.below).below b8).below b9.below).below a6.below) d4 (by decide)) d5 (by decide)).below a2).below a4.below) a4.blk (by decide)).below (Za d7)
 have a5:=(d6.blk (f0.below a4.below) (Ne.symm (Ne.symm d0))).below (Za d7)
 refine xlt (.e [0] 1) (.f w.heap.size [b1,b2,b3]) (fun V hV=>(a0.fr hV.2 (by simp only[List.mem_cons,List.not_mem_nil,or_false];rintro(h|h|h);exact(Blk.tne a0 k1 (by decide)) h;exact(Ne.symm a1) h;exact(Blk.tne a0 a5 (by decide)) h)).cell (i:=0) rfl) ?_
 refine xlt (.e [2] 3) (.f w.heap.size [b1,b2,b3]) (fun V hV=>(a0.fr hV.2 (by simp only[List.mem_cons,List.not_mem_nil,or_false];rintro(h|h|h);exact(Blk.tne a0 k1 (by decide)) h;exact(Ne.symm a1) h;exact(Blk.tne a0 a5 (by decide)) h)).cell (i:=1) rfl) ?_
 refine xlt (.e [4] 5) (.f w.heap.size [b1,b2,b3]) (fun V hV=>(a0.fr hV.2 (by simp only[List.mem_cons,List.not_mem_nil,or_false];rintro(h|h|h);exact(Blk.tne a0 k1 (by decide)) h;exact(Ne.symm a1) h;exact(Blk.tne a0 a5 (by decide)) h)).cell (i:=2) rfl) ?_
 refine xlt (.e [6] 7) (.f w.heap.size [b1,b2,b3]) (fun V hV=>(a0.fr hV.2 (by simp only[List.mem_cons,List.not_mem_nil,or_false];rintro(h|h|h);exact(Blk.tne a0 k1 (by decide)) h;exact(Ne.symm a1) h;exact(Blk.tne a0 a5 (by decide)) h)).cell (i:=3) rfl) ?_
 refine xlvt (.e [8,9] 10) (.f w.heap.size [b1,b2,b3]) (fun V hV=>(a0.fr hV.2 (by simp only[List.mem_cons,List.not_mem_nil,or_false];rintro(h|h|h);exact(Blk.tne a0 k1 (by decide)) h;exact(Ne.symm a1) h;exact(Blk.tne a0 a5 (by decide)) h)).rp) ?_
 have g1:=n1.ge (B3 w)
 refine ysv (.o [11] 12) k1 [V0 (((Ze (inB l 0))).tx),V0 (((Ze (inB l 0))).time),V0 (((Ze (inB l 0))).unit),V0 (((Ze (inB l 0))).data),.slice p8 ((Yk l (Ze (inB l 0)).top (Ze (inB l 0)).details (Ze (inB l 0)).data fuel).2.2.length) c8] (.f w.heap.size [b1,b2,b3]) fun l9 g0 j8=>⟨(Hr g0 g1 (by simp)),?_⟩
 have c3:=g0.blkT ((d6.blkT (((c2.blkT (c0.blk ((k2.below b9.below).below a6.below) (Ne.symm (Ne.symm a1))) d5 (by decide)).below a2).below a4.below) a4.blk (by decide)).below (Za d7)) k1 (by decide)
 have g2:=n2.ge n1.below
 refine ysv (.o [] 13) c3 [V0 (((Ze (inB l 0))).tx),V0 (((Ze (inB l 0))).time),V0 (((Ze (inB l 0))).unit),V0 (((Ze (inB l 0))).data),V0 (((Ze (inB l 0))).blocks),V0 (((Ze (inB l 0))).top),V0 (((Ze (inB l 0))).details),V0 (((Ze (inB l 0))).dslots),V0 (((Ze (inB l 0))).dover),V0 (((Ze (inB l 0))).mindex),V0 (((Ze (inB l 0))).mover)] (.f w.heap.size [b1,b2,b3]) fun l6 f8 l3=>⟨(Hr f8 g2 (by simp)),?_⟩
 have c6:=f8.blkT (g0.blkT a5 k1 (by decide)) c3 (by decide)
 have g3:=n3.ge (bln n1.below n2.below)
 refine ysv (.o [] 14) c6 [S0,V0 0] (.f w.heap.size [b1,b2,b3]) fun m7 h0 j3=>⟨(Hr h0 g3 (by simp)),?_⟩
 have g9:=(((((j9.below a4.below).only (Zf.of_upd (T:=[52]) d6 a4.blk (by decide)) (by decide)).below (Za d7)).only (Zf.of_upd (T:=[48]) g0 k1 (by decide)) (by decide)).only (Zf.of_upd (T:=[24]) f8 c3 (by decide)) (by decide)).only (Zf.of_upd (T:=[52]) h0 c6 (by decide)) (by decide)
 have f2:=h0.below (f8.below (g0.below (bln (d6.below (bln e9 a4.below) k0) (Za d7)) g1) g2) g3
 have e5:=h0.blkT (f8.blkT j8 c3 (by decide)) c6 (by decide)
 have h3:=h0.blkT l3 c6 (by decide)
 exact Nq 3 [(b1,[V0 (((Ze (inB l 0))).tx),V0 (((Ze (inB l 0))).time),V0 (((Ze (inB l 0))).unit),V0 (((Ze (inB l 0))).data),.slice p8 ((Yk l (Ze (inB l 0)).top (Ze (inB l 0)).details (Ze (inB l 0)).data fuel).2.2.length) c8]),(b2,[V0 (((Ze (inB l 0))).tx),V0 (((Ze (inB l 0))).time),V0 (((Ze (inB l 0))).unit),V0 (((Ze (inB l 0))).data),V0 (((Ze (inB l 0))).blocks),V0 (((Ze (inB l 0))).top),V0 (((Ze (inB l 0))).details),V0 (((Ze (inB l 0))).dslots),V0 (((Ze (inB l 0))).dover),V0 (((Ze (inB l 0))).mindex),V0 (((Ze (inB l 0))).mover)]),(b3,[S0,V0 0])] ⟨⟨_,e5⟩,⟨_,h3⟩,⟨_,j3⟩,trivial⟩ (.tuple #[.agg #[V0 (((Ze (inB l 0))).tx),V0 (((Ze (inB l 0))).time),V0 (((Ze (inB l 0))).unit),V0 (((Ze (inB l 0))).data),.slice p8 ((Yk l (Ze (inB l 0)).top (Ze (inB l 0)).details (Ze (inB l 0)).data fuel).2.2.length) c8],.agg #[V0 (((Ze (inB l 0))).tx),V0 (((Ze (inB l 0))).time),V0 (((Ze (inB l 0))).unit),V0 (((Ze (inB l 0))).data),V0 (((Ze (inB l 0))).blocks),V0 (((Ze (inB l 0))).top),V0 (((Ze (inB l 0))).details),V0 (((Ze (inB l 0))).dslots),V0 (((Ze (inB l 0))).dover),V0 (((Ze (inB l 0))).mindex),V0 (((Ze (inB l 0))).mover)],.agg #[S0,V0 0]]) (rpool_ok (Pr e0) h9 f2 g9)
theorem run_supeq{a:Act}{o:Oper}{p q:Operand}(x:Sup)(ho:o.op=.binOp .eql 24 p q 24)(hx:a.eval p=.agg (supC x).toArray)(hy:a.eval q=.agg (supC x).toArray)(V:World) :
 (execOp a.eval o).run Tryz.prog V=.ok (.value (.bool true)) V:=by
 have h1:=Tryz.underlying24
 have h2:=Tryz.underlying3
 have h4:Tryz.prog.stoodInHeld 24=false:=by kernel_rfl
 have hb:(binOp .eql 24 (.agg (supC x).toArray) (.agg (supC x).toArray)).run Tryz.prog V=.ok (.bool true) V:=by
  obtain⟨x0,x1,x2,x3,x4,x5,x6,x7,x8,x9,a0⟩:=x
  simp[go_sem,Program.fieldsOf,h1,h2,h4,Op.eqFields,supC]
 have hg:=run_eqGuard_agg (P:=Tryz.prog) (w:=V) .eql 24 p q (supC x).toArray (supC x).toArray (by kernel_rfl)
 simp only[execOp,ho,hx,hy,Sem.run_bind,hg,Result.andThen_ok,hb]
 rfl
theorem poolO_len(l:Bl)(fuel:Int):(Us l fuel).1.length≤41:=by
 unfold Us
 split
 ·simp
 ·exact devsO_len _ _ _ _ _
theorem rpool_B{O:List Int×Int×List Dv}{S:Sup}{f:FuncId}{args:Array Value}{w:World}(h:O.2.1≠0)(hc:C0 f args w (Za3 O S w)):C0 f args w (Vy (fun w' r=>∃ a c,r=.tuple #[.agg #[V0 0,V0 0,V0 0,V0 0,S0],.agg #[V0 0,V0 0,V0 0,V0 0,V0 0,V0 0,V0 0,V0 0,V0 0,V0 0,V0 0],.agg #[.slice a O.1.length c,V0 O.2.1]]∧w'.ownsRow w.heap.size 3 1 (.slice a O.1.length c) O.1.length (O.1.map V0)) w):=hc.mono (by
 rintro e W q
 rcases q with ⟨_,a,c,rfl,hb,ho⟩|⟨h2,_⟩
 ·exact⟨_,rfl,hb,a,c,rfl,ho⟩
 ·exact absurd h2 h)
theorem rpool_G{O:List Int×Int×List Dv}{S:Sup}{f:FuncId}{args:Array Value}{w:World}(h:O.2.1=0)(hc:C0 f args w (Za3 O S w)):C0 f args w (Vy (fun w' r=>∃ p c Z,r=.tuple #[.agg #[V0 S.tx,V0 S.time,V0 S.unit,V0 S.data,.slice p O.2.2.length c],.agg #[V0 S.tx,V0 S.time,V0 S.unit,V0 S.data,V0 S.blocks,V0 S.top,V0 S.details,V0 S.dslots,V0 S.dover,V0 S.mindex,V0 S.mover],.agg #[S0,V0 0]]∧Gu O w' p c Z) w):=hc.mono (by
 rintro e W q
 rcases q with ⟨h2,_⟩|⟨_,p,c,Z,rfl,hb,hD⟩
 ·exact absurd h h2
 ·exact⟨_,rfl,hb,p,c,Z,rfl,hD⟩)
theorem Er(O:List Int×Int×List Dv)(p q:O0)(c d n:Nat)(t u v x:Int)(Z Y:List Zv)(w:World)(hn:O.2.2.length=n)(hP:Gu O w p c Z)(hQ:Gu O w q d Y) :
 C0 17 #[.agg #[V0 t,V0 u,V0 v,V0 x,.slice p n c],.agg #[V0 t,V0 u,V0 v,V0 x,.slice q n d]] w (Ret (.bool true) w) :=
 Zha p q c d n t u v x Z Y w (hP.1.trans hn) (hQ.1.trans hn) (fun i hi=>dq_fst hP hQ i (by rw[hn];exact hi)) hP.read hQ.read
theorem Zbb(a:O0)(c:Nat)(l:Bl)(fuel:Int)(w:World)(h:Bys w (.slice a l.length c) l)(hg:ErrT w) :
 C0 4 #[.slice a l.length c,V0 fuel] w (Ret (.bool true) w):=by
 have h7:=h.cap rfl
 obtain⟨f2,k4,o8⟩:∃ x,(if(200:Int)<fuel then(200:Int) else fuel)=x∧x≤200:=⟨_,rfl,by split<;>omega⟩
 refine zin 50 Tryz.func4 ?_
 refine xid 13 ((l.length:Int)>(12000:Int)) (fun l3=>?_) (fun l3=>?_)
 ·refine xr 2 (args:=#[]) (Zb8 _) fun W2 j3=>?_
  exact xe 5 (.bool true) ⟨rfl,j3⟩
 refine xq 5 (congrArg V0 (show(if(200:Int)<fuel then(200:Int) else fuel:Int)=f2 from k4)) ?_
 refine xc 6 (args:=#[.slice a l.length c]) (image_OfR a c l.length ((l.length/256)*256) l _ rfl (by omega) (h.below (B3 w)) (by omega) h7) ?_
 rintro _ W3 ⟨_,rfl,d6,bi,pi,ci,rfl,_,hI⟩
 refine xc 1 (args:=#[P0 bi,V0 f2]) (load_Pool _ bi pi _ ci (l.take ((l.length/256)*256)) f2 _ hI (by omega)) ?_
 rintro e W4 j1
 rcases j1 with ⟨i4,i6,v9,rfl,d1,k3⟩|⟨i4,p9,c9,Z9,rfl,d1,i7⟩
 ·refine xa 4 [V0 0,V0 0,V0 0,V0 0,S0] 48 fun b5 W5 n5=>?_
  refine xa 0 [V0 0,V0 0,V0 0,V0 0,V0 0,V0 0,V0 0,V0 0,V0 0,V0 0,V0 0] 24 fun b6 W6 n6=>?_
  have k5:=n5.blk.below n6.below
  refine xsv 0 k5 [V0 0,V0 0,V0 0,V0 0,S0] fun W7 u7 k7=>?_
  have g5:=n5.ge (bln d6 d1)
  have k6:=u7.blkT n6.blk k5 (by decide)
  refine xsv 0 k6 [V0 0,V0 0,V0 0,V0 0,V0 0,V0 0,V0 0,V0 0,V0 0,V0 0,V0 0] fun W8 u8 k8=>?_
  have g6:=n6.ge (bln (bln d6 d1) n5.below)
  have hB:=u8.below (u7.below (bln (bln (bln d6 d1) n5.below) n6.below) g5) g6
  refine xc 6 (args:=#[.slice a l.length c]) (ref_OfM a c l.length (l.length/256) l _ rfl (by omega) (h.below hB) (by omega)) ?_
  rintro _ W9 ⟨_,rfl,f9,bj,pj,cj,rfl,_,hJ⟩
  refine xc 1 (args:=#[P0 bj,V0 f2]) (rpool_B i4 (Sj _ bj pj _ cj (l.take ((l.length/256)*256)) f2 _ hJ (by omega))) ?_
  rintro _ l8 ⟨_,rfl,a9,a8,d8,rfl,j6⟩
  have h4:=(bln hB f9).size
  refine xa 4 [V0 0,V0 0,V0 0,V0 0,S0] 48 fun m9 p0 b3=>?_
  have f5:=((u8.blkT k7 k6 (by decide)).below f9).below a9
  have c5:=b3.ne f5
  have g2:=bln (bln hB f9) a9
  have l1:=b3.ge g2
  refine xa 0 [V0 0,V0 0,V0 0,V0 0,V0 0,V0 0,V0 0,V0 0,V0 0,V0 0,V0 0] 24 fun l7 m2 a3=>?_
  have e9:=((k8.below f9).below a9).below b3.below
  have d3:=a3.ne e9
  have f3:=bln g2 b3.below
  have k0:=a3.ge f3
  refine xa 0 [S0,V0 0] 52 fun o7 o4 a2=>?_
  have f1:=bln f3 a3.below
  have k9:=a2.ge f1
  have d9:=(b3.blk.below a3.below).below a2.below
  refine xsv 0 d9 [V0 0,V0 0,V0 0,V0 0,S0] fun m1 c4 j4=>?_
  have d4:=c4.blkT (a3.blk.below a2.below) d9 (by decide)
  refine xsv 0 d4 [V0 0,V0 0,V0 0,V0 0,V0 0,V0 0,V0 0,V0 0,V0 0,V0 0,V0 0] fun n8 c7 k1=>?_
  have c0:=c7.blkT (c4.blkT a2.blk d9 (by decide)) d4 (by decide)
  refine xsv 0 c0 [.slice a8 ((Us (l.take ((l.length/256)*256)) f2).1.length) d8,V0 ((Us (l.take ((l.length/256)*256)) f2).2.1)] fun b4 c6 j2=>?_
  refine xd 3 .z ?_
  have h3:=(c6.blkT (c7.blkT (c4.blk (((f5.below b3.below).below a3.below).below a2.below) (Ne.symm (Ne.symm c5))) d4 (by decide)) c0 (by decide)).below (Za b4)
  refine xlv (.e [] 0) h3.rp ?_
  have e2:=(c6.blkT (c7.blkT j4 d4 (by decide)) c0 (by decide)).below (Za b4)
  refine xlv (.e [] 1) e2.rp ?_
  refine xr (.o [] 2) (args:=#[.agg #[V0 0,V0 0,V0 0,V0 0,S0],.agg #[V0 0,V0 0,V0 0,V0 0,S0]]) (Er ([],0,[]) none none 0 0 0 0 0 0 0 [] [] _ rfl (Zbg _ rfl) (Zbg _ rfl)) fun n4 a0=>?_
  have i0:=((c6.blkT (c7.blk (c4.blkT ((e9.below a3.below).below a2.below) d9 (by decide)) (Ne.symm (Ne.symm d3))) c0 (by decide)).below (Za b4)).below a0
  refine xlv (.e [3] 4) i0.rp ?_
  have e0:=((c6.blkT k1 c0 (by decide)).below (Za b4)).below a0
  refine xlv (.e [] 5) e0.rp ?_
  have g9:=(j2.below (Za b4)).below a0
  refine xlv (.e [6,7,8,9] 11) g9.rp ?_
  have f6:=(((((((((((((k3.below n5.below).below n6.below).upd u7 k5 (by decide)).upd u8 k6 (by decide)).below f9).below a9).below b3.below).below a3.below).below a2.below).upd c4 d9 (by decide)).upd c7 d4 (by decide)).upd c6 c0 (by decide)).below (Za b4)).below a0
  have h0:=bln (bln (c6.below (c7.below (c4.below (bln f1 a2.below) l1) k0) k9) (Za b4)) a0
  refine yc (.o [] 10) (args:=#[.iface i6 (v9)]) .z (told_O (Us (l.take ((l.length/256)*256)) f2).1 (Us (l.take ((l.length/256)*256)) f2).2.1 (.iface i6 v9) _ (poolO_len _ _) (hg.below h0) f6) ?_
  rintro _ n2 ⟨g1,rfl,d0,hq⟩
  refine⟨d0,?_⟩
  have e3:=Zb (Zb (Zb (c6.own2 (c7.own2 (c4.own2 (Zb (Zb (Zb (Zg j6 h4) b3.below) a3.below) a2.below) d9 (by decide)) d4 (by decide)) c0 (by decide)) (Za b4)) a0) d0
  refine xr (.o [] 12) (args:=#[g1,.agg #[.slice a8 ((Us (l.take ((l.length/256)*256)) f2).1.length) d8,V0 ((Us (l.take ((l.length/256)*256)) f2).2.1)]]) (Sg (Us (l.take ((l.length/256)*256)) f2).1 (Us (l.take ((l.length/256)*256)) f2).2.1 g1 _ _ hq ⟨_,rfl,Zh e3⟩) fun n0 h9=>?_
  refine xr (.o [13,14] 15) (args:=#[]) (Zb8 _) fun n7 i2=>?_
  have i1:=bln (bln (bln h0 d0) h9) i2
  exact xe (.r [16,17] 3) (.bool true) ⟨rfl,i1⟩
 refine xa 4 [V0 0,V0 0,V0 0,V0 0,S0] 48 fun l6 o5 e8=>?_
 refine xa 0 [V0 0,V0 0,V0 0,V0 0,V0 0,V0 0,V0 0,V0 0,V0 0,V0 0,V0 0] 24 fun o9 o1 e4=>?_
 have h5:=e8.blk.below e4.below
 refine xsv 0 h5 [V0 (((Ze (inB (l.take ((l.length/256)*256)) 0))).tx),V0 (((Ze (inB (l.take ((l.length/256)*256)) 0))).time),V0 (((Ze (inB (l.take ((l.length/256)*256)) 0))).unit),V0 (((Ze (inB (l.take ((l.length/256)*256)) 0))).data),.slice p9 ((Us (l.take ((l.length/256)*256)) f2).2.2.length) c9] fun m8 h6 i8=>?_
 have l0:=e8.ge (bln d6 d1)
 have i5:=h6.blkT e4.blk h5 (by decide)
 refine xsv 0 i5 [V0 (((Ze (inB (l.take ((l.length/256)*256)) 0))).tx),V0 (((Ze (inB (l.take ((l.length/256)*256)) 0))).time),V0 (((Ze (inB (l.take ((l.length/256)*256)) 0))).unit),V0 (((Ze (inB (l.take ((l.length/256)*256)) 0))).data),V0 (((Ze (inB (l.take ((l.length/256)*256)) 0))).blocks),V0 (((Ze (inB (l.take ((l.length/256)*256)) 0))).top),V0 (((Ze (inB (l.take ((l.length/256)*256)) 0))).details),V0 (((Ze (inB (l.take ((l.length/256)*256)) 0))).dslots),V0 (((Ze (inB (l.take ((l.length/256)*256)) 0))).dover),V0 (((Ze (inB (l.take ((l.length/256)*256)) 0))).mindex),V0 (((Ze (inB (l.take ((l.length/256)*256)) 0))).mover)] fun m6 h8 j7=>?_
 have j9:=e4.ge (bln (bln d6 d1) e8.below)
 have hB:=h8.below (h6.below (bln (bln (bln d6 d1) e8.below) e4.below) l0) j9
 refine xc 6 (args:=#[.slice a l.length c]) (ref_OfM a c l.length (l.length/256) l _ rfl (by omega) (h.below hB) (by omega)) ?_
 rintro _ l9 ⟨_,rfl,b0,bj,pj,cj,rfl,_,hJ⟩
 refine xc 1 (args:=#[P0 bj,V0 f2]) (rpool_G i4 (Sj _ bj pj _ cj (l.take ((l.length/256)*256)) f2 _ hJ (by omega))) ?_
 rintro _ o2 ⟨_,rfl,a7,p8,c8,Z8,rfl,j8⟩
 refine xa 4 [V0 0,V0 0,V0 0,V0 0,S0] 48 fun m0 m4 b7=>?_
 have b8:=((h8.blkT i8 i5 (by decide)).below b0).below a7
 have b1:=b7.ne b8
 have g0:=bln (bln hB b0) a7
 have i9:=b7.ge g0
 refine xa 0 [V0 0,V0 0,V0 0,V0 0,V0 0,V0 0,V0 0,V0 0,V0 0,V0 0,V0 0] 24 fun m3 l5 a4=>?_
 have b2:=((j7.below b0).below a7).below b7.below
 have a5:=a4.ne b2
 have e6:=bln g0 b7.below
 have k2:=a4.ge e6
 refine xa 0 [S0,V0 0] 52 fun n9 o0 a6=>?_
 have e5:=bln e6 a4.below
 have l4:=a6.ge e5
 have d5:=(b7.blk.below a4.below).below a6.below
 refine xsv 0 d5 [V0 (((Ze (inB (l.take ((l.length/256)*256)) 0))).tx),V0 (((Ze (inB (l.take ((l.length/256)*256)) 0))).time),V0 (((Ze (inB (l.take ((l.length/256)*256)) 0))).unit),V0 (((Ze (inB (l.take ((l.length/256)*256)) 0))).data),.slice p8 ((Us (l.take ((l.length/256)*256)) f2).2.2.length) c8] fun m5 c2 l2=>?_
 have d7:=c2.blkT (a4.blk.below a6.below) d5 (by decide)
 refine xsv 0 d7 [V0 (((Ze (inB (l.take ((l.length/256)*256)) 0))).tx),V0 (((Ze (inB (l.take ((l.length/256)*256)) 0))).time),V0 (((Ze (inB (l.take ((l.length/256)*256)) 0))).unit),V0 (((Ze (inB (l.take ((l.length/256)*256)) 0))).data),V0 (((Ze (inB (l.take ((l.length/256)*256)) 0))).blocks),V0 (((Ze (inB (l.take ((l.length/256)*256)) 0))).top),V0 (((Ze (inB (l.take ((l.length/256)*256)) 0))).details),V0 (((Ze (inB (l.take ((l.length/256)*256)) 0))).dslots),V0 (((Ze (inB (l.take ((l.length/256)*256)) 0))).dover),V0 (((Ze (inB (l.take ((l.length/256)*256)) 0))).mindex),V0 (((Ze (inB (l.take ((l.length/256)*256)) 0))).mover)] fun n1 d2 j5=>?_
 have c3:=d2.blkT (c2.blkT a6.blk d5 (by decide)) d7 (by decide)
 refine xsv 0 c3 [S0,V0 0] fun b9 c1 j0=>?_
 refine xd 3 .z ?_
 have g4:=(c1.blkT (d2.blkT (c2.blk (((b8.below b7.below).below a4.below).below a6.below) (Ne.symm (Ne.symm b1))) d7 (by decide)) c3 (by decide)).below (Za b9)
 refine xlv (.e [] 0) g4.rp ?_
 have h1:=(c1.blkT (d2.blkT l2 d7 (by decide)) c3 (by decide)).below (Za b9)
 refine xlv (.e [] 1) h1.rp ?_
 have g7:=((((((((((((i7.below e8.below).below e4.below).only (Zf.of_upd (T:=[48]) h6 h5 (by decide)) (by decide)).only (Zf.of_upd (T:=[24]) h8 i5 (by decide)) (by decide)).below b0).below a7).below b7.below).below a4.below).below a6.below).only (Zf.of_upd (T:=[48]) c2 d5 (by decide)) (by decide)).only (Zf.of_upd (T:=[24]) d2 d7 (by decide)) (by decide)).only (Zf.of_upd (T:=[52]) c1 c3 (by decide)) (by decide)).below (Za b9)
 have g3:=((((((j8.below b7.below).below a4.below).below a6.below).only (Zf.of_upd (T:=[48]) c2 d5 (by decide)) (by decide)).only (Zf.of_upd (T:=[24]) d2 d7 (by decide)) (by decide)).only (Zf.of_upd (T:=[52]) c1 c3 (by decide)) (by decide)).below (Za b9)
 refine xr (.o [] 2) (args:=#[.agg #[V0 (((Ze (inB (l.take ((l.length/256)*256)) 0))).tx),V0 (((Ze (inB (l.take ((l.length/256)*256)) 0))).time),V0 (((Ze (inB (l.take ((l.length/256)*256)) 0))).unit),V0 (((Ze (inB (l.take ((l.length/256)*256)) 0))).data),.slice p9 ((Us (l.take ((l.length/256)*256)) f2).2.2.length) c9],.agg #[V0 (((Ze (inB (l.take ((l.length/256)*256)) 0))).tx),V0 (((Ze (inB (l.take ((l.length/256)*256)) 0))).time),V0 (((Ze (inB (l.take ((l.length/256)*256)) 0))).unit),V0 (((Ze (inB (l.take ((l.length/256)*256)) 0))).data),.slice p8 ((Us (l.take ((l.length/256)*256)) f2).2.2.length) c8]]) (Er (Us (l.take ((l.length/256)*256)) f2) p9 p8 c9 c8 _ (Ze (inB (l.take ((l.length/256)*256)) 0)).tx (Ze (inB (l.take ((l.length/256)*256)) 0)).time (Ze (inB (l.take ((l.length/256)*256)) 0)).unit (Ze (inB (l.take ((l.length/256)*256)) 0)).data Z9 Z8 _ rfl g7 g3) fun n3 a1=>?_
 have f0:=((c1.blkT (d2.blk (c2.blkT ((b2.below a4.below).below a6.below) d5 (by decide)) (Ne.symm (Ne.symm a5))) c3 (by decide)).below (Za b9)).below a1
 refine xlv (.e [3] 4) f0.rp ?_
 have e1:=((c1.blkT j5 c3 (by decide)).below (Za b9)).below a1
 refine xlv (.e [] 5) e1.rp ?_
 refine xbo (.e [] 6) (t:=24) (t2:=24) (fun _ _ _ _ zo zx zy V hV=>run_supeq (Ze (inB (l.take ((l.length/256)*256)) 0)) zo zx zy V) ?_
 have g8:=(j0.below (Za b9)).below a1
 refine xlv (.e [7,8,9] 11) g8.rp ?_
 have e7:=bln (bln (c1.below (d2.below (c2.below (bln e5 a6.below) i9) k2) l4) (Za b9)) a1
 refine yc (.o [] 10) (args:=#[.nilIface]) .z (told_0 _ (hg.below e7)) ?_
 rintro _ o6 ⟨f7,rfl,f8,hq⟩
 refine⟨f8,?_⟩
 refine xr (.o [] 12) (args:=#[f7,.agg #[S0,V0 0]]) (Sg [] 0 f7 _ _ hq ⟨_,rfl,(.inl ⟨_,_,rfl,rfl,rfl⟩)⟩) fun o3 i3=>?_
 refine xr (.o [13,14] 15) (args:=#[]) (Zb8 _) fun m7 h2=>?_
 have f4:=bln (bln (bln e7 f8) i3) h2
 exact xe (.r [16,17] 3) (.bool true) ⟨rfl,f4⟩
end Go.Proofs.YtgphgaehfdfjjaaGreatDoor
namespace Go.Proofs.YtgphgaehfdfjjaaGreatDoor
set_option maxHeartbeats 8000000
set_option maxRecDepth 100000
open Go.ChangeShapes Go.WideShapes Go.ChangeAt Go.RowKit Go.Joins
set_option linter.unusedVariables false
theorem Zfg{H:Type}{enc:TypeId×Value→H}{P:Program}{W:World}{r:Reach}{b0:Nat}{t e:TypeId}{v:Value}{d:DataW H}{p:List MemPlace}(ht:P.underlying t=some (.slice e))(he:P.underlying e=some (.int .u8))(hC:P.cellsOf e=1)
 (hv:Value.okWide P W r b0 t v) (h:DataW.Trod enc P W 0 (fun _=>true) true t v d p):∃ l,Bys W v l:=by
 obtain⟨a,a2,a7,rfl⟩:=okWide_slice ht hv
 obtain⟨b1,hf⟩:=h
 rcases open_ints ht he hC hf with ⟨a1,_⟩|⟨x,l,c,zs,a1,_,hl,hm,hz,_,a0,a8⟩
 ·simp[Value.cells] at a1
  obtain⟨rfl,rfl,rfl⟩:=a1
  exact⟨[],.inl ⟨_,_,rfl,rfl,rfl⟩⟩
 ·simp[Value.cells] at a1
  obtain⟨rfl,rfl,rfl⟩:=a1
  have b3:zs.length=a7:=by simpa using hz
  by_cases h0:a2=0
  ·subst h0
   exact⟨[],.inl ⟨_,_,rfl,rfl,rfl⟩⟩
  ·obtain⟨b,a9,a6⟩:=x
   have hc:=a0 0 (by omega)
   have a3:a6=none:=by simpa [Addr.add] using World.cell?_spot hc
   subst a3
   have a5:((zs.take a2).map fun n=>UInt8.ofNat n.toNat).length=a2:=by simp;omega
   refine⟨(zs.take a2).map fun n=>UInt8.ofNat n.toNat,.inr ⟨b,a9,a7,by rw[a5],by omega,hm,fun j x hj=>?_⟩⟩
   have b2:j<a2:=by have:=(List.getElem?_eq_some_iff.1 hj).1;simp at this;omega
   have e1:zs[j]? = some zs[j]:=List.getElem?_eq_getElem (by omega)
   have hw:=a8 zs[j] (List.getElem_mem _)
   have a4:=a0 j (by omega)
   have e2:zs.getD j 0=zs[j]:=by simp[List.getD,e1]
   rw[e2] at a4
   have hx:x=.int .u8 zs[j]:=by
    rw[List.getElem?_map,List.getElem?_map,List.getElem?_take_of_lt b2,e1] at hj
    simp only[Option.map_some,Option.some.injEq] at hj
    rw[←hj]
    have hb:0≤zs[j]∧zs[j]≤255:=by simpa [Lit.wf,IntKind.min,IntKind.max,IntKind.signed,IntKind.bits] using hw
    have h3:(zs[j].toNat%256:Nat)=zs[j].toNat:=Nat.mod_eq_of_lt (by omega)
    simp only[bv,UInt8.toNat_ofNat']
    rw[show(2 ^ 8:Nat)=256 from rfl,h3,Int.toNat_of_nonneg hb.1]
   subst hx
   by_cases hj0:j=0
   ·subst hj0;simpa [Addr.add] using a4
   ·simpa [Addr.add,hj0] using a4
end Go.Proofs.YtgphgaehfdfjjaaGreatDoor
