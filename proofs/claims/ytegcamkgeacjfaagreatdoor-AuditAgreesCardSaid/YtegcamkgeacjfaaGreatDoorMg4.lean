/- Package audit: a device's tree, the details, the devices' trees. -/
import Derived.Laws.StructEq
import Derived.Shelf.Sort.Plain
import Derived.Shelf.Slices.In.SortNone
import Derived.Ground.SlgnProg
import Derived.Shelf.SlicesG.CompactI
import Derived.Test.YtegcamkgeacjfaaGreatDoorProg
import Derived.Sort.OwnSortedInts
import Derived.Lib.SlicesCompact
import Derived.RangeFuncNested
import Derived.RangeFuncBound
import Derived.RangeFuncCalls
import Derived.RangeFuncLeaves
import Derived.OwnWalkIn
import Derived.OrdersIn
import Derived.Shelf.Abstract
import Derived.Shelf.RegionOpen
import Derived.TacticsInMore
import Derived.LoopNIn
import Derived.LoopIn
import Derived.Sort.BigQuietIn
import Derived.Test.YtegcamkgeacjfaaGreatDoorMg3
namespace Go.Proofs.YtegcamkgeacjfaaGreatDoor
set_option maxHeartbeats 8000000
set_option maxRecDepth 100000
open Go.RowKit Go.Extern.Stop Go.Stop Go.Extern
set_option linter.unusedVariables false
attribute [local irreducible] wpList wpAnyH Code.wp Oper.wp Go
theorem Vo(Bi b:Nat)(pi:O0)(ni ci:Nat)(l:Bl)(root tree fuel:Int)(w:World)(hfu:fuel≤1000)(hI:ImgR Bi b pi ni ci l w) :
 C0 108 #[P0 b,V0 root,V0 tree,V0 fuel] w (fun e w'=>∃ pe pb pf ce cb cf fv,e=.returned (.agg #[.slice pe (Zd l root tree fuel).es.length ce,.slice pb (Zd l root tree fuel).bs.length cb,V0 (Zd l root tree fuel).deep,V0 ((Zd l root tree fuel).looked:Int),.slice pf (Zd l root tree fuel).fs.length cf])∧B0 w w' ∧
 w'.ownsRow w.heap.size 123 3 (.slice pe (Zd l root tree fuel).es.length ce) (Zd l root tree fuel).es.length ((Zd l root tree fuel).es.flatMap Hp)∧w'.ownsRow w.heap.size 29 1 (.slice pf (Zd l root tree fuel).fs.length cf) (Zd l root tree fuel).fs.length fv∧Qr w' (Zd l root tree fuel).fs fv):=by
 refine(Rf Bi b pi ni ci l root tree fuel w hfu hI).mono ?_
 rintro e W ⟨pe,pb,pf,ce,cb,cf,fv,rfl,hb,h⟩
 exact⟨pe,pb,pf,ce,cb,cf,fv,rfl,hb,h.ents,h.flts,h.fltv⟩
theorem Pm{data:Int}{es:List Ent}{i:Nat}(D:List Dg)(hi:i<es.length)(h:Qn data (es.getD i Zg).2.1≠0):D++Hu data (es.take (i+1))=D++Hu data (es.take i)++[((3:Int),(es.getD i Zg).2.2,Qn data (es.getD i Zg).2.1)]:=by
 rw[Rg hi,Zcc h,List.append_assoc]
theorem Ez{data:Int}{es:List Ent}{i:Nat}(hi:i<es.length)(h:Qn data (es.getD i Zg).2.1=0):Hu data (es.take (i+1))=Hu data (es.take i):=by
 rw[Rg hi,Ia h,List.append_nil]
theorem Qv{data:Int}{es:List Ent}{i:Nat}(hi:i<es.length)(h:Qn data (es.getD i Zg).2.1≠0):mapM data (es.take (i+1))=mapM data (es.take i):=by
 rw[Ea hi,Zeg h,List.append_nil]
theorem Pe{data:Int}{es:List Ent}{i:Nat}(hi:i<es.length)(h:Qn data (es.getD i Zg).2.1=0):(mapM data (es.take (i+1))).flatMap Kh=(mapM data (es.take i)).flatMap Kh++Kh (Zaw (es.getD i Zg))∧(mapM data (es.take (i+1))).length=(mapM data (es.take i)).length+1:=by
 rw[Ea hi,Ae h,List.flatMap_append]
 simp
theorem Fs(data:Int)(es:List Ent)(i:Nat):(Hu data (es.take i)).length≤es.length:=by
 have h1:=Ak data (es.take i);have h2:=List.length_take_le' i es;omega
theorem Rc(data:Int)(es:List Ent)(i:Nat):(mapM data (es.take i)).length≤es.length:=by
 have h1:=Ib data (es.take i);have h2:=List.length_take_le' i es;omega
theorem Cc{data:Int}{v:Bl}(h:Xc Vy v≠0):Qn data v=Xc Vy v:=if_pos h
theorem Fa{data:Int}{v:Bl}(h:Xc Vy v=0)(h2:data≤(Ug v:Int)):Qn data v=2:=by unfold Qn;rw[if_neg (fun q=>q h),if_pos h2]
theorem Tz{data:Int}{v:Bl}(h:Xc Vy v=0)(h2:¬ data≤(Ug v:Int)):Qn data v=0:=by unfold Qn;rw[if_neg (fun q=>q h),if_neg h2]
def AuDevP(B bx:Nat)(cs:List Value)(D:List Dg)(ra rb rc:Nat)(kd kr km:List (Int×Value))(L:List Mp)(G:List Dg)(w:World)(e:Ending)(w':World):Prop :=
 ∃ po co,e=.returned (.slice po L.length co)∧w'.ownsRow w.heap.size 164 3 (.slice po L.length co) L.length (L.flatMap Kh)∧Pw B bx cs (D++G) ra rb rc kd kr km w w'
theorem Kt(B bx:Nat)(p:O0)(c:Nat)(D:List Dg)(ra rb rc:Nat)(kd kr km:List (Int×Value))(pi:O0)(ni ci Bi b:Nat)(l:Bl)(s:Sup)(fuel:Int)(r:Int)(w:World)(hk:Blk w bx [.slice p D.length c,P0 b,V0 s.tx,V0 s.time,V0 s.unit,V0 s.data,V0 s.blocks,V0 s.top,V0 s.details,V0 s.dslots,V0 s.dover,V0 s.mindex,V0 s.mover,V0 fuel,.map (some ra),.map (some rb),.map (some rc)] 114)(ho:w.ownsRow B 100 3 (.slice p D.length c) D.length (D.flatMap dmc))(hM:Maps3 B ra rb rc kd kr km w)(hI:ImgR Bi b pi ni ci l w)(hfu:fuel≤1000)(hg:∀ W,Below B w W→Dz W)(hBb:B≤bx)(hBw:B≤w.heap.size)(hl:D.length≤900000000) :
 C0 112 #[P0 bx,V0 r] w (AuDevP B bx [P0 b,V0 s.tx,V0 s.time,V0 s.unit,V0 s.data,V0 s.blocks,V0 s.top,V0 s.details,V0 s.dslots,V0 s.dover,V0 s.mindex,V0 s.mover,V0 fuel,.map (some ra),.map (some rb),.map (some rc)] D ra rb rc kd kr km (Ji l s.data fuel r) (Fc l s.data fuel r) w):=by
 have s9:=Qz l r 2 fuel hfu
 have s5:w.heap.size≤w.heap.size:=Nat.le_refl _
 refine zin 71 Tryz.func112 ?_
 refine xd 6 (.t B [130]) ?_
 have f0:=hk.below (Za w)
 refine xbt (.e [0,1,2] 3) 1 B [130] f0 ?_
 refine xbt (.e [4,5,6,7] 8) 13 B [130] f0 ?_
 refine xm2 0 9 10 ?_ ?_
 ·have l0:=hI.below (Za w)
  refine yc 0 (args:=#[P0 b,V0 r,V0 2,V0 fuel]) (.t B [130]) (Vo Bi b pi ni ci l r 2 fuel _ hfu l0) ?_
  rintro _ W1 ⟨pe,pb,pf,ce,cb,cf,fv,rfl,g1,b0,h3,r9⟩
  have s6:=(blB (Below.refl B w) hBw (Za w)).size
  refine⟨(SF.of_below _ g1),?_⟩
  have j2:=Zh b0 s6
  have m0:=Zh h3 s6
  replace b0:=Zh j2 hBw
  replace h3:=Zh m0 hBw
  refine xa (.o [] 10) [S0,S0,V0 0,V0 0,S0] 130 fun b2 W2 n2=>?_
  have g2:=n2.ge0 (blB (blB (Below.refl B w) hBw (Za w)) hBw g1)
  refine ysv (.o [] 11) n2.blk [.slice pe ((Zd l r 2 fuel).es.length) ce,.slice pb ((Zd l r 2 fuel).bs.length) cb,V0 ((Zd l r 2 fuel).deep),V0 (↑(Zd l r 2 fuel).looked:Int),.slice pf ((Zd l r 2 fuel).fs.length) cf] (.t B [130]) fun W3 u3 k3=>⟨(Zt u3 n2.blk (Nat.le_trans hBw g2) (by decide)),?_⟩
  refine xd 3 (.t B [114,100]) ?_
  have j9:=k3.below (Za W3)
  refine xbt (.e [0,1,2,3] 4) 4 B [114,100] j9 ?_
  have p6:=Zb (u3.own2 (Zb (Zb (Zb ho (Za w)) g1) n2.below) n2.blk (by decide)) (Za W3)
  have q0:=((((hM.below (Za w)).below g1).below n2.below).updBlk u3 n2.blk).below (Za W3)
  have i1:=Zb (u3.own2 (Zb h3 n2.below) n2.blk (by decide)) (Za W3)
  have n0:=(u3.blkT ((f0.below g1).below n2.below) n2.blk (by decide)).below (Za W3)
  have j5:=((r9.below n2.below).only (Ze.of_upd (T:=[130]) u3 n2.blk (by decide)) (by decide)).below (Za W3)
  have hB:=blB (u3.below (blB (blB (blB (Below.refl B w) hBw (Za w)) hBw g1) hBw n2.below) (Nat.le_trans hBw g2)) hBw (Za W3)
  refine yc (.o [] 5) (args:=#[P0 bx,V0 3,.slice pf ((Zd l r 2 fuel).fs.length) cf]) (.t B [114,100]) (Yl B bx _ _ D ra rb rc _ _ _ _ _ _ _ _ _ _ _ _ _ _ _ _ _ _ _ 3 pf cf (Zd l r 2 fuel).fs fv _ n0 p6 q0 i1 j5 (Ks _ _ _ _) (fun W hb=>hg W (Below.trans hB hb)) hBb (Nat.le_trans hBw hB.size) (by first|omega|(simp;omega))) ?_
  rintro _ W4 ⟨⟨u4,rfl⟩,p4,c4,s7,i0,t4,t8,hM⟩
  refine⟨(Xo s7 i0),?_⟩
  have k5:=j9.only i0 (by decide)
  refine xb 11 0 k5 ?_
  have m2:=t4
  have m5:=t8
  rw[(by simp[Hu]:D++(Zd l r 2 fuel).fs.map (Qd 3)=D++(Zd l r 2 fuel).fs.map (Qd 3)++Hu s.data ((Zd l r 2 fuel).es.take 0))] at m2 m5
  have l6:=Zf (Zb (u3.own2 (Zb b0 n2.below) n2.blk (by decide)) (Za W3)) i0 (by decide)
  have q9:=((((l0.below g1).below n2.below).only (Ze.of_upd (T:=[130]) u3 n2.blk (by decide)) (by decide)).below (Za W3)).only i0 (by decide)
  have r7:=hB.trans s7
  have hO:=((Ze.upd_new (((show Ze [114,100] w _ from(Ze.of_below (Za w))).trans (Ze.of_below g1)).trans (Ze.of_below n2.below)) u3 g2).trans (Ze.of_below (Za W3))).trans i0
  refine zl 5 71 (fun zm q1 V=>∃ (i:Nat) (p:O0) (c:Nat) (po:O0) (co:Nat),q1=[(0,P0 bx),(4,S0),(6,.slice po ((mapM s.data ((Zd l r 2 fuel).es.take i)).length) co),(29,.slice pe ((Zd l r 2 fuel).es.length) ce),(30,V0 (↑((Zd l r 2 fuel).es.length):Int)),(31,V0 (i:Int))]∧zm=(Zd l r 2 fuel).es.length-((i:Int)).toNat∧Below B w V∧Ze [114,100] w V∧Blk V bx ([.slice p ((D++(Zd l r 2 fuel).fs.map (Qd 3)++Hu s.data ((Zd l r 2 fuel).es.take i)).length) c,P0 b,V0 s.tx,V0 s.time,V0 s.unit,V0 s.data,V0 s.blocks,V0 s.top,V0 s.details,V0 s.dslots,V0 s.dover,V0 s.mindex,V0 s.mover,V0 fuel,.map (some ra),.map (some rb),.map (some rc)]) 114∧Blk V b2 ([.slice pe ((Zd l r 2 fuel).es.length) ce,.slice pb ((Zd l r 2 fuel).bs.length) cb,V0 ((Zd l r 2 fuel).deep),V0 (↑(Zd l r 2 fuel).looked:Int),.slice pf ((Zd l r 2 fuel).fs.length) cf]) 130∧V.ownsRow B 100 3 (.slice p (D++(Zd l r 2 fuel).fs.map (Qd 3)++Hu s.data ((Zd l r 2 fuel).es.take i)).length c) (D++(Zd l r 2 fuel).fs.map (Qd 3)++Hu s.data ((Zd l r 2 fuel).es.take i)).length ((D++(Zd l r 2 fuel).fs.map (Qd 3)++Hu s.data ((Zd l r 2 fuel).es.take i)).flatMap dmc)∧V.ownsRow B 123 3 (.slice pe (Zd l r 2 fuel).es.length ce) (Zd l r 2 fuel).es.length ((Zd l r 2 fuel).es.flatMap Hp)∧V.ownsRow w.heap.size 164 3 (.slice po (mapM s.data ((Zd l r 2 fuel).es.take i)).length co) (mapM s.data ((Zd l r 2 fuel).es.take i)).length ((mapM s.data ((Zd l r 2 fuel).es.take i)).flatMap Kh)∧Maps3 B ra rb rc kd kr km V∧ImgR Bi b pi ni ci l V∧i≤(Zd l r 2 fuel).es.length) ⟨0,_,_,none,0,rfl,rfl,r7,hO,m2,k5,m5,l6,World.ownsRow_nil _ _ _ _,hM,q9,Nat.zero_le _⟩ ?_
  rintro _ _ W5 ⟨i,p,c,po,co,rfl,rfl,e2,f8,e4,e3,ho,b0,f9,hM,hI,hi⟩ J5 o7 r5
  have t9:=Fs s.data (Zd l r 2 fuel).es i
  have u0:=Rc s.data (Zd l r 2 fuel).es i
  have t1:=Qz l r 2 fuel hfu
  refine xid 6 ((i:Int)<(↑((Zd l r 2 fuel).es.length):Int)) (fun t3=>?_) (fun t3=>?_)
  ·refine xx 6 _ ((Zd l r 2 fuel).es.length) i 3 (Sts.cell (f:=Hp) (Zi b0) Xt Zg (k:=i) (i:=0) (by omega) rfl).1 ?_
   refine xlv 0 (Sts.rp (k:=i) (Zi b0) Xt Zg (by omega) (by decide)) ?_
   refine xa 0 [V0 0,.string ⟨#[]⟩,V0 0] 123 fun b7 W7 n7=>?_
   have g7:=n7.ge0 e2
   have c3:=Zz b0 n7
   refine xsv 0 n7.blk [V0 (((Zd l r 2 fuel).es.getD i Zg).1),.string ⟨(((Zd l r 2 fuel).es.getD i Zg).2.1).toArray⟩,V0 (((Zd l r 2 fuel).es.getD i Zg).2.2)] fun W8 u8 k8=>?_
   refine xb 5 1 k8 ?_
   refine xr 0 (args:=#[.string ⟨(((Zd l r 2 fuel).es.getD i Zg).2.1).toArray⟩]) (Ja ((Zd l r 2 fuel).es.getD i Zg).2.1 _ (Xz _ _ _ _ i (by omega))) fun W9 a3=>?_
   refine xg 15 [43,44] ((Xc Vy ((Zd l r 2 fuel).es.getD i Zg).2.1)==(0:Int)) (fun e6=>?_) (fun e6=>?_)
   ·have e6:=eq_of_beq e6
    have b3:=(u8.blkT (e4.below n7.below) n7.blk (by decide)).below a3
    refine xb 5 5 b3 ?_
    refine xid 4 ((↑(Ug ((Zd l r 2 fuel).es.getD i Zg).2.1):Int)≥s.data) (fun n3=>?_) (fun n3=>?_)
    ·have b5:(Qn s.data ((Zd l r 2 fuel).es.getD i Zg).2.1)=2:=Fa (by omega) (by omega)
     have a8:(Qn s.data ((Zd l r 2 fuel).es.getD i Zg).2.1)≠0:=by rw[b5];decide
     refine xv1 5 11 (show(V0 2:Value)=V0 (Qn s.data ((Zd l r 2 fuel).es.getD i Zg).2.1) from(congrArg V0 b5.symm)) ?_
     refine xd 0 (.t B [114,100]) ?_
     have s1:=(k8.below a3).below (Za W9)
     refine xbt (.e [0,1,2,3] 4) 2 B [114,100] s1 ?_
     have r6:=Zb (Zb (u8.own2 (Zb ho n7.below) n7.blk (by decide)) a3) (Za W9)
     have r4:=(((hM.below n7.below).updBlk u8 n7.blk).below a3).below (Za W9)
     have f6:=b3.below (Za W9)
     have k9:=blB (blB (u8.below (blB e2 hBw n7.below) (Nat.le_trans hBw g7)) hBw a3) hBw (Za W9)
     refine yc (.o [5] 6) (args:=#[P0 bx,V0 3,V0 (((Zd l r 2 fuel).es.getD i Zg).2.2),V0 (Qn s.data ((Zd l r 2 fuel).es.getD i Zg).2.1)]) (.t B [114,100]) (Xj B bx _ _ (D++(Zd l r 2 fuel).fs.map (Qd 3)++Hu s.data ((Zd l r 2 fuel).es.take i)) ra rb rc _ _ _ _ _ _ _ _ _ _ _ _ _ _ _ _ _ _ _ 3 (((Zd l r 2 fuel).es.getD i Zg).2.2) (Qn s.data ((Zd l r 2 fuel).es.getD i Zg).2.1) _ (by first|assumption|decide|omega) f6 r6 r4 hBb (Nat.le_trans hBw k9.size) (by first|omega|(simp;omega))) ?_
     rintro _ v4 ⟨rfl,pa,ca,l2,d0,h4,h2,hM⟩
     refine⟨(Xo l2 d0),?_⟩
     refine xwm (.r [7] 7) ((i:Int)+1) (↑(i+1):Int) ?_
     have h8:=Zf (Zb (Zb (u8.own2 (Zb f9 n7.below) n7.blk (by decide)) a3) (Za W9)) d0 (by decide)
     refine xv1 2 6 (show(.slice po ((mapM s.data ((Zd l r 2 fuel).es.take i)).length) co:Value)=.slice po ((mapM s.data ((Zd l r 2 fuel).es.take (i+1))).length) co from by rw[Qv (by omega) a8]) ?_
     have b9:=h4
     have c1:=h2
     have c7:=h8
     rw[←Pm _ (by omega) a8] at b9 c1
     rw[←Qv (by omega) a8] at c7
     have q2:=k9.trans l2
     have o0:=(((Ze.upd_new (f8.trans (Ze.of_below n7.below)) u8 g7).trans (Ze.of_below a3)).trans (Ze.of_below (Za W9))).trans d0
     have f4:=(((u8.blkT (e3.below n7.below) n7.blk (by decide)).below a3).below (Za W9)).only d0 (by decide)
     have m6:=Zf (Zb (Zb (u8.own3 (Zb b0 n7.below) c3) a3) (Za W9)) d0 (by decide)
     have r1:=((((hI.below n7.below).only (Ze.of_upd (T:=[123]) u8 n7.blk (by decide)) (by decide)).below a3).below (Za W9)).only d0 (by decide)
     exact ze 0 (o7 _ _ _ ⟨i+1,_,_,_,_,rfl,rfl,q2,o0,b9,f4,c1,m6,c7,hM,r1,by omega⟩ (by omega))
    have a8:(Qn s.data ((Zd l r 2 fuel).es.getD i Zg).2.1)=0:=Tz (by omega) (by omega)
    have n8:Xc Vy ((Zd l r 2 fuel).es.getD i Zg).2.1=0:=by omega
    refine xv1 3 11 (show(V0 (Xc Vy ((Zd l r 2 fuel).es.getD i Zg).2.1):Value)=V0 0 from(congrArg V0 n8)) ?_
    refine xd 0 (.t B [114,100]) ?_
    have k0:=(k8.below a3).below (Za W9)
    refine xbt (.e [0,1,2,3] 4) 2 B [114,100] k0 ?_
    refine xr (.o [5] 6) (args:=#[P0 bx,V0 3,V0 (((Zd l r 2 fuel).es.getD i Zg).2.2),V0 0]) (Jp bx 3 (((Zd l r 2 fuel).es.getD i Zg).2.2) _) fun u6 b1=>?_
    have r8:=k0.below b1
    refine xb (.r [7] 6) 0 r8 ?_
    refine xbs 3 1 [V0 (((Zd l r 2 fuel).es.getD i Zg).1),V0 (↑(Ug ((Zd l r 2 fuel).es.getD i Zg).2.1):Int),V0 (↑(Lc ((Zd l r 2 fuel).es.getD i Zg).2.1):Int)] 164 fun u7 v6 d6=>?_
    have i3:=blB (blB (blB (u8.below (blB e2 hBw n7.below) (Nat.le_trans hBw g7)) hBw a3) hBw (Za W9)) hBw b1
    have w8:=d6.ge0 i3
    have g3:=Zb (Zb (Zb (u8.own2 (Zb f9 n7.below) n7.blk (by decide)) a3) (Za W9)) b1
    have m9:=Zz g3 d6
    have a5:=Zb g3 d6.below
    have k4:=blB i3 hBw d6.below
    refine xbi 0 fun _ _ _ _ zJ zQ zo zx zy zK=>Xq (m:=1) (news:=[V0 (((Zd l r 2 fuel).es.getD i Zg).1),V0 (↑(Ug ((Zd l r 2 fuel).es.getD i Zg).2.1):Int),V0 (↑(Lc ((Zd l r 2 fuel).es.getD i Zg).2.1):Int)]) (.agg #[V0 0,V0 0,V0 0]) 3 24 ((mapM s.data ((Zd l r 2 fuel).es.take (i+1))).length) (((mapM s.data ((Zd l r 2 fuel).es.take (i+1))).flatMap Kh)) zo Tryz.underlying59 (by kernel_rfl) rfl (by decide) zx a5 zy (d6.blk.sl 1 1 (by decide) (by decide)) rfl (by simp[Value.oneCell']) (by unfold maxLen;omega) (by omega) (Nat.le_trans s5 k4.size) (by rw[(Pe (by omega) a8).2]) (by rw[(Pe (by omega) a8).1];rfl) fun t5 u1 w5 s8 c6 s2=>?_
    refine zK _ _ ?_
    refine xwm 5 ((i:Int)+1) (↑(i+1):Int) ?_
    have e9:=(((b3.below (Za W9)).below b1).below d6.below).grown c6 a5 (by decide)
    have o5:=Zp (Zb (Zb (Zb (Zb (u8.own2 (Zb ho n7.below) n7.blk (by decide)) a3) (Za W9)) b1) d6.below) c6 a5 (by decide)
    have b9:=e9
    have c1:=o5
    have c7:=s8
    rw[←Ez (by omega) a8] at b9 c1
    have p3:=k4.trans (s2.mono hBw)
    have o6:=(Ze.grown_new (((((Ze.upd_new (f8.trans (Ze.of_below n7.below)) u8 g7).trans (Ze.of_below a3)).trans (Ze.of_below (Za W9))).trans (Ze.of_below b1)).trans (Ze.of_below d6.below)) c6 a5)
    have f1:=(((((u8.blkT (e3.below n7.below) n7.blk (by decide)).below a3).below (Za W9)).below b1).below d6.below).grown c6 a5 (by decide)
    have i7:=Zp (Zb (Zb (Zb (Zb (u8.own3 (Zb b0 n7.below) c3) a3) (Za W9)) b1) d6.below) c6 a5 (by decide)
    have n4:=((((((hM.below n7.below).updBlk u8 n7.blk).below a3).below (Za W9)).below b1).below d6.below).grown c6 a5
    have q5:=((((((hI.below n7.below).only (Ze.of_upd (T:=[123]) u8 n7.blk (by decide)) (by decide)).below a3).below (Za W9)).below b1).below d6.below).only (Ze.of_grown (T:=[164]) c6 a5 (by decide)) (by decide)
    exact ze 2 (o7 _ _ _ ⟨i+1,_,_,_,_,rfl,rfl,p3,o6,b9,f1,c1,i7,c7,n4,q5,by omega⟩ (by omega))
   have e6:=Xm e6
   have b5:(Qn s.data ((Zd l r 2 fuel).es.getD i Zg).2.1)=Xc Vy ((Zd l r 2 fuel).es.getD i Zg).2.1:=Cc (by omega)
   have a8:(Qn s.data ((Zd l r 2 fuel).es.getD i Zg).2.1)≠0:=by omega
   refine xv1 14 11 (show(V0 (Xc Vy ((Zd l r 2 fuel).es.getD i Zg).2.1):Value)=V0 (Qn s.data ((Zd l r 2 fuel).es.getD i Zg).2.1) from(congrArg V0 b5.symm)) ?_
   refine xd 0 (.t B [114,100]) ?_
   have r2:=(k8.below a3).below (Za W9)
   refine xbt (.e [0,1,2,3] 4) 2 B [114,100] r2 ?_
   have p0:=Zb (Zb (u8.own2 (Zb ho n7.below) n7.blk (by decide)) a3) (Za W9)
   have p5:=(((hM.below n7.below).updBlk u8 n7.blk).below a3).below (Za W9)
   have f5:=((u8.blkT (e4.below n7.below) n7.blk (by decide)).below a3).below (Za W9)
   have l4:=blB (blB (u8.below (blB e2 hBw n7.below) (Nat.le_trans hBw g7)) hBw a3) hBw (Za W9)
   refine yc (.o [5] 6) (args:=#[P0 bx,V0 3,V0 (((Zd l r 2 fuel).es.getD i Zg).2.2),V0 (Qn s.data ((Zd l r 2 fuel).es.getD i Zg).2.1)]) (.t B [114,100]) (Xj B bx _ _ (D++(Zd l r 2 fuel).fs.map (Qd 3)++Hu s.data ((Zd l r 2 fuel).es.take i)) ra rb rc _ _ _ _ _ _ _ _ _ _ _ _ _ _ _ _ _ _ _ 3 (((Zd l r 2 fuel).es.getD i Zg).2.2) (Qn s.data ((Zd l r 2 fuel).es.getD i Zg).2.1) _ (by first|assumption|decide|omega) f5 p0 p5 hBb (Nat.le_trans hBw l4.size) (by first|omega|(simp;omega))) ?_
   rintro _ v2 ⟨rfl,pa,ca,j4,d4,h4,h2,hM⟩
   refine⟨(Xo j4 d4),?_⟩
   refine xwm (.r [7] 7) ((i:Int)+1) (↑(i+1):Int) ?_
   have i8:=Zf (Zb (Zb (u8.own2 (Zb f9 n7.below) n7.blk (by decide)) a3) (Za W9)) d4 (by decide)
   refine xv1 2 6 (show(.slice po ((mapM s.data ((Zd l r 2 fuel).es.take i)).length) co:Value)=.slice po ((mapM s.data ((Zd l r 2 fuel).es.take (i+1))).length) co from by rw[Qv (by omega) a8]) ?_
   have b9:=h4
   have c1:=h2
   have c7:=i8
   rw[←Pm _ (by omega) a8] at b9 c1
   rw[←Qv (by omega) a8] at c7
   have n1:=l4.trans j4
   have n6:=(((Ze.upd_new (f8.trans (Ze.of_below n7.below)) u8 g7).trans (Ze.of_below a3)).trans (Ze.of_below (Za W9))).trans d4
   have f3:=(((u8.blkT (e3.below n7.below) n7.blk (by decide)).below a3).below (Za W9)).only d4 (by decide)
   have m3:=Zf (Zb (Zb (u8.own3 (Zb b0 n7.below) c3) a3) (Za W9)) d4 (by decide)
   have p8:=((((hI.below n7.below).only (Ze.of_upd (T:=[123]) u8 n7.blk (by decide)) (by decide)).below a3).below (Za W9)).only d4 (by decide)
   exact ze 0 (o7 _ _ _ ⟨i+1,_,_,_,_,rfl,rfl,n1,n6,b9,f3,c1,m3,c7,hM,p8,by omega⟩ (by omega))
  refine xe 12 (.slice po ((mapM s.data ((Zd l r 2 fuel).es.take i)).length) co) ?_
  obtain rfl:i=(Zd l r 2 fuel).es.length:=by omega
  have h9:=e4
  have l9:=ho
  have l7:=f9
  rw[List.take_of_length_le (Nat.le_refl _)] at l7
  rw[List.take_of_length_le (Nat.le_refl _),List.append_assoc] at h9 l9
  rw[List.take_of_length_le (Nat.le_refl _)]
  exact⟨_,_,rfl,l7,_,_,e2,f8,h9,l9,hM⟩
 refine xa 0 [S0,S0,V0 0,V0 0,S0] 130 fun u2 v5 f2=>?_
 have m4:=(hI.below (Za w)).below f2.below
 refine yc (.o [] 9) (args:=#[P0 b,V0 r,V0 2,V0 fuel]) (.t B [130]) (Vo Bi b pi ni ci l r 2 fuel _ hfu m4) ?_
 rintro _ v8 ⟨pe,pb,pf,ce,cb,cf,fv,rfl,b8,b0,h3,r9⟩
 have j6:=(blB (blB (Below.refl B w) hBw (Za w)) hBw f2.below).size
 refine⟨(SF.of_below _ b8),?_⟩
 have l8:=Zh b0 j6
 have i2:=Zh h3 j6
 replace b0:=Zh l8 hBw
 replace h3:=Zh i2 hBw
 have f7:=f2.blk.below b8
 have o9:=f2.ge0 (blB (Below.refl B w) hBw (Za w))
 refine ysv (.o [] 11) f7 [.slice pe ((Zd l r 2 fuel).es.length) ce,.slice pb ((Zd l r 2 fuel).bs.length) cb,V0 ((Zd l r 2 fuel).deep),V0 (↑(Zd l r 2 fuel).looked:Int),.slice pf ((Zd l r 2 fuel).fs.length) cf] (.t B [130]) fun e8 e7 t0=>⟨(Zt e7 f7 (Nat.le_trans hBw o9) (by decide)),?_⟩
 refine xd 3 (.t B [114,100]) ?_
 have g9:=t0.below (Za e8)
 refine xbt (.e [0,1,2,3] 4) 4 B [114,100] g9 ?_
 have q8:=Zb (e7.own2 (Zb (Zb (Zb ho (Za w)) f2.below) b8) f7 (by decide)) (Za e8)
 have o3:=((((hM.below (Za w)).below f2.below).below b8).updBlk e7 f7).below (Za e8)
 have j7:=Zb (e7.own2 h3 f7 (by decide)) (Za e8)
 have q6:=(e7.blkT ((f0.below f2.below).below b8) f7 (by decide)).below (Za e8)
 have l1:=(r9.only (Ze.of_upd (T:=[130]) e7 f7 (by decide)) (by decide)).below (Za e8)
 have hB:=blB (e7.below (blB (blB (blB (Below.refl B w) hBw (Za w)) hBw f2.below) hBw b8) (Nat.le_trans hBw o9)) hBw (Za e8)
 refine yc (.o [] 5) (args:=#[P0 bx,V0 3,.slice pf ((Zd l r 2 fuel).fs.length) cf]) (.t B [114,100]) (Yl B bx _ _ D ra rb rc _ _ _ _ _ _ _ _ _ _ _ _ _ _ _ _ _ _ _ 3 pf cf (Zd l r 2 fuel).fs fv _ q6 q8 o3 j7 l1 (Ks _ _ _ _) (fun W hb=>hg W (Below.trans hB hb)) hBb (Nat.le_trans hBw hB.size) (by first|omega|(simp;omega))) ?_
 rintro _ v7 ⟨⟨v1,rfl⟩,v3,w2,k6,e0,o8,r0,hM⟩
 refine⟨(Xo k6 e0),?_⟩
 have g5:=g9.only e0 (by decide)
 refine xb 11 0 g5 ?_
 have m2:=o8
 have m5:=r0
 rw[(by simp[Hu]:D++(Zd l r 2 fuel).fs.map (Qd 3)=D++(Zd l r 2 fuel).fs.map (Qd 3)++Hu s.data ((Zd l r 2 fuel).es.take 0))] at m2 m5
 have l5:=Zf (Zb (e7.own2 b0 f7 (by decide)) (Za e8)) e0 (by decide)
 have q7:=(((m4.below b8).only (Ze.of_upd (T:=[130]) e7 f7 (by decide)) (by decide)).below (Za e8)).only e0 (by decide)
 have s3:=hB.trans k6
 have hO:=((Ze.upd_new (((show Ze [114,100] w _ from(Ze.of_below (Za w))).trans (Ze.of_below f2.below)).trans (Ze.of_below b8)) e7 o9).trans (Ze.of_below (Za e8))).trans e0
 refine zl 5 71 (fun zm q1 V=>∃ (i:Nat) (p:O0) (c:Nat) (po:O0) (co:Nat),q1=[(0,P0 bx),(4,S0),(6,.slice po ((mapM s.data ((Zd l r 2 fuel).es.take i)).length) co),(29,.slice pe ((Zd l r 2 fuel).es.length) ce),(30,V0 (↑((Zd l r 2 fuel).es.length):Int)),(31,V0 (i:Int))]∧zm=(Zd l r 2 fuel).es.length-((i:Int)).toNat∧Below B w V∧Ze [114,100] w V∧Blk V bx ([.slice p ((D++(Zd l r 2 fuel).fs.map (Qd 3)++Hu s.data ((Zd l r 2 fuel).es.take i)).length) c,P0 b,V0 s.tx,V0 s.time,V0 s.unit,V0 s.data,V0 s.blocks,V0 s.top,V0 s.details,V0 s.dslots,V0 s.dover,V0 s.mindex,V0 s.mover,V0 fuel,.map (some ra),.map (some rb),.map (some rc)]) 114∧Blk V u2 ([.slice pe ((Zd l r 2 fuel).es.length) ce,.slice pb ((Zd l r 2 fuel).bs.length) cb,V0 ((Zd l r 2 fuel).deep),V0 (↑(Zd l r 2 fuel).looked:Int),.slice pf ((Zd l r 2 fuel).fs.length) cf]) 130∧V.ownsRow B 100 3 (.slice p (D++(Zd l r 2 fuel).fs.map (Qd 3)++Hu s.data ((Zd l r 2 fuel).es.take i)).length c) (D++(Zd l r 2 fuel).fs.map (Qd 3)++Hu s.data ((Zd l r 2 fuel).es.take i)).length ((D++(Zd l r 2 fuel).fs.map (Qd 3)++Hu s.data ((Zd l r 2 fuel).es.take i)).flatMap dmc)∧V.ownsRow B 123 3 (.slice pe (Zd l r 2 fuel).es.length ce) (Zd l r 2 fuel).es.length ((Zd l r 2 fuel).es.flatMap Hp)∧V.ownsRow w.heap.size 164 3 (.slice po (mapM s.data ((Zd l r 2 fuel).es.take i)).length co) (mapM s.data ((Zd l r 2 fuel).es.take i)).length ((mapM s.data ((Zd l r 2 fuel).es.take i)).flatMap Kh)∧Maps3 B ra rb rc kd kr km V∧ImgR Bi b pi ni ci l V∧i≤(Zd l r 2 fuel).es.length) ⟨0,_,_,none,0,rfl,rfl,s3,hO,m2,g5,m5,l5,World.ownsRow_nil _ _ _ _,hM,q7,Nat.zero_le _⟩ ?_
 rintro _ _ u5 ⟨i,p,c,po,co,rfl,rfl,c0,c8,c5,b6,ho,b0,f9,hM,hI,hi⟩ v0 h6 x0
 have t9:=Fs s.data (Zd l r 2 fuel).es i
 have u0:=Rc s.data (Zd l r 2 fuel).es i
 have t1:=Qz l r 2 fuel hfu
 refine xid 6 ((i:Int)<(↑((Zd l r 2 fuel).es.length):Int)) (fun p9=>?_) (fun p9=>?_)
 ·refine xx 6 _ ((Zd l r 2 fuel).es.length) i 3 (Sts.cell (f:=Hp) (Zi b0) Xt Zg (k:=i) (i:=0) (by omega) rfl).1 ?_
  refine xlv 0 (Sts.rp (k:=i) (Zi b0) Xt Zg (by omega) (by decide)) ?_
  refine xa 0 [V0 0,.string ⟨#[]⟩,V0 0] 123 fun w4 w0 a1=>?_
  have h7:=a1.ge0 c0
  have b4:=Zz b0 a1
  refine xsv 0 a1.blk [V0 (((Zd l r 2 fuel).es.getD i Zg).1),.string ⟨(((Zd l r 2 fuel).es.getD i Zg).2.1).toArray⟩,V0 (((Zd l r 2 fuel).es.getD i Zg).2.2)] fun w7 a4 m8=>?_
  refine xb 5 1 m8 ?_
  refine xr 0 (args:=#[.string ⟨(((Zd l r 2 fuel).es.getD i Zg).2.1).toArray⟩]) (Ja ((Zd l r 2 fuel).es.getD i Zg).2.1 _ (Xz _ _ _ _ i (by omega))) fun a2 a0=>?_
  refine xg 15 [43,44] ((Xc Vy ((Zd l r 2 fuel).es.getD i Zg).2.1)==(0:Int)) (fun d9=>?_) (fun d9=>?_)
  ·have d9:=eq_of_beq d9
   have a7:=(a4.blkT (c5.below a1.below) a1.blk (by decide)).below a0
   refine xb 5 5 a7 ?_
   refine xid 4 ((↑(Ug ((Zd l r 2 fuel).es.getD i Zg).2.1):Int)≥s.data) (fun p7=>?_) (fun p7=>?_)
   ·have b5:(Qn s.data ((Zd l r 2 fuel).es.getD i Zg).2.1)=2:=Fa (by omega) (by omega)
    have a8:(Qn s.data ((Zd l r 2 fuel).es.getD i Zg).2.1)≠0:=by rw[b5];decide
    refine xv1 5 11 (show(V0 2:Value)=V0 (Qn s.data ((Zd l r 2 fuel).es.getD i Zg).2.1) from(congrArg V0 b5.symm)) ?_
    refine xd 0 (.t B [114,100]) ?_
    have k7:=(m8.below a0).below (Za a2)
    refine xbt (.e [0,1,2,3] 4) 2 B [114,100] k7 ?_
    have s0:=Zb (Zb (a4.own2 (Zb ho a1.below) a1.blk (by decide)) a0) (Za a2)
    have p2:=(((hM.below a1.below).updBlk a4 a1.blk).below a0).below (Za a2)
    have e5:=a7.below (Za a2)
    have h1:=blB (blB (a4.below (blB c0 hBw a1.below) (Nat.le_trans hBw h7)) hBw a0) hBw (Za a2)
    refine yc (.o [5] 6) (args:=#[P0 bx,V0 3,V0 (((Zd l r 2 fuel).es.getD i Zg).2.2),V0 (Qn s.data ((Zd l r 2 fuel).es.getD i Zg).2.1)]) (.t B [114,100]) (Xj B bx _ _ (D++(Zd l r 2 fuel).fs.map (Qd 3)++Hu s.data ((Zd l r 2 fuel).es.take i)) ra rb rc _ _ _ _ _ _ _ _ _ _ _ _ _ _ _ _ _ _ _ 3 (((Zd l r 2 fuel).es.getD i Zg).2.2) (Qn s.data ((Zd l r 2 fuel).es.getD i Zg).2.1) _ (by first|assumption|decide|omega) e5 s0 p2 hBb (Nat.le_trans hBw h1.size) (by first|omega|(simp;omega))) ?_
    rintro _ w6 ⟨rfl,pa,ca,k2,c9,h4,h2,hM⟩
    refine⟨(Xo k2 c9),?_⟩
    refine xwm (.r [7] 7) ((i:Int)+1) (↑(i+1):Int) ?_
    have m1:=Zf (Zb (Zb (a4.own2 (Zb f9 a1.below) a1.blk (by decide)) a0) (Za a2)) c9 (by decide)
    refine xv1 2 6 (show(.slice po ((mapM s.data ((Zd l r 2 fuel).es.take i)).length) co:Value)=.slice po ((mapM s.data ((Zd l r 2 fuel).es.take (i+1))).length) co from by rw[Qv (by omega) a8]) ?_
    have b9:=h4
    have c1:=h2
    have c7:=m1
    rw[←Pm _ (by omega) a8] at b9 c1
    rw[←Qv (by omega) a8] at c7
    have j1:=h1.trans k2
    have n5:=(((Ze.upd_new (c8.trans (Ze.of_below a1.below)) a4 h7).trans (Ze.of_below a0)).trans (Ze.of_below (Za a2))).trans c9
    have d3:=(((a4.blkT (b6.below a1.below) a1.blk (by decide)).below a0).below (Za a2)).only c9 (by decide)
    have i4:=Zf (Zb (Zb (a4.own3 (Zb b0 a1.below) b4) a0) (Za a2)) c9 (by decide)
    have p1:=((((hI.below a1.below).only (Ze.of_upd (T:=[123]) a4 a1.blk (by decide)) (by decide)).below a0).below (Za a2)).only c9 (by decide)
    exact ze 0 (h6 _ _ _ ⟨i+1,_,_,_,_,rfl,rfl,j1,n5,b9,d3,c1,i4,c7,hM,p1,by omega⟩ (by omega))
   have a8:(Qn s.data ((Zd l r 2 fuel).es.getD i Zg).2.1)=0:=Tz (by omega) (by omega)
   have n8:Xc Vy ((Zd l r 2 fuel).es.getD i Zg).2.1=0:=by omega
   refine xv1 3 11 (show(V0 (Xc Vy ((Zd l r 2 fuel).es.getD i Zg).2.1):Value)=V0 0 from(congrArg V0 n8)) ?_
   refine xd 0 (.t B [114,100]) ?_
   have g6:=(m8.below a0).below (Za a2)
   refine xbt (.e [0,1,2,3] 4) 2 B [114,100] g6 ?_
   refine xr (.o [5] 6) (args:=#[P0 bx,V0 3,V0 (((Zd l r 2 fuel).es.getD i Zg).2.2),V0 0]) (Jp bx 3 (((Zd l r 2 fuel).es.getD i Zg).2.2) _) fun v9 a9=>?_
   have l3:=g6.below a9
   refine xb (.r [7] 6) 0 l3 ?_
   refine xbs 3 1 [V0 (((Zd l r 2 fuel).es.getD i Zg).1),V0 (↑(Ug ((Zd l r 2 fuel).es.getD i Zg).2.1):Int),V0 (↑(Lc ((Zd l r 2 fuel).es.getD i Zg).2.1):Int)] 164 fun u9 w3 d7=>?_
   have g8:=blB (blB (blB (a4.below (blB c0 hBw a1.below) (Nat.le_trans hBw h7)) hBw a0) hBw (Za a2)) hBw a9
   have w9:=d7.ge0 g8
   have h0:=Zb (Zb (Zb (a4.own2 (Zb f9 a1.below) a1.blk (by decide)) a0) (Za a2)) a9
   have m7:=Zz h0 d7
   have a6:=Zb h0 d7.below
   have g4:=blB g8 hBw d7.below
   refine xbi 0 fun _ _ _ _ zJ zQ zo zx zy zK=>Xq (m:=1) (news:=[V0 (((Zd l r 2 fuel).es.getD i Zg).1),V0 (↑(Ug ((Zd l r 2 fuel).es.getD i Zg).2.1):Int),V0 (↑(Lc ((Zd l r 2 fuel).es.getD i Zg).2.1):Int)]) (.agg #[V0 0,V0 0,V0 0]) 3 24 ((mapM s.data ((Zd l r 2 fuel).es.take (i+1))).length) (((mapM s.data ((Zd l r 2 fuel).es.take (i+1))).flatMap Kh)) zo Tryz.underlying59 (by kernel_rfl) rfl (by decide) zx a6 zy (d7.blk.sl 1 1 (by decide) (by decide)) rfl (by simp[Value.oneCell']) (by unfold maxLen;omega) (by omega) (Nat.le_trans s5 g4.size) (by rw[(Pe (by omega) a8).2]) (by rw[(Pe (by omega) a8).1];rfl) fun t7 t2 x1 t6 c2 s4=>?_
   refine zK _ _ ?_
   refine xwm 5 ((i:Int)+1) (↑(i+1):Int) ?_
   have d8:=(((a7.below (Za a2)).below a9).below d7.below).grown c2 a6 (by decide)
   have r3:=Zp (Zb (Zb (Zb (Zb (a4.own2 (Zb ho a1.below) a1.blk (by decide)) a0) (Za a2)) a9) d7.below) c2 a6 (by decide)
   have b9:=d8
   have c1:=r3
   have c7:=t6
   rw[←Ez (by omega) a8] at b9 c1
   have k1:=g4.trans (s4.mono hBw)
   have o1:=(Ze.grown_new (((((Ze.upd_new (c8.trans (Ze.of_below a1.below)) a4 h7).trans (Ze.of_below a0)).trans (Ze.of_below (Za a2))).trans (Ze.of_below a9)).trans (Ze.of_below d7.below)) c2 a6)
   have d2:=(((((a4.blkT (b6.below a1.below) a1.blk (by decide)).below a0).below (Za a2)).below a9).below d7.below).grown c2 a6 (by decide)
   have j0:=Zp (Zb (Zb (Zb (Zb (a4.own3 (Zb b0 a1.below) b4) a0) (Za a2)) a9) d7.below) c2 a6 (by decide)
   have o4:=((((((hM.below a1.below).updBlk a4 a1.blk).below a0).below (Za a2)).below a9).below d7.below).grown c2 a6
   have q4:=((((((hI.below a1.below).only (Ze.of_upd (T:=[123]) a4 a1.blk (by decide)) (by decide)).below a0).below (Za a2)).below a9).below d7.below).only (Ze.of_grown (T:=[164]) c2 a6 (by decide)) (by decide)
   exact ze 2 (h6 _ _ _ ⟨i+1,_,_,_,_,rfl,rfl,k1,o1,b9,d2,c1,j0,c7,o4,q4,by omega⟩ (by omega))
  have d9:=Xm d9
  have b5:(Qn s.data ((Zd l r 2 fuel).es.getD i Zg).2.1)=Xc Vy ((Zd l r 2 fuel).es.getD i Zg).2.1:=Cc (by omega)
  have a8:(Qn s.data ((Zd l r 2 fuel).es.getD i Zg).2.1)≠0:=by omega
  refine xv1 14 11 (show(V0 (Xc Vy ((Zd l r 2 fuel).es.getD i Zg).2.1):Value)=V0 (Qn s.data ((Zd l r 2 fuel).es.getD i Zg).2.1) from(congrArg V0 b5.symm)) ?_
  refine xd 0 (.t B [114,100]) ?_
  have i6:=(m8.below a0).below (Za a2)
  refine xbt (.e [0,1,2,3] 4) 2 B [114,100] i6 ?_
  have q3:=Zb (Zb (a4.own2 (Zb ho a1.below) a1.blk (by decide)) a0) (Za a2)
  have o2:=(((hM.below a1.below).updBlk a4 a1.blk).below a0).below (Za a2)
  have e1:=((a4.blkT (c5.below a1.below) a1.blk (by decide)).below a0).below (Za a2)
  have g0:=blB (blB (a4.below (blB c0 hBw a1.below) (Nat.le_trans hBw h7)) hBw a0) hBw (Za a2)
  refine yc (.o [5] 6) (args:=#[P0 bx,V0 3,V0 (((Zd l r 2 fuel).es.getD i Zg).2.2),V0 (Qn s.data ((Zd l r 2 fuel).es.getD i Zg).2.1)]) (.t B [114,100]) (Xj B bx _ _ (D++(Zd l r 2 fuel).fs.map (Qd 3)++Hu s.data ((Zd l r 2 fuel).es.take i)) ra rb rc _ _ _ _ _ _ _ _ _ _ _ _ _ _ _ _ _ _ _ 3 (((Zd l r 2 fuel).es.getD i Zg).2.2) (Qn s.data ((Zd l r 2 fuel).es.getD i Zg).2.1) _ (by first|assumption|decide|omega) e1 q3 o2 hBb (Nat.le_trans hBw g0.size) (by first|omega|(simp;omega))) ?_
  rintro _ w1 ⟨rfl,pa,ca,i9,d5,h4,h2,hM⟩
  refine⟨(Xo i9 d5),?_⟩
  refine xwm (.r [7] 7) ((i:Int)+1) (↑(i+1):Int) ?_
  have j3:=Zf (Zb (Zb (a4.own2 (Zb f9 a1.below) a1.blk (by decide)) a0) (Za a2)) d5 (by decide)
  refine xv1 2 6 (show(.slice po ((mapM s.data ((Zd l r 2 fuel).es.take i)).length) co:Value)=.slice po ((mapM s.data ((Zd l r 2 fuel).es.take (i+1))).length) co from by rw[Qv (by omega) a8]) ?_
  have b9:=h4
  have c1:=h2
  have c7:=j3
  rw[←Pm _ (by omega) a8] at b9 c1
  rw[←Qv (by omega) a8] at c7
  have j8:=g0.trans i9
  have n9:=(((Ze.upd_new (c8.trans (Ze.of_below a1.below)) a4 h7).trans (Ze.of_below a0)).trans (Ze.of_below (Za a2))).trans d5
  have d1:=(((a4.blkT (b6.below a1.below) a1.blk (by decide)).below a0).below (Za a2)).only d5 (by decide)
  have h5:=Zf (Zb (Zb (a4.own3 (Zb b0 a1.below) b4) a0) (Za a2)) d5 (by decide)
  have i5:=((((hI.below a1.below).only (Ze.of_upd (T:=[123]) a4 a1.blk (by decide)) (by decide)).below a0).below (Za a2)).only d5 (by decide)
  exact ze 0 (h6 _ _ _ ⟨i+1,_,_,_,_,rfl,rfl,j8,n9,b9,d1,c1,h5,c7,hM,i5,by omega⟩ (by omega))
 refine xe 12 (.slice po ((mapM s.data ((Zd l r 2 fuel).es.take i)).length) co) ?_
 obtain rfl:i=(Zd l r 2 fuel).es.length:=by omega
 have h9:=c5
 have l9:=ho
 have l7:=f9
 rw[List.take_of_length_le (Nat.le_refl _)] at l7
 rw[List.take_of_length_le (Nat.le_refl _),List.append_assoc] at h9 l9
 rw[List.take_of_length_le (Nat.le_refl _)]
 exact⟨_,_,rfl,l7,_,_,c0,c8,h9,l9,hM⟩
theorem Yx(l:Bl)(root tree fuel:Int)(hf:fuel≤1000):(Zd l root tree fuel).fs.length+(Zd l root tree fuel).es.length≤18001:=by
 have h1:=Hg l tree fuel 17 [] root 0 281474976710656 ws0 rfl
 have h2:=Jw l root tree fuel
 change (Zd l root tree fuel).fs.length+(Zd l root tree fuel).es.length+18*0≤0+0+18*(Zd l root tree fuel).looked+(if(Zd l root tree fuel).dry=true then 1 else 0) at h1
 have h5:(if(Zd l root tree fuel).dry=true then 1 else 0)≤1:=by split<;>omega
 omega
theorem devG_len(l:Bl)(data fuel r:Int)(hf:fuel≤1000):(Fc l data fuel r).length≤18001:=by
 have h1:=Yx l r 2 fuel hf
 have h2:=Ak data (Zd l r 2 fuel).es
 unfold Fc
 rw[List.length_append,List.length_map];omega
theorem Dd(l:Bl)(data fuel:Int)(hf:fuel≤1000):∀ (T:List Ent) (seen:List Int),(Uy l data fuel T seen).length≤18001*T.length
 | [],_=>Nat.le_refl _
 | x::T,seen=>by
  have ih:=Dd l data fuel hf T (Pb seen x)
  have h1:(Gy l data fuel seen x).length≤18001:=by
   have:=devG_len l data fuel (Zo x.2.1:Nat) hf
   unfold Gy
   repeat' split
   ·simp
   ·exact this
   ·simp
  show(Gy l data fuel seen x++Uy l data fuel T (Pb seen x)).length≤_
  rw[List.length_append,List.length_cons];omega
theorem Aa{es:List Ent}{i:Nat}(D:List Dg)(hi:i<es.length)(h:Lh (es.getD i Zg)≠0):D++Jm (es.take (i+1))=D++Jm (es.take i)++[((2:Int),(es.getD i Zg).2.2,Lh (es.getD i Zg))]:=by
 rw[Em hi,Zc2 h,List.append_assoc]
theorem Ek{es:List Ent}{i:Nat}(D:List Dg)(hi:i<es.length)(h:16777215<(es.getD i Zg).1):D++Jm (es.take (i+1))=D++Jm (es.take i)++[((2:Int),(es.getD i Zg).2.2,(9:Int))]:=by
 have e:Lh (es.getD i Zg)=9:=if_pos h
 rw[Aa D hi (by rw[e];decide),e]
theorem Fu{es:List Ent}{i:Nat}(D:List Dg)(hi:i<es.length)(h:¬ 16777215<(es.getD i Zg).1)(h2:Xc Vd (es.getD i Zg).2.1≠0):D++Jm (es.take (i+1))=D++Jm (es.take i)++[((2:Int),(es.getD i Zg).2.2,Xc Vd (es.getD i Zg).2.1)]:=by
 have e:Lh (es.getD i Zg)=Xc Vd (es.getD i Zg).2.1:=if_neg h
 rw[Aa D hi (by rw[e];exact h2),e]
theorem Ei{es:List Ent}{i:Nat}(hi:i<es.length)(h:¬ 16777215<(es.getD i Zg).1)(h2:Xc Vd (es.getD i Zg).2.1=0):Jm (es.take (i+1))=Jm (es.take i):=by
 have e:Lh (es.getD i Zg)=Xc Vd (es.getD i Zg).2.1:=if_neg h
 rw[Em hi,To (e.trans h2),List.append_nil]
theorem Bm{es:List Ent}{i:Nat}(hi:i<es.length)(h:16777215<(es.getD i Zg).1):Rz (es.take (i+1))=Rz (es.take i):=by
 have e:Lh (es.getD i Zg)=9:=if_pos h
 rw[Mj hi,Es (by rw[e];decide),List.append_nil]
theorem Lw{es:List Ent}{i:Nat}(hi:i<es.length)(h:¬ 16777215<(es.getD i Zg).1)(h2:Xc Vd (es.getD i Zg).2.1≠0):Rz (es.take (i+1))=Rz (es.take i):=by
 have e:Lh (es.getD i Zg)=Xc Vd (es.getD i Zg).2.1:=if_neg h
 rw[Mj hi,Es (by rw[e];exact h2),List.append_nil]
theorem Ab{es:List Ent}{i:Nat}(hi:i<es.length)(h:¬ 16777215<(es.getD i Zg).1)(h2:Xc Vd (es.getD i Zg).2.1=0):Rz (es.take (i+1))=Rz (es.take i)++[((es.getD i Zg).1,Kl (es.getD i Zg))]:=by
 have e:Lh (es.getD i Zg)=Xc Vd (es.getD i Zg).2.1:=if_neg h
 rw[Mj hi,Ij (e.trans h2)]
theorem Fh(es:List Ent)(i:Nat):(Jm (es.take i)).length≤es.length:=by
 have h1:=Cu (es.take i);have h2:=List.length_take_le' i es;omega
theorem Cf{es:List Ent}{i:Nat}(hi:i<es.length)(h:Xk (es.getD i Zg).2.1≠0):Um (es.take (i+1))=Um (es.take i):=by
 rw[Cb hi,Zaz h,List.append_nil]
theorem Kr{es:List Ent}{i:Nat}(hi:i<es.length)(h:Xk (es.getD i Zg).2.1=0):Um (es.take (i+1))=Um (es.take i)++[((es.getD i Zg).1,V0 ((Zo (es.getD i Zg).2.1:Nat):Int))]:=by
 rw[Cb hi,Fj h]
theorem Tx{es:List Ent}{i:Nat}(hi:i<es.length)(h:Xk (es.getD i Zg).2.1≠0):Ys (es.take (i+1))=Ys (es.take i):=by
 rw[List.take_succ_eq_append_getElem hi,Hn,show es[i]=es.getD i Zg from by simp[List.getD,hi]]
 exact if_neg fun q=>h q.1
theorem Tu{es:List Ent}{i:Nat}(hi:i<es.length)(h:((Zo (es.getD i Zg).2.1:Nat):Int)∈Ys (es.take i)):Ys (es.take (i+1))=Ys (es.take i):=by
 rw[List.take_succ_eq_append_getElem hi,Hn,show es[i]=es.getD i Zg from by simp[List.getD,hi]]
 exact if_neg fun q=>q.2 h
theorem Po{es:List Ent}{i:Nat}(hi:i<es.length)(h0:Xk (es.getD i Zg).2.1=0)(h:((Zo (es.getD i Zg).2.1:Nat):Int)∉Ys (es.take i)):Ys (es.take (i+1))=Ys (es.take i)++[((Zo (es.getD i Zg).2.1:Nat):Int)]:=by
 rw[List.take_succ_eq_append_getElem hi,Hn,show es[i]=es.getD i Zg from by simp[List.getD,hi]]
 exact if_pos ⟨h0,h⟩
theorem Zd5{l:Bl}{data fuel:Int}{T:List Ent}{i:Nat}{G X:List Dg}(hi:i<T.length)(h:G++Uy l data fuel (T.drop i) (Ys (T.take i))=X)(h0:Xk (T.getD i Zg).2.1≠0):(G++[((3:Int),(T.getD i Zg).2.2,Xk (T.getD i Zg).2.1)])++Uy l data fuel (T.drop (i+1)) (Ys (T.take (i+1)))=X:=by
 rw[←h,Mk hi,←List.append_assoc,show Gy l data fuel (Ys (T.take i)) (T.getD i Zg)=[((3:Int),(T.getD i Zg).2.2,Xk (T.getD i Zg).2.1)] from if_neg h0]
theorem Zbn{l:Bl}{data fuel:Int}{T:List Ent}{i:Nat}{G X:List Dg}(hi:i<T.length)(h:G++Uy l data fuel (T.drop i) (Ys (T.take i))=X)(h0:Xk (T.getD i Zg).2.1=0)(h1:((Zo (T.getD i Zg).2.1:Nat):Int)∈Ys (T.take i)):G++Uy l data fuel (T.drop (i+1)) (Ys (T.take (i+1)))=X:=by
 rw[←h,Mk hi,show Gy l data fuel (Ys (T.take i)) (T.getD i Zg)=[] from(if_pos h0).trans (if_pos h1)];rfl
theorem Cs{l:Bl}{data fuel:Int}{T:List Ent}{i:Nat}{G X:List Dg}(hi:i<T.length)(h:G++Uy l data fuel (T.drop i) (Ys (T.take i))=X)(h0:Xk (T.getD i Zg).2.1=0)(h1:((Zo (T.getD i Zg).2.1:Nat):Int)∉Ys (T.take i)):(G++Fc l data fuel (Zo (T.getD i Zg).2.1:Nat))++Uy l data fuel (T.drop (i+1)) (Ys (T.take (i+1)))=X:=by
 rw[←h,Mk hi,←List.append_assoc,show Gy l data fuel (Ys (T.take i)) (T.getD i Zg)=Fc l data fuel (Zo (T.getD i Zg).2.1:Nat) from(if_pos h0).trans (if_neg h1)]
theorem Lo(B bx:Nat)(p:O0)(c:Nat)(D:List Dg)(ra rb rc:Nat)(kr km:List (Int×Value))(pi:O0)(ni ci Bi b:Nat)(l:Bl)(s:Sup)(fuel:Int)(w:World)(hk:Blk w bx [.slice p D.length c,P0 b,V0 s.tx,V0 s.time,V0 s.unit,V0 s.data,V0 s.blocks,V0 s.top,V0 s.details,V0 s.dslots,V0 s.dover,V0 s.mindex,V0 s.mover,V0 fuel,.map (some ra),.map (some rb),.map (some rc)] 114)(ho:w.ownsRow B 100 3 (.slice p D.length c) D.length (D.flatMap dmc))(hM:Maps3 B ra rb rc [] kr km w)(hI:ImgR Bi b pi ni ci l w)(hfu:fuel≤1000)(hg:∀ W,Below B w W→Dz W)(hBb:B≤bx)(hBw:B≤w.heap.size)(hl:D.length≤400000000) :
 C0 49 #[P0 bx] w ((fun e w'=>(∃ u,e=.returned u)∧Pw B bx [P0 b,V0 s.tx,V0 s.time,V0 s.unit,V0 s.data,V0 s.blocks,V0 s.top,V0 s.details,V0 s.dslots,V0 s.dover,V0 s.mindex,V0 s.mover,V0 fuel,.map (some ra),.map (some rb),.map (some rc)] (D++(Zd l s.details 3 fuel).fs.map (Qd 2)++Jm (Zd l s.details 3 fuel).es) ra rb rc (Rz (Zd l s.details 3 fuel).es) kr km w w')):=by
 have r8:=Yx l s.details 3 fuel hfu
 refine zin 65 Tryz.func49 ?_
 refine xd 1 (.t B [130]) ?_
 have d8:=hk.below (Za w)
 refine xbt (.e [0,1,2] 3) 1 B [130] d8 ?_
 refine xbt (.e [4,5,6,7] 8) 8 B [130] d8 ?_
 refine xbt (.e [9,10,11] 12) 13 B [130] d8 ?_
 refine xm2 0 13 14 ?_ ?_
 ·have k6:=hI.below (Za w)
  refine yc 0 (args:=#[P0 b,V0 s.details,V0 3,V0 fuel]) (.t B [130]) (Vo Bi b pi ni ci l s.details 3 fuel _ hfu k6) ?_
  rintro _ W1 ⟨pe,pb,pf,ce,cb,cf,fv,rfl,h1,a7,h3,r1⟩
  have r6:=(blB (Below.refl B w) hBw (Za w)).size
  refine⟨(SF.of_below _ h1),?_⟩
  have j3:=Zh a7 r6
  have l4:=Zh h3 r6
  replace a7:=Zh j3 hBw
  replace h3:=Zh l4 hBw
  refine xa (.o [] 14) [S0,S0,V0 0,V0 0,S0] 130 fun b2 W2 n2=>?_
  have g2:=n2.ge0 (blB (blB (Below.refl B w) hBw (Za w)) hBw h1)
  refine ysv (.o [] 15) n2.blk [.slice pe ((Zd l s.details 3 fuel).es.length) ce,.slice pb ((Zd l s.details 3 fuel).bs.length) cb,V0 ((Zd l s.details 3 fuel).deep),V0 (↑(Zd l s.details 3 fuel).looked:Int),.slice pf ((Zd l s.details 3 fuel).fs.length) cf] (.t B [130]) fun W3 u3 k3=>⟨(Zt u3 n2.blk (Nat.le_trans hBw g2) (by decide)),?_⟩
  refine xd 3 (.t B [114,100]) ?_
  have j7:=k3.below (Za W3)
  refine xbt (.e [0,1,2,3] 4) 4 B [114,100] j7 ?_
  have o9:=Zb (u3.own2 (Zb (Zb (Zb ho (Za w)) h1) n2.below) n2.blk (by decide)) (Za W3)
  have p1:=((((hM.below (Za w)).below h1).below n2.below).updBlk u3 n2.blk).below (Za W3)
  have i0:=Zb (u3.own2 (Zb h3 n2.below) n2.blk (by decide)) (Za W3)
  have m8:=(u3.blkT ((d8.below h1).below n2.below) n2.blk (by decide)).below (Za W3)
  have j4:=((r1.below n2.below).only (Ze.of_upd (T:=[130]) u3 n2.blk (by decide)) (by decide)).below (Za W3)
  have hB:=blB (u3.below (blB (blB (blB (Below.refl B w) hBw (Za w)) hBw h1) hBw n2.below) (Nat.le_trans hBw g2)) hBw (Za W3)
  refine yc (.o [] 5) (args:=#[P0 bx,V0 2,.slice pf ((Zd l s.details 3 fuel).fs.length) cf]) (.t B [114,100]) (Yl B bx _ _ D ra rb rc _ _ _ _ _ _ _ _ _ _ _ _ _ _ _ _ _ _ _ 2 pf cf (Zd l s.details 3 fuel).fs fv _ m8 o9 p1 i0 j4 (Ks _ _ _ _) (fun W hb=>hg W (Below.trans hB hb)) hBb (Nat.le_trans hBw hB.size) (by first|omega|(simp;omega))) ?_
  rintro _ W4 ⟨⟨u4,rfl⟩,p4,c4,r7,h8,s2,s6,hM⟩
  refine⟨(Xo r7 h8),?_⟩
  have k2:=j7.only h8 (by decide)
  refine xb 5 0 k2 ?_
  have l5:=s2
  have m2:=s6
  rw[(by simp[Jm]:D++(Zd l s.details 3 fuel).fs.map (Qd 2)=D++(Zd l s.details 3 fuel).fs.map (Qd 2)++Jm ((Zd l s.details 3 fuel).es.take 0))] at l5 m2
  have l1:=Zf (Zb (u3.own2 (Zb a7 n2.below) n2.blk (by decide)) (Za W3)) h8 (by decide)
  have q4:=((((k6.below h1).below n2.below).only (Ze.of_upd (T:=[130]) u3 n2.blk (by decide)) (by decide)).below (Za W3)).only h8 (by decide)
  have q9:=hB.trans r7
  have hO:=((Ze.upd_new (((show Ze [114,100] w _ from(Ze.of_below (Za w))).trans (Ze.of_below h1)).trans (Ze.of_below n2.below)) u3 g2).trans (Ze.of_below (Za W3))).trans h8
  refine zl 5 65 (fun zm p2 V=>∃ (i:Nat) (p:O0) (c:Nat),p2=[(0,P0 bx),(28,.slice pe ((Zd l s.details 3 fuel).es.length) ce),(29,V0 (↑((Zd l s.details 3 fuel).es.length):Int)),(30,V0 (i:Int))]∧zm=(Zd l s.details 3 fuel).es.length-((i:Int)).toNat∧Below B w V∧Ze [114,100] w V∧Blk V bx ([.slice p ((D++(Zd l s.details 3 fuel).fs.map (Qd 2)++Jm ((Zd l s.details 3 fuel).es.take i)).length) c,P0 b,V0 s.tx,V0 s.time,V0 s.unit,V0 s.data,V0 s.blocks,V0 s.top,V0 s.details,V0 s.dslots,V0 s.dover,V0 s.mindex,V0 s.mover,V0 fuel,.map (some ra),.map (some rb),.map (some rc)]) 114∧Blk V b2 ([.slice pe ((Zd l s.details 3 fuel).es.length) ce,.slice pb ((Zd l s.details 3 fuel).bs.length) cb,V0 ((Zd l s.details 3 fuel).deep),V0 (↑(Zd l s.details 3 fuel).looked:Int),.slice pf ((Zd l s.details 3 fuel).fs.length) cf]) 130∧V.ownsRow B 100 3 (.slice p (D++(Zd l s.details 3 fuel).fs.map (Qd 2)++Jm ((Zd l s.details 3 fuel).es.take i)).length c) (D++(Zd l s.details 3 fuel).fs.map (Qd 2)++Jm ((Zd l s.details 3 fuel).es.take i)).length ((D++(Zd l s.details 3 fuel).fs.map (Qd 2)++Jm ((Zd l s.details 3 fuel).es.take i)).flatMap dmc)∧V.ownsRow B 123 3 (.slice pe (Zd l s.details 3 fuel).es.length ce) (Zd l s.details 3 fuel).es.length ((Zd l s.details 3 fuel).es.flatMap Hp)∧Maps3 B ra rb rc (Rz ((Zd l s.details 3 fuel).es.take i)) kr km V∧ImgR Bi b pi ni ci l V∧i≤(Zd l s.details 3 fuel).es.length) ⟨0,_,_,rfl,rfl,q9,hO,l5,k2,m2,l1,hM,q4,Nat.zero_le _⟩ ?_
  rintro _ _ W5 ⟨i,p,c,rfl,rfl,f9,g4,e5,e2,ho,a7,hM,hI,hi⟩ J5 o2 r5
  have s9:=Fh (Zd l s.details 3 fuel).es i
  have s0:=Yx l s.details 3 fuel hfu
  refine xid 6 ((i:Int)<(↑((Zd l s.details 3 fuel).es.length):Int)) (fun s1=>?_) (fun s1=>?_)
  ·refine xx 6 _ ((Zd l s.details 3 fuel).es.length) i 3 (Sts.cell (f:=Hp) (Zi a7) Xt Zg (k:=i) (i:=0) (by omega) rfl).1 ?_
   refine xlv 0 (Sts.rp (k:=i) (Zi a7) Xt Zg (by omega) (by decide)) ?_
   refine xa 0 [V0 0,.string ⟨#[]⟩,V0 0] 123 fun b7 W7 n7=>?_
   have g7:=n7.ge0 f9
   have b9:=Zz a7 n7
   refine xsv 0 n7.blk [V0 (((Zd l s.details 3 fuel).es.getD i Zg).1),.string ⟨(((Zd l s.details 3 fuel).es.getD i Zg).2.1).toArray⟩,V0 (((Zd l s.details 3 fuel).es.getD i Zg).2.2)] fun W8 u8 k8=>?_
   refine xb 6 0 k8 ?_
   refine xid 3 (((Zd l s.details 3 fuel).es.getD i Zg).1>(16777215:Int)) (fun s7=>?_) (fun s7=>?_)
   ·refine xd 1 (.t B [114,100]) ?_
    have r4:=k8.below (Za W8)
    refine xbt (.e [0,1,2,3] 4) 2 B [114,100] r4 ?_
    have q7:=Zb (u8.own2 (Zb ho n7.below) n7.blk (by decide)) (Za W8)
    have q6:=((hM.below n7.below).updBlk u8 n7.blk).below (Za W8)
    have f2:=(u8.blkT (e5.below n7.below) n7.blk (by decide)).below (Za W8)
    have k4:=blB (u8.below (blB f9 hBw n7.below) (Nat.le_trans hBw g7)) hBw (Za W8)
    refine yc (.o [] 5) (args:=#[P0 bx,V0 2,V0 (((Zd l s.details 3 fuel).es.getD i Zg).2.2),V0 9]) (.t B [114,100]) (Xj B bx _ _ (D++(Zd l s.details 3 fuel).fs.map (Qd 2)++Jm ((Zd l s.details 3 fuel).es.take i)) ra rb rc _ _ _ _ _ _ _ _ _ _ _ _ _ _ _ _ _ _ _ 2 (((Zd l s.details 3 fuel).es.getD i Zg).2.2) 9 _ (by first|assumption|decide|omega) f2 q7 q6 hBb (Nat.le_trans hBw k4.size) (by first|omega|(simp;omega))) ?_
    rintro _ t5 ⟨rfl,pa,ca,l6,e3,h4,h2,hM⟩
    refine⟨(Xo l6 e3),?_⟩
    refine xwm 7 ((i:Int)+1) (↑(i+1):Int) ?_
    have b5:=h4
    have b6:=h2
    rw[←Ek _ (by omega) (by omega)] at b5 b6
    have p3:=k4.trans l6
    have n6:=((Ze.upd_new (g4.trans (Ze.of_below n7.below)) u8 g7).trans (Ze.of_below (Za W8))).trans e3
    have f7:=((u8.blkT (e2.below n7.below) n7.blk (by decide)).below (Za W8)).only e3 (by decide)
    have m3:=Zf (Zb (u8.own3 (Zb a7 n7.below) b9) (Za W8)) e3 (by decide)
    have q5:=(((hI.below n7.below).only (Ze.of_upd (T:=[123]) u8 n7.blk (by decide)) (by decide)).below (Za W8)).only e3 (by decide)
    exact ze 2 (o2 _ _ _ ⟨i+1,_,_,rfl,rfl,p3,n6,b5,f7,b6,m3,(by rw[Bm (by omega) (by omega)];exact hM),q5,by omega⟩ (by omega))
   refine xb 5 1 k8 ?_
   refine xr 0 (args:=#[.string ⟨(((Zd l s.details 3 fuel).es.getD i Zg).2.1).toArray⟩]) (Ve ((Zd l s.details 3 fuel).es.getD i Zg).2.1 _ (Xz _ _ _ _ i (by omega))) fun t1 a3=>?_
   refine xa 3 [V0 0,V0 0,V0 0,V0 0] 202 fun u1 t7 a6=>?_
   have i2:=blB (u8.below (blB f9 hBw n7.below) (Nat.le_trans hBw g7)) hBw a3
   have o7:=a6.ge0 i2
   refine xsv 0 a6.blk [V0 (↑(Xh ((Zd l s.details 3 fuel).es.getD i Zg).2.1 0):Int),V0 (↑(Xh ((Zd l s.details 3 fuel).es.getD i Zg).2.1 1):Int),V0 (↑(Xh ((Zd l s.details 3 fuel).es.getD i Zg).2.1 2):Int),V0 (↑(Xh ((Zd l s.details 3 fuel).es.getD i Zg).2.1 3):Int)] fun c3 d0 r9=>?_
   refine xd 4 (.t B [114,100]) ?_
   have j8:=(d0.blkT ((k8.below a3).below a6.below) a6.blk (by decide)).below (Za c3)
   refine xbt (.e [0,1,2,3] 4) 2 B [114,100] j8 ?_
   have j2:=Zb (d0.own2 (Zb (Zb (u8.own2 (Zb ho n7.below) n7.blk (by decide)) a3) a6.below) a6.blk (by decide)) (Za c3)
   have i6:=(((((hM.below n7.below).updBlk u8 n7.blk).below a3).below a6.below).updBlk d0 a6.blk).below (Za c3)
   have c6:=(d0.blkT (((u8.blkT (e5.below n7.below) n7.blk (by decide)).below a3).below a6.below) a6.blk (by decide)).below (Za c3)
   have h6:=blB (d0.below (blB i2 hBw a6.below) (Nat.le_trans hBw o7)) hBw (Za c3)
   refine yc (.o [5] 6) (args:=#[P0 bx,V0 2,V0 (((Zd l s.details 3 fuel).es.getD i Zg).2.2),V0 (Xc Vd ((Zd l s.details 3 fuel).es.getD i Zg).2.1)]) (.t B [114,100]) (Ke B bx _ _ (D++(Zd l s.details 3 fuel).fs.map (Qd 2)++Jm ((Zd l s.details 3 fuel).es.take i)) ra rb rc _ _ _ _ _ _ _ _ _ _ _ _ _ _ _ _ _ _ _ 2 (((Zd l s.details 3 fuel).es.getD i Zg).2.2) (Xc Vd ((Zd l s.details 3 fuel).es.getD i Zg).2.1) _ c6 j2 i6 hBb (Nat.le_trans hBw h6.size) (by first|omega|(simp;omega))) ?_
   rintro e e9 n3
   rcases n3 with ⟨e4,rfl,a2⟩|⟨e4,rfl,pa,ca,a2,d4,h4,h2,hM⟩
   ·refine⟨(SF.of_below _ a2),?_⟩
    refine xd (.r [7] 3) (.t B [4]) ?_
    have c2:=(c6.below a2).below (Za e9)
    refine xbt (.e [0,1,2] 3) 14 B [4] c2 ?_
    have r0:=(j8.below a2).below (Za e9)
    refine xbt (.e [4] 5) 0 B [4] r0 ?_
    have j5:=((r9.below (Za c3)).below a2).below (Za e9)
    refine xlvt (.e [] 6) (.t B [4]) (fun V hV=>(j5.only hV.2 (by decide)).rp) ?_
    have e0:=(i6.below a2).below (Za e9)
    have b8:=Vf.obj e0.m1
    refine ymuV (.o [] 7) (((Zd l s.details 3 fuel).es.getD i Zg).1) (Kl ((Zd l s.details 3 fuel).es.getD i Zg)) (.t B [4]) Tryz.underlying108 (Df Tryz.underlying3) e0.m1 (Ih (Vm _ _ _ _).2.2.2.1 (by omega)) fun v1 f8 s8=>⟨Jz b8 f8 e0.g1,?_⟩
    refine xwm 4 ((i:Int)+1) (↑(i+1):Int) ?_
    have g0:=Xy c2 b8 f8
    have o3:=Xl (Zb (Zb j2 a2) (Za e9)) b8 f8
    have hM:=e0.put1 f8 s8
    have b5:=g0
    have b6:=o3
    rw[←Ei (by omega) (by omega) e4] at b5 b6
    have o8:=f8.below (blB (blB h6 hBw a2) hBw (Za e9)) e0.g1
    have o1:=((((Ze.upd_new (((Ze.upd_new (g4.trans (Ze.of_below n7.below)) u8 g7).trans (Ze.of_below a3)).trans (Ze.of_below a6.below)) d0 o7).trans (Ze.of_below (Za c3))).trans (Ze.of_below a2)).trans (Ze.of_below (Za e9))).trans (Zx b8 f8)
    have f3:=Xy ((((d0.blkT (((u8.blkT (e2.below n7.below) n7.blk (by decide)).below a3).below a6.below) a6.blk (by decide)).below (Za c3)).below a2).below (Za e9)) b8 f8
    have i7:=Xl (Zb (Zb (Zb (d0.own2 (Zb (Zb (u8.own3 (Zb a7 n7.below) b9) a3) a6.below) a6.blk (by decide)) (Za c3)) a2) (Za e9)) b8 f8
    have p8:=((((((((hI.below n7.below).only (Ze.of_upd (T:=[123]) u8 n7.blk (by decide)) (by decide)).below a3).below a6.below).only (Ze.of_upd (T:=[202]) d0 a6.blk (by decide)) (by decide)).below (Za c3)).below a2).below (Za e9)).only (Zx (T:=[]) b8 f8) (by decide)
    exact ze 2 (o2 _ _ _ ⟨i+1,_,_,rfl,rfl,o8,o1,b5,f3,b6,i7,(by rw[Ab (by omega) (by omega) e4];exact hM),p8,by omega⟩ (by omega))
   refine⟨(Xo a2 d4),?_⟩
   refine xwm (.r [7] 7) ((i:Int)+1) (↑(i+1):Int) ?_
   have b5:=h4
   have b6:=h2
   rw[←Fu _ (by omega) (by omega) e4] at b5 b6
   have q8:=h6.trans a2
   have n4:=((Ze.upd_new (((Ze.upd_new (g4.trans (Ze.of_below n7.below)) u8 g7).trans (Ze.of_below a3)).trans (Ze.of_below a6.below)) d0 o7).trans (Ze.of_below (Za c3))).trans d4
   have f6:=((d0.blkT (((u8.blkT (e2.below n7.below) n7.blk (by decide)).below a3).below a6.below) a6.blk (by decide)).below (Za c3)).only d4 (by decide)
   have l8:=Zf (Zb (d0.own2 (Zb (Zb (u8.own3 (Zb a7 n7.below) b9) a3) a6.below) a6.blk (by decide)) (Za c3)) d4 (by decide)
   have p0:=((((((hI.below n7.below).only (Ze.of_upd (T:=[123]) u8 n7.blk (by decide)) (by decide)).below a3).below a6.below).only (Ze.of_upd (T:=[202]) d0 a6.blk (by decide)) (by decide)).below (Za c3)).only d4 (by decide)
   exact ze 2 (o2 _ _ _ ⟨i+1,_,_,rfl,rfl,q8,n4,b5,f6,b6,l8,(by rw[Lw (by omega) (by omega) e4];exact hM),p0,by omega⟩ (by omega))
  refine xe 4 (.tuple #[]) ?_
  obtain rfl:i=(Zd l s.details 3 fuel).es.length:=by omega
  have h9:=e5
  have l3:=ho
  have m4:=hM
  rw[List.take_of_length_le (Nat.le_refl _)] at h9 l3 m4
  exact⟨⟨_,rfl⟩,_,_,f9,g4,h9,l3,m4⟩
 refine xa 0 [S0,S0,V0 0,V0 0,S0] 130 fun s3 t3 g5=>?_
 have m0:=(hI.below (Za w)).below g5.below
 refine yc (.o [] 13) (args:=#[P0 b,V0 s.details,V0 3,V0 fuel]) (.t B [130]) (Vo Bi b pi ni ci l s.details 3 fuel _ hfu m0) ?_
 rintro _ t8 ⟨pe,pb,pf,ce,cb,cf,fv,rfl,b4,a7,h3,r1⟩
 have i9:=(blB (blB (Below.refl B w) hBw (Za w)) hBw g5.below).size
 refine⟨(SF.of_below _ b4),?_⟩
 have l2:=Zh a7 i9
 have i1:=Zh h3 i9
 replace a7:=Zh l2 hBw
 replace h3:=Zh i1 hBw
 have f4:=g5.blk.below b4
 have n0:=g5.ge0 (blB (Below.refl B w) hBw (Za w))
 refine ysv (.o [] 15) f4 [.slice pe ((Zd l s.details 3 fuel).es.length) ce,.slice pb ((Zd l s.details 3 fuel).bs.length) cb,V0 ((Zd l s.details 3 fuel).deep),V0 (↑(Zd l s.details 3 fuel).looked:Int),.slice pf ((Zd l s.details 3 fuel).fs.length) cf] (.t B [130]) fun f0 e8 s5=>⟨(Zt e8 f4 (Nat.le_trans hBw n0) (by decide)),?_⟩
 refine xd 3 (.t B [114,100]) ?_
 have h0:=s5.below (Za f0)
 refine xbt (.e [0,1,2,3] 4) 4 B [114,100] h0 ?_
 have q3:=Zb (e8.own2 (Zb (Zb (Zb ho (Za w)) g5.below) b4) f4 (by decide)) (Za f0)
 have o0:=((((hM.below (Za w)).below g5.below).below b4).updBlk e8 f4).below (Za f0)
 have j6:=Zb (e8.own2 h3 f4 (by decide)) (Za f0)
 have p9:=(e8.blkT ((d8.below g5.below).below b4) f4 (by decide)).below (Za f0)
 have k7:=(r1.only (Ze.of_upd (T:=[130]) e8 f4 (by decide)) (by decide)).below (Za f0)
 have hB:=blB (e8.below (blB (blB (blB (Below.refl B w) hBw (Za w)) hBw g5.below) hBw b4) (Nat.le_trans hBw n0)) hBw (Za f0)
 refine yc (.o [] 5) (args:=#[P0 bx,V0 2,.slice pf ((Zd l s.details 3 fuel).fs.length) cf]) (.t B [114,100]) (Yl B bx _ _ D ra rb rc _ _ _ _ _ _ _ _ _ _ _ _ _ _ _ _ _ _ _ 2 pf cf (Zd l s.details 3 fuel).fs fv _ p9 q3 o0 j6 k7 (Ks _ _ _ _) (fun W hb=>hg W (Below.trans hB hb)) hBb (Nat.le_trans hBw hB.size) (by first|omega|(simp;omega))) ?_
 rintro _ u2 ⟨⟨u0,rfl⟩,u5,u7,k0,d5,p5,r2,hM⟩
 refine⟨(Xo k0 d5),?_⟩
 have g8:=h0.only d5 (by decide)
 refine xb 5 0 g8 ?_
 have l5:=p5
 have m2:=r2
 rw[(by simp[Jm]:D++(Zd l s.details 3 fuel).fs.map (Qd 2)=D++(Zd l s.details 3 fuel).fs.map (Qd 2)++Jm ((Zd l s.details 3 fuel).es.take 0))] at l5 m2
 have l0:=Zf (Zb (e8.own2 a7 f4 (by decide)) (Za f0)) d5 (by decide)
 have q1:=(((m0.below b4).only (Ze.of_upd (T:=[130]) e8 f4 (by decide)) (by decide)).below (Za f0)).only d5 (by decide)
 have m9:=hB.trans k0
 have hO:=((Ze.upd_new (((show Ze [114,100] w _ from(Ze.of_below (Za w))).trans (Ze.of_below g5.below)).trans (Ze.of_below b4)) e8 n0).trans (Ze.of_below (Za f0))).trans d5
 refine zl 5 65 (fun zm p2 V=>∃ (i:Nat) (p:O0) (c:Nat),p2=[(0,P0 bx),(28,.slice pe ((Zd l s.details 3 fuel).es.length) ce),(29,V0 (↑((Zd l s.details 3 fuel).es.length):Int)),(30,V0 (i:Int))]∧zm=(Zd l s.details 3 fuel).es.length-((i:Int)).toNat∧Below B w V∧Ze [114,100] w V∧Blk V bx ([.slice p ((D++(Zd l s.details 3 fuel).fs.map (Qd 2)++Jm ((Zd l s.details 3 fuel).es.take i)).length) c,P0 b,V0 s.tx,V0 s.time,V0 s.unit,V0 s.data,V0 s.blocks,V0 s.top,V0 s.details,V0 s.dslots,V0 s.dover,V0 s.mindex,V0 s.mover,V0 fuel,.map (some ra),.map (some rb),.map (some rc)]) 114∧Blk V s3 ([.slice pe ((Zd l s.details 3 fuel).es.length) ce,.slice pb ((Zd l s.details 3 fuel).bs.length) cb,V0 ((Zd l s.details 3 fuel).deep),V0 (↑(Zd l s.details 3 fuel).looked:Int),.slice pf ((Zd l s.details 3 fuel).fs.length) cf]) 130∧V.ownsRow B 100 3 (.slice p (D++(Zd l s.details 3 fuel).fs.map (Qd 2)++Jm ((Zd l s.details 3 fuel).es.take i)).length c) (D++(Zd l s.details 3 fuel).fs.map (Qd 2)++Jm ((Zd l s.details 3 fuel).es.take i)).length ((D++(Zd l s.details 3 fuel).fs.map (Qd 2)++Jm ((Zd l s.details 3 fuel).es.take i)).flatMap dmc)∧V.ownsRow B 123 3 (.slice pe (Zd l s.details 3 fuel).es.length ce) (Zd l s.details 3 fuel).es.length ((Zd l s.details 3 fuel).es.flatMap Hp)∧Maps3 B ra rb rc (Rz ((Zd l s.details 3 fuel).es.take i)) kr km V∧ImgR Bi b pi ni ci l V∧i≤(Zd l s.details 3 fuel).es.length) ⟨0,_,_,rfl,rfl,m9,hO,l5,g8,m2,l0,hM,q1,Nat.zero_le _⟩ ?_
 rintro _ _ t9 ⟨i,p,c,rfl,rfl,c5,c8,c0,b0,ho,a7,hM,hI,hi⟩ t2 h7 t6
 have s9:=Fh (Zd l s.details 3 fuel).es i
 have s0:=Yx l s.details 3 fuel hfu
 refine xid 6 ((i:Int)<(↑((Zd l s.details 3 fuel).es.length):Int)) (fun q0=>?_) (fun q0=>?_)
 ·refine xx 6 _ ((Zd l s.details 3 fuel).es.length) i 3 (Sts.cell (f:=Hp) (Zi a7) Xt Zg (k:=i) (i:=0) (by omega) rfl).1 ?_
  refine xlv 0 (Sts.rp (k:=i) (Zi a7) Xt Zg (by omega) (by decide)) ?_
  refine xa 0 [V0 0,.string ⟨#[]⟩,V0 0] 123 fun v4 v3 a0=>?_
  have i3:=a0.ge0 c5
  have a9:=Zz a7 a0
  refine xsv 0 a0.blk [V0 (((Zd l s.details 3 fuel).es.getD i Zg).1),.string ⟨(((Zd l s.details 3 fuel).es.getD i Zg).2.1).toArray⟩,V0 (((Zd l s.details 3 fuel).es.getD i Zg).2.2)] fun f5 a8 m7=>?_
  refine xb 6 0 m7 ?_
  refine xid 3 (((Zd l s.details 3 fuel).es.getD i Zg).1>(16777215:Int)) (fun q2=>?_) (fun q2=>?_)
  ·refine xd 1 (.t B [114,100]) ?_
   have k1:=m7.below (Za f5)
   refine xbt (.e [0,1,2,3] 4) 2 B [114,100] k1 ?_
   have r3:=Zb (a8.own2 (Zb ho a0.below) a0.blk (by decide)) (Za f5)
   have o5:=((hM.below a0.below).updBlk a8 a0.blk).below (Za f5)
   have d9:=(a8.blkT (c0.below a0.below) a0.blk (by decide)).below (Za f5)
   have l9:=blB (a8.below (blB c5 hBw a0.below) (Nat.le_trans hBw i3)) hBw (Za f5)
   refine yc (.o [] 5) (args:=#[P0 bx,V0 2,V0 (((Zd l s.details 3 fuel).es.getD i Zg).2.2),V0 9]) (.t B [114,100]) (Xj B bx _ _ (D++(Zd l s.details 3 fuel).fs.map (Qd 2)++Jm ((Zd l s.details 3 fuel).es.take i)) ra rb rc _ _ _ _ _ _ _ _ _ _ _ _ _ _ _ _ _ _ _ 2 (((Zd l s.details 3 fuel).es.getD i Zg).2.2) 9 _ (by first|assumption|decide|omega) d9 r3 o5 hBb (Nat.le_trans hBw l9.size) (by first|omega|(simp;omega))) ?_
   rintro _ u6 ⟨rfl,pa,ca,j1,e1,h4,h2,hM⟩
   refine⟨(Xo j1 e1),?_⟩
   refine xwm 7 ((i:Int)+1) (↑(i+1):Int) ?_
   have b5:=h4
   have b6:=h2
   rw[←Ek _ (by omega) (by omega)] at b5 b6
   have m6:=l9.trans j1
   have n1:=((Ze.upd_new (c8.trans (Ze.of_below a0.below)) a8 i3).trans (Ze.of_below (Za f5))).trans e1
   have c9:=((a8.blkT (b0.below a0.below) a0.blk (by decide)).below (Za f5)).only e1 (by decide)
   have i4:=Zf (Zb (a8.own3 (Zb a7 a0.below) a9) (Za f5)) e1 (by decide)
   have o4:=(((hI.below a0.below).only (Ze.of_upd (T:=[123]) a8 a0.blk (by decide)) (by decide)).below (Za f5)).only e1 (by decide)
   exact ze 2 (h7 _ _ _ ⟨i+1,_,_,rfl,rfl,m6,n1,b5,c9,b6,i4,(by rw[Bm (by omega) (by omega)];exact hM),o4,by omega⟩ (by omega))
  refine xb 5 1 m7 ?_
  refine xr 0 (args:=#[.string ⟨(((Zd l s.details 3 fuel).es.getD i Zg).2.1).toArray⟩]) (Ve ((Zd l s.details 3 fuel).es.getD i Zg).2.1 _ (Xz _ _ _ _ i (by omega))) fun u9 a4=>?_
  refine xa 3 [V0 0,V0 0,V0 0,V0 0] 202 fun t4 v2 a5=>?_
  have g6:=blB (a8.below (blB c5 hBw a0.below) (Nat.le_trans hBw i3)) hBw a4
  have o6:=a5.ge0 g6
  refine xsv 0 a5.blk [V0 (↑(Xh ((Zd l s.details 3 fuel).es.getD i Zg).2.1 0):Int),V0 (↑(Xh ((Zd l s.details 3 fuel).es.getD i Zg).2.1 1):Int),V0 (↑(Xh ((Zd l s.details 3 fuel).es.getD i Zg).2.1 2):Int),V0 (↑(Xh ((Zd l s.details 3 fuel).es.getD i Zg).2.1 3):Int)] fun c7 d3 t0=>?_
  refine xd 4 (.t B [114,100]) ?_
  have g9:=(d3.blkT ((m7.below a4).below a5.below) a5.blk (by decide)).below (Za c7)
  refine xbt (.e [0,1,2,3] 4) 2 B [114,100] g9 ?_
  have k9:=Zb (d3.own2 (Zb (Zb (a8.own2 (Zb ho a0.below) a0.blk (by decide)) a4) a5.below) a5.blk (by decide)) (Za c7)
  have j0:=(((((hM.below a0.below).updBlk a8 a0.blk).below a4).below a5.below).updBlk d3 a5.blk).below (Za c7)
  have b1:=(d3.blkT (((a8.blkT (c0.below a0.below) a0.blk (by decide)).below a4).below a5.below) a5.blk (by decide)).below (Za c7)
  have e6:=blB (d3.below (blB g6 hBw a5.below) (Nat.le_trans hBw o6)) hBw (Za c7)
  refine yc (.o [5] 6) (args:=#[P0 bx,V0 2,V0 (((Zd l s.details 3 fuel).es.getD i Zg).2.2),V0 (Xc Vd ((Zd l s.details 3 fuel).es.getD i Zg).2.1)]) (.t B [114,100]) (Ke B bx _ _ (D++(Zd l s.details 3 fuel).fs.map (Qd 2)++Jm ((Zd l s.details 3 fuel).es.take i)) ra rb rc _ _ _ _ _ _ _ _ _ _ _ _ _ _ _ _ _ _ _ 2 (((Zd l s.details 3 fuel).es.getD i Zg).2.2) (Xc Vd ((Zd l s.details 3 fuel).es.getD i Zg).2.1) _ b1 k9 j0 hBb (Nat.le_trans hBw e6.size) (by first|omega|(simp;omega))) ?_
  rintro e f1 n9
  rcases n9 with ⟨e4,rfl,a1⟩|⟨e4,rfl,pa,ca,a1,d6,h4,h2,hM⟩
  ·refine⟨(SF.of_below _ a1),?_⟩
   refine xd (.r [7] 3) (.t B [4]) ?_
   have b3:=(b1.below a1).below (Za f1)
   refine xbt (.e [0,1,2] 3) 14 B [4] b3 ?_
   have l7:=(g9.below a1).below (Za f1)
   refine xbt (.e [4] 5) 0 B [4] l7 ?_
   have m5:=((t0.below (Za c7)).below a1).below (Za f1)
   refine xlvt (.e [] 6) (.t B [4]) (fun V hV=>(m5.only hV.2 (by decide)).rp) ?_
   have e7:=(j0.below a1).below (Za f1)
   have c1:=Vf.obj e7.m1
   refine ymuV (.o [] 7) (((Zd l s.details 3 fuel).es.getD i Zg).1) (Kl ((Zd l s.details 3 fuel).es.getD i Zg)) (.t B [4]) Tryz.underlying108 (Df Tryz.underlying3) e7.m1 (Ih (Vm _ _ _ _).2.2.2.1 (by omega)) fun v0 g3 s4=>⟨Jz c1 g3 e7.g1,?_⟩
   refine xwm 4 ((i:Int)+1) (↑(i+1):Int) ?_
   have d7:=Xy b3 c1 g3
   have p6:=Xl (Zb (Zb k9 a1) (Za f1)) c1 g3
   have hM:=e7.put1 g3 s4
   have b5:=d7
   have b6:=p6
   rw[←Ei (by omega) (by omega) e4] at b5 b6
   have k5:=g3.below (blB (blB e6 hBw a1) hBw (Za f1)) e7.g1
   have n8:=((((Ze.upd_new (((Ze.upd_new (c8.trans (Ze.of_below a0.below)) a8 i3).trans (Ze.of_below a4)).trans (Ze.of_below a5.below)) d3 o6).trans (Ze.of_below (Za c7))).trans (Ze.of_below a1)).trans (Ze.of_below (Za f1))).trans (Zx c1 g3)
   have d1:=Xy ((((d3.blkT (((a8.blkT (b0.below a0.below) a0.blk (by decide)).below a4).below a5.below) a5.blk (by decide)).below (Za c7)).below a1).below (Za f1)) c1 g3
   have i8:=Xl (Zb (Zb (Zb (d3.own2 (Zb (Zb (a8.own3 (Zb a7 a0.below) a9) a4) a5.below) a5.blk (by decide)) (Za c7)) a1) (Za f1)) c1 g3
   have p7:=((((((((hI.below a0.below).only (Ze.of_upd (T:=[123]) a8 a0.blk (by decide)) (by decide)).below a4).below a5.below).only (Ze.of_upd (T:=[202]) d3 a5.blk (by decide)) (by decide)).below (Za c7)).below a1).below (Za f1)).only (Zx (T:=[]) c1 g3) (by decide)
   exact ze 2 (h7 _ _ _ ⟨i+1,_,_,rfl,rfl,k5,n8,b5,d1,b6,i8,(by rw[Ab (by omega) (by omega) e4];exact hM),p7,by omega⟩ (by omega))
  refine⟨(Xo a1 d6),?_⟩
  refine xwm (.r [7] 7) ((i:Int)+1) (↑(i+1):Int) ?_
  have b5:=h4
  have b6:=h2
  rw[←Fu _ (by omega) (by omega) e4] at b5 b6
  have j9:=e6.trans a1
  have n5:=((Ze.upd_new (((Ze.upd_new (c8.trans (Ze.of_below a0.below)) a8 i3).trans (Ze.of_below a4)).trans (Ze.of_below a5.below)) d3 o6).trans (Ze.of_below (Za c7))).trans d6
  have d2:=((d3.blkT (((a8.blkT (b0.below a0.below) a0.blk (by decide)).below a4).below a5.below) a5.blk (by decide)).below (Za c7)).only d6 (by decide)
  have h5:=Zf (Zb (d3.own2 (Zb (Zb (a8.own3 (Zb a7 a0.below) a9) a4) a5.below) a5.blk (by decide)) (Za c7)) d6 (by decide)
  have i5:=((((((hI.below a0.below).only (Ze.of_upd (T:=[123]) a8 a0.blk (by decide)) (by decide)).below a4).below a5.below).only (Ze.of_upd (T:=[202]) d3 a5.blk (by decide)) (by decide)).below (Za c7)).only d6 (by decide)
  exact ze 2 (h7 _ _ _ ⟨i+1,_,_,rfl,rfl,j9,n5,b5,d2,b6,h5,(by rw[Lw (by omega) (by omega) e4];exact hM),i5,by omega⟩ (by omega))
 refine xe 4 (.tuple #[]) ?_
 obtain rfl:i=(Zd l s.details 3 fuel).es.length:=by omega
 have h9:=c0
 have l3:=ho
 have m4:=hM
 rw[List.take_of_length_le (Nat.le_refl _)] at h9 l3 m4
 exact⟨⟨_,rfl⟩,_,_,c5,c8,h9,l3,m4⟩
abbrev Zv:=Dv×O0×Nat
def zvD:Zv:=(((0,0,0,0),[]),none,0)
def Bp(z:Zv):List Value:=[V0 z.1.1.1,V0 z.1.1.2.1,V0 z.1.1.2.2.1,V0 z.1.1.2.2.2,.slice z.2.1 z.1.2.length z.2.2]
theorem Pf(z:Zv):(Bp z).length=5:=rfl
structure DevsR(w:World)(p:Option Addr)(c:Nat)(Z:List Zv):Prop where
 row:Sts Bp w (.slice p Z.length c) Z
 each:∀ i,i<Z.length→Sts Kh w (.slice (Z.getD i zvD).2.1 (Z.getD i zvD).1.2.length (Z.getD i zvD).2.2) (Z.getD i zvD).1.2
theorem DevsR.below{w W:World}{p:O0}{c:Nat}{Z:List Zv}(h:DevsR w p c Z)(hb:B0 w W):DevsR W p c Z:=⟨h.row.below hb,fun i hi=>(h.each i hi).below hb⟩
theorem DevsR.rowN{w:World}{p:O0}{c n:Nat}{Z:List Zv}(h:DevsR w p c Z)(hn:Z.length=n):Sl w (.slice p n c) n (Z.flatMap Bp):=by subst hn;exact h.row
theorem DevsR.someN{w:World}{p:O0}{c n i:Nat}{Z:List Zv}(h:DevsR w p c Z)(hn:Z.length=n)(hi:i<n):p.isSome=true:=by subst hn;exact(Sts.cell h.row Pf zvD (k:=i) (i:=0) hi rfl).1
theorem Zel{a:Act}{o:Oper}{p q:Operand}(x:Mp)(ho:o.op=.binOp .neq 164 p q 164)(hx:a.eval p=.agg (Kh x).toArray)(hy:a.eval q=.agg (Kh x).toArray)(V:World) :
 (execOp a.eval o).run Tryz.prog V=.ok (.value (.bool false)) V:=by
 have h1:=Tryz.underlying164
 have h2:=Tryz.underlying3
 have h4:Tryz.prog.stoodInHeld 164=false:=by kernel_rfl
 have hb:(binOp .neq 164 (.agg (Kh x).toArray) (.agg (Kh x).toArray)).run Tryz.prog V=.ok (.bool false) V:=by
  obtain⟨x0,x1,x2⟩:=x
  simp[go_sem,Program.fieldsOf,h1,h2,h4,Op.eqFields,Kh]
 have hg:=run_eqGuard_agg (P:=Tryz.prog) (w:=V) .neq 164 p q (Kh x).toArray (Kh x).toArray (by kernel_rfl)
 simp only[execOp,ho,hx,hy,Sem.run_bind,hg,Result.andThen_ok,hb]
 rfl
def TopP(B bx:Nat)(cs:List Value)(D:List Dg)(l:Bl)(s:Sup)(fuel:Int)(ra rb rc:Nat)(kd:List (Int×Value))(w:World)(e:Ending)(w':World):Prop :=
 ∃ u km,e=.returned u∧Pw B bx cs (D++(Zd l s.top 1 fuel).fs.map (Qd 3)++Uy l s.data fuel (Zd l s.top 1 fuel).es []) ra rb rc kd (Um (Zd l s.top 1 fuel).es) km w w'∧Vj (Ji l s.data fuel) km w'∧km.map Prod.fst=Ys (Zd l s.top 1 fuel).es
theorem G_len{l:Bl}{data fuel:Int}{T:List Ent}{i:Nat}{G:List Dg}(hf:fuel≤1000)(hT:T.length≤18001)(h:G++Uy l data fuel (T.drop i) (Ys (T.take i))=Uy l data fuel T []):G.length≤324036001:=by
 have h1:=congrArg List.length h
 have h2:=Dd l data fuel hf T []
 rw[List.length_append] at h1
 have h3:18001*T.length≤18001*18001:=Nat.mul_le_mul_left _ hT
 omega
theorem Lf(A G H:List Dg):(A++G)++H=A++(G++H):=List.append_assoc A G H
theorem Ta(B bx:Nat)(p:O0)(c:Nat)(D:List Dg)(ra rb rc:Nat)(kd:List (Int×Value))(pi:O0)(ni ci Bi b:Nat)(l:Bl)(s:Sup)(fuel:Int)(w:World)(hk:Blk w bx [.slice p D.length c,P0 b,V0 s.tx,V0 s.time,V0 s.unit,V0 s.data,V0 s.blocks,V0 s.top,V0 s.details,V0 s.dslots,V0 s.dover,V0 s.mindex,V0 s.mover,V0 fuel,.map (some ra),.map (some rb),.map (some rc)] 114)(ho:w.ownsRow B 100 3 (.slice p D.length c) D.length (D.flatMap dmc))(hM:Maps3 B ra rb rc kd [] [] w)(hI:ImgR Bi b pi ni ci l w)(hfu:fuel≤1000)(hg:∀ W,Below B w W→Dz W)(hBb:B≤bx)(hBw:B≤w.heap.size)(hl:D.length≤500000000) :
 C0 50 #[P0 bx] w (TopP B bx [P0 b,V0 s.tx,V0 s.time,V0 s.unit,V0 s.data,V0 s.blocks,V0 s.top,V0 s.details,V0 s.dslots,V0 s.dover,V0 s.mindex,V0 s.mover,V0 fuel,.map (some ra),.map (some rb),.map (some rc)] D l s fuel ra rb rc kd w):=by
 have x2:=Yx l s.top 1 fuel hfu
 refine zin 76 Tryz.func50 ?_
 refine xd 1 (.t B [130]) ?_
 have f6:=hk.below (Za w)
 refine xbt (.e [0,1,2] 3) 1 B [130] f6 ?_
 refine xbt (.e [4,5,6,7] 8) 7 B [130] f6 ?_
 refine xbt (.e [9,10,11] 12) 13 B [130] f6 ?_
 refine xm2 0 13 14 ?_ ?_
 ·have o7:=hI.below (Za w)
  refine yc 0 (args:=#[P0 b,V0 s.top,V0 1,V0 fuel]) (.t B [130]) (Vo Bi b pi ni ci l s.top 1 fuel _ hfu o7) ?_
  rintro _ W1 ⟨pe,pb,pf,ce,cb,cf,fv,rfl,i8,c1,j3,w0⟩
  have x0:=(blB (Below.refl B w) hBw (Za w)).size
  refine⟨(SF.of_below _ i8),?_⟩
  have m8:=Zh c1 x0
  have q0:=Zh j3 x0
  replace c1:=Zh m8 hBw
  replace j3:=Zh q0 hBw
  refine xa (.o [] 14) [S0,S0,V0 0,V0 0,S0] 130 fun b2 W2 n2=>?_
  have g2:=n2.ge0 (blB (blB (Below.refl B w) hBw (Za w)) hBw i8)
  refine ysv (.o [] 15) n2.blk [.slice pe ((Zd l s.top 1 fuel).es.length) ce,.slice pb ((Zd l s.top 1 fuel).bs.length) cb,V0 ((Zd l s.top 1 fuel).deep),V0 (↑(Zd l s.top 1 fuel).looked:Int),.slice pf ((Zd l s.top 1 fuel).fs.length) cf] (.t B [130]) fun W3 u3 k3=>⟨(Zt u3 n2.blk (Nat.le_trans hBw g2) (by decide)),?_⟩
  refine xd 3 (.t B [114,100]) ?_
  have o0:=k3.below (Za W3)
  refine xbt (.e [0,1,2,3] 4) 4 B [114,100] o0 ?_
  have t5:=Zb (u3.own2 (Zb (Zb (Zb ho (Za w)) i8) n2.below) n2.blk (by decide)) (Za W3)
  have t8:=((((hM.below (Za w)).below i8).below n2.below).updBlk u3 n2.blk).below (Za W3)
  have k5:=Zb (u3.own2 (Zb j3 n2.below) n2.blk (by decide)) (Za W3)
  have r2:=(u3.blkT ((f6.below i8).below n2.below) n2.blk (by decide)).below (Za W3)
  have n3:=((w0.below n2.below).only (Ze.of_upd (T:=[130]) u3 n2.blk (by decide)) (by decide)).below (Za W3)
  have hB:=blB (u3.below (blB (blB (blB (Below.refl B w) hBw (Za w)) hBw i8) hBw n2.below) (Nat.le_trans hBw g2)) hBw (Za W3)
  refine yc (.o [] 5) (args:=#[P0 bx,V0 3,.slice pf ((Zd l s.top 1 fuel).fs.length) cf]) (.t B [114,100]) (Yl B bx _ _ D ra rb rc _ _ _ _ _ _ _ _ _ _ _ _ _ _ _ _ _ _ _ 3 pf cf (Zd l s.top 1 fuel).fs fv _ r2 t5 t8 k5 n3 (Ks _ _ _ _) (fun W hb=>hg W (Below.trans hB hb)) hBb (Nat.le_trans hBw hB.size) (by first|omega|(simp;omega))) ?_
  rintro _ W4 ⟨⟨u4,rfl⟩,p4,c4,x1,k2,x6,y1,hM⟩
  refine⟨(Xo x1 k2),?_⟩
  have o5:=o0.only k2 (by decide)
  refine xb 5 0 o5 ?_
  have q4:=x6
  have q7:=y1
  rw[(by rw[List.append_nil]:D++(Zd l s.top 1 fuel).fs.map (Qd 3)=D++(Zd l s.top 1 fuel).fs.map (Qd 3)++([]:List Dg))] at q4 q7
  have p7:=Zf (Zb (u3.own2 (Zb c1 n2.below) n2.blk (by decide)) (Za W3)) k2 (by decide)
  have v3:=((((o7.below i8).below n2.below).only (Ze.of_upd (T:=[130]) u3 n2.blk (by decide)) (by decide)).below (Za W3)).only k2 (by decide)
  have v6:=hB.trans x1
  have hO:=((Ze.upd_new (((show Ze [114,100] w _ from(Ze.of_below (Za w))).trans (Ze.of_below i8)).trans (Ze.of_below n2.below)) u3 g2).trans (Ze.of_below (Za W3))).trans k2
  refine zl 5 76 (fun zm u0 V=>∃ (i:Nat) (p:O0) (c:Nat) (G:List Dg) (kv:List (Int×Value)),u0=[(0,P0 bx),(30,.slice pe ((Zd l s.top 1 fuel).es.length) ce),(31,V0 (↑((Zd l s.top 1 fuel).es.length):Int)),(32,V0 (i:Int))]∧zm=(Zd l s.top 1 fuel).es.length-((i:Int)).toNat∧Below B w V∧Ze [114,100] w V∧Blk V bx ([.slice p ((D++(Zd l s.top 1 fuel).fs.map (Qd 3)++G).length) c,P0 b,V0 s.tx,V0 s.time,V0 s.unit,V0 s.data,V0 s.blocks,V0 s.top,V0 s.details,V0 s.dslots,V0 s.dover,V0 s.mindex,V0 s.mover,V0 fuel,.map (some ra),.map (some rb),.map (some rc)]) 114∧Blk V b2 ([.slice pe ((Zd l s.top 1 fuel).es.length) ce,.slice pb ((Zd l s.top 1 fuel).bs.length) cb,V0 ((Zd l s.top 1 fuel).deep),V0 (↑(Zd l s.top 1 fuel).looked:Int),.slice pf ((Zd l s.top 1 fuel).fs.length) cf]) 130∧V.ownsRow B 100 3 (.slice p (D++(Zd l s.top 1 fuel).fs.map (Qd 3)++G).length c) (D++(Zd l s.top 1 fuel).fs.map (Qd 3)++G).length ((D++(Zd l s.top 1 fuel).fs.map (Qd 3)++G).flatMap dmc)∧V.ownsRow B 123 3 (.slice pe (Zd l s.top 1 fuel).es.length ce) (Zd l s.top 1 fuel).es.length ((Zd l s.top 1 fuel).es.flatMap Hp)∧Maps3 B ra rb rc kd (Um ((Zd l s.top 1 fuel).es.take i)) kv V∧ImgR Bi b pi ni ci l V∧Vj (Ji l s.data fuel) kv V∧i≤(Zd l s.top 1 fuel).es.length∧kv.map Prod.fst=(Ys ((Zd l s.top 1 fuel).es.take i))∧G++Uy l s.data fuel ((Zd l s.top 1 fuel).es.drop i) (Ys ((Zd l s.top 1 fuel).es.take i))=Uy l s.data fuel (Zd l s.top 1 fuel).es []) ⟨0,_,_,[],[],rfl,rfl,v6,hO,q4,o5,q7,p7,hM,v3,Vj.nil _,Nat.zero_le _,rfl,rfl⟩ ?_
  rintro _ _ W5 ⟨i,p,c,G,kv,rfl,rfl,k1,h0,j1,e4,ho,c1,hM,hI,hR,hi,d7,a6⟩ J5 r0 r5
  have x4:=Yx l s.top 1 fuel hfu
  have y3:=G_len hfu (by omega) a6
  refine xid 6 ((i:Int)<(↑((Zd l s.top 1 fuel).es.length):Int)) (fun x5=>?_) (fun x5=>?_)
  ·refine xx 6 _ ((Zd l s.top 1 fuel).es.length) i 3 (Sts.cell (f:=Hp) (Zi c1) Xt Zg (k:=i) (i:=0) (by omega) rfl).1 ?_
   refine xlv 0 (Sts.rp (k:=i) (Zi c1) Xt Zg (by omega) (by decide)) ?_
   refine xa 0 [V0 0,.string ⟨#[]⟩,V0 0] 123 fun b7 W7 n7=>?_
   have g7:=n7.ge0 k1
   have c7:=Zz c1 n7
   refine xsv 0 n7.blk [V0 (((Zd l s.top 1 fuel).es.getD i Zg).1),.string ⟨(((Zd l s.top 1 fuel).es.getD i Zg).2.1).toArray⟩,V0 (((Zd l s.top 1 fuel).es.getD i Zg).2.2)] fun W8 u8 k8=>?_
   refine xb 5 1 k8 ?_
   refine xr 0 (args:=#[.string ⟨(((Zd l s.top 1 fuel).es.getD i Zg).2.1).toArray⟩]) (Qu ((Zd l s.top 1 fuel).es.getD i Zg).2.1 _ (Xz _ _ _ _ i (by omega))) fun W9 a9=>?_
   refine xd 9 (.t B [114,100]) ?_
   have q2:=(k8.below a9).below (Za W9)
   refine xbt (.e [0,1,2,3] 4) 2 B [114,100] q2 ?_
   have i3:=Zb (Zb (u8.own2 (Zb ho n7.below) n7.blk (by decide)) a9) (Za W9)
   have p1:=(((hM.below n7.below).updBlk u8 n7.blk).below a9).below (Za W9)
   have e1:=((u8.blkT (j1.below n7.below) n7.blk (by decide)).below a9).below (Za W9)
   have g1:=blB (blB (u8.below (blB k1 hBw n7.below) (Nat.le_trans hBw g7)) hBw a9) hBw (Za W9)
   refine yc (.o [5] 6) (args:=#[P0 bx,V0 3,V0 (((Zd l s.top 1 fuel).es.getD i Zg).2.2),V0 (Xk ((Zd l s.top 1 fuel).es.getD i Zg).2.1)]) (.t B [114,100]) (Ke B bx _ _ (D++(Zd l s.top 1 fuel).fs.map (Qd 3)++G) ra rb rc _ _ _ _ _ _ _ _ _ _ _ _ _ _ _ _ _ _ _ 3 (((Zd l s.top 1 fuel).es.getD i Zg).2.2) (Xk ((Zd l s.top 1 fuel).es.getD i Zg).2.1) _ e1 i3 p1 hBb (Nat.le_trans hBw g1.size) (by first|omega|(simp;omega))) ?_
   rintro e b6 w4
   rcases w4 with ⟨b1,rfl,a1⟩|⟨b1,rfl,pa,ca,a1,f4,t1,s1,hM⟩
   ·refine⟨(SF.of_below _ a1),?_⟩
    refine xd 6 (.t B [4]) ?_
    have e3:=(e1.below a1).below (Za b6)
    refine xbt (.e [0,1,2] 3) 15 B [4] e3 ?_
    have t7:=(q2.below a1).below (Za b6)
    refine xbt (.e [4] 5) 0 B [4] t7 ?_
    have d3:=(p1.below a1).below (Za b6)
    have a5:=Vf.obj d3.m2
    refine ymuV (.o [6] 7) (((Zd l s.top 1 fuel).es.getD i Zg).1) (V0 (↑(Zo ((Zd l s.top 1 fuel).es.getD i Zg).2.1):Int)) (.t B [4]) Tryz.underlying109 (Df Tryz.underlying3) d3.m2 (Ed (Vm _ _ _ _).2.2.2.1 (by omega)) fun d0 b3 w8=>⟨Jz a5 b3 d3.g2,?_⟩
    have b4:=Xy e3 a5 b3
    refine xb 7 16 b4 ?_
    by_cases hsm:(↑(Zo ((Zd l s.top 1 fuel).es.getD i Zg).2.1):Int)∈(Ys ((Zd l s.top 1 fuel).es.take i))
    ·have n9:=((((((hR.below n7.below).only (Ze.of_upd (T:=[123]) u8 n7.blk (by decide)) (by decide)).below a9).below (Za W9)).below a1).below (Za b6)).only (Zx (T:=[]) a5 b3) (by decide)
     obtain⟨am,cm,g4,_⟩:=n9.get (d7.symm▸hsm)
     have hM:=d3.put2 b3 w8
     refine xlkS 1 (↑(Zo ((Zd l s.top 1 fuel).es.getD i Zg).2.1):Int) true Tryz.underlying110 (Df Tryz.underlying3) hM.m3 g4 ?_
     refine xwm 18 ((i:Int)+1) (↑(i+1):Int) ?_
     have s7:=Xl (Zb (Zb i3 a1) (Za b6)) a5 b3
     have c2:=b4
     have c3:=s7
     have u1:=b3.below (blB (blB g1 hBw a1) hBw (Za b6)) d3.g2
     have s4:=(((((Ze.upd_new (h0.trans (Ze.of_below n7.below)) u8 g7).trans (Ze.of_below a9)).trans (Ze.of_below (Za W9))).trans (Ze.of_below a1)).trans (Ze.of_below (Za b6))).trans (Zx a5 b3)
     have i1:=Xy (((((u8.blkT (e4.below n7.below) n7.blk (by decide)).below a9).below (Za W9)).below a1).below (Za b6)) a5 b3
     have q8:=Xl (Zb (Zb (Zb (Zb (u8.own3 (Zb c1 n7.below) c7) a9) (Za W9)) a1) (Za b6)) a5 b3
     have v4:=((((((hI.below n7.below).only (Ze.of_upd (T:=[123]) u8 n7.blk (by decide)) (by decide)).below a9).below (Za W9)).below a1).below (Za b6)).only (Zx (T:=[]) a5 b3) (by decide)
     exact ze 2 (r0 _ _ _ ⟨i+1,_,_,_,_,rfl,rfl,u1,s4,c2,i1,c3,q8,(by rw[Kr (by omega) b1];exact hM),v4,n9,by omega,(d7.trans (Tu (by omega) hsm).symm),Zbn (by omega) a6 b1 hsm⟩ (by omega))
    have g4:Qm kv (↑(Zo ((Zd l s.top 1 fuel).es.getD i Zg).2.1):Int)=none:=Uo (d7.symm▸hsm)
    have hM:=d3.put2 b3 w8
    refine xlkN 1 (z:=S0) (↑(Zo ((Zd l s.top 1 fuel).es.getD i Zg).2.1):Int) true Tryz.underlying110 (Df Tryz.underlying3) (fun V=>by kernel_rfl) hM.m3 g4 ?_
    refine xd 14 (.t B [114,100]) ?_
    refine xm2 (.b [0,1,2,4,5,6]) 3 7 ?_ ?_
    ·have e2:=b4.below (Za d0)
     refine xb 0 16 e2 ?_
     have t0:=Zb (Xl (Zb (Zb i3 a1) (Za b6)) a5 b3) (Za d0)
     have t4:=hM.below (Za d0)
     have o4:=(((((((hI.below n7.below).only (Ze.of_upd (T:=[123]) u8 n7.blk (by decide)) (by decide)).below a9).below (Za W9)).below a1).below (Za b6)).only (Zx (T:=[]) a5 b3) (by decide)).below (Za d0)
     have j2:=blB (b3.below (blB (blB g1 hBw a1) hBw (Za b6)) d3.g2) hBw (Za d0)
     refine yc (.o [] 7) (args:=#[P0 bx,V0 (↑(Zo ((Zd l s.top 1 fuel).es.getD i Zg).2.1):Int)]) (.t B [114,100]) (Kt B bx _ _ (D++(Zd l s.top 1 fuel).fs.map (Qd 3)++G) ra rb rc _ _ _ pi ni ci Bi b l s fuel (↑(Zo ((Zd l s.top 1 fuel).es.getD i Zg).2.1):Int) _ e2 t0 t4 o4 hfu (fun W hb=>hg W (Below.trans j2 hb)) hBb (Nat.le_trans hBw j2.size) (by first|omega|(simp;omega))) ?_
     rintro _ y8 ⟨po,co,rfl,j5,pv,cv,p0,e6,h4,j4,hM⟩
     refine⟨(Xo p0 e6),?_⟩
     have c8:=Vf.obj hM.m3
     refine ymuV (.o [] 8) (↑(Zo ((Zd l s.top 1 fuel).es.getD i Zg).2.1):Int) (.slice po ((Ji l s.data fuel (↑(Zo ((Zd l s.top 1 fuel).es.getD i Zg).2.1):Int)).length) co) (.t B [114,100]) Tryz.underlying110 (Df Tryz.underlying3) hM.m3 g4 fun y4 f7 x8=>⟨Jz c8 f7 hM.g3,?_⟩
     have t9:=(((((((((hR.below n7.below).only (Ze.of_upd (T:=[123]) u8 n7.blk (by decide)) (by decide)).below a9).below (Za W9)).below a1).below (Za b6)).only (Zx (T:=[]) a5 b3) (by decide)).below (Za d0)).only e6 (by decide)).only (Zx (T:=[]) c8 f7) (by decide)
     have l4:=Xl j5 c8 f7
     have j9:=Vj.snoc t9 l4
     refine xwm 4 ((i:Int)+1) (↑(i+1):Int) ?_
     have q1:=Xy h4 c8 f7
     have p5:=Xl j4 c8 f7
     have hM:=hM.put3 f7 x8
     have c2:=q1
     have c3:=p5
     rw[Lf] at c2 c3
     have u7:=f7.below (j2.trans p0) hM.g3
     have s8:=((((((((Ze.upd_new (h0.trans (Ze.of_below n7.below)) u8 g7).trans (Ze.of_below a9)).trans (Ze.of_below (Za W9))).trans (Ze.of_below a1)).trans (Ze.of_below (Za b6))).trans (Zx a5 b3)).trans (Ze.of_below (Za d0))).trans e6).trans (Zx c8 f7)
     have h6:=Xy (((Xy (((((u8.blkT (e4.below n7.below) n7.blk (by decide)).below a9).below (Za W9)).below a1).below (Za b6)) a5 b3).below (Za d0)).only e6 (by decide)) c8 f7
     have l7:=Xl (Zf (Zb (Xl (Zb (Zb (Zb (Zb (u8.own3 (Zb c1 n7.below) c7) a9) (Za W9)) a1) (Za b6)) a5 b3) (Za d0)) e6 (by decide)) c8 f7
     have t6:=(o4.only e6 (by decide)).only (Zx (T:=[]) c8 f7) (by decide)
     exact ze 2 (r0 _ _ _ ⟨i+1,_,_,_,_,rfl,rfl,u7,s8,c2,h6,c3,l7,(by rw[Kr (by omega) b1];exact hM),t6,j9,by omega,by rw[List.map_append,d7,Po (by omega) b1 hsm];rfl,Cs (by omega) a6 b1 hsm⟩ (by omega))
    have v2:=Zb (Xl (Zb (Zb i3 a1) (Za b6)) a5 b3) (Za d0)
    have s6:=hM.below (Za d0)
    have q6:=(((((((hI.below n7.below).only (Ze.of_upd (T:=[123]) u8 n7.blk (by decide)) (by decide)).below a9).below (Za W9)).below a1).below (Za b6)).only (Zx (T:=[]) a5 b3) (by decide)).below (Za d0)
    have h8:=b4.below (Za d0)
    have j6:=blB (b3.below (blB (blB g1 hBw a1) hBw (Za b6)) d3.g2) hBw (Za d0)
    refine yc 0 (args:=#[P0 bx,V0 (↑(Zo ((Zd l s.top 1 fuel).es.getD i Zg).2.1):Int)]) (.t B [114,100]) (Kt B bx _ _ (D++(Zd l s.top 1 fuel).fs.map (Qd 3)++G) ra rb rc _ _ _ pi ni ci Bi b l s fuel (↑(Zo ((Zd l s.top 1 fuel).es.getD i Zg).2.1):Int) _ h8 v2 s6 q6 hfu (fun W hb=>hg W (Below.trans j6 hb)) hBb (Nat.le_trans hBw j6.size) (by first|omega|(simp;omega))) ?_
    rintro _ z0 ⟨po,co,rfl,j5,pv,cv,n1,e7,h4,j4,hM⟩
    refine⟨(Xo n1 e7),?_⟩
    refine xb (.o [] 3) 16 h4 ?_
    have c6:=Vf.obj hM.m3
    refine ymuV (.o [] 8) (↑(Zo ((Zd l s.top 1 fuel).es.getD i Zg).2.1):Int) (.slice po ((Ji l s.data fuel (↑(Zo ((Zd l s.top 1 fuel).es.getD i Zg).2.1):Int)).length) co) (.t B [114,100]) Tryz.underlying110 (Df Tryz.underlying3) hM.m3 g4 fun z9 g6 y2=>⟨Jz c6 g6 hM.g3,?_⟩
    have s0:=(((((((((hR.below n7.below).only (Ze.of_upd (T:=[123]) u8 n7.blk (by decide)) (by decide)).below a9).below (Za W9)).below a1).below (Za b6)).only (Zx (T:=[]) a5 b3) (by decide)).below (Za d0)).only e7 (by decide)).only (Zx (T:=[]) c6 g6) (by decide)
    have k9:=Xl j5 c6 g6
    have j9:=Vj.snoc s0 k9
    refine xwm 4 ((i:Int)+1) (↑(i+1):Int) ?_
    have l2:=Xy h4 c6 g6
    have p6:=Xl j4 c6 g6
    have hM:=hM.put3 g6 y2
    have c2:=l2
    have c3:=p6
    rw[Lf] at c2 c3
    have v5:=g6.below (j6.trans n1) hM.g3
    have r9:=((((((((Ze.upd_new (h0.trans (Ze.of_below n7.below)) u8 g7).trans (Ze.of_below a9)).trans (Ze.of_below (Za W9))).trans (Ze.of_below a1)).trans (Ze.of_below (Za b6))).trans (Zx a5 b3)).trans (Ze.of_below (Za d0))).trans e7).trans (Zx c6 g6)
    have h9:=Xy (((Xy (((((u8.blkT (e4.below n7.below) n7.blk (by decide)).below a9).below (Za W9)).below a1).below (Za b6)) a5 b3).below (Za d0)).only e7 (by decide)) c6 g6
    have q5:=Xl (Zf (Zb (Xl (Zb (Zb (Zb (Zb (u8.own3 (Zb c1 n7.below) c7) a9) (Za W9)) a1) (Za b6)) a5 b3) (Za d0)) e7 (by decide)) c6 g6
    have v1:=(q6.only e7 (by decide)).only (Zx (T:=[]) c6 g6) (by decide)
    exact ze 2 (r0 _ _ _ ⟨i+1,_,_,_,_,rfl,rfl,v5,r9,c2,h9,c3,q5,(by rw[Kr (by omega) b1];exact hM),v1,j9,by omega,by rw[List.map_append,d7,Po (by omega) b1 hsm];rfl,Cs (by omega) a6 b1 hsm⟩ (by omega))
   refine⟨(Xo a1 f4),?_⟩
   refine xwm 8 ((i:Int)+1) (↑(i+1):Int) ?_
   have c2:=t1
   have c3:=s1
   rw[Lf] at c2 c3
   have r3:=g1.trans a1
   have r8:=(((Ze.upd_new (h0.trans (Ze.of_below n7.below)) u8 g7).trans (Ze.of_below a9)).trans (Ze.of_below (Za W9))).trans f4
   have h5:=(((u8.blkT (e4.below n7.below) n7.blk (by decide)).below a9).below (Za W9)).only f4 (by decide)
   have p8:=Zf (Zb (Zb (u8.own3 (Zb c1 n7.below) c7) a9) (Za W9)) f4 (by decide)
   have t2:=((((hI.below n7.below).only (Ze.of_upd (T:=[123]) u8 n7.blk (by decide)) (by decide)).below a9).below (Za W9)).only f4 (by decide)
   have r4:=((((hR.below n7.below).only (Ze.of_upd (T:=[123]) u8 n7.blk (by decide)) (by decide)).below a9).below (Za W9)).only f4 (by decide)
   exact ze 2 (r0 _ _ _ ⟨i+1,_,_,_,_,rfl,rfl,r3,r8,c2,h5,c3,p8,(by rw[Cf (by omega) b1];exact hM),t2,r4,by omega,(d7.trans (Tx (by omega) b1).symm),Zd5 (by omega) a6 b1⟩ (by omega))
  refine xe 4 (.tuple #[]) ?_
  obtain rfl:i=(Zd l s.top 1 fuel).es.length:=by omega
  have r1:=j1
  have w2:=ho
  have q9:=hM
  rw[List.drop_eq_nil_of_le (Nat.le_refl _)] at a6
  rw[List.take_of_length_le (Nat.le_refl _)] at q9 d7
  obtain rfl:G=Uy l s.data fuel (Zd l s.top 1 fuel).es []:=by rw[←a6];exact(List.append_nil _).symm
  exact⟨_,_,rfl,⟨_,_,k1,h0,r1,w2,q9⟩,hR,d7⟩
 refine xa 0 [S0,S0,V0 0,V0 0,S0] 130 fun x7 y6 i4=>?_
 have o2:=(hI.below (Za w)).below i4.below
 refine yc (.o [] 13) (args:=#[P0 b,V0 s.top,V0 1,V0 fuel]) (.t B [130]) (Vo Bi b pi ni ci l s.top 1 fuel _ hfu o2) ?_
 rintro _ y9 ⟨pe,pb,pf,ce,cb,cf,fv,rfl,d6,c1,j3,w0⟩
 have m5:=(blB (blB (Below.refl B w) hBw (Za w)) hBw i4.below).size
 refine⟨(SF.of_below _ d6),?_⟩
 have p2:=Zh c1 m5
 have l0:=Zh j3 m5
 replace c1:=Zh p2 hBw
 replace j3:=Zh l0 hBw
 have h7:=i4.blk.below d6
 have r6:=i4.ge0 (blB (Below.refl B w) hBw (Za w))
 refine ysv (.o [] 15) h7 [.slice pe ((Zd l s.top 1 fuel).es.length) ce,.slice pb ((Zd l s.top 1 fuel).bs.length) cb,V0 ((Zd l s.top 1 fuel).deep),V0 (↑(Zd l s.top 1 fuel).looked:Int),.slice pf ((Zd l s.top 1 fuel).fs.length) cf] (.t B [130]) fun h3 h2 y0=>⟨(Zt h2 h7 (Nat.le_trans hBw r6) (by decide)),?_⟩
 refine xd 3 (.t B [114,100]) ?_
 have i7:=y0.below (Za h3)
 refine xbt (.e [0,1,2,3] 4) 4 B [114,100] i7 ?_
 have w3:=Zb (h2.own2 (Zb (Zb (Zb ho (Za w)) i4.below) d6) h7 (by decide)) (Za h3)
 have t3:=((((hM.below (Za w)).below i4.below).below d6).updBlk h2 h7).below (Za h3)
 have n6:=Zb (h2.own2 j3 h7 (by decide)) (Za h3)
 have u9:=(h2.blkT ((f6.below i4.below).below d6) h7 (by decide)).below (Za h3)
 have o8:=(w0.only (Ze.of_upd (T:=[130]) h2 h7 (by decide)) (by decide)).below (Za h3)
 have hB:=blB (h2.below (blB (blB (blB (Below.refl B w) hBw (Za w)) hBw i4.below) hBw d6) (Nat.le_trans hBw r6)) hBw (Za h3)
 refine yc (.o [] 5) (args:=#[P0 bx,V0 3,.slice pf ((Zd l s.top 1 fuel).fs.length) cf]) (.t B [114,100]) (Yl B bx _ _ D ra rb rc _ _ _ _ _ _ _ _ _ _ _ _ _ _ _ _ _ _ _ 3 pf cf (Zd l s.top 1 fuel).fs fv _ u9 w3 t3 n6 o8 (Ks _ _ _ _) (fun W hb=>hg W (Below.trans hB hb)) hBb (Nat.le_trans hBw hB.size) (by first|omega|(simp;omega))) ?_
 rintro _ z5 ⟨⟨z2,rfl⟩,z6,z7,o1,f5,u2,w1,hM⟩
 refine⟨(Xo o1 f5),?_⟩
 have i6:=i7.only f5 (by decide)
 refine xb 5 0 i6 ?_
 have q4:=u2
 have q7:=w1
 rw[(by rw[List.append_nil]:D++(Zd l s.top 1 fuel).fs.map (Qd 3)=D++(Zd l s.top 1 fuel).fs.map (Qd 3)++([]:List Dg))] at q4 q7
 have l3:=Zf (Zb (h2.own2 c1 h7 (by decide)) (Za h3)) f5 (by decide)
 have l5:=(((o2.below d6).only (Ze.of_upd (T:=[130]) h2 h7 (by decide)) (by decide)).below (Za h3)).only f5 (by decide)
 have w5:=hB.trans o1
 have hO:=((Ze.upd_new (((show Ze [114,100] w _ from(Ze.of_below (Za w))).trans (Ze.of_below i4.below)).trans (Ze.of_below d6)) h2 r6).trans (Ze.of_below (Za h3))).trans f5
 refine zl 5 76 (fun zm u0 V=>∃ (i:Nat) (p:O0) (c:Nat) (G:List Dg) (kv:List (Int×Value)),u0=[(0,P0 bx),(30,.slice pe ((Zd l s.top 1 fuel).es.length) ce),(31,V0 (↑((Zd l s.top 1 fuel).es.length):Int)),(32,V0 (i:Int))]∧zm=(Zd l s.top 1 fuel).es.length-((i:Int)).toNat∧Below B w V∧Ze [114,100] w V∧Blk V bx ([.slice p ((D++(Zd l s.top 1 fuel).fs.map (Qd 3)++G).length) c,P0 b,V0 s.tx,V0 s.time,V0 s.unit,V0 s.data,V0 s.blocks,V0 s.top,V0 s.details,V0 s.dslots,V0 s.dover,V0 s.mindex,V0 s.mover,V0 fuel,.map (some ra),.map (some rb),.map (some rc)]) 114∧Blk V x7 ([.slice pe ((Zd l s.top 1 fuel).es.length) ce,.slice pb ((Zd l s.top 1 fuel).bs.length) cb,V0 ((Zd l s.top 1 fuel).deep),V0 (↑(Zd l s.top 1 fuel).looked:Int),.slice pf ((Zd l s.top 1 fuel).fs.length) cf]) 130∧V.ownsRow B 100 3 (.slice p (D++(Zd l s.top 1 fuel).fs.map (Qd 3)++G).length c) (D++(Zd l s.top 1 fuel).fs.map (Qd 3)++G).length ((D++(Zd l s.top 1 fuel).fs.map (Qd 3)++G).flatMap dmc)∧V.ownsRow B 123 3 (.slice pe (Zd l s.top 1 fuel).es.length ce) (Zd l s.top 1 fuel).es.length ((Zd l s.top 1 fuel).es.flatMap Hp)∧Maps3 B ra rb rc kd (Um ((Zd l s.top 1 fuel).es.take i)) kv V∧ImgR Bi b pi ni ci l V∧Vj (Ji l s.data fuel) kv V∧i≤(Zd l s.top 1 fuel).es.length∧kv.map Prod.fst=(Ys ((Zd l s.top 1 fuel).es.take i))∧G++Uy l s.data fuel ((Zd l s.top 1 fuel).es.drop i) (Ys ((Zd l s.top 1 fuel).es.take i))=Uy l s.data fuel (Zd l s.top 1 fuel).es []) ⟨0,_,_,[],[],rfl,rfl,w5,hO,q4,i6,q7,l3,hM,l5,Vj.nil _,Nat.zero_le _,rfl,rfl⟩ ?_
 rintro _ _ z1 ⟨i,p,c,G,kv,rfl,rfl,f8,d8,h1,c0,ho,c1,hM,hI,hR,hi,d7,a6⟩ y5 i0 y7
 have x4:=Yx l s.top 1 fuel hfu
 have y3:=G_len hfu (by omega) a6
 refine xid 6 ((i:Int)<(↑((Zd l s.top 1 fuel).es.length):Int)) (fun v0=>?_) (fun v0=>?_)
 ·refine xx 6 _ ((Zd l s.top 1 fuel).es.length) i 3 (Sts.cell (f:=Hp) (Zi c1) Xt Zg (k:=i) (i:=0) (by omega) rfl).1 ?_
  refine xlv 0 (Sts.rp (k:=i) (Zi c1) Xt Zg (by omega) (by decide)) ?_
  refine xa 0 [V0 0,.string ⟨#[]⟩,V0 0] 123 fun ad ac a3=>?_
  have l1:=a3.ge0 f8
  have b8:=Zz c1 a3
  refine xsv 0 a3.blk [V0 (((Zd l s.top 1 fuel).es.getD i Zg).1),.string ⟨(((Zd l s.top 1 fuel).es.getD i Zg).2.1).toArray⟩,V0 (((Zd l s.top 1 fuel).es.getD i Zg).2.2)] fun z4 b5 w9=>?_
  refine xb 5 1 w9 ?_
  refine xr 0 (args:=#[.string ⟨(((Zd l s.top 1 fuel).es.getD i Zg).2.1).toArray⟩]) (Qu ((Zd l s.top 1 fuel).es.getD i Zg).2.1 _ (Xz _ _ _ _ i (by omega))) fun b0 a2=>?_
  refine xd 9 (.t B [114,100]) ?_
  have j0:=(w9.below a2).below (Za b0)
  refine xbt (.e [0,1,2,3] 4) 2 B [114,100] j0 ?_
  have i2:=Zb (Zb (b5.own2 (Zb ho a3.below) a3.blk (by decide)) a2) (Za b0)
  have m6:=(((hM.below a3.below).updBlk b5 a3.blk).below a2).below (Za b0)
  have d5:=((b5.blkT (h1.below a3.below) a3.blk (by decide)).below a2).below (Za b0)
  have d9:=blB (blB (b5.below (blB f8 hBw a3.below) (Nat.le_trans hBw l1)) hBw a2) hBw (Za b0)
  refine yc (.o [5] 6) (args:=#[P0 bx,V0 3,V0 (((Zd l s.top 1 fuel).es.getD i Zg).2.2),V0 (Xk ((Zd l s.top 1 fuel).es.getD i Zg).2.1)]) (.t B [114,100]) (Ke B bx _ _ (D++(Zd l s.top 1 fuel).fs.map (Qd 3)++G) ra rb rc _ _ _ _ _ _ _ _ _ _ _ _ _ _ _ _ _ _ _ 3 (((Zd l s.top 1 fuel).es.getD i Zg).2.2) (Xk ((Zd l s.top 1 fuel).es.getD i Zg).2.1) _ d5 i2 m6 hBb (Nat.le_trans hBw d9.size) (by first|omega|(simp;omega))) ?_
  rintro e b9 v8
  rcases v8 with ⟨b1,rfl,a0⟩|⟨b1,rfl,pa,ca,a0,f3,t1,s1,hM⟩
  ·refine⟨(SF.of_below _ a0),?_⟩
   refine xd 6 (.t B [4]) ?_
   have d2:=(d5.below a0).below (Za b9)
   refine xbt (.e [0,1,2] 3) 15 B [4] d2 ?_
   have n5:=(j0.below a0).below (Za b9)
   refine xbt (.e [4] 5) 0 B [4] n5 ?_
   have e0:=(m6.below a0).below (Za b9)
   have a4:=Vf.obj e0.m2
   refine ymuV (.o [6] 7) (((Zd l s.top 1 fuel).es.getD i Zg).1) (V0 (↑(Zo ((Zd l s.top 1 fuel).es.getD i Zg).2.1):Int)) (.t B [4]) Tryz.underlying109 (Df Tryz.underlying3) e0.m2 (Ed (Vm _ _ _ _).2.2.2.1 (by omega)) fun d1 a8 w7=>⟨Jz a4 a8 e0.g2,?_⟩
   have a7:=Xy d2 a4 a8
   refine xb 7 16 a7 ?_
   by_cases hsm:(↑(Zo ((Zd l s.top 1 fuel).es.getD i Zg).2.1):Int)∈(Ys ((Zd l s.top 1 fuel).es.take i))
   ·have p3:=((((((hR.below a3.below).only (Ze.of_upd (T:=[123]) b5 a3.blk (by decide)) (by decide)).below a2).below (Za b0)).below a0).below (Za b9)).only (Zx (T:=[]) a4 a8) (by decide)
    obtain⟨am,cm,g4,_⟩:=p3.get (d7.symm▸hsm)
    have hM:=e0.put2 a8 w7
    refine xlkS 1 (↑(Zo ((Zd l s.top 1 fuel).es.getD i Zg).2.1):Int) true Tryz.underlying110 (Df Tryz.underlying3) hM.m3 g4 ?_
    refine xwm 18 ((i:Int)+1) (↑(i+1):Int) ?_
    have u5:=Xl (Zb (Zb i2 a0) (Za b9)) a4 a8
    have c2:=a7
    have c3:=u5
    have m1:=a8.below (blB (blB d9 hBw a0) hBw (Za b9)) e0.g2
    have s5:=(((((Ze.upd_new (d8.trans (Ze.of_below a3.below)) b5 l1).trans (Ze.of_below a2)).trans (Ze.of_below (Za b0))).trans (Ze.of_below a0)).trans (Ze.of_below (Za b9))).trans (Zx a4 a8)
    have e5:=Xy (((((b5.blkT (c0.below a3.below) a3.blk (by decide)).below a2).below (Za b0)).below a0).below (Za b9)) a4 a8
    have l9:=Xl (Zb (Zb (Zb (Zb (b5.own3 (Zb c1 a3.below) b8) a2) (Za b0)) a0) (Za b9)) a4 a8
    have n4:=((((((hI.below a3.below).only (Ze.of_upd (T:=[123]) b5 a3.blk (by decide)) (by decide)).below a2).below (Za b0)).below a0).below (Za b9)).only (Zx (T:=[]) a4 a8) (by decide)
    exact ze 2 (i0 _ _ _ ⟨i+1,_,_,_,_,rfl,rfl,m1,s5,c2,e5,c3,l9,(by rw[Kr (by omega) b1];exact hM),n4,p3,by omega,(d7.trans (Tu (by omega) hsm).symm),Zbn (by omega) a6 b1 hsm⟩ (by omega))
   have g4:Qm kv (↑(Zo ((Zd l s.top 1 fuel).es.getD i Zg).2.1):Int)=none:=Uo (d7.symm▸hsm)
   have hM:=e0.put2 a8 w7
   refine xlkN 1 (z:=S0) (↑(Zo ((Zd l s.top 1 fuel).es.getD i Zg).2.1):Int) true Tryz.underlying110 (Df Tryz.underlying3) (fun V=>by kernel_rfl) hM.m3 g4 ?_
   refine xd 14 (.t B [114,100]) ?_
   refine xm2 (.b [0,1,2,4,5,6]) 3 7 ?_ ?_
   ·have d4:=a7.below (Za d1)
    refine xb 0 16 d4 ?_
    have s2:=Zb (Xl (Zb (Zb i2 a0) (Za b9)) a4 a8) (Za d1)
    have v7:=hM.below (Za d1)
    have i5:=(((((((hI.below a3.below).only (Ze.of_upd (T:=[123]) b5 a3.blk (by decide)) (by decide)).below a2).below (Za b0)).below a0).below (Za b9)).only (Zx (T:=[]) a4 a8) (by decide)).below (Za d1)
    have g9:=blB (a8.below (blB (blB d9 hBw a0) hBw (Za b9)) e0.g2) hBw (Za d1)
    refine yc (.o [] 7) (args:=#[P0 bx,V0 (↑(Zo ((Zd l s.top 1 fuel).es.getD i Zg).2.1):Int)]) (.t B [114,100]) (Kt B bx _ _ (D++(Zd l s.top 1 fuel).fs.map (Qd 3)++G) ra rb rc _ _ _ pi ni ci Bi b l s fuel (↑(Zo ((Zd l s.top 1 fuel).es.getD i Zg).2.1):Int) _ d4 s2 v7 i5 hfu (fun W hb=>hg W (Below.trans g9 hb)) hBb (Nat.le_trans hBw g9.size) (by first|omega|(simp;omega))) ?_
    rintro _ ab ⟨po,co,rfl,j5,pv,cv,n0,e9,h4,j4,hM⟩
    refine⟨(Xo n0 e9),?_⟩
    have c5:=Vf.obj hM.m3
    refine ymuV (.o [] 8) (↑(Zo ((Zd l s.top 1 fuel).es.getD i Zg).2.1):Int) (.slice po ((Ji l s.data fuel (↑(Zo ((Zd l s.top 1 fuel).es.getD i Zg).2.1):Int)).length) co) (.t B [114,100]) Tryz.underlying110 (Df Tryz.underlying3) hM.m3 g4 fun aa g5 x3=>⟨Jz c5 g5 hM.g3,?_⟩
    have r7:=(((((((((hR.below a3.below).only (Ze.of_upd (T:=[123]) b5 a3.blk (by decide)) (by decide)).below a2).below (Za b0)).below a0).below (Za b9)).only (Zx (T:=[]) a4 a8) (by decide)).below (Za d1)).only e9 (by decide)).only (Zx (T:=[]) c5 g5) (by decide)
    have k7:=Xl j5 c5 g5
    have j9:=Vj.snoc r7 k7
    refine xwm 4 ((i:Int)+1) (↑(i+1):Int) ?_
    have o9:=Xy h4 c5 g5
    have m9:=Xl j4 c5 g5
    have hM:=hM.put3 g5 x3
    have c2:=o9
    have c3:=m9
    rw[Lf] at c2 c3
    have o6:=g5.below (g9.trans n0) hM.g3
    have s3:=((((((((Ze.upd_new (d8.trans (Ze.of_below a3.below)) b5 l1).trans (Ze.of_below a2)).trans (Ze.of_below (Za b0))).trans (Ze.of_below a0)).trans (Ze.of_below (Za b9))).trans (Zx a4 a8)).trans (Ze.of_below (Za d1))).trans e9).trans (Zx c5 g5)
    have f0:=Xy (((Xy (((((b5.blkT (c0.below a3.below) a3.blk (by decide)).below a2).below (Za b0)).below a0).below (Za b9)) a4 a8).below (Za d1)).only e9 (by decide)) c5 g5
    have j7:=Xl (Zf (Zb (Xl (Zb (Zb (Zb (Zb (b5.own3 (Zb c1 a3.below) b8) a2) (Za b0)) a0) (Za b9)) a4 a8) (Za d1)) e9 (by decide)) c5 g5
    have k6:=(i5.only e9 (by decide)).only (Zx (T:=[]) c5 g5) (by decide)
    exact ze 2 (i0 _ _ _ ⟨i+1,_,_,_,_,rfl,rfl,o6,s3,c2,f0,c3,j7,(by rw[Kr (by omega) b1];exact hM),k6,j9,by omega,by rw[List.map_append,d7,Po (by omega) b1 hsm];rfl,Cs (by omega) a6 b1 hsm⟩ (by omega))
   have q3:=Zb (Xl (Zb (Zb i2 a0) (Za b9)) a4 a8) (Za d1)
   have l8:=hM.below (Za d1)
   have i9:=(((((((hI.below a3.below).only (Ze.of_upd (T:=[123]) b5 a3.blk (by decide)) (by decide)).below a2).below (Za b0)).below a0).below (Za b9)).only (Zx (T:=[]) a4 a8) (by decide)).below (Za d1)
   have g0:=a7.below (Za d1)
   have f9:=blB (a8.below (blB (blB d9 hBw a0) hBw (Za b9)) e0.g2) hBw (Za d1)
   refine yc 0 (args:=#[P0 bx,V0 (↑(Zo ((Zd l s.top 1 fuel).es.getD i Zg).2.1):Int)]) (.t B [114,100]) (Kt B bx _ _ (D++(Zd l s.top 1 fuel).fs.map (Qd 3)++G) ra rb rc _ _ _ pi ni ci Bi b l s fuel (↑(Zo ((Zd l s.top 1 fuel).es.getD i Zg).2.1):Int) _ g0 q3 l8 i9 hfu (fun W hb=>hg W (Below.trans f9 hb)) hBb (Nat.le_trans hBw f9.size) (by first|omega|(simp;omega))) ?_
   rintro _ z3 ⟨po,co,rfl,j5,pv,cv,m0,e8,h4,j4,hM⟩
   refine⟨(Xo m0 e8),?_⟩
   refine xb (.o [] 3) 16 h4 ?_
   have c9:=Vf.obj hM.m3
   refine ymuV (.o [] 8) (↑(Zo ((Zd l s.top 1 fuel).es.getD i Zg).2.1):Int) (.slice po ((Ji l s.data fuel (↑(Zo ((Zd l s.top 1 fuel).es.getD i Zg).2.1):Int)).length) co) (.t B [114,100]) Tryz.underlying110 (Df Tryz.underlying3) hM.m3 g4 fun z8 g8 x9=>⟨Jz c9 g8 hM.g3,?_⟩
   have v9:=(((((((((hR.below a3.below).only (Ze.of_upd (T:=[123]) b5 a3.blk (by decide)) (by decide)).below a2).below (Za b0)).below a0).below (Za b9)).only (Zx (T:=[]) a4 a8) (by decide)).below (Za d1)).only e8 (by decide)).only (Zx (T:=[]) c9 g8) (by decide)
   have o3:=Xl j5 c9 g8
   have j9:=Vj.snoc v9 o3
   refine xwm 4 ((i:Int)+1) (↑(i+1):Int) ?_
   have k4:=Xy h4 c9 g8
   have m7:=Xl j4 c9 g8
   have hM:=hM.put3 g8 x9
   have c2:=k4
   have c3:=m7
   rw[Lf] at c2 c3
   have l6:=g8.below (f9.trans m0) hM.g3
   have w6:=((((((((Ze.upd_new (d8.trans (Ze.of_below a3.below)) b5 l1).trans (Ze.of_below a2)).trans (Ze.of_below (Za b0))).trans (Ze.of_below a0)).trans (Ze.of_below (Za b9))).trans (Zx a4 a8)).trans (Ze.of_below (Za d1))).trans e8).trans (Zx c9 g8)
   have f1:=Xy (((Xy (((((b5.blkT (c0.below a3.below) a3.blk (by decide)).below a2).below (Za b0)).below a0).below (Za b9)) a4 a8).below (Za d1)).only e8 (by decide)) c9 g8
   have j8:=Xl (Zf (Zb (Xl (Zb (Zb (Zb (Zb (b5.own3 (Zb c1 a3.below) b8) a2) (Za b0)) a0) (Za b9)) a4 a8) (Za d1)) e8 (by decide)) c9 g8
   have m4:=(i9.only e8 (by decide)).only (Zx (T:=[]) c9 g8) (by decide)
   exact ze 2 (i0 _ _ _ ⟨i+1,_,_,_,_,rfl,rfl,l6,w6,c2,f1,c3,j8,(by rw[Kr (by omega) b1];exact hM),m4,j9,by omega,by rw[List.map_append,d7,Po (by omega) b1 hsm];rfl,Cs (by omega) a6 b1 hsm⟩ (by omega))
  refine⟨(Xo a0 f3),?_⟩
  refine xwm 8 ((i:Int)+1) (↑(i+1):Int) ?_
  have c2:=t1
  have c3:=s1
  rw[Lf] at c2 c3
  have n8:=d9.trans a0
  have u6:=(((Ze.upd_new (d8.trans (Ze.of_below a3.below)) b5 l1).trans (Ze.of_below a2)).trans (Ze.of_below (Za b0))).trans f3
  have f2:=(((b5.blkT (c0.below a3.below) a3.blk (by decide)).below a2).below (Za b0)).only f3 (by decide)
  have k0:=Zf (Zb (Zb (b5.own3 (Zb c1 a3.below) b8) a2) (Za b0)) f3 (by decide)
  have p9:=((((hI.below a3.below).only (Ze.of_upd (T:=[123]) b5 a3.blk (by decide)) (by decide)).below a2).below (Za b0)).only f3 (by decide)
  have s9:=((((hR.below a3.below).only (Ze.of_upd (T:=[123]) b5 a3.blk (by decide)) (by decide)).below a2).below (Za b0)).only f3 (by decide)
  exact ze 2 (i0 _ _ _ ⟨i+1,_,_,_,_,rfl,rfl,n8,u6,c2,f2,c3,k0,(by rw[Cf (by omega) b1];exact hM),p9,s9,by omega,(d7.trans (Tx (by omega) b1).symm),Zd5 (by omega) a6 b1⟩ (by omega))
 refine xe 4 (.tuple #[]) ?_
 obtain rfl:i=(Zd l s.top 1 fuel).es.length:=by omega
 have r1:=h1
 have w2:=ho
 have q9:=hM
 rw[List.drop_eq_nil_of_le (Nat.le_refl _)] at a6
 rw[List.take_of_length_le (Nat.le_refl _)] at q9 d7
 obtain rfl:G=Uy l s.data fuel (Zd l s.top 1 fuel).es []:=by rw[←a6];exact(List.append_nil _).symm
 exact⟨_,_,rfl,⟨_,_,f8,d8,r1,w2,q9⟩,hR,d7⟩
end Go.Proofs.YtegcamkgeacjfaaGreatDoor
namespace Go.Proofs.YtegcamkgeacjfaaGreatDoor
set_option maxHeartbeats 8000000
set_option maxRecDepth 100000
open Go.Shelf
set_option linter.unusedVariables false
def Lr:Go.Shelf.Ren:=⟨fun|189=>206|125=>262|257=>261|128=>292|129=>293|294=>283|295=>284|296=>285|297=>286|298=>287|299=>288|216=>289|300=>290|301=>291|328=>308|329=>309|330=>310|331=>311|332=>312|215=>313|343=>317|n=>n,fun|28=>33|3=>3|46=>335|0=>0|51=>385|53=>334|4=>4|183=>403|182=>402|131=>210|5=>5|9=>9|218=>421|222=>275|228=>429|229=>155|n=>n,fun|n=>n⟩
theorem Bt:Go.Proofs.Lays.n189 Tryz.prog Lr:={
 mixed:=by kernel_rfl
 f125:=Tryz.func262.trans (congrArg some (by kernel_rfl))
 f128:=Tryz.func292.trans (congrArg some (by kernel_rfl))
 f129:=Tryz.func293.trans (congrArg some (by kernel_rfl))
 f189:=Tryz.func206.trans (congrArg some (by kernel_rfl))
 f215:=Tryz.func313.trans (congrArg some (by kernel_rfl))
 f216:=Tryz.func289.trans (congrArg some (by kernel_rfl))
 f257:=Tryz.func261.trans (congrArg some (by kernel_rfl))
 f294:=Tryz.func283.trans (congrArg some (by kernel_rfl))
 f295:=Tryz.func284.trans (congrArg some (by kernel_rfl))
 f296:=Tryz.func285.trans (congrArg some (by kernel_rfl))
 f297:=Tryz.func286.trans (congrArg some (by kernel_rfl))
 f298:=Tryz.func287.trans (congrArg some (by kernel_rfl))
 f299:=Tryz.func288.trans (congrArg some (by kernel_rfl))
 f300:=Tryz.func290.trans (congrArg some (by kernel_rfl))
 f301:=Tryz.func291.trans (congrArg some (by kernel_rfl))
 f328:=Tryz.func308.trans (congrArg some (by kernel_rfl))
 f329:=Tryz.func309.trans (congrArg some (by kernel_rfl))
 f330:=Tryz.func310.trans (congrArg some (by kernel_rfl))
 f331:=Tryz.func311.trans (congrArg some (by kernel_rfl))
 f332:=Tryz.func312.trans (congrArg some (by kernel_rfl))
 f343:=Tryz.func317.trans (congrArg some (by kernel_rfl))
 t0:=Tryz.underlying0
 a0:=Tryz.isAgg0
 z0:=Tryz.sizeOf0
 v0:=Tryz.zeroValue0
 t3:=Tryz.underlying3
 a3:=Tryz.isAgg3
 z3:=Tryz.sizeOf3
 v3:=Tryz.zeroValue3
 t4:=Tryz.underlying4
 a4:=Tryz.isAgg4
 z4:=Tryz.sizeOf4
 v4:=Tryz.zeroValue4
 t5:=Tryz.underlying5
 a5:=Tryz.isAgg5
 z5:=Tryz.sizeOf5
 v5:=Tryz.zeroValue5
 t9:=Tryz.underlying9
 a9:=Tryz.isAgg9
 z9:=Tryz.sizeOf9
 v9:=Tryz.zeroValue9
 t28:=Tryz.underlying33
 a28:=Tryz.isAgg33
 z28:=Tryz.sizeOf33
 v28:=Tryz.zeroValue33
 t46:=Tryz.underlying335
 a46:=Tryz.isAgg335
 z46:=Tryz.sizeOf335
 v46:=Tryz.zeroValue335
 t51:=Tryz.underlying385
 a51:=Tryz.isAgg385
 z51:=Tryz.sizeOf385
 v51:=Tryz.zeroValue385
 t53:=Tryz.underlying334
 a53:=Tryz.isAgg334
 z53:=Tryz.sizeOf334
 v53:=Tryz.zeroValue334
 t131:=Tryz.underlying210
 a131:=Tryz.isAgg210
 z131:=Tryz.sizeOf210
 v131:=Tryz.zeroValue210
 t182:=Tryz.underlying402
 a182:=Tryz.isAgg402
 z182:=Tryz.sizeOf402
 v182:=Tryz.zeroValue402
 t183:=Tryz.underlying403
 a183:=Tryz.isAgg403
 z183:=Tryz.sizeOf403
 v183:=Tryz.zeroValue403
 t218:=Tryz.underlying421
 a218:=Tryz.isAgg421
 z218:=Tryz.sizeOf421
 v218:=Tryz.zeroValue421
 t222:=Tryz.underlying275
 a222:=Tryz.isAgg275
 z222:=Tryz.sizeOf275
 v222:=Tryz.zeroValue275
 t228:=Tryz.underlying429
 a228:=Tryz.isAgg429
 z228:=Tryz.sizeOf429
 v228:=Tryz.zeroValue429
 t229:=Tryz.underlying155
 a229:=Tryz.isAgg155
 z229:=Tryz.sizeOf155
 v229:=Tryz.zeroValue155 }
open Go.Sort Go.RowKit in
theorem Gl(blk off cap:Nat)(zs:List Int)(w:World)(hH:Holds V0 w blk off zs.toArray)(hblk:blk<w.heap.size)(hsz:zs.length<4611686018427387904) :
 C0 206 #[.slice (some ⟨blk,off,none⟩) zs.length cap] w fun e w' =>
  e=.returned (.tuple #[])∧∃ n os,w'=grow (putRow V0 (Sort.ahead w n) blk off (zs.mergeSort fun x y=>decide (x≤y)).toArray) os:=Any.slices_Sort_int Bt blk off cap zs w hH hblk hsz
open Go.RowKit Go.Sort in
theorem Jd(p:O0)(cap:Nat)(w:World) :
 C0 206 #[.slice p 0 cap] w fun e w'=>e=.returned (.tuple #[])∧w'=w:=Any.slices_Sort_int_none Bt p cap w
def Hd:Go.Shelf.Ren:=⟨fun|43=>207|n=>n,fun|22=>33|23=>3|3=>3|4=>4|0=>0|n=>n,fun|n=>n⟩
theorem Kn:Go.Proofs.SlLaysN.n43 Tryz.prog Hd:={
 mixed:=by kernel_rfl
 f43:=⟨Tryz.f207.name,by decide,Tryz.func207.trans (congrArg some (by kernel_rfl))⟩
 t0:=Tryz.underlying0
 a0:=Tryz.isAgg0
 z0:=Tryz.sizeOf0
 v0:=Tryz.zeroValue0
 t3:=Tryz.underlying3
 a3:=Tryz.isAgg3
 z3:=Tryz.sizeOf3
 v3:=Tryz.zeroValue3
 t4:=Tryz.underlying4
 a4:=Tryz.isAgg4
 z4:=Tryz.sizeOf4
 v4:=Tryz.zeroValue4
 t22:=Tryz.underlying33
 a22:=Tryz.isAgg33
 z22:=Tryz.sizeOf33
 v22:=Tryz.zeroValue33
 t23:=Tryz.underlying3
 a23:=Tryz.isAgg3
 z23:=Tryz.sizeOf3
 v23:=Tryz.zeroValue3
 i23:=by kernel_rfl }
open Go.RowKit Go.Lib Go.Sort in
theorem Jr(blk off cap:Nat)(zs:List Int)(w:World)(hH:Holds V0 w blk off zs.toArray)(hsz:zs.length≤9223372036854775807)(hcap:zs.length≤cap) :
 C0 207 #[.slice (some ⟨blk,off,none⟩) zs.length cap] w fun e w'=>e=.returned (.slice (some ⟨blk,off,none⟩) (Lib.compact zs).length cap)∧∃ q,w'=putRow V0 (Sort.ahead w q) blk off (Lib.compact zs++List.replicate (zs.length-(Lib.compact zs).length) 0).toArray:=AnyG.slices_Compact_int Kn blk off cap zs w hH hsz hcap
open Go.RowKit Go.Lib Go.Sort in
theorem Vx(a:O0)(cap:Nat)(w:World) :
 C0 207 #[.slice a 0 cap] w fun e w'=>e=.returned (.slice a 0 cap)∧w'=w:=AnyG.slices_Compact_int_empty Kn a cap w
end Go.Proofs.YtegcamkgeacjfaaGreatDoor
namespace Go.Proofs.YtegcamkgeacjfaaGreatDoor
set_option maxHeartbeats 8000000
set_option maxRecDepth 100000
open Go.RowKit Go.Extern.Stop Go.Stop Go.Extern
set_option linter.unusedVariables false
attribute [local irreducible] wpList wpAnyH Code.wp Oper.wp Go
open Go.Sort in
theorem sort_row{base:Nat}{p:O0}{c:Nat}{L:List Int}(w:World)(hB:base≤w.heap.size)(hl:L.length≤1000000)(ho:w.ownsRow base 3 1 (.slice p L.length c) L.length (L.map V0)):C0 206 #[.slice p L.length c] w (fun e w'=>∃ (u:Value) (L2:List Int),e=.returned u∧L2.length=L.length∧L2.Perm L∧L2.Pairwise (·≤·)∧Below base w w'∧w.grownBy w' (Value.slice p L.length c).ownBlock∧w'.ownsRow base 3 1 (.slice p L.length c) L.length (L2.map V0)):=by
  rcases ho.2 with ⟨h1,h2⟩|⟨g,a6,a7,hv,hb,hh,a3,a4,a2,a1⟩
  · have hL:L=[]:=List.eq_nil_of_length_eq_zero h2
    subst hL
    refine(Jd p c w).mono ?_
    rintro e W ⟨rfl,rfl⟩
    exact⟨_,[],rfl,rfl,List.Perm.refl _,.nil,Below.refl _ _,⟨rfl,rfl,rfl,Nat.le_refl _,fun _ _ _=>rfl⟩,ho⟩
  · simp only[Value.slice.injEq] at hv
    obtain⟨rfl,_,rfl⟩:=hv
    have hH:=holds_of_blockI hh (by simpa using a1)
    have a5:=(Array.getElem?_eq_some_iff.1 hh).1
    refine(Gl g 0 _ L w hH a5 (by omega)).mono ?_
    rintro e W ⟨rfl,n,os,rfl⟩
    have a0:(L.mergeSort fun x y=>decide (x≤y)).length=L.length:=List.length_mergeSort _
    have hg:=grownBy_sortedI (w:=w) (g:=g) (n:=n) (os:=os) (L.mergeSort fun x y=>decide (x≤y)).toArray
    refine⟨_,L.mergeSort fun x y=>decide (x≤y),rfl,a0,List.mergeSort_perm _ _,?_,(Below.refl base w).grown hg hB (fun k e=>by cases e;exact hb),hg,ownsRow_sortedI a0 hb hh a3 a4 a2⟩
    have:=List.pairwise_mergeSort (le:=fun x y:Int=>decide (x≤y)) (fun a b c h1 h2=>by simp at h1 h2 ⊢;omega) (fun a b=>by simp;omega) L
    exact this.imp fun h=>of_decide_eq_true h
theorem Hq(zs:List Int)(hs:zs.Pairwise (·≤·)):∀ m,m≤zs.length→(Lib.compactUpTo zs.toArray m).Pairwise (·<·)∧(∀ z,z∈Lib.compactUpTo zs.toArray m↔z∈zs.take m)
  | 0,_=>⟨by simp[Lib.compactUpTo],fun z=>by simp[Lib.compactUpTo]⟩
  | m+1,h=>by
    obtain⟨h1,h2⟩:=Hq zs hs m (by omega)
    have hm:zs.toArray[m]! = zs[m]'(by omega):=by simp[show m<zs.length by omega]
    rw[Lib.compactUpTo_succ,List.take_succ_eq_append_getElem (show m<zs.length by omega),hm]
    have a2:zs.toArray[m-1]! = zs[m-1]'(by omega):=by simp[show m-1<zs.length by omega]
    have a6:∀ z∈zs.take m,z≤zs[m]'(by omega):=fun z hz=>by
      obtain⟨j,hj,rfl⟩:=List.mem_take_iff_getElem.1 hz
      exact List.pairwise_iff_getElem.1 hs j m (by omega) (by omega) (by omega)
    by_cases hk:Lib.keeps zs.toArray m=true
    · rw[if_pos hk]
      refine⟨List.pairwise_append.2 ⟨h1,by simp,fun a ha b hb=>?_⟩,fun z=>by rw[List.mem_append,List.mem_append,h2]⟩
      obtain rfl:=List.mem_singleton.1 hb
      have a3:=(h2 a).1 ha
      obtain⟨j,hj,rfl⟩:=List.mem_take_iff_getElem.1 a3
      have a4:0<m:=by omega
      have a0:zs[m-1]'(by omega)≠zs[m]'(by omega):=by
        have a1:=(of_decide_eq_true hk).resolve_left (by omega)
        rw[hm,a2] at a1
        exact fun e=>a1 e.symm
      have a5:zs[j]'(by omega)≤zs[m-1]'(by omega):=by
        by_cases e:j=m-1
        · subst e;exact Int.le_refl _
        · exact List.pairwise_iff_getElem.1 hs j (m-1) (by omega) (by omega) (by omega)
      have:=List.pairwise_iff_getElem.1 hs (m-1) m (by omega) (by omega) (by omega)
      omega
    · rw[if_neg hk,List.append_nil]
      refine⟨h1,fun z=>?_⟩
      rw[h2,List.mem_append,List.mem_singleton]
      constructor
      · exact .inl
      · rintro(h|rfl)
        · exact h
        · have a1:=fun q=>hk (decide_eq_true q)
          have a4:m≠0:=fun e=>a1 (.inl e)
          have a0:zs[m-1]'(by omega)=zs[m]'(by omega):=by
            by_cases e:zs[m-1]'(by omega)=zs[m]'(by omega)
            · exact e
            · exact absurd (.inr (by rw[hm,a2];exact fun q=>e q.symm)) a1
          rw[←a0]
          exact List.mem_take_iff_getElem.2 ⟨m-1,by omega,rfl⟩
open Go.Sort in
theorem Sk{base:Nat}{p:O0}{c:Nat}{L:List Int}(w:World)(hB:base≤w.heap.size)(hl:L.length≤1000000)(hs:L.Pairwise (·≤·))(ho:w.ownsRow base 3 1 (.slice p L.length c) L.length (L.map V0)):C0 207 #[.slice p L.length c] w (fun e w'=>∃ (q:O0) (d:Nat) (L2:List Int),e=.returned (.slice q L2.length d)∧L2.Pairwise (·<·)∧(∀ z,z∈L2↔z∈L)∧Below base w w'∧w.grownBy w' (Value.slice p L.length c).ownBlock∧w'.ownsRow base 3 1 (.slice q L2.length d) L2.length (L2.map V0)):=by
  rcases ho.2 with ⟨h1,h2⟩|⟨g,a7,a9,hv,hb,hh,a2,a5,a4,a3⟩
  · have hL:L=[]:=List.eq_nil_of_length_eq_zero h2
    subst hL
    refine(Vx p c w).mono ?_
    rintro e W ⟨rfl,rfl⟩
    exact⟨p,c,[],rfl,.nil,fun _=>Iff.rfl,Below.refl _ _,⟨rfl,rfl,rfl,Nat.le_refl _,fun _ _ _=>rfl⟩,ho⟩
  · simp only[Value.slice.injEq] at hv
    obtain⟨rfl,_,rfl⟩:=hv
    have hH:=holds_of_blockI hh (by simpa using a3)
    have a8:=(Array.getElem?_eq_some_iff.1 hh).1
    refine(Jr g 0 _ L w hH (by omega) a2).mono ?_
    rintro e W ⟨rfl,n,rfl⟩
    have a1:=Hq L hs L.length (Nat.le_refl _)
    have a6:(Lib.compact L).length≤L.length:=by unfold Lib.compact Lib.compactUpTo;rw[List.length_map];exact Nat.le_trans (List.length_filter_le _ _) (by simp)
    have a0:(Lib.compact L++List.replicate (L.length-(Lib.compact L).length) 0).length=L.length:=by rw[List.length_append,List.length_replicate];omega
    have hg:=grownBy_sortedI (w:=w) (g:=g) (n:=n) (os:=#[]) (Lib.compact L++List.replicate (L.length-(Lib.compact L).length) 0).toArray
    have hw:=ownsRow_sortedI (os:=#[]) (n:=n) a0 hb hh a2 a5 a4
    rw[grow_empty] at hg hw
    refine⟨_,_,Lib.compact L,rfl,a1.1,fun z=>(a1.2 z).trans (by rw[List.take_length]),(Below.refl base w).grown hg hB (fun k e=>by cases e;exact hb),hg,?_⟩
    have:=Zdk hw a6 rfl
    rw[List.map_append,List.take_append_of_le_length (by simp),List.take_of_length_le (by simp)] at this
    exact this
end Go.Proofs.YtegcamkgeacjfaaGreatDoor
namespace Go.Proofs.YtegcamkgeacjfaaGreatDoor
set_option maxHeartbeats 8000000
set_option maxRecDepth 100000
open Go.RowKit Go.Extern.Stop Go.Stop Go.Extern
set_option linter.unusedVariables false
attribute [local irreducible] wpList wpAnyH Code.wp Oper.wp Go
def IdsP(kd kr:List (Int×Value))(w:World)(e:Ending)(w':World):Prop :=
  ∃ (q:O0) (c:Nat) (L:List Int),e=.returned (.slice q L.length c)∧B0 w w'∧w'.ownsRow w.heap.size 3 1 (.slice q L.length c) L.length (L.map V0)∧L.Pairwise (·<·)∧∀ z,z∈L↔z∈kd.map Prod.fst∨z∈kr.map Prod.fst
theorem Tt{kv:List (Int×Value)}{out:List Int}(h:out.Perm (kv.map Prod.fst)):out.length=kv.length:=by rw[h.length_eq,List.length_map]
theorem Fi{base:Nat}{p:O0}{c n:Nat}{L:List Int}(w:World)(hn:L.length=n)(hB:base≤w.heap.size)(hl:L.length≤1000000)(hs:L.Pairwise (·≤·))(ho:w.ownsRow base 3 1 (.slice p L.length c) L.length (L.map V0)):C0 207 #[.slice p n c] w (fun e w'=>∃ (q:O0) (d:Nat) (L2:List Int),e=.returned (.slice q L2.length d)∧L2.Pairwise (·<·)∧(∀ z,z∈L2↔z∈L)∧Below base w w'∧w.grownBy w' (Value.slice p L.length c).ownBlock∧w'.ownsRow base 3 1 (.slice q L2.length d) L2.length (L2.map V0)):=by
  subst hn;exact Sk w hB hl hs ho
theorem ids_mem{kd kr:List (Int×Value)}{o1 out L2 L3:List Int}(h1:o1.Perm (kd.map Prod.fst))(h2:out.Perm (kr.map Prod.fst))(h3:L2.Perm (o1++out))(h4:∀ z,z∈L3↔z∈L2)(z:Int):z∈L3↔z∈kd.map Prod.fst∨z∈kr.map Prod.fst:=by
 rw[h4,h3.mem_iff,List.mem_append,h1.mem_iff,h2.mem_iff]
theorem Sa(B bx b n c:Nat)(p:O0)(s:Sup)(fuel:Int)(ra rb rc:Nat)(kd kr km:List (Int×Value))(w:World)(hk:Blk w bx [.slice p n c,P0 b,V0 s.tx,V0 s.time,V0 s.unit,V0 s.data,V0 s.blocks,V0 s.top,V0 s.details,V0 s.dslots,V0 s.dover,V0 s.mindex,V0 s.mover,V0 fuel,.map (some ra),.map (some rb),.map (some rc)] 114)(hM:Maps3 B ra rb rc kd kr km w)(hl1:kd.length≤100000)(hl2_:kr.length≤100000) :
 C0 113 #[P0 bx] w (IdsP kd kr w):=by
 refine zin 36 Tryz.func113 ?_
 refine xb 16 14 hk ?_
 refine xrgV 0 Tryz.underlying108 hM.m1 fun f3 W1 n1=>?_
 have g1:=n1.ge (B3 w)
 have d4:=hM.below n1.below
 have c8:=hk.below n1.below
 refine zl 3 36 (fun zm d5 V=>∃ (o1:List Int) (pz:O0) (cz:Nat),d5=[(0,P0 bx),(2,S0),(3,.slice pz o1.length cz),(10,P0 f3)]∧zm=kd.length-o1.length∧B0 w V∧Blk V bx ([.slice p n c,P0 b,V0 s.tx,V0 s.time,V0 s.unit,V0 s.data,V0 s.blocks,V0 s.top,V0 s.details,V0 s.dslots,V0 s.dover,V0 s.mindex,V0 s.mover,V0 fuel,.map (some ra),.map (some rb),.map (some rc)]) 114∧V.ownsRow w.heap.size 3 1 (.slice pz o1.length cz) o1.length (o1.map V0)∧Yz V0 V ra f3 kd o1∧Maps3 B ra rb rc kd kr km V∧o1.length≤kd.length) ⟨[],none,0,rfl,rfl,n1.below,c8,World.ownsRow_nil _ _ _ _,n1.iter,d4,Nat.zero_le _⟩ ?_
 rintro _ _ W2 ⟨o1,pz,cz,rfl,rfl,b1,a1,ho,d8,hM,h1⟩ J2 h7 r2
 have i9:=Yz.obj d8
 refine xnxV 2 (un:=unI) (fun _=>rfl) d8 (fun f0=>?_) (fun k3 v3 X3 W3 f7 h0 c4 u3 i3 e3 f5=>?_)
 ·refine xb 16 15 a1 ?_
  refine xrgV 0 Tryz.underlying109 hM.m2 fun f1 W4 n4=>?_
  have g4:=n4.ge b1
  have d2:=Zb ho n4.below
  refine xv1 3 3 (show(.slice pz o1.length cz:Value)=.slice pz ((o1++([]:List Int)).length) cz from(by rw[List.append_nil])) ?_
  have e0:=hM.below n4.below
  have e2:=bln b1 n4.below
  have a4:=a1.below n4.below
  refine zl 0 36 (fun zm d5 V=>∃ (a0:List Int) (pz:O0) (cz:Nat),d5=[(2,S0),(3,.slice pz ((o1++a0).length) cz),(23,P0 f1)]∧zm=kr.length-a0.length∧B0 w V∧Blk V bx ([.slice p n c,P0 b,V0 s.tx,V0 s.time,V0 s.unit,V0 s.data,V0 s.blocks,V0 s.top,V0 s.details,V0 s.dslots,V0 s.dover,V0 s.mindex,V0 s.mover,V0 fuel,.map (some ra),.map (some rb),.map (some rc)]) 114∧V.ownsRow w.heap.size 3 1 (.slice pz (o1++a0).length cz) (o1++a0).length ((o1++a0).map V0)∧Yz V0 V rb f1 kr a0∧Maps3 B ra rb rc kd kr km V∧a0.length≤kr.length) ⟨[],_,_,rfl,rfl,e2,a4,(by rw[List.append_nil];exact d2),n4.iter,e0,Nat.zero_le _⟩ ?_
  rintro _ _ W5 ⟨a0,pz,cz,rfl,rfl,b0,c3,ho,a2,hM,g8⟩ J5 g0 r5
  have i5:=Yz.obj a2
  refine xnxV 2 (un:=unI) (fun _=>rfl) a2 (fun f4=>?_) (fun k6 v6 X6 W6 h8 g6 c5 u6 i6 e6 f2=>?_)
  ·have g5:=Tt f0
   have h2:=Tt f4
   have g3:=b0.size
   refine xc 13 (args:=#[.slice pz ((o1++a0).length) cz]) (sort_row (L:=o1++a0) _ g3 (by rw[List.length_append];omega) ho) ?_
   rintro _ W7 ⟨u9,L2,rfl,e1,c6,c7,g2,i8,g7⟩
   have c0:=b0.trans g2
   have f8:=c0.size
   have e9:=g7
   rw[←e1] at e9
   refine xc 5 (args:=#[.slice pz ((o1++a0).length) cz]) (Fi (L:=L2) _ e1 f8 (by rw[e1,List.length_append];omega) c7 e9) ?_
   rintro _ W8 ⟨q9,d9,L3,rfl,d3,e5,h5,j0,h9⟩
   have d6:=c0.trans h5
   exact xe 4 (.slice q9 L3.length d9) ⟨_,_,L3,rfl,d6,h9,d3,ids_mem f0 f4 c6 e5⟩
  refine xenV 10 e6 ?_
  refine xbs 7 1 [V0 k6] 3 fun b9 W9 n9=>?_
  have b5:=u6.below (bln b0 c5) g4
  have g9:=n9.ge b5
  have c1:=Xl (Zb ho c5) f2 u6
  have f6:=Zz c1 n9
  have a5:=Zb c1 n9.below
  have b8:=bln b5 n9.below
  refine xbi 0 fun _ _ _ _ zJ zQ zo zx zy zK=>Xq (m:=1) (news:=[V0 k6]) (V0 0) 1 8 (((o1++a0)++[k6]).length) ((((o1++a0)++[k6]).map V0)) zo Tryz.underlying33 (by kernel_rfl) rfl (by decide) zx a5 zy (n9.blk.sl 1 1 (by decide) (by decide)) rfl (by simp[Value.oneCell']) (by unfold maxLen;simp only[List.length_append];omega) (by simp only[List.length_append];omega) b8.size ((List.length_append (bs:=[_])).symm) (by simp) fun b7 b4 i2 h3 a9 e4=>?_
  refine zK _ _ ?_
  refine xv1 3 3 (show(.slice b7 (((o1++a0)++[k6]).length) b4:Value)=.slice b7 ((o1++(a0++[k6])).length) b4 from(by rw[List.append_assoc])) ?_
  have c9:=(i6.below n9.below).grown a9 a5
  have d1:=b8.trans e4
  have a3:=((Xy (c3.below c5) f2 u6).below n9.below).grown a9 a5 (by decide)
  have hM:=((hM.iter a2 c5 u6).below n9.below).grown a9 a5
  refine ze 0 (g0 _ _ _ ⟨a0++[k6],_,_,rfl,rfl,d1,a3,(by rw[←List.append_assoc];exact h3),c9,hM,by simp only[List.length_append,List.length_singleton];omega⟩ ?_)
  simp only[List.length_append,List.length_singleton]
  omega
 refine xenV 10 e3 ?_
 refine xbs 7 1 [V0 k3] 3 fun i1 i0 a8=>?_
 have c2:=u3.below (bln b1 c4) g1
 have i7:=a8.ge c2
 have b6:=Xl (Zb ho c4) f5 u3
 have d0:=Zz b6 a8
 have a6:=Zb b6 a8.below
 have b3:=bln c2 a8.below
 refine xbi 0 fun _ _ _ _ zJ zQ zo zx zy zK=>Xq (m:=1) (news:=[V0 k3]) (V0 0) 1 8 ((o1++[k3]).length) (((o1++[k3]).map V0)) zo Tryz.underlying33 (by kernel_rfl) rfl (by decide) zx a6 zy (a8.blk.sl 1 1 (by decide) (by decide)) rfl (by simp[Value.oneCell']) (by unfold maxLen;omega) (by omega) b3.size ((List.length_append (bs:=[_])).symm) (by simp) fun h4 f9 i4 h6 b2 d7=>?_
 refine zK _ _ ?_
 have e7:=(i3.below a8.below).grown b2 a6
 have e8:=b3.trans d7
 have a7:=((Xy (a1.below c4) f5 u3).below a8.below).grown b2 a6 (by decide)
 have hM:=((hM.iter d8 c4 u3).below a8.below).grown b2 a6
 refine ze 3 (h7 _ _ _ ⟨o1++[k3],_,_,rfl,rfl,e8,a7,h6,e7,hM,by simp only[List.length_append,List.length_singleton];omega⟩ ?_)
 simp only[List.length_append,List.length_singleton]
 omega
theorem Vg(no er:Int)(w:World)(he:er≠0) :
 C0 60 #[V0 no,V0 er] w ((fun e w'=>∃ ty x,e=.returned (.iface ty x)∧B0 w w'∧Yu w' (([no]:List Int).map some) (some er) (.iface ty x))):=by
 refine zin 11 Tryz.func60 ?_
 refine xk 12 (show((er==(0:Int)):Bool)=false from beq_false_of_ne he) ?_
 refine xc 7 (args:=#[V0 no,.iface 63 (V0 er)]) (Fx no er [] _ _ rfl) ?_
 rintro _ W1 ⟨a1,v1,rfl,a0,a2⟩
 exact xe 4 (.iface a1 (v1)) ⟨_,_,rfl,a0,a2⟩
def MapP(data:Int)(x:Ent)(w:World)(e:Ending)(w':World):Prop :=
 (Qn data x.2.1≠0∧∃ ty v,e=.returned (.tuple #[.agg #[V0 0,V0 0,V0 0],.iface ty v])∧B0 w w'∧Yu w' (([x.2.2]:List Int).map some) (some (Qn data x.2.1)) (.iface ty v)) ∨
 (Qn data x.2.1=0∧e=.returned (.tuple #[.agg #[V0 x.1,V0 (Ug x.2.1:Int),V0 (Lc x.2.1:Int)],.nilIface])∧B0 w w')
theorem Ps{data:Int}{v:Bl}(h:Xc Vy v≠0):Qn data v=Xc Vy v:=if_pos h
theorem Cl{data:Int}{v:Bl}(h:Xc Vy v=0)(h2:data≤(Ug v:Int)):Qn data v=2:=by unfold Qn;rw[if_neg (fun q=>q h),if_pos h2]
theorem Zd9{data:Int}{v:Bl}(h:Xc Vy v=0)(h2:¬ data≤(Ug v:Int)):Qn data v=0:=by unfold Qn;rw[if_neg (fun q=>q h),if_neg h2]
theorem We(bx b:Nat)(data fuel sum:Int)(x:Ent)(w:World)(hk:Blk w bx [P0 b,V0 data,V0 fuel,V0 sum] 140)(hs:x.2.1.length≤1000) :
 C0 214 #[P0 bx,.agg #[V0 x.1,.string ⟨x.2.1.toArray⟩,V0 x.2.2]] w (MapP data x w):=by
 refine zin 38 Tryz.func214 ?_
 refine xa 2 [V0 x.1,.string ⟨x.2.1.toArray⟩,V0 x.2.2] 123 fun b1 W1 n1=>?_
 refine xa 0 [V0 0,V0 0,V0 0] 164 fun b2 W2 n2=>?_
 have k1:=n1.blk.below n2.below
 refine xb 6 1 k1 ?_
 refine xr 0 (args:=#[.string ⟨x.2.1.toArray⟩]) (Ja x.2.1 _ hs) fun W3 a0=>?_
 refine xg 15 [17,18] ((Xc Vy x.2.1)==(0:Int)) (fun a4=>?_) (fun a4=>?_)
 ·have a4:=eq_of_beq a4
  have a7:=((hk.below n1.below).below n2.below).below a0
  refine xb 4 1 a7 ?_
  refine xid 4 ((↑(Ug x.2.1):Int)≥data) (fun c4=>?_) (fun c4=>?_)
  ·have b0:=k1.below a0
   refine xb 16 2 b0 ?_
   refine xc 1 (args:=#[V0 x.2.2,V0 2]) (Vg x.2.2 2 _ (by omega)) ?_
   rintro _ W6 ⟨c7,v6,rfl,b9,a5⟩
   have k2:=(n2.blk.below a0).below b9
   refine xsv 0 k2 [V0 0,V0 0,V0 0] fun W7 u7 k7=>?_
   have g2:=n2.ge n1.below
   have hB:=u7.below (bln (bln (bln n1.below n2.below) a0) b9) g2
   have a2:=a5.only (Ze.of_upd (T:=[164]) u7 k2 (by decide)) (by decide)
   refine xec 5 k7 (.tuple #[.agg #[V0 0,V0 0,V0 0],.iface c7 (v6)]) ?_
   first|(have e9:=Cl (data:=data) (v:=x.2.1) (by omega) (by omega);exact .inl ⟨by rw[e9];decide,_,_,rfl,hB,by rw[e9];exact a2⟩)|(have e9:=Ps (data:=data) (v:=x.2.1) (by omega);exact .inl ⟨by rw[e9];omega,_,_,rfl,hB,by rw[e9];exact a2⟩)
  refine xin 9 (Xc Vy x.2.1) (0:Int) (fun c2=>?_) (fun c2=>?_)
  ·have b3:=k1.below a0
   refine xb 4 2 b3 ?_
   refine xc 1 (args:=#[V0 x.2.2,V0 (Xc Vy x.2.1)]) (Vg x.2.2 (Xc Vy x.2.1) _ (by omega)) ?_
   rintro _ W9 ⟨c6,v9,rfl,c0,a5⟩
   have k2:=(n2.blk.below a0).below c0
   refine xsv 0 k2 [V0 0,V0 0,V0 0] fun d4 b7 c5=>?_
   have g2:=n2.ge n1.below
   have hB:=b7.below (bln (bln (bln n1.below n2.below) a0) c0) g2
   have a3:=a5.only (Ze.of_upd (T:=[164]) b7 k2 (by decide)) (by decide)
   refine xec 5 c5 (.tuple #[.agg #[V0 0,V0 0,V0 0],.iface c6 (v9)]) ?_
   first|(have e9:=Cl (data:=data) (v:=x.2.1) (by omega) (by omega);exact .inl ⟨by rw[e9];decide,_,_,rfl,hB,by rw[e9];exact a3⟩)|(have e9:=Ps (data:=data) (v:=x.2.1) (by omega);exact .inl ⟨by rw[e9];omega,_,_,rfl,hB,by rw[e9];exact a3⟩)
  have a9:=k1.below a0
  refine xb 5 0 a9 ?_
  have k2:=n2.blk.below a0
  refine xsv 3 k2 [V0 x.1,V0 (↑(Ug x.2.1):Int),V0 (↑(Lc x.2.1):Int)] fun d5 c9 c3=>?_
  have g2:=n2.ge n1.below
  have hB:=c9.below (bln (bln n1.below n2.below) a0) g2
  exact xec 4 c3 (.tuple #[.agg #[V0 x.1,V0 (↑(Ug x.2.1):Int),V0 (↑(Lc x.2.1):Int)],.nilIface]) (.inr ⟨Zd9 (by omega) (by omega),rfl,hB⟩)
 have a4:=Xm a4
 refine xin 19 (Xc Vy x.2.1) (0:Int) (fun a8=>?_) (fun a8=>?_)
 ·have b4:=k1.below a0
  refine xb 4 2 b4 ?_
  refine xc 1 (args:=#[V0 x.2.2,V0 (Xc Vy x.2.1)]) (Vg x.2.2 (Xc Vy x.2.1) _ (by omega)) ?_
  rintro _ d2 ⟨b6,d1,rfl,a6,a5⟩
  have k2:=(n2.blk.below a0).below a6
  refine xsv 0 k2 [V0 0,V0 0,V0 0] fun d6 b8 c8=>?_
  have g2:=n2.ge n1.below
  have hB:=b8.below (bln (bln (bln n1.below n2.below) a0) a6) g2
  have a1:=a5.only (Ze.of_upd (T:=[164]) b8 k2 (by decide)) (by decide)
  refine xec 5 c8 (.tuple #[.agg #[V0 0,V0 0,V0 0],.iface b6 (d1)]) ?_
  first|(have e9:=Cl (data:=data) (v:=x.2.1) (by omega) (by omega);exact .inl ⟨by rw[e9];decide,_,_,rfl,hB,by rw[e9];exact a1⟩)|(have e9:=Ps (data:=data) (v:=x.2.1) (by omega);exact .inl ⟨by rw[e9];omega,_,_,rfl,hB,by rw[e9];exact a1⟩)
 have b5:=k1.below a0
 refine xb 5 0 b5 ?_
 have k2:=n2.blk.below a0
 refine xsv 3 k2 [V0 x.1,V0 (↑(Ug x.2.1):Int),V0 (↑(Lc x.2.1):Int)] fun d3 d0 c1=>?_
 have g2:=n2.ge n1.below
 have hB:=d0.below (bln (bln n1.below n2.below) a0) g2
 exact xec 4 c1 (.tuple #[.agg #[V0 x.1,V0 (↑(Ug x.2.1):Int),V0 (↑(Lc x.2.1):Int)],.nilIface]) (.inr ⟨Zd9 (by omega) (by omega),rfl,hB⟩)
def TellP(O:List Int×Int×List Mp)(w:World)(e:Ending)(w':World):Prop :=
 (O.2.1≠0∧∃ ty v,e=.returned (.tuple #[S0,.iface ty v])∧B0 w w'∧Yu w' (O.1.map some) (some O.2.1) (.iface ty v)) ∨
 (O.2.1=0∧∃ p c,e=.returned (.tuple #[.slice p O.2.2.length c,.nilIface])∧B0 w w'∧w'.ownsRow w.heap.size 164 3 (.slice p O.2.2.length c) O.2.2.length (O.2.2.flatMap Kh))
theorem Pj{O:List Int×Int×List Mp}{bl:List Int}{er:Int}{w W:World}{ty:TypeId}{v:Value}(h:O=(bl,er,[]))(her:er≠0)(hb:B0 w W)(hv:Yu W (bl.map some) (some er) (.iface ty v)):TellP O w (.returned (.tuple #[S0,.iface ty v])) W:=by
 subst h;exact .inl ⟨her,ty,v,rfl,hb,hv⟩
theorem Zb6{O:List Int×Int×List Mp}{L:List Mp}{n:Nat}{w W:World}{p:O0}{c:Nat}(h:O=([],0,L))(hn:L.length=n)(hb:B0 w W)(ho:W.ownsRow w.heap.size 164 3 (.slice p n c) n (L.flatMap Kh)):TellP O w (.returned (.tuple #[.slice p n c,.nilIface])) W:=by
 subst h hn;exact .inr ⟨rfl,p,c,rfl,hb,ho⟩
theorem Rj{es:List Ent}{i:Nat}(hi:i<es.length):((es.take (i+1)).map Zaw).flatMap Kh=((es.take i).map Zaw).flatMap Kh++Kh (Zaw (es.getD i Zg)):=by
 rw[List.take_succ_eq_append_getElem hi,List.map_append,List.flatMap_append,show es.getD i Zg=es[i] from by simp[List.getD,hi]]
 simp only[List.map_cons,List.map_nil,List.flatMap_cons,List.flatMap_nil,List.append_nil]
theorem Zdp(Bi bx b:Nat)(pi:O0)(ni ci:Nat)(l:Bl)(data fuel sum root:Int)(w:World)(hI:ImgR Bi b pi ni ci l w)(hk:Blk w bx [P0 b,V0 data,V0 fuel,V0 sum] 140)(hfu:fuel≤1000) :
 C0 129 #[P0 bx,V0 root] w (TellP (Zdu l root data fuel) w):=by
 have m0:=(Qz l root 2 fuel hfu).1
 refine zin 51 Tryz.func129 ?_
 refine xd 7 (.t w.heap.size [130]) ?_
 have b9:=hk.below (Za w)
 refine xbt (.e [0,1,2] 3) 0 w.heap.size [130] b9 ?_
 refine xbt (.e [4,5,6,7] 8) 2 w.heap.size [130] b9 ?_
 refine xm2 0 9 13 ?_ ?_
 ·have hB:=(Za w)
  refine yc 0 (args:=#[P0 b,V0 root,V0 2,V0 fuel]) (.t w.heap.size [130]) (Kx Bi b pi ni ci l root 2 fuel _ hfu (hI.below hB)) ?_
  rintro e W1 l3
  rcases l3 with ⟨a9,pe,ce,pb,cb,pf,cf,j6,vw,rfl,e2,d2⟩|⟨a9,pe,ce,pb,nb,cb,dp,lk,pf,cf,rfl,e2,a7⟩
  ·refine⟨(SF.of_below _ e2),?_⟩
   refine xa (.o [10,11,12] 13) [S0,S0,V0 0,V0 0,S0] 130 fun b2 W2 n2=>?_
   have g3:=bln hB e2
   have g2:=n2.ge g3
   refine ysv (.o [] 14) n2.blk [.slice pe 0 ce,.slice pb 0 cb,V0 0,V0 0,.slice pf 0 cf] (.t w.heap.size [130]) fun W3 u3 k3=>⟨(Zt u3 n2.blk g2 (by decide)),?_⟩
   have f3:=(d2.below n2.below).only (Ze.of_upd (T:=[130]) u3 n2.blk (by decide)) (by decide)
   have j4:=u3.below (bln g3 n2.below) g2
   exact xe (.r [15] 19) (.tuple #[S0,.iface j6 (vw)]) (Pj (Md a9) (Vu a9) j4 f3)
  have m4:=(Za w).size
  refine⟨(SF.of_below _ e2),?_⟩
  refine xa (.o [10,11,12] 13) [S0,S0,V0 0,V0 0,S0] 130 fun b4 W4 n4=>?_
  have f6:=bln hB e2
  have g4:=n4.ge f6
  refine ysv (.o [] 14) n4.blk [.slice pe ((Zd l root 2 fuel).es.length) ce,.slice pb nb cb,V0 dp,V0 lk,.slice pf 0 cf] (.t w.heap.size [130]) fun W5 u5 k5=>⟨(Zt u5 n4.blk g4 (by decide)),?_⟩
  refine xb (.r [15] 21) 0 k5 ?_
  have f1:=u5.own2 (Zb (Zh a7 m4) n4.below) n4.blk (by decide)
  have i2:=u5.below (bln f6 n4.below) g4
  have i1:=u5.blkT ((b9.below e2).below n4.below) n4.blk (by decide)
  refine zl 5 51 (fun zm j2 V=>∃ (i:Nat) (p:O0) (c:Nat),j2=[(0,P0 bx),(8,.slice p i c),(30,.slice pe ((Zd l root 2 fuel).es.length) ce),(31,V0 (↑((Zd l root 2 fuel).es.length):Int)),(32,V0 (i:Int))]∧zm=(Zd l root 2 fuel).es.length-((i:Int)).toNat∧B0 w V∧Blk V bx ([P0 b,V0 data,V0 fuel,V0 sum]) 140∧Blk V b4 ([.slice pe ((Zd l root 2 fuel).es.length) ce,.slice pb nb cb,V0 dp,V0 lk,.slice pf 0 cf]) 130∧V.ownsRow w.heap.size 123 3 (.slice pe (Zd l root 2 fuel).es.length ce) (Zd l root 2 fuel).es.length ((Zd l root 2 fuel).es.flatMap Hp)∧V.ownsRow w.heap.size 164 3 (.slice p i c) i ((((Zd l root 2 fuel).es.take i).map Zaw).flatMap Kh)∧i≤(Zd l root 2 fuel).es.length∧Dw data (Zd l root 2 fuel).es i) ⟨0,none,0,rfl,rfl,i2,i1,k5,f1,World.ownsRow_nil _ _ _ _,Nat.zero_le _,fun j hj=>absurd hj (by omega)⟩ ?_
  rintro _ _ W6 ⟨i,p,c,rfl,rfl,c3,f7,e5,a7,ho,hi,d5⟩ J6 l9 r6
  refine xid 6 ((i:Int)<(↑((Zd l root 2 fuel).es.length):Int)) (fun l4=>?_) (fun l4=>?_)
  ·refine xx 6 _ ((Zd l root 2 fuel).es.length) i 3 (Sts.cell (f:=Hp) (Zi a7) Xt Zg (k:=i) (i:=0) (by omega) rfl).1 ?_
   refine xlv 0 (Sts.rp (k:=i) (Zi a7) Xt Zg (by omega) (by decide)) ?_
   refine xa 0 [V0 0,.string ⟨#[]⟩,V0 0] 123 fun b8 W8 n8=>?_
   have g8:=n8.ge c3
   have e1:=Zz a7 n8
   refine xsv 0 n8.blk [V0 (((Zd l root 2 fuel).es.getD i Zg).1),.string ⟨(((Zd l root 2 fuel).es.getD i Zg).2.1).toArray⟩,V0 (((Zd l root 2 fuel).es.getD i Zg).2.2)] fun W9 u9 k9=>?_
   refine xlv 5 k9.rp ?_
   have a6:=u9.blkT (f7.below n8.below) n8.blk (by decide)
   refine xc 0 (args:=#[P0 bx,.agg #[V0 (((Zd l root 2 fuel).es.getD i Zg).1),.string ⟨(((Zd l root 2 fuel).es.getD i Zg).2.1).toArray⟩,V0 (((Zd l root 2 fuel).es.getD i Zg).2.2)]]) (We bx b data fuel sum ((Zd l root 2 fuel).es.getD i Zg) _ a6 (Xz _ _ _ _ i (by omega))) ?_
   rintro e o0 j8
   rcases j8 with ⟨b7,i0,vm,rfl,a3,d2⟩|⟨b7,rfl,a3⟩
   ·refine xa 3 [V0 0,V0 0,V0 0] 164 fun n5 n1 e4=>?_
    have f8:=bln (u9.below (bln c3 n8.below) g8) a3
    have m2:=e4.ge f8
    have i8:=Zb (u9.own2 (Zb ho n8.below) n8.blk (by decide)) a3
    have i3:=Zz i8 e4
    refine xsv 0 e4.blk [V0 0,V0 0,V0 0] fun o1 k7 o4=>?_
    have f5:=(d2.below e4.below).only (Ze.of_upd (T:=[164]) k7 e4.blk (by decide)) (by decide)
    have i7:=k7.below (bln f8 e4.below) m2
    exact xe 25 (.tuple #[S0,.iface i0 (vm)]) (Pj ((Hm a9).trans (La (by omega) d5 b7)) b7 i7 f5)
   refine xa 3 [V0 0,V0 0,V0 0] 164 fun n0 m9 b1=>?_
   have g1:=bln (u9.below (bln c3 n8.below) g8) a3
   have l6:=b1.ge g1
   have g0:=Zb (u9.own2 (Zb ho n8.below) n8.blk (by decide)) a3
   have d9:=Zz g0 b1
   refine xsv 0 b1.blk [V0 (((Zd l root 2 fuel).es.getD i Zg).1),V0 (↑(Ug ((Zd l root 2 fuel).es.getD i Zg).2.1):Int),V0 (↑(Lc ((Zd l root 2 fuel).es.getD i Zg).2.1):Int)] fun o3 g6 k2=>?_
   refine xlv 15 k2.rp ?_
   refine xbs 0 1 [V0 (((Zd l root 2 fuel).es.getD i Zg).1),V0 (↑(Ug ((Zd l root 2 fuel).es.getD i Zg).2.1):Int),V0 (↑(Lc ((Zd l root 2 fuel).es.getD i Zg).2.1):Int)] 164 fun o5 p7 c6=>?_
   have h8:=c6.ne k2
   have e6:=g6.below (bln g1 b1.below) l6
   have o6:=c6.ge e6
   have f0:=g6.own3 (Zb g0 b1.below) d9
   have i5:=Zz f0 c6
   have c2:=Zb f0 c6.below
   have h2:=bln e6 c6.below
   refine xbi 0 fun _ _ _ _ zJ zQ zo zx zy zK=>Xq (m:=1) (news:=[V0 (((Zd l root 2 fuel).es.getD i Zg).1),V0 (↑(Ug ((Zd l root 2 fuel).es.getD i Zg).2.1):Int),V0 (↑(Lc ((Zd l root 2 fuel).es.getD i Zg).2.1):Int)]) (.agg #[V0 0,V0 0,V0 0]) 3 24 (i+1) (((((Zd l root 2 fuel).es.take (i+1)).map Zaw).flatMap Kh)) zo Tryz.underlying59 (by kernel_rfl) rfl (by decide) zx c2 zy (c6.blk.sl 1 1 (by decide) (by decide)) rfl (by simp[Value.oneCell']) (by unfold maxLen;omega) (by omega) h2.size (rfl) (by rw[Rj (by omega)];rfl) fun m6 l1 n9 l7 d8 i4=>?_
   refine zK _ _ ?_
   refine xwm 5 ((i:Int)+1) (↑(i+1):Int) ?_
   have h5:=h2.trans i4
   have c5:=((g6.blkT ((a6.below a3).below b1.below) b1.blk (by decide)).below c6.below).grown d8 c2 (by decide)
   have b5:=((g6.blkT (((u9.blkT (e5.below n8.below) n8.blk (by decide)).below a3).below b1.below) b1.blk (by decide)).below c6.below).grown d8 c2 (by decide)
   have g9:=Zp (Zb (g6.own2 (Zb (Zb (u9.own3 (Zb a7 n8.below) e1) a3) b1.below) b1.blk (by decide)) c6.below) d8 c2 (by decide)
   exact ze 2 (l9 _ _ _ ⟨i+1,_,_,rfl,rfl,h5,c5,b5,g9,l7,by omega,Ut d5 b7⟩ (by omega))
  refine xe 13 (.tuple #[.slice p i c,.nilIface]) ?_
  obtain rfl:i=(Zd l root 2 fuel).es.length:=by omega
  rw[List.take_of_length_le (Nat.le_refl _)] at ho
  exact Zb6 ((Hm a9).trans (Dl d5)) (List.length_map _) c3 ho
 refine xa 0 [S0,S0,V0 0,V0 0,S0] 130 fun m7 o2 d7=>?_
 have hB:=bln (Za w) d7.below
 refine yc (.o [] 9) (args:=#[P0 b,V0 root,V0 2,V0 fuel]) (.t w.heap.size [130]) (Kx Bi b pi ni ci l root 2 fuel _ hfu (hI.below hB)) ?_
 rintro e o8 k1
 rcases k1 with ⟨a9,pe,ce,pb,cb,pf,cf,j6,vw,rfl,a2,d2⟩|⟨a9,pe,ce,pb,nb,cb,dp,lk,pf,cf,rfl,a2,a7⟩
 ·refine⟨(SF.of_below _ a2),?_⟩
  have d1:=d7.blk.below a2
  have f2:=d7.ge (Za w)
  refine ysv (.o [10,11,12] 14) d1 [.slice pe 0 ce,.slice pb 0 cb,V0 0,V0 0,.slice pf 0 cf] (.t w.heap.size [130]) fun p2 j0 n3=>⟨(Zt j0 d1 f2 (by decide)),?_⟩
  have h0:=d2.only (Ze.of_upd (T:=[130]) j0 d1 (by decide)) (by decide)
  have e9:=j0.below (bln hB a2) f2
  exact xe (.r [15] 19) (.tuple #[S0,.iface j6 (vw)]) (Pj (Md a9) (Vu a9) e9 h0)
 have i6:=(bln (Za w) d7.below).size
 refine⟨(SF.of_below _ a2),?_⟩
 have d1:=d7.blk.below a2
 have f2:=d7.ge (Za w)
 refine ysv (.o [10,11,12] 14) d1 [.slice pe ((Zd l root 2 fuel).es.length) ce,.slice pb nb cb,V0 dp,V0 lk,.slice pf 0 cf] (.t w.heap.size [130]) fun o7 h6 k4=>⟨(Zt h6 d1 f2 (by decide)),?_⟩
 refine xb (.r [15] 21) 0 k4 ?_
 have h3:=h6.own2 (Zh a7 i6) d1 (by decide)
 have g7:=h6.below (bln hB a2) f2
 have j3:=h6.blkT ((b9.below d7.below).below a2) d1 (by decide)
 refine zl 5 51 (fun zm j2 V=>∃ (i:Nat) (p:O0) (c:Nat),j2=[(0,P0 bx),(8,.slice p i c),(30,.slice pe ((Zd l root 2 fuel).es.length) ce),(31,V0 (↑((Zd l root 2 fuel).es.length):Int)),(32,V0 (i:Int))]∧zm=(Zd l root 2 fuel).es.length-((i:Int)).toNat∧B0 w V∧Blk V bx ([P0 b,V0 data,V0 fuel,V0 sum]) 140∧Blk V m7 ([.slice pe ((Zd l root 2 fuel).es.length) ce,.slice pb nb cb,V0 dp,V0 lk,.slice pf 0 cf]) 130∧V.ownsRow w.heap.size 123 3 (.slice pe (Zd l root 2 fuel).es.length ce) (Zd l root 2 fuel).es.length ((Zd l root 2 fuel).es.flatMap Hp)∧V.ownsRow w.heap.size 164 3 (.slice p i c) i ((((Zd l root 2 fuel).es.take i).map Zaw).flatMap Kh)∧i≤(Zd l root 2 fuel).es.length∧Dw data (Zd l root 2 fuel).es i) ⟨0,none,0,rfl,rfl,g7,j3,k4,h3,World.ownsRow_nil _ _ _ _,Nat.zero_le _,fun j hj=>absurd hj (by omega)⟩ ?_
 rintro _ _ m8 ⟨i,p,c,rfl,rfl,a5,e0,c0,a7,ho,hi,d5⟩ n7 j9 q3
 refine xid 6 ((i:Int)<(↑((Zd l root 2 fuel).es.length):Int)) (fun j1=>?_) (fun j1=>?_)
 ·refine xx 6 _ ((Zd l root 2 fuel).es.length) i 3 (Sts.cell (f:=Hp) (Zi a7) Xt Zg (k:=i) (i:=0) (by omega) rfl).1 ?_
  refine xlv 0 (Sts.rp (k:=i) (Zi a7) Xt Zg (by omega) (by decide)) ?_
  refine xa 0 [V0 0,.string ⟨#[]⟩,V0 0] 123 fun p6 p0 a4=>?_
  have l0:=a4.ge a5
  have b6:=Zz a7 a4
  refine xsv 0 a4.blk [V0 (((Zd l root 2 fuel).es.getD i Zg).1),.string ⟨(((Zd l root 2 fuel).es.getD i Zg).2.1).toArray⟩,V0 (((Zd l root 2 fuel).es.getD i Zg).2.2)] fun p9 d4 l2=>?_
  refine xlv 5 l2.rp ?_
  have a0:=d4.blkT (e0.below a4.below) a4.blk (by decide)
  refine xc 0 (args:=#[P0 bx,.agg #[V0 (((Zd l root 2 fuel).es.getD i Zg).1),.string ⟨(((Zd l root 2 fuel).es.getD i Zg).2.1).toArray⟩,V0 (((Zd l root 2 fuel).es.getD i Zg).2.2)]]) (We bx b data fuel sum ((Zd l root 2 fuel).es.getD i Zg) _ a0 (Xz _ _ _ _ i (by omega))) ?_
  rintro e p3 j7
  rcases j7 with ⟨b7,i0,vm,rfl,a1,d2⟩|⟨b7,rfl,a1⟩
  ·refine xa 3 [V0 0,V0 0,V0 0] 164 fun p1 p4 e3=>?_
   have d0:=bln (d4.below (bln a5 a4.below) l0) a1
   have m5:=e3.ge d0
   have j5:=Zb (d4.own2 (Zb ho a4.below) a4.blk (by decide)) a1
   have h9:=Zz j5 e3
   refine xsv 0 e3.blk [V0 0,V0 0,V0 0] fun q0 k8 q4=>?_
   have h4:=(d2.below e3.below).only (Ze.of_upd (T:=[164]) k8 e3.blk (by decide)) (by decide)
   have f4:=k8.below (bln d0 e3.below) m5
   exact xe 25 (.tuple #[S0,.iface i0 (vm)]) (Pj ((Hm a9).trans (La (by omega) d5 b7)) b7 f4 h4)
  refine xa 3 [V0 0,V0 0,V0 0] 164 fun q1 p8 b0=>?_
  have c7:=bln (d4.below (bln a5 a4.below) l0) a1
  have m3:=b0.ge c7
  have h1:=Zb (d4.own2 (Zb ho a4.below) a4.blk (by decide)) a1
  have d3:=Zz h1 b0
  refine xsv 0 b0.blk [V0 (((Zd l root 2 fuel).es.getD i Zg).1),V0 (↑(Ug ((Zd l root 2 fuel).es.getD i Zg).2.1):Int),V0 (↑(Lc ((Zd l root 2 fuel).es.getD i Zg).2.1):Int)] fun o9 e7 k6=>?_
  refine xlv 15 k6.rp ?_
  refine xbs 0 1 [V0 (((Zd l root 2 fuel).es.getD i Zg).1),V0 (↑(Ug ((Zd l root 2 fuel).es.getD i Zg).2.1):Int),V0 (↑(Lc ((Zd l root 2 fuel).es.getD i Zg).2.1):Int)] 164 fun n6 p5 c1=>?_
  have h7:=c1.ne k6
  have c9:=e7.below (bln c7 b0.below) m3
  have q2:=c1.ge c9
  have f9:=e7.own3 (Zb h1 b0.below) d3
  have i9:=Zz f9 c1
  have c4:=Zb f9 c1.below
  have c8:=bln c9 c1.below
  refine xbi 0 fun _ _ _ _ zJ zQ zo zx zy zK=>Xq (m:=1) (news:=[V0 (((Zd l root 2 fuel).es.getD i Zg).1),V0 (↑(Ug ((Zd l root 2 fuel).es.getD i Zg).2.1):Int),V0 (↑(Lc ((Zd l root 2 fuel).es.getD i Zg).2.1):Int)]) (.agg #[V0 0,V0 0,V0 0]) 3 24 (i+1) (((((Zd l root 2 fuel).es.take (i+1)).map Zaw).flatMap Kh)) zo Tryz.underlying59 (by kernel_rfl) rfl (by decide) zx c4 zy (c1.blk.sl 1 1 (by decide) (by decide)) rfl (by simp[Value.oneCell']) (by unfold maxLen;omega) (by omega) c8.size (rfl) (by rw[Rj (by omega)];rfl) fun m1 l5 q5 l8 d6 k0=>?_
  refine zK _ _ ?_
  refine xwm 5 ((i:Int)+1) (↑(i+1):Int) ?_
  have g5:=c8.trans k0
  have b3:=((e7.blkT ((a0.below a1).below b0.below) b0.blk (by decide)).below c1.below).grown d6 c4 (by decide)
  have a8:=((e7.blkT (((d4.blkT (c0.below a4.below) a4.blk (by decide)).below a1).below b0.below) b0.blk (by decide)).below c1.below).grown d6 c4 (by decide)
  have e8:=Zp (Zb (e7.own2 (Zb (Zb (d4.own3 (Zb a7 a4.below) b6) a1) b0.below) b0.blk (by decide)) c1.below) d6 c4 (by decide)
  exact ze 2 (j9 _ _ _ ⟨i+1,_,_,rfl,rfl,g5,b3,a8,e8,l8,by omega,Ut d5 b7⟩ (by omega))
 refine xe 13 (.tuple #[.slice p i c,.nilIface]) ?_
 obtain rfl:i=(Zd l root 2 fuel).es.length:=by omega
 rw[List.take_of_length_le (Nat.le_refl _)] at ho
 exact Zb6 ((Hm a9).trans (Dl d5)) (List.length_map _) a5 ho
theorem Zab(Bi bx b:Nat)(pi:O0)(ni ci:Nat)(l:Bl)(data fuel sum:Int)(y:Ent)(w:World)(hI:ImgR Bi b pi ni ci l w)(hk:Blk w bx [P0 b,V0 data,V0 fuel,V0 sum] 140)(hfu:fuel≤1000):C0 129 #[P0 bx,V0 (↑(Zo y.2.1):Int)] w (TellP (Qf l y data fuel) w):=Zdp Bi bx b pi ni ci l data fuel sum (↑(Zo y.2.1):Int) w hI hk hfu
theorem own_few(l:Bl)(y:Ent)(data fuel:Int)(hf:fuel≤1000):(Qf l y data fuel).2.2.length≤1000000:=by
 have h:=(Qz l (Zo y.2.1:Int) 2 fuel hf).1
 unfold Qf Zdu Fm
 split
 ·exact Nat.zero_le _
 ·split
  ·exact Nat.zero_le _
  ·rw[List.length_map];exact h
theorem dev_1{l:Bl}{x y:Ent}{data fuel:Int}{sum:Nat}(h:16777215<x.1):Pa l x y data fuel sum=([x.2.2],9):=if_pos h
theorem dev_2{l:Bl}{x y:Ent}{data fuel:Int}{sum:Nat}(h:¬ 16777215<x.1)(h2:Xc Vd x.2.1≠0):Pa l x y data fuel sum=([x.2.2],Xc Vd x.2.1):=by unfold Pa;rw[if_neg h,if_pos h2]
theorem dev_3{l:Bl}{x y:Ent}{data fuel:Int}{sum:Nat}(h:¬ 16777215<x.1)(h2:Xc Vd x.2.1=0)(h3:Xk y.2.1≠0):Pa l x y data fuel sum=([y.2.2],Xk y.2.1):=by unfold Pa;rw[if_neg h,if_neg (fun q=>q h2),if_pos h3]
theorem dev_4{l:Bl}{x y:Ent}{data fuel:Int}{sum:Nat}(h:¬ 16777215<x.1)(h2:Xc Vd x.2.1=0)(h3:Xk y.2.1=0)(h4:(Qf l y data fuel).2.1≠0):Pa l x y data fuel sum=(y.2.2::(Qf l y data fuel).1,(Qf l y data fuel).2.1):=by unfold Pa;rw[if_neg h,if_neg (fun q=>q h2),if_neg (fun q=>q h3),if_pos h4]
theorem dev_5{l:Bl}{x y:Ent}{data fuel:Int}{sum:Nat}(h:¬ 16777215<x.1)(h2:Xc Vd x.2.1=0)(h3:Xk y.2.1=0)(h4:(Qf l y data fuel).2.1=0)(h5:(Qf l y data fuel).2.2.length≠Xh x.2.1 0):Pa l x y data fuel sum=([x.2.2],13):=by unfold Pa;rw[if_neg h,if_neg (fun q=>q h2),if_neg (fun q=>q h3),if_neg (fun q=>q h4),if_pos h5]
theorem dev_6{l:Bl}{x y:Ent}{data fuel:Int}{sum:Nat}(h:¬ 16777215<x.1)(h2:Xc Vd x.2.1=0)(h3:Xk y.2.1=0)(h4:(Qf l y data fuel).2.1=0)(h5:(Qf l y data fuel).2.2.length=Xh x.2.1 0)(h6:16384<sum+(Qf l y data fuel).2.2.length):Pa l x y data fuel sum=([y.2.2],2):=by unfold Pa;rw[if_neg h,if_neg (fun q=>q h2),if_neg (fun q=>q h3),if_neg (fun q=>q h4),if_neg (fun q=>q h5),if_pos h6]
theorem dev_7{l:Bl}{x y:Ent}{data fuel:Int}{sum:Nat}(h:¬ 16777215<x.1)(h2:Xc Vd x.2.1=0)(h3:Xk y.2.1=0)(h4:(Qf l y data fuel).2.1=0)(h5:(Qf l y data fuel).2.2.length=Xh x.2.1 0)(h6:¬ 16384<sum+(Qf l y data fuel).2.2.length):Pa l x y data fuel sum=([],0):=by unfold Pa;rw[if_neg h,if_neg (fun q=>q h2),if_neg (fun q=>q h3),if_neg (fun q=>q h4),if_neg (fun q=>q h5),if_neg h6]
def DevP(B bx b:Nat)(l:Bl)(x y:Ent)(data fuel:Int)(sum:Nat)(w:World)(e:Ending)(w':World):Prop :=
 ((Pa l x y data fuel sum).2≠0∧∃ ty v,e=.returned (.tuple #[.agg #[V0 0,V0 0,V0 0,V0 0,S0],.iface ty v])∧Below B w w'∧Ze [140] w w'∧Fr [bx] w w'∧Yu w' ((Pa l x y data fuel sum).1.map some) (some (Pa l x y data fuel sum).2) (.iface ty v)) ∨
 ((Pa l x y data fuel sum).2=0∧∃ p c,e=.returned (.tuple #[.agg #[V0 x.1,V0 (Xh x.2.1 1:Int),V0 (Xh x.2.1 2:Int),V0 (Xh x.2.1 3:Int),.slice p (Qf l y data fuel).2.2.length c],.nilIface])∧Below B w w'∧Ze [140] w w'∧Fr [bx] w w'∧Blk w' bx [P0 b,V0 data,V0 fuel,V0 ((sum+(Qf l y data fuel).2.2.length:Nat):Int)] 140∧w'.ownsRow w.heap.size 164 3 (.slice p (Qf l y data fuel).2.2.length c) (Qf l y data fuel).2.2.length ((Qf l y data fuel).2.2.flatMap Kh))
theorem Hi{B bx b:Nat}{l:Bl}{x y:Ent}{data fuel:Int}{sum:Nat}{w W:World}{ty:TypeId}{v:Value}{bl:List Int}{er:Int}(h:Pa l x y data fuel sum=(bl,er))(her:er≠0)(hb:Below B w W)(hO:Ze [140] w W)(hX:Fr [bx] w W)(hv:Yu W (bl.map some) (some er) (.iface ty v)):DevP B bx b l x y data fuel sum w (.returned (.tuple #[.agg #[V0 0,V0 0,V0 0,V0 0,S0],.iface ty v])) W:=by
 unfold DevP;rw[h];exact .inl ⟨her,ty,v,rfl,hb,hO,hX,hv⟩
theorem Mc(B Bi bx b:Nat)(pi:O0)(ni ci:Nat)(l:Bl)(data fuel:Int)(sum:Nat)(x y:Ent)(w:World)(hI:ImgR Bi b pi ni ci l w)(hk:Blk w bx [P0 b,V0 data,V0 fuel,V0 (sum:Int)] 140)(hfu:fuel≤1000)(hx:x.2.1.length≤1000)(hy:y.2.1.length≤1000)(hsm:sum≤16384)(hB0:B≤bx)(hBw:B≤w.heap.size) :
 C0 62 #[P0 bx,.agg #[V0 x.1,.string ⟨x.2.1.toArray⟩,V0 x.2.2],.agg #[V0 y.1,.string ⟨y.2.1.toArray⟩,V0 y.2.2]] w (DevP B bx b l x y data fuel sum w):=by
 have g7:=own_few l y data fuel hfu
 refine zin 96 Tryz.func62 ?_
 refine xa 2 [V0 x.1,.string ⟨x.2.1.toArray⟩,V0 x.2.2] 123 fun b1 W1 n1=>?_
 refine xa 0 [V0 y.1,.string ⟨y.2.1.toArray⟩,V0 y.2.2] 123 fun b2 W2 n2=>?_
 have f4:=n2.ne n1.blk
 refine xa 0 [V0 0,V0 0,V0 0,V0 0,S0] 61 fun b3 W3 n3=>?_
 have a4:=(n1.blk.below n2.below).below n3.below
 refine xb 7 0 a4 ?_
 refine xid 3 (x.1>(16777215:Int)) (fun h1=>?_) (fun h1=>?_)
 ·refine xb 4 2 a4 ?_
  refine xc 0 (args:=#[V0 x.2.2,V0 9]) (Vg x.2.2 9 _ (by omega)) ?_
  rintro _ W5 ⟨g5,v5,rfl,d1,a6⟩
  have k3:=n3.blk.below d1
  refine xsv 0 k3 [V0 0,V0 0,V0 0,V0 0,S0] fun W6 u6 k6=>?_
  have g3:=n3.ge0 (blB (blB (Below.refl B w) hBw n1.below) hBw n2.below)
  have c5:=a6.only (Ze.of_upd (T:=[61]) u6 k3 (by decide)) (by decide)
  have hB:=u6.below (blB (blB (blB (blB (Below.refl B w) hBw n1.below) hBw n2.below) hBw n3.below) hBw d1) (Nat.le_trans hBw g3)
  have hO:=(Ze.upd_new ((((show Ze [140] w _ from(Ze.of_below n1.below)).trans (Ze.of_below n2.below)).trans (Ze.of_below n3.below)).trans (Ze.of_below d1)) u6 g3)
  have hX:=(Fr.upd_new ((((show Fr [bx] w _ from(Fr.of_below n1.below)).trans (Fr.of_below n2.below)).trans (Fr.of_below n3.below)).trans (Fr.of_below d1)) u6 g3)
  exact xec 5 k6 (.tuple #[.agg #[V0 0,V0 0,V0 0,V0 0,S0],.iface g5 (v5)]) (Hi (dev_1 (by omega)) (by decide) hB hO hX c5)
 refine xb 5 1 a4 ?_
 refine xr 0 (args:=#[.string ⟨x.2.1.toArray⟩]) (Ve x.2.1 _ hx) fun W7 a2=>?_
 refine xa 3 [V0 0,V0 0,V0 0,V0 0] 202 fun b8 W8 n8=>?_
 refine xsv 0 n8.blk [V0 (↑(Xh x.2.1 0):Int),V0 (↑(Xh x.2.1 1):Int),V0 (↑(Xh x.2.1 2):Int),V0 (↑(Xh x.2.1 3):Int)] fun W9 u9 k9=>?_
 have g8:=n8.ge0 (blB (blB (blB (blB (Below.refl B w) hBw n1.below) hBw n2.below) hBw n3.below) hBw a2)
 refine xin 10 (Xc Vd x.2.1) (0:Int) (fun f2=>?_) (fun f2=>?_)
 ·have d7:=u9.blkT ((a4.below a2).below n8.below) n8.blk (by decide)
  refine xb 4 2 d7 ?_
  refine xc 1 (args:=#[V0 x.2.2,V0 (Xc Vd x.2.1)]) (Vg x.2.2 (Xc Vd x.2.1) _ (by omega)) ?_
  rintro _ h6 ⟨e3,f8,rfl,a7,a6⟩
  have k3:=(u9.blkT ((n3.blk.below a2).below n8.below) n8.blk (by decide)).below a7
  refine xsv 0 k3 [V0 0,V0 0,V0 0,V0 0,S0] fun h8 d4 g1=>?_
  have g3:=n3.ge0 (blB (blB (Below.refl B w) hBw n1.below) hBw n2.below)
  have c6:=a6.only (Ze.of_upd (T:=[61]) d4 k3 (by decide)) (by decide)
  have hB:=d4.below (blB (u9.below (blB (blB (blB (blB (blB (Below.refl B w) hBw n1.below) hBw n2.below) hBw n3.below) hBw a2) hBw n8.below) (Nat.le_trans hBw g8)) hBw a7) (Nat.le_trans hBw g3)
  have hO:=(Ze.upd_new ((Ze.upd_new (((((show Ze [140] w _ from(Ze.of_below n1.below)).trans (Ze.of_below n2.below)).trans (Ze.of_below n3.below)).trans (Ze.of_below a2)).trans (Ze.of_below n8.below)) u9 g8).trans (Ze.of_below a7)) d4 g3)
  have hX:=(Fr.upd_new ((Fr.upd_new (((((show Fr [bx] w _ from(Fr.of_below n1.below)).trans (Fr.of_below n2.below)).trans (Fr.of_below n3.below)).trans (Fr.of_below a2)).trans (Fr.of_below n8.below)) u9 g8).trans (Fr.of_below a7)) d4 g3)
  exact xec 5 g1 (.tuple #[.agg #[V0 0,V0 0,V0 0,V0 0,S0],.iface e3 (f8)]) (Hi (dev_2 (by omega) (by omega)) (by omega) hB hO hX c6)
 have k2:=u9.blkT (((n2.blk.below n3.below).below a2).below n8.below) n8.blk (by decide)
 refine xb 5 1 k2 ?_
 refine xr 0 (args:=#[.string ⟨y.2.1.toArray⟩]) (Qu y.2.1 _ hy) fun h5 a0=>?_
 refine xin 14 (Xk y.2.1) (0:Int) (fun e5=>?_) (fun e5=>?_)
 ·have e6:=k2.below a0
  refine xb 4 2 e6 ?_
  refine xc 1 (args:=#[V0 y.2.2,V0 (Xk y.2.1)]) (Vg y.2.2 (Xk y.2.1) _ (by omega)) ?_
  rintro _ i5 ⟨e9,h0,rfl,b4,a6⟩
  have k3:=((u9.blkT ((n3.blk.below a2).below n8.below) n8.blk (by decide)).below a0).below b4
  refine xsv 0 k3 [V0 0,V0 0,V0 0,V0 0,S0] fun h7 c9 g2=>?_
  have g3:=n3.ge0 (blB (blB (Below.refl B w) hBw n1.below) hBw n2.below)
  have c3:=a6.only (Ze.of_upd (T:=[61]) c9 k3 (by decide)) (by decide)
  have hB:=c9.below (blB (blB (u9.below (blB (blB (blB (blB (blB (Below.refl B w) hBw n1.below) hBw n2.below) hBw n3.below) hBw a2) hBw n8.below) (Nat.le_trans hBw g8)) hBw a0) hBw b4) (Nat.le_trans hBw g3)
  have hO:=(Ze.upd_new (((Ze.upd_new (((((show Ze [140] w _ from(Ze.of_below n1.below)).trans (Ze.of_below n2.below)).trans (Ze.of_below n3.below)).trans (Ze.of_below a2)).trans (Ze.of_below n8.below)) u9 g8).trans (Ze.of_below a0)).trans (Ze.of_below b4)) c9 g3)
  have hX:=(Fr.upd_new (((Fr.upd_new (((((show Fr [bx] w _ from(Fr.of_below n1.below)).trans (Fr.of_below n2.below)).trans (Fr.of_below n3.below)).trans (Fr.of_below a2)).trans (Fr.of_below n8.below)) u9 g8).trans (Fr.of_below a0)).trans (Fr.of_below b4)) c9 g3)
  exact xec 5 g2 (.tuple #[.agg #[V0 0,V0 0,V0 0,V0 0,S0],.iface e9 (h0)]) (Hi (dev_3 (by omega) (by omega) (by omega)) (by omega) hB hO hX c3)
 have f0:=((((((hI.below n1.below).below n2.below).below n3.below).below a2).below n8.below).only (Ze.of_upd (T:=[202]) u9 n8.blk (by decide)) (by decide)).below a0
 have c2:=(u9.blkT (((((hk.below n1.below).below n2.below).below n3.below).below a2).below n8.below) n8.blk (by decide)).below a0
 refine xc 6 (args:=#[P0 bx,V0 (↑(Zo y.2.1):Int)]) (Zab Bi bx b pi ni ci l data fuel (sum:Int) y _ f0 c2 hfu) ?_
 rintro e h9 d5
 rcases d5 with ⟨b6,f6,vo,rfl,a1,f5⟩|⟨b6,po,co,rfl,a1,h3⟩
 ·have d9:=(k2.below a0).below a1
  refine xb 19 2 d9 ?_
  refine xc 1 (args:=#[V0 y.2.2,.iface f6 (vo)]) (Fx y.2.2 (Qf l y data fuel).2.1 (Qf l y data fuel).1 _ _ f5) ?_
  rintro _ i0 ⟨d8,g6,rfl,a9,a6⟩
  have k3:=(((u9.blkT ((n3.blk.below a2).below n8.below) n8.blk (by decide)).below a0).below a1).below a9
  refine xsv 0 k3 [V0 0,V0 0,V0 0,V0 0,S0] fun i2 d3 f7=>?_
  have g3:=n3.ge0 (blB (blB (Below.refl B w) hBw n1.below) hBw n2.below)
  have b9:=a6.only (Ze.of_upd (T:=[61]) d3 k3 (by decide)) (by decide)
  have hB:=d3.below (blB (blB (blB (u9.below (blB (blB (blB (blB (blB (Below.refl B w) hBw n1.below) hBw n2.below) hBw n3.below) hBw a2) hBw n8.below) (Nat.le_trans hBw g8)) hBw a0) hBw a1) hBw a9) (Nat.le_trans hBw g3)
  have hO:=(Ze.upd_new ((((Ze.upd_new (((((show Ze [140] w _ from(Ze.of_below n1.below)).trans (Ze.of_below n2.below)).trans (Ze.of_below n3.below)).trans (Ze.of_below a2)).trans (Ze.of_below n8.below)) u9 g8).trans (Ze.of_below a0)).trans (Ze.of_below a1)).trans (Ze.of_below a9)) d3 g3)
  have hX:=(Fr.upd_new ((((Fr.upd_new (((((show Fr [bx] w _ from(Fr.of_below n1.below)).trans (Fr.of_below n2.below)).trans (Fr.of_below n3.below)).trans (Fr.of_below a2)).trans (Fr.of_below n8.below)) u9 g8).trans (Fr.of_below a0)).trans (Fr.of_below a1)).trans (Fr.of_below a9)) d3 g3)
  exact xec 5 f7 (.tuple #[.agg #[V0 0,V0 0,V0 0,V0 0,S0],.iface d8 (g6)]) (Hi (dev_4 (by omega) (by omega) (by omega) b6) b6 hB hO hX b9)
 have e1:=(blB (u9.below (blB (blB (blB (blB (blB (Below.refl B w) hBw n1.below) hBw n2.below) hBw n3.below) hBw a2) hBw n8.below) (Nat.le_trans hBw g8)) hBw a0).size
 have c0:=(k9.below a0).below a1
 refine xb 23 0 c0 ?_
 refine xin 3 (↑((Qf l y data fuel).2.2.length):Int) (↑(Xh x.2.1 0):Int) (fun d6=>?_) (fun d6=>?_)
 ·have e7:=((u9.blkT ((a4.below a2).below n8.below) n8.blk (by decide)).below a0).below a1
  refine xb 4 2 e7 ?_
  refine xc 0 (args:=#[V0 x.2.2,V0 13]) (Vg x.2.2 13 _ (by omega)) ?_
  rintro _ h4 ⟨e0,g9,rfl,b0,a6⟩
  have k3:=(((u9.blkT ((n3.blk.below a2).below n8.below) n8.blk (by decide)).below a0).below a1).below b0
  refine xsv 0 k3 [V0 0,V0 0,V0 0,V0 0,S0] fun i7 d2 g4=>?_
  have g3:=n3.ge0 (blB (blB (Below.refl B w) hBw n1.below) hBw n2.below)
  have c1:=a6.only (Ze.of_upd (T:=[61]) d2 k3 (by decide)) (by decide)
  have hB:=d2.below (blB (blB (blB (u9.below (blB (blB (blB (blB (blB (Below.refl B w) hBw n1.below) hBw n2.below) hBw n3.below) hBw a2) hBw n8.below) (Nat.le_trans hBw g8)) hBw a0) hBw a1) hBw b0) (Nat.le_trans hBw g3)
  have hO:=(Ze.upd_new ((((Ze.upd_new (((((show Ze [140] w _ from(Ze.of_below n1.below)).trans (Ze.of_below n2.below)).trans (Ze.of_below n3.below)).trans (Ze.of_below a2)).trans (Ze.of_below n8.below)) u9 g8).trans (Ze.of_below a0)).trans (Ze.of_below a1)).trans (Ze.of_below b0)) d2 g3)
  have hX:=(Fr.upd_new ((((Fr.upd_new (((((show Fr [bx] w _ from(Fr.of_below n1.below)).trans (Fr.of_below n2.below)).trans (Fr.of_below n3.below)).trans (Fr.of_below a2)).trans (Fr.of_below n8.below)) u9 g8).trans (Fr.of_below a0)).trans (Fr.of_below a1)).trans (Fr.of_below b0)) d2 g3)
  exact xec 5 g4 (.tuple #[.agg #[V0 0,V0 0,V0 0,V0 0,S0],.iface e0 (g9)]) (Hi (dev_5 (by omega) (by omega) (by omega) b6 (by omega)) (by decide) hB hO hX c1)
 have a3:=c2.below a1
 refine xb 8 3 a3 ?_
 refine xwm 2 ((sum:Int)+(↑((Qf l y data fuel).2.2.length):Int)) (↑(sum+((Qf l y data fuel).2.2.length)):Int) ?_
 refine xs 2 a3 [P0 b,V0 data,V0 fuel,V0 (↑(sum+((Qf l y data fuel).2.2.length)):Int)] fun i1 a5 f3=>?_
 refine xb 7 3 f3 ?_
 refine xid 3 ((↑(sum+((Qf l y data fuel).2.2.length)):Int)>(16384:Int)) (fun e8=>?_) (fun e8=>?_)
 ·have e2:=a5.blkT ((k2.below a0).below a1) a3 (by decide)
  refine xb 4 2 e2 ?_
  refine xc 0 (args:=#[V0 y.2.2,V0 2]) (Vg y.2.2 2 _ (by omega)) ?_
  rintro _ i3 ⟨e4,f9,rfl,a8,a6⟩
  have k3:=(a5.blkT (((u9.blkT ((n3.blk.below a2).below n8.below) n8.blk (by decide)).below a0).below a1) a3 (by decide)).below a8
  refine xsv 0 k3 [V0 0,V0 0,V0 0,V0 0,S0] fun i4 d0 g0=>?_
  have g3:=n3.ge0 (blB (blB (Below.refl B w) hBw n1.below) hBw n2.below)
  have c4:=a6.only (Ze.of_upd (T:=[61]) d0 k3 (by decide)) (by decide)
  have hB:=d0.below (blB (a5.below (blB (blB (u9.below (blB (blB (blB (blB (blB (Below.refl B w) hBw n1.below) hBw n2.below) hBw n3.below) hBw a2) hBw n8.below) (Nat.le_trans hBw g8)) hBw a0) hBw a1) hB0) hBw a8) (Nat.le_trans hBw g3)
  have hO:=(Ze.upd_new (((((Ze.upd_new (((((show Ze [140] w _ from(Ze.of_below n1.below)).trans (Ze.of_below n2.below)).trans (Ze.of_below n3.below)).trans (Ze.of_below a2)).trans (Ze.of_below n8.below)) u9 g8).trans (Ze.of_below a0)).trans (Ze.of_below a1)).trans (Ze.of_upd a5 a3 (by decide))).trans (Ze.of_below a8)) d0 g3)
  have hX:=(Fr.upd_new (((((Fr.upd_new (((((show Fr [bx] w _ from(Fr.of_below n1.below)).trans (Fr.of_below n2.below)).trans (Fr.of_below n3.below)).trans (Fr.of_below a2)).trans (Fr.of_below n8.below)) u9 g8).trans (Fr.of_below a0)).trans (Fr.of_below a1)).trans (Fr.of_upd a5 (by simp))).trans (Fr.of_below a8)) d0 g3)
  exact xec 5 g0 (.tuple #[.agg #[V0 0,V0 0,V0 0,V0 0,S0],.iface e4 (f9)]) (Hi (dev_6 (by omega) (by omega) (by omega) b6 (by omega) (by omega)) (by decide) hB hO hX c4)
 have f1:=a5.blkT (((u9.blkT ((a4.below a2).below n8.below) n8.blk (by decide)).below a0).below a1) a3 (by decide)
 refine xb 5 0 f1 ?_
 have b5:=a5.blkT c0 a3 (by decide)
 refine xb 1 1 b5 ?_
 refine xb 1 2 b5 ?_
 refine xb 1 3 b5 ?_
 have k3:=a5.blkT (((u9.blkT ((n3.blk.below a2).below n8.below) n8.blk (by decide)).below a0).below a1) a3 (by decide)
 refine xsv 2 k3 [V0 x.1,V0 (↑(Xh x.2.1 1):Int),V0 (↑(Xh x.2.1 2):Int),V0 (↑(Xh x.2.1 3):Int),.slice po ((Qf l y data fuel).2.2.length) co] fun i6 c8 h2=>?_
 have g3:=n3.ge0 (blB (blB (Below.refl B w) hBw n1.below) hBw n2.below)
 have c7:=c8.blkT f3 k3 (by decide)
 have hB:=c8.below (a5.below (blB (blB (u9.below (blB (blB (blB (blB (blB (Below.refl B w) hBw n1.below) hBw n2.below) hBw n3.below) hBw a2) hBw n8.below) (Nat.le_trans hBw g8)) hBw a0) hBw a1) hB0) (Nat.le_trans hBw g3)
 have hO:=(Ze.upd_new ((((Ze.upd_new (((((show Ze [140] w _ from(Ze.of_below n1.below)).trans (Ze.of_below n2.below)).trans (Ze.of_below n3.below)).trans (Ze.of_below a2)).trans (Ze.of_below n8.below)) u9 g8).trans (Ze.of_below a0)).trans (Ze.of_below a1)).trans (Ze.of_upd a5 a3 (by decide))) c8 g3)
 have hX:=(Fr.upd_new ((((Fr.upd_new (((((show Fr [bx] w _ from(Fr.of_below n1.below)).trans (Fr.of_below n2.below)).trans (Fr.of_below n3.below)).trans (Fr.of_below a2)).trans (Fr.of_below n8.below)) u9 g8).trans (Fr.of_below a0)).trans (Fr.of_below a1)).trans (Fr.of_upd a5 (by simp))) c8 g3)
 have b7:=c8.own2 (a5.own2 (Zh h3 e1) a3 (by decide)) k3 (by decide)
 exact xec 4 h2 (.tuple #[.agg #[V0 x.1,V0 (↑(Xh x.2.1 1):Int),V0 (↑(Xh x.2.1 2):Int),V0 (↑(Xh x.2.1 3):Int),.slice po ((Qf l y data fuel).2.2.length) co],.nilIface]) (.inr ⟨by rw[dev_7 (by omega) (by omega) (by omega) b6 (by omega) (by omega)],_,_,rfl,hB,hO,hX,c7,b7⟩)
def Xi(B:Nat)(w:World)(Z:List Zv):Prop:=∀ i,i<Z.length→w.ownsRow B 164 3 (.slice (Z.getD i zvD).2.1 (Z.getD i zvD).1.2.length (Z.getD i zvD).2.2) (Z.getD i zvD).1.2.length ((Z.getD i zvD).1.2.flatMap Kh)
theorem Xi.nil(B:Nat)(w:World):Xi B w []:=fun i hi=>absurd hi (by simp)
theorem Xi.below{B:Nat}{w W:World}{Z:List Zv}(h:Xi B w Z)(hb:B0 w W):Xi B W Z:=fun i hi=>Zb (h i hi) hb
theorem Xi.only{B:Nat}{w W:World}{Z:List Zv}{T:List TypeId}(h:Xi B w Z)(hO:Ze T w W)(hT:T.contains 164=false):Xi B W Z:=fun i hi=>Zf (h i hi) hO hT
theorem Xi.snoc{B n:Nat}{w:World}{Z:List Zv}{d:Dv}{p:O0}{c:Nat}(h:Xi B w Z)(hn:d.2.length=n)(ho:w.ownsRow B 164 3 (.slice p n c) n (d.2.flatMap Kh)):Xi B w (Z++[(d,p,c)]):=by
 subst hn
 intro i hi
 by_cases e:i<Z.length
 ·have:=h i e
  rw[show(Z++[(d,p,c)]).getD i zvD=Z.getD i zvD from by simp[List.getD,List.getElem?_append_left e]];exact this
 ·obtain rfl:i=Z.length:=by simp at hi;omega
  rw[show(Z++[(d,p,c)]).getD Z.length zvD=(d,p,c) from by simp[List.getD]];exact ho
theorem Ev{B:Nat}{w:World}{p:O0}{c:Nat}{Z:List Zv}(hM:Xi B w Z)(ho:w.ownsRow B 61 5 (.slice p Z.length c) Z.length (Z.flatMap Bp)):DevsR w p c Z:=⟨Zi ho,fun i hi=>Zi (hM i hi)⟩
theorem Zcq{l:Bl}{top details data fuel:Int}(h:(Zd l details 3 fuel).fs≠[]):Qp l top details data fuel=((Qi (Zd l details 3 fuel)).1,(Qi (Zd l details 3 fuel)).2,[]):=if_pos h
theorem Zdb{l:Bl}{top details data fuel:Int}(h:(Zd l details 3 fuel).fs=[])(h2:(Zd l top 1 fuel).fs≠[]):Qp l top details data fuel=((Qi (Zd l top 1 fuel)).1,(Qi (Zd l top 1 fuel)).2,[]):=by unfold Qp;rw[if_neg (fun q=>q h),if_pos h2]
theorem Bf{l:Bl}{top details data fuel:Int}(h:(Zd l details 3 fuel).fs=[])(h2:(Zd l top 1 fuel).fs=[])(h3:4096<(Zd l details 3 fuel).es.length):Qp l top details data fuel=([details],2,[]):=by unfold Qp;rw[if_neg (fun q=>q h),if_neg (fun q=>q h2),if_pos h3]
theorem Ay{l:Bl}{top details data fuel:Int}(h:(Zd l details 3 fuel).fs=[])(h2:(Zd l top 1 fuel).fs=[])(h3:¬ 4096<(Zd l details 3 fuel).es.length)(h4:Vw (Zd l details 3 fuel).es (Zd l top 1 fuel).es=1):Qp l top details data fuel=([details],18,[]):=by unfold Qp;rw[if_neg (fun q=>q h),if_neg (fun q=>q h2),if_neg h3,if_pos h4]
theorem devsO_p2{l:Bl}{top details data fuel:Int}(h:(Zd l details 3 fuel).fs=[])(h2:(Zd l top 1 fuel).fs=[])(h3:¬ 4096<(Zd l details 3 fuel).es.length)(h4:Vw (Zd l details 3 fuel).es (Zd l top 1 fuel).es=2):Qp l top details data fuel=([top],18,[]):=by unfold Qp;rw[if_neg (fun q=>q h),if_neg (fun q=>q h2),if_neg h3,if_neg (by omega),if_pos h4]
theorem He{l:Bl}{top details data fuel:Int}(h:(Zd l details 3 fuel).fs=[])(h2:(Zd l top 1 fuel).fs=[])(h3:¬ 4096<(Zd l details 3 fuel).es.length)(h4:Vw (Zd l details 3 fuel).es (Zd l top 1 fuel).es=0):Qp l top details data fuel=Th l (Zd l details 3 fuel).es (Zd l top 1 fuel).es data fuel:=by unfold Qp;rw[if_neg (fun q=>q h),if_neg (fun q=>q h2),if_neg h3,if_neg (by omega),if_neg (by omega)]
end Go.Proofs.YtegcamkgeacjfaaGreatDoor
namespace Go.Proofs.YtegcamkgeacjfaaGreatDoor
set_option maxHeartbeats 8000000
set_option maxRecDepth 100000
open Go.RowKit
set_option linter.unusedVariables false
theorem rows_in{n:Nat}{P:Program}{row:String}{args:Array Value}{w:World}{R:Value→World→Prop}(h:Rows P row args w R):RowsIn Fence.wide n P row args w R :=
 fun c cs _=>let ⟨v,w',r,q⟩:=h c cs;⟨v,w',r,stepsIn_wide.2 q⟩
theorem Zbp{P:Program}{l n:Nat}{o:Oper}{a:Act}{w:World}{K:Act→World→Prop}{Q:Exit→Act→World→Prop}(hd:∀ c,o.op≠.defer c)(h:o.wp P a w K Q):o.wpIn (Fence.wide.inRound l) n P a w K Q:=by
 unfold Oper.wpIn
 refine⟨fun f _=>trivial,?_⟩
 rw[Oper.semAt_plain _ _ _ hd]
 unfold Oper.wp at h
 generalize (execOp a.eval o).run P w=r at *
 cases r with
 | ok nx w' =>
  cases nx with
  | value v=>exact h
  | skip=>exact h
  | defer d=>exact h
  | enter f args=>exact⟨(fun q=>by cases q),callsIn_wide.2 h⟩
  | row r args=>exact⟨(fun q=>by cases q),rows_in h⟩
  | _=>exact h.elim
 | halt hh w' =>
  cases hh with
  | panic v=>exact h
  | _=>exact h.elim
theorem op_in{P:Program}{l n i:Nat}{ops:Array Oper}{a:Act}{w:World}{K K':Act→World→Prop}{Q:Exit→Act→World→Prop}(hQ:¬ LetsOut Q)(hd:∀ o∈ops.toList,∀ c,o.op≠.defer c)(hK:∀ a w,K a w→K' a w)(h:wpOp P ops Q i K a w):wpOpIn (Fence.wide.inRound l) n P ops Q i K' a w:=by
 unfold wpOp at h
 unfold wpOpIn
 cases ho:ops[i]? with
 | none=>rw[ho] at h;exact hK _ _ h
 | some o =>
  rw[ho] at h
  dsimp only at h ⊢
  split at h
  ·rename_i hw
   rw[if_pos hw]
   have a0:o∈ops.toList:=by
    obtain⟨hi,e⟩:=Array.getElem?_eq_some_iff.1 ho
    rw[←e];exact Array.mem_toList_iff.2 (Array.getElem_mem hi)
   exact Oper.wpIn_mono hK (Zbp (hd o a0) (h.resolve_right fun q=>hQ q.2))
  ·rename_i hw
   rw[if_neg hw]
   exact⟨fun f _=>trivial,hK _ _ h⟩
theorem any_in{P:Program}{l n:Nat}{md:Region.Mode}{ops:Array Oper}{Q:Exit→Act→World→Prop}(hQ:¬ LetsOut Q)(hd:∀ o∈ops.toList,∀ c,o.op≠.defer c):∀ (fuel:Nat) (L:Array Bool) (a:Act) (w:World),wpAny P md ops Q fuel L a w→wpAnyIn (Fence.wide.inRound l) n P md ops Q fuel L a w
 | 0,_,_,_,h=>h
 | fuel+1,L,a,w,h=>⟨h.1,fun i hi=>op_in hQ hd (fun a w=>any_in hQ hd fuel _ a w) (h.2 i hi)⟩
theorem h_regIn{P:Program}{l0 n0 id:Nat}{l:List Oper}{Q:Exit→Act→World→Prop}{a:Act}{w:World}(S:World→Prop)(n:Nat)(hn:l.toArray.size=n)(L:Array Bool)(hL:Array.replicate n false=L)(hm:P.follows .mixedOrders=true)(hQ:¬ LetsOut Q)(hd:∀ o∈l,∀ c,o.op≠.defer c)(hS:S w.drew)(h:S w.drew→wpAnyH P .any l.toArray Q S n L a w.drew):(Code.region id l.toArray true).wpIn (Fence.wide.inRound l0) n0 P Q a w :=
 wpIn_region_any hm (any_in hQ (by simpa using hd) _ _ _ _ (wpAny_of_held _ _ _ _ (by rw[hn,hL];exact h hS)))
def SeqL{α:Type}(P:Program)(g:Nat)(lb:Array Value)(encs:α→Array Value)(Kp:World→World→Prop)(q:Nat→Prop)(R:List α)(w:World):Prop :=
 ∀ (l:Nat) (J Jx:Nat→World→Prop) (W:World),B0 w W →
  (∀ k A B row,J k A→A.grownBy B row→(∀ r,row=some r→q r)→J k B) →
  (∀ k x V,R[k]? = some x→J k V→YieldAt Fence.wide 2 P l (encs x) V fun e U =>
   (e=.returned (.bool true)∧J (k+1) U∧Kp V U)∨(e=.returned (.bool false)∧Jx k U)) →
  J 0 W →
  CallsIn Fence.wide 3 P g (#[.func (.yield l) #[] #[]]++lb) W fun e U=>(∃ v,e=.returned v)∧(J R.length U∨∃ k,k<R.length∧Jx k U)
def rdPost(B:Nat)(Kp:World→World→Prop)(I:Nat→World→Prop)(Ix:Code→Nat→World→Prop)(k:Nat)(W:World):Exit→Act→World→Prop
 | .normal,_,V=>KeepsFrom B W V∧Kp W V∧I (k+1) V
 | .ret,_,V=>KeepsFrom B W V∧Ix .ret k V
 | .exit id,_,V=>KeepsFrom B W V∧Ix (.exit id) k V
 | .goto _,_,_=>False
 | .panic _,_,_=>False
 | .outgrown,_,_=>False
structure RecAt(n:Nat)(r:Loop)(W:World):Prop where
 l:W.heap[n+1]? = some (.loop r)
 d:W.heap[n]? = some (.deferred (some []))
theorem RecAt.lt{n:Nat}{r:Loop}{W:World}(h:RecAt n r W):n+1<W.heap.size:=(Array.getElem?_eq_some_iff.1 h.l).1
theorem RecAt.kept{n:Nat}{r:Loop}{A B:World}{row:Option Nat}(h:RecAt n r A)(hg:A.grownBy B row)(hr:∀ k,row=some k→k<n):RecAt n r B :=
 ⟨(hg.block _ h.lt (fun e=>by have:=hr _ e.symm;omega)).trans h.l,(hg.block _ (by have:=h.lt;omega) (fun e=>by have:=hr _ e.symm;omega)).trans h.d⟩
theorem RecAt.from{n:Nat}{r:Loop}{A B:World}(h:RecAt n r A)(k:KeepsFrom n A B):RecAt n r B:=⟨k.same _ _ (by omega) h.l rfl,k.same _ _ (Nat.le_refl _) h.d rfl⟩
theorem RecAt.put{n:Nat}{r:Loop}{A:World}(h:RecAt n r A)(r':Loop):RecAt n r' (A.putObj (n+1) (.loop r')) :=
 ⟨World.putObj_heap_same h.lt,(World.putObj_heap_other (by omega)).trans h.d⟩
theorem Fo{α:Type}{P:Program}{g:Operand}{ps:Array Tmp}{assign body:Code}{Q:Exit→Act→World→Prop}{a:Act}{w:World}{gf:Nat}{lb:Array Value}
  (hg:a.eval g=.func (.func gf) #[] lb) (eg:∀ args w,(callFunc gf args).run P w=.ok (.enter gf args) w) {encs:α→Array Value} {R:List α} (p q:Nat→Prop) (hp:∀ b,p b→b<w.heap.size) (hq:∀ b,q b→b<w.heap.size)
  (hseq:SeqL P gf lb encs (Keeps p) q R w) (hps:∀ x,(encs x).size=ps.size)
  (I:Nat→World→Prop) (Ix:Code→Nat→World→Prop) (hI:∀ k A B row,I k A→A.grownBy B row→(∀ r,row=some r→q r∨w.heap.size≤r∧∃ o:Obj,A.heap[r]? = some o∧o.isCells=false)→I k B)
  (hIx:∀ c k A B row,Ix c k A→A.grownBy B row→(∀ r,row=some r→w.heap.size≤r∧∃ o:Obj,A.heap[r]? = some o∧o.isCells=false)→Ix c k B) (h0:I 0 w) (a₁:α→Act)
  (hassign:∀ (l k:Nat) (x:α) (W:World) (K:Act→World→Prop),R[k]? = some x→K (a₁ x) W →
   assign.wpIn (Fence.wide.inRound l) 2 P (Exit.then K (fun _ _ _=>False)) { tmps:=(ps.zip (encs x)).foldl (fun t (p,v)=>t.setIfInBounds p v) a.tmps,defers:=[] } W)
  (hbody:∀ (l k:Nat) (x:α) (W:World),w.heap.size≤l→R[k]? = some x→I k W→body.wpIn (Fence.wide.inRound l) 2 P (rdPost w.heap.size (Keeps p) I Ix k W) (a₁ x) W)
  (hdone:∀ (D:Nat) (W:World),w.heap.size≤D→I R.length W→W.heap[D]? = some (.deferred (some []))→Q .normal { a with defers:={ target:=.collected D,args:=#[] }::a.defers } W)
  (hstop:∀ (D:Nat) (c:Code) (k:Nat) (W:World),w.heap.size≤D→k<R.length→Ix c k W→W.heap[D]? = some (.deferred (some []))→c.wp P Q { a with defers:={ target:=.collected D,args:=#[] }::a.defers } W) :
  (Code.rangeFunc g ps assign body).wp P Q a w:=by
 refine(wpIn_wide (n:=4)).1 (wpIn_rangeFunc fun fn _=>?_)
 obtain⟨a2,a0⟩:∃ a2:LoopState→Option Code→Loop,a2=fun st pe=>{ state:=st,pending:=pe,fn,tmps:=a.tmps,params:=ps,assign,body,defers:=w.heap.size }:=⟨_,rfl⟩
 obtain⟨W1,b0⟩:∃ W1,(w.alloc (.deferred (some []))).alloc (.loop (a2 .ready none))=W1:=⟨_,rfl⟩
 have b6:RecAt w.heap.size (a2 .ready none) W1:=by
  rw[←b0]
  refine⟨?_,(Below.heap_alloc _ _ _ (by simp)).trans (World.alloc_heap_new w _)⟩
  have:=World.alloc_heap_new (w.alloc (.deferred (some []))) (.loop (a2 .ready none))
  rwa [World.size_alloc] at this
 have c0:I 0 W1:=by
  rw[←b0]
  exact hI _ _ _ none (hI _ _ _ none h0 (World.grownBy_alloc _ _ _) (fun _ e=>by cases e)) (World.grownBy_alloc _ _ _) (fun _ e=>by cases e)
 have b5:B0 w W1:=by
  rw[←b0];exact((Below.refl _ w).alloc (Nat.le_refl _) _).alloc (by simp) _
 refine⟨w.heap.size+1,[{ target:=.collected w.heap.size,args:=#[] }],W1,{ target:=.fn (.func gf) lb,args:=#[.func (.yield (w.heap.size+1)) #[] #[]] },W1,gf,
  #[.func (.yield (w.heap.size+1)) #[] #[]]++lb,W1,?_,?_,fun _ _=>trivial,?_,fun _=>by omega,?_⟩
 ·rw[←b0,a0];exact run_enterLoop_outer _ _ _ _ _
 ·simp only[resolve,hg]
  simp[go_sem]
 ·simp[invoke,go_sem,eg]
 refine(hseq (w.heap.size+1) (fun k W=>I k W∧RecAt w.heap.size (a2 .ready none) W) (fun k W=>∃ c,Ix c k W∧RecAt w.heap.size (a2 .done (some c)) W) W1 b5
  (fun k A B row hs b4 hr=>⟨hI _ _ _ _ hs.1 b4 (fun r e=>.inl (hr r e)),hs.2.kept b4 (fun r e=>hq r (hr r e))⟩) ?_ ⟨c0,b6⟩).mono ?_
 ·rintro k x W hx ⟨hi,hl⟩
  have hy:=run_yield (P:=P) (args:=encs x) hl.l (by rw[a0];exact hps x)
  rw[a0] at hy
  refine⟨fn,_,assign,body,hy,roundIn_of_wpIn trivial (hassign _ k x W _ hx ⟨_,run_beginRound hl.l (by rw[a0]),?_⟩)⟩
  obtain⟨Wb,a9⟩:∃ Wb,W.putObj (w.heap.size+1) (.loop { a2 .ready none with state:=.busy })=Wb:=⟨_,rfl⟩
  have b7:RecAt w.heap.size (a2 .busy none) Wb:=by
   have:=hl.put (a2 .busy none)
   rw[a0] at this a9
   rw[a9] at this
   rw[a0]
   exact this
  have b9:I k Wb:=by
   rw[←a9]
   exact hI _ _ _ _ hi (grownBy_putObj' W _ _) (fun r e=>.inr (by cases e;exact⟨by omega,_,hl.l,rfl⟩))
  have b8:Keeps p W Wb:=by
   rw[←a9]
   exact Tg hp W _ _ _ (by omega) hl.l rfl rfl
  rw[a9]
  refine wpIn_mono (hbody _ k x Wb (by omega) hx b9) ?_
  have b1:∀ (a1:Option Code) (V:World),KeepsFrom w.heap.size Wb V→RecAt w.heap.size (a2 .busy none) V∧∃ U,U=V.putObj (w.heap.size+1) (.loop (a2 (if a1.isNone then .ready else .done) a1)) ∧
    (Instr.endRound (w.heap.size+1) a1).run P V=.ok (.bool a1.isNone) U∧RecAt w.heap.size (a2 (if a1.isNone then .ready else .done) a1) U:=fun a1 V hk=>by
   have hv:=b7.from hk
   have he:=run_endRound (P:=P) a1 hv.l
   refine⟨hv,_,rfl,?_,hv.put _⟩
   rw[a0] at he ⊢
   exact he
  have b2:∀ {V:World} {r r':Loop} {k:Nat},RecAt w.heap.size r V→I k V→I k (V.putObj (w.heap.size+1) (.loop r')):=fun hv h=>hI _ _ _ _ h (grownBy_putObj' _ _ _) (fun r e=>.inr (by cases e;exact⟨by omega,_,hv.l,rfl⟩))
  have a8:∀ {V:World} {r r':Loop} {c:Code} {k:Nat},RecAt w.heap.size r V→Ix c k V→Ix c k (V.putObj (w.heap.size+1) (.loop r')):=fun hv h=>hIx _ _ _ _ _ h (grownBy_putObj' _ _ _) (fun r e=>by cases e;exact⟨by omega,_,hv.l,rfl⟩)
  rintro e a3 V a4
  cases e with
  | normal =>
   obtain⟨a7,b3,a6⟩:=a4
   obtain⟨hv,U,rfl,hr,a5⟩:=b1 none V a7
   exact⟨_,_,hr,.inl ⟨rfl,⟨b2 hv a6,a5⟩,(b8.trans b3).trans (Tg hp V _ _ _ (by omega) hv.l rfl rfl)⟩⟩
  | ret =>
   obtain⟨a7,a6⟩:=a4
   obtain⟨hv,U,rfl,hr,a5⟩:=b1 (some .ret) V a7
   exact⟨_,_,hr,.inr ⟨rfl,.ret,a8 hv a6,a5⟩⟩
  | exit id =>
   obtain⟨a7,a6⟩:=a4
   obtain⟨hv,U,rfl,hr,a5⟩:=b1 (some (.exit id)) V a7
   exact⟨_,_,hr,.inr ⟨rfl,.exit id,a8 hv a6,a5⟩⟩
  | goto t=>exact a4.elim
  | panic ch=>exact a4.elim
  | outgrown=>exact a4.elim
 ·rintro e W2 ⟨⟨v,rfl⟩,(⟨hi,hl⟩|⟨k,hk,c,hi,hl⟩)⟩
  ·have he:=run_endLoop (P:=P) hl.l (by rw[a0];simp)
   rw[show(a2 .ready none).pending=none by rw[a0]] at he
   exact⟨none,_,he,hdone _ _ (Nat.le_refl _) (hI _ _ _ _ hi (grownBy_putObj' _ _ _) (fun r e=>.inr (by cases e;exact⟨by omega,_,hl.l,rfl⟩))) ((World.putObj_heap_other (by omega)).trans hl.d)⟩
  ·have he:=run_endLoop (P:=P) hl.l (by rw[a0];simp)
   rw[show(a2 .done (some c)).pending=some c by rw[a0]] at he
   exact⟨some c,_,he,wpIn_wide.2 (hstop _ c k _ (Nat.le_refl _) hk (hIx _ _ _ _ _ hi (grownBy_putObj' _ _ _) (fun r e=>by cases e;exact⟨by omega,_,hl.l,rfl⟩)) ((World.putObj_heap_other (by omega)).trans hl.d))⟩
end Go.Proofs.YtegcamkgeacjfaaGreatDoor
namespace Go.Proofs.YtegcamkgeacjfaaGreatDoor
set_option maxHeartbeats 8000000
set_option maxRecDepth 100000
open Go.RowKit Go.Extern.Stop Go.Stop Go.Extern
set_option linter.unusedVariables false
attribute [local irreducible] wpList wpAnyH Code.wp Oper.wp Go
abbrev Rnd:=Option Nat×Option Nat
def Xd(i j:Nat)(a b:List Ent):List Rnd :=
 match a,b with
 | [],[]=>[]
 | [],_::b=>(none,some j)::Xd i (j+1) [] b
 | _::a,[]=>(some i,none)::Xd (i+1) j a []
 | x::a,y::b =>
  if x.1=y.1 then(some i,some j)::Xd (i+1) (j+1) a b
  else if x.1<y.1 then(some i,none)::Xd (i+1) j a (y::b)
  else(none,some j)::Xd i (j+1) (x::a) b
termination_by a.length+b.length
theorem Nj(i j:Nat):Xd i j [] []=[]:=by rw[Xd]
theorem Mg(i j:Nat)(y:Ent)(b:List Ent):Xd i j [] (y::b)=(none,some j)::Xd i (j+1) [] b:=by rw[Xd]
theorem Mr(i j:Nat)(x:Ent)(a:List Ent):Xd i j (x::a) []=(some i,none)::Xd (i+1) j a []:=by rw[Xd]
theorem Nd{i j:Nat}{x y:Ent}{a b:List Ent}(h:x.1=y.1):Xd i j (x::a) (y::b)=(some i,some j)::Xd (i+1) (j+1) a b:=by rw[Xd,if_pos h]
theorem Pz{i j:Nat}{x y:Ent}{a b:List Ent}(h:x.1<y.1):Xd i j (x::a) (y::b)=(some i,none)::Xd (i+1) j a (y::b):=by rw[Xd,if_neg (by omega),if_pos h]
theorem Lb{i j:Nat}{x y:Ent}{a b:List Ent}(h:y.1<x.1):Xd i j (x::a) (y::b)=(none,some j)::Xd i (j+1) (x::a) b:=by rw[Xd,if_neg (by omega),if_neg (by omega)]
def Rk(r:Rnd):Bool:=r.1.isSome&&r.2.isSome
theorem Nb:∀ (a b:List Ent) (i j:Nat),(Xd i j a b).all Rk=true→Vw a b=0∧Xd i j a b=(List.range a.length).map fun k=>(some (i+k),some (j+k))
 | [],[],i,j,_=>⟨rfl,by rw[Nj];rfl⟩
 | [],y::b,i,j,h=>by rw[Mg] at h;simp[Rk] at h
 | x::a,[],i,j,h=>by rw[Mr] at h;simp[Rk] at h
 | x::a,y::b,i,j,h=>by
  by_cases e:x.1=y.1
  ·rw[Nd e] at h ⊢
   rw[List.all_cons] at h
   obtain⟨h1,h2⟩:=Nb a b (i+1) (j+1) (by simpa [Rk] using h)
   refine⟨?_,?_⟩
   ·show(if x.1=y.1 then Vw a b else _)=0
    rw[if_pos e,h1]
   ·rw[h2,List.length_cons,List.range_succ_eq_map,List.map_cons,List.map_map]
    congr 1
    apply List.map_congr_left
    intro k _
    simp only[Function.comp,Nat.succ_eq_add_one]
    congr 2<;>omega
  ·by_cases q:x.1<y.1
   ·rw[Pz q] at h;simp[Rk] at h
   ·rw[Lb (by omega)] at h;simp[Rk] at h
theorem Jb:∀ (a b:List Ent) (i j k:Nat) (r:Rnd),((Xd i j a b).take k).all Rk=true→(Xd i j a b)[k]? = some r→Rk r=false→Vw a b=(if r.1=none then 1 else 2)
 | [],[],i,j,k,r,_,h,_=>by rw[Nj] at h;simp at h
 | [],y::b,i,j,k,r,hp,h,hr=>by
  rw[Mg] at hp h
  cases k with
  | zero=>simp at h;subst h;rfl
  | succ k=>simp[Rk] at hp
 | x::a,[],i,j,k,r,hp,h,hr=>by
  rw[Mr] at hp h
  cases k with
  | zero=>simp at h;subst h;rfl
  | succ k=>simp[Rk] at hp
 | x::a,y::b,i,j,k,r,hp,h,hr=>by
  by_cases e:x.1=y.1
  ·rw[Nd e] at hp h
   cases k with
   | zero=>simp at h;subst h;simp[Rk] at hr
   | succ k =>
    have ih:=Jb a b (i+1) (j+1) k r (by simpa [Rk] using hp) (by simpa using h) hr
    show(if x.1=y.1 then Vw a b else _)=_
    rw[if_pos e,ih]
  ·by_cases q:x.1<y.1
   ·rw[Pz q] at hp h
    cases k with
    | zero =>
     simp at h;subst h
     show(if x.1=y.1 then Vw a b else if x.1<y.1 then 2 else 1)=2
     rw[if_neg e,if_pos q]
    | succ k=>simp[Rk] at hp
   ·rw[Lb (by omega)] at hp h
    cases k with
    | zero =>
     simp at h;subst h
     show(if x.1=y.1 then Vw a b else if x.1<y.1 then 2 else 1)=1
     rw[if_neg e,if_neg q]
    | succ k=>simp[Rk] at hp
end Go.Proofs.YtegcamkgeacjfaaGreatDoor
namespace Go.Proofs.YtegcamkgeacjfaaGreatDoor
set_option maxHeartbeats 8000000
set_option maxRecDepth 100000
open Go.RowKit
set_option linter.unusedVariables false
attribute [local go_sem] Oper.semAt_some
def Su(g off n cap:Nat)(i:Nat)(v:Value):Prop:=(i=n∧∃ a c,v=.slice a 0 c)∨(i<n∧n≤cap∧v=.slice (some ⟨g,off+3*i,none⟩) (n-i) (cap-i))
def Pg(g off:Nat):Option Nat→Value
 | none=>.pointer none
 | some i=>.pointer (some ⟨g,off+3*i,none⟩)
def encR(ga oa gb ob:Nat)(r:Rnd):Array Value:=#[Pg ga oa r.1,Pg gb ob r.2]
def lenAt(W:World)(b:Nat):Nat:=match W.cell? ⟨b,0,none⟩ with
 | some (.slice _ n _)=>n
 | _=>0
theorem Xs{W:World}{b n c:Nat}{a:O0}{t:TypeId}(h:Blk W b [.slice a n c] t):lenAt W b=n:=by
 unfold lenAt
 rw[h.cell (i:=0) rfl]
theorem Ha{α:Type}{L:List α}{k:Nat}{x:α}{r:List α}(h:L.drop k=x::r):L[k]? = some x∧k<L.length∧L.drop (k+1)=r:=by
 have h1:k<L.length:=by
  rcases Nat.lt_or_ge k L.length with q|q
  ·exact q
  ·rw[List.drop_eq_nil_of_le q] at h;cases h
 rw[List.drop_eq_getElem_cons h1] at h
 simp only[List.cons.injEq] at h
 exact⟨by rw[List.getElem?_eq_getElem h1,h.1],h1,h.2⟩
theorem Kc{A:List Ent}{i n:Nat}(hA:A.length=n)(hi:i<n):A.drop i=A.getD i Zg::A.drop (i+1):=by
 subst hA
 rw[List.drop_eq_getElem_cons hi,show A.getD i Zg=A[i] from by simp[List.getD,hi]]
theorem Hl{T:Nat→Prop}{W X V:World}{B k B1 B2:Nat}{u x:Value}{t:TypeId}{J:Nat→World→Prop}(hV:X.setCell ⟨B,0,none⟩ u=V)(m:Blk X B [x] t)(hT:¬ T B)(hB:B=B1∨B=B2)
 (hJ:∀ k X Y row,J k X→X.grownBy Y row→(∀ r,row=some r→r=B1∨r=B2)→J k Y) (hK:Keeps T W X) (h:J k X):Blk V B [u] t∧Keeps T W V∧J k V∧∀ b cs t',b≠B→Blk X b cs t'→Blk V b cs t':=by
 subst hV
 exact⟨m.set 0 u,hK.setCell hT u,hJ _ _ _ _ h (grownBy_setCell' X B u) (fun r e=>by cases e;exact hB),fun b cs t' hb h'=>h'.other (p:=⟨B,0,none⟩) hb u⟩
theorem Ki{T:Nat→Prop}{W X:World}{N k B1 B2:Nat}{J:Nat→World→Prop}(hJ:∀ k X Y row,J k X→X.grownBy Y row→(∀ r,row=some r→r=B1∨r=B2)→J k Y)(hK:Keeps T W X)(h:J k X):Keeps T W (X.drewN N)∧J k (X.drewN N) :=
 ⟨hK.trans ⟨Nat.le_refl _,fun _ _=>rfl⟩,hJ _ _ _ none h ⟨rfl,rfl,rfl,Nat.le_refl _,fun _ _ _=>rfl⟩ (fun _ e=>by cases e)⟩
theorem Va{g off n cap i m:Nat}(hi:i<n)(hm:n-i=m+1)(hc:n≤cap):(cap-i=1→Su g off n cap (i+1) (.slice (some ⟨g,off+3*i,none⟩) m 0))∧(Su g off n cap (i+1) (.slice (some ⟨g,off+3*i+3,none⟩) m (cap-i-1))):=by
 refine⟨fun h=>?_,?_⟩
 ·obtain rfl:m=0:=by omega
  exact .inl ⟨by omega,_,_,rfl⟩
 ·by_cases h:m=0
  ·subst h;exact .inl ⟨by omega,_,_,rfl⟩
  ·refine .inr ⟨by omega,hc,?_⟩
   rw[show off+3*(i+1)=off+3*i+3 by omega,show n-(i+1)=m by omega,show cap-(i+1)=cap-i-1 by omega]
theorem Qa{T:Nat→Prop}{V U:World}{b:Nat}{cs:List Value}{t:TypeId}(h:Keeps T V U)(hb:T b)(m:Blk V b cs t):Blk U b cs t:=(h.block b hb).trans m
theorem Zej(l B1 B2:Nat)(ga oa na ca gb ob nb cb:Nat)(A E:List Ent)(hA:A.length=na)(hE:E.length=nb)(hna:na≤1000000)(hnb:nb≤1000000)(hB:B1≠B2)(T:Nat→Prop)(hT1:¬ T B1)(hT2:¬ T B2)
  (J Jx:Nat→World→Prop)
  (hJ:∀ k X Y row,J k X→X.grownBy Y row→(∀ r,row=some r→r=B1∨r=B2)→J k Y)
  (hY:∀ k x V,(Xd 0 0 A E)[k]? = some x→J k V→YieldAt Fence.wide 2 Tryz.prog l (encR ga oa gb ob x) V fun e U =>
   (e=.returned (.bool true)∧J (k+1) U∧Keeps (fun b=>b=B1∨b=B2∨T b) V U)∨(e=.returned (.bool false)∧Jx k U))
  (W:World) (va vb:Value) (k1:Blk W B1 [va] 88) (k2:Blk W B2 [vb] 88) (hva:Su ga oa na ca 0 va) (hvb:Su gb ob nb cb 0 vb)
  (hkA:∀ i,i<na→W.cell? ⟨ga,oa+3*i,none⟩=some (V0 (A.getD i Zg).1)∧T ga) (hkE:∀ i,i<nb→W.cell? ⟨gb,ob+3*i,none⟩=some (V0 (E.getD i Zg).1)∧T gb) (h0:J 0 W) :
  CallsIn Fence.wide 3 Tryz.prog 128 #[.func (.yield l) #[] #[],P0 B1,P0 B2] W fun e W'=>(∃ v,e=.returned v)∧(J (Xd 0 0 A E).length W'∨∃ k,k<(Xd 0 0 A E).length∧Jx k W'):=by
 refine callsIn_of_wp Tryz.func128 rfl trivial ?_ rfl
 simp only[Tryz.ntmps128,List.size_toArray,List.length_cons,List.length_nil,Nat.reduceAdd,Nat.reduceSub,Array.replicate_succ,Array.replicate_zero,List.push_toArray,List.append_toArray,List.nil_append,List.cons_append]
 gi_wp2
 gi_loopw [] (fun wr=>∃ (k i j:Nat) (va vb:Value),i≤na∧j≤nb∧k≤(Xd 0 0 A E).length∧(Xd 0 0 A E).drop k=Xd i j (A.drop i) (E.drop j)∧Blk wr B1 [va] 88∧Blk wr B2 [vb] 88∧Su ga oa na ca i va∧Su gb ob nb cb j vb∧J k wr∧Keeps T W wr)
  (fun wr=>lenAt wr B1+lenAt wr B2)
 case atStart=>exact⟨0,0,0,va,vb,Nat.zero_le _,Nat.zero_le _,Nat.zero_le _,by simp,k1,k2,hva,hvb,h0,Keeps.refl _ _⟩
 case round =>
  obtain⟨k,i,j,va,vb,hi,hj,hk,d4,m1,m2,hva,hvb,b3,a8⟩:=hrel
  have c3:=hva
  have c8:=hvb
  rcases hva with ⟨rfl,a1,c1,rfl⟩|⟨a7,b6,rfl⟩
  ·rcases hvb with ⟨rfl,a2,c2,rfl⟩|⟨a3,d5,rfl⟩
   ·have e4:(Xd 0 0 A E).drop k=[]:=by rw[d4,show A.drop i=[] from List.drop_eq_nil_of_le (by omega),show E.drop j=[] from List.drop_eq_nil_of_le (by omega),Nj]
    have d8:k=(Xd 0 0 A E).length:=by
     have:=List.drop_eq_nil_iff.1 e4;omega
    have z1:=m1.cell (i:=0) rfl
    have z2:=m2.cell (i:=0) rfl
    have f1:=m1.frozen 0
    have f2:=m2.frozen 0
    gi_wp2
    go_end0
    exact⟨⟨_,rfl⟩,.inl (d8▸b3)⟩
   ·have b8:(Xd 0 0 A E).drop k=(none,some j)::Xd i (j+1) (A.drop i) (E.drop (j+1)):=by rw[d4,show A.drop i=[] from List.drop_eq_nil_of_le (by omega),Kc hE a3,Mg]
    obtain⟨hx,a9,a5⟩:=Ha b8
    obtain⟨p,hp⟩:∃ m,nb-j=m+1:=⟨nb-j-1,by omega⟩
    rw[hp] at m2
    have c7:=Va (g:=gb) (off:=ob) a3 hp d5
    have d7:=Lib.hid hp;clear hp
    have y2:wr.cell? ⟨gb,ob+3*j,none⟩=some (V0 (E.getD j Zg).1):=(a8.cell (hkE j a3).2).trans (hkE j a3).1
    have c5:=Xs m1
    have c6:=Xs m2
    have z1:=m1.cell (i:=0) rfl
    have z2:=m2.cell (i:=0) rfl
    have f1:=m1.frozen 0
    have f2:=m2.frozen 0
    gi_wp2
    gi_big_quiet_th (fail)
    gi_wp2
    gi_big_quiet_th (fail)
    gi_wp2
    all_goals
     generalize hV:World.setCell _ _ _=V
     obtain⟨q2,b9,b4,c0⟩:=Hl (x:=_) (B1:=B1) (B2:=B2) hV m2 hT2 (.inr rfl) hJ (Ki hJ a8 b3).1 (Ki hJ a8 b3).2
     have q1:=c0 _ _ _ hB m1
     obtain⟨fn,b5,a4,d3,hy,hR⟩:=hY k (none,some j) V hx b4
     have b0:=hy;clear hy
     simp only[encR,Pg] at b0
     rw[b0]
     refine⟨fun _=>by omega,hR.mono ?_⟩
     rintro e U (⟨rfl,c9,a0⟩|⟨rfl,a6⟩)
     ·have r1:=Qa a0 (.inl rfl) q1
      have r2:=Qa a0 (.inr (.inl rfl)) q2
      have d0:=Xs r1
      have b7:=Xs r2
      gi_wp2
      go_roundw
      case rel =>
       exact⟨k+1,_,j+1,_,_,hi,a3,a9,a5,r1,r2,(by first|exact c3|(rw[←d6.out];exact c3)),(by first|exact c7.2|exact c7.1 (by omega)),c9,b9.trans ⟨a0.size,fun b hb=>a0.block b (.inr (.inr hb))⟩⟩
      case measure=>rw[d0,b7,c5,c6];omega
     ·gi_wp2
      refine bodyPost_ret (results_none rfl _ _ _) rfl ?_
      exact⟨⟨_,rfl⟩,.inr ⟨k,a9,a6⟩⟩
  ·rcases hvb with ⟨rfl,a2,c2,rfl⟩|⟨a3,d5,rfl⟩
   ·have b8:(Xd 0 0 A E).drop k=(some i,none)::Xd (i+1) j (A.drop (i+1)) (E.drop j):=by rw[d4,show E.drop j=[] from List.drop_eq_nil_of_le (by omega),Kc hA a7,Mr]
    obtain⟨hx,a9,a5⟩:=Ha b8
    obtain⟨m,hm⟩:∃ m,na-i=m+1:=⟨na-i-1,by omega⟩
    rw[hm] at m1
    have c4:=Va (g:=ga) (off:=oa) a7 hm b6
    have d6:=Lib.hid hm;clear hm
    have y1:wr.cell? ⟨ga,oa+3*i,none⟩=some (V0 (A.getD i Zg).1):=(a8.cell (hkA i a7).2).trans (hkA i a7).1
    have c5:=Xs m1
    have c6:=Xs m2
    have z1:=m1.cell (i:=0) rfl
    have z2:=m2.cell (i:=0) rfl
    have f1:=m1.frozen 0
    have f2:=m2.frozen 0
    gi_wp2
    gi_big_quiet_th (fail)
    gi_wp2
    gi_big_quiet_th (fail)
    gi_wp2
    all_goals
     generalize hV:World.setCell _ _ _=V
     obtain⟨q1,b9,b4,c0⟩:=Hl (x:=_) (B1:=B1) (B2:=B2) hV m1 hT1 (.inl rfl) hJ (Ki hJ a8 b3).1 (Ki hJ a8 b3).2
     have q2:=c0 _ _ _ (Ne.symm hB) m2
     obtain⟨fn,b5,a4,d3,hy,hR⟩:=hY k (some i,none) V hx b4
     have b0:=hy;clear hy
     simp only[encR,Pg] at b0
     rw[b0]
     refine⟨fun _=>by omega,hR.mono ?_⟩
     rintro e U (⟨rfl,c9,a0⟩|⟨rfl,a6⟩)
     ·have r1:=Qa a0 (.inl rfl) q1
      have r2:=Qa a0 (.inr (.inl rfl)) q2
      have d0:=Xs r1
      have b7:=Xs r2
      gi_wp2
      go_roundw
      case rel =>
       exact⟨k+1,i+1,_,_,_,a7,hj,a9,a5,r1,r2,(by first|exact c4.2|exact c4.1 (by omega)),(by first|exact c8|(rw[←d7.out];exact c8)),c9,b9.trans ⟨a0.size,fun b hb=>a0.block b (.inr (.inr hb))⟩⟩
      case measure=>rw[d0,b7,c5,c6];omega
     ·gi_wp2
      refine bodyPost_ret (results_none rfl _ _ _) rfl ?_
      exact⟨⟨_,rfl⟩,.inr ⟨k,a9,a6⟩⟩
   ·by_cases hc:(A.getD i Zg).1=(E.getD j Zg).1
    ·have b8:(Xd 0 0 A E).drop k=(some i,some j)::Xd (i+1) (j+1) (A.drop (i+1)) (E.drop (j+1)):=by rw[d4,Kc hA a7,Kc hE a3,Nd hc]
     obtain⟨hx,a9,a5⟩:=Ha b8
     obtain⟨m,hm⟩:∃ m,na-i=m+1:=⟨na-i-1,by omega⟩
     rw[hm] at m1
     have c4:=Va (g:=ga) (off:=oa) a7 hm b6
     have d6:=Lib.hid hm;clear hm
     have y1:wr.cell? ⟨ga,oa+3*i,none⟩=some (V0 (A.getD i Zg).1):=(a8.cell (hkA i a7).2).trans (hkA i a7).1
     obtain⟨p,hp⟩:∃ m,nb-j=m+1:=⟨nb-j-1,by omega⟩
     rw[hp] at m2
     have c7:=Va (g:=gb) (off:=ob) a3 hp d5
     have d7:=Lib.hid hp;clear hp
     have y2:wr.cell? ⟨gb,ob+3*j,none⟩=some (V0 (E.getD j Zg).1):=(a8.cell (hkE j a3).2).trans (hkE j a3).1
     have c5:=Xs m1
     have c6:=Xs m2
     obtain⟨ya,b2⟩:∃ y,(A.getD i Zg).1=y:=⟨_,rfl⟩
     obtain⟨yb,b1⟩:∃ y,(E.getD j Zg).1=y:=⟨_,rfl⟩
     rw[b2] at y1
     rw[b1] at y2
     have d1:decide (ya≤yb)=true:=by simp;omega
     have d2:decide (yb≤ya)=true:=by simp;omega
     have w1:(ya≤yb)=True:=by simp;omega
     have w2:(yb≤ya)=True:=by simp;omega
     have e1:((p:Int)+1==0)=false:=beq_false_of_ne (by omega)
     have e2:((m:Int)+1==0)=false:=beq_false_of_ne (by omega)
     have b2:=Lib.hid b2
     have b1:=Lib.hid b1
     clear d1 d2
     have z1:=m1.cell (i:=0) rfl
     have z2:=m2.cell (i:=0) rfl
     have f1:=m1.frozen 0
     have f2:=m2.frozen 0
     gi_wp2
     gi_big_quiet_th (fail)
     gi_wp2
     gi_big_quiet_th (fail)
     gi_wp2
     all_goals
      generalize hV:World.setCell (World.setCell _ _ _) _ _=V
      generalize hX:World.setCell (World.drewN _ _) _ _=X at hV
      obtain⟨q1,d9,e0,e3⟩:=Hl (x:=_) (B1:=B1) (B2:=B2) hX m1 hT1 (.inl rfl) hJ (Ki hJ a8 b3).1 (Ki hJ a8 b3).2
      obtain⟨q2,b9,b4,c0⟩:=Hl (x:=_) (B1:=B1) (B2:=B2) hV (e3 _ _ _ (Ne.symm hB) m2) hT2 (.inr rfl) hJ d9 e0
      replace q1:=c0 _ _ _ hB q1
      obtain⟨fn,b5,a4,d3,hy,hR⟩:=hY k (some i,some j) V hx b4
      have b0:=hy;clear hy
      simp only[encR,Pg] at b0
      rw[b0]
      refine⟨fun _=>by omega,hR.mono ?_⟩
      rintro e U (⟨rfl,c9,a0⟩|⟨rfl,a6⟩)
      ·have r1:=Qa a0 (.inl rfl) q1
       have r2:=Qa a0 (.inr (.inl rfl)) q2
       have d0:=Xs r1
       have b7:=Xs r2
       gi_wp2
       go_roundw
       case rel =>
        exact⟨k+1,i+1,j+1,_,_,a7,a3,a9,a5,r1,r2,(by first|exact c4.2|exact c4.1 (by omega)),(by first|exact c7.2|exact c7.1 (by omega)),c9,b9.trans ⟨a0.size,fun b hb=>a0.block b (.inr (.inr hb))⟩⟩
       case measure=>rw[d0,b7,c5,c6];omega
      ·gi_wp2
       refine bodyPost_ret (results_none rfl _ _ _) rfl ?_
       exact⟨⟨_,rfl⟩,.inr ⟨k,a9,a6⟩⟩
    ·by_cases hl:(A.getD i Zg).1<(E.getD j Zg).1
     ·have b8:(Xd 0 0 A E).drop k=(some i,none)::Xd (i+1) j (A.drop (i+1)) (E.drop j):=by rw[d4,Kc hA a7,Kc hE a3,Pz hl]
      obtain⟨hx,a9,a5⟩:=Ha b8
      obtain⟨m,hm⟩:∃ m,na-i=m+1:=⟨na-i-1,by omega⟩
      rw[hm] at m1
      have c4:=Va (g:=ga) (off:=oa) a7 hm b6
      have d6:=Lib.hid hm;clear hm
      have y1:wr.cell? ⟨ga,oa+3*i,none⟩=some (V0 (A.getD i Zg).1):=(a8.cell (hkA i a7).2).trans (hkA i a7).1
      obtain⟨p,hp⟩:∃ m,nb-j=m+1:=⟨nb-j-1,by omega⟩
      rw[hp] at m2
      have c7:=Va (g:=gb) (off:=ob) a3 hp d5
      have d7:=Lib.hid hp;clear hp
      have y2:wr.cell? ⟨gb,ob+3*j,none⟩=some (V0 (E.getD j Zg).1):=(a8.cell (hkE j a3).2).trans (hkE j a3).1
      have c5:=Xs m1
      have c6:=Xs m2
      obtain⟨ya,b2⟩:∃ y,(A.getD i Zg).1=y:=⟨_,rfl⟩
      obtain⟨yb,b1⟩:∃ y,(E.getD j Zg).1=y:=⟨_,rfl⟩
      rw[b2] at y1
      rw[b1] at y2
      have d1:decide (ya≤yb)=true:=by simp;omega
      have d2:decide (yb≤ya)=false:=by simp;omega
      have w1:(ya≤yb)=True:=by simp;omega
      have w2:(yb≤ya)=False:=by simp;omega
      have e1:((p:Int)+1==0)=false:=beq_false_of_ne (by omega)
      have e2:((m:Int)+1==0)=false:=beq_false_of_ne (by omega)
      have b2:=Lib.hid b2
      have b1:=Lib.hid b1
      clear d1 d2
      have z1:=m1.cell (i:=0) rfl
      have z2:=m2.cell (i:=0) rfl
      have f1:=m1.frozen 0
      have f2:=m2.frozen 0
      gi_wp2
      gi_big_quiet_th (fail)
      gi_wp2
      gi_big_quiet_th (fail)
      gi_wp2
      all_goals
       generalize hV:World.setCell _ _ _=V
       obtain⟨q1,b9,b4,c0⟩:=Hl (x:=_) (B1:=B1) (B2:=B2) hV m1 hT1 (.inl rfl) hJ (Ki hJ a8 b3).1 (Ki hJ a8 b3).2
       have q2:=c0 _ _ _ (Ne.symm hB) m2
       obtain⟨fn,b5,a4,d3,hy,hR⟩:=hY k (some i,none) V hx b4
       have b0:=hy;clear hy
       simp only[encR,Pg] at b0
       rw[b0]
       refine⟨fun _=>by omega,hR.mono ?_⟩
       rintro e U (⟨rfl,c9,a0⟩|⟨rfl,a6⟩)
       ·have r1:=Qa a0 (.inl rfl) q1
        have r2:=Qa a0 (.inr (.inl rfl)) q2
        have d0:=Xs r1
        have b7:=Xs r2
        gi_wp2
        go_roundw
        case rel =>
         exact⟨k+1,i+1,_,_,_,a7,hj,a9,a5,r1,r2,(by first|exact c4.2|exact c4.1 (by omega)),(by first|exact c8|(rw[←d7.out];exact c8)),c9,b9.trans ⟨a0.size,fun b hb=>a0.block b (.inr (.inr hb))⟩⟩
        case measure=>rw[d0,b7,c5,c6];omega
       ·gi_wp2
        refine bodyPost_ret (results_none rfl _ _ _) rfl ?_
        exact⟨⟨_,rfl⟩,.inr ⟨k,a9,a6⟩⟩
     ·have b8:(Xd 0 0 A E).drop k=(none,some j)::Xd i (j+1) (A.drop i) (E.drop (j+1)):=by rw[d4,Kc hA a7,Kc hE a3,Lb (show(E.getD j Zg).1<(A.getD i Zg).1 by omega)]
      obtain⟨hx,a9,a5⟩:=Ha b8
      obtain⟨m,hm⟩:∃ m,na-i=m+1:=⟨na-i-1,by omega⟩
      rw[hm] at m1
      have c4:=Va (g:=ga) (off:=oa) a7 hm b6
      have d6:=Lib.hid hm;clear hm
      have y1:wr.cell? ⟨ga,oa+3*i,none⟩=some (V0 (A.getD i Zg).1):=(a8.cell (hkA i a7).2).trans (hkA i a7).1
      obtain⟨p,hp⟩:∃ m,nb-j=m+1:=⟨nb-j-1,by omega⟩
      rw[hp] at m2
      have c7:=Va (g:=gb) (off:=ob) a3 hp d5
      have d7:=Lib.hid hp;clear hp
      have y2:wr.cell? ⟨gb,ob+3*j,none⟩=some (V0 (E.getD j Zg).1):=(a8.cell (hkE j a3).2).trans (hkE j a3).1
      have c5:=Xs m1
      have c6:=Xs m2
      obtain⟨ya,b2⟩:∃ y,(A.getD i Zg).1=y:=⟨_,rfl⟩
      obtain⟨yb,b1⟩:∃ y,(E.getD j Zg).1=y:=⟨_,rfl⟩
      rw[b2] at y1
      rw[b1] at y2
      have d1:decide (ya≤yb)=false:=by simp;omega
      have d2:decide (yb≤ya)=true:=by simp;omega
      have w1:(ya≤yb)=False:=by simp;omega
      have w2:(yb≤ya)=True:=by simp;omega
      have e1:((p:Int)+1==0)=false:=beq_false_of_ne (by omega)
      have e2:((m:Int)+1==0)=false:=beq_false_of_ne (by omega)
      have b2:=Lib.hid b2
      have b1:=Lib.hid b1
      clear d1 d2
      have z1:=m1.cell (i:=0) rfl
      have z2:=m2.cell (i:=0) rfl
      have f1:=m1.frozen 0
      have f2:=m2.frozen 0
      gi_wp2
      gi_big_quiet_th (fail)
      gi_wp2
      gi_big_quiet_th (fail)
      gi_wp2
      all_goals
       generalize hV:World.setCell _ _ _=V
       obtain⟨q2,b9,b4,c0⟩:=Hl (x:=_) (B1:=B1) (B2:=B2) hV m2 hT2 (.inr rfl) hJ (Ki hJ a8 b3).1 (Ki hJ a8 b3).2
       have q1:=c0 _ _ _ hB m1
       obtain⟨fn,b5,a4,d3,hy,hR⟩:=hY k (none,some j) V hx b4
       have b0:=hy;clear hy
       simp only[encR,Pg] at b0
       rw[b0]
       refine⟨fun _=>by omega,hR.mono ?_⟩
       rintro e U (⟨rfl,c9,a0⟩|⟨rfl,a6⟩)
       ·have r1:=Qa a0 (.inl rfl) q1
        have r2:=Qa a0 (.inr (.inl rfl)) q2
        have d0:=Xs r1
        have b7:=Xs r2
        gi_wp2
        go_roundw
        case rel =>
         exact⟨k+1,_,j+1,_,_,hi,a3,a9,a5,r1,r2,(by first|exact c3|(rw[←d6.out];exact c3)),(by first|exact c7.2|exact c7.1 (by omega)),c9,b9.trans ⟨a0.size,fun b hb=>a0.block b (.inr (.inr hb))⟩⟩
        case measure=>rw[d0,b7,c5,c6];omega
       ·gi_wp2
        refine bodyPost_ret (results_none rfl _ _ _) rfl ?_
        exact⟨⟨_,rfl⟩,.inr ⟨k,a9,a6⟩⟩
theorem Za9(a:O0)(n c:Nat)(b:O0)(m d:Nat)(w:World):C0 61 #[.slice a n c,.slice b m d] w fun e w' =>
 e=.returned (.func (.func 128) #[] #[.pointer (some ⟨w.heap.size,0,none⟩),.pointer (some ⟨w.heap.size+1,0,none⟩)]) ∧
 w'=(w.alloc (.cells #[.slice a n c] 88)).alloc (.cells #[.slice b m d] 88):=by
 go_enter Tryz.func61,Tryz.ntmps61
 go_wp2
 go_ret
 exact⟨rfl,rfl⟩
theorem Zd1{w W:World}{p:O0}{n c:Nat}{A:List Ent}(hA:A.length=n)(s:Sts Hp w (.slice p n c) A)(hb:B0 w W) :
 ∃ g o,Su g o n c 0 (.slice p n c)∧(∀ i,i<n→W.cell? ⟨g,o+3*i,none⟩=some (V0 (A.getD i Zg).1)∧g<w.heap.size)∧(n≠0→p=some ⟨g,o,none⟩):=by
 subst hA
 by_cases h0:A.length=0
 ·exact⟨0,0,.inl ⟨h0.symm,p,c,by rw[h0]⟩,fun i hi=>by omega,fun h=>absurd h0 h⟩
 ·have s':Sl w (.slice p A.length c) A.length (A.flatMap Hp):=s
  rcases s' with ⟨a,d,h1,h2,_⟩|⟨g,o,a0,h1,h2,_,h4⟩
  ·simp only[Value.slice.injEq] at h1;omega
  ·simp only[Value.slice.injEq] at h1
   obtain⟨rfl,_,rfl⟩:=h1
   refine⟨g,o,.inr ⟨by omega,h2,by simp⟩,fun i hi=>?_,fun _=>rfl⟩
   have hc:=Cw Xt A i 0 Zg hi (by decide)
   have h5:=h4 (i*3+0) (V0 (A.getD i Zg).1) (hc.trans rfl)
   rw[show o+(i*3+0)=o+3*i by omega] at h5
   refine⟨Uk hb h5,?_⟩
   rcases Nat.lt_or_ge g w.heap.size with q|q
   ·exact q
   ·rw[World.cell?,Array.getElem?_eq_none q] at h5;simp at h5
theorem Pt(a:O0)(n c:Nat)(b:O0)(m d:Nat)(w:World):C0 61 #[.slice a n c,.slice b m d] w (fun e w'=>∃ b1 b2,e=.returned (.func (.func 128) #[] #[P0 b1,P0 b2])∧B0 w w'∧w.heap.size≤b1∧w.heap.size≤b2∧b1≠b2∧Blk w' b1 [.slice a n c] 88∧Blk w' b2 [.slice b m d] 88) :=
 (Za9 a n c b m d w).mono fun e w' ⟨h1,h2⟩=>by
  subst h1 h2
  have h3:(w.alloc (.cells #[.slice a n c] 88)).heap.size=w.heap.size+1:=World.size_alloc _ _
  have k2:=Blk.new (w.alloc (.cells #[.slice a n c] 88)) [.slice b m d] 88
  rw[h3] at k2
  exact⟨_,_,rfl,((Below.refl _ w).alloc (Nat.le_refl _) _).alloc (by simp) _,Nat.le_refl _,Nat.le_succ _,by omega,(Blk.new w [.slice a n c] 88).alloc _,k2⟩
theorem Eo{w W:World}{B1 B2 na ca nb cb:Nat}{pa pb:O0}{A E:List Ent}(hA:A.length=na)(hE:E.length=nb)(hna:na≤1000000)(hnb:nb≤1000000)(sA:Sts Hp w (.slice pa na ca) A)(sE:Sts Hp w (.slice pb nb cb) E)
 (hb:B0 w W) (g1:w.heap.size≤B1) (g2:w.heap.size≤B2) (hB:B1≠B2) (k1:Blk W B1 [.slice pa na ca] 88) (k2:Blk W B2 [.slice pb nb cb] 88) :
 ∃ ga oa gb ob,SeqL Tryz.prog 128 #[P0 B1,P0 B2] (encR ga oa gb ob) (Keeps fun b=>b=B1∨b=B2∨(na≠0∧b=ga)∨(nb≠0∧b=gb)) (fun r=>r=B1∨r=B2) (Xd 0 0 A E) W∧(na≠0→pa=some ⟨ga,oa,none⟩)∧(nb≠0→pb=some ⟨gb,ob,none⟩):=by
 obtain⟨ga,oa,ra,ka,ea⟩:=Zd1 hA sA hb
 obtain⟨gb,ob,rb,kb,eb⟩:=Zd1 hE sE hb
 refine⟨ga,oa,gb,ob,?_,ea,eb⟩
 intro l J Jx V hV hJ hY h0
 have ha:na≠0→ga<w.heap.size:=fun h=>(ka 0 (by omega)).2
 have he:nb≠0→gb<w.heap.size:=fun h=>(kb 0 (by omega)).2
 have hT:¬ ((na≠0∧B1=ga)∨(nb≠0∧B1=gb)):=by
  rintro(⟨h,e⟩|⟨h,e⟩)
  ·have:=ha h;omega
  ·have:=he h;omega
 have a0:¬ ((na≠0∧B2=ga)∨(nb≠0∧B2=gb)):=by
  rintro(⟨h,e⟩|⟨h,e⟩)
  ·have:=ha h;omega
  ·have:=he h;omega
 have a1:Blk V B1 _ _:=k1.below hV
 have a2:Blk V B2 _ _:=k2.below hV
 exact Zej l B1 B2 ga oa na ca gb ob nb cb A E hA hE hna hnb hB (fun b=>(na≠0∧b=ga)∨(nb≠0∧b=gb)) hT a0 J Jx hJ hY V _ _ a1 a2 ra rb
  (fun i hi=>⟨Uk hV (ka i hi).1,.inl ⟨by omega,rfl⟩⟩) (fun i hi=>⟨Uk hV (kb i hi).1,.inr ⟨by omega,rfl⟩⟩) h0
end Go.Proofs.YtegcamkgeacjfaaGreatDoor
namespace Go.Proofs.YtegcamkgeacjfaaGreatDoor
set_option maxHeartbeats 8000000
set_option maxRecDepth 100000
open Go.RowKit
set_option linter.unusedVariables false
theorem Rr{P:Program}{l n:Nat}{ops:Array Oper}{Q:Exit→Act→World→Prop}(hQ:¬ LetsOut Q):∀ (r:List Oper) (a:Act) (w:World),(∀ o∈r,∀ c,o.op≠.defer c)→wpList P ops Q r a w→wpListIn (Fence.wide.inRound l) n P ops Q r a w
 | [],_,_,_,h=>h
 | o::r,a,w,hd,h=>by
  unfold wpList at h
  unfold wpListIn
  split at h
  ·rename_i hw
   rw[if_pos hw]
   exact Oper.wpIn_mono (fun a w=>Rr hQ r a w (fun o ho=>hd o (by simp[ho]))) (Zbp (hd o (by simp)) (h.resolve_right fun q=>hQ q.2))
  ·rename_i hw
   rw[if_neg hw]
   exact⟨fun _ _=>trivial,Rr hQ r _ _ (fun o ho=>hd o (by simp[ho])) h⟩
theorem Yy{P:Program}{l0 n0 id:Nat}{l:List Oper}{Q:Exit→Act→World→Prop}{a:Act}{w:World}(hQ:¬ LetsOut Q)(hd:∀ o∈l,∀ c,o.op≠.defer c)(h:wpList P l.toArray Q l a w):(Code.region id l.toArray false).wpIn (Fence.wide.inRound l0) n0 P Q a w :=
 wpIn_region_lit (Rr hQ l a w hd h)
structure RdS(w0:World)(S:List Nat)(W V:World):Prop where
 ko:KeepsOthers W V
 fr:∀ k,k<w0.heap.size→k∉S→V.heap[k]? = W.heap[k]?
 le:W.heap.size≤V.heap.size
 l0:w0.heap.size≤W.heap.size
theorem RdS.refl{w0 W:World}(S:List Nat)(h:w0.heap.size≤W.heap.size):RdS w0 S W W:=⟨⟨Nat.le_refl _,fun _ _ h _=>h⟩,fun _ _ _=>rfl,Nat.le_refl _,h⟩
theorem RdS.below{w0 W V U:World}{S:List Nat}(h:RdS w0 S W V)(hb:Below V.heap.size V U):RdS w0 S W U :=
 ⟨h.ko.trans (Wk hb),fun k hk hn=>(hb.block k (Nat.lt_of_lt_of_le hk (Nat.le_trans h.l0 h.le))).trans (h.fr k hk hn),Nat.le_trans h.le hb.size,h.l0⟩
theorem RdS.upd{w0 W V U:World}{S:List Nat}{b:Nat}{cs:List Value}{t:TypeId}(h:RdS w0 S W V)(u:Upd V b U)(k:Blk V b cs t)(hb:b∈S∨w0.heap.size≤b):RdS w0 S W U :=
 ⟨h.ko.trans (Zaa u k),fun i hi hn=>(u.block i (fun e=>by subst e;rcases hb with hb|hb;exact hn hb;omega)).trans (h.fr i hi hn),Nat.le_trans h.le (Nat.le_of_eq u.size.symm),h.l0⟩
theorem RdS.frm{w0 W V U:World}{S:List Nat}{b:Nat}{cs:List Value}{t:TypeId}(h:RdS w0 S W V)(u:Fr [b] V U)(k:Blk V b cs t)(hb:b∈S):RdS w0 S W U :=
 ⟨h.ko.trans ⟨u.size,fun i o hi ho=>(u.block i (Array.getElem?_eq_some_iff.1 hi).1 (by
  simp only[List.mem_singleton]
  rintro rfl
  rw[show V.heap[i]? = _ from k] at hi
  cases hi;cases ho)).trans hi⟩,fun i hi hn=>(u.block i (Nat.lt_of_lt_of_le hi (Nat.le_trans h.l0 h.le)) (by simp only[List.mem_singleton];rintro rfl;exact hn hb)).trans (h.fr i hi hn),Nat.le_trans h.le u.size,h.l0⟩
theorem RdS.grown{w0 W V U:World}{S:List Nat}{size n:Nat}{e:TypeId}{v:Value}{xs:List Value}(h:RdS w0 S W V)(hg:V.grownBy U v.ownBlock)(k:V.ownsRow w0.heap.size e size v n xs):RdS w0 S W U :=
 ⟨h.ko.trans ⟨hg.size,fun i o hi ho=>by
   rw[hg.block i (Array.getElem?_eq_some_iff.1 hi).1 (fun q=>by
    rcases k.2 with ⟨rfl,_⟩|⟨g,a1,a0,rfl,_,hh,_⟩
    ·cases q
    ·simp only[Value.ownBlock,Option.some.injEq] at q
     subst q
     rw[hh] at hi
     cases hi
     cases ho)]
   exact hi⟩,
  fun i hi hn=>(hg.block i (Nat.lt_of_lt_of_le hi (Nat.le_trans h.l0 h.le)) (fun e=>by have:=(k.lt i e.symm).1;omega)).trans (h.fr i hi hn),Nat.le_trans h.le hg.size,h.l0⟩
def Zbu(q:Nat→Prop)(n:Nat)(A:World)(row:Option Nat):Prop:=∀ r,row=some r→q r∨n≤r∧∃ o:Obj,A.heap[r]? = some o∧o.isCells=false
theorem fr_ab{S:List Nat}{q:Nat→Prop}{w0 A B:World}{row:Option Nat}(h:Fr S w0 A)(hg:A.grownBy B row)(hr:Zbu q w0.heap.size A row)(hq:∀ r,q r→r∈S):Fr S w0 B :=
 ⟨Nat.le_trans h.size hg.size,fun k hk hn=>(hg.block k (Nat.lt_of_lt_of_le hk h.size) (fun e=>by
  rcases hr k e.symm with h1|h1
  ·exact hn (hq _ h1)
  ·omega)).trans (h.block k hk hn)⟩
theorem Ty{n m:Nat}{q:Nat→Prop}{w A B:World}{row:Option Nat}(h:Below n w A)(hg:A.grownBy B row)(hr:Zbu q m A row)(hn:n≤w.heap.size)(hm:n≤m)(hq:∀ r,q r→n≤r):Below n w B :=
 h.grown hg (Nat.le_trans hn h.size) (fun r e=>by rcases hr r e with h1|h1;exact hq _ h1;omega)
theorem own_ab{q:Nat→Prop}{A B:World}{row:Option Nat}{base size n m:Nat}{e:TypeId}{v:Value}{xs:List Value}(k:A.ownsRow base e size v n xs)(hg:A.grownBy B row)(hr:Zbu q m A row)(hq:∀ r,q r→r<base):B.ownsRow base e size v n xs:=by
 obtain⟨h1,h2⟩:=k
 refine⟨h1,?_⟩
 rcases h2 with h2|⟨g,a1,a0,hv,hb,hh,r⟩
 ·exact Or.inl h2
 ·refine Or.inr ⟨g,a1,a0,hv,hb,?_,r⟩
  rw[hg.block g (Array.getElem?_eq_some_iff.1 hh).1 (fun q=>by
   rcases hr g q.symm with h3|⟨_,o,ho,hc⟩
   ·have:=hq _ h3;omega
   ·rw[hh] at ho
    cases ho
    cases hc)]
  exact hh
theorem blk_ab{q:Nat→Prop}{A B:World}{row:Option Nat}{b m:Nat}{cs:List Value}{t:TypeId}(k:Blk A b cs t)(hg:A.grownBy B row)(hr:Zbu q m A row)(hq:∀ r,q r→b≠r):Blk B b cs t :=
 k.kept hg (fun e'=>by
  rcases hr b e'.symm with h3|⟨_,o,ho,hc⟩
  ·exact hq _ h3 rfl
  ·rw[show A.heap[b]? = _ from k] at ho;cases ho;cases hc)
theorem Sw{F:Fence}{n:Nat}{P:Program}{c:Code}{Q:Exit→Act→World→Prop}{a:Act}{w:World}(a':Act)(h:a=a')(k:c.wpIn F n P Q a' w):c.wpIn F n P Q a w:=h▸k
theorem Zdi{S S2:List Nat}{w0 W V:World}(h:Fr S w0 W)(z:RdS w0 S2 W V)(hs:∀ k,k∈S2→k∈S∨V.heap[k]? = w0.heap[k]?):Fr S w0 V :=
 ⟨Nat.le_trans h.size z.le,fun k hk hn=>by
  by_cases h2:k∈S2
  ·exact(hs k h2).resolve_left hn
  ·exact(z.fr k hk h2).trans (h.block k hk hn)⟩
theorem Dfr.put{D D2:Nat}{w:World}(h:Dfr D w)(hne:D≠D2)(o:Obj):Dfr D (w.putObj D2 o):=(World.putObj_heap_other hne).trans h
theorem Yu.pt{D:Nat}{w:World}{l:List (Option Int)}{c:Option Int}{v:Value}(h:Yu w l c v)(hK:Dfr D w)(o:Obj):Yu (w.putObj D o) l c v:=h.kept fun _ _ k=>k.put hK rfl o
theorem Zb4{D:Nat}{w:World}{base size n:Nat}{e:TypeId}{v:Value}{xs:List Value}(k:w.ownsRow base e size v n xs)(hK:Dfr D w)(o:Obj):(w.putObj D o).ownsRow base e size v n xs:=(Upd.of_put w D o).own3 k (hK.row k)
theorem Gs{n D:Nat}{w W:World}(h:Below n w W)(hn:n≤W.heap.size)(hD:n≤D)(o:Obj):Below n w (W.putObj D o):=h.grown (grownBy_putObj' W D o) hn (fun r e=>by cases e;exact hD)
theorem ret0{P:Program}{fn:Func}{R:Ending→World→Prop}{a:Act}{w:World}{v:Value}{b10 b11:Nat}{x y:Value}{t t':TypeId}(k10:Blk w b10 [x] t)(k11:Blk w b11 [y] t')(hr:∀ U,Blk U b10 [x] t→Blk U b11 [y] t'→(results fn a.tmps).run P U=.ok v U)(hd:a.defers=[])(h:R (.returned v) w):bodyPostM Fence.wide 4 P fn R .ret a w:=by
 show LeavesInM _ _ _ _ a.tmps R a.defers .returning w
 rw[hd]
 exact⟨v,hr w k10 k11,h⟩
theorem ret1{P:Program}{fn:Func}{R:Ending→World→Prop}{a:Act}{w:World}{v:Value}{b10 b11 D:Nat}{x y:Value}{t t':TypeId}(k10:Blk w b10 [x] t)(k11:Blk w b11 [y] t')(hK:Dfr D w)(hr:∀ U,Blk U b10 [x] t→Blk U b11 [y] t'→(results fn a.tmps).run P U=.ok v U)(hd:a.defers=[{ target:=.collected D,args:=#[] }])(h:R (.returned v) (w.putObj D (.deferred none))):bodyPostM Fence.wide 4 P fn R .ret a w:=by
 show LeavesInM _ _ _ _ a.tmps R a.defers .returning w
 rw[hd]
 exact⟨by simp,.inl ⟨_,_,rfl,run_takeDeferred hK,v,hr _ (k10.put hK rfl _) (k11.put hK rfl _),h⟩⟩
theorem ret2{P:Program}{fn:Func}{R:Ending→World→Prop}{a:Act}{w:World}{v:Value}{b10 b11 D E:Nat}{x y:Value}{t t':TypeId}(k10:Blk w b10 [x] t)(k11:Blk w b11 [y] t')(hK:Dfr D w)(hE:Dfr E w)(hne:D≠E)(hr:∀ U,Blk U b10 [x] t→Blk U b11 [y] t'→(results fn a.tmps).run P U=.ok v U)(hd:a.defers=[{ target:=.collected E,args:=#[] },{ target:=.collected D,args:=#[] }])(h:R (.returned v) ((w.putObj E (.deferred none)).putObj D (.deferred none))):bodyPostM Fence.wide 4 P fn R .ret a w:=by
 have hD:=hK.put hne (.deferred none)
 show LeavesInM _ _ _ _ a.tmps R a.defers .returning w
 rw[hd]
 exact⟨by simp,.inl ⟨_,_,rfl,run_takeDeferred hE,by simp,.inl ⟨_,_,rfl,run_takeDeferred hD,v,hr _ ((k10.put hE rfl _).put hD rfl _) ((k11.put hE rfl _).put hD rfl _),h⟩⟩⟩
end Go.Proofs.YtegcamkgeacjfaaGreatDoor
