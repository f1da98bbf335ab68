/- The document's answer for the layers 3 and 11: an image's blocks, Of, Write, Bytes; Write of a block. -/
import Derived.Test.YtceeiinepijokaaGreatRows
import Derived.RangeFuncNested
import Derived.RangeFuncBound
import Derived.RangeFuncCalls
import Derived.RangeFuncLeaves
import Derived.Shelf.Abstract
import Derived.Shelf.RegionOpen
import Derived.OwnWalkIn
import Derived.TacticsInMore
import Derived.LoopNIn
import Derived.LoopIn
import Derived.Test.YtceeiinepijokaaGreatMg2
namespace Go.Proofs.YtceeiinepijokaaGreat
set_option maxHeartbeats 8000000
set_option maxRecDepth 100000
open Go.RowKit Go.Extern.Stop Go.Stop Go.Extern
set_option linter.unusedVariables false
attribute [local irreducible] wpList wpAnyH Code.wp Oper.wp Go
def We(l:Bl)(k:Nat):List Bl:=(List.range k).map (Yj l)
theorem Zaa(l:Bl)(k:Nat):(We l k).length=k:=by simp[We]
theorem Sm(l:Bl)(k:Nat):We l (k+1)=We l k++[Yj l k]:=by simp[We,List.range_succ]
theorem blksL_get(l:Bl){k i:Nat}(h:i<k):(We l k).getD i []=Yj l i:=by simp[We,List.getD,List.getElem?_range h]
theorem blkB_take{l:Bl}{i m:Nat}(h:i<m):Yj (l.take (m*256)) i=Yj l i:=by
 unfold Yj
 rw[List.drop_take,List.take_take,Nat.min_eq_left (by omega)]
theorem Tl{l:Bl}{k:Nat}:We (l.take (k*256)) k=We l k:=List.map_congr_left fun i hi=>blkB_take (List.mem_range.1 hi)
structure RefI(B bm:Nat)(p:Option Addr)(k c:Nat)(l:List UInt8)(w:World):Prop where
 blk:Blk w bm [.slice p k c] 136
 row:w.ownsRow B 9 1 (.slice p k c) k ((We l k).map sv)
 hk:k≤14400
 hl:l.length=k*256
theorem RefI.below{B bm:Nat}{p:O0}{k c:Nat}{l:Bl}{w W:World}(h:RefI B bm p k c l w)(hb:B3 w W):RefI B bm p k c l W:=⟨h.blk.below hb,Zb h.row hb,h.hk,h.hl⟩
theorem RefI.only{B bm:Nat}{p:O0}{k c:Nat}{l:Bl}{w W:World}{T:List TypeId}(h:RefI B bm p k c l w)(hO:Zd T w W)(hT:T.contains 136=false∧T.contains 9=false):RefI B bm p k c l W:=⟨h.blk.only hO hT.1,Zi h.row hO hT.2,h.hk,h.hl⟩
theorem RefI.mono{B B' bm:Nat}{p:O0}{k c:Nat}{l:Bl}{w:World}(h:RefI B bm p k c l w)(hB:B'≤B):RefI B' bm p k c l w:=⟨h.blk,Zf h.row hB,h.hk,h.hl⟩
theorem RefI.base{B bm:Nat}{p:O0}{k c:Nat}{l:Bl}{w:World}(h:RefI B bm p k c l w)(hn:0<k):∃ g,p=some ⟨g,0,none⟩:=by
 rcases h.row.2 with ⟨_,h0⟩|⟨g,a0,a1,hv,_,_,hc,_⟩
 ·omega
 ·simp only[Value.slice.injEq] at hv
  obtain⟨rfl,_,rfl⟩:=hv
  exact⟨g,rfl⟩
theorem ref_Of(a:O0)(c:Nat)(l:Bl)(w:World)(h:Bys w (.slice a l.length c) l)(hl:l.length≤100000000) :
 C0 26 #[.slice a l.length c] w (Yy (fun w' r=>∃ bm p c2,r=P0 bm∧w.heap.size≤bm∧RefI w.heap.size bm p (min (l.length/256) 14400) c2 (l.take (min (l.length/256) 14400*256)) w') w):=by
 refine zin 32 Tryz.func26 ?_
 refine xa 8 [S0] 136 fun b1 W1 n1=>?_
 refine zl 5 32 (fun zm e0 V=>∃ (k:Nat) (p:O0) (cp:Nat) (a2:O0) (c2:Nat) (l2:Bl),e0=[(0,.slice a2 l2.length c2),(2,.pointer none),(3,P0 b1)]∧zm=l2.length∧B3 w V∧Blk V b1 ([.slice p k cp]) 136∧V.ownsRow w.heap.size 9 1 (.slice p k cp) k ((We l k).map sv)∧Bys w (.slice a2 l2.length c2) l2∧l2=l.drop (k*256)∧k*256≤l.length∧k≤14400) ⟨0,none,0,a,c,l,rfl,rfl,n1.below,n1.blk,World.ownsRow_nil _ _ _ _,h,by simp,by omega,by decide⟩ ?_
 rintro _ _ W2 ⟨k,p,cp,a2,c2,l2,rfl,rfl,a9,a3,ho,b9,b2,e3,e4⟩ J2 d2 r2
 have d5:=b9.cap rfl
 have d4:l2.length=l.length-k*256:=by rw[b2];simp
 refine xg 7 [8,9] (decide ((l2.length:Int)≥(256:Int))) (fun b6=>?_) (fun b6=>?_)
 ·have b6:=of_decide_eq_true b6
  refine xb 3 0 a3 ?_
  refine xid 5 ((k:Int)<(14400:Int)) (fun d3=>?_) (fun d3=>?_)
  ·refine xd 4 (.t w.heap.size [9,136]) ?_
   refine xsH (.e [0,1,2,3,5] 6) (fun _ _ _ _ zo zx zy V=>Vh (k:=256) (b:=a2) (n:=l2.length) (c:=c2) (i:=256) (ki:=.i64) zo zx zy rfl (by omega) Tryz.underlying22 (by kernel_rfl) V) ?_
   have a6:=bln a9 (Za W2)
   refine xcvt (.e [] 7) (.t w.heap.size [9,136]) (fun _ _ _ zo zx V hV=>Vm zo zx ((Bys.take b9 rfl 256 (by omega)).below (Ad a6 hV (Nat.le_refl _))) (by simp;omega) Tryz.underlying22 Tryz.underlying5 Tryz.underlying9) ?_
   refine xm2 0 4 8 ?_ ?_
   ·have a5:=a3.below (Za W2)
    refine xb 0 0 a5 ?_
    refine xbs (.o [] 8) 1 [.string ⟨(l2.take 256).toArray⟩] 9 fun b5 W5 n5=>?_
    have g5:=n5.ge a6
    have b0:=Zb ho (Za W2)
    have d1:=Zr b0 n5
    have a8:=Zb b0 n5.below
    have b7:=bln a6 n5.below
    refine ybi (.o [] 9) (.t w.heap.size [9,136]) fun _ _ _ _ zJ zQ zo zx zy zK=>Zy (m:=1) (news:=[.string ⟨(l2.take 256).toArray⟩]) (.string ⟨#[]⟩) 1 16 (k+1) ((We l (k+1)).map sv) zo Tryz.underlying134 (by kernel_rfl) rfl (by decide) zx a8 zy (n5.blk.sl 1 1 (by decide) (by decide)) rfl (by simp[Value.oneCell']) (by unfold maxLen;omega) (by omega) b7.size (by rfl) (by rw[Sm,List.map_append,show Yj l k=l2.take 256 from by rw[b2];rfl];rfl) fun d6 d8 W6 o6 c8 c6=>?_
    refine zK _ _ (Xa c6 c8 a8 (by decide)) ?_
    have a0:=(a5.below n5.below).grown c8 a8 (by decide)
    have g1:=n1.ge (B4 w)
    refine ys (.o [10,11] 12) a0 [.slice d6 (k+1) d8] (.t w.heap.size [9,136]) fun W7 u7 k7=>⟨(Zt u7 a0 g1 (by decide)),?_⟩
    refine xsL 4 (fun _ _ _ _ zo zx zy V=>Yc (k:=256) (b:=a2) (n:=l2.length) (c:=c2) (i:=256) (ki:=.i64) 1 zo zx zy rfl (by omega) Tryz.underlying22 (by kernel_rfl) V) ?_
    refine xv1 3 0 (show(.slice (Vp a2 256 c2 1) (l2.length-256) (c2-256):Value)=.slice (Vp a2 256 c2 1) ((l2.drop 256).length) (c2-256) from by rw[List.length_drop]) ?_
    have c0:=u7.below (b7.trans c6) g1
    have c5:=u7.own2 o6 a0 (by decide)
    refine ze 0 (d2 _ _ _ ⟨k+1,_,_,_,_,(l2.drop 256),rfl,rfl,c0,k7,c5,(by have:=Bys.cut b9 rfl 256 l2.length (by omega) (Nat.le_refl _);rw[List.take_of_length_le (by simp)] at this;rwa [show(l2.drop 256).length=l2.length-256 by simp]),by rw[b2,List.drop_drop,Nat.add_mul,Nat.one_mul],by omega,by omega⟩ ?_)
    show((l2.drop 256).length)<l2.length
    rw[List.length_drop];omega
   refine xbs 0 1 [.string ⟨(l2.take 256).toArray⟩] 9 fun b8 W8 n8=>?_
   have g8:=n8.ge a6
   have b3:=Zb ho (Za W2)
   have c7:=Zr b3 n8
   have a4:=(a3.below (Za W2)).below n8.below
   refine xb (.o [] 4) 0 a4 ?_
   have a7:=Zb b3 n8.below
   have b4:=bln a6 n8.below
   refine ybi (.o [] 9) (.t w.heap.size [9,136]) fun _ _ _ _ zJ zQ zo zx zy zK=>Zy (m:=1) (news:=[.string ⟨(l2.take 256).toArray⟩]) (.string ⟨#[]⟩) 1 16 (k+1) ((We l (k+1)).map sv) zo Tryz.underlying134 (by kernel_rfl) rfl (by decide) zx a7 zy (n8.blk.sl 1 1 (by decide) (by decide)) rfl (by simp[Value.oneCell']) (by unfold maxLen;omega) (by omega) b4.size (by rfl) (by rw[Sm,List.map_append,show Yj l k=l2.take 256 from by rw[b2];rfl];rfl) fun d7 d9 W9 o9 c9 d0=>?_
   refine zK _ _ (Xa d0 c9 a7 (by decide)) ?_
   have a1:=a4.grown c9 a7 (by decide)
   have g1:=n1.ge (B4 w)
   refine ys (.o [10,11] 12) a1 [.slice d7 (k+1) d9] (.t w.heap.size [9,136]) fun e2 c4 e1=>⟨(Zt c4 a1 g1 (by decide)),?_⟩
   refine xsL 4 (fun _ _ _ _ zo zx zy V=>Yc (k:=256) (b:=a2) (n:=l2.length) (c:=c2) (i:=256) (ki:=.i64) 1 zo zx zy rfl (by omega) Tryz.underlying22 (by kernel_rfl) V) ?_
   refine xv1 3 0 (show(.slice (Vp a2 256 c2 1) (l2.length-256) (c2-256):Value)=.slice (Vp a2 256 c2 1) ((l2.drop 256).length) (c2-256) from by rw[List.length_drop]) ?_
   have c1:=c4.below (b4.trans d0) g1
   have c3:=c4.own2 o9 a1 (by decide)
   refine ze 0 (d2 _ _ _ ⟨k+1,_,_,_,_,(l2.drop 256),rfl,rfl,c1,e1,c3,(by have:=Bys.cut b9 rfl 256 l2.length (by omega) (Nat.le_refl _);rw[List.take_of_length_le (by simp)] at this;rwa [show(l2.drop 256).length=l2.length-256 by simp]),by rw[b2,List.drop_drop,Nat.add_mul,Nat.one_mul],by omega,by omega⟩ ?_)
   show((l2.drop 256).length)<l2.length
   rw[List.length_drop];omega
  have g1:=n1.ge (B4 w)
  refine xe 12 (P0 b1) ?_
  obtain rfl:k=min (l.length/256) 14400:=by omega
  exact⟨_,rfl,a9,_,_,_,rfl,g1,a3,by rw[Tl];exact ho,by omega,by simp;omega⟩
 have b6:=of_decide_eq_false b6
 have g1:=n1.ge (B4 w)
 refine xe 22 (P0 b1) ?_
 obtain rfl:k=min (l.length/256) 14400:=by omega
 exact⟨_,rfl,a9,_,_,_,rfl,g1,a3,by rw[Tl];exact ho,by omega,by simp;omega⟩
def fltL(no er:Int):List Int:=if er=0 then [] else [no]
theorem fltL_nz{no er:Int}(h:er≠0):fltL no er=[no]:=if_neg h
theorem ref05_At_z(no:Int)(w:World) :
 C0 94 #[V0 no,.agg #[S0,V0 0]] w (Ret (.agg #[S0,V0 0]) w):=by
 refine zin 17 Tryz.func94 ?_
 refine xa 2 [S0,V0 0] 72 fun b1 W1 n1=>?_
 refine xa 0 [S0,V0 0] 72 fun b2 W2 n2=>?_
 have a1:=n2.ne n1.blk
 have a0:=n1.blk.below n2.below
 refine xb 6 1 a0 ?_
 refine xsv 7 n2.blk [S0,V0 0] fun W3 u3 k3=>?_
 have g2:=n2.ge n1.below
 have hB:=u3.below (bln n1.below n2.below) g2
 exact xec 4 k3 (.agg #[S0,V0 0]) ⟨rfl,hB⟩
theorem Zgd(no er:Int)(w:World)(he:er≠0) :
 C0 94 #[V0 no,.agg #[S0,V0 er]] w (Yy (fun w' r=>∃ a c,r=.agg #[.slice a 1 c,V0 er]∧w'.ownsRow w.heap.size 3 1 (.slice a 1 c) 1 [V0 no]) w):=by
 refine zin 17 Tryz.func94 ?_
 refine xa 2 [S0,V0 er] 72 fun b1 W1 n1=>?_
 refine xa 0 [S0,V0 0] 72 fun b2 W2 n2=>?_
 have h5:=n2.ne n1.blk
 have a0:=n1.blk.below n2.below
 refine xb 6 1 a0 ?_
 refine xk 3 (show((er==(0:Int)):Bool)=false from beq_false_of_ne he) ?_
 refine xd 3 (.t w.heap.size [3,72]) ?_
 refine xm3 (.b [0,2,5]) 1 3 6 ?_ ?_ ?_
 ·refine xbs 0 1 [V0 no] 3 fun b3 W3 n3=>?_
  refine xm2 0 3 6 ?_ ?_
  ·have a4:=(a0.below (Za W2)).below n3.below
   refine xb 0 0 a4 ?_
   refine xm2 0 4 6 ?_ ?_
   ·have g3:=n3.ge (bln (bln n1.below n2.below) (Za W2))
    have o4:=Zz (size:=1) (n:=1) n3.blk g3 rfl (by decide)
    have hB:=bln (bln (bln n1.below n2.below) (Za W2)) n3.below
    refine ybi 0 (.t w.heap.size [3,72]) fun _ _ _ _ zJ zQ zo zx zy zK=>Zy (m:=0) (news:=[]) (V0 0) 1 8 (1) ([V0 no]) zo Tryz.underlying35 (by kernel_rfl) rfl (by decide) zx o4 zy (.inl ⟨none,0,rfl,rfl,rfl⟩) rfl (by simp) (by unfold maxLen;omega) (by omega) hB.size (by rfl) (by rfl) fun h3 h6 W5 o5 e6 i0=>?_
    refine zK _ _ (Xa i0 e6 o4 (by decide)) ?_
    have e7:=a4.grown e6 o4 (by decide)
    refine xb (.o [] 6) 1 e7 ?_
    have k2:=((n2.blk.below (Za W2)).below n3.below).grown e6 o4 (by decide)
    have g2:=n2.ge n1.below
    refine ysv (.o [7] 8) k2 [.slice h3 1 h6,V0 er] (.t w.heap.size [3,72]) fun W6 u6 k6=>⟨(Zt u6 k2 g2 (by decide)),?_⟩
    have g0:=u6.below (hB.trans i0) g2
    have f1:=u6.own2 o5 k2 (by decide)
    exact xec 3 k6 (.agg #[.slice h3 1 h6,V0 er]) ⟨_,rfl,g0,_,_,rfl,f1⟩
   refine xb 0 1 a4 ?_
   have g3:=n3.ge (bln (bln n1.below n2.below) (Za W2))
   have o7:=Zz (size:=1) (n:=1) n3.blk g3 rfl (by decide)
   have hB:=bln (bln (bln n1.below n2.below) (Za W2)) n3.below
   refine ybi (.o [] 4) (.t w.heap.size [3,72]) fun _ _ _ _ zJ zQ zo zx zy zK=>Zy (m:=0) (news:=[]) (V0 0) 1 8 (1) ([V0 no]) zo Tryz.underlying35 (by kernel_rfl) rfl (by decide) zx o7 zy (.inl ⟨none,0,rfl,rfl,rfl⟩) rfl (by simp) (by unfold maxLen;omega) (by omega) hB.size (by rfl) (by rfl) fun h4 h7 W8 o8 h9 h8=>?_
   refine zK _ _ (Xa h8 h9 o7 (by decide)) ?_
   have k2:=((n2.blk.below (Za W2)).below n3.below).grown h9 o7 (by decide)
   have g2:=n2.ge n1.below
   refine ysv (.o [7] 8) k2 [.slice h4 1 h7,V0 er] (.t w.heap.size [3,72]) fun W9 u9 k9=>⟨(Zt u9 k2 g2 (by decide)),?_⟩
   have f0:=u9.below (hB.trans h8) g2
   have e4:=u9.own2 o8 k2 (by decide)
   exact xec 3 k9 (.agg #[.slice h4 1 h7,V0 er]) ⟨_,rfl,f0,_,_,rfl,e4⟩
  have d8:=(a0.below (Za W2)).below n3.below
  refine xb 0 1 d8 ?_
  refine xb (.o [] 3) 0 d8 ?_
  have g3:=n3.ge (bln (bln n1.below n2.below) (Za W2))
  have e8:=Zz (size:=1) (n:=1) n3.blk g3 rfl (by decide)
  have hB:=bln (bln (bln n1.below n2.below) (Za W2)) n3.below
  refine ybi (.o [] 4) (.t w.heap.size [3,72]) fun _ _ _ _ zJ zQ zo zx zy zK=>Zy (m:=0) (news:=[]) (V0 0) 1 8 (1) ([V0 no]) zo Tryz.underlying35 (by kernel_rfl) rfl (by decide) zx e8 zy (.inl ⟨none,0,rfl,rfl,rfl⟩) rfl (by simp) (by unfold maxLen;omega) (by omega) hB.size (by rfl) (by rfl) fun c5 d7 k0 i5 c7 d4=>?_
  refine zK _ _ (Xa d4 c7 e8 (by decide)) ?_
  have k2:=((n2.blk.below (Za W2)).below n3.below).grown c7 e8 (by decide)
  have g2:=n2.ge n1.below
  refine ysv (.o [7] 8) k2 [.slice c5 1 d7,V0 er] (.t w.heap.size [3,72]) fun j7 f8 i2=>⟨(Zt f8 k2 g2 (by decide)),?_⟩
  have f2:=f8.below (hB.trans d4) g2
  have c2:=f8.own2 i5 k2 (by decide)
  exact xec 3 i2 (.agg #[.slice c5 1 d7,V0 er]) ⟨_,rfl,f2,_,_,rfl,c2⟩
 ·have a2:=a0.below (Za W2)
  refine xb 0 0 a2 ?_
  refine xm2 0 1 6 ?_ ?_
  ·refine xbs 0 1 [V0 no] 3 fun k3 k8 a1=>?_
   refine xm2 0 4 6 ?_ ?_
   ·have g7:=a1.ge (bln (bln n1.below n2.below) (Za W2))
    have e1:=Zz (size:=1) (n:=1) a1.blk g7 rfl (by decide)
    have hB:=bln (bln (bln n1.below n2.below) (Za W2)) a1.below
    refine ybi 0 (.t w.heap.size [3,72]) fun _ _ _ _ zJ zQ zo zx zy zK=>Zy (m:=0) (news:=[]) (V0 0) 1 8 (1) ([V0 no]) zo Tryz.underlying35 (by kernel_rfl) rfl (by decide) zx e1 zy (.inl ⟨none,0,rfl,rfl,rfl⟩) rfl (by simp) (by unfold maxLen;omega) (by omega) hB.size (by rfl) (by rfl) fun a7 c3 l4 i7 a5 c9=>?_
    refine zK _ _ (Xa c9 a5 e1 (by decide)) ?_
    have f9:=(a2.below a1.below).grown a5 e1 (by decide)
    refine xb (.o [] 6) 1 f9 ?_
    have k2:=((n2.blk.below (Za W2)).below a1.below).grown a5 e1 (by decide)
    have g2:=n2.ge n1.below
    refine ysv (.o [7] 8) k2 [.slice a7 1 c3,V0 er] (.t w.heap.size [3,72]) fun k1 g1 i8=>⟨(Zt g1 k2 g2 (by decide)),?_⟩
    have h0:=g1.below (hB.trans c9) g2
    have d9:=g1.own2 i7 k2 (by decide)
    exact xec 3 i8 (.agg #[.slice a7 1 c3,V0 er]) ⟨_,rfl,h0,_,_,rfl,d9⟩
   have e5:=a2.below a1.below
   refine xb 0 1 e5 ?_
   have g7:=a1.ge (bln (bln n1.below n2.below) (Za W2))
   have f6:=Zz (size:=1) (n:=1) a1.blk g7 rfl (by decide)
   have hB:=bln (bln (bln n1.below n2.below) (Za W2)) a1.below
   refine ybi (.o [] 4) (.t w.heap.size [3,72]) fun _ _ _ _ zJ zQ zo zx zy zK=>Zy (m:=0) (news:=[]) (V0 0) 1 8 (1) ([V0 no]) zo Tryz.underlying35 (by kernel_rfl) rfl (by decide) zx f6 zy (.inl ⟨none,0,rfl,rfl,rfl⟩) rfl (by simp) (by unfold maxLen;omega) (by omega) hB.size (by rfl) (by rfl) fun a8 a9 l0 j1 d6 d1=>?_
   refine zK _ _ (Xa d1 d6 f6 (by decide)) ?_
   have k2:=((n2.blk.below (Za W2)).below a1.below).grown d6 f6 (by decide)
   have g2:=n2.ge n1.below
   refine ysv (.o [7] 8) k2 [.slice a8 1 a9,V0 er] (.t w.heap.size [3,72]) fun l2 h1 j2=>⟨(Zt h1 k2 g2 (by decide)),?_⟩
   have f5:=h1.below (hB.trans d1) g2
   have b5:=h1.own2 j1 k2 (by decide)
   exact xec 3 j2 (.agg #[.slice a8 1 a9,V0 er]) ⟨_,rfl,f5,_,_,rfl,b5⟩
  refine xb 0 1 a2 ?_
  refine xbs (.o [] 1) 1 [V0 no] 3 fun j8 k5 e0=>?_
  have j5:=e0.ge (bln (bln n1.below n2.below) (Za W2))
  have e3:=Zz (size:=1) (n:=1) e0.blk j5 rfl (by decide)
  have hB:=bln (bln (bln n1.below n2.below) (Za W2)) e0.below
  refine ybi (.o [] 4) (.t w.heap.size [3,72]) fun _ _ _ _ zJ zQ zo zx zy zK=>Zy (m:=0) (news:=[]) (V0 0) 1 8 (1) ([V0 no]) zo Tryz.underlying35 (by kernel_rfl) rfl (by decide) zx e3 zy (.inl ⟨none,0,rfl,rfl,rfl⟩) rfl (by simp) (by unfold maxLen;omega) (by omega) hB.size (by rfl) (by rfl) fun d3 a6 k7 i9 b7 d5=>?_
  refine zK _ _ (Xa d5 b7 e3 (by decide)) ?_
  have k2:=((n2.blk.below (Za W2)).below e0.below).grown b7 e3 (by decide)
  have g2:=n2.ge n1.below
  refine ysv (.o [7] 8) k2 [.slice d3 1 a6,V0 er] (.t w.heap.size [3,72]) fun l6 h2 j0=>⟨(Zt h2 k2 g2 (by decide)),?_⟩
  have f7:=h2.below (hB.trans d5) g2
  have c6:=h2.own2 i9 k2 (by decide)
  exact xec 3 j0 (.agg #[.slice d3 1 a6,V0 er]) ⟨_,rfl,f7,_,_,rfl,c6⟩
 have a3:=a0.below (Za W2)
 refine xb 0 1 a3 ?_
 refine xm2 0 1 3 ?_ ?_
 ·refine xbs 0 1 [V0 no] 3 fun l1 l3 b9=>?_
  have g8:=a3.below b9.below
  refine xb (.o [] 3) 0 g8 ?_
  have i3:=b9.ge (bln (bln n1.below n2.below) (Za W2))
  have f3:=Zz (size:=1) (n:=1) b9.blk i3 rfl (by decide)
  have hB:=bln (bln (bln n1.below n2.below) (Za W2)) b9.below
  refine ybi (.o [] 4) (.t w.heap.size [3,72]) fun _ _ _ _ zJ zQ zo zx zy zK=>Zy (m:=0) (news:=[]) (V0 0) 1 8 (1) ([V0 no]) zo Tryz.underlying35 (by kernel_rfl) rfl (by decide) zx f3 zy (.inl ⟨none,0,rfl,rfl,rfl⟩) rfl (by simp) (by unfold maxLen;omega) (by omega) hB.size (by rfl) (by rfl) fun d0 b6 k4 j3 c8 c0=>?_
  refine zK _ _ (Xa c0 c8 f3 (by decide)) ?_
  have k2:=((n2.blk.below (Za W2)).below b9.below).grown c8 f3 (by decide)
  have g2:=n2.ge n1.below
  refine ysv (.o [7] 8) k2 [.slice d0 1 b6,V0 er] (.t w.heap.size [3,72]) fun l7 f4 j4=>⟨(Zt f4 k2 g2 (by decide)),?_⟩
  have g9:=f4.below (hB.trans c0) g2
  have d2:=f4.own2 j3 k2 (by decide)
  exact xec 3 j4 (.agg #[.slice d0 1 b6,V0 er]) ⟨_,rfl,g9,_,_,rfl,d2⟩
 refine xb 0 0 a3 ?_
 refine xbs (.o [] 1) 1 [V0 no] 3 fun j9 l5 e2=>?_
 have i6:=e2.ge (bln (bln n1.below n2.below) (Za W2))
 have g6:=Zz (size:=1) (n:=1) e2.blk i6 rfl (by decide)
 have hB:=bln (bln (bln n1.below n2.below) (Za W2)) e2.below
 refine ybi (.o [] 4) (.t w.heap.size [3,72]) fun _ _ _ _ zJ zQ zo zx zy zK=>Zy (m:=0) (news:=[]) (V0 0) 1 8 (1) ([V0 no]) zo Tryz.underlying35 (by kernel_rfl) rfl (by decide) zx g6 zy (.inl ⟨none,0,rfl,rfl,rfl⟩) rfl (by simp) (by unfold maxLen;omega) (by omega) hB.size (by rfl) (by rfl) fun c1 b8 j6 i1 b0 b4=>?_
 refine zK _ _ (Xa b4 b0 g6 (by decide)) ?_
 have k2:=((n2.blk.below (Za W2)).below e2.below).grown b0 g6 (by decide)
 have g2:=n2.ge n1.below
 refine ysv (.o [7] 8) k2 [.slice c1 1 b8,V0 er] (.t w.heap.size [3,72]) fun l8 e9 i4=>⟨(Zt e9 k2 g2 (by decide)),?_⟩
 have g5:=e9.below (hB.trans b4) g2
 have c4:=e9.own2 i1 k2 (by decide)
 exact xec 3 i4 (.agg #[.slice c1 1 b8,V0 er]) ⟨_,rfl,g5,_,_,rfl,c4⟩
def FltO(no er:Int)(w:World)(e:Ending)(w':World):Prop:=∃ a c,e=.returned (.agg #[.slice a (fltL no er).length c,V0 er])∧B3 w w'∧w'.ownsRow w.heap.size 3 1 (.slice a (fltL no er).length c) (fltL no er).length ((fltL no er).map V0)
theorem ref05_AtP(no er:Int)(w:World):C0 94 #[V0 no,.agg #[S0,V0 er]] w (FltO no er w):=by
 by_cases he:er=0
 ·subst he
  refine(ref05_At_z no w).mono ?_
  rintro e W ⟨rfl,hb⟩
  exact⟨none,0,rfl,hb,World.ownsRow_nil _ _ _ _⟩
 ·refine(Zgd no er w he).mono ?_
  rintro e W ⟨_,rfl,hb,a,c,rfl,ho⟩
  rw[FltO,fltL_nz he]
  exact⟨a,c,rfl,hb,ho⟩
theorem ref11_At(no er:Int)(w:World) :
 C0 53 #[V0 no,V0 er] w (FltO no er w):=by
 refine zin 9 Tryz.func53 ?_
 refine xa 2 [S0,V0 0] 72 fun b1 W1 n1=>?_
 refine xc 7 (args:=#[V0 no,.agg #[S0,V0 er]]) (ref05_AtP no er _) ?_
 rintro _ W2 ⟨a5,c5,rfl,a1,a2⟩
 have k1:=n1.blk.below a1
 refine xsv 0 k1 [.slice a5 ((fltL no er).length) c5,V0 er] fun W3 u3 k3=>?_
 have g1:=n1.ge (B4 w)
 have hB:=u3.below (bln n1.below a1) g1
 have a0:=u3.own2 (Zf a2 n1.below.size) k1 (by decide)
 exact xec 3 k3 (.agg #[.slice a5 ((fltL no er).length) c5,V0 er]) ⟨_,_,rfl,hB,a0⟩
theorem raw2(l:Bl)(k:Nat):Zh l k 2=(l.getD k 0).toNat+256*(l.getD (k+1) 0).toNat:=by simp[Zh]
theorem BysM.elem{w:World}{a:O0}{n c:Nat}{l:Bl}(h:Bys w (.slice a n c) l)(hl:l.length=n){k:Nat}(hk:k<n):a.isSome=true∧w.cell? (Xd a (k*1))=some (.int .u8 (↑(l.getD k 0).toNat:Int)):=by
 subst hl;exact Bys.elem h hk
theorem slN_of{w:World}{v:Value}{n:Nat}{l:Bl}(h:Bys w v l)(hl:l.length=n):Sl w v n (l.map bv):=by subst hl;exact h
theorem Ie{l:Bl}{k m n:Nat}(h:l.length=n)(hk:k≤m)(hm:m≤n):((l.drop k).take (m-k)).length=m-k:=by simp;omega
theorem ask_sum{kind no:Int}{l:Bl}(hl:l.length=256):(!(((l.drop 252).take 4)==leB ((Bm l kind:Nat):Int) 4))=Jq kind no l 2:=by
 have h1:=leB_raw (l:=l) (k:=252) (w:=4) (by omega)
 have hs:Bm l kind<256 ^ 4:=by
  have:=Nat.xor_lt_two_pow (n:=32) (Gi (l.take 252)) (Lq kind)
  unfold Bm;exact this
 have hr:=Ae l 4 252
 show _=((Zh l 252 4:Int) != (Bm l kind:Int))
 rw[←h1]
 by_cases e:Zh l 252 4=Bm l kind
 ·rw[e];simp
 ·have e2:leB (Zh l 252 4:Int) 4≠leB (Bm l kind:Int) 4:=fun h=>e (leB_inj hr hs h)
  rw[beq_false_of_ne e2,bne_iff_ne.2 (by omega)];rfl
theorem Zcj(kind no:Int)(a:O0)(c:Nat)(l:Bl)(w:World)(hl:l.length≠256)(h:Bys w (.slice a l.length c) l) :
 C0 93 #[.slice a l.length c,V0 kind,V0 no] w (OpenP kind no l w):=by
 refine zin 61 Tryz.func93 ?_
 refine xr 11 (args:=#[V0 kind,V0 no]) (Zbb kind no _) fun W1 a2=>?_
 refine xi 3 (!(Vv kind no)) (fun a0=>?_) (fun a0=>?_)
 ·have a1:Jq kind no l 0=true:=a0
  refine xe 8 (.tuple #[S0,V0 1]) ?_
  have he:Xr kind no l=1:=by simp[Xr,a1]
  exact .inl ⟨by rw[he];decide,by rw[he],a2⟩
 have a1:Jq kind no l 0=false:=a0
 have a4:Vv kind no=true:=by simpa using a0
 refine xk 10 (show(((l.length:Int) != (256:Int)):Bool)=true from bne_iff_ne.2 (by omega)) ?_
 refine xe 8 (.tuple #[S0,V0 7]) ?_
 have a3:Jq kind no l 1=true:=bne_iff_ne.2 (by omega)
 have he:Xr kind no l=7:=by simp[Xr,a1,a3]
 exact .inl ⟨by rw[he];decide,by rw[he],a2⟩
theorem Zaq(kind no:Int)(a:O0)(c:Nat)(l:Bl)(w:World)(hl256:l.length=256)(h:Bys w (.slice a 256 c) l) :
 C0 93 #[.slice a 256 c,V0 kind,V0 no] w (OpenP kind no l w):=by
 have d9:=h.cap hl256
 have a8:Jq kind no l 1=false:=bne_eq_false_iff_eq.2 (by rw[hl256];rfl)
 refine zin 61 Tryz.func93 ?_
 refine xr 11 (args:=#[V0 kind,V0 no]) (Zbb kind no _) fun W1 d3=>?_
 refine xi 3 (!(Vv kind no)) (fun b3=>?_) (fun b3=>?_)
 ·have a2:Jq kind no l 0=true:=b3
  refine xe 8 (.tuple #[S0,V0 1]) ?_
  have he:Xr kind no l=1:=by simp[Xr,a2]
  exact .inl ⟨by rw[he];decide,by rw[he],d3⟩
 have a2:Jq kind no l 0=false:=b3
 have d5:Vv kind no=true:=by simpa using b3
 refine xd 15 .z ?_
 refine xsL (.e [0] 1) (fun _ _ _ _ zo zx zy V=>Yc (k:=252) (b:=a) (n:=256) (c:=c) (i:=252) (ki:=.i64) 1 zo zx zy rfl (by omega) Tryz.underlying22 (by kernel_rfl) V) ?_
 have hB:=bln d3 (Za W1)
 refine xcv (.e [] 2) (fun _ _ _ zo zx V hV=>Vm zo zx ((Bys.cut h hl256 252 256 (by decide) (Nat.le_refl _)).below (bln hB hV)) (Ie (m:=256) hl256 (by decide) (by decide)) Tryz.underlying22 Tryz.underlying5 Tryz.underlying9) ?_
 refine xsH (.e [3] 4) (fun _ _ _ _ zo zx zy V=>Vh (k:=252) (b:=a) (n:=256) (c:=c) (i:=252) (ki:=.i64) zo zx zy rfl (by omega) Tryz.underlying22 (by kernel_rfl) V) ?_
 refine xr (.o [6] 5) (args:=#[.slice a 252 c]) (ref_SumN a 252 c (l.take 252) _ (by simp;omega) (by decide) ((Bys.take h hl256 252 (by omega)).below hB)) fun W3 c5=>?_
 refine xr (.o [] 7) (args:=#[V0 kind]) (ref_Salt kind (Su d5).1 (Su d5).2.1 _) fun W4 c0=>?_
 refine xq (.e [] 8) (congrArg V0 (show(IntKind.i64.wrap (↑(BitVec.ofInt 64 (↑(Hk (l.take 252)):Int) ^^^ BitVec.ofInt 64 (↑(Pz kind):Int)).toNat:Int):Int)=(↑(Bm l kind):Int) from Ri (Gi (l.take 252)) (Lq kind))) ?_
 refine yc (.o [] 9) (args:=#[V0 (↑(Bm l kind):Int),V0 4]) .z (ref_BytesN (↑(Bm l kind):Int) 4 4 _ (Int.natCast_nonneg _) (by have:=Nat.xor_lt_two_pow (n:=32) (Gi (l.take 252)) (Lq kind);unfold Bm;omega) rfl (by decide)) ?_
 rintro _ W5 ⟨_,rfl,c2,p4,c4,rfl,h4⟩
 have d6:=(bln (bln hB c5) c0).size
 refine⟨c2,?_⟩
 have b2:=Zf h4 d6
 refine xcv (.e [] 10) (fun _ _ _ zo zx V hV=>Vm zo zx (Yi (Ze (Zb b2 hV)) (Zg _ _)) (Zg _ _) Tryz.underlying22 Tryz.underlying5 Tryz.underlying9) ?_
 refine xi (.r [11] 2) (!((⟨((l.drop 252).take 4).toArray⟩:ByteArray).toList==(⟨(leB (↑(Bm l kind):Int) 4).toArray⟩:ByteArray).toList)) (fun b9=>?_) (fun b9=>?_)
 ·have a3:Jq kind no l 2=true:=by rw[←ask_sum hl256,←Ce];exact b9
  have c3:=bln (bln (bln hB c5) c0) c2
  refine xe 8 (.tuple #[S0,V0 4]) ?_
  have he:Xr kind no l=4:=by simp[Xr,a2,a8,a3]
  exact .inl ⟨by rw[he];decide,by rw[he],c3⟩
 have a3:Jq kind no l 2=false:=by rw[←ask_sum hl256,←Ce];exact b9
 have a7:=bln (bln (bln hB c5) c0) c2
 refine xr 5 (args:=#[.slice a 256 c,V0 0,V0 4]) (Zes a 256 c 0 4 0 4 l _ hl256 rfl rfl (by decide) (by decide) (by decide) (h.below a7)) fun W7 d2=>?_
 refine xin 15 (↑(Zh l 0 4):Int) no (fun c1=>?_) (fun c1=>?_)
 ·have a9:Jq kind no l 3=true:=bne_iff_ne.2 c1
  have b6:=bln a7 d2
  refine xe 8 (.tuple #[S0,V0 5]) ?_
  have he:Xr kind no l=5:=by simp[Xr,a2,a8,a3,a9]
  exact .inl ⟨by rw[he];decide,by rw[he],b6⟩
 have a9:Jq kind no l 3=false:=bne_eq_false_iff_eq.2 c1
 have a6:=bln a7 d2
 refine xr 5 (args:=#[.slice a 256 c,V0 4,V0 2]) (Zes a 256 c 4 2 4 2 l _ hl256 rfl rfl (by decide) (by decide) (by decide) (h.below a6)) fun W9 c9=>?_
 refine xin 15 (↑(Zh l 4 2):Int) kind (fun a4=>?_) (fun a4=>?_)
 ·have b1:Jq kind no l 4=true:=bne_iff_ne.2 a4
  have b7:=bln a6 c9
  refine xe 8 (.tuple #[S0,V0 6]) ?_
  have he:Xr kind no l=6:=by simp[Xr,a2,a8,a3,a9,b1]
  exact .inl ⟨by rw[he];decide,by rw[he],b7⟩
 have b1:Jq kind no l 4=false:=bne_eq_false_iff_eq.2 a4
 refine xx 6 _ 256 6 1 (BysM.elem h hl256 (k:=6) (by omega)).1 ?_
 have a0:=bln a6 c9
 refine xl 0 ((BysM.elem (h.below a0) hl256 (k:=6) (by omega)).2) ?_
 refine xg 2 [50,51] ((↑(l.getD 6 0).toNat:Int) != (0:Int)) (fun a1=>?_) (fun a1=>?_)
 ·have a1:=Uu a1
  refine xe 16 (.tuple #[S0,V0 7]) ?_
  have b0:Jq kind no l 5=true:=bne_iff_ne.2 (by have d4:Zh l 6 2=(l.getD 6 0).toNat+256*(l.getD 7 0).toNat:=raw2 l 6;omega)
  have he:Xr kind no l=7:=by simp[Xr,a2,a8,a3,a9,b1,b0]
  exact .inl ⟨by rw[he];decide,by rw[he],a0⟩
 have a1:=Yo a1
 refine xx 1 _ 256 7 1 (BysM.elem h hl256 (k:=7) (by omega)).1 ?_
 refine xl 0 ((BysM.elem (h.below a0) hl256 (k:=7) (by omega)).2) ?_
 refine xin 4 (↑(l.getD 7 0).toNat:Int) (0:Int) (fun d0=>?_) (fun d0=>?_)
 ·refine xe 8 (.tuple #[S0,V0 7]) ?_
  have b0:Jq kind no l 5=true:=bne_iff_ne.2 (by have d4:Zh l 6 2=(l.getD 6 0).toNat+256*(l.getD 7 0).toNat:=raw2 l 6;omega)
  have he:Xr kind no l=7:=by simp[Xr,a2,a8,a3,a9,b1,b0]
  exact .inl ⟨by rw[he];decide,by rw[he],a0⟩
 refine xb0 4 5 fun e2 e4 b4=>?_
 have e0:=b4.ge a0
 have c6:=Zb (Zb b2 d2) c9
 have b5:=Zr c6 b4
 refine xsB 1 (fun _ _ _ _ _ zo zx zy zz V=>Hn (k:=8) (h:=252) (b:=a) (n:=256) (c:=c) (i:=8) (ki:=.i64) (j:=252) (kj:=.i64) 1 zo zx zy rfl zz rfl (by omega) (by omega) Tryz.underlying22 (by kernel_rfl) V) ?_
 have d8:=Zz (size:=1) (n:=0) b4.blk e0 rfl (by decide)
 have a5:=bln a0 b4.below
 refine xbi 0 fun _ _ _ _ zJ zQ zo zx zy zK=>Zy (m:=(252-8)) (news:=(((l.drop 8).take (252-8)).map bv)) (.int .u8 0) 1 1 (244) ((((l.drop 8).take 244).map bv)) zo Tryz.underlying22 (by kernel_rfl) rfl (by decide) zx d8 zy (slN_of ((Bys.cut h hl256 8 252 (by decide) (by decide)).below a5) (by simp;omega)) (by simp;omega) (Yt _) (by unfold maxLen;omega) (by omega) a5.size (by rfl) (by rfl) fun d1 b8 e3 d7 e1 c7=>?_
 refine zK _ _ ?_
 have c8:=a5.trans c7
 refine xe 5 (.tuple #[.slice d1 244 b8,V0 0]) ?_
 have b0:Jq kind no l 5=false:=by have d4:Zh l 6 2=(l.getD 6 0).toNat+256*(l.getD 7 0).toNat:=raw2 l 6;exact bne_eq_false_iff_eq.2 (by omega)
 exact .inr ⟨by simp[Xr,a2,a8,a3,a9,b1,b0],_,_,rfl,c8,d7⟩
theorem ref_Open(kind no:Int)(a:O0)(n c:Nat)(l:Bl)(w:World)(hn:l.length=n)(h:Bys w (.slice a n c) l):C0 93 #[.slice a n c,V0 kind,V0 no] w (OpenP kind no l w):=by
 by_cases hl:l.length=256
 ·obtain rfl:n=256:=by omega
  exact Zaq kind no a c l w hl h
 ·subst hn;exact Zcj kind no a c l w hl h
theorem Fq(B bm:Nat)(p:O0)(k c:Nat)(l:Bl)(w:World)(hI:RefI B bm p k c l w)(no:Int)(ho:¬ (0≤no∧no<(k:Int))) :
 C0 92 #[P0 bm,V0 no] w (Ret (.tuple #[S0,V0 3]) w):=by
 have hk:=hI.blk
 have a2:=hI.hk
 have a1:=hI.hl
 refine zin 25 Tryz.func92 ?_
 refine xg 12 [7,8] (decide (no<(0:Int))) (fun a0=>?_) (fun a0=>?_)
 ·have a0:=of_decide_eq_true a0
  exact xe 19 (.tuple #[S0,V0 3]) ⟨rfl,(B4 w)⟩
 have a0:=of_decide_eq_false a0
 refine xb 4 0 hk ?_
 refine xk 5 (show(decide (no≥(k:Int)):Bool)=true from decide_eq_true (by omega)) ?_
 exact xe 8 (.tuple #[S0,V0 3]) ⟨rfl,(B4 w)⟩
theorem Rz(B bm:Nat)(p:O0)(k c:Nat)(l:Bl)(w:World)(hI:RefI B bm p k c l w)(j:Nat)(hj:j<k) :
 C0 92 #[P0 bm,V0 (j:Int)] w (Yy (fun w' r=>∃ b c2,r=.tuple #[.slice (S1 b) 256 c2,V0 0]∧Bys w' (.slice (S1 b) 256 c2) (Yj l j)) w):=by
 have hk:=hI.blk
 have a5:=hI.hk
 have a4:=hI.hl
 have hr:=Ze hI.row
 have a2:(We l k).getD j []=Yj l j:=blksL_get l hj
 have a1:((We l k).getD j []).length=256:=by rw[a2];exact Qp (by omega)
 refine zin 25 Tryz.func92 ?_
 refine xgk 12 [7,8] (show(decide ((j:Int)<(0:Int)):Bool)=false from decide_eq_false (by omega)) ?_
 refine xb 4 0 hk ?_
 refine xk 5 (show(decide ((j:Int)≥(k:Int)):Bool)=false from decide_eq_false (by omega)) ?_
 refine xb 7 0 hk ?_
 refine xx 1 _ k j 1 (Strs.elem hr (Zaa l k) (k:=j) (by omega)).1 ?_
 refine xl 0 ((Strs.elem hr (Zaa l k) (k:=j) (by omega)).2) ?_
 refine xcf 0 fun _ _ _ zJ zQ zo zx zK=>Ue ((We l k).getD j []) zo zx Tryz.underlying9 Tryz.underlying22 Tryz.underlying5 (by omega) ?_
 intro bz cz W2 a3 a0
 refine zK _ _ ?_
 refine xe 5 (.tuple #[.slice (S1 bz) (((We l k).getD j []).length) cz,V0 0]) ?_
 rw[a1]
 rw[a1,a2] at a0
 exact⟨_,rfl,a3,_,_,rfl,a0⟩
def RReadP(k:Nat)(l:Bl)(no:Int)(w:World)(e:Ending)(w':World):Prop :=
 (¬ (0≤no∧no<(k:Int))∧e=.returned (.tuple #[S0,V0 3])∧B3 w w') ∨
 (∃ j:Nat,no=(j:Int)∧j<k∧∃ b c,e=.returned (.tuple #[.slice (S1 b) 256 c,V0 0])∧B3 w w'∧Bys w' (.slice (S1 b) 256 c) (Yj l j))
theorem Zd5(B bm:Nat)(p:O0)(k c:Nat)(l:Bl)(w:World)(hI:RefI B bm p k c l w)(no:Int) :
 C0 92 #[P0 bm,V0 no] w (RReadP k l no w):=by
 by_cases h:0≤no∧no<(k:Int)
 ·obtain⟨j,rfl⟩:∃ j:Nat,no=j:=⟨no.toNat,by omega⟩
  refine(Rz B bm p k c l w hI j (by omega)).mono ?_
  rintro e W ⟨_,rfl,hb,b,c2,rfl,ho⟩
  exact .inr ⟨j,rfl,by omega,_,_,rfl,hb,ho⟩
 ·refine(Fq B bm p k c l w hI no h).mono ?_
  rintro e W ⟨rfl,hb⟩
  exact .inl ⟨h,rfl,hb⟩
def RInP(l:Bl)(kind no:Int)(w:World)(e:Ending)(w':World):Prop :=
 (inE l kind no≠0∧e=.returned (.tuple #[S0,V0 (inE l kind no)])∧B3 w w') ∨
 (inE l kind no=0∧(inB l no).length=244∧∃ p c,e=.returned (.tuple #[.slice p 244 c,V0 0])∧B3 w w'∧w'.ownsRow w.heap.size 5 1 (.slice p 244 c) 244 ((inB l no).map bv))
theorem ref11_in(B bm:Nat)(p:O0)(k c:Nat)(l:Bl)(w:World)(hI:RefI B bm p k c l w)(no:Int)(kind:Int) :
 C0 52 #[P0 bm,V0 no,V0 kind] w (RInP l kind no w):=by
 have a9:=hI.hl
 refine zin 25 Tryz.func52 ?_
 refine xc 10 (args:=#[P0 bm,V0 no]) (Zd5 B bm p k c l _ (hI.below (B4 w)) no) ?_
 rintro e W1 a7
 rcases a7 with ⟨ho,rfl,a0⟩|⟨j,a4,hj,b3,c3,rfl,a0,a6⟩
 ·refine xe 24 (.tuple #[S0,V0 3]) ?_
  have he:inE l kind no=3:=Fi (n:=k*256) hI.hl (by omega)
  exact .inl ⟨by rw[he];decide,by rw[he],a0⟩
 have a3:inE l kind no=Xr kind no (Yj l j):=Ss (n:=k*256) hI.hl a4 (by omega)
 have a5:inB l no=((Yj l j).drop 8).take 244:=Sn a4
 refine xc 22 (args:=#[.slice (S1 b3) 256 c3,V0 kind,V0 no]) (ref_Open kind no _ 256 c3 (Yj l j) _ (Qp (by omega)) a6) ?_
 rintro e W2 a8
 rcases a8 with ⟨hs,rfl,a2⟩|⟨hs,p2,c2,rfl,a2,h2⟩
 ·have hB:=bln a0 a2
  exact xe 7 (.tuple #[S0,V0 (Xr kind no (Yj l j))]) (.inl ⟨by rw[a3];exact hs,by rw[a3],hB⟩)
 have hB:=bln a0 a2
 have a1:=Zf h2 a0.size
 exact xe 7 (.tuple #[.slice p2 244 c2,V0 0]) (.inr ⟨by rw[a3,hs],by rw[a5];simp[Qp (show j<l.length/256 by omega)],_,_,rfl,hB,by rw[a5];exact a1⟩)
def Vt(t:Int)(leaf:Bool)(n m v:Nat):Bl:=leB (Ui leaf) 1++leB t 1++leB (n:Int) 2++leB (v:Int) 2++leB (m:Int) 2++leB 0 4
theorem Vl(t:Int)(leaf:Bool)(n m v:Nat):(Vt t leaf n m v).length=12:=by simp[Vt,Zg]
def Hd(m v:Nat)(H:Bl)(K:List Int)(Vs:List Bl):Nat→Bl
 | 0=>Qy (List.replicate 244 0) 0 H
 | i+1=>Qy (Qy (Hd m v H K Vs i) (12+i*8) (leB (K.getD i 0) 8)) (12+m*8+i*v) (Vs.getD i [])
theorem Rg{m v:Nat}{H:Bl}{K:List Int}{Vs:List Bl}(hH:H.length=12)(hf:12+m*8+m*v≤244):∀ {i:Nat},i≤m→(∀ j,j<i→(Vs.getD j []).length=v)→(Hd m v H K Vs i).length=244
 | 0,_,_=>by rw[Hd,Yx (by rw[List.length_replicate];omega),List.length_replicate]
 | i+1,hi,hV=>by
  have ih:=Rg (K:=K) hH hf (i:=i) (by omega) (fun j hj=>hV j (by omega))
  have h1:=hV i (by omega)
  have h2:(i+1)*v≤m*v:=Nat.mul_le_mul_right v hi
  rw[Nat.add_mul,Nat.one_mul] at h2
  have h3:(Qy (Hd m v H K Vs i) (12+i*8) (leB (K.getD i 0) 8)).length=244:=by rw[Yx (by rw[Zg,ih];omega),ih]
  rw[Hd,Yx (by rw[h1,h3];omega),h3]
theorem node_Put(t:Int)(leaf:Bool)(n m v:Nat)(K:List Int)(Vs:List Bl)(ak av:O0)(ck cv:Nat)(w:World)(N:NodeOk t leaf n m v K Vs)(hKs:Sl w (.slice ak n ck) n (K.map V0))(hVs:Sl w (.slice av n cv) n (Vs.map sv)) :
 C0 231 #[.agg #[V0 t,.bool leaf,.slice ak n ck,.slice av n cv]] w (Yy (fun w' r=>∃ p c,r=.tuple #[.slice p 244 c,V0 0]∧w'.ownsRow w.heap.size 5 1 (.slice p 244 c) 244 ((Hd m v (Vt t leaf n m v) K Vs n).map bv)) w):=by
 have e0:=N.ht1
 have e2:=N.ht2
 have f9:=N.hn
 have f5:=Ek t leaf
 rw[N.hv] at f5
 have f4:=Yv t leaf
 rw[N.hm] at f4
 have d3:=fitN t leaf
 rw[N.hm,N.hv] at d3
 have f1:=Sl.cap hKs
 refine zin 90 Tryz.func231 ?_
 refine xa 2 [V0 t,.bool leaf,.slice ak n ck,.slice av n cv] 183 fun b1 W1 n1=>?_
 refine xlv 7 n1.blk.rp ?_
 refine xr 0 (args:=#[.agg #[V0 t,.bool leaf,.slice ak n ck,.slice av n cv]]) (Zhj t leaf n m v K Vs ak av ck cv _ N (hKs.below n1.below) (hVs.below n1.below)) fun W2 e1=>?_
 refine xd 7 .z ?_
 have a6:=(n1.blk.below e1).below (Za W2)
 refine xb (.e [0] 1) 0 a6 ?_
 refine xb (.e [2] 3) 1 a6 ?_
 refine xb (.e [5] 6) 0 a6 ?_
 refine xb (.e [7] 8) 1 a6 ?_
 refine xr (.o [] 4) (args:=#[V0 t,.bool leaf]) (Ns t leaf v N.hv e0 e2 _) fun W3 e5=>?_
 refine xr (.o [] 9) (args:=#[V0 t,.bool leaf]) (Fz t leaf m N.hm e0 e2 _) fun W4 e3=>?_
 refine xd (.r [10,11] 3) .z ?_
 have a7:=((a6.below e5).below e3).below (Za W4)
 refine xb (.e [0] 1) 1 a7 ?_
 refine xb (.e [4] 5) 0 a7 ?_
 refine xb (.e [6,7] 8) 2 a7 ?_
 refine xr (.o [9,10,11,12,13,14,15] 2) (args:=#[.bool leaf]) (node_flag leaf _) fun W5 e4=>?_
 refine xbs (.o [3] 16) 6 [V0 1,V0 (Ui leaf),V0 1,V0 t,V0 2,V0 (n:Int),V0 2,V0 (v:Int),V0 2,V0 (m:Int),V0 4,V0 0] 235 fun b6 W6 n6=>?_
 have b3:=bln (bln (bln (bln (bln (bln n1.below e1) (Za W2)) e5) e3) (Za W4)) e4
 have g6:=n6.ge b3
 refine yc (.o [] 17) (args:=#[.slice (S1 b6) 6 6]) .z (Pack_node b6 (Ui leaf) t (n:Int) (v:Int) (m:Int) (Ac leaf).1 (Ac leaf).2 (by omega) (by omega) (by omega) (by omega) (by omega) (by omega) (by omega) (by omega) _ n6.blk) ?_
 rintro _ W7 ⟨_,rfl,c8,p2,c2,rfl,h2⟩
 have f3:=(bln b3 n6.below).size
 refine⟨c8,?_⟩
 refine xmk (.r [18,19,20,21,22] 4) fun _ _ _ _ zJ zQ zo zx zy zK=>Ke 244 (.int .u8 0) 1 1 ((List.replicate 244 (0:UInt8)).map bv) zo zx zy Tryz.underlying22 (by kernel_rfl) rfl (by omega) (by omega) (Zbi 244) fun b8 W8 n8=>?_
 have c6:=bln (bln b3 n6.below) c8
 have g8:=n8.ge c6
 have c4:=Zf h2 f3
 have e6:=Zr c4 n8
 refine zK _ _ ?_
 have o8:=Zz (size:=1) (n:=244) n8.blk g8 (by rw[List.length_map,List.length_replicate]) (by unfold maxLen;omega)
 have d0:=Zb c4 n8.below
 have b9:=bln c6 n8.below
 refine xbi 7 (t2:=22) fun _ _ _ _ zJ zQ zo zx zy zK=>Wk (dLen:=244) (dCap:=244) (off:=0) 12 ((Vt t leaf n m v).map bv) ((Hd m v (Vt t leaf n m v) K Vs 0).map bv) zo Tryz.underlying22 (by kernel_rfl) zx zy (Ze d0) o8 (by simp[Vl]) (by omega) (by omega) (Yt _) b9.size (by simp[Hd,Qy,Vl]) fun W9 o9 e7 e8=>?_
 refine zK _ _ ?_
 have c0:=((((a7.below e4).below n6.below).below c8).below n8.below).grown e7 o8 (by decide)
 refine xb 6 2 c0 ?_
 have d6:=b9.trans e8
 have d4:=((n6.blk.below c8).below n8.below).grown e7 o8 (by decide)
 refine zl 5 90 (fun zm f6 V=>∃ (i:Nat),f6=[(1,P0 b1),(2,S0),(3,V0 0),(4,V0 (v:Int)),(5,V0 (m:Int)),(8,.slice (S1 b8) 244 244),(52,.slice ak n ck),(53,V0 (n:Int)),(54,V0 (i:Int))]∧zm=n-((i:Int)).toNat∧B3 w V∧Blk V b1 ([V0 t,.bool leaf,.slice ak n ck,.slice av n cv]) 183∧Blk V b6 ([V0 1,V0 (Ui leaf),V0 1,V0 t,V0 2,V0 (n:Int),V0 2,V0 (v:Int),V0 2,V0 (m:Int),V0 4,V0 0]) 235∧V.ownsRow w.heap.size 5 1 (.slice (S1 b8) 244 244) 244 ((Hd m v (Vt t leaf n m v) K Vs i).map bv)∧i≤n) ⟨0,rfl,rfl,d6,c0,d4,o9,Nat.zero_le _⟩ ?_
 rintro _ _ f7 ⟨i,rfl,rfl,a0,b4,a5,ho,hi⟩ g5 c9 g1
 have e8:i<n→i*v+v≤m*v:=fun h=>by have h9:(i+1)*v≤m*v:=Nat.mul_le_mul_right v (by omega);rw[Nat.add_mul,Nat.one_mul] at h9;exact h9
 refine xid 6 ((i:Int)<(n:Int)) (fun d1=>?_) (fun d1=>?_)
 ·refine xx 7 _ n i 1 (IntsN.elem hKs N.hK (k:=i) (by omega)).1 ?_
  refine xl 0 ((IntsN.elem (hKs.below a0) N.hK (k:=i) (by omega)).2) ?_
  refine xbs 8 1 [V0 8,V0 (K.getD i 0)] 235 fun e9 f8 a9=>?_
  have d7:=a9.ne a5
  have g0:=a9.ge a0
  refine xc 0 (args:=#[.slice (S1 e9) 1 1]) (Pack_8 e9 (K.getD i 0) (N.hk0 i (by omega)).1 _ a9.blk) ?_
  rintro _ g3 ⟨_,rfl,a8,p3,c3,rfl,h3⟩
  have d8:=(bln a0 a9.below).size
  refine xwm 11 ((i:Int)*8) (↑(i*8):Int) ?_
  refine xwm 0 (12+(↑(i*8):Int)) (↑(12+(i*8)):Int) ?_
  refine xsL 0 (fun _ _ _ _ zo zx zy V=>Ps (k:=(12+(i*8))) (b:=b8) (off:=0) (n:=244) (c:=244) (i:=(↑(12+(i*8)):Int)) (ki:=.i64) 1 zo zx zy rfl (by omega) (by omega) Tryz.underlying22 (by kernel_rfl) V) ?_
  have b0:=Zb (Zb ho a9.below) a8
  have d2:=Zf h3 d8
  have c1:=bln (bln a0 a9.below) a8
  refine xbi 1 (t2:=22) fun _ _ _ _ zJ zQ zo zx zy zK=>Wk (dLen:=(244-(12+(i*8)))) (dCap:=(244-(12+(i*8)))) (off:=(0+(12+(i*8))*1)) 8 ((leB (K.getD i 0) 8).map bv) ((Qy (Hd m v (Vt t leaf n m v) K Vs i) (12+i*8) (leB (K.getD i 0) 8)).map bv) zo Tryz.underlying22 (by kernel_rfl) zx zy (Ze d2) b0 (by simp[Zg]) (by omega) (by omega) (Yt _) c1.size (by simp[Qy,Zg,List.map_take,List.map_drop]) fun c7 f0 c5 d9=>?_
  refine zK _ _ ?_
  refine xd 2 (.t w.heap.size [5]) ?_
  refine xwm (.e [0,1] 2) ((m:Int)*8) (↑(m*8):Int) ?_
  refine xwm (.e [] 3) (12+(↑(m*8):Int)) (↑(12+(m*8)):Int) ?_
  refine xwm (.e [4,5] 6) ((i:Int)*(v:Int)) (↑(i*v):Int) ?_
  refine xwm (.e [] 7) ((↑(12+(m*8)):Int)+(↑(i*v):Int)) (↑((12+(m*8))+(i*v)):Int) ?_
  refine xsL (.e [] 8) (fun _ _ _ _ zo zx zy V=>Ps (k:=((12+(m*8))+(i*v))) (b:=b8) (off:=0) (n:=244) (c:=244) (i:=(↑((12+(m*8))+(i*v)):Int)) (ki:=.i64) 1 zo zx zy rfl (by omega) (by omega) Tryz.underlying22 (by kernel_rfl) V) ?_
  have a1:=(((b4.below a9.below).below a8).grown c5 b0 (by decide)).below (Za c7)
  refine xbt (.e [9] 10) 3 w.heap.size [5] a1 ?_
  refine xx (.e [11] 12) _ n i 1 (Strs.elem hVs N.hV (k:=i) (by omega)).1 ?_
  have b5:=bln (c1.trans d9) (Za c7)
  refine xlt (.e [] 13) (.t w.heap.size [5]) (fun V hV=>(Strs.elem (hVs.below (Ad b5 hV (Nat.le_refl _))) N.hV (k:=i) (by omega)).2) ?_
  have a2:=Zb f0 (Za c7)
  refine ybi (.o [] 14) (t2:=9) (.t w.heap.size [5]) fun _ _ _ _ zJ zQ zo zx zy zK=>Zek (dLen:=(244-((12+(m*8))+(i*v)))) (dCap:=(244-((12+(m*8))+(i*v)))) (off:=(0+((12+(m*8))+(i*v))*1)) (Vs.getD i []) ((Hd m v (Vt t leaf n m v) K Vs (i+1)).map bv) zo Tryz.underlying22 (by kernel_rfl) zx zy a2 (by rw[N.hw i (by omega)];omega) (by rw[N.hw i (by omega)];omega) b5.size (by simp[Hd,Qy,List.map_take,List.map_drop]) fun g2 f2 b2 b7=>?_
  refine zK _ _ (Xa b7 b2 a2 (by decide)) ?_
  refine xwm 4 ((i:Int)+1) (↑(i+1):Int) ?_
  have d5:=b5.trans b7
  have a4:=a1.grown b2 a2 (by decide)
  have a3:=((((a5.below a9.below).below a8).grown c5 b0 (by decide)).below (Za c7)).grown b2 a2 (by decide)
  exact ze 2 (c9 _ _ _ ⟨i+1,rfl,rfl,d5,a4,a3,f2,by omega⟩ (by omega))
 refine xe 13 (.tuple #[.slice (S1 b8) 244 244,V0 0]) ?_
 have e:i=n:=by omega
 subst e
 exact⟨_,rfl,a0,_,_,rfl,ho⟩
def Yu(K:List Int)(n:Nat)(i:Nat):Bl:=(List.range i).flatMap fun j=>if j<n then leB (K.getD j 0) 8 else List.replicate 8 0
theorem Ve(K:List Int)(n i:Nat):Yu K n (i+1)=Yu K n i++(if i<n then leB (K.getD i 0) 8 else List.replicate 8 0):=by
 unfold Yu;rw[List.range_succ,List.flatMap_append];simp
theorem Jh(K:List Int)(n i:Nat):(Yu K n i).length=i*8:=by
 induction i with
 | zero=>rfl
 | succ i ih=>rw[Ve,List.length_append,ih];split<;>simp[Zg]<;>omega
def Qt(Vs:List Bl)(i:Nat):Bl:=(List.range i).flatMap fun j=>Vs.getD j []
theorem Uc(Vs:List Bl)(i:Nat):Qt Vs (i+1)=Qt Vs i++Vs.getD i []:=by
 unfold Qt;rw[List.range_succ,List.flatMap_append];simp
theorem Wy{Vs:List Bl}{v:Nat}:∀ {i:Nat},(∀ j,j<i→(Vs.getD j []).length=v)→(Qt Vs i).length=i*v
 | 0,_=>by simp[Qt]
 | i+1,h=>by rw[Uc,List.length_append,Wy fun j hj=>h j (by omega),h i (by omega),Nat.add_mul,Nat.one_mul]
theorem Iz{P z Q x:Bl}{k:Nat}(hk:P.length=k)(hz:z.length=x.length):Qy (P++z++Q) k x=P++x++Q:=by
 unfold Qy
 subst hk
 rw[List.append_assoc P z Q,List.take_left' rfl,←hz]
 have e:P++(z++Q)=(P++z)++Q:=(List.append_assoc _ _ _).symm
 rw[e,List.drop_left' (by simp)]
theorem Jw(K:List Int)(i:Nat):∀ d,Yu K i (i+d)=Yu K i i++List.replicate (d*8) 0
 | 0=>by simp
 | d+1=>by
  rw[←Nat.add_assoc,Ve,Jw K i d,if_neg (by omega),List.append_assoc,List.replicate_append_replicate,Nat.add_mul,Nat.one_mul]
theorem Bn(K:List Int)(n:Nat):∀ i,i≤n→Yu K n i=Yu K i i
 | 0,_=>rfl
 | i+1,h=>by
  rw[Ve,Ve,if_pos (by omega),if_pos (by omega),Bn K n i (by omega),Bn K (i+1) i (by omega)]
theorem Iw(a b:Nat):List.replicate (a+b) (0:UInt8)=List.replicate a 0++List.replicate b 0:=List.replicate_append_replicate.symm
theorem Sj{m v:Nat}{H:Bl}{K:List Int}{Vs:List Bl}(hH:H.length=12)(hf:12+m*8+m*v≤244):∀ {i:Nat},i≤m→(∀ j,j<i→(Vs.getD j []).length=v) →
  Hd m v H K Vs i=H++Yu K i m++Qt Vs i++List.replicate (232-m*8-i*v) 0
 | 0,_,_=>by
  have e1:=Jw K 0 m
  rw[Nat.zero_add] at e1
  rw[Hd,e1]
  have h1:(232-m*8-0*v)=232-m*8:=by omega
  rw[h1,show(244:Nat)=12+(m*8+(232-m*8)) by omega,Iw,Iw]
  have:=Iz (P:=[]) (z:=List.replicate 12 (0:UInt8)) (Q:=List.replicate (m*8) 0++List.replicate (232-m*8) 0) (x:=H) (k:=0) rfl (by simp[hH])
  rw[List.nil_append,List.nil_append] at this
  rw[this]
  simp[Yu,Qt]
 | i+1,hi,hV=>by
  have ih:=Sj (K:=K) hH hf (i:=i) (by omega) (fun j hj=>hV j (by omega))
  have a0:=hV i (by omega)
  have h2:(i+1)*v≤m*v:=Nat.mul_le_mul_right v hi
  rw[Nat.add_mul,Nat.one_mul] at h2
  obtain⟨d,hd⟩:∃ d,m=i+(d+1):=⟨m-i-1,by omega⟩
  have ek:Yu K i m=Yu K i i++List.replicate 8 0++List.replicate (d*8) 0:=by
   rw[hd,Jw,show(d+1)*8=8+d*8 by omega,Iw,List.append_assoc]
  have a4:Yu K (i+1) m=Yu K i i++leB (K.getD i 0) 8++List.replicate (d*8) 0:=by
   rw[show m=(i+1)+d by omega,Jw,Ve,if_pos (by omega),Bn K (i+1) i (by omega)]
  have er:List.replicate (232-m*8-i*v) (0:UInt8)=List.replicate v 0++List.replicate (232-m*8-(i*v+v)) 0:=by
   rw[←Iw];congr 1;omega
  have a3:(Qt Vs i).length=i*v:=Wy fun j hj=>hV j (by omega)
  rw[Hd,ih,ek,er]
  have s1:=Iz (P:=H++Yu K i i) (z:=List.replicate 8 (0:UInt8)) (Q:=List.replicate (d*8) 0++(Qt Vs i++(List.replicate v 0++List.replicate (232-m*8-(i*v+v)) 0))) (x:=leB (K.getD i 0) 8) (k:=12+i*8) (by rw[List.length_append,hH,Jh]) (by simp[Zg])
  have a1:H++(Yu K i i++List.replicate 8 0++List.replicate (d*8) 0)++Qt Vs i++(List.replicate v 0++List.replicate (232-m*8-(i*v+v)) 0)=H++Yu K i i++List.replicate 8 0++(List.replicate (d*8) 0++(Qt Vs i++(List.replicate v 0++List.replicate (232-m*8-(i*v+v)) 0))):=by simp only[List.append_assoc]
  rw[a1,s1]
  have s2:=Iz (P:=H++Yu K (i+1) m++Qt Vs i) (z:=List.replicate v (0:UInt8)) (Q:=List.replicate (232-m*8-(i*v+v)) 0) (x:=Vs.getD i []) (k:=12+m*8+i*v) (by rw[List.length_append,List.length_append,hH,Jh,a3]) (by rw[List.length_replicate,a0])
  have a2:H++Yu K i i++leB (K.getD i 0) 8++(List.replicate (d*8) 0++(Qt Vs i++(List.replicate v 0++List.replicate (232-m*8-(i*v+v)) 0)))=H++Yu K (i+1) m++Qt Vs i++List.replicate v 0++List.replicate (232-m*8-(i*v+v)) 0:=by rw[a4];simp only[List.append_assoc]
  rw[a2,s2,Uc,Nat.add_mul,Nat.one_mul]
  simp only[List.append_assoc]
end Go.Proofs.YtceeiinepijokaaGreat
namespace Go.Proofs.YtceeiinepijokaaGreat
set_option maxHeartbeats 8000000
set_option maxRecDepth 100000
open Go.RowKit
set_option linter.unusedVariables false
def Dj(l:List Int):Prop:=∀ k,k<l.length→1≤k→l[k-1]?.getD 0<l[k]?.getD 0
instance (l:List Int):Decidable (Dj l):=by unfold Dj;infer_instance
theorem Dj.lt{l:List Int}(h:Dj l):∀ (j i:Nat),i<j→j<l.length→l[i]?.getD 0<l[j]?.getD 0:=by
 intro j
 induction j with
 | zero=>intro i h1;omega
 | succ j ih =>
  intro i h1 h2
  have h3:=h (j+1) h2 (by omega)
  simp only[Nat.add_sub_cancel] at h3
  by_cases hij:i=j
  ·subst hij;exact h3
  ·exact Int.lt_trans (ih i (by omega) (by omega)) h3
theorem Dj.one(l:List Int):Dj (l.take 1):=by
 intro k h1 h2;simp at h1;omega
theorem Dj.succ{l:List Int}{k:Nat}{x y:Int}(h:Dj (l.take k))(hx:l[k-1]? = some x)(hy:l[k]? = some y)(hxy:x<y):Dj (l.take (k+1)):=by
 intro j h1 h2
 have a0:j<k+1:=by simp at h1;omega
 rw[List.getElem?_take,List.getElem?_take,if_pos (by omega),if_pos a0]
 by_cases hj:j=k
 ·subst hj;rw[hx,hy];exact hxy
 ·have:=h j (by simp at h1 ⊢;omega) h2
  rw[List.getElem?_take,List.getElem?_take,if_pos (by omega),if_pos (by omega)] at this
  exact this
theorem Dj.all{l:List Int}{k:Nat}(h:Dj (l.take k))(hk:l.length≤k):Dj l:=by rwa [List.take_of_length_le hk] at h
end Go.Proofs.YtceeiinepijokaaGreat
namespace Go.Proofs.YtceeiinepijokaaGreat
set_option maxHeartbeats 8000000
set_option maxRecDepth 100000
open Go.RowKit
set_option linter.unusedVariables false
attribute [local go_sem] Oper.semAt_some
theorem Ms{n k:Nat}(h:k<n):(List.finRange n).take (k+1)=(List.finRange n).take k++[⟨k,h⟩]:=by
 rw[List.take_succ_eq_append_getElem (by simpa using h)];simp
theorem Za6(n:Nat):(List.finRange n).take n=List.finRange n:=List.take_of_length_le (by simp)
theorem Rh{n k:Nat}(h:k≤n):((List.finRange n).take k).length=k:=by simp[h]
end Go.Proofs.YtceeiinepijokaaGreat
namespace Go.Proofs.YtceeiinepijokaaGreat
set_option maxHeartbeats 8000000
set_option maxRecDepth 100000
open Go.RowKit Go.Extern.Stop Go.Stop Go.Extern
set_option linter.unusedVariables false
attribute [local irreducible] wpList wpAnyH Code.wp Oper.wp Go
theorem Tx(kind no:Int)(a:O0)(n c:Nat)(l:Bl)(w:World)(hn:l.length=n)(h:Bys w (.slice a n c) l):C0 75 #[.slice a n c,V0 kind,V0 no] w (OpenP kind no l w):=by
 subst hn;exact Zbt kind no a c l w h
def Qu(l:Bl)(tree:Int):Int:=if Jm l=0 then(if tree=0∨Ql l=tree then 0 else 6) else Jm l
def Xv(l:Bl)(no tree:Int):Int:=if inE l 2 no=0 then Qu (inB l no) tree else inE l 2 no
def Node1P(l:Bl)(tree:Int)(w:World)(e:Ending)(w':World):Prop :=
 (Qu l tree≠0∧∃ a b kp n1 kc vp n2 vc,e=.returned (.tuple #[.agg #[V0 a,.bool b,.slice kp n1 kc,.slice vp n2 vc],V0 (Qu l tree)])∧B3 w w') ∨
 (Qu l tree=0∧∃ kp kc vp vc,e=.returned (.tuple #[.agg #[V0 (Ql l),.bool (Qr l),.slice kp (Xq l) kc,.slice vp (Xq l) vc],V0 0])∧B3 w w' ∧
  w'.ownsRow w.heap.size 3 1 (.slice kp (Xq l) kc) (Xq l) ((Wp l (Xq l)).map V0)∧w'.ownsRow w.heap.size 9 1 (.slice vp (Xq l) vc) (Xq l) ((Wr l (Xq l)).map sv))
def Zeo(l:Bl)(no tree:Int)(w:World)(e:Ending)(w':World):Prop :=
 (Xv l no tree≠0∧∃ b,e=.returned (.tuple #[.agg #[V0 0,.bool false,S0,S0],.iface 256 (P0 b)])∧B3 w w'∧Hw w' [some no] (some (Xv l no tree)) (.iface 256 (P0 b))) ∨
 (Xv l no tree=0∧∃ kp kc vp vc,e=.returned (.tuple #[.agg #[V0 (Ql (inB l no)),.bool (Qr (inB l no)),.slice kp (Xq (inB l no)) kc,.slice vp (Xq (inB l no)) vc],.nilIface])∧B3 w w' ∧
  w'.ownsRow w.heap.size 3 1 (.slice kp (Xq (inB l no)) kc) (Xq (inB l no)) ((Wp (inB l no) (Xq (inB l no))).map V0)∧w'.ownsRow w.heap.size 9 1 (.slice vp (Xq (inB l no)) vc) (Xq (inB l no)) ((Wr (inB l no) (Xq (inB l no))).map sv))
theorem node_1(tree:Int)(bt:Nat)(a:O0)(c:Nat)(l:Bl)(w:World)(kt:Blk w bt [V0 tree] 3)(hl:l.length=244)(h:Bys w (.slice a 244 c) l) :
 C0 152 #[.slice a 244 c,P0 bt] w (Node1P l tree w):=by
 refine zin 27 Tryz.func152 ?_
 refine xa 2 [V0 0,.bool false,S0,S0] 183 fun b1 W1 n1=>?_
 refine xc 6 (args:=#[.slice a 244 c]) (node_Read a c l _ hl (h.below n1.below)) ?_
 rintro e W2 d0
 rcases d0 with ⟨hz,rfl,a4⟩|⟨hz,kp,kc,vp,vc,rfl,a4,hk,c5⟩
 ·refine xa 3 [V0 0,.bool false,S0,S0] 183 fun b3 W3 n3=>?_
  have k1:=n1.blk.below a4
  have b0:=n3.ne k1
  have a6:=bln n1.below a4
  have g3:=n3.ge a6
  refine xsv 0 n3.blk [V0 0,.bool false,S0,S0] fun W4 u4 k4=>?_
  refine xgk 9 [13,14] (show(((Jm l)==(0:Int)):Bool)=false from beq_false_of_ne hz) ?_
  refine xlv 16 k4.rp ?_
  have c0:=u4.blk (k1.below n3.below) (Ne.symm (Ne.symm b0))
  refine xsv 1 c0 [V0 0,.bool false,S0,S0] fun W6 u6 k6=>?_
  have g1:=n1.ge (B4 w)
  have c4:=u6.below (u4.below (bln a6 n3.below) g3) g1
  exact xec 4 k6 (.tuple #[.agg #[V0 0,.bool false,S0,S0],V0 (Jm l)]) (.inl ⟨by unfold Qu;rw[if_neg hz];exact hz,_,_,_,_,_,_,_,_,by unfold Qu;rw[if_neg hz],c4⟩)
 refine xa 3 [V0 0,.bool false,S0,S0] 183 fun b7 W7 n7=>?_
 have k1:=n1.blk.below a4
 have a0:=n7.ne k1
 have a1:=bln n1.below a4
 have g7:=n7.ge a1
 refine xsv 0 n7.blk [V0 (Ql l),.bool (Qr l),.slice kp (Xq l) kc,.slice vp (Xq l) vc] fun W8 u8 k8=>?_
 have a8:=u8.blkT (((kt.below n1.below).below a4).below n7.below) n7.blk (by decide)
 refine xb 9 0 a8 ?_
 refine xg 3 [16,17,18] (tree != (0:Int)) (fun a5=>?_) (fun a5=>?_)
 ·have a5:=Uu a5
  refine xb 1 0 k8 ?_
  refine xb 0 0 a8 ?_
  refine xin 4 (Ql l) tree (fun b6=>?_) (fun b6=>?_)
  ·refine xlv 2 k8.rp ?_
   have b4:=u8.blk (k1.below n7.below) (Ne.symm (Ne.symm a0))
   refine xsv 0 b4 [V0 (Ql l),.bool (Qr l),.slice kp (Xq l) kc,.slice vp (Xq l) vc] fun d2 c7 c8=>?_
   have g1:=n1.ge (B4 w)
   have b8:=c7.below (u8.below (bln a1 n7.below) g7) g1
   exact xec 5 c8 (.tuple #[.agg #[V0 (Ql l),.bool (Qr l),.slice kp (Xq l) kc,.slice vp (Xq l) vc],V0 6]) (.inl ⟨by unfold Qu;rw[if_pos hz,if_neg (by omega)];decide,_,_,_,_,_,_,_,_,by unfold Qu;rw[if_pos hz,if_neg (by omega)],b8⟩)
  refine xlv 4 k8.rp ?_
  have a3:=u8.blk (k1.below n7.below) (Ne.symm (Ne.symm a0))
  refine xsv 1 a3 [V0 (Ql l),.bool (Qr l),.slice kp (Xq l) kc,.slice vp (Xq l) vc] fun d1 c1 c6=>?_
  have g1:=n1.ge (B4 w)
  have b5:=c1.below (u8.below (bln a1 n7.below) g7) g1
  have c3:=c1.own2 (u8.own2 (Zb (Zf hk n1.below.size) n7.below) n7.blk (by decide)) a3 (by decide)
  have a7:=c1.own2 (u8.own2 (Zb (Zf c5 n1.below.size) n7.below) n7.blk (by decide)) a3 (by decide)
  exact xec 4 c6 (.tuple #[.agg #[V0 (Ql l),.bool (Qr l),.slice kp (Xq l) kc,.slice vp (Xq l) vc],V0 0]) (.inr ⟨by unfold Qu;rw[if_pos hz,if_pos (by omega)],_,_,_,_,rfl,b5,c3,a7⟩)
 have a5:=Yo a5
 refine xlv 12 k8.rp ?_
 have a2:=u8.blk (k1.below n7.below) (Ne.symm (Ne.symm a0))
 refine xsv 1 a2 [V0 (Ql l),.bool (Qr l),.slice kp (Xq l) kc,.slice vp (Xq l) vc] fun d3 c2 c9=>?_
 have g1:=n1.ge (B4 w)
 have b9:=c2.below (u8.below (bln a1 n7.below) g7) g1
 have b2:=c2.own2 (u8.own2 (Zb (Zf hk n1.below.size) n7.below) n7.blk (by decide)) a2 (by decide)
 have a9:=c2.own2 (u8.own2 (Zb (Zf c5 n1.below.size) n7.below) n7.blk (by decide)) a2 (by decide)
 exact xec 4 c9 (.tuple #[.agg #[V0 (Ql l),.bool (Qr l),.slice kp (Xq l) kc,.slice vp (Xq l) vc],V0 0]) (.inr ⟨by unfold Qu;rw[if_pos hz,if_pos (by omega)],_,_,_,_,rfl,b9,b2,a9⟩)
theorem readNode(B b:Nat)(p:O0)(n c:Nat)(l:Bl)(no tree:Int)(w:World)(hI:ImgR B b p n c l w)(bt:Nat)(kt:Blk w bt [V0 tree] 3) :
 C0 151 #[P0 b,V0 no,V0 2,.func (.func 152) #[] #[P0 bt]] w (Zeo l no tree w):=by
 refine zin 56 Tryz.func151 ?_
 refine xa 2 [V0 0,.bool false,S0,S0] 183 fun b1 W1 n1=>?_
 refine xa 5 [V0 0,.bool false,S0,S0] 183 fun b2 W2 n2=>?_
 have h8:=n2.ne n1.blk
 have hB:=bln n1.below n2.below
 refine xc 6 (args:=#[P0 b,V0 no]) (Bw B b p n c l no _ (hI.below hB)) ?_
 rintro e W3 j7
 rcases j7 with ⟨ho,vr,rfl,a0⟩|⟨j,hk,hj,p2,c2,rfl,a0,ho⟩
 ·refine xd 16 (.t w.heap.size [183]) ?_
  refine xm2 (.b [1,2,3]) 0 4 ?_ ?_
  ·have k2:=(n2.blk.below a0).below (Za W3)
   refine xlv 0 k2.rp ?_
   refine yc (.o [] 4) (args:=#[V0 no,.iface 89 (V0 3)]) (.t w.heap.size [183]) (Xy no 3 _) ?_
   rintro _ W4 ⟨_,rfl,h0,g5⟩
   refine⟨(SF.of_below _ h0),?_⟩
   rw[if_neg (by decide),if_neg (by decide)] at g5
   have i5:=g5
   obtain⟨j2,m4,rfl,_,_⟩:=i5
   have c1:=(((n1.blk.below n2.below).below a0).below (Za W3)).below h0
   have g1:=n1.ge (B4 w)
   refine ysv (.o [] 5) c1 [V0 0,.bool false,S0,S0] (.t w.heap.size [183]) fun W5 u5 k5=>⟨(Zt u5 c1 g1 (by decide)),?_⟩
   have g2:=u5.below (bln (bln (bln hB a0) (Za W3)) h0) g1
   have d5:=g5.upd u5 c1 (by decide)
   refine xec (.r [6] 4) k5 (.tuple #[.agg #[V0 0,.bool false,S0,S0],.iface 256 (P0 j2)]) ?_
   have he:Xv l no tree=3:=by unfold Xv;rw[Fi hI.len ho];rfl
   exact .inl ⟨by rw[he];decide,_,rfl,g2,by rw[he];exact d5⟩
  refine yc 0 (args:=#[V0 no,.iface 89 (V0 3)]) (.t w.heap.size [183]) (Xy no 3 _) ?_
  rintro _ W6 ⟨_,rfl,e5,e9⟩
  refine⟨(SF.of_below _ e5),?_⟩
  rw[if_neg (by decide),if_neg (by decide)] at e9
  have k0:=e9
  obtain⟨i6,l5,rfl,_,_⟩:=k0
  have k2:=((n2.blk.below a0).below (Za W3)).below e5
  refine xlv (.o [] 0) k2.rp ?_
  have b7:=(((n1.blk.below n2.below).below a0).below (Za W3)).below e5
  have g1:=n1.ge (B4 w)
  refine ysv (.o [] 5) b7 [V0 0,.bool false,S0,S0] (.t w.heap.size [183]) fun W7 u7 k7=>⟨(Zt u7 b7 g1 (by decide)),?_⟩
  have f0:=u7.below (bln (bln (bln hB a0) (Za W3)) e5) g1
  have e1:=e9.upd u7 b7 (by decide)
  refine xec (.r [6] 4) k7 (.tuple #[.agg #[V0 0,.bool false,S0,S0],.iface 256 (P0 i6)]) ?_
  have he:Xv l no tree=3:=by unfold Xv;rw[Fi hI.len ho];rfl
  exact .inl ⟨by rw[he];decide,_,rfl,f0,by rw[he];exact e1⟩
 have j0:=(bln n1.below n2.below).size
 have j5:j<l.length/256:=by rw[hI.len];exact hj
 have h9:=Qp j5
 have e3:=Ss (l:=l) (kind:=2) hI.len hk hj
 have g0:=Zf ho j0
 refine xc 22 (args:=#[.slice p2 256 c2,V0 2,V0 no]) (Tx 2 no p2 256 c2 (Yj l j) _ h9 (Yi (Ze g0) h9)) ?_
 rintro e W8 k3
 rcases k3 with ⟨hs,rfl,a2⟩|⟨hs,p3,c3,rfl,a2,h3⟩
 ·refine xk 14 (show(((Xr 2 no (Yj l j)) != (0:Int)):Bool)=true from bne_iff_ne.2 hs) ?_
  refine xd 1 (.t w.heap.size [183]) ?_
  refine xm2 (.b [1,2,3]) 0 4 ?_ ?_
  ·have k2:=((n2.blk.below a0).below a2).below (Za W8)
   refine xlv 0 k2.rp ?_
   refine yc (.o [] 4) (args:=#[V0 no,.iface 89 (V0 (Xr 2 no (Yj l j)))]) (.t w.heap.size [183]) (Xy no (Xr 2 no (Yj l j)) _) ?_
   rintro _ W9 ⟨_,rfl,h7,f8⟩
   refine⟨(SF.of_below _ h7),?_⟩
   rw[if_neg hs,if_neg hs] at f8
   have i2:=f8
   obtain⟨k4,m7,rfl,_,_⟩:=i2
   have b3:=((((n1.blk.below n2.below).below a0).below a2).below (Za W8)).below h7
   have g1:=n1.ge (B4 w)
   refine ysv (.o [] 5) b3 [V0 0,.bool false,S0,S0] (.t w.heap.size [183]) fun k8 g3 j6=>⟨(Zt g3 b3 g1 (by decide)),?_⟩
   have f4:=g3.below (bln (bln (bln (bln hB a0) a2) (Za W8)) h7) g1
   have d9:=f8.upd g3 b3 (by decide)
   refine xec (.r [6] 4) j6 (.tuple #[.agg #[V0 0,.bool false,S0,S0],.iface 256 (P0 k4)]) ?_
   have he:Xv l no tree=Xr 2 no (Yj l j):=by unfold Xv;rw[e3,if_neg hs]
   exact .inl ⟨by rw[he];exact hs,_,rfl,f4,by rw[he];exact d9⟩
  refine yc 0 (args:=#[V0 no,.iface 89 (V0 (Xr 2 no (Yj l j)))]) (.t w.heap.size [183]) (Xy no (Xr 2 no (Yj l j)) _) ?_
  rintro _ l2 ⟨_,rfl,a9,c6⟩
  refine⟨(SF.of_below _ a9),?_⟩
  rw[if_neg hs,if_neg hs] at c6
  have g8:=c6
  obtain⟨f9,i7,rfl,_,_⟩:=g8
  have k2:=(((n2.blk.below a0).below a2).below (Za W8)).below a9
  refine xlv (.o [] 0) k2.rp ?_
  have c8:=((((n1.blk.below n2.below).below a0).below a2).below (Za W8)).below a9
  have g1:=n1.ge (B4 w)
  refine ysv (.o [] 5) c8 [V0 0,.bool false,S0,S0] (.t w.heap.size [183]) fun k9 f6 i4=>⟨(Zt f6 c8 g1 (by decide)),?_⟩
  have h4:=f6.below (bln (bln (bln (bln hB a0) a2) (Za W8)) a9) g1
  have b6:=c6.upd f6 c8 (by decide)
  refine xec (.r [6] 4) i4 (.tuple #[.agg #[V0 0,.bool false,S0,S0],.iface 256 (P0 f9)]) ?_
  have he:Xv l no tree=Xr 2 no (Yj l j):=by unfold Xv;rw[e3,if_neg hs]
  exact .inl ⟨by rw[he];exact hs,_,rfl,h4,by rw[he];exact b6⟩
 have j9:=(bln hB a0).size
 have d7:=Zf h3 j9
 have i9:((Yj l j).drop 8).take 244=inB l no:=(Sn hk).symm
 have i0:=Zdb hI.len hk hj
 rw[i9] at d7
 have b9:=bln (bln hB a0) a2
 refine xc 21 (args:=#[.slice p3 244 c3,P0 bt]) (node_1 tree bt p3 c3 (inB l no) _ (kt.below b9) i0 (Yi (Ze d7) i0)) ?_
 rintro e m0 f3
 rcases f3 with ⟨hz,a5,b5,kp,m1,kc,vp,m2,vc,rfl,a1⟩|⟨hz,kp,kc,vp,vc,rfl,a1,hk,i8⟩
 ·refine xa 3 [V0 0,.bool false,S0,S0] 183 fun l4 m5 a6=>?_
  have b4:=(((n1.blk.below n2.below).below a0).below a2).below a1
  have a3:=a6.ne b4
  have k2:=((n2.blk.below a0).below a2).below a1
  have a4:=a6.ne k2
  have c0:=bln b9 a1
  have i1:=a6.ge c0
  refine xsv 0 a6.blk [V0 a5,.bool b5,.slice kp m1 kc,.slice vp m2 vc] fun d4 d3 l1=>?_
  refine xk 10 (show(((Qu (inB l no) tree) != (0:Int)):Bool)=true from bne_iff_ne.2 hz) ?_
  refine xd 1 (.t w.heap.size [183]) ?_
  refine xm2 (.b [1,2,3]) 0 4 ?_ ?_
  ·have h2:=(d3.blk (k2.below a6.below) (Ne.symm (Ne.symm a4))).below (Za d4)
   refine xlv 0 h2.rp ?_
   refine yc (.o [] 4) (args:=#[V0 no,.iface 89 (V0 (Qu (inB l no) tree))]) (.t w.heap.size [183]) (Xy no (Qu (inB l no) tree) _) ?_
   rintro _ l3 ⟨_,rfl,c7,c9⟩
   refine⟨(SF.of_below _ c7),?_⟩
   rw[if_neg hz,if_neg hz] at c9
   have h6:=c9
   obtain⟨g9,j4,rfl,_,_⟩:=h6
   have c4:=((d3.blk (b4.below a6.below) (Ne.symm (Ne.symm a3))).below (Za d4)).below c7
   have g1:=n1.ge (B4 w)
   refine ysv (.o [] 5) c4 [V0 0,.bool false,S0,S0] (.t w.heap.size [183]) fun l6 f1 i3=>⟨(Zt f1 c4 g1 (by decide)),?_⟩
   have h1:=f1.below (bln (bln (d3.below (bln c0 a6.below) i1) (Za d4)) c7) g1
   have c5:=c9.upd f1 c4 (by decide)
   refine xec (.r [6] 4) i3 (.tuple #[.agg #[V0 0,.bool false,S0,S0],.iface 256 (P0 g9)]) ?_
   have he:Xv l no tree=Qu (inB l no) tree:=by unfold Xv;rw[e3,if_pos hs]
   exact .inl ⟨by rw[he];exact hz,_,rfl,h1,by rw[he];exact c5⟩
  refine yc 0 (args:=#[V0 no,.iface 89 (V0 (Qu (inB l no) tree))]) (.t w.heap.size [183]) (Xy no (Qu (inB l no) tree) _) ?_
  rintro _ m3 ⟨_,rfl,a8,d0⟩
  refine⟨(SF.of_below _ a8),?_⟩
  rw[if_neg hz,if_neg hz] at d0
  have f5:=d0
  obtain⟨e7,j1,rfl,_,_⟩:=f5
  have f7:=((d3.blk (k2.below a6.below) (Ne.symm (Ne.symm a4))).below (Za d4)).below a8
  refine xlv (.o [] 0) f7.rp ?_
  have b0:=((d3.blk (b4.below a6.below) (Ne.symm (Ne.symm a3))).below (Za d4)).below a8
  have g1:=n1.ge (B4 w)
  refine ysv (.o [] 5) b0 [V0 0,.bool false,S0,S0] (.t w.heap.size [183]) fun m6 h5 j8=>⟨(Zt h5 b0 g1 (by decide)),?_⟩
  have g6:=h5.below (bln (bln (d3.below (bln c0 a6.below) i1) (Za d4)) a8) g1
  have d2:=d0.upd h5 b0 (by decide)
  refine xec (.r [6] 4) j8 (.tuple #[.agg #[V0 0,.bool false,S0,S0],.iface 256 (P0 e7)]) ?_
  have he:Xv l no tree=Qu (inB l no) tree:=by unfold Xv;rw[e3,if_pos hs]
  exact .inl ⟨by rw[he];exact hz,_,rfl,g6,by rw[he];exact d2⟩
 have e2:=(bln (bln hB a0) a2).size
 refine xa 3 [V0 0,.bool false,S0,S0] 183 fun l0 l8 a7=>?_
 have d6:=(((n1.blk.below n2.below).below a0).below a2).below a1
 have b8:=a7.ne d6
 have k2:=((n2.blk.below a0).below a2).below a1
 have e8:=a7.ne k2
 have e0:=bln b9 a1
 have k6:=a7.ge e0
 refine xsv 0 a7.blk [V0 (Ql (inB l no)),.bool (Qr (inB l no)),.slice kp (Xq (inB l no)) kc,.slice vp (Xq (inB l no)) vc] fun l7 e6 k1=>?_
 refine xlv 15 k1.rp ?_
 have d1:=e6.blk (d6.below a7.below) (Ne.symm (Ne.symm b8))
 refine xsv 0 d1 [V0 (Ql (inB l no)),.bool (Qr (inB l no)),.slice kp (Xq (inB l no)) kc,.slice vp (Xq (inB l no)) vc] fun l9 f2 j3=>?_
 have g1:=n1.ge (B4 w)
 have d8:=f2.below (e6.below (bln e0 a7.below) k6) g1
 have g7:=f2.own2 (e6.own2 (Zb (Zf hk e2) a7.below) a7.blk (by decide)) d1 (by decide)
 have e4:=f2.own2 (e6.own2 (Zb (Zf i8 e2) a7.below) a7.blk (by decide)) d1 (by decide)
 exact xec 4 j3 (.tuple #[.agg #[V0 (Ql (inB l no)),.bool (Qr (inB l no)),.slice kp (Xq (inB l no)) kc,.slice vp (Xq (inB l no)) vc],.nilIface]) (.inr ⟨by unfold Xv;rw[e3,if_pos hs,hz],_,_,_,_,rfl,d8,g7,e4⟩)
theorem block_Node(B b:Nat)(p:O0)(n c:Nat)(l:Bl)(no tree:Int)(w:World)(hI:ImgR B b p n c l w) :
 C0 87 #[P0 b,V0 no,V0 tree] w (Zeo l no tree w):=by
 refine zin 14 Tryz.func87 ?_
 refine xa 2 [V0 tree] 3 fun b1 W1 n1=>?_
 refine xa 0 [V0 0,.bool false,S0,S0] 183 fun b2 W2 n2=>?_
 have hB:=bln n1.below n2.below
 have k1:=n1.blk.below n2.below
 refine xc 8 (args:=#[P0 b,V0 no,V0 2,.func (.func 152) #[] #[P0 b1]]) (readNode B b p n c l no tree _ (hI.below hB) b1 k1) ?_
 rintro e W3 a7
 rcases a7 with ⟨he,bf,rfl,a0,hv⟩|⟨he,kp,kc,vp,vc,rfl,a0,hk,a8⟩
 ·have k2:=n2.blk.below a0
  refine xsv 2 k2 [V0 0,.bool false,S0,S0] fun W4 u4 k4=>?_
  have g2:=n2.ge n1.below
  have a2:=u4.below (bln hB a0) g2
  have a3:=hv.upd u4 k2 (by decide)
  exact xec 4 k4 (.tuple #[.agg #[V0 0,.bool false,S0,S0],.iface 256 (P0 bf)]) (.inl ⟨he,_,rfl,a2,a3⟩)
 have a6:=(bln n1.below n2.below).size
 have k2:=n2.blk.below a0
 refine xsv 2 k2 [V0 (Ql (inB l no)),.bool (Qr (inB l no)),.slice kp (Xq (inB l no)) kc,.slice vp (Xq (inB l no)) vc] fun W5 u5 k5=>?_
 have g2:=n2.ge n1.below
 have a5:=u5.below (bln hB a0) g2
 have a4:=u5.own2 (Zf hk a6) k2 (by decide)
 have a1:=u5.own2 (Zf a8 a6) k2 (by decide)
 exact xec 4 k5 (.tuple #[.agg #[V0 (Ql (inB l no)),.bool (Qr (inB l no)),.slice kp (Xq (inB l no)) kc,.slice vp (Xq (inB l no)) vc],.nilIface]) (.inr ⟨he,_,_,_,_,rfl,a5,a4,a1⟩)
theorem Yw(ba b:Nat)(v x:Value)(w:World)(hk:Blk w ba [v,x,P0 b] 152) :
 C0 65 #[P0 ba] w (Ret (P0 b) w):=by
 refine zin 9 Tryz.func65 ?_
 refine xr 9 (args:=#[P0 ba]) (Ks ba b _ _ _ hk) fun W1 a1=>?_
 have a0:=hk.below a1
 refine xb 10 2 a0 ?_
 exact xe 4 (P0 b) ⟨rfl,a1⟩
abbrev Ent:=Int×Bl×Int
def Vk:Ent:=(0,[],0)
def Kv(x:Ent):List Value:=[V0 x.1,.string ⟨x.2.1.toArray⟩,V0 x.2.2]
theorem Hj(x:Ent):(Kv x).length=3:=rfl
def lastK(l:List Ent):Nat→Int
 | 0=>-1
 | i+1=>(l.getD i Vk).1
structure EntsOk(v:Nat)(l:List Ent):Prop where
 hk:∀ i,i<l.length→0≤(l.getD i Vk).1∧(l.getD i Vk).1≤281474976710655
 hs:∀ j,j+1<l.length→(l.getD j Vk).1<(l.getD (j+1) Vk).1
 hw:∀ i,i<l.length→(l.getD i Vk).2.1.length=v
theorem EntsOk.last{v:Nat}{l:List Ent}(E:EntsOk v l){i:Nat}(h:i<l.length):lastK l i<(l.getD i Vk).1:=by
 cases i with
 | zero=>have:=(E.hk 0 h).1;simp only[lastK];omega
 | succ j=>exact E.hs j h
theorem Mf(x:Nat):x≤(Iy x).sum:=by
 by_cases h:x≤1
 ·rw[Hp h];simp
 ·rw[Ju h];simp
theorem Ua(t:Int)(n:Nat):1≤Xn t n:=by
 have h1:=Mf (ovN n (Yz t true));have h2:=Vd n (Yz t true);unfold Xn Gv;omega
theorem Zcs(t:Int)(v:Nat)(a:O0)(c:Nat)(l:List Ent)(w:World)(ht1:1≤t)(ht2:t≤5)(hv:Ut t true=v)(E:EntsOk v l)(h:Sts Kv w (.slice a l.length c) l)(hn:l.length≤32768) :
 C0 189 #[V0 t,.slice a l.length c] w (Ret (.bool true) w):=by
 have a2:=Ek t true
 rw[hv] at a2
 have a8:=Ua t l.length
 refine zin 45 Tryz.func189 ?_
 refine xr 8 (args:=#[V0 t,.bool true]) (Ns t true v hv ht1 ht2 _) fun W1 a3=>?_
 refine xgk 9 [12,13] (show(((v:Int)==(0:Int)):Bool)=false from by simp;omega) ?_
 refine xr 3 (args:=#[V0 t,V0 (l.length:Int)]) (Qc t l.length _ ht1 ht2 hn) fun W3 a6=>?_
 refine xk 4 (show(((↑(Xn t l.length):Int)==(0:Int)):Bool)=false from by simp;omega) ?_
 have hB:=bln a3 a6
 refine zl 16 45 (fun zm a5 V=>∃ (i:Nat),a5=[(5,V0 (v:Int)),(6,V0 (lastK l i)),(20,.slice a l.length c),(21,V0 (l.length:Int)),(22,V0 (i:Int))]∧zm=l.length-((i:Int)).toNat∧B3 w V∧i≤l.length) ⟨0,rfl,rfl,hB,Nat.zero_le _⟩ ?_
 rintro _ _ W4 ⟨i,rfl,rfl,a0,hi⟩ J4 a4 r4
 refine xid 6 ((i:Int)<(l.length:Int)) (fun a7=>?_) (fun a7=>?_)
 ·refine xx 6 _ l.length i 3 (Sts.cell h Hj Vk (k:=i) (i:=0) (by omega) rfl).1 ?_
  refine xlv 0 (Sts.rp (k:=i) (h.below a0) Hj Vk (by omega) (by decide)) ?_
  refine xa 0 [V0 0,.string ⟨#[]⟩,V0 0] 122 fun b6 W6 n6=>?_
  have g6:=n6.ge a0
  refine xsv 0 n6.blk [V0 ((l.getD i Vk).1),.string ⟨((l.getD i Vk).2.1).toArray⟩,V0 ((l.getD i Vk).2.2)] fun W7 u7 k7=>?_
  refine xb 6 0 k7 ?_
  refine xgk 3 [29,30] (show(decide ((l.getD i Vk).1≤(lastK l i)):Bool)=false from decide_eq_false (by have:=E.last (i:=i) (by omega);omega)) ?_
  refine xb 1 0 k7 ?_
  refine xgk 3 [33,34,35] (show(decide ((l.getD i Vk).1>(281474976710655:Int)):Bool)=false from decide_eq_false (by have:=(E.hk i (by omega)).2;omega)) ?_
  refine xb 1 1 k7 ?_
  refine xk 6 (show(((↑((l.getD i Vk).2.1).length:Int) != (v:Int)):Bool)=false from by rw[E.hw i (by omega)];simp) ?_
  refine xb 4 0 k7 ?_
  refine xw 5 ((i:Int)+1) ?_
  have a1:=u7.below (bln a0 n6.below) g6
  exact ze 2 (a4 _ _ _ ⟨i+1,rfl,rfl,a1,by omega⟩ (by omega))
 exact xe 11 (.bool true) ⟨rfl,a0⟩
end Go.Proofs.YtceeiinepijokaaGreat
namespace Go.Proofs.YtceeiinepijokaaGreat
set_option maxHeartbeats 8000000
set_option maxRecDepth 100000
open Go.RowKit Go.Extern.Stop Go.Stop Go.Extern
set_option linter.unusedVariables false
attribute [local irreducible] wpList wpAnyH Code.wp Oper.wp Go
attribute [local go_sem] Oper.semAt_some
theorem Upd.of_put(w:World)(D:Nat)(o:Obj):Upd w D (w.putObj D o):=⟨rfl,rfl,rfl,by simp[World.putObj],fun k hk=>World.putObj_heap_other hk⟩
def Dfr (D:Nat)(w:World):Prop:=w.heap[D]? = some (.deferred (some []))
theorem Dfr.below{D:Nat}{w W:World}(h:Dfr D w)(hb:B3 w W):Dfr D W:=(hb.block D (Array.getElem?_eq_some_iff.1 h).1).trans h
theorem Dfr.ne{D b:Nat}{w:World}{cs:List Value}{t:TypeId}(h:Dfr D w)(k:Blk w b cs t):b≠D:=by
 rintro rfl
 have h':w.heap[b]? = _:=h
 rw[show w.heap[b]? = _ from k] at h'
 cases h'
theorem Dfr.upd{D b:Nat}{w W:World}{cs:List Value}{t:TypeId}(h:Dfr D w)(u:Upd w b W)(k:Blk w b cs t):Dfr D W:=(u.block D fun e=>h.ne k e.symm).trans h
theorem Dfr.row{D:Nat}{w:World}{base e size n:Nat}{v:Value}{xs:List Value}(h:Dfr D w)(k:w.ownsRow base e size v n xs):∀ g,v.ownBlock=some g→g≠D:=by
 rintro g hg rfl
 rcases k.2 with ⟨rfl,_⟩|⟨g',a0,a1,rfl,_,hh,_⟩
 ·cases hg
 ·simp only[Value.ownBlock,Option.some.injEq] at hg
  subst hg
  rw[show w.heap[g']? = _ from h] at hh
  cases hh
theorem Dfr.grown{D:Nat}{w W:World}{base e size n:Nat}{v:Value}{xs:List Value}(h:Dfr D w)(hg:w.grownBy W v.ownBlock)(k:w.ownsRow base e size v n xs):Dfr D W :=
 (hg.block D (Array.getElem?_eq_some_iff.1 h).1 fun q=>h.row k D q.symm rfl).trans h
theorem g_endM{P:Program}{fn:Func}{R:Ending→World→Prop}{a:Act}{w:World}{D:Nat}(hK:Dfr D w)(v:Value)(hd:a.defers=[{ target:=.collected D,args:=#[] }])(hr:(results fn a.tmps).run P (w.putObj D (.deferred none))=.ok v (w.putObj D (.deferred none)))(h:R (.returned v) (w.putObj D (.deferred none))):bodyPostM Fence.wide 4 P fn R .normal a w :=
 by
 show LeavesInM _ _ _ _ a.tmps R a.defers .returning w
 rw[hd]
 exact⟨by simp,.inl ⟨_,_,rfl,run_takeDeferred hK,_,hr,h⟩⟩
def noPan(Q:Exit→Act→World→Prop):Exit→Act→World→Prop
 | .normal,a,w=>Q .normal a w
 | .ret,a,w=>Q .ret a w
 | _,_,_=>False
theorem g_nopan{P:Program}{c:Code}{Q:Exit→Act→World→Prop}{a:Act}{w:World}(h:c.wp P (noPan Q) a w):c.wp P Q a w:=wp_mono h fun e a w q=>by cases e<;>first|exact q|exact q.elim
theorem Fd{w:World}{base size n b:Nat}{e t:TypeId}{v:Value}{xs cs:List Value}(k:w.ownsRow base e size v n xs)(q:Blk w b cs t)(hne:e≠t):∀ g,v.ownBlock=some g→g≠b:=by
 rintro g hg rfl
 rcases k.2 with ⟨rfl,_⟩|⟨g',a0,a1,rfl,_,hh,_⟩
 ·cases hg
 ·simp only[Value.ownBlock,Option.some.injEq] at hg
  subst hg
  rw[show w.heap[g']? = _ from q] at hh
  simp only[Option.some.injEq,Obj.cells.injEq] at hh
  exact hne hh.2.1.symm
theorem Zae{w W:World}(h:B3 w W):KeepsOthers w W:=⟨h.size,fun b o hb _=>(h.block b (Array.getElem?_eq_some_iff.1 hb).1).trans hb⟩
theorem Zgk{w W:World}{b:Nat}{cs:List Value}{t:TypeId}(u:Upd w b W)(k:Blk w b cs t):KeepsOthers w W:=⟨Nat.le_of_eq u.size.symm,fun d o hd ho=>(u.block d (by rintro rfl;rw[show w.heap[d]? = _ from k] at hd;cases hd;cases ho)).trans hd⟩
theorem BelowBut.own3{w W:World}{b base size n:Nat}{e:TypeId}{v:Value}{xs:List Value}(h:BelowBut w b W)(k:w.ownsRow base e size v n xs)(hs:∀ j,v.ownBlock=some j→j≠b):W.ownsRow base e size v n xs:=by
 obtain⟨h1,h2⟩:=k
 refine⟨h1,?_⟩
 rcases h2 with h2|⟨g,a0,a1,rfl,hg,hh,r⟩
 ·exact Or.inl h2
 ·exact Or.inr ⟨g,a0,a1,rfl,hg,by rw[h.block g (Array.getElem?_eq_some_iff.1 hh).1 (hs g rfl)];exact hh,r⟩
theorem Zc4{β:Type}{w:World}{b B:Nat}(hB:w.heap.size≤B):OwnFrom B (fun(_:β) W=>BelowBut w b W):=fun _ W W' a1 hs hg hr =>
 ⟨hg.os.trans hs.os,hg.tape.trans hs.tape,hg.output.trans hs.output,Nat.le_trans hs.size hg.size,fun k hk a0=>(hg.block k (Nat.lt_of_lt_of_le hk hs.size) (fun e=>by have:=(hr k e.symm).1;omega)).trans (hs.block k hk a0)⟩
theorem Hw.turn{A B:World}{row:Option Nat}{l:List (Option Int)}{c:Option Int}{v:Value}(h:Hw A l c v)(hg:A.grownBy B row)(hr:∀ r,row=some r→∃ o:Obj,A.heap[r]? = some o∧o.isCells=false):Hw B l c v:=h.kept fun _ _ k=>k.turn hg hr
theorem Hw.one{w:World}{l:List (Option Int)}{c:Option Int}{v:Value}(h:Hw w l c v):v.oneCell'=true:=by
 rcases h.nil_or with ⟨_,rfl⟩|⟨_,t,x,rfl⟩<;>rfl
theorem Hw.iface{w:World}{l:List (Option Int)}{c:Int}{v:Value}(h:Hw w l (some c) v):∃ t x,v=.iface t x:=by
 rcases h.nil_or with ⟨q,_⟩|⟨_,q⟩
 ·simp[noErr] at q
 ·exact q
end Go.Proofs.YtceeiinepijokaaGreat
namespace Go.Proofs.YtceeiinepijokaaGreat
set_option maxHeartbeats 8000000
set_option maxRecDepth 100000
open Go.RowKit Go.Extern.Stop Go.Stop Go.Extern
set_option linter.unusedVariables false
def Us(u v:Value):Prop:=∀ j,u.ownBlock=some j→v.ownBlock≠some j
theorem Us.symm{u v:Value}(h:Us u v):Us v u:=fun j h1 h2=>h j h2 h1
theorem Us.grow{w:World}{u v u':Value}{base e size n:Nat}{xs:List Value}(h:Us u v)(k:w.ownsRow base e size v n xs)(hl:u'.ownBlock=u.ownBlock∨u'.ownBlock=some w.heap.size):Us u' v:=by
 rintro j h1 h2
 rcases hl with hl|hl
 ·exact h j (hl▸h1) h2
 ·rw[hl,Option.some.injEq] at h1
  subst h1
  have:=(k.lt _ h2).2
  omega
theorem Us.row{w W:World}{u v:Value}{base e size n:Nat}{xs:List Value}(h:Us u v)(k:w.ownsRow base e size v n xs)(hg:w.grownBy W u.ownBlock):W.ownsRow base e size v n xs:=by
 obtain⟨h1,h2⟩:=k
 refine⟨h1,?_⟩
 rcases h2 with h2|⟨g,a0,a1,rfl,hb,hh,r⟩
 ·exact Or.inl h2
 ·exact Or.inr ⟨g,a0,a1,rfl,hb,(hg.block g (Array.getElem?_eq_some_iff.1 hh).1 (fun q=>h g q.symm rfl)).trans hh,r⟩
theorem Us.of_lt{w W:World}{u v:Value}{base base2 e e2 size size2 n n2:Nat}{xs ys:List Value}(k:w.ownsRow base e size u n xs)(q:W.ownsRow base2 e2 size2 v n2 ys)(h:w.heap.size≤base2):Us u v:=fun j h1 h2=>by
 have:=(k.lt j h1).2
 have:=(q.lt j h2).1
 omega
theorem Us.nil(v:Value):Us (S0) v:=fun j h=>by cases h
theorem own_cut{w:World}{base e n m c:Nat}{p:O0}{xs:List Value}(k:w.ownsRow base e 1 (.slice p n c) n xs)(hm:m≤n)(hp:p.isSome=true):w.ownsRow base e 1 (.slice p m c) m (xs.take m):=by
 obtain⟨h1,h2⟩:=k
 refine⟨by rw[List.length_take];omega,?_⟩
 rcases h2 with ⟨h2,_⟩|⟨g,a4,a2,hv,hb,hh,hc,a1,a0,a3⟩
 ·cases h2;cases hp
 ·simp only[Value.slice.injEq] at hv
  obtain⟨rfl,_,rfl⟩:=hv
  refine Or.inr ⟨g,c,a2,rfl,hb,hh,by omega,a1,a0,?_⟩
  rw[←a3,List.take_take]
  congr 1
  omega
theorem Vn{P:Program}{a:Act}{w:World}{K:Act→World→Prop}{Q:Exit→Act→World→Prop}{o:Oper}{s x:Operand}{t e te:TypeId}{base:Nat}{v:Value}{n:Nat}{xs:List Value}{b m c:Nat}{news:List Value}(z:Value)(size bytes n':Nat)(xs':List Value)
 (ho:o.op=.call { callee:=.builtin .append,args:=#[s,x],argTypes:=#[t,t] }) (ht:P.underlying t=some (.slice e)) (hi:(P.info? e).map (fun i=>(i.zero,i.size,i.bytes))=some (some z,size,bytes)) (hzs:z.cells.size=size) (hsz:0<size) (hs:a.eval s=v)
 (hown:w.ownsRow base e size v n xs) (hx:a.eval x=.slice (S1 b) m c) (hnew:Blk w b news te) (hl:news.length=m*size) (h1:∀ u∈news,u.oneCell'=true) (h63:n+m≤maxLen) (hbytes:(n+m)*bytes≤140737488355328) (hbase:base≤w.heap.size) (hn:n+m=n') (hxs:xs++news=xs')
 (h:∀ p c W,W.ownsRow base e size (.slice p n' c) n' xs'→w.grownBy W v.ownBlock→Below base w W→((Value.slice p n' c).ownBlock=v.ownBlock∨(Value.slice p n' c).ownBlock=some w.heap.size)→K (a.put o.dst (.slice p n' c)) W):o.wp P a w K Q:=by
 cases hq:P.info? e with
 | none=>simp[hq] at hi
 | some i =>
  simp only[hq,Option.map_some,Option.some.injEq,Prod.mk.injEq] at hi
  have hc:∀ j u,news[j]? = some u→w.cell? ((⟨b,0,none⟩:Addr).add j)=some u:=fun j u hj=>by
   have hc:=hnew.cell hj
   by_cases h0:j=0
   ·subst h0;simpa [Addr.add] using hc
   ·simpa [Addr.add,h0] using hc
  obtain⟨v',W,hr,h2,h3,_,h5⟩:=run_append_own_at (P:=P) w base t o.type e i z size bytes ht hq hi.1 hi.2.1 hi.2.2 hzs hsz v n xs hown ⟨b,0,none⟩ m c news hl hc h1 h63 hbytes hbase
  subst hn hxs
  obtain⟨p,c2,rfl⟩:=(Ze h2).slice
  unfold Oper.wp execOp
  simp only[ho,resolve,invoke,builtin,Sem.run_bind,Sem.run_pure,Result.andThen_ok,List.map_toArray,List.map_cons,List.map_nil,hs,hx,hr]
  exact h p c2 W h2 h3 (Vf h3 hown (Nat.le_refl _) hbase) h5
structure WS where
 es:List Ent
 bs:List Int
 deep:Int
 looked:Nat
 fs:List (List Int×Int)
 dry:Bool
def nodK(l:Bl)(no:Int):List Int:=Wp (inB l no) (Xq (inB l no))
def Uq(l:Bl)(no:Int):List Bl:=Wr (inB l no) (Xq (inB l no))
end Go.Proofs.YtceeiinepijokaaGreat
namespace Go.Proofs.YtceeiinepijokaaGreat
set_option maxHeartbeats 8000000
set_option maxRecDepth 100000
open Go.RowKit Go.Extern.Stop Go.Stop Go.Extern
set_option linter.unusedVariables false
attribute [local irreducible] wpList wpAnyH Code.wp Oper.wp Go
theorem widG_24(t:Int)(b:Bool):widG t b≤24:=by
 unfold widG Ut
 repeat' split
 all_goals omega
theorem Zd1(l:Bl)(n i:Nat):((Wr l n).getD i []).length≤1000:=by
 by_cases h:i<n
 ·rw[Zab l h]
  unfold Zgt
  rw[List.length_take]
  have:=widG_24 (Ql l) (Qr l)
  unfold Qz
  omega
 ·simp[List.getD,List.getElem?_eq_none (show(Wr l n).length≤i by rw[Wc];omega)]
theorem Co(p:O0)(n c n2 c2:Nat):(Value.slice p n c).ownBlock=(Value.slice p n2 c2).ownBlock:=by
 cases p<;>rfl
theorem Us.len{p q:O0}{n c m d:Nat}(h:Us (.slice p n c) (.slice q m d))(n2 c2 m2 d2:Nat):Us (.slice p n2 c2) (.slice q m2 d2):=fun j h1 h2 =>
 h j ((Co _ _ _ _ _).trans h1) ((Co _ _ _ _ _).trans h2)
end Go.Proofs.YtceeiinepijokaaGreat
namespace Go.Proofs.YtceeiinepijokaaGreat
set_option maxHeartbeats 8000000
set_option maxRecDepth 100000
open Go.RowKit Go.Extern.Stop Go.Stop Go.Extern
set_option linter.unusedVariables false
theorem maxG_18(t:Int)(b:Bool):maxG t b≤18:=by
 unfold maxG Yz
 repeat' split
 all_goals omega
theorem Zb9{l:Bl}(h:Jm l=0):Ex l=true:=by
 unfold Jm at h
 split at h
 ·assumption
 ·cases h
theorem Ew{l:Bl}{tree:Int}(h:Qu l tree=0):Jm l=0:=by
 unfold Qu at h
 split at h
 ·assumption
 ·assumption
theorem Tk{l:Bl}{no tree:Int}(h:Xv l no tree=0):inE l 2 no=0∧Qu (inB l no) tree=0:=by
 unfold Xv at h
 split at h
 ·exact⟨by assumption,h⟩
 ·rename_i q;exact absurd h q
end Go.Proofs.YtceeiinepijokaaGreat
namespace Go.Proofs.YtceeiinepijokaaGreat
set_option maxHeartbeats 8000000
set_option maxRecDepth 100000
open Go.RowKit Go.Extern.Stop Go.Stop Go.Extern
set_option linter.unusedVariables false
section
variable {P:Program} {fn:Func} {R:Ending→World→Prop} {w:World} {s:Zs}
def BlksOf(w:World):List (Nat×List Value)→Prop
 | []=>True
 | p::r=>(∃ t,Blk w p.1 p.2 t)∧BlksOf w r
noncomputable def zrlm (P:Program) (n:Nat) (kv:List (Nat×Value)) (l:List ResultVar):List (List Value)→Option (List Nat×List Value):=List.rec (motive:=fun _=>List (List Value)→Option (List Nat×List Value)) (fun _=>some ([],[])) (fun r _ ih css=>match r with
 | .tmp t=>match ih css with
  | some r=>some (r.1,zget n kv t::r.2)
  | none=>none
 | .cell k t=>match css with
  | []=>none
  | p::css'=>match zget n kv k with
   | .pointer (some ⟨b,off,sp⟩)=>match sp with
    | none=>match Nat.beq off 0&&(zrow P t&&zsz P t p.length) with
     | true=>match ih css' with
      | some r=>some (b::r.1,.agg p.toArray::r.2)
      | none=>none
     | false=>none
    | some _=>none
   | _=>none) l
theorem Ap(n:Nat)(kv:List (Nat×Value))(w:World):∀ (l:List ResultVar) (css:List (Nat×List Value)) (vs:List Value),BlksOf w css→zrlm P n kv l (css.map Prod.snd)=some (css.map Prod.fst,vs)→(l.mapM (zrf (zact n kv).tmps)).run P w=.ok vs w
  | [],css,vs,_,h=>by
    have h':some (([]:List Nat),([]:List Value))=some (css.map Prod.fst,vs):=h
    simp only[Option.some.injEq,Prod.mk.injEq] at h'
    rw[←h'.2];rfl
  | r :: l, css, vs, hb, h => by
    rw[List.mapM_cons]
    cases r with
    | tmp t =>
      have h':(match zrlm P n kv l (css.map Prod.snd) with|some r=>some (r.1,zget n kv t::r.2)|none=>none)=some (css.map Prod.fst,vs):=h
      split at h'
      · rename_i r' hv
        simp only[Option.some.injEq,Prod.mk.injEq] at h'
        obtain⟨h1,rfl⟩:=h'
        have a1:zrlm P n kv l (css.map Prod.snd)=some (css.map Prod.fst,r'.2):=by rw[hv,←h1]
        simp only[zrf,Sem.run_bind,Sem.run_pure,Result.andThen_ok,Ap n kv w l css r'.2 hb a1,Gl]
      · cases h'
    | cell k t' =>
      cases css with
      | nil=>cases h
      | cons p css =>
      have h':(match zget n kv k with
      | .pointer (some ⟨b,a0,sp⟩)=>match sp with
        | none=>match Nat.beq a0 0&&(zrow P t'&&zsz P t' p.2.length) with
          | true=>match zrlm P n kv l (css.map Prod.snd) with
            | some r=>some (b::r.1,.agg p.2.toArray::r.2)
            | none=>none
          | false=>none
        | some _=>none
      | _=>none)=some (p.1::css.map Prod.fst,vs):=h
      split at h'
      · rename_i b' a0 sp a3
        cases sp with
        | some _=>cases h'
        | none =>
          dsimp only at h'
          split at h'
          · rename_i hc
            simp only[Bool.and_eq_true] at hc
            split at h'
            · rename_i r' hv
              simp only[Option.some.injEq,Prod.mk.injEq,List.cons.injEq] at h'
              obtain⟨⟨rfl,h1⟩,rfl⟩:=h'
              obtain⟨⟨t,kb⟩,a2⟩:=hb
              have a1:zrlm P n kv l (css.map Prod.snd)=some (css.map Prod.fst,r'.2):=by rw[hv,←h1]
              obtain rfl:a0=0:=Nat.eq_of_beq_eq_true hc.1
              have hu:=hc.2.1
              unfold zrow at hu
              split at hu
              · rename_i d hd
                have hl:=run_loadVar_mid (P:=P) w p.1 0 t' p.2 d kb.whole hd hu (Zan hc.2.2)
                have e:(zact n kv).tmps.getD k undef=.pointer (some ⟨p.1,0,none⟩):=by rw[Gl];exact a3
                simp only[zrf,e,asAddr,Sem.run_bind,Sem.run_pure,Result.andThen_ok,hl,Ap n kv w l css r'.2 a2 a1]
              · cases hu
            · cases h'
          · cases h'
      · cases h'
noncomputable def zresm (P:Program) (s:Zs) (fn:Func) (css:List (List Value)):Option (List Nat×Value):=match zfin s with
 | true=>match zrlm P s.n s.kv fn.results.toList css with
  | some r=>some (r.1,zvs r.2)
  | none=>none
 | false=>none
theorem xecm(q:Zq)(css:List (Nat×List Value))(hb:BlksOf w css)(v:Value)(hR:R (.returned v) w)(h:zresm P (zq P q s) fn (css.map Prod.snd)=some (css.map Prod.fst,v):=by kernel_rfl):Go P fn R s w:=by
 refine Zn q s ?_
 unfold zresm at h
 split at h
 ·rename_i hf
  split at h
  ·rename_i r hv
   simp only[Option.some.injEq,Prod.mk.injEq] at h
   obtain⟨h1,rfl⟩:=h
   have hv:zrlm P (zq P q s).n (zq P q s).kv fn.results.toList (css.map Prod.snd)=some (css.map Prod.fst,r.2):=by rw[hv,←h1]
   exact Zdm hf (Mh (Ap _ _ _ _ _ _ hb hv)) hR
  ·cases h
 ·cases h
end
end Go.Proofs.YtceeiinepijokaaGreat
namespace Go.Proofs.YtceeiinepijokaaGreat
set_option maxHeartbeats 8000000
set_option maxRecDepth 100000
open Go.RowKit Go.Extern.Stop Go.Stop Go.Extern
set_option linter.unusedVariables false
attribute [local irreducible] wpList wpAnyH Code.wp Oper.wp Go
theorem Fw(no er:Int)(w:World)(he:er≠0):C0 53 #[V0 no,V0 er] w (Yy (fun w' r=>∃ a c,r=.agg #[.slice a 1 c,V0 er]∧w'.ownsRow w.heap.size 3 1 (.slice a 1 c) 1 [V0 no]) w):=by
 refine(ref11_At no er w).mono ?_
 rintro e W ⟨a,c,rfl,hb,ho⟩
 rw[fltL_nz he] at ho ⊢
 exact⟨_,rfl,hb,a,c,rfl,ho⟩
theorem Ai(L:List Int):∀ u∈L.map V0,u.oneCell'=true:=by intro u hu;obtain⟨x,_,rfl⟩:=List.mem_map.1 hu;rfl
theorem value_root(w:World) :
 C0 90 #[] w (Yy (fun w' r=>∃ b,r=.slice (S1 b) 1 1∧w.heap.size≤b∧Blk w' b [V0 4,V0 1,V0 14399] 268) w):=by
 refine zin 3 Tryz.func90 ?_
 refine xbs 8 1 [V0 4,V0 1,V0 14399] 268 fun b1 W1 n1=>?_
 have g1:=n1.ge (B4 w)
 exact xe 4 (.slice (S1 b1) 1 1) ⟨_,rfl,n1.below,_,rfl,g1,n1.blk⟩
theorem Zgj(gl gn:Nat)(n:Int)(h1:1≤n)(h2:n≤14399)(w:World)(hl:Blk w gl [V0 4,V0 1,V0 14399] 268)(hn:Blk w gn [V0 n] 3) :
 C0 157 #[.slice (S1 gl) 1 1,.slice (S1 gn) 1 1] w (Ret (.string ⟨(leB n 4).toArray⟩) w):=by
 have b3:=h1
 have b5:=h2
 clear h2
 refine zin 51 Tryz.func157 ?_
 refine xu 19 2 ?_
 refine xlv 15 hl.rp ?_
 refine xa 0 [V0 0,V0 0,V0 0] 268 fun b1 W1 n1=>?_
 have a7:=n1.ne hl
 refine xsv 1 n1.blk [V0 4,V0 1,V0 14399] fun W2 u2 k2=>?_
 have g1:=n1.ge (B4 w)
 refine xd 4 .z ?_
 have a0:=(u2.blkT (hn.below n1.below) n1.blk (by decide)).below (Za W2)
 refine xb (.e [0,1,2] 3) 0 a0 ?_
 have a1:=k2.below (Za W2)
 refine xb (.e [4] 5) 1 a1 ?_
 refine xgk (.b [6,7]) [23,24] (show(decide (n<(1:Int)):Bool)=false from decide_eq_false (by omega)) ?_
 refine xb (.e [8,9,10] 11) 0 a0 ?_
 refine xb (.e [12] 13) 2 a1 ?_
 refine xk (.r [14,15] 2) (show(decide (n>(14399:Int)):Bool)=false from decide_eq_false (by omega)) ?_
 refine xd 3 .z ?_
 have a4:=a1.below (Za W2.drew)
 refine xb (.e [0] 1) 0 a4 ?_
 have a5:=a0.below (Za W2.drew)
 refine xb (.e [2,3,4] 5) 0 a5 ?_
 refine xbs (.o [6] 7) 1 [V0 4,V0 n] 235 fun b4 W4 n4=>?_
 refine yc (.o [] 8) (args:=#[.slice (S1 b4) 1 1]) .z (Cn b4 n (by omega) (by omega) _ n4.blk) ?_
 rintro _ W5 ⟨_,rfl,a6,p2,c2,rfl,h2⟩
 have a8:=(bln (bln (bln (u2.below n1.below g1) (Za W2)) (Za W2.drew)) n4.below).size
 refine⟨a6,?_⟩
 have o6:=World.ownsRow_nil W5 w.heap.size 5 1
 have a3:=Zf h2 a8
 have hB:=bln (bln (bln (bln (u2.below n1.below g1) (Za W2)) (Za W2.drew)) n4.below) a6
 refine xbi (.r [9,10,11,12,13] 5) fun _ _ _ _ zJ zQ zo zx zy zK=>Zy (m:=4) (news:=(leB n 4).map bv) (.int .u8 0) 1 1 (4) ((leB n 4).map bv) zo Tryz.underlying22 (by kernel_rfl) rfl (by decide) zx o6 zy (Ze a3) (by simp[Zg]) (Yt _) (by unfold maxLen;omega) (by omega) hB.size (by rfl) (by simp) fun b0 b6 W7 o7 b2 a9=>?_
 refine zK _ _ ?_
 refine xcv0 24 (fun _ _ _ zo zx=>Vm zo zx (Yi (Ze o7) (Zg _ _)) (Zg _ _) Tryz.underlying22 Tryz.underlying5 Tryz.underlying9) ?_
 have a2:=hB.trans a9
 exact xe 4 (.string ⟨(leB n 4).toArray⟩) ⟨rfl,a2⟩
theorem Tv(n:Int)(h1:1≤n)(h2:n≤14399)(w:World) :
 C0 110 #[V0 n] w (Ret (.string ⟨(leB n 4).toArray⟩) w):=by
 refine zin 7 Tryz.func110 ?_
 refine xc 7 (args:=#[]) (value_root _) ?_
 rintro _ W1 ⟨_,rfl,a2,gl,rfl,gg,kl⟩
 refine xbs 1 1 [V0 n] 3 fun b2 W2 n2=>?_
 have a0:=kl.below n2.below
 refine xr 0 (args:=#[.slice (S1 gl) 1 1,.slice (S1 b2) 1 1]) (Zgj gl b2 n h1 h2 _ a0 n2.blk) fun W3 a1=>?_
 have hB:=bln (bln a2 n2.below) a1
 exact xe 4 (.string ⟨(leB n 4).toArray⟩) ⟨rfl,hB⟩
theorem Sts.cut{α:Type}{f:α→List Value}{m:Nat}{w:World}{b:O0}{c:Nat}{l:List α}(hm:∀ x,(f x).length=m)(h:Sts f w (.slice b l.length c) l)(k:Nat)(hk:k≤l.length):Sts f w (.slice (Vp b k c m) (l.drop k).length (c-k)) (l.drop k):=by
 have a1:(l.drop k).length=l.length-k:=by simp
 have a2:=Sl.cap h
 by_cases hkn:k=l.length
 ·refine .inl ⟨Vp b k c m,c-k,by rw[show(l.drop k).length=0 by omega],by omega,?_⟩
  rw[List.drop_eq_nil_of_le (by omega)];rfl
 rcases h with ⟨a',c',h1,h2,h3⟩|⟨g,a0,a4,h1,h2,h3,h4⟩
 ·omega
 ·simp only[Value.slice.injEq] at h1
  obtain⟨rfl,_,rfl⟩:=h1
  refine .inr ⟨g,a0+k*m,c-k,?_,by omega,by omega,fun j x hj=>?_⟩
  ·rw[Vp,if_neg (by omega)];simp[Addr.add]
  ·have a3:(l.drop k).flatMap f=(l.flatMap f).drop (k*m):=by
    conv=>rhs;rw[←List.take_append_drop k l,List.flatMap_append]
    rw[List.drop_left' (by rw[Fm hm,List.length_take,Nat.min_eq_left hk])]
   rw[a3,List.getElem?_drop] at hj
   have:=h4 _ _ hj
   rwa [←Nat.add_assoc] at this
theorem Al.only{B ba b g n c:Nat}{pa:O0}{ca f N k:Nat}{l:Bl}{w W:World}{T:List TypeId}(h:Al B ba b g n c pa ca f N k l w)(hO:Zd T w W)(hT:(T.contains 152||T.contains 59||T.contains 5||T.contains 3)=false):Al B ba b g n c pa ca f N k l W:=by
 simp only[Bool.or_eq_false_iff] at hT
 exact⟨h.blkA.only hO hT.1.1.1,h.blkI.only hO hT.1.1.2,Zi h.data hO hT.1.2,Zi h.nums hO hT.2⟩
def Xh(l:List Ent)(m i:Nat):List Ent:=(l.drop (i*m)).take m
def Vu(c:List Ent):List Int:=c.map (·.1)
def Jp(c:List Ent):List Bl:=c.map (·.2.1)
def nodB(t:Int)(leaf:Bool)(m v:Nat)(c:List Ent):Bl:=Hd m v (Vt t leaf c.length m v) (Vu c) (Jp c) c.length
def Ot(t:Int)(leaf:Bool)(m v:Nat)(l:List Ent)(q:Nat)(bs:Bl):Nat→Bl
 | 0=>bs
 | i+1=>Qy (Ot t leaf m v l q bs i) ((q+i)*256) (Xk 2 ((q+i:Nat):Int) (nodB t leaf m v (Xh l m i)))
def upX (l:List Ent)(m q i:Nat):Ent:=(((Xh l m i).getD 0 Vk).1,leB ((q+i:Nat):Int) 4,((q+i:Nat):Int))
def upE (l:List Ent)(m q j:Nat):List Ent:=(List.range j).map (upX l m q)
theorem upE_succ(l:List Ent)(m q j:Nat):upE l m q (j+1)=upE l m q j++[upX l m q j]:=by simp[upE,List.range_succ]
theorem Xp(l:List Ent)(m q j:Nat):(upE l m q j).length=j:=by simp[upE]
theorem Wq{l:List Ent}{m q j i:Nat}(h:i<j):(upE l m q j).getD i Vk=upX l m q i:=by simp[upE,List.getD,List.getElem?_range h]
theorem Ls(l:List Ent)(m i:Nat):(Xh l m i).length=Kn l.length m i:=by simp[Xh,Kn]
theorem Rf{l:List Ent}{m i j:Nat}(h:j<Kn l.length m i):(Xh l m i).getD j Vk=l.getD (i*m+j) Vk:=by
 unfold Kn at h
 simp[Xh,List.getD,List.getElem?_take_of_lt (show j<m by omega),List.getElem?_drop]
theorem Zbm{c:List Ent}{j:Nat}(h:j<c.length):(Vu c).getD j 0=(c.getD j Vk).1:=by simp[Vu,List.getD,h]
theorem valsE_get{c:List Ent}{j:Nat}(h:j<c.length):(Jp c).getD j []=(c.getD j Vk).2.1:=by simp[Jp,List.getD,h]
theorem Lp(c:List Ent):(Vu c).length=c.length:=by simp[Vu]
theorem Zb7(c:List Ent):(Jp c).length=c.length:=by simp[Jp]
theorem siz_lt{n m i:Nat}(hm:1≤m)(hn:1≤n)(h:i<ovN n m):i*m<n:=by
 unfold ovN at h
 rcases Nat.eq_zero_or_pos i with rfl|hi
 ·omega
 have h2:i<(n+m-1)/m:=by omega
 have h3:=(Nat.lt_div_iff_mul_lt (by omega)).1 h2
 omega
theorem Dr{t:Int}{leaf:Bool}{m v:Nat}{l:List Ent}(E:EntsOk v l)(h1:1≤t)(h2:t≤5)(hm:Yz t leaf=m)(hv:Ut t leaf=v)(hl:leaf=false→1≤l.length){i:Nat}(hi:i<ovN l.length m):NodeOk t leaf (Xh l m i).length m v (Vu (Xh l m i)) (Jp (Xh l m i)):=by
 have a5:=(Yv t leaf).1
 rw[hm] at a5
 have a0:=Ls l m i
 have a6:=siz_le a5 hi
 have a7:(Xh l m i).length≤l.length-i*m:=by rw[a0];unfold Kn;omega
 have a4:∀ j,j<(Xh l m i).length→i*m+j<l.length∧(Vu (Xh l m i)).getD j 0=(l.getD (i*m+j) Vk).1∧(Jp (Xh l m i)).getD j []=(l.getD (i*m+j) Vk).2.1:=fun j hj=>by
  refine⟨by omega,?_,?_⟩
  ·rw[Zbm hj,Rf (by omega)]
  ·rw[valsE_get hj,Rf (by omega)]
 refine⟨h1,h2,hm,hv,Lp _,Zb7 _,by rw[a0];unfold Kn;omega,fun h=>?_,fun j hj=>?_,fun j hj=>?_,fun j hj=>?_⟩
 ·have:=siz_lt a5 (hl h) hi
  rw[a0];unfold Kn;omega
 ·obtain⟨a1,a2,_⟩:=a4 j hj
  rw[a2];exact E.hk _ a1
 ·obtain⟨a1,a2,_⟩:=a4 j (by omega)
  obtain⟨b1,b2,_⟩:=a4 (j+1) hj
  rw[a2,b2];exact E.hs _ (by omega)
 ·obtain⟨a1,_,a3⟩:=a4 j hj
  rw[a3];exact E.hw _ a1
theorem Of{t:Int}{leaf:Bool}{m v:Nat}{c:List Ent}(N:NodeOk t leaf c.length m v (Vu c) (Jp c)):(nodB t leaf m v c).length=244:=by
 have hf:=fitN t leaf
 rw[N.hm,N.hv] at hf
 exact Rg (Vl _ _ _ _ _) hf N.hn (fun j hj=>N.hw j hj)
theorem Zfg{w:World}{b:O0}{n m c:Nat}(h:Sl w (.slice b (ovN n m) c) (ovN n m) ((sizL n m).map nv)){k:Nat}(hk:k<ovN n m):b.isSome=true∧w.cell? (Xd b (k*1))=some (V0 ((Kn n m k:Nat):Int)):=by
 have:=Zj h (sizL_len n m) hk
 rwa [show(sizL n m).getD k 0=Kn n m k from by simp[sizL,List.getD,List.getElem?_range hk]] at this
theorem keys_take{l:List Ent}{j:Nat}(h:j<l.length):((Vu l).take (j+1)).map V0=((Vu l).take j).map V0++[V0 (l.getD j Vk).1]:=by
 rw[List.take_succ_eq_append_getElem (by rw[Lp];exact h)]
 simp[Vu,List.getD,h]
theorem vals_take{l:List Ent}{j:Nat}(h:j<l.length):((Jp l).take (j+1)).map sv=((Jp l).take j).map sv++[.string ⟨(l.getD j Vk).2.1.toArray⟩]:=by
 rw[List.take_succ_eq_append_getElem (by rw[Zb7];exact h)]
 simp[Jp,List.getD,h,sv]
theorem Zgx{l:List Ent}{m i s:Nat}(hs:Kn l.length m i=s):(Vu (l.drop (i*m))).take s=Vu (Xh l m i):=by
 subst hs
 unfold Vu Xh Kn
 rw[←List.map_take]
 congr 1
 rw[List.take_eq_take_iff];simp
theorem vals_chunk{l:List Ent}{m i s:Nat}(hs:Kn l.length m i=s):(Jp (l.drop (i*m))).take s=Jp (Xh l m i):=by
 subst hs
 unfold Jp Xh Kn
 rw[←List.map_take]
 congr 1
 rw[List.take_eq_take_iff];simp
theorem EntsOk.mono{v:Nat}{l:List Ent}(E:EntsOk v l):∀ {a b:Nat},a<b→b<l.length→(l.getD a Vk).1<(l.getD b Vk).1:=by
 intro a b h hb
 induction b with
 | zero=>omega
 | succ b ih =>
  have h1:=E.hs b (by omega)
  rcases Nat.lt_or_ge a b with h2|h2
  ·have:=ih h2 (by omega);omega
  ·obtain rfl:a=b:=by omega
   exact h1
theorem up_key{v:Nat}{l:List Ent}{m:Nat}(hm:1≤m)(hl:1≤l.length){i q:Nat}(hi:i<ovN l.length m):(upX l m q i).1=(l.getD (i*m) Vk).1∧i*m<l.length:=by
 have h:=siz_lt hm hl hi
 refine⟨?_,h⟩
 unfold upX
 rw[Rf (by unfold Kn;omega)];rfl
theorem up_ok{v:Nat}{l:List Ent}(E:EntsOk v l){m q:Nat}(hm:1≤m):EntsOk 4 (upE l m q (ovN l.length m)):=by
 rcases Nat.eq_zero_or_pos l.length with h0|hl
 ·have h1:ovN l.length m=1:=by
   rw[h0];unfold ovN
   have:(0+m-1)/m=0:=Nat.div_eq_of_lt (by omega)
   omega
  have a0:l=[]:=List.eq_nil_of_length_eq_zero h0
  subst a0
  constructor
  ·intro i hi;rw[Xp,h1] at hi;rw[Wq (by omega)];simp[upX,Xh,Vk]
  ·intro j hj;rw[Xp,h1] at hj;omega
  ·intro i hi;rw[Xp,h1] at hi;rw[Wq (by omega)];simp[upX,Zg]
 constructor
 ·intro i hi
  rw[Xp] at hi
  obtain⟨h1,h2⟩:=up_key (v:=v) (q:=q) hm hl hi
  rw[Wq hi,h1];exact E.hk _ h2
 ·intro j hj
  rw[Xp] at hj
  obtain⟨h1,h2⟩:=up_key (v:=v) (q:=q) hm hl hj
  obtain⟨h3,h4⟩:=up_key (v:=v) (q:=q) hm hl (show j<ovN l.length m by omega)
  rw[Wq hj,Wq (by omega),h1,h3]
  refine E.mono ?_ h2
  rw[Nat.add_mul];omega
 ·intro i hi
  rw[Xp] at hi
  rw[Wq hi];simp[upX,Zg]
def Wu(t:Int)(u:List Ent)(q:Nat)(bs:Bl):Int×Bl :=
 if h:u.length≤1 then((u.getD 0 Vk).2.2,bs)
 else Wu t (upE u 18 q (ovN u.length 18)) (q+ovN u.length 18) (Ot t false 18 4 u q bs (ovN u.length 18))
termination_by u.length
decreasing_by rw[Xp];have:=ov18 (x:=u.length) (by omega);omega
theorem Wz{t:Int}{u:List Ent}{q:Nat}{bs:Bl}(h:u.length≤1):Wu t u q bs=((u.getD 0 Vk).2.2,bs):=by rw[Wu];simp[h]
theorem Nz{t:Int}{u:List Ent}{q:Nat}{bs:Bl}(h:¬ u.length≤1):Wu t u q bs=Wu t (upE u 18 q (ovN u.length 18)) (q+ovN u.length 18) (Ot t false 18 4 u q bs (ovN u.length 18)):=by rw[Wu];simp[h]
def Xx(t:Int)(l:List Ent)(q:Nat)(bs:Bl):Int×Bl :=
 Wu t (upE l (Yz t true) q (ovN l.length (Yz t true))) (q+ovN l.length (Yz t true)) (Ot t true (Yz t true) (Ut t true) l q bs (ovN l.length (Yz t true)))
theorem Zcw{t:Int}{u:List Ent}{q:Nat}{bs:Bl}(h1:1≤u.length)(hu:(u.getD (u.length-1) Vk).2.2=((q-1:Nat):Int))(hq:1≤q):(Wu t u q bs).1=((q-1+((Iy u.length).sum-u.length):Nat):Int):=by
 induction hx:u.length using Nat.strongRecOn generalizing u q bs with
 | _ x ih =>
  subst hx
  by_cases h:u.length≤1
  ·rw[Wz h,Hp h]
   rw[show u.length-1=0 by omega] at hu
   show(u.getD 0 Vk).2.2=_
   rw[hu];simp
  ·have a0:=ov18 (x:=u.length) (by omega)
   have hp:=Vd u.length 18
   rw[Nz h,ih (ovN u.length 18) (by omega) (u:=upE u 18 q (ovN u.length 18)) (q:=q+ovN u.length 18) (by rw[Xp];exact hp) ?_ (by omega) (Xp _ _ _ _),Ju h]
   ·have a1:=Mf (ovN u.length 18)
    simp only[List.sum_cons]
    congr 1
    omega
   ·rw[Xp,Wq (by omega)]
    simp only[upX]
    congr 1
    omega
def LaidQ(B ba b g n c:Nat)(pa:O0)(ca f N k:Nat)(l:Bl)(kind:Int)(li:Bl)(q:Nat)(w:World)(e:Ending)(w':World):Prop :=
 e=.returned (.tuple #[V0 (q:Int),.nilIface])∧Below B w w'∧Zd [152,5] w w'∧Fr [ba,g] w w'∧Al B ba b g n c pa ca f N (k+1) (Qy l (q*256) (Xk kind (q:Int) li)) w'
theorem Pi(B ba b g n c:Nat)(p:O0)(ca f N k:Nat)(l:Bl)(kind:Int)(a:O0)(ci:Nat)(li:Bl)(q n':Nat)(w:World)(hq:f+k=q)(hn':li.length=n')(hC:AlC B ba n c ca f N)(hA:Al B ba b g n c p ca f N k l w)(hkN:k<N)(h1:1≤kind)(h2:kind≤4)(hin:∀ W,Below B w W→Zd [152] w W→Bys W (.slice a n' ci) li)(hl:n'≤244)(hBw:B≤w.heap.size) :
 C0 128 #[P0 ba,V0 kind,.slice a n' ci] w (LaidQ B ba b g n c p ca f N k l kind li q w):=by
 subst hq hn';exact alloc_Lay B ba b g n c p ca f N k l kind a ci li w hC hA hkN h1 h2 hin hl hBw
theorem up_row{l:List Ent}{m q i:Nat}{key:Int}(hk:key=((Xh l m i).getD 0 Vk).1):(upE l m q i).flatMap Kv++[V0 key,.string ⟨(leB ((q+i:Nat):Int) 4).toArray⟩,V0 ((q+i:Nat):Int)]=(upE l m q (i+1)).flatMap Kv:=by
 subst hk;rw[upE_succ];simp[Kv,upX]
theorem chunk_key{l:List Ent}{m i j:Nat}(hs:Kn l.length m i=j)(hj:0<j):((Vu (Xh l m i))).getD 0 0=((Xh l m i).getD 0 Vk).1:=Zbm (by rw[Ls];omega)
theorem Zdw{l:List Ent}{m i j:Nat}(hs:Kn l.length m i=j)(hj:j=0):(0:Int)=((Xh l m i).getD 0 Vk).1:=by
 have:Xh l m i=[]:=List.eq_nil_of_length_eq_zero (by rw[Ls];omega)
 rw[this];rfl
theorem ImgR.mono{B B' b:Nat}{p:O0}{n c:Nat}{l:Bl}{w:World}(h:ImgR B b p n c l w)(hB:B'≤B):ImgR B' b p n c l w:=⟨h.blk,Zf h.row hB,h.hn⟩
def WroteR(B b:Nat)(p:O0)(n c:Nat)(l:Bl)(w:World)(e:Ending)(w':World):Prop :=
 e=.returned .nilIface∧Below B w w'∧Zd [5] w w'∧ImgR B b p n c l w'
theorem Uy(B b:Nat)(p:O0)(n c k:Nat)(ki:Int)(l:Bl)(kind:Int)(a:O0)(ca m:Nat)(li:Bl)(w:World)(hki:ki=(k:Int))(hm:li.length=m)(hI:ImgR B b p n c l w)(hk:k<n/256)(h1:1≤kind)(h2:kind≤4)(hin:Bys w (.slice a m ca) li)(hl:m≤244)(hBw:B≤w.heap.size) :
 C0 72 #[P0 b,V0 ki,V0 kind,.slice a m ca] w (WroteR B b p n c (Qy l (k*256) (Xk kind k li)) w):=by
 subst hki hm
 obtain⟨g,rfl,hc⟩:=hI.base (by omega)
 refine(Rb B b g n c k l kind a ca li w hI.blk hI.row hI.hn hc hk h1 h2 hin hl hBw).mono ?_
 rintro e W ⟨rfl,hb,hO,_,ho⟩
 exact⟨rfl,hb,hO,hI.blk.only hO (by decide),ho,hI.hn⟩
def eL (S:WS):List (Option Int):=if S.fs=[] then [] else(S.fs.getD 0 ([],0)).1.map some
def eT (S:WS):Option Int:=if S.fs=[] then none else some (S.fs.getD 0 ([],0)).2
theorem ref_OfM(a:O0)(c n k:Nat)(l:Bl)(w:World)(hn:l.length=n)(hk:min (n/256) 14400=k)(h:Bys w (.slice a n c) l)(hl:n≤100000000) :
 C0 26 #[.slice a n c] w (Yy (fun w' r=>∃ bm p c2,r=P0 bm∧w.heap.size≤bm∧RefI w.heap.size bm p k c2 (l.take (k*256)) w') w):=by
 subst hn hk;exact ref_Of a c l w h hl
def mapX(x:Ent):Mp:=(x.1,(mapB x.2.1:Int),(mapT x.2.1:Int))
end Go.Proofs.YtceeiinepijokaaGreat
namespace Go.Proofs.YtceeiinepijokaaGreat
set_option maxHeartbeats 8000000
set_option maxRecDepth 100000
open Go.RowKit Go.Extern.Stop Go.Stop Go.Extern
set_option linter.unusedVariables false
attribute [local irreducible] wpList wpAnyH Code.wp Oper.wp
def dl (kind:Int)(l:List Int):List (Int×Int×Int):=l.map fun i=>(kind,i,13)
end Go.Proofs.YtceeiinepijokaaGreat
namespace Go.Proofs.YtceeiinepijokaaGreat
set_option maxHeartbeats 8000000
set_option maxRecDepth 100000
open Go.RowKit Go.Extern.Stop Go.Stop Go.Extern
set_option linter.unusedVariables false
attribute [local irreducible] wpList wpAnyH Code.wp Oper.wp Go
structure Sup where
 tx:Int
 time:Int
 unit:Int
 data:Int
 blocks:Int
 top:Int
 details:Int
 dslots:Int
 dover:Int
 mindex:Int
 mover:Int
def So(s:Sup):List Int:=[s.tx,s.time,s.unit,s.data,s.blocks,s.top,s.details,s.dslots,s.dover,s.mindex,s.mover]
def Xc(s:Sup):Bool:=(((((((((((true&&decide ((0:Int)≤s.tx∧s.tx≤2147483647))&&decide ((0:Int)≤s.time∧s.time≤16777215))&&decide ((1:Int)≤s.unit∧s.unit≤65536))&&decide ((0:Int)≤s.data∧s.data≤65536))&&decide ((2:Int)≤s.blocks∧s.blocks≤14400))&&decide ((1:Int)≤s.top∧s.top≤(s.blocks-1)))&&decide ((1:Int)≤s.details∧s.details≤(s.blocks-1)))&&decide ((1:Int)≤s.dslots∧s.dslots≤(s.blocks-1)))&&decide ((1:Int)≤s.dover∧s.dover≤(s.blocks-1)))&&decide ((1:Int)≤s.mindex∧s.mindex≤(s.blocks-1)))&&decide ((1:Int)≤s.mover∧s.mover≤(s.blocks-1)))
def Xe(l:Bl):Sup:=⟨(Zh l 12 4:Int),(Zh l 16 4:Int),(Zh l 20 4:Int),(Zh l 24 4:Int),(Zh l 28 4:Int),(Zh l 32 4:Int),(Zh l 36 4:Int),(Zh l 40 4:Int),(Zh l 44 4:Int),(Zh l 48 4:Int),(Zh l 52 4:Int)⟩
def Ho:Bl:=[83,67,65,78,84,76,73,78]
def Jy(N:List Int):Bl:=N.flatMap fun n=>leB n 4
theorem El(N:List Int):(Jy N).length=N.length*4:=by
 unfold Jy
 induction N with
 | nil=>rfl
 | cons n N ih=>rw[List.flatMap_cons,List.length_append,Zg,ih,List.length_cons];omega
def Ub(s:Sup):Bl:=Ho++Jy (1::So s)++List.replicate 188 0
theorem Kg(s:Sup):(Ub s).length=244:=by
 unfold Ub;rw[List.length_append,List.length_append,El,List.length_replicate];rfl
def Sb(l:Bl):Bool:=(l.take 8==Ho)&&decide (Zh l 8 4=1)&&Qm (l.drop 56)&&Xc (Xe l)
def Tu(n:Int):List Value:=[V0 4,V0 n]
theorem Zeh(n:Int):(Tu n).length=2:=rfl
theorem Dh{l:Bl}{k:Nat}(h:k+4≤l.length):l.drop k=leB (Zh l k 4:Int) 4++l.drop (k+4):=by
 rw[leB_raw h,←List.drop_drop,List.take_append_drop]
theorem drop8{l:Bl}(hl:l.length=244):l.drop 8=Jy ((Zh l 8 4:Int)::So (Xe l))++l.drop 56:=by
 rw[Dh (k:=8) (by omega),Dh (k:=12) (by omega),Dh (k:=16) (by omega),Dh (k:=20) (by omega),Dh (k:=24) (by omega),Dh (k:=28) (by omega),Dh (k:=32) (by omega),Dh (k:=36) (by omega),Dh (k:=40) (by omega),Dh (k:=44) (by omega),Dh (k:=48) (by omega),Dh (k:=52) (by omega)]
 simp[Jy,So,Xe]
theorem zeroB_iff(l:Bl):Qm l=true↔l=List.replicate l.length 0:=by
 unfold Qm
 rw[List.all_eq_true]
 constructor
 ·intro h;exact List.eq_replicate_iff.2 ⟨rfl,fun x hx=>by simpa using h x hx⟩
 ·intro h x hx;rw[h] at hx;rw[(List.mem_replicate.1 hx).2];rfl
theorem supB_eq{l:Bl}(hl:l.length=244):(Ub (Xe l)==l)=((l.take 8==Ho)&&decide (Zh l 8 4=1)&&Qm (l.drop 56)):=by
 have e1:l=l.take 8++(Jy ((Zh l 8 4:Int)::So (Xe l))++l.drop 56):=by rw[←drop8 hl,List.take_append_drop]
 have h8:(l.take 8).length=Ho.length:=by simp[Ho];omega
 have hn:∀ x:Int,(Jy (x::So (Xe l))).length=48:=fun x=>by rw[El];rfl
 have hr:=Yf l 8 4 (by decide)
 have a0:(l.drop 56).length=188:=by simp;omega
 rw[Bool.eq_iff_iff,beq_iff_eq,Bool.and_eq_true,Bool.and_eq_true,beq_iff_eq,decide_eq_true_iff,zeroB_iff,a0]
 constructor
 ·intro h
  have e2:=h.trans e1
  rw[Ub,List.append_assoc] at e2
  obtain⟨a1,a2⟩:=List.append_inj e2 h8.symm
  obtain⟨a3,a4⟩:=List.append_inj a2 (by rw[hn,hn])
  have a5:leB (1:Int) 4=leB (Zh l 8 4:Int) 4:=by
   unfold Jy at a3
   rw[List.flatMap_cons,List.flatMap_cons] at a3
   exact(List.append_inj a3 (by rw[Zg,Zg])).1
  have a6:=leB_inj (m:=1) (n:=Zh l 8 4) (w:=4) (by decide) (by omega) a5
  exact⟨⟨a1.symm,a6.symm⟩,a4.symm⟩
 ·rintro⟨⟨a1,a2⟩,a3⟩
  conv=>rhs;rw[e1]
  rw[a1,a2,a3,Ub,List.append_assoc];rfl
theorem Xg(B bs bo off:Nat)(cs:List Value)(n lo hi:Int)(b:Bool)(w:World)(hBw:B≤w.heap.size)(hBo:B≤bo)(ks:Blk w bs cs 30)(hn:cs[off]? = some (V0 n))(ko:Blk w bo [.bool b] 4) :
 C0 98 #[.pointer (some ⟨bs,off,none⟩),V0 lo,V0 hi,P0 bo] w ((fun e w'=>∃ u,e=.returned u∧Below B w w'∧Zd [4] w w'∧Blk w' bo [.bool (b&&decide ((lo:Int)≤n∧n≤hi))] 4)):=by
 refine zin 22 Tryz.func98 ?_
 refine xb 1 0 ko ?_
 refine xg 1 [7,8] b (fun a1=>?_) (fun a1=>?_)
 ·refine xl 2 (ks.cell (i:=off) hn) ?_
  refine xg 4 [13,14,15] (decide (n≥lo)) (fun a0=>?_) (fun a0=>?_)
  ·have a0:=of_decide_eq_true a0
   refine xl 2 (ks.cell (i:=off) hn) ?_
   refine xs 3 ko [.bool (decide (n≤hi))] fun W3 u3 k3=>?_
   have hB:=u3.below (Below.refl B w) hBo
   have hO:=(show Zd [4] w _ from(Zd.of_upd u3 ko (by decide)))
   exact xe 1 (.tuple #[]) ⟨_,rfl,hB,hO,by rw[show(b&&decide ((lo:Int)≤n∧n≤hi))=decide (n≤hi) from by first|(rw[show decide ((lo:Int)≤n∧n≤hi)=false from decide_eq_false (by omega),Bool.and_false];done)|(simp_all;done)|(simp_all;omega)];exact k3⟩
  have a0:=of_decide_eq_false a0
  refine xs 6 ko [.bool false] fun W4 u4 k4=>?_
  have hB:=u4.below (Below.refl B w) hBo
  have hO:=(show Zd [4] w _ from(Zd.of_upd u4 ko (by decide)))
  exact xe 1 (.tuple #[]) ⟨_,rfl,hB,hO,by rw[show(b&&decide ((lo:Int)≤n∧n≤hi))=false from by first|(rw[show decide ((lo:Int)≤n∧n≤hi)=false from decide_eq_false (by omega),Bool.and_false];done)|(simp_all;done)|(simp_all;omega)];exact k4⟩
 refine xs 13 ko [.bool false] fun W5 u5 k5=>?_
 have hB:=u5.below (Below.refl B w) hBo
 have hO:=(show Zd [4] w _ from(Zd.of_upd u5 ko (by decide)))
 exact xe 1 (.tuple #[]) ⟨_,rfl,hB,hO,by rw[show(b&&decide ((lo:Int)≤n∧n≤hi))=false from by first|(rw[show decide ((lo:Int)≤n∧n≤hi)=false from decide_eq_false (by omega),Bool.and_false];done)|(simp_all;done)|(simp_all;omega)];exact k5⟩
theorem Rw(B bs bo:Nat)(s:Sup)(w:World)(hBw:B≤w.heap.size)(hBo:B≤bo)(hb0:0≤s.blocks)(hb1:s.blocks<9223372036854775808)(ks:Blk w bs [V0 s.tx,V0 s.time,V0 s.unit,V0 s.data,V0 s.blocks,V0 s.top,V0 s.details,V0 s.dslots,V0 s.dover,V0 s.mindex,V0 s.mover] 30)(ko:Blk w bo [.bool true] 4) :
 C0 76 #[P0 bs,.func (.func 98) #[] #[P0 bo]] w ((fun e w'=>∃ u,e=.returned u∧Below B w w'∧Zd [4] w w'∧Blk w' bo [.bool (Xc s)] 4)):=by
 refine zin 64 Tryz.func76 ?_
 refine xc 6 (args:=#[P0 bs,V0 0,V0 2147483647,P0 bo]) (Xg B bs bo 0 _ s.tx 0 2147483647 true _ (Nat.le_trans hBw (Below.refl B _).size) hBo ks rfl ko) ?_
 rintro _ W1 ⟨u1,rfl,hb1,e0,e7⟩
 have b3:=ks.only e0 (by decide)
 refine xc 8 (args:=#[.pointer (some ⟨bs,1,none⟩),V0 0,V0 16777215,P0 bo]) (Xg B bs bo 1 _ s.time 0 16777215 (true&&decide ((0:Int)≤s.tx∧s.tx≤2147483647)) _ (Nat.le_trans hBw hb1.size) hBo b3 rfl e7) ?_
 rintro _ W2 ⟨u2,rfl,f0,e2,f4⟩
 have b4:=hb1.trans f0
 have b8:=b3.only e2 (by decide)
 refine xc 8 (args:=#[.pointer (some ⟨bs,2,none⟩),V0 1,V0 65536,P0 bo]) (Xg B bs bo 2 _ s.unit 1 65536 ((true&&decide ((0:Int)≤s.tx∧s.tx≤2147483647))&&decide ((0:Int)≤s.time∧s.time≤16777215)) _ (Nat.le_trans hBw b4.size) hBo b8 rfl f4) ?_
 rintro _ W3 ⟨u3,rfl,f3,e4,e5⟩
 have c8:=b4.trans f3
 have c0:=b8.only e4 (by decide)
 refine xc 8 (args:=#[.pointer (some ⟨bs,3,none⟩),V0 0,V0 65536,P0 bo]) (Xg B bs bo 3 _ s.data 0 65536 (((true&&decide ((0:Int)≤s.tx∧s.tx≤2147483647))&&decide ((0:Int)≤s.time∧s.time≤16777215))&&decide ((1:Int)≤s.unit∧s.unit≤65536)) _ (Nat.le_trans hBw c8.size) hBo c0 rfl e5) ?_
 rintro _ W4 ⟨u4,rfl,f1,e1,f9⟩
 have b0:=c8.trans f1
 have a9:=c0.only e1 (by decide)
 refine xc 8 (args:=#[.pointer (some ⟨bs,4,none⟩),V0 2,V0 14400,P0 bo]) (Xg B bs bo 4 _ s.blocks 2 14400 ((((true&&decide ((0:Int)≤s.tx∧s.tx≤2147483647))&&decide ((0:Int)≤s.time∧s.time≤16777215))&&decide ((1:Int)≤s.unit∧s.unit≤65536))&&decide ((0:Int)≤s.data∧s.data≤65536)) _ (Nat.le_trans hBw b0.size) hBo a9 rfl f9) ?_
 rintro _ W5 ⟨u5,rfl,f2,e3,e6⟩
 refine xd 3 .z ?_
 refine xbs (.o [0,1,2,3,4,5,6,7,8,9,10,11,12,13,14,15,16,17,20] 18) 6 [.pointer (some ⟨bs,5,none⟩),.pointer (some ⟨bs,6,none⟩),.pointer (some ⟨bs,7,none⟩),.pointer (some ⟨bs,8,none⟩),.pointer (some ⟨bs,9,none⟩),.pointer (some ⟨bs,10,none⟩)] 168 fun b6 W6 n6=>?_
 have c1:=blB (b0.trans f2) hBw (Za W5)
 have g6:=n6.ge0 c1
 refine xu (.r [19] 3) 7 ?_
 refine xb 14 0 n6.blk ?_
 have a3:=((a9.only e3 (by decide)).below (Za W5)).below n6.below
 refine xb 9 4 a3 ?_
 refine xw 0 (s.blocks-1) ?_
 have b1:=blB c1 hBw n6.below
 have b2:=(e6.below (Za W5)).below n6.below
 refine xc 0 (args:=#[.pointer (some ⟨bs,5,none⟩),V0 1,V0 (s.blocks-1),P0 bo]) (Xg B bs bo 5 _ s.top 1 (s.blocks-1) (((((true&&decide ((0:Int)≤s.tx∧s.tx≤2147483647))&&decide ((0:Int)≤s.time∧s.time≤16777215))&&decide ((1:Int)≤s.unit∧s.unit≤65536))&&decide ((0:Int)≤s.data∧s.data≤65536))&&decide ((2:Int)≤s.blocks∧s.blocks≤14400)) _ (Nat.le_trans hBw b1.size) hBo a3 rfl b2) ?_
 rintro _ W7 ⟨u7,rfl,f5,d5,f6⟩
 have b7:=n6.blk.only d5 (by decide)
 refine xb 22 1 b7 ?_
 have a2:=a3.only d5 (by decide)
 refine xb 9 4 a2 ?_
 refine xw 0 (s.blocks-1) ?_
 have c2:=b1.trans f5
 refine xc 0 (args:=#[.pointer (some ⟨bs,6,none⟩),V0 1,V0 (s.blocks-1),P0 bo]) (Xg B bs bo 6 _ s.details 1 (s.blocks-1) ((((((true&&decide ((0:Int)≤s.tx∧s.tx≤2147483647))&&decide ((0:Int)≤s.time∧s.time≤16777215))&&decide ((1:Int)≤s.unit∧s.unit≤65536))&&decide ((0:Int)≤s.data∧s.data≤65536))&&decide ((2:Int)≤s.blocks∧s.blocks≤14400))&&decide ((1:Int)≤s.top∧s.top≤(s.blocks-1))) _ (Nat.le_trans hBw c2.size) hBo a2 rfl f6) ?_
 rintro _ W8 ⟨u8,rfl,f7,c9,e9⟩
 have c7:=b7.only c9 (by decide)
 refine xb 22 2 c7 ?_
 have a6:=a2.only c9 (by decide)
 refine xb 9 4 a6 ?_
 refine xw 0 (s.blocks-1) ?_
 have b9:=c2.trans f7
 refine xc 0 (args:=#[.pointer (some ⟨bs,7,none⟩),V0 1,V0 (s.blocks-1),P0 bo]) (Xg B bs bo 7 _ s.dslots 1 (s.blocks-1) (((((((true&&decide ((0:Int)≤s.tx∧s.tx≤2147483647))&&decide ((0:Int)≤s.time∧s.time≤16777215))&&decide ((1:Int)≤s.unit∧s.unit≤65536))&&decide ((0:Int)≤s.data∧s.data≤65536))&&decide ((2:Int)≤s.blocks∧s.blocks≤14400))&&decide ((1:Int)≤s.top∧s.top≤(s.blocks-1)))&&decide ((1:Int)≤s.details∧s.details≤(s.blocks-1))) _ (Nat.le_trans hBw b9.size) hBo a6 rfl e9) ?_
 rintro _ W9 ⟨u9,rfl,f8,d1,e8⟩
 have b5:=c7.only d1 (by decide)
 refine xb 22 3 b5 ?_
 have a5:=a6.only d1 (by decide)
 refine xb 9 4 a5 ?_
 refine xw 0 (s.blocks-1) ?_
 have c4:=b9.trans f8
 refine xc 0 (args:=#[.pointer (some ⟨bs,8,none⟩),V0 1,V0 (s.blocks-1),P0 bo]) (Xg B bs bo 8 _ s.dover 1 (s.blocks-1) ((((((((true&&decide ((0:Int)≤s.tx∧s.tx≤2147483647))&&decide ((0:Int)≤s.time∧s.time≤16777215))&&decide ((1:Int)≤s.unit∧s.unit≤65536))&&decide ((0:Int)≤s.data∧s.data≤65536))&&decide ((2:Int)≤s.blocks∧s.blocks≤14400))&&decide ((1:Int)≤s.top∧s.top≤(s.blocks-1)))&&decide ((1:Int)≤s.details∧s.details≤(s.blocks-1)))&&decide ((1:Int)≤s.dslots∧s.dslots≤(s.blocks-1))) _ (Nat.le_trans hBw c4.size) hBo a5 rfl e8) ?_
 rintro _ g0 ⟨g5,rfl,d0,a8,d2⟩
 have c6:=b5.only a8 (by decide)
 refine xb 22 4 c6 ?_
 have a7:=a5.only a8 (by decide)
 refine xb 9 4 a7 ?_
 refine xw 0 (s.blocks-1) ?_
 have c3:=c4.trans d0
 refine xc 0 (args:=#[.pointer (some ⟨bs,9,none⟩),V0 1,V0 (s.blocks-1),P0 bo]) (Xg B bs bo 9 _ s.mindex 1 (s.blocks-1) (((((((((true&&decide ((0:Int)≤s.tx∧s.tx≤2147483647))&&decide ((0:Int)≤s.time∧s.time≤16777215))&&decide ((1:Int)≤s.unit∧s.unit≤65536))&&decide ((0:Int)≤s.data∧s.data≤65536))&&decide ((2:Int)≤s.blocks∧s.blocks≤14400))&&decide ((1:Int)≤s.top∧s.top≤(s.blocks-1)))&&decide ((1:Int)≤s.details∧s.details≤(s.blocks-1)))&&decide ((1:Int)≤s.dslots∧s.dslots≤(s.blocks-1)))&&decide ((1:Int)≤s.dover∧s.dover≤(s.blocks-1))) _ (Nat.le_trans hBw c3.size) hBo a7 rfl d2) ?_
 rintro _ g3 ⟨g2,rfl,d9,a4,d8⟩
 have d3:=c6.only a4 (by decide)
 refine xb 22 5 d3 ?_
 have a0:=a7.only a4 (by decide)
 refine xb 9 4 a0 ?_
 refine xw 0 (s.blocks-1) ?_
 have a1:=c3.trans d9
 refine xc 0 (args:=#[.pointer (some ⟨bs,10,none⟩),V0 1,V0 (s.blocks-1),P0 bo]) (Xg B bs bo 10 _ s.mover 1 (s.blocks-1) ((((((((((true&&decide ((0:Int)≤s.tx∧s.tx≤2147483647))&&decide ((0:Int)≤s.time∧s.time≤16777215))&&decide ((1:Int)≤s.unit∧s.unit≤65536))&&decide ((0:Int)≤s.data∧s.data≤65536))&&decide ((2:Int)≤s.blocks∧s.blocks≤14400))&&decide ((1:Int)≤s.top∧s.top≤(s.blocks-1)))&&decide ((1:Int)≤s.details∧s.details≤(s.blocks-1)))&&decide ((1:Int)≤s.dslots∧s.dslots≤(s.blocks-1)))&&decide ((1:Int)≤s.dover∧s.dover≤(s.blocks-1)))&&decide ((1:Int)≤s.mindex∧s.mindex≤(s.blocks-1))) _ (Nat.le_trans hBw a1.size) hBo a0 rfl d8) ?_
 rintro _ g1 ⟨g7,rfl,d6,d7,d4⟩
 have c5:=a1.trans d6
 have hO:=((((((((((((show Zd [4] w _ from e0).trans e2).trans e4).trans e1).trans e3).trans (Zd.of_below (Za W5))).trans (Zd.of_below n6.below)).trans d5).trans c9).trans d1).trans a8).trans a4).trans d7
 exact xe 19 (.tuple #[]) ⟨_,rfl,c5,hO,d4⟩
theorem Zbo(s:Sup)(w:World)(hb0:0≤s.blocks)(hb1:s.blocks<9223372036854775808) :
 C0 55 #[.agg #[V0 s.tx,V0 s.time,V0 s.unit,V0 s.data,V0 s.blocks,V0 s.top,V0 s.details,V0 s.dslots,V0 s.dover,V0 s.mindex,V0 s.mover]] w (Ret (.bool (Xc s)) w):=by
 refine zin 7 Tryz.func55 ?_
 refine xa 2 [V0 s.tx,V0 s.time,V0 s.unit,V0 s.data,V0 s.blocks,V0 s.top,V0 s.details,V0 s.dslots,V0 s.dover,V0 s.mindex,V0 s.mover] 30 fun b1 W1 n1=>?_
 refine xa 5 [.bool false] 4 fun b2 W2 n2=>?_
 refine xs 0 n2.blk [.bool true] fun W3 u3 k3=>?_
 have g2:=n2.ge n1.below
 have hB:=u3.below (bln n1.below n2.below) g2
 have k1:=u3.blkT (n1.blk.below n2.below) n2.blk (by decide)
 refine xc 5 (args:=#[P0 b1,.func (.func 98) #[] #[P0 b2]]) (Rw w.heap.size b1 b2 s _ hB.size g2 hb0 hb1 k1 k3) ?_
 rintro _ W4 ⟨u4,rfl,a2,a3,a1⟩
 refine xb 4 0 a1 ?_
 have a0:=hB.trans a2
 exact xe 4 (.bool (Xc s)) ⟨rfl,a0⟩
theorem Vi(B Bx bs bl off n:Nat)(cs:List Value)(x:Int)(lo hi:Value)(p:O0)(c:Nat)(N:List Int)(w:World)(hBm:B≤Bx)(hBx:Bx≤w.heap.size)(hBw:B≤w.heap.size)(hBl:B≤bl)(ks:Blk w bs cs 30)(hn:cs[off]? = some (V0 x))(kl:Blk w bl [.slice p n c] 236)(hup:w.ownsRow Bx 235 2 (.slice p n c) n (N.flatMap Tu))(hnn:n≤1000) :
 C0 130 #[.pointer (some ⟨bs,off,none⟩),lo,hi,P0 bl] w ((fun e w'=>∃ u p' c',e=.returned u∧Below B w w'∧Zd [236,235] w w'∧Blk w' bl [.slice p' (n+1) c'] 236∧w'.ownsRow Bx 235 2 (.slice p' (n+1) c') (n+1) ((N++[x]).flatMap Tu))):=by
 refine zin 14 Tryz.func130 ?_
 refine xd 0 (.t B [236,235]) ?_
 have b5:=ks.below (Za w)
 refine xlt (.e [1,2] 3) (.t B [236,235]) (fun V hV=>(b5.only hV.2 (by decide)).cell (i:=off) hn) ?_
 refine xm2 (.b [4]) 0 5 ?_ ?_
 ·have a6:=kl.below (Za w)
  refine xb 0 0 a6 ?_
  refine xbs (.o [] 5) 1 [V0 4,V0 x] 235 fun b1 W1 n1=>?_
  have a4:=Zb hup (Za w)
  have b2:=Zr a4 n1
  have a0:=Zb a4 n1.below
  have hB:=blB (blB (Below.refl B w) hBw (Za w)) hBw n1.below
  refine ybi (.o [] 6) (.t B [236,235]) fun _ _ _ _ zJ zQ zo zx zy zK=>Zy (m:=1) (news:=[V0 4,V0 x]) (.agg #[V0 0,V0 0]) 2 16 (n+1) (((N++[x]).flatMap Tu)) zo Tryz.underlying236 (by kernel_rfl) rfl (by decide) zx a0 zy (n1.blk.sl 1 1 (by decide) (by decide)) rfl (by simp[Value.oneCell']) (by unfold maxLen;omega) (by omega) (Nat.le_trans hBx hB.size) (by rfl) (by rw[List.flatMap_append];rfl) fun c2 c1 W2 o2 a8 b9=>?_
  refine zK _ _ (Xa (b9.mono hBm) a8 a0 (by decide)) ?_
  have a2:=(a6.below n1.below).grown a8 a0 (by decide)
  refine ys (.o [] 7) a2 [.slice c2 (n+1) c1] (.t B [236,235]) fun W3 u3 k3=>⟨(Zt u3 a2 hBl (by decide)),?_⟩
  have b6:=u3.below (hB.trans (b9.mono hBm)) hBl
  have hO:=(((show Zd [236,235] w _ from(Zd.of_below (Za w))).trans (Zd.of_below n1.below)).trans (Zd.of_grown a8 a0 (by decide))).trans (Zd.of_upd u3 a2 (by decide))
  have b3:=u3.own2 o2 a2 (by decide)
  exact xe 1 (.tuple #[]) ⟨_,_,_,rfl,b6,hO,k3,b3⟩
 refine xbs 0 1 [V0 4,V0 x] 235 fun b4 W4 n4=>?_
 have a5:=Zb hup (Za w)
 have b7:=Zr a5 n4
 have a7:=(kl.below (Za w)).below n4.below
 refine xb (.o [] 0) 0 a7 ?_
 have a1:=Zb a5 n4.below
 have hB:=blB (blB (Below.refl B w) hBw (Za w)) hBw n4.below
 refine ybi (.o [] 6) (.t B [236,235]) fun _ _ _ _ zJ zQ zo zx zy zK=>Zy (m:=1) (news:=[V0 4,V0 x]) (.agg #[V0 0,V0 0]) 2 16 (n+1) (((N++[x]).flatMap Tu)) zo Tryz.underlying236 (by kernel_rfl) rfl (by decide) zx a1 zy (n4.blk.sl 1 1 (by decide) (by decide)) rfl (by simp[Value.oneCell']) (by unfold maxLen;omega) (by omega) (Nat.le_trans hBx hB.size) (by rfl) (by rw[List.flatMap_append];rfl) fun c3 c4 W5 o5 b0 c0=>?_
 refine zK _ _ (Xa (c0.mono hBm) b0 a1 (by decide)) ?_
 have a3:=a7.grown b0 a1 (by decide)
 refine ys (.o [] 7) a3 [.slice c3 (n+1) c4] (.t B [236,235]) fun W6 u6 k6=>⟨(Zt u6 a3 hBl (by decide)),?_⟩
 have b8:=u6.below (hB.trans (c0.mono hBm)) hBl
 have hO:=(((show Zd [236,235] w _ from(Zd.of_below (Za w))).trans (Zd.of_below n4.below)).trans (Zd.of_grown b0 a1 (by decide))).trans (Zd.of_upd u6 a3 (by decide))
 have a9:=u6.own2 o5 a3 (by decide)
 exact xe 1 (.tuple #[]) ⟨_,_,_,rfl,b8,hO,k6,a9⟩
theorem Zar(B Bx bs bl:Nat)(s:Sup)(p0:O0)(c0:Nat)(w:World)(hBm:B≤Bx)(hBx:Bx≤w.heap.size)(hBw:B≤w.heap.size)(hBl:B≤bl)(hb0:0≤s.blocks)(hb1:s.blocks<9223372036854775808)(ks:Blk w bs [V0 s.tx,V0 s.time,V0 s.unit,V0 s.data,V0 s.blocks,V0 s.top,V0 s.details,V0 s.dslots,V0 s.dover,V0 s.mindex,V0 s.mover] 30)(kl:Blk w bl [.slice p0 1 c0] 236)(hr0:w.ownsRow Bx 235 2 (.slice p0 1 c0) 1 ([1].flatMap Tu)) :
 C0 76 #[P0 bs,.func (.func 130) #[] #[P0 bl]] w ((fun e w'=>∃ u p c,e=.returned u∧Below B w w'∧Zd [236,235] w w'∧Blk w' bl [.slice p 12 c] 236∧w'.ownsRow Bx 235 2 (.slice p 12 c) 12 ((1::So s).flatMap Tu))):=by
 refine zin 64 Tryz.func76 ?_
 refine xc 6 (args:=#[P0 bs,V0 0,V0 2147483647,P0 bl]) (Vi B Bx bs bl 0 1 _ s.tx _ _ p0 c0 [1] _ hBm (Nat.le_trans hBx (Below.refl B _).size) (Nat.le_trans hBw (Below.refl B _).size) hBl ks rfl kl hr0 (by decide)) ?_
 rintro _ W1 ⟨u1,p1,c1,rfl,hb1,h9,h4,i8⟩
 have g5:World.ownsRow _ _ _ _ (.slice p1 2 c1) 2 ([1,s.tx].flatMap Tu):=i8
 replace h4:Blk _ _ [.slice p1 2 c1] _:=h4
 have d3:=ks.only h9 (by decide)
 refine xc 8 (args:=#[.pointer (some ⟨bs,1,none⟩),V0 0,V0 16777215,P0 bl]) (Vi B Bx bs bl 1 2 _ s.time _ _ p1 c1 [1,s.tx] _ hBm (Nat.le_trans hBx hb1.size) (Nat.le_trans hBw hb1.size) hBl d3 rfl h4 g5 (by decide)) ?_
 rintro _ W2 ⟨u2,p2,c2,rfl,i6,i0,f5,i9⟩
 have f8:World.ownsRow _ _ _ _ (.slice p2 3 c2) 3 ([1,s.tx,s.time].flatMap Tu):=i9
 replace f5:Blk _ _ [.slice p2 3 c2] _:=f5
 have b5:=hb1.trans i6
 have d4:=d3.only i0 (by decide)
 refine xc 8 (args:=#[.pointer (some ⟨bs,2,none⟩),V0 1,V0 65536,P0 bl]) (Vi B Bx bs bl 2 3 _ s.unit _ _ p2 c2 [1,s.tx,s.time] _ hBm (Nat.le_trans hBx b5.size) (Nat.le_trans hBw b5.size) hBl d4 rfl f5 f8 (by decide)) ?_
 rintro _ W3 ⟨u3,p3,c3,rfl,j6,i1,f0,i3⟩
 have h0:World.ownsRow _ _ _ _ (.slice p3 4 c3) 4 ([1,s.tx,s.time,s.unit].flatMap Tu):=i3
 replace f0:Blk _ _ [.slice p3 4 c3] _:=f0
 have a2:=b5.trans j6
 have d7:=d4.only i1 (by decide)
 refine xc 8 (args:=#[.pointer (some ⟨bs,3,none⟩),V0 0,V0 65536,P0 bl]) (Vi B Bx bs bl 3 4 _ s.data _ _ p3 c3 [1,s.tx,s.time,s.unit] _ hBm (Nat.le_trans hBx a2.size) (Nat.le_trans hBw a2.size) hBl d7 rfl f0 h0 (by decide)) ?_
 rintro _ W4 ⟨u4,p4,c4,rfl,j4,h6,h3,j7⟩
 have g0:World.ownsRow _ _ _ _ (.slice p4 5 c4) 5 ([1,s.tx,s.time,s.unit,s.data].flatMap Tu):=j7
 replace h3:Blk _ _ [.slice p4 5 c4] _:=h3
 have a5:=a2.trans j4
 have d9:=d7.only h6 (by decide)
 refine xc 8 (args:=#[.pointer (some ⟨bs,4,none⟩),V0 2,V0 14400,P0 bl]) (Vi B Bx bs bl 4 5 _ s.blocks _ _ p4 c4 [1,s.tx,s.time,s.unit,s.data] _ hBm (Nat.le_trans hBx a5.size) (Nat.le_trans hBw a5.size) hBl d9 rfl h3 g0 (by decide)) ?_
 rintro _ W5 ⟨u5,p5,c5,rfl,j5,h7,g2,j0⟩
 have g8:World.ownsRow _ _ _ _ (.slice p5 6 c5) 6 ([1,s.tx,s.time,s.unit,s.data,s.blocks].flatMap Tu):=j0
 replace g2:Blk _ _ [.slice p5 6 c5] _:=g2
 refine xd 3 .z ?_
 refine xbs (.o [0,1,2,3,4,5,6,7,8,9,10,11,12,13,14,15,16,17,20] 18) 6 [.pointer (some ⟨bs,5,none⟩),.pointer (some ⟨bs,6,none⟩),.pointer (some ⟨bs,7,none⟩),.pointer (some ⟨bs,8,none⟩),.pointer (some ⟨bs,9,none⟩),.pointer (some ⟨bs,10,none⟩)] 168 fun b6 W6 n6=>?_
 have e4:=blB (a5.trans j5) hBw (Za W5)
 have g6:=n6.ge0 e4
 refine xu (.r [19] 3) 7 ?_
 refine xb 14 0 n6.blk ?_
 have b0:=((d9.only h7 (by decide)).below (Za W5)).below n6.below
 refine xb 9 4 b0 ?_
 refine xw 0 (s.blocks-1) ?_
 have a6:=blB e4 hBw n6.below
 have d6:=(g2.below (Za W5)).below n6.below
 have a9:=Zb (Zb g8 (Za W5)) n6.below
 refine xc 0 (args:=#[.pointer (some ⟨bs,5,none⟩),V0 1,V0 (s.blocks-1),P0 bl]) (Vi B Bx bs bl 5 6 _ s.top _ _ p5 c5 [1,s.tx,s.time,s.unit,s.data,s.blocks] _ hBm (Nat.le_trans hBx a6.size) (Nat.le_trans hBw a6.size) hBl b0 rfl d6 a9 (by decide)) ?_
 rintro _ W7 ⟨u7,p6,c6,rfl,i5,f4,f2,i4⟩
 have h1:World.ownsRow _ _ _ _ (.slice p6 7 c6) 7 ([1,s.tx,s.time,s.unit,s.data,s.blocks,s.top].flatMap Tu):=i4
 replace f2:Blk _ _ [.slice p6 7 c6] _:=f2
 have e3:=n6.blk.only f4 (by decide)
 refine xb 22 1 e3 ?_
 have a4:=b0.only f4 (by decide)
 refine xb 9 4 a4 ?_
 refine xw 0 (s.blocks-1) ?_
 have a7:=a6.trans i5
 refine xc 0 (args:=#[.pointer (some ⟨bs,6,none⟩),V0 1,V0 (s.blocks-1),P0 bl]) (Vi B Bx bs bl 6 7 _ s.details _ _ p6 c6 [1,s.tx,s.time,s.unit,s.data,s.blocks,s.top] _ hBm (Nat.le_trans hBx a7.size) (Nat.le_trans hBw a7.size) hBl a4 rfl f2 h1 (by decide)) ?_
 rintro _ W8 ⟨u8,p7,c7,rfl,j1,e5,h2,j3⟩
 have e7:World.ownsRow _ _ _ _ (.slice p7 8 c7) 8 ([1,s.tx,s.time,s.unit,s.data,s.blocks,s.top,s.details].flatMap Tu):=j3
 replace h2:Blk _ _ [.slice p7 8 c7] _:=h2
 have e2:=e3.only e5 (by decide)
 refine xb 22 2 e2 ?_
 have b7:=a4.only e5 (by decide)
 refine xb 9 4 b7 ?_
 refine xw 0 (s.blocks-1) ?_
 have d0:=a7.trans j1
 refine xc 0 (args:=#[.pointer (some ⟨bs,7,none⟩),V0 1,V0 (s.blocks-1),P0 bl]) (Vi B Bx bs bl 7 8 _ s.dslots _ _ p7 c7 [1,s.tx,s.time,s.unit,s.data,s.blocks,s.top,s.details] _ hBm (Nat.le_trans hBx d0.size) (Nat.le_trans hBw d0.size) hBl b7 rfl h2 e7 (by decide)) ?_
 rintro _ W9 ⟨u9,p8,c8,rfl,j8,g1,e8,j2⟩
 have e6:World.ownsRow _ _ _ _ (.slice p8 9 c8) 9 ([1,s.tx,s.time,s.unit,s.data,s.blocks,s.top,s.details,s.dslots].flatMap Tu):=j2
 replace e8:Blk _ _ [.slice p8 9 c8] _:=e8
 have e0:=e2.only g1 (by decide)
 refine xb 22 3 e0 ?_
 have b4:=b7.only g1 (by decide)
 refine xb 9 4 b4 ?_
 refine xw 0 (s.blocks-1) ?_
 have b8:=d0.trans j8
 refine xc 0 (args:=#[.pointer (some ⟨bs,8,none⟩),V0 1,V0 (s.blocks-1),P0 bl]) (Vi B Bx bs bl 8 9 _ s.dover _ _ p8 c8 [1,s.tx,s.time,s.unit,s.data,s.blocks,s.top,s.details,s.dslots] _ hBm (Nat.le_trans hBx b8.size) (Nat.le_trans hBw b8.size) hBl b4 rfl e8 e6 (by decide)) ?_
 rintro _ j9 ⟨k4,p9,c9,rfl,f9,a3,b1,i7⟩
 have e9:World.ownsRow _ _ _ _ (.slice p9 10 c9) 10 ([1,s.tx,s.time,s.unit,s.data,s.blocks,s.top,s.details,s.dslots,s.dover].flatMap Tu):=i7
 replace b1:Blk _ _ [.slice p9 10 c9] _:=b1
 have d5:=e0.only a3 (by decide)
 refine xb 22 4 d5 ?_
 have d1:=b4.only a3 (by decide)
 refine xb 9 4 d1 ?_
 refine xw 0 (s.blocks-1) ?_
 have a8:=b8.trans f9
 refine xc 0 (args:=#[.pointer (some ⟨bs,9,none⟩),V0 1,V0 (s.blocks-1),P0 bl]) (Vi B Bx bs bl 9 10 _ s.mindex _ _ p9 c9 [1,s.tx,s.time,s.unit,s.data,s.blocks,s.top,s.details,s.dslots,s.dover] _ hBm (Nat.le_trans hBx a8.size) (Nat.le_trans hBw a8.size) hBl d1 rfl b1 e9 (by decide)) ?_
 rintro _ k1 ⟨k2,f7,f1,rfl,g9,b3,b2,f6⟩
 have e1:World.ownsRow _ _ _ _ (.slice f7 11 f1) 11 ([1,s.tx,s.time,s.unit,s.data,s.blocks,s.top,s.details,s.dslots,s.dover,s.mindex].flatMap Tu):=f6
 replace b2:Blk _ _ [.slice f7 11 f1] _:=b2
 have f3:=d5.only b3 (by decide)
 refine xb 22 5 f3 ?_
 have a1:=d1.only b3 (by decide)
 refine xb 9 4 a1 ?_
 refine xw 0 (s.blocks-1) ?_
 have a0:=a8.trans g9
 refine xc 0 (args:=#[.pointer (some ⟨bs,10,none⟩),V0 1,V0 (s.blocks-1),P0 bl]) (Vi B Bx bs bl 10 11 _ s.mover _ _ f7 f1 [1,s.tx,s.time,s.unit,s.data,s.blocks,s.top,s.details,s.dslots,s.dover,s.mindex] _ hBm (Nat.le_trans hBx a0.size) (Nat.le_trans hBw a0.size) hBl a1 rfl b2 e1 (by decide)) ?_
 rintro _ k0 ⟨k3,i2,h8,rfl,g3,g7,b9,h5⟩
 have d2:World.ownsRow _ _ _ _ (.slice i2 12 h8) 12 ([1,s.tx,s.time,s.unit,s.data,s.blocks,s.top,s.details,s.dslots,s.dover,s.mindex,s.mover].flatMap Tu):=h5
 replace b9:Blk _ _ [.slice i2 12 h8] _:=b9
 have d8:=a0.trans g3
 have hO:=((((((((((((show Zd [236,235] w _ from h9).trans i0).trans i1).trans h6).trans h7).trans (Zd.of_below (Za W5))).trans (Zd.of_below n6.below)).trans f4).trans e5).trans g1).trans a3).trans b3).trans g7
 exact xe 19 (.tuple #[]) ⟨_,_,_,rfl,d8,hO,b9,d2⟩
def mapM1(data:Int)(x:Ent):List Mp:=if mapE data x.2.1=0 then [mapX x] else []
def mapM(data:Int)(es:List Ent):List Mp:=es.flatMap (mapM1 data)
theorem Ou:∀ {P Q:List Int},P.Pairwise (·<·)→Q.Pairwise (·<·)→(∀ z,z∈P↔z∈Q)→P=Q
  | [],[],_,_,_=>rfl
  | [],b::Q,_,_,h=>absurd ((h b).2 List.mem_cons_self) (by simp)
  | a::P,[],_,_,h=>absurd ((h a).1 List.mem_cons_self) (by simp)
  | a::P,b::Q,hp,hq,h=>by
    rw[List.pairwise_cons] at hp hq
    have e:a=b:=by
      rcases List.mem_cons.1 ((h a).1 List.mem_cons_self) with e|m
      · exact e
      · rcases List.mem_cons.1 ((h b).2 List.mem_cons_self) with e|m2
        · exact e.symm
        · have:=hq.1 a m;have:=hp.1 b m2;omega
    subst e
    congr 1
    refine Ou hp.2 hq.2 fun z=>?_
    constructor
    · intro m
      have:=hp.1 z m
      rcases List.mem_cons.1 ((h z).1 (List.mem_cons_of_mem _ m)) with e|m2
      · omega
      · exact m2
    · intro m
      have:=hq.1 z m
      rcases List.mem_cons.1 ((h z).2 (List.mem_cons_of_mem _ m)) with e|m2
      · omega
      · exact m2
end Go.Proofs.YtceeiinepijokaaGreat
namespace Go.Proofs.YtceeiinepijokaaGreat
set_option maxHeartbeats 8000000
set_option maxRecDepth 100000
set_option linter.unusedVariables false
abbrev Lj:=Int×Int×Int
inductive Lead (l:List Lj) (fr:Int):Int→Prop
 | one (x:Lj) (h:x∈l) (hf:x.1=fr):Lead l fr x.2.1
 | more (a:Int) (ha:Lead l fr a) (x:Lj) (h:x∈l) (hf:x.1=a):Lead l fr x.2.1
def Kz(P:Int→Prop)(R:List Int):Prop:=R.Pairwise (·<·)∧∀ z,z∈R↔P z
theorem Kz.eq{P:Int→Prop}{R S:List Int}(h:Kz P R)(k:Kz P S):R=S:=Ou h.1 k.1 fun z=>(h.2 z).trans (k.2 z).symm
def unB (l:List Lj)(out:List Int):Nat:=(l.filter fun x=>decide (x.2.1∉out)).length
theorem unB_le(l:List Lj)(out:List Int):unB l out≤l.length:=List.length_filter_le _ _
theorem unB_le2(l:List Lj){A B:List Int}(h:∀ z∈A,z∈B):unB l B≤unB l A:=by
 unfold unB
 induction l with
 | nil=>exact Nat.le_refl _
 | cons x l ih =>
  by_cases h1:x.2.1∈B
  ·rw[List.filter_cons_of_neg (by simpa using h1)]
   by_cases h2:x.2.1∈A
   ·rw[List.filter_cons_of_neg (by simpa using h2)];exact ih
   ·rw[List.filter_cons_of_pos (by simpa using h2),List.length_cons];omega
  ·rw[List.filter_cons_of_pos (by simpa using h1),List.filter_cons_of_pos (by simpa using fun q=>h1 (h _ q)),List.length_cons,List.length_cons];omega
theorem unB_lt{l:List Lj}{A B:List Int}{x:Lj}(hx:x∈l)(h:∀ z∈A,z∈B)(h1:x.2.1∉A)(h2:x.2.1∈B):unB l B+1≤unB l A:=by
 obtain⟨s,t,rfl⟩:=List.append_of_mem hx
 have a:=unB_le2 s h
 have b:=unB_le2 t h
 unfold unB at a b ⊢
 rw[List.filter_append,List.filter_append,List.length_append,List.length_append,List.filter_cons_of_neg (by simpa using h2),List.filter_cons_of_pos (by simpa using h1),List.length_cons]
 omega
structure BelI(l:List Lj)(fr:Int)(out ts:List Int):Prop where
 leads:∀ k∈out,Lead l fr k
 waits:∀ k∈ts,k=fr∨k∈out
 closed:∀ x∈l,x.1=fr∨x.1∈out→x.1∉ts→x.2.1∈out
 few:out.length+unB l out≤l.length
 wt:ts.length≤1+out.length
theorem BelI.start(l:List Lj)(fr:Int):BelI l fr [] [fr]:=by
 refine⟨fun _ h=>(by cases h),fun k h=>.inl (by simpa using h),fun x _ h hn=>?_,by have:=unB_le l [];simpa using this,by simp⟩
 rcases h with h|h
 ·exact absurd (by rw[h];simp) hn
 ·cases h
theorem BelI.done{l:List Lj}{fr:Int}{out:List Int}(h:BelI l fr out []):∀ k,k∈out↔Lead l fr k:=fun k=>⟨h.leads k,fun q=>by
 induction q with
 | one x hx hf=>exact h.closed x hx (.inl hf) (by simp)
 | more a ha x hx hf ih=>exact h.closed x hx (.inr (hf▸ih)) (by simp)⟩
structure BelJ(l:List Lj)(fr no:Int)(i:Nat)(out ts:List Int):Prop where
 leads:∀ k∈out,Lead l fr k
 waits:∀ k∈ts,k=fr∨k∈out
 no_:no=fr∨no∈out
 closed:∀ x∈l,x.1=fr∨x.1∈out→x.1∉ts→x.1≠no→x.2.1∈out
 here:∀ x∈l.take i,x.1=no→x.2.1∈out
 few:out.length+unB l out≤l.length
theorem BelI.go{l:List Lj}{fr no:Int}{out ts:List Int}(h:BelI l fr out (no::ts)):BelJ l fr no 0 out ts:=by
 refine⟨h.leads,fun k hk=>h.waits k (List.mem_cons_of_mem _ hk),h.waits no List.mem_cons_self,fun x hx h1 h2 h3=>h.closed x hx h1 (fun q=>?_),fun x hx=>by simp at hx,h.few⟩
 rcases List.mem_cons.1 q with q|q
 ·exact h3 q
 ·exact h2 q
def ljD:Lj:=(0,0,0)
theorem Br{l:List Lj}{i:Nat}(hi:i<l.length):l.getD i ljD=l[i]:=by simp[List.getD,hi]
theorem Zc8{l:List Lj}{i:Nat}(hi:i<l.length):l.getD i ljD∈l:=by rw[Br hi];exact List.getElem_mem hi
theorem BelJ.skip{l:List Lj}{fr no:Int}{i:Nat}{out ts:List Int}(h:BelJ l fr no i out ts)(hi:i<l.length)(hs:(l.getD i ljD).1≠no∨(l.getD i ljD).2.1∈out):BelJ l fr no (i+1) out ts:=by
 refine⟨h.leads,h.waits,h.no_,h.closed,fun x hx hn=>?_,h.few⟩
 rw[List.take_succ_eq_append_getElem hi,List.mem_append,List.mem_singleton] at hx
 rcases hx with hx|rfl
 ·exact h.here x hx hn
 ·rw[Br hi] at hs
  rcases hs with hs|hs
  ·exact absurd hn hs
  ·exact hs
theorem BelJ.add{l:List Lj}{fr no:Int}{i:Nat}{out ts:List Int}(h:BelJ l fr no i out ts)(hi:i<l.length)(hn:(l.getD i ljD).1=no)(ht:(l.getD i ljD).2.1∉out):BelJ l fr no (i+1) (out++[(l.getD i ljD).2.1]) (ts++[(l.getD i ljD).2.1]):=by
 have hm:=Zc8 hi
 have hl:Lead l fr (l.getD i ljD).2.1:=by
  rcases h.no_ with q|q
  ·exact .one _ hm (hn.trans q)
  ·exact .more no (h.leads no q) _ hm hn
 refine⟨fun k hk=>?_,fun k hk=>?_,?_,fun x hx h1 h2 h3=>?_,fun x hx a2=>?_,?_⟩
 ·rcases List.mem_append.1 hk with q|q
  ·exact h.leads k q
  ·obtain rfl:=List.mem_singleton.1 q;exact hl
 ·rcases List.mem_append.1 hk with q|q
  ·exact(h.waits k q).imp id (fun r=>List.mem_append_left _ r)
  ·exact .inr (List.mem_append_right _ q)
 ·exact h.no_.imp id (fun r=>List.mem_append_left _ r)
 ·have a0:x.1∉ts:=fun q=>h2 (List.mem_append_left _ q)
  have a1:x.1≠(l.getD i ljD).2.1:=fun q=>h2 (List.mem_append_right _ (by rw[q];simp))
  refine List.mem_append_left _ (h.closed x hx ?_ a0 h3)
  rcases h1 with q|q
  ·exact .inl q
  ·rcases List.mem_append.1 q with q|q
   ·exact .inr q
   ·exact absurd (List.mem_singleton.1 q) a1
 ·rw[List.take_succ_eq_append_getElem hi,List.mem_append,List.mem_singleton] at hx
  rcases hx with hx|rfl
  ·exact List.mem_append_left _ (h.here x hx a2)
  ·exact List.mem_append_right _ (by rw[Br hi];simp)
 ·have:=unB_lt (A:=out) (B:=out++[(l.getD i ljD).2.1]) hm (fun z hz=>List.mem_append_left _ hz) ht (List.mem_append_right _ (by simp))
  have:=h.few
  rw[List.length_append,List.length_singleton];omega
theorem BelJ.end_{l:List Lj}{fr no:Int}{out ts:List Int}(h:BelJ l fr no l.length out ts)(hw:ts.length≤1+out.length):BelI l fr out ts:=by
 refine⟨h.leads,h.waits,fun x hx h1 h2=>?_,h.few,hw⟩
 by_cases h3:x.1=no
 ·exact h.here x (by rw[List.take_length];exact hx) h3
 ·exact h.closed x hx h1 h2 h3
structure FixI(l:List Lj)(fr:Int)(out:List Int):Prop where
  rise:out.Pairwise (·<·)
  leads:∀ k∈out,Lead l fr k
  few:out.length+unB l out≤l.length
theorem FixI.start(l:List Lj)(fr:Int):FixI l fr []:=⟨.nil,fun _ h=>(by cases h),by have:=unB_le l [];simpa using this⟩
def Jb(l:List Lj)(fr:Int)(i:Nat)(out:List Int):Prop:=∀ x∈l.take i,x.1=fr∨x.1∈out→x.2.1∈out
theorem Jb.zero(l:List Lj)(fr:Int)(out:List Int):Jb l fr 0 out:=fun x hx=>by simp at hx
theorem Jb.next{l:List Lj}{fr:Int}{i:Nat}{out:List Int}(h:Jb l fr i out)(hi:i<l.length)(hs:((l.getD i ljD).1≠fr∧(l.getD i ljD).1∉out)∨(l.getD i ljD).2.1∈out):Jb l fr (i+1) out:=fun x hx hn=>by
 rw[List.take_succ_eq_append_getElem hi,List.mem_append,List.mem_singleton] at hx
 rcases hx with hx|rfl
 ·exact h x hx hn
 ·rw[Br hi] at hs
  rcases hs with hs|hs
  ·rcases hn with hn|hn
   ·exact absurd hn hs.1
   ·exact absurd hn hs.2
  ·exact hs
theorem FixI.done{l:List Lj}{fr:Int}{out:List Int}(h:FixI l fr out)(hc:Jb l fr l.length out):Kz (Lead l fr) out:=⟨h.rise,fun k=>⟨h.leads k,fun q=>by
 have hc:∀ x∈l,x.1=fr∨x.1∈out→x.2.1∈out:=fun x hx=>hc x (by rw[List.take_length];exact hx)
 induction q with
 | one x hx hf=>exact hc x hx (.inl hf)
 | more a ha x hx hf ih=>exact hc x hx (.inr (hf▸ih))⟩⟩
def Sa(l:List Int)(n:Int):List Int:=l.filter (·<n)++n::l.filter (n<·)
theorem Dm{l:List Int}{n:Int}(z:Int)(h:n∉l):z∈Sa l n↔z∈l∨z=n:=by
 unfold Sa
 simp only[List.mem_append,List.mem_filter,List.mem_cons,decide_eq_true_eq]
 constructor
 ·rintro(⟨q,_⟩|q|⟨q,_⟩)
  ·exact .inl q
  ·exact .inr q
  ·exact .inl q
 ·rintro(q|q)
  ·rcases Int.lt_trichotomy z n with r|r|r
   ·exact .inl ⟨q,r⟩
   ·subst r;exact absurd q h
   ·exact .inr (.inr ⟨q,r⟩)
  ·exact .inr (.inl q)
theorem Za5{l:List Int}{n:Int}(h:l.Pairwise (·<·)):(Sa l n).Pairwise (·<·):=by
  unfold Sa
  rw[List.pairwise_append,List.pairwise_cons]
  refine⟨h.filter _,⟨fun y hy=>by simpa using (List.mem_filter.1 hy).2,h.filter _⟩,fun x hx y hy=>?_⟩
  have h1:x<n:=by simpa using (List.mem_filter.1 hx).2
  rcases List.mem_cons.1 hy with rfl|hy
  · exact h1
  · have h2:n<y:=by simpa using (List.mem_filter.1 hy).2
    omega
theorem putS_of{l A B:List Int}{n:Int}(h:l.Pairwise (·<·))(hl:l=A++B)(ha:∀ x∈A,x<n)(hb:∀ x∈B,n<x):Sa l n=A++n::B:=by
  subst hl
  unfold Sa
  rw[List.filter_append,List.filter_append,List.filter_eq_self.2 (fun x hx=>by simpa using ha x hx),List.filter_eq_nil_iff.2 (fun x hx=>by have:=hb x hx;simp;omega),List.filter_eq_nil_iff.2 (fun x hx=>by have:=ha x hx;simp;omega),List.filter_eq_self.2 (fun x hx=>by simpa using hb x hx)]
  simp
theorem Pn{l:List Int}{n:Int}(h:l.Pairwise (·<·))(hn:n∉l):(Sa l n).length=l.length+1:=by
  have a0:∀ l:List Int,n∉l→(l.filter (·<n)).length+(l.filter (n<·)).length=l.length:=by
    intro l
    induction l with
    | nil=>intro _;rfl
    | cons x l ih =>
      intro hn
      have hx:x≠n:=fun e=>hn (by rw[e];simp)
      have:=ih (fun q=>hn (List.mem_cons_of_mem _ q))
      rcases Int.lt_or_gt_of_ne hx with h1|h1
      · rw[List.filter_cons_of_pos (by simpa using h1),List.filter_cons_of_neg (by simp;omega),List.length_cons,List.length_cons];omega
      · rw[List.filter_cons_of_neg (by simp;omega),List.filter_cons_of_pos (by simpa using h1),List.length_cons,List.length_cons];omega
  have:=a0 l hn
  unfold Sa
  rw[List.length_append,List.length_cons];omega
theorem FixI.put{l:List Lj}{fr:Int}{out:List Int}{i:Nat}(h:FixI l fr out)(hi:i<l.length)(hf:(l.getD i ljD).1=fr∨(l.getD i ljD).1∈out)(ht:(l.getD i ljD).2.1∉out):FixI l fr (Sa out (l.getD i ljD).2.1)∧unB l (Sa out (l.getD i ljD).2.1)+1≤unB l out:=by
 have hm:=Zc8 hi
 have hu:=unB_lt (A:=out) (B:=Sa out (l.getD i ljD).2.1) hm (fun z hz=>(Dm z ht).2 (.inl hz)) ht ((Dm _ ht).2 (.inr rfl))
 refine⟨⟨Za5 h.rise,fun k hk=>?_,?_⟩,hu⟩
 ·rcases(Dm k ht).1 hk with q|rfl
  ·exact h.leads k q
  ·rcases hf with q|q
   ·exact .one _ hm q
   ·exact .more _ (h.leads _ q) _ hm rfl
 ·have:=h.few
  rw[Pn h.rise ht];omega
def Dg(l:List Lj)(to:Int)(z:Int):Prop:=∃ x∈l,x.2.1=to∧x.1=z
theorem Ti(l:List Lj)(to z:Int):¬ Dg (l.take 0) to z:=fun⟨x,hx,_⟩=>by simp at hx
theorem Ev{l:List Lj}{to:Int}{i:Nat}(hi:i<l.length)(h:(l.getD i ljD).2.1=to)(z:Int):Dg (l.take (i+1)) to z↔Dg (l.take i) to z∨z=(l.getD i ljD).1:=by
 unfold Dg
 rw[List.take_succ_eq_append_getElem hi,←Br hi]
 constructor
 ·rintro⟨x,hx,h1,h2⟩
  rcases List.mem_append.1 hx with q|q
  ·exact .inl ⟨x,q,h1,h2⟩
  ·obtain rfl:=List.mem_singleton.1 q;exact .inr h2.symm
 ·rintro(⟨x,hx,h1,h2⟩|q)
  ·exact⟨x,List.mem_append_left _ hx,h1,h2⟩
  ·exact⟨_,List.mem_append_right _ (by simp),h,q.symm⟩
theorem Zfo{l:List Lj}{to:Int}{i:Nat}(hi:i<l.length)(h:(l.getD i ljD).2.1≠to)(z:Int):Dg (l.take (i+1)) to z↔Dg (l.take i) to z:=by
 unfold Dg
 rw[List.take_succ_eq_append_getElem hi,←Br hi]
 constructor
 ·rintro⟨x,hx,h1,h2⟩
  rcases List.mem_append.1 hx with q|q
  ·exact⟨x,q,h1,h2⟩
  ·obtain rfl:=List.mem_singleton.1 q;exact absurd h1 h
 ·rintro⟨x,hx,h1,h2⟩
  exact⟨x,List.mem_append_left _ hx,h1,h2⟩
end Go.Proofs.YtceeiinepijokaaGreat
namespace Go.Proofs.YtceeiinepijokaaGreat
set_option maxHeartbeats 8000000
set_option maxRecDepth 100000
open Go.RowKit
set_option linter.unusedVariables false
section
variable {P:Program} {a:Act}
theorem str_ext(l:Bl)(b c:Nat):(ByteArray.mk l.toArray).extract b c=ByteArray.mk ((l.drop b).take (c-b)).toArray:=ByteArray.extract_mk l b c
theorem run_strH{o:Oper}{t:TypeId}{x y:Operand}{l:Bl}{k:Nat}{j:Int}{kj:IntKind}(ho:o.op=.slice t x none (some y) none)(hx:a.eval x=.string ⟨l.toArray⟩)(hy:a.eval y=.int kj j)(hj:j=(k:Int))(hk:k≤l.length)
 (ht:P.underlying t=some .string) (w:World):(execOp a.eval o).run P w=.ok (.value (.string ⟨(l.take k).toArray⟩)) w:=by
 subst hj
 have hs:((k:Int))≤((⟨l.toArray⟩:ByteArray).size:Int):=by simp[ByteArray.size];omega
 have h:=run_slice_string_h (P:=P) (w:=w) (t:=t) (s:=⟨l.toArray⟩) ht kj (k:Int) (by omega) hs
 rw[str_ext,List.drop_zero,Int.toNat_natCast,Nat.sub_zero] at h
 simp only[execOp,ho,hx,Option.map_some,Option.map_none,hy]
 simp[run_sliceAt_string,ht,h]
theorem run_strL{o:Oper}{t:TypeId}{x y:Operand}{l:Bl}{k:Nat}{j:Int}{kj:IntKind}(ho:o.op=.slice t x (some y) none none)(hx:a.eval x=.string ⟨l.toArray⟩)(hy:a.eval y=.int kj j)(hj:j=(k:Int))(hk:k≤l.length)
 (ht:P.underlying t=some .string) (w:World):(execOp a.eval o).run P w=.ok (.value (.string ⟨(l.drop k).toArray⟩)) w:=by
 subst hj
 have hs:((k:Int))≤((⟨l.toArray⟩:ByteArray).size:Int):=by simp[ByteArray.size];omega
 have h:=run_slice_string_l (P:=P) (w:=w) (t:=t) (s:=⟨l.toArray⟩) ht kj (k:Int) (by omega) hs
 rw[str_ext,Int.toNat_natCast,show(⟨l.toArray⟩:ByteArray).size=l.length by simp[ByteArray.size],List.take_of_length_le (by simp)] at h
 simp only[execOp,ho,hx,Option.map_some,Option.map_none,hy]
 simp[run_sliceAt_string,ht,h]
end
end Go.Proofs.YtceeiinepijokaaGreat
namespace Go.Proofs.YtceeiinepijokaaGreat
set_option maxHeartbeats 8000000
set_option maxRecDepth 100000
open Go.RowKit Go.Extern.Stop Go.Stop Go.Extern
set_option linter.unusedVariables false
attribute [local irreducible] wpList wpAnyH Code.wp Oper.wp Go
def Xs:List Pc:=[(8,1,14399),(4,0,960),(4,0,960)]
theorem slotP_ok:Jt Xs:=by
 refine⟨by decide,fun i hi=>?_⟩
 have a0:i<3:=hi
 obtain rfl|rfl|rfl:i=0∨i=1∨i=2:=by omega
 all_goals simp[Xs,List.getD]
def Hc(l:Bl)(i:Nat):Bl:=(l.drop (4+i*16)).take 16
def He(l:Bl)(i k:Nat):Nat:=(Qf Xs (Hc l i)).getD k 0
def sltC(x:Nat×Nat×Nat):List Value:=[V0 (x.1:Int),V0 (x.2.1:Int),V0 (x.2.2:Int)]
theorem Zfl(x:Nat×Nat×Nat):(sltC x).length=3:=rfl
def sltX(l:Bl)(i:Nat):Nat×Nat×Nat:=(He l i 0,He l i 1,He l i 2)
def Bj(l:Bl)(n:Nat):List (Nat×Nat×Nat):=(List.range n).map (sltX l)
theorem Zfy(l:Bl)(n:Nat):Bj l (n+1)=Bj l n++[sltX l n]:=by simp[Bj,List.range_succ]
theorem Zbx(l:Bl)(n:Nat):(Bj l n).length=n:=by simp[Bj]
def Pv(l:Bl):Nat→Int
 | 0=>0
 | i+1=>if Pv l i≠0 then Pv l i else Qi Xs (Hc l i)
theorem Tc{l:Bl}{i:Nat}(h:Pv l i≠0):∀ n,i≤n→Pv l n=Pv l i
 | 0,h2=>by
  obtain rfl:i=0:=by omega
  rfl
 | n+1,h2=>by
   by_cases e:i=n+1
   ·rw[e]
   ·have ih:=Tc h n (by omega)
    rw[Pv,if_pos (by rw[ih];exact h),ih]
theorem sltsE_at{l:Bl}{i n:Nat}(h:Pv l i=0)(he:Qi Xs (Hc l i)≠0)(hi:i<n):Pv l n=Qi Xs (Hc l i):=by
 have e:Pv l (i+1)=Qi Xs (Hc l i):=by rw[Pv,if_neg (by rw[h];decide)]
 rw[Tc (by rw[e];exact he) n hi,e]
theorem Te{l:Bl}{i:Nat}(h:Pv l i=0)(he:Qi Xs (Hc l i)=0):Pv l (i+1)=0:=by rw[Pv,if_neg (by rw[h];decide),he]
theorem slotS_len{l:Bl}{i:Nat}(hl:l.length=244)(hi:i<15):(Hc l i).length=16:=by simp[Hc];omega
def As(l:Bl):Bool:=decide (Zh l 0 4≤15)&&Qm (l.drop (4+Zh l 0 4*16))
def Oj(l:Bl):Int:=if As l then Pv l (Zh l 0 4) else 7
def SlotsP(l:Bl)(w:World)(e:Ending)(w':World):Prop :=
 (Oj l≠0∧e=.returned (.tuple #[S0,V0 (Oj l)])∧B3 w w') ∨
 (Oj l=0∧∃ p c,e=.returned (.tuple #[.slice p (Zh l 0 4) c,V0 0])∧B3 w w'∧w'.ownsRow w.heap.size 217 3 (.slice p (Zh l 0 4) c) (Zh l 0 4) ((Bj l (Zh l 0 4)).flatMap sltC))
theorem Zda(w:World) :
 C0 188 #[] w (Yy (fun w' r=>∃ b,r=.slice (S1 b) 3 3∧w.heap.size≤b∧Blk w' b [V0 8,V0 1,V0 14399,V0 4,V0 0,V0 960,V0 4,V0 0,V0 960] 268) w):=by
 refine zin 5 Tryz.func188 ?_
 refine xbs 10 3 [V0 8,V0 1,V0 14399,V0 4,V0 0,V0 960,V0 4,V0 0,V0 960] 268 fun b1 W1 n1=>?_
 have g1:=n1.ge (B4 w)
 exact xe 4 (.slice (S1 b1) 3 3) ⟨_,rfl,n1.below,_,rfl,g1,n1.blk⟩
theorem Nc(s:Bl)(w:World)(hs:s.length≤1000) :
 C0 220 #[.string ⟨s.toArray⟩] w (Ret (.tuple #[.agg #[V0 (↑((Qf Xs s).getD 0 0):Int),V0 (↑((Qf Xs s).getD 1 0):Int),V0 (↑((Qf Xs s).getD 2 0):Int)],V0 (Qi Xs s)]) w):=by
 refine zin 23 Tryz.func220 ?_
 refine xa 2 [V0 0,V0 0,V0 0] 217 fun b1 W1 n1=>?_
 refine xc 5 (args:=#[]) (Zda _) ?_
 rintro _ W2 ⟨_,rfl,a1,gl,rfl,gg,kl⟩
 refine xc 1 (args:=#[.slice (S1 gl) 3 3,.string ⟨s.toArray⟩]) (Zb8 Xs s (S1 gl) 3 _ slotP_ok (by decide) (by omega) (kl.sl 3 3 (by decide) (by decide))) ?_
 rintro _ W3 ⟨_,rfl,a2,p5,c5,rfl,h5⟩
 have a3:=(bln n1.below a1).size
 refine xd 8 (.t w.heap.size [217]) ?_
 have a0:=Zb (Zf h5 a3) (Za W3)
 refine xx (.e [0] 1) _ 3 0 1 (Zj (l:=Qf Xs s) (Ze a0) (Gc _ _) (k:=0) (by decide)).1 ?_
 refine xlt (.e [] 2) (.t w.heap.size [217]) (fun V hV=>(Zj (l:=Qf Xs s) (Ze (Zi a0 hV.2 (by decide))) (Gc _ _) (k:=0) (by decide)).2) ?_
 refine xx (.e [3] 4) _ 3 1 1 (Zj (l:=Qf Xs s) (Ze a0) (Gc _ _) (k:=1) (by decide)).1 ?_
 refine xlt (.e [] 5) (.t w.heap.size [217]) (fun V hV=>(Zj (l:=Qf Xs s) (Ze (Zi a0 hV.2 (by decide))) (Gc _ _) (k:=1) (by decide)).2) ?_
 refine xx (.e [6] 7) _ 3 2 1 (Zj (l:=Qf Xs s) (Ze a0) (Gc _ _) (k:=2) (by decide)).1 ?_
 refine xlt (.e [] 8) (.t w.heap.size [217]) (fun V hV=>(Zj (l:=Qf Xs s) (Ze (Zi a0 hV.2 (by decide))) (Gc _ _) (k:=2) (by decide)).2) ?_
 have k1:=((n1.blk.below a1).below a2).below (Za W3)
 have g1:=n1.ge (B4 w)
 refine ysv (.o [9,10] 11) k1 [V0 (↑((Qf Xs s).getD 0 0):Int),V0 (↑((Qf Xs s).getD 1 0):Int),V0 (↑((Qf Xs s).getD 2 0):Int)] (.t w.heap.size [217]) fun W4 u4 k4=>⟨(Zt u4 k1 g1 (by decide)),?_⟩
 have hB:=u4.below (bln (bln (bln n1.below a1) a2) (Za W3)) g1
 exact xec (.r [12] 3) k4 (.tuple #[.agg #[V0 (↑((Qf Xs s).getD 0 0):Int),V0 (↑((Qf Xs s).getD 1 0):Int),V0 (↑((Qf Xs s).getD 2 0):Int)],V0 (Qi Xs s)]) ⟨rfl,hB⟩
theorem Zg0(B bt:Nat)(x:Bl)(w:World)(hBw:B≤w.heap.size)(hBt:B≤bt)(kt:Blk w bt [.string ⟨x.toArray⟩] 9)(hx:16≤x.length) :
 C0 241 #[P0 bt] w ((fun e w'=>e=.returned (.string ⟨(x.take 16).toArray⟩)∧Below B w w'∧Zd [9] w w'∧Blk w' bt [.string ⟨(x.drop 16).toArray⟩] 9)):=by
 refine zin 8 Tryz.func241 ?_
 refine xb 7 0 kt ?_
 refine xsH 0 (fun _ _ _ _ zo zx zy V=>run_strH (k:=16) (j:=16) (kj:=.i64) zo zx zy rfl hx Tryz.underlying9 V) ?_
 refine xb 5 0 kt ?_
 refine xsL 0 (fun _ _ _ _ zo zx zy V=>run_strL (k:=16) (j:=16) (kj:=.i64) zo zx zy rfl hx Tryz.underlying9 V) ?_
 refine xs 0 kt [.string ⟨(x.drop 16).toArray⟩] fun W1 u1 k1=>?_
 have hB:=u1.below (Below.refl B w) hBt
 have hO:=(show Zd [9] w _ from(Zd.of_upd u1 kt (by decide)))
 exact xe 9 (.string ⟨(x.take 16).toArray⟩) ⟨rfl,hB,hO,k1⟩
theorem Ey(l:Bl)(i:Nat)(w:World)(hs:(Hc l i).length≤1000):C0 220 #[.string ⟨(Hc l i).toArray⟩] w (fun e w' =>
 (Qi Xs (Hc l i)=0∧e=.returned (.tuple #[.agg #[V0 (He l i 0:Int),V0 (He l i 1:Int),V0 (He l i 2:Int)],V0 0])∧B3 w w') ∨
 (Qi Xs (Hc l i)≠0∧e=.returned (.tuple #[.agg #[V0 (He l i 0:Int),V0 (He l i 1:Int),V0 (He l i 2:Int)],V0 (Qi Xs (Hc l i))])∧B3 w w')):=by
 refine(Nc (Hc l i) w hs).mono ?_
 rintro e W ⟨rfl,hb⟩
 by_cases h:Qi Xs (Hc l i)=0
 ·exact .inl ⟨h,by rw[h];rfl,hb⟩
 ·exact .inr ⟨h,rfl,hb⟩
theorem bysK{w:World}{a:O0}{c k:Nat}{l:Bl}(h:Bys w (.slice a 244 c) l)(hl:l.length=244)(hk:k≤244):Bys w (.slice (Vp a k c 1) (244-k) (c-k)) (l.drop k):=by
 have:=Bys.cut h hl k 244 hk (by decide)
 rwa [List.take_of_length_le (by simp;omega)] at this
theorem Zhb(a:O0)(c:Nat)(l:Bl)(w:World)(hl:l.length=244)(h:Bys w (.slice a 244 c) l) :
 C0 219 #[.slice a 244 c] w (SlotsP l w):=by
 have e2:=Bys.cap h hl
 refine zin 52 Tryz.func219 ?_
 refine xr 20 (args:=#[.slice a 244 c,V0 0,V0 4]) (Get_okN a 244 c 0 4 0 4 l _ hl rfl rfl (by decide) (by decide) (by decide) (h.below (B4 w))) fun W1 b8=>?_
 refine xg 13 [20,21] (decide ((↑(Zh l 0 4):Int)>(15:Int))) (fun a6=>?_) (fun a6=>?_)
 ·have a6:=of_decide_eq_true a6
  refine xe 19 (.tuple #[S0,V0 7]) ?_
  have he:Oj l=7:=by unfold Oj As;rw[decide_eq_false (by omega),Bool.false_and,if_neg (by decide)]
  exact .inl ⟨by rw[he];decide,by rw[he],b8⟩
 have a6:=of_decide_eq_false a6
 refine xwm 2 ((↑(Zh l 0 4):Int)*16) (↑((Zh l 0 4)*16):Int) ?_
 refine xwm 0 (4+(↑((Zh l 0 4)*16):Int)) (↑(4+((Zh l 0 4)*16)):Int) ?_
 refine xsL 0 (fun _ _ _ _ zo zx zy V=>Yc (k:=(4+((Zh l 0 4)*16))) (b:=a) (n:=244) (c:=c) (i:=(↑(4+((Zh l 0 4)*16)):Int)) (ki:=.i64) 1 zo zx zy rfl (by omega) Tryz.underlying22 (by kernel_rfl) V) ?_
 refine xr 0 (args:=#[.slice (Vp a (4+((Zh l 0 4)*16)) c 1) (244-(4+((Zh l 0 4)*16))) (c-(4+((Zh l 0 4)*16)))]) (Bc (Vp a (4+((Zh l 0 4)*16)) c 1) (244-(4+((Zh l 0 4)*16))) (c-(4+((Zh l 0 4)*16))) (l.drop (4+Zh l 0 4*16)) _ (by simp;omega) (by omega) ((bysK (k:=4+Zh l 0 4*16) h hl (by omega)).below b8)) fun W3 d7=>?_
 refine xi 4 (!(Qm (l.drop (4+Zh l 0 4*16)))) (fun c2=>?_) (fun c2=>?_)
 ·have c1:Qm (l.drop (4+Zh l 0 4*16))=false:=Gs c2
  have c8:=bln b8 d7
  refine xe 8 (.tuple #[S0,V0 7]) ?_
  have he:Oj l=7:=by unfold Oj As;rw[c1,Bool.and_false,if_neg (by decide)]
  exact .inl ⟨by rw[he];decide,by rw[he],c8⟩
 have c1:Qm (l.drop (4+Zh l 0 4*16))=true:=Hx c2
 refine xsL 5 (fun _ _ _ _ zo zx zy V=>Yc (k:=4) (b:=a) (n:=244) (c:=c) (i:=4) (ki:=.i64) 1 zo zx zy rfl (by omega) Tryz.underlying22 (by kernel_rfl) V) ?_
 have a5:=bln b8 d7
 refine xcv0 0 (fun _ _ _ zo zx=>Vm zo zx ((bysK (k:=4) h hl (by decide)).below a5) (by simp;omega) Tryz.underlying22 Tryz.underlying5 Tryz.underlying9) ?_
 refine xa 0 [.string ⟨#[]⟩] 9 fun b5 W5 n5=>?_
 have g5:=n5.ge a5
 refine xs 0 n5.blk [.string ⟨(l.drop 4).toArray⟩] fun W6 u6 k6=>?_
 have e8:Blk _ _ [.string ⟨((l.drop (4+0*16))).toArray⟩] _:=k6
 have c6:=u6.below (bln a5 n5.below) g5
 refine zl 21 52 (fun zm e9 V=>∃ (i:Nat) (q:O0) (d:Nat),e9=[(7,.func (.func 241) #[] #[P0 b5]),(8,.slice q i d),(34,V0 (↑(Zh l 0 4):Int)),(35,V0 (i:Int))]∧zm=(Zh l 0 4)-((i:Int)).toNat∧B3 w V∧Blk V b5 ([.string ⟨(l.drop (4+i*16)).toArray⟩]) 9∧V.ownsRow w.heap.size 217 3 (.slice q i d) i ((Bj l i).flatMap sltC)∧i≤(Zh l 0 4)∧Pv l i=0) ⟨0,_,_,rfl,rfl,c6,e8,World.ownsRow_nil _ _ _ _,Nat.zero_le _,rfl⟩ ?_
 rintro _ _ W7 ⟨i,q,d,rfl,rfl,a1,a8,ho,hi,hz⟩ J7 e7 r7
 refine xid 6 ((i:Int)<(↑(Zh l 0 4):Int)) (fun e5=>?_) (fun e5=>?_)
 ·refine xc 7 (args:=#[P0 b5]) (Zg0 w.heap.size b5 (l.drop (4+i*16)) _ a1.size g5 a8 (by simp;omega)) ?_
  rintro _ W9 ⟨rfl,d9,d6,d8⟩
  rw[List.drop_drop,show 4+i*16+16=4+(i+1)*16 by omega] at d8
  refine xc 0 (args:=#[.string ⟨(Hc l i).toArray⟩]) (Ey l i _ (by rw[slotS_len hl (by omega)];decide)) ?_
  rintro e f1 d0
  rcases d0 with ⟨b7,rfl,a0⟩|⟨b7,rfl,a0⟩
  ·refine xa 3 [V0 0,V0 0,V0 0] 217 fun f7 f9 a2=>?_
   have b3:=bln (a1.trans d9) a0
   have e0:=a2.ge b3
   have a7:=Zb (Zi ho d6 (by decide)) a0
   have a3:=Zr a7 a2
   refine xsv 0 a2.blk [V0 (↑(He l i 0):Int),V0 (↑(He l i 1):Int),V0 (↑(He l i 2):Int)] fun f2 d3 d5=>?_
   refine xlv 15 d5.rp ?_
   refine xbs 0 1 [V0 (↑(He l i 0):Int),V0 (↑(He l i 1):Int),V0 (↑(He l i 2):Int)] 217 fun f3 g2 a4=>?_
   have b9:=a4.ne d5
   have b1:=d3.below (bln b3 a2.below) e0
   have f5:=a4.ge b1
   have b2:=d3.own3 (Zb a7 a2.below) a3
   have c3:=Zr b2 a4
   have b0:=Zb b2 a4.below
   have b4:=bln b1 a4.below
   refine xbi 0 fun _ _ _ _ zJ zQ zo zx zy zK=>Zy (m:=1) (news:=[V0 (↑(He l i 0):Int),V0 (↑(He l i 1):Int),V0 (↑(He l i 2):Int)]) (.agg #[V0 0,V0 0,V0 0]) 3 24 (i+1) (((Bj l (i+1)).flatMap sltC)) zo Tryz.underlying231 (by kernel_rfl) rfl (by decide) zx b0 zy (a4.blk.sl 1 1 (by decide) (by decide)) rfl (by simp[Value.oneCell']) (by unfold maxLen;omega) (by omega) b4.size (by rfl) (by rw[Zfy,List.flatMap_append];rfl) fun f0 e4 f4 e1 d4 d1=>?_
   refine zK _ _ ?_
   refine xwm 5 ((i:Int)+1) (↑(i+1):Int) ?_
   have c9:=b4.trans d1
   have a9:=((d3.blkT ((d8.below a0).below a2.below) a2.blk (by decide)).below a4.below).grown d4 b0 (by decide)
   exact ze 2 (e7 _ _ _ ⟨i+1,_,_,rfl,rfl,c9,a9,e1,by omega,Te hz b7⟩ (by omega))
  refine xa 3 [V0 0,V0 0,V0 0] 217 fun f8 g1 c0=>?_
  have b6:=bln (a1.trans d9) a0
  have e3:=c0.ge b6
  have c5:=Zb (Zi ho d6 (by decide)) a0
  have c4:=Zr c5 c0
  refine xsv 0 c0.blk [V0 (↑(He l i 0):Int),V0 (↑(He l i 1):Int),V0 (↑(He l i 2):Int)] fun g0 e6 f6=>?_
  refine xk 10 (show(((Qi Xs (Hc l i)) != (0:Int)):Bool)=true from bne_iff_ne.2 b7) ?_
  have d2:=e6.below (bln b6 c0.below) e3
  refine xe 14 (.tuple #[S0,V0 (Qi Xs (Hc l i))]) ?_
  have c7:As l=true:=by unfold As;rw[c1,decide_eq_true (by omega)];rfl
  have he:Oj l=Qi Xs (Hc l i):=by unfold Oj;rw[if_pos c7,sltsE_at hz b7 (by omega)]
  exact .inl ⟨by rw[he];exact b7,by rw[he],d2⟩
 refine xe 13 (.tuple #[.slice q i d,V0 0]) ?_
 have c7:As l=true:=by unfold As;rw[c1,decide_eq_true (by omega)];rfl
 obtain rfl:i=Zh l 0 4:=by omega
 exact .inr ⟨by unfold Oj;rw[if_pos c7,hz],_,_,rfl,a1,ho⟩
def Qv(l:Bl)(no:Int):Int:=if inE l 4 no=0 then Oj (inB l no) else inE l 4 no
def BlkIdxP(l:Bl)(no:Int)(w:World)(e:Ending)(w':World):Prop :=
 (Qv l no≠0∧∃ b,e=.returned (.tuple #[S0,.iface 256 (P0 b)])∧B3 w w'∧Hw w' [some no] (some (Qv l no)) (.iface 256 (P0 b))) ∨
 (Qv l no=0∧∃ p c,e=.returned (.tuple #[.slice p (Zh (inB l no) 0 4) c,.nilIface])∧B3 w w'∧w'.ownsRow w.heap.size 217 3 (.slice p (Zh (inB l no) 0 4) c) (Zh (inB l no) 0 4) ((Bj (inB l no) (Zh (inB l no) 0 4)).flatMap sltC))
theorem readIdx(B b:Nat)(p:O0)(n c:Nat)(l:Bl)(no:Int)(w:World)(hI:ImgR B b p n c l w) :
 C0 218 #[P0 b,V0 no,V0 4,.func (.func 219) #[] #[]] w (BlkIdxP l no w):=by
 refine zin 56 Tryz.func218 ?_
 refine xc 15 (args:=#[P0 b,V0 no]) (Bw B b p n c l no _ (hI.below (B4 w))) ?_
 rintro e W1 c7
 rcases c7 with ⟨ho,vr,rfl,a0⟩|⟨j,hk,hj,p2,c2,rfl,a0,ho⟩
 ·refine xc 21 (args:=#[V0 no,.iface 89 (V0 3)]) (Xy no 3 _) ?_
  rintro _ W2 ⟨_,rfl,b6,a8⟩
  rw[if_neg (by decide),if_neg (by decide)] at a8
  have d0:=a8
  obtain⟨c1,d1,rfl,_,_⟩:=d0
  have hB:=bln a0 b6
  refine xe 6 (.tuple #[S0,.iface 256 (P0 c1)]) ?_
  have he:Qv l no=3:=by unfold Qv;rw[Fi hI.len ho];rfl
  exact .inl ⟨by rw[he];decide,_,rfl,hB,by rw[he];exact a8⟩
 have b8:=Nat.le_refl w.heap.size
 have c5:j<l.length/256:=by rw[hI.len];exact hj
 have b1:=Qp c5
 have a3:=Ss (l:=l) (kind:=4) hI.len hk hj
 have a4:=Zf ho b8
 refine xc 22 (args:=#[.slice p2 256 c2,V0 4,V0 no]) (Tx 4 no p2 256 c2 (Yj l j) _ b1 (Yi (Ze a4) b1)) ?_
 rintro e W3 b2
 rcases b2 with ⟨hs,rfl,a2⟩|⟨hs,p3,c3,rfl,a2,h3⟩
 ·refine xk 14 (show(((Xr 4 no (Yj l j)) != (0:Int)):Bool)=true from bne_iff_ne.2 hs) ?_
  refine xc 6 (args:=#[V0 no,.iface 89 (V0 (Xr 4 no (Yj l j)))]) (Xy no (Xr 4 no (Yj l j)) _) ?_
  rintro _ W4 ⟨_,rfl,b9,a7⟩
  rw[if_neg hs,if_neg hs] at a7
  have c8:=a7
  obtain⟨c6,d3,rfl,_,_⟩:=c8
  have hB:=bln (bln a0 a2) b9
  refine xe 6 (.tuple #[S0,.iface 256 (P0 c6)]) ?_
  have he:Qv l no=Xr 4 no (Yj l j):=by unfold Qv;rw[a3,if_neg hs]
  exact .inl ⟨by rw[he];exact hs,_,rfl,hB,by rw[he];exact a7⟩
 have a1:=Zf h3 a0.size
 have b7:((Yj l j).drop 8).take 244=inB l no:=(Sn hk).symm
 have b0:=Zdb hI.len hk hj
 rw[b7] at a1
 refine xc 21 (args:=#[.slice p3 244 c3]) (Zhb p3 c3 (inB l no) _ b0 (Yi (Ze a1) b0)) ?_
 rintro e W5 b4
 rcases b4 with ⟨hz,rfl,a5⟩|⟨hz,p4,c4,rfl,a5,h4⟩
 ·refine xk 14 (show(((Oj (inB l no)) != (0:Int)):Bool)=true from bne_iff_ne.2 hz) ?_
  refine xc 6 (args:=#[V0 no,.iface 89 (V0 (Oj (inB l no)))]) (Xy no (Oj (inB l no)) _) ?_
  rintro _ W6 ⟨_,rfl,b5,a6⟩
  rw[if_neg hz,if_neg hz] at a6
  have c0:=a6
  obtain⟨c9,d2,rfl,_,_⟩:=c0
  have hB:=bln (bln (bln a0 a2) a5) b5
  refine xe 6 (.tuple #[S0,.iface 256 (P0 c9)]) ?_
  have he:Qv l no=Oj (inB l no):=by unfold Qv;rw[a3,if_pos hs]
  exact .inl ⟨by rw[he];exact hz,_,rfl,hB,by rw[he];exact a6⟩
 have b3:=(bln a0 a2).size
 have hB:=bln (bln a0 a2) a5
 have a9:=Zf h4 b3
 exact xe 25 (.tuple #[.slice p4 (Zh (inB l no) 0 4) c4,.nilIface]) (.inr ⟨by unfold Qv;rw[a3,if_pos hs,hz],_,_,rfl,hB,a9⟩)
theorem Zdd(B b:Nat)(p:O0)(n c:Nat)(l:Bl)(no:Int)(w:World)(hI:ImgR B b p n c l w) :
 C0 164 #[P0 b,V0 no] w (BlkIdxP l no w):=by
 refine zin 11 Tryz.func164 ?_
 refine xc 10 (args:=#[P0 b,V0 no,V0 4,.func (.func 219) #[] #[]]) (readIdx B b p n c l no _ (hI.below (B4 w))) ?_
 rintro e W1 a2
 rcases a2 with ⟨he,bf,rfl,a1,hv⟩|⟨he,p4,c4,rfl,a1,h4⟩
 ·exact xe 7 (.tuple #[S0,.iface 256 (P0 bf)]) (.inl ⟨he,_,rfl,a1,hv⟩)
 have a3:=Nat.le_refl w.heap.size
 have a0:=Zf h4 a3
 exact xe 7 (.tuple #[.slice p4 (Zh (inB l no) 0 4) c4,.nilIface]) (.inr ⟨he,_,_,rfl,a1,a0⟩)
def bmN (n:Nat):Nat:=(n+959)/960
theorem bmN_lt{n i:Nat}(h:i<bmN n):i*960<n:=by unfold bmN at h;omega
theorem bmN_done{n i:Nat}(h:i=bmN n):n≤i*960:=by subst h;unfold bmN;omega
def mn3 (n:Int):Int:=if n<3 then n else 3
def Zo(l:List Int):List Int:=l.map mn3
theorem Zhl{l:List Int}{k:Nat}(h:k<l.length):Zo (l.take (k+1))=Zo (l.take k)++[mn3 (l.getD k 0)]:=by
 unfold Zo
 rw[List.take_succ_eq_append_getElem h,List.map_append,show l.getD k 0=l[k] from by simp[List.getD,h]]
 rfl
def ovX (l:List Int)(k:Nat):List Ent:=if 3≤l.getD k 0 then [((k:Int),leB (l.getD k 0) 4,0)] else []
def Zu(l:List Int)(k:Nat):List Ent:=(List.range k).flatMap (ovX l)
theorem Tj(l:List Int)(k:Nat):Zu l (k+1)=Zu l k++ovX l k:=by simp[Zu,List.range_succ]
theorem Ws{l:List Int}{k:Nat}(h:3≤l.getD k 0):Zu l (k+1)=Zu l k++[((k:Int),leB (l.getD k 0) 4,0)]:=by rw[Tj];unfold ovX;rw[if_pos h]
theorem Pr{l:List Int}{k:Nat}(h:¬ 3≤l.getD k 0):Zu l (k+1)=Zu l k:=by rw[Tj];unfold ovX;rw[if_neg h];simp
theorem overK_ok(l:List Int)(k:Nat):(Zu l k).Pairwise (fun a b=>a.1<b.1)∧∀ x∈Zu l k,0≤x.1∧x.1<k∧x.2.1.length=4:=by
 induction k with
 | zero=>simp[Zu]
 | succ k ih =>
  by_cases h3:3≤l.getD k 0
  ·rw[Ws h3]
   refine⟨List.pairwise_append.2 ⟨ih.1,by simp,fun a ha b hb=>?_⟩,fun x hx=>?_⟩
   ·simp only[List.mem_singleton] at hb;subst hb;exact(ih.2 a ha).2.1
   ·rcases List.mem_append.1 hx with h|h
    ·have:=ih.2 x h;exact⟨this.1,by have:=this.2.1;omega,this.2.2⟩
    ·simp only[List.mem_singleton] at h;subst h;exact⟨Int.natCast_nonneg _,by show(k:Int)<((k+1:Nat):Int);omega,Zg _ _⟩
  ·rw[Pr h3]
   exact⟨ih.1,fun x hx=>by have:=ih.2 x hx;exact⟨this.1,by have:=this.2.1;omega,this.2.2⟩⟩
theorem Lm(l:List Int)(k:Nat):(Zu l k).length≤k:=by
 induction k with
 | zero=>simp[Zu]
 | succ k ih =>
  by_cases h3:3≤l.getD k 0
  ·rw[Ws h3];simp;exact ih
  ·rw[Pr h3];omega
theorem Mx{l:List Ent}{i:Nat}(h:i<l.length):l.getD i Vk=l[i]:=by simp[List.getD,h]
theorem Ll(l:List Int)(k:Nat)(hk:k≤65536):EntsOk 4 (Zu l k):=by
 have h:=overK_ok l k
 refine⟨fun i hi=>?_,fun j hj=>?_,fun i hi=>?_⟩
 ·rw[Mx hi];have:=h.2 _ (List.getElem_mem hi);omega
 ·rw[Mx hj,Mx (by omega)];exact List.pairwise_iff_getElem.1 h.1 j (j+1) (by omega) hj (by omega)
 ·rw[Mx hi];exact(h.2 _ (List.getElem_mem hi)).2.2
def Wl(n:Int):Prop:=0≤n∧n≤2147483647
instance (n:Int):Decidable (Wl n):=by unfold Wl;infer_instance
def Ku(l:List Int):Int:=if 65536<l.length then 1 else if ∀ k,k<l.length→Wl (l.getD k 0) then 0 else 2
theorem Eg{l:List Int}(h:Ku l=0):l.length≤65536∧∀ k,k<l.length→Wl (l.getD k 0):=by
 unfold Ku at h
 split at h
 ·simp at h
 ·split at h
  ·exact⟨by omega,by assumption⟩
  ·simp at h
def Ul(l:List Int)(i:Nat):List Int:=(l.drop (i*960)).take 960
def Xi(l:List Int)(n:Nat):List (List Int):=(List.range n).map (Ul l)
theorem Jn(l:List Int)(n:Nat):(Xi l n).length=n:=by simp[Xi]
theorem Zdx{l:List Int}{n i:Nat}(h:i<n):(Xi l n).getD i []=Ul l i:=by simp[Xi,List.getD,h]
theorem Si(l:List Int)(i:Nat):(Ul l i).length=min 960 (l.length-i*960):=by simp[Ul]
def Hq(l:List Int):Prop:=∀ n∈l,0≤n∧n≤3
theorem small_ok{l:List Int}(h:∀ k,k<l.length→Wl (l.getD k 0)):Hq (Zo l):=by
 intro n hn
 obtain⟨m,hm,rfl⟩:=List.mem_map.1 hn
 obtain⟨k,hk,rfl⟩:=List.getElem_of_mem hm
 have:=h k hk
 rw[show l.getD k 0=l[k] from by simp[List.getD,hk]] at this
 unfold Wl at this
 unfold mn3;split<;>omega
theorem Zc1{l:List Int}(h:Hq l)(i:Nat):Hq (Ul l i):=fun n hn=>h n (List.mem_of_mem_drop (List.mem_of_mem_take hn))
def atI (l:List Int)(i j:Nat):Int:=if j<i then l.getD j 0 else 0
def g4 (l:List Int)(i k:Nat):Int:=atI l i (4*k)+4*atI l i (4*k+1)+16*atI l i (4*k+2)+64*atI l i (4*k+3)
def g4B (l:List Int)(i k:Nat):UInt8:=UInt8.ofNat (g4 l i k).toNat
def Nu(l:List Int)(i:Nat):Bl:=leB l.length 4++(List.range 240).map (g4B l i)
theorem Va(l:List Int)(i:Nat):(Nu l i).length=244:=by simp[Nu,Zg]
def Jz(l:List Int):Bl:=Nu l l.length
def Zgf(l:List Int)(k:Nat):Nat:=((l.take k).filter fun n=>n==0).length
def Yg(l:List Int):Nat:=Zgf l l.length
def Xj(l:List Int):Nat:=l.findIdx fun n=>n==0
theorem freeK_succ{l:List Int}{k:Nat}(h:k<l.length):Zgf l (k+1)=Zgf l k+(if l.getD k 0=0 then 1 else 0):=by
 unfold Zgf
 rw[List.take_succ_eq_append_getElem h,List.filter_append,List.length_append]
 simp only[List.getD,List.getElem?_eq_getElem h,Option.getD_some]
 by_cases e:l[k]=0<;>simp[e]
theorem Dp(l:List Int)(k:Nat):Zgf l k≤k:=Nat.le_trans (List.length_filter_le _ _) (by simp;omega)
theorem Rm(l:List Int):Xj l≤l.length:=List.findIdx_le_length
theorem firstN_at{l:List Int}{i:Nat}(h:i<l.length)(h0:l.getD i 0=0)(hp:∀ j,j<i→l.getD j 0≠0):Xj l=i:=by
 unfold Xj
 refine(List.findIdx_eq h).2 ⟨?_,fun j hj=>?_⟩
 ·rw[List.getD,List.getElem?_eq_getElem h] at h0;simpa using h0
 ·have:=hp j hj
  rw[List.getD,List.getElem?_eq_getElem (by omega)] at this;simpa using this
theorem Zde{l:List Int}(hp:∀ j,j<l.length→l.getD j 0≠0):Xj l=l.length:=by
 unfold Xj
 rw[List.findIdx_eq_length]
 intro n hn
 obtain⟨k,hk,rfl⟩:=List.getElem_of_mem hn
 have:=hp k hk
 rw[List.getD,List.getElem?_eq_getElem hk] at this;simpa using this
def slotB(n f g:Int):Bl:=leB n 8++leB f 4++leB g 4
theorem slotB_len(n f g:Int):(slotB n f g).length=16:=by simp[slotB,Zg]
def Vz(L:List (List Int))(q:Nat)(bs:Bl):Nat→Bl
 | 0=>bs
 | i+1=>Qy (Vz L q bs i) ((q+i)*256) (Xk 3 ((q+i:Nat):Int) (Jz (L.getD i [])))
def slotX(L:List (List Int))(q i:Nat):Ent:=((i:Int),slotB ((q+i:Nat):Int) (Yg (L.getD i []):Int) (Xj (L.getD i []):Int),0)
def Xt(L:List (List Int))(q j:Nat):List Ent:=(List.range j).map (slotX L q)
theorem Jl(L:List (List Int))(q j:Nat):(Xt L q j).length=j:=by simp[Xt]
theorem Zcu(L:List (List Int))(q j:Nat):Xt L q (j+1)=Xt L q j++[slotX L q j]:=by simp[Xt,List.range_succ]
theorem Po{L:List (List Int)}{q j i:Nat}(h:i<j):(Xt L q j).getD i Vk=slotX L q i:=by simp[Xt,List.getD,h]
theorem Sv(L:List (List Int))(q j:Nat)(hj:j≤65536):EntsOk 16 (Xt L q j):=by
 refine⟨fun i hi=>?_,fun i hi=>?_,fun i hi=>?_⟩<;>rw[Jl] at hi
 ·rw[Po hi];simp only[slotX];omega
 ·rw[Po hi,Po (by omega)];simp only[slotX];omega
 ·rw[Po hi];exact slotB_len _ _ _
def Ig(l:List Int)(q:Nat)(bs:Bl):Int×Int×Bl :=
 let L:=Xi (Zo l) (bmN l.length)
 let x:=Xx 4 (Xt L q (bmN l.length)) (q+bmN l.length) (Vz L q bs (bmN l.length))
 let y:=Xx 5 (Zu l l.length) (q+bmN l.length+Xn 4 (bmN l.length)) x.2
 (x.1,y.1,y.2)
def Wd(l:List Int):Nat:=bmN l.length+Xn 4 (bmN l.length)+Xn 5 (Zu l l.length).length
theorem Zbs{l:List Int}(h:Hq l)(i j:Nat):0≤atI l i j∧atI l i j≤3:=by
 unfold atI
 split
 ·by_cases hj:j<l.length
  ·rw[show l.getD j 0=l[j] from by simp[List.getD,hj]];exact h _ (List.getElem_mem hj)
  ·rw[show l.getD j 0=0 from by simp[List.getD,Nat.le_of_not_lt hj]];omega
 ·omega
theorem Jo{l:List Int}(h:Hq l)(j:Nat):0≤l.getD j 0∧l.getD j 0≤3:=by
 have:=Zbs h (j+1) j
 unfold atI at this
 rwa [if_pos (by omega)] at this
theorem Ja{l:List Int}{i j:Nat}(h:j≠i):atI l (i+1) j=atI l i j:=by
 unfold atI
 by_cases q:j<i
 ·rw[if_pos q,if_pos (by omega)]
 ·rw[if_neg q,if_neg (by omega)]
theorem Zep(l:List Int)(i:Nat):atI l (i+1) i=l.getD i 0:=by unfold atI;rw[if_pos (by omega)]
theorem Nm{l:List Int}{i j:Nat}(h:i≤j):atI l i j=0:=by unfold atI;rw[if_neg (by omega)]
theorem g4_ne{l:List Int}{i k:Nat}(h:k≠i/4):g4 l (i+1) k=g4 l i k:=by
 unfold g4
 rw[Ja (by omega),Ja (by omega),Ja (by omega),Ja (by omega)]
theorem g4_at{l:List Int}(h:Hq l){i q r:Nat}(hi:i=4*q+r)(hr:r<4):g4 l (i+1) q=g4 l i q+l.getD i 0*4 ^ r∧0≤g4 l i q∧g4 l i q<4 ^ r:=by
 have b0:=Zbs h i (4*q)
 have b1:=Zbs h i (4*q+1)
 have b2:=Zbs h i (4*q+2)
 have b3:=Zbs h i (4*q+3)
 unfold g4
 obtain rfl|rfl|rfl|rfl:r=0∨r=1∨r=2∨r=3:=by omega
 ·rw[show 4*q=i from by omega,Zep,Ja (by omega),Ja (by omega),Ja (by omega),Nm (Nat.le_refl i),Nm (Nat.le_add_right i 1),Nm (Nat.le_add_right i 2),Nm (Nat.le_add_right i 3)]
  omega
 ·have e2:atI l i (4*q+2)=0:=Nm (by omega)
  have e3:atI l i (4*q+3)=0:=Nm (by omega)
  have e1:atI l i (4*q+1)=0:=Nm (by omega)
  rw[Ja (j:=4*q) (by omega),Ja (j:=4*q+2) (by omega),Ja (j:=4*q+3) (by omega),e1,e2,e3,←hi,Zep]
  omega
 ·have e2:atI l i (4*q+2)=0:=Nm (by omega)
  have e3:atI l i (4*q+3)=0:=Nm (by omega)
  rw[Ja (j:=4*q) (by omega),Ja (j:=4*q+1) (by omega),Ja (j:=4*q+3) (by omega),e2,e3,←hi,Zep]
  omega
 ·have e3:atI l i (4*q+3)=0:=Nm (by omega)
  rw[Ja (j:=4*q) (by omega),Ja (j:=4*q+1) (by omega),Ja (j:=4*q+2) (by omega),e3,←hi,Zep]
  omega
theorem g4B_at{l:List Int}(h:Hq l){i:Nat}:((g4B l (i+1) (i/4)).toNat:Int)=((g4B l i (i/4)).toNat:Int)+l.getD i 0*4 ^ (i%4)∧(g4B l i (i/4)).toNat<4 ^ (i%4):=by
 obtain⟨h1,h2,h3⟩:=g4_at h (show i=4*(i/4)+i%4 by omega) (by omega)
 have hn:=Jo h i
 have hp:(4:Int) ^ (i%4)≤64:=by
  have:i%4<4:=by omega
  obtain e|e|e|e:i%4=0∨i%4=1∨i%4=2∨i%4=3:=by omega
  all_goals rw[e];decide
 have a1:(0:Int)<4 ^ (i%4):=Int.pow_pos (by decide)
 generalize hP:(4:Int) ^ (i%4)=Pq at *
 have hq:l.getD i 0*Pq≤3*Pq:=Int.mul_le_mul_of_nonneg_right hn.2 (by omega)
 have a0:0≤l.getD i 0*Pq:=Int.mul_nonneg hn.1 (by omega)
 generalize l.getD i 0*Pq=M at *
 have a2:((4 ^ (i%4):Nat):Int)=Pq:=by rw[←hP];simp
 unfold g4B
 rw[UInt8.toNat_ofNat',UInt8.toNat_ofNat',h1]
 omega
def Ol(gs:List (Nat×Nat))(L:List (List Int))(i:Nat):Value:=.slice (some ⟨(gs.getD i (0,0)).1,0,none⟩) (L.getD i []).length (gs.getD i (0,0)).2
structure Lists(w:World)(base:Nat)(v:Value)(gs:List (Nat×Nat))(L:List (List Int)):Prop where
 row:w.ownsRow base 35 1 v L.length ((List.range L.length).map (Ol gs L))
 each:∀ i,i<L.length→w.ownsRow base 3 1 (Ol gs L i) (L.getD i []).length ((L.getD i []).map (Value.int .i64))
theorem Lists.below{w W:World}{base:Nat}{v:Value}{gs:List (Nat×Nat)}{L:List (List Int)}(h:Lists w base v gs L)(hb:B3 w W):Lists W base v gs L:=⟨Zb h.row hb,fun i hi=>Zb (h.each i hi) hb⟩
theorem Lists.only{T:List TypeId}{w W:World}{base:Nat}{v:Value}{gs:List (Nat×Nat)}{L:List (List Int)}(h:Lists w base v gs L)(hO:Zd T w W)(hT:T.contains 35=false∧T.contains 3=false):Lists W base v gs L:=⟨Zi h.row hO hT.1,fun i hi=>Zi (h.each i hi) hO hT.2⟩
theorem Lists.elem{w:World}{base:Nat}{p:O0}{n c:Nat}{gs:List (Nat×Nat)}{L:List (List Int)}(h:Lists w base (.slice p n c) gs L)(hn:L.length=n){k:Nat}(hk:k<n):p.isSome=true∧w.cell? (Xd p (k*1))=some (Ol gs L k):=by
 subst hn
 rw[Nat.mul_one]
 exact Sl.elem (Ze h.row) (by simp[hk])
theorem Lists.mono{w:World}{base base':Nat}{v:Value}{gs:List (Nat×Nat)}{L:List (List Int)}(h:Lists w base' v gs L)(hb:base≤base'):Lists w base v gs L:=⟨Zf h.row hb,fun i hi=>Zf (h.each i hi) hb⟩
def FrB (B:Nat)(S:List Nat)(w W:World):Prop:=w.heap.size≤W.heap.size∧∀ k,k<B→k∉S→W.heap[k]? = w.heap[k]?
theorem Fr.trans_B{S S':List Nat}{a w W:World}(h:Fr S a w)(k:FrB a.heap.size S' w W)(hs:∀ k∈S',k∈S):Fr S a W:=⟨Nat.le_trans h.size k.1,fun i hi hn=>(k.2 i hi fun q=>hn (hs i q)).trans (h.block i hi hn)⟩
theorem or_step:∀ r:Fin 4,∀ n:Fin 4,∀ o:Fin 64,o.val<4 ^ r.val→o.val ||| (n.val*4 ^ r.val)=o.val+n.val*4 ^ r.val:=by decide
theorem Zcf(kind no:Int)(a:O0)(n c:Nat)(l:Bl)(w:World)(hn:l.length=n)(h:Bys w (.slice a n c) l):C0 75 #[.slice a n c,V0 kind,V0 no] w (OpenP kind no l w):=by
 subst hn;exact Zbt kind no a c l w h
theorem bits_ReadN(a:O0)(n c:Nat)(l:Bl)(w:World)(hn:l.length=n)(hl:n≤100000000)(h:Bys w (.slice a n c) l):C0 166 #[.slice a n c] w (BitsP l w):=by
 subst hn;exact bits_Read a c l w hl h
def Iq(l:Bl):Bool:=decide (l.length=244)&&decide (Zh l 0 4≤960)&&(List.range 960).all fun i=>decide (i<Zh l 0 4)||bitN l i==0
theorem Mi(l:Bl):Iq l=true↔Zfr l:=by
 unfold Iq Zfr
 simp only[Bool.and_eq_true,decide_eq_true_eq,List.all_eq_true,List.mem_range,Bool.or_eq_true,beq_iff_eq]
 constructor
 ·rintro⟨⟨h1,h2⟩,h3⟩
  exact⟨h1,h2,fun i hi hc=>(h3 i hi).resolve_left (by omega)⟩
 ·rintro⟨h1,h2,h3⟩
  exact⟨⟨h1,h2⟩,fun i hi=>by by_cases h:i<Zh l 0 4;exact .inl h;exact .inr (h3 i hi (by omega))⟩
def Ys(l:Bl)(no:Int):Int:=if inE l 3 no=0 then(if Iq (inB l no) then 0 else 7) else inE l 3 no
def Zfd(l:Bl)(no:Int)(w:World)(e:Ending)(w':World):Prop :=
 (Ys l no≠0∧∃ b,e=.returned (.tuple #[S0,.iface 256 (P0 b)])∧B3 w w'∧Hw w' [some no] (some (Ys l no)) (.iface 256 (P0 b))) ∨
 (Ys l no=0∧∃ p c,e=.returned (.tuple #[.slice p (Zh (inB l no) 0 4) c,.nilIface])∧B3 w w'∧w'.ownsRow w.heap.size 3 1 (.slice p (Zh (inB l no) 0 4) c) (Zh (inB l no) 0 4) ((Em (inB l no) (Zh (inB l no) 0 4)).map nv))
theorem readB(B b:Nat)(p:O0)(n c:Nat)(l:Bl)(no:Int)(w:World)(hI:ImgR B b p n c l w) :
 C0 165 #[P0 b,V0 no,V0 3,.func (.func 166) #[] #[]] w (Zfd l no w):=by
 refine zin 56 Tryz.func165 ?_
 refine xc 15 (args:=#[P0 b,V0 no]) (Bw B b p n c l no _ (hI.below (B4 w))) ?_
 rintro e W1 c8
 rcases c8 with ⟨ho,vr,rfl,a0⟩|⟨j,hk,hj,p2,c2,rfl,a0,ho⟩
 ·refine xc 21 (args:=#[V0 no,.iface 89 (V0 3)]) (Xy no 3 _) ?_
  rintro _ W2 ⟨_,rfl,b7,a9⟩
  rw[if_neg (by decide),if_neg (by decide)] at a9
  have d1:=a9
  obtain⟨c5,d2,rfl,_,_⟩:=d1
  have hB:=bln a0 b7
  refine xe 6 (.tuple #[S0,.iface 256 (P0 c5)]) ?_
  have he:Ys l no=3:=by unfold Ys;rw[Fi hI.len ho];rfl
  exact .inl ⟨by rw[he];decide,_,rfl,hB,by rw[he];exact a9⟩
 have b9:=Nat.le_refl w.heap.size
 have c6:j<l.length/256:=by rw[hI.len];exact hj
 have b2:=Qp c6
 have a3:=Ss (l:=l) (kind:=3) hI.len hk hj
 have a4:=Zf ho b9
 refine xc 22 (args:=#[.slice p2 256 c2,V0 3,V0 no]) (Zcf 3 no p2 256 c2 (Yj l j) _ b2 (Yi (Ze a4) b2)) ?_
 rintro e W3 b3
 rcases b3 with ⟨hs,rfl,a2⟩|⟨hs,p3,c3,rfl,a2,h3⟩
 ·refine xk 14 (show(((Xr 3 no (Yj l j)) != (0:Int)):Bool)=true from bne_iff_ne.2 hs) ?_
  refine xc 6 (args:=#[V0 no,.iface 89 (V0 (Xr 3 no (Yj l j)))]) (Xy no (Xr 3 no (Yj l j)) _) ?_
  rintro _ W4 ⟨_,rfl,c0,a8⟩
  rw[if_neg hs,if_neg hs] at a8
  have c9:=a8
  obtain⟨c7,d4,rfl,_,_⟩:=c9
  have hB:=bln (bln a0 a2) c0
  refine xe 6 (.tuple #[S0,.iface 256 (P0 c7)]) ?_
  have he:Ys l no=Xr 3 no (Yj l j):=by unfold Ys;rw[a3,if_neg hs]
  exact .inl ⟨by rw[he];exact hs,_,rfl,hB,by rw[he];exact a8⟩
 have a1:=Zf h3 a0.size
 have b8:((Yj l j).drop 8).take 244=inB l no:=(Sn hk).symm
 have b1:=Zdb hI.len hk hj
 rw[b8] at a1
 refine xc 21 (args:=#[.slice p3 244 c3]) (bits_ReadN p3 244 c3 (inB l no) _ b1 (by decide) (Yi (Ze a1) b1)) ?_
 rintro e W5 b5
 rcases b5 with ⟨a5,rfl,a6⟩|⟨a5,p4,c4,rfl,a6,h4⟩
 ·refine xc 21 (args:=#[V0 no,.iface 89 (V0 7)]) (Xy no 7 _) ?_
  rintro _ W6 ⟨_,rfl,b6,a7⟩
  rw[if_neg (by decide),if_neg (by decide)] at a7
  have c1:=a7
  obtain⟨d0,d3,rfl,_,_⟩:=c1
  have hB:=bln (bln (bln a0 a2) a6) b6
  refine xe 6 (.tuple #[S0,.iface 256 (P0 d0)]) ?_
  have he:Ys l no=7:=by unfold Ys;rw[a3,if_pos hs,if_neg (by rw[Mi];exact a5)]
  exact .inl ⟨by rw[he];decide,_,rfl,hB,by rw[he];exact a7⟩
 have b4:=(bln a0 a2).size
 have hB:=bln (bln a0 a2) a6
 have b0:=Zf h4 b4
 exact xe 25 (.tuple #[.slice p4 (Zh (inB l no) 0 4) c4,.nilIface]) (.inr ⟨by unfold Ys;rw[a3,if_pos hs,if_pos ((Mi _).2 a5)],_,_,rfl,hB,b0⟩)
theorem block_Bits(B b:Nat)(p:O0)(n c:Nat)(l:Bl)(no:Int)(w:World)(hI:ImgR B b p n c l w) :
 C0 100 #[P0 b,V0 no] w (Zfd l no w):=by
 refine zin 11 Tryz.func100 ?_
 refine xc 10 (args:=#[P0 b,V0 no,V0 3,.func (.func 166) #[] #[]]) (readB B b p n c l no _ (hI.below (B4 w))) ?_
 rintro e W1 a2
 rcases a2 with ⟨he,bf,rfl,a1,hv⟩|⟨he,p4,c4,rfl,a1,h4⟩
 ·exact xe 7 (.tuple #[S0,.iface 256 (P0 bf)]) (.inl ⟨he,_,rfl,a1,hv⟩)
 have a3:=Nat.le_refl w.heap.size
 have a0:=Zf h4 a3
 exact xe 7 (.tuple #[.slice p4 (Zh (inB l no) 0 4) c4,.nilIface]) (.inr ⟨he,_,_,rfl,a1,a0⟩)
def bitI(l:Bl)(n:Nat):List Int:=(Em l n).map fun x:Nat=>(x:Int)
theorem Ze4(l:Bl)(n:Nat):(bitI l n).length=n:=by simp[bitI,Em]
theorem numsB_take{N:List Int}{i:Nat}(h:i<N.length):Jy (N.take (i+1))=Jy (N.take i)++leB (N.getD i 0) 4:=by
 unfold Jy
 rw[List.take_succ_eq_append_getElem h,List.flatMap_append]
 simp[List.getD,h]
theorem Pack_4s(p:O0)(c:Nat)(N:List Int)(w:World)(hn2:N.length≤1000)(hN:∀ i,i<N.length→0≤N.getD i 0∧N.getD i 0<4294967296)(hF:Sts Tu w (.slice p N.length c) N) :
 C0 131 #[.slice p N.length c] w (Yy (fun w' r=>∃ q d,r=.tuple #[.slice q (N.length*4) d,V0 0]∧w'.ownsRow w.heap.size 5 1 (.slice q (N.length*4) d) (N.length*4) ((Jy N).map bv)) w):=by
 refine zin 32 Tryz.func131 ?_
 have hB:=Below.refl w.heap.size w
 refine zl 20 32 (fun zm b2 V=>∃ (i m:Nat) (q:O0) (d:Nat),b2=[(4,.slice q m d),(7,.slice p N.length c),(8,V0 (N.length:Int)),(9,V0 (i:Int))]∧zm=N.length-((i:Int)).toNat∧B3 w V∧V.ownsRow w.heap.size 5 1 (.slice q m d) m ((Jy (N.take i)).map bv)∧i≤N.length∧m=i*4) ⟨0,0,_,_,rfl,rfl,hB,World.ownsRow_nil _ _ _ _,Nat.zero_le _,rfl⟩ ?_
 rintro _ _ W1 ⟨i,m,q,d,rfl,rfl,a0,ho,hi,hm⟩ J1 b1 r1
 refine xid 6 ((i:Int)<(N.length:Int)) (fun b5=>?_) (fun b5=>?_)
 ·refine xx 6 _ N.length i 2 (Sts.cell hF Zeh 0 (k:=i) (i:=0) (by omega) rfl).1 ?_
  refine xlv 0 (Sts.rp (k:=i) (hF.below a0) Zeh 0 (by omega) (by decide)) ?_
  refine xa 0 [V0 0,V0 0] 235 fun b3 W3 n3=>?_
  have g3:=n3.ge a0
  refine xsv 0 n3.blk [V0 4,V0 (N.getD i 0)] fun W4 u4 k4=>?_
  refine xb 6 0 k4 ?_
  refine xr 0 (args:=#[V0 4]) (Av _) fun W5 a6=>?_
  have a2:=k4.below a6
  refine xb 10 1 a2 ?_
  refine xb 1 0 a2 ?_
  refine xr 0 (args:=#[V0 (N.getD i 0),V0 4]) (Zff (N.getD i 0) (hN i (by omega)).1 (hN i (by omega)).2 _) fun W6 a5=>?_
  have a4:=a2.below a5
  refine xb 9 1 a4 ?_
  refine xb 1 0 a4 ?_
  refine xc 0 (args:=#[V0 (N.getD i 0),V0 4]) (Im (N.getD i 0) (hN i (by omega)).1 _) ?_
  rintro _ W7 ⟨_,rfl,a9,h2⟩
  have b0:=(bln (bln (u4.below (bln a0 n3.below) g3) a6) a5).size
  have a1:=Zf h2 b0
  unfold Pu at a1
  rw[Zg] at a1
  obtain⟨p2,c2,rfl⟩:=(Ze a1).slice
  have a8:=Zb (Zb (Zb (u4.own2 (Zb ho n3.below) n3.blk (by decide)) a6) a5) a9
  have a3:=bln (bln (bln (u4.below (bln a0 n3.below) g3) a6) a5) a9
  refine xbi 0 fun _ _ _ _ zJ zQ zo zx zy zK=>Zy (m:=4) (news:=(leB (N.getD i 0) 4).map bv) (.int .u8 0) 1 1 (m+4) (((Jy (N.take (i+1))).map bv)) zo Tryz.underlying22 (by kernel_rfl) rfl (by decide) zx a8 zy (Ze a1) (by simp[Zg]) (Yt _) (by unfold maxLen;omega) (by omega) a3.size (by rfl) (by rw[numsB_take (by omega),List.map_append]) fun b7 b6 W8 o8 b8 b4=>?_
  refine zK _ _ ?_
  refine xwm 5 ((i:Int)+1) (↑(i+1):Int) ?_
  have a7:=a3.trans b4
  exact ze 2 (b1 _ _ _ ⟨i+1,_,_,_,rfl,rfl,a7,o8,by omega,by omega⟩ (by omega))
 refine xe 13 (.tuple #[.slice q m d,V0 0]) ?_
 obtain rfl:i=N.length:=by omega
 rw[List.take_length] at ho
 subst hm
 exact⟨_,rfl,a0,_,_,rfl,ho⟩
theorem sup_put3(s:Sup):((Ho++List.replicate 236 (0:UInt8)).map bv).take 8++(Jy (1::So s)).map bv++((Ho++List.replicate 236 (0:UInt8)).map bv).drop (8+48)=(Ub s).map bv:=by
 unfold Ub
 rw[List.map_append (l₁:=Ho++Jy (1::So s)),List.map_append (l₁:=Ho) (l₂:=Jy (1::So s))]
 congr 1
theorem supN_bd{s:Sup}(h:Xc s=true):∀ i,i<(1::So s).length→0≤(1::So s).getD i 0∧(1::So s).getD i 0<4294967296:=by
 unfold Xc at h
 simp only[Bool.and_eq_true,decide_eq_true_iff,Bool.true_and] at h
 intro i hi
 have a0:i<12:=hi
 obtain rfl|rfl|rfl|rfl|rfl|rfl|rfl|rfl|rfl|rfl|rfl|rfl:i=0∨i=1∨i=2∨i=3∨i=4∨i=5∨i=6∨i=7∨i=8∨i=9∨i=10∨i=11:=by omega
 all_goals simp[So,List.getD]
 all_goals omega
theorem Zdz(s:Sup)(w:World)(hb0:0≤s.blocks)(hb1:s.blocks<9223372036854775808)(hr:Xc s=false) :
 C0 71 #[.agg #[V0 s.tx,V0 s.time,V0 s.unit,V0 s.data,V0 s.blocks,V0 s.top,V0 s.details,V0 s.dslots,V0 s.dover,V0 s.mindex,V0 s.mover]] w (Ret (.tuple #[S0,V0 1]) w):=by
 refine zin 28 Tryz.func71 ?_
 refine xa 2 [V0 s.tx,V0 s.time,V0 s.unit,V0 s.data,V0 s.blocks,V0 s.top,V0 s.details,V0 s.dslots,V0 s.dover,V0 s.mindex,V0 s.mover] 30 fun b1 W1 n1=>?_
 refine xlv 7 n1.blk.rp ?_
 refine xr 0 (args:=#[.agg #[V0 s.tx,V0 s.time,V0 s.unit,V0 s.data,V0 s.blocks,V0 s.top,V0 s.details,V0 s.dslots,V0 s.dover,V0 s.mindex,V0 s.mover]]) (Zbo s _ hb0 hb1) fun W2 a0=>?_
 refine xk 3 (show(!(Xc s):Bool)=true from by rw[hr];rfl) ?_
 have hB:=bln n1.below a0
 exact xe 8 (.tuple #[S0,V0 1]) ⟨rfl,hB⟩
theorem Zha(s:Sup)(w:World)(hb0:0≤s.blocks)(hb1:s.blocks<9223372036854775808)(hr:Xc s=true) :
 C0 71 #[.agg #[V0 s.tx,V0 s.time,V0 s.unit,V0 s.data,V0 s.blocks,V0 s.top,V0 s.details,V0 s.dslots,V0 s.dover,V0 s.mindex,V0 s.mover]] w (Yy (fun w' r=>∃ p c,r=.tuple #[.slice p 244 c,V0 0]∧w'.ownsRow w.heap.size 5 1 (.slice p 244 c) 244 ((Ub s).map bv)) w):=by
 have hN:=supN_bd hr
 refine zin 28 Tryz.func71 ?_
 refine xa 2 [V0 s.tx,V0 s.time,V0 s.unit,V0 s.data,V0 s.blocks,V0 s.top,V0 s.details,V0 s.dslots,V0 s.dover,V0 s.mindex,V0 s.mover] 30 fun b1 W1 n1=>?_
 refine xlv 7 n1.blk.rp ?_
 refine xr 0 (args:=#[.agg #[V0 s.tx,V0 s.time,V0 s.unit,V0 s.data,V0 s.blocks,V0 s.top,V0 s.details,V0 s.dslots,V0 s.dover,V0 s.mindex,V0 s.mover]]) (Zbo s _ hb0 hb1) fun W2 a3=>?_
 refine xk 3 (show(!(Xc s):Bool)=false from by rw[hr];rfl) ?_
 refine xbs 5 1 [V0 4,V0 1] 235 fun b3 W3 n3=>?_
 refine xa 0 [S0] 236 fun b4 W4 n4=>?_
 refine xs 0 n4.blk [.slice (S1 b3) 1 1] fun W5 u5 k5=>?_
 have g4:=n4.ge (bln (bln n1.below a3) n3.below)
 have k3:=u5.blkT (n3.blk.below n4.below) n4.blk (by decide)
 have g3:=n3.ge (bln n1.below a3)
 have a9:World.ownsRow W5 w.heap.size 235 2 (.slice (S1 b3) 1 1) 1 (([1]:List Int).flatMap Tu):=Zz (size:=2) (n:=1) k3 g3 rfl (by decide)
 have hB:=u5.below (bln (bln (bln n1.below a3) n3.below) n4.below) g4
 have b0:=u5.blkT (((n1.blk.below a3).below n3.below).below n4.below) n4.blk (by decide)
 refine xc 5 (args:=#[P0 b1,.func (.func 130) #[] #[P0 b4]]) (Zar w.heap.size w.heap.size b1 b4 s _ 1 _ (Nat.le_refl _) hB.size hB.size g4 hb0 hb1 b0 k5 a9) ?_
 rintro _ W6 ⟨u6,c0,b7,rfl,b8,d0,c7,b6⟩
 refine xb 4 0 c7 ?_
 refine xc 0 (args:=#[.slice c0 12 b7]) (Pack_4s c0 b7 (1::So s) _ (show 12≤1000 by decide) hN (Ze b6)) ?_
 rintro _ W7 ⟨_,rfl,c9,q2,d2,rfl,h2⟩
 have c3:=(hB.trans b8).size
 have b2:=Zf h2 c3
 replace h2:World.ownsRow _ _ _ _ (.slice q2 48 d2) 48 ((Jy (1::So s)).map bv):=b2
 have a8:=bln (hB.trans b8) c9
 have c1:=a8
 refine xmk 9 fun _ _ _ _ zJ zQ zo zx zy zK=>Ke 244 (.int .u8 0) 1 1 ((List.replicate 244 (0:UInt8)).map bv) zo zx zy Tryz.underlying22 (by kernel_rfl) rfl (by omega) (by omega) (Zbi 244) fun b9 W9 n9=>?_
 refine zK _ _ ?_
 have o9:=Zz (size:=1) (n:=244) n9.blk (n9.ge (B4 W7)) (by rw[List.length_map,List.length_replicate]) (by unfold maxLen;omega)
 refine xbi 7 (t2:=9) fun _ _ _ _ zJ zQ zo zx zy zK=>Zek (dLen:=244) (dCap:=244) (off:=0) ([83,67,65,78,84,76,73,78]) (((Ho++List.replicate 236 (0:UInt8)).map bv)) zo Tryz.underlying22 (by kernel_rfl) zx zy o9 (by decide) (by decide) n9.below.size (by rfl) fun d1 c4 c8 a4=>?_
 refine zK _ _ ?_
 have a0:=Ze h2
 have a1:=n9.below.trans a4
 refine xbi 2 (t2:=22) fun _ _ _ _ zJ zQ zo zx zy zK=>Wk (dLen:=236) (dCap:=236) (off:=8) 48 ((Jy (1::So s)).map bv) (((Ub s).map bv)) zo Tryz.underlying22 (by kernel_rfl) zx zy (a0.below a1) c4 (by rw[List.length_map,El];rfl) (by decide) (by decide) (Yt _) a1.size (sup_put3 s) fun c5 c6 c2 b5=>?_
 refine zK _ _ ?_
 have a5:=a1.trans b5
 have a7:B3 W7 c5:=a5
 have a6:w.heap.size≤W7.heap.size:=c1.size
 have hB:=bln c1 a7
 have a2:=Zf c6 a6
 exact xe 10 (.tuple #[.slice (S1 b9) 244 244,V0 0]) ⟨_,rfl,hB,_,_,rfl,a2⟩
theorem Ze1(l:Bl):0≤(Xe l).blocks∧(Xe l).blocks<9223372036854775808:=by
 have:=Yf l 28 4 (by decide)
 show 0≤(Zh l 28 4:Int)∧(Zh l 28 4:Int)<9223372036854775808
 omega
theorem sup_PutP(s:Sup)(w:World)(hb:0≤s.blocks∧s.blocks<9223372036854775808):C0 71 #[.agg #[V0 s.tx,V0 s.time,V0 s.unit,V0 s.data,V0 s.blocks,V0 s.top,V0 s.details,V0 s.dslots,V0 s.dover,V0 s.mindex,V0 s.mover]] w (fun e w' =>
 (Xc s=false∧e=.returned (.tuple #[S0,V0 1])∧B3 w w') ∨
 (Xc s=true∧∃ p c,e=.returned (.tuple #[.slice p 244 c,V0 0])∧B3 w w'∧w'.ownsRow w.heap.size 5 1 (.slice p 244 c) 244 ((Ub s).map bv))):=by
 cases hr:Xc s with
 | false =>
  refine(Zdz s w hb.1 hb.2 hr).mono ?_
  rintro e W ⟨rfl,h⟩
  exact .inl ⟨rfl,rfl,h⟩
 | true =>
  refine(Zha s w hb.1 hb.2 hr).mono ?_
  rintro e W ⟨_,rfl,h,p,c,rfl,ho⟩
  exact .inr ⟨rfl,p,c,rfl,h,ho⟩
def SupP(l:Bl)(w:World)(e:Ending)(w':World):Prop :=
 (Sb l=false∧e=.returned (.tuple #[.agg #[V0 0,V0 0,V0 0,V0 0,V0 0,V0 0,V0 0,V0 0,V0 0,V0 0,V0 0],V0 7])∧B3 w w')∨(Sb l=true∧e=.returned (.tuple #[.agg #[V0 ((Xe l).tx),V0 ((Xe l).time),V0 ((Xe l).unit),V0 ((Xe l).data),V0 ((Xe l).blocks),V0 ((Xe l).top),V0 ((Xe l).details),V0 ((Xe l).dslots),V0 ((Xe l).dover),V0 ((Xe l).mindex),V0 ((Xe l).mover)],V0 0])∧B3 w w')
theorem supOk_eq{l:Bl}(hl:l.length=244):Sb l=((Ub (Xe l)==l)&&Xc (Xe l)):=by rw[supB_eq hl];rfl
def supTE(l:Bl)(n:Nat):Int:=if Sb l then(if(n:Int)<(Xe l).blocks then 2 else 0) else 7
def Qo(l:Bl):Int:=if inE l 1 0=0 then supTE (inB l 0) (l.length/256) else inE l 1 0
theorem Vo(n lo hi:Int)(w:World) :
 C0 163 #[V0 n,V0 lo,V0 hi] w (Ret (.bool (decide (lo≤n∧n≤hi))) w):=by
 refine zin 15 Tryz.func163 ?_
 refine xg 11 [9,10] (decide (n≥lo)) (fun a0=>?_) (fun a0=>?_)
 ·have a0:=of_decide_eq_true a0
  exact xe 8 (.bool (decide (n≤hi))) ⟨by rw[show decide (lo≤n∧n≤hi)=decide (n≤hi) from by simp;omega],(B4 w)⟩
 have a0:=of_decide_eq_false a0
 exact xe 8 (.bool false) ⟨by rw[show decide (lo≤n∧n≤hi)=false from decide_eq_false (by omega)],(B4 w)⟩
theorem Zc0(s:Sup)(w:World)(hb0:0≤s.blocks)(hb1:s.blocks<9223372036854775808) :
 C0 97 #[.agg #[V0 s.tx,V0 s.time,V0 s.unit,V0 s.data,V0 s.blocks,V0 s.top,V0 s.details,V0 s.dslots,V0 s.dover,V0 s.mindex,V0 s.mover]] w (Ret (.bool (Xc s)) w):=by
 refine zin 69 Tryz.func97 ?_
 refine xa 2 [V0 s.tx,V0 s.time,V0 s.unit,V0 s.data,V0 s.blocks,V0 s.top,V0 s.details,V0 s.dslots,V0 s.dover,V0 s.mindex,V0 s.mover] 30 fun b1 W1 n1=>?_
 refine xb 7 0 n1.blk ?_
 refine xr 0 (args:=#[V0 s.tx,V0 0,V0 2147483647]) (Vo s.tx 0 2147483647 _) fun W2 b4=>?_
 refine xg 2 [7,8] (!(decide ((0:Int)≤s.tx∧s.tx≤2147483647))) (fun e8=>?_) (fun e8=>?_)
 ·have f1:(decide ((0:Int)≤s.tx∧s.tx≤2147483647))=false:=Gs e8
  have hB:=bln n1.below b4
  refine xe 33 (.bool false) ?_
  have hR:Xc s=false:=by
   unfold Xc
   first|(rw[f1];done)|(rw[f1];rfl)
  rw[hR];exact⟨rfl,hB⟩
 have a5:(decide ((0:Int)≤s.tx∧s.tx≤2147483647))=true:=Hx e8
 have e5:=n1.blk.below b4
 refine xb 1 1 e5 ?_
 refine xr 0 (args:=#[V0 s.time,V0 0,V0 16777215]) (Vo s.time 0 16777215 _) fun W6 b5=>?_
 refine xg 3 [12,13,14] (!(decide ((0:Int)≤s.time∧s.time≤16777215))) (fun e7=>?_) (fun e7=>?_)
 ·have f0:(decide ((0:Int)≤s.time∧s.time≤16777215))=false:=Gs e7
  have hB:=bln (bln n1.below b4) b5
  refine xe 27 (.bool false) ?_
  have hR:Xc s=false:=by
   unfold Xc
   first|(rw[a5,f0];done)|(rw[a5,f0];rfl)
  rw[hR];exact⟨rfl,hB⟩
 have a7:(decide ((0:Int)≤s.time∧s.time≤16777215))=true:=Hx e7
 have d4:=e5.below b5
 refine xb 1 2 d4 ?_
 refine xr 0 (args:=#[V0 s.unit,V0 1,V0 65536]) (Vo s.unit 1 65536 _) fun f2 a3=>?_
 refine xg 3 [18,19,20] (!(decide ((1:Int)≤s.unit∧s.unit≤65536))) (fun c2=>?_) (fun c2=>?_)
 ·have e3:(decide ((1:Int)≤s.unit∧s.unit≤65536))=false:=Gs c2
  have hB:=bln (bln (bln n1.below b4) b5) a3
  refine xe 21 (.bool false) ?_
  have hR:Xc s=false:=by
   unfold Xc
   first|(rw[a5,a7,e3];done)|(rw[a5,a7,e3];rfl)
  rw[hR];exact⟨rfl,hB⟩
 have a0:(decide ((1:Int)≤s.unit∧s.unit≤65536))=true:=Hx c2
 have d5:=d4.below a3
 refine xb 1 3 d5 ?_
 refine xr 0 (args:=#[V0 s.data,V0 0,V0 65536]) (Vo s.data 0 65536 _) fun f3 a6=>?_
 refine xg 3 [24,25,26] (!(decide ((0:Int)≤s.data∧s.data≤65536))) (fun c0=>?_) (fun c0=>?_)
 ·have c9:(decide ((0:Int)≤s.data∧s.data≤65536))=false:=Gs c0
  have hB:=bln (bln (bln (bln n1.below b4) b5) a3) a6
  refine xe 15 (.bool false) ?_
  have hR:Xc s=false:=by
   unfold Xc
   first|(rw[a5,a7,a0,c9];done)|(rw[a5,a7,a0,c9];rfl)
  rw[hR];exact⟨rfl,hB⟩
 have a1:(decide ((0:Int)≤s.data∧s.data≤65536))=true:=Hx c0
 have d1:=d5.below a6
 refine xb 1 4 d1 ?_
 refine xr 0 (args:=#[V0 s.blocks,V0 2,V0 14400]) (Vo s.blocks 2 14400 _) fun f7 a9=>?_
 refine xi 4 (!(decide ((2:Int)≤s.blocks∧s.blocks≤14400))) (fun b9=>?_) (fun b9=>?_)
 ·have d9:(decide ((2:Int)≤s.blocks∧s.blocks≤14400))=false:=Gs b9
  have hB:=bln (bln (bln (bln (bln n1.below b4) b5) a3) a6) a9
  refine xe 7 (.bool false) ?_
  have hR:Xc s=false:=by
   unfold Xc
   first|(rw[a5,a7,a0,a1,d9];done)|(rw[a5,a7,a0,a1,d9];rfl)
  rw[hR];exact⟨rfl,hB⟩
 have a2:(decide ((2:Int)≤s.blocks∧s.blocks≤14400))=true:=Hx b9
 have c6:=d1.below a9
 refine xb 5 4 c6 ?_
 refine xw 0 (s.blocks-1) ?_
 refine xb 6 5 c6 ?_
 refine xr 1 (args:=#[V0 s.top,V0 1,V0 (s.blocks-1)]) (Vo s.top 1 (s.blocks-1) _) fun f5 b0=>?_
 refine xg 1 [38,39] (decide ((1:Int)≤s.top∧s.top≤s.blocks-1)) (fun c8=>?_) (fun c8=>?_)
 ·have a4:(decide ((1:Int)≤s.top∧s.top≤s.blocks-1))=true:=c8
  have d3:=c6.below b0
  refine xb 1 6 d3 ?_
  refine xr 1 (args:=#[V0 s.details,V0 1,V0 (s.blocks-1)]) (Vo s.details 1 (s.blocks-1) _) fun f4 b2=>?_
  refine xg 2 [43,44,45] (decide ((1:Int)≤s.details∧s.details≤s.blocks-1)) (fun c7=>?_) (fun c7=>?_)
  ·have a8:(decide ((1:Int)≤s.details∧s.details≤s.blocks-1))=true:=c7
   have d0:=d3.below b2
   refine xb 1 7 d0 ?_
   refine xr 1 (args:=#[V0 s.dslots,V0 1,V0 (s.blocks-1)]) (Vo s.dslots 1 (s.blocks-1) _) fun f6 b6=>?_
   refine xg 2 [49,50,51] (decide ((1:Int)≤s.dslots∧s.dslots≤s.blocks-1)) (fun c4=>?_) (fun c4=>?_)
   ·have b3:(decide ((1:Int)≤s.dslots∧s.dslots≤s.blocks-1))=true:=c4
    have d2:=d0.below b6
    refine xb 1 8 d2 ?_
    refine xr 1 (args:=#[V0 s.dover,V0 1,V0 (s.blocks-1)]) (Vo s.dover 1 (s.blocks-1) _) fun f8 b7=>?_
    refine xg 2 [55,56,57] (decide ((1:Int)≤s.dover∧s.dover≤s.blocks-1)) (fun c5=>?_) (fun c5=>?_)
    ·have b8:(decide ((1:Int)≤s.dover∧s.dover≤s.blocks-1))=true:=c5
     have d8:=d2.below b7
     refine xb 1 9 d8 ?_
     refine xr 1 (args:=#[V0 s.mindex,V0 1,V0 (s.blocks-1)]) (Vo s.mindex 1 (s.blocks-1) _) fun g0 c3=>?_
     refine xg 2 [61,62,63] (decide ((1:Int)≤s.mindex∧s.mindex≤s.blocks-1)) (fun c1=>?_) (fun c1=>?_)
     ·have e1:(decide ((1:Int)≤s.mindex∧s.mindex≤s.blocks-1))=true:=c1
      have e4:=d8.below c3
      refine xb 1 10 e4 ?_
      refine xr 1 (args:=#[V0 s.mover,V0 1,V0 (s.blocks-1)]) (Vo s.mover 1 (s.blocks-1) _) fun f9 e9=>?_
      have hB:=bln (bln (bln (bln (bln (bln (bln (bln (bln (bln (bln n1.below b4) b5) a3) a6) a9) b0) b2) b6) b7) c3) e9
      refine xe 5 (.bool (decide ((1:Int)≤s.mover∧s.mover≤s.blocks-1))) ?_
      have hR:Xc s=(decide ((1:Int)≤s.mover∧s.mover≤s.blocks-1)):=by
       unfold Xc
       first|(rw[a5,a7,a0,a1,a2,a4,a8,b3,b8,e1];done)|(rw[a5,a7,a0,a1,a2,a4,a8,b3,b8,e1];rfl)
      rw[hR];exact⟨rfl,hB⟩
     have e0:(decide ((1:Int)≤s.mindex∧s.mindex≤s.blocks-1))=false:=c1
     have hB:=bln (bln (bln (bln (bln (bln (bln (bln (bln (bln n1.below b4) b5) a3) a6) a9) b0) b2) b6) b7) c3
     refine xe 9 (.bool false) ?_
     have hR:Xc s=false:=by
      unfold Xc
      first|(rw[a5,a7,a0,a1,a2,a4,a8,b3,b8,e0];done)|(rw[a5,a7,a0,a1,a2,a4,a8,b3,b8,e0];rfl)
     rw[hR];exact⟨rfl,hB⟩
    have e2:(decide ((1:Int)≤s.dover∧s.dover≤s.blocks-1))=false:=c5
    have hB:=bln (bln (bln (bln (bln (bln (bln (bln (bln n1.below b4) b5) a3) a6) a9) b0) b2) b6) b7
    refine xe 15 (.bool false) ?_
    have hR:Xc s=false:=by
     unfold Xc
     first|(rw[a5,a7,a0,a1,a2,a4,a8,b3,e2];done)|(rw[a5,a7,a0,a1,a2,a4,a8,b3,e2];rfl)
    rw[hR];exact⟨rfl,hB⟩
   have e6:(decide ((1:Int)≤s.dslots∧s.dslots≤s.blocks-1))=false:=c4
   have hB:=bln (bln (bln (bln (bln (bln (bln (bln n1.below b4) b5) a3) a6) a9) b0) b2) b6
   refine xe 21 (.bool false) ?_
   have hR:Xc s=false:=by
    unfold Xc
    first|(rw[a5,a7,a0,a1,a2,a4,a8,e6];done)|(rw[a5,a7,a0,a1,a2,a4,a8,e6];rfl)
   rw[hR];exact⟨rfl,hB⟩
  have d7:(decide ((1:Int)≤s.details∧s.details≤s.blocks-1))=false:=c7
  have hB:=bln (bln (bln (bln (bln (bln (bln n1.below b4) b5) a3) a6) a9) b0) b2
  refine xe 27 (.bool false) ?_
  have hR:Xc s=false:=by
   unfold Xc
   first|(rw[a5,a7,a0,a1,a2,a4,d7];done)|(rw[a5,a7,a0,a1,a2,a4,d7];rfl)
  rw[hR];exact⟨rfl,hB⟩
 have d6:(decide ((1:Int)≤s.top∧s.top≤s.blocks-1))=false:=c8
 have hB:=bln (bln (bln (bln (bln (bln n1.below b4) b5) a3) a6) a9) b0
 refine xe 33 (.bool false) ?_
 have hR:Xc s=false:=by
  unfold Xc
  first|(rw[a5,a7,a0,a1,a2,d6];done)|(rw[a5,a7,a0,a1,a2,d6];rfl)
 rw[hR];exact⟨rfl,hB⟩
end Go.Proofs.YtceeiinepijokaaGreat
