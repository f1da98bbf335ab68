/- The document's answer for the layers 3 and 11: an image's blocks, Of, Write, Bytes; Write of a block. -/
import Derived.Test.YtegcamkgeacjfaaGreatDoorMg3
namespace Go.Proofs.YtegcamkgeacjfaaGreatDoor
set_option maxHeartbeats 8000000
set_option maxRecDepth 100000
open Go.RowKit Go.Extern.Stop Go.Stop Go.Extern
set_option linter.unusedVariables false
attribute [local irreducible] wpList wpAnyH Code.wp Oper.wp Go
def Uu(l:Bl)(k:Nat):List Bl:=(List.range k).map (Ct l)
theorem Gu(l:Bl)(k:Nat):(Uu l k).length=k:=by simp[Uu]
theorem Zfh(l:Bl)(k:Nat):Uu l (k+1)=Uu l k++[Ct l k]:=by simp[Uu,List.range_succ]
theorem blksL_get(l:Bl){k i:Nat}(h:i<k):(Uu l k).getD i []=Ct l i:=by simp[Uu,List.getD,List.getElem?_range h]
theorem Zgi{l x:Bl}{k j:Nat}(hx:x.length=256)(hl:k*256≤l.length)(hj:j<k):(Uu l k).set j x=Uu (Vc l (j*256) x) k:=by
 apply List.ext_getElem?
 intro i
 by_cases hi:i<k
 ·rw[List.getElem?_set]
  have e1:∀ l:Bl,(Uu l k)[i]? = some (Ct l i):=fun l=>by simp[Uu,List.getElem?_range hi]
  rw[e1,e1]
  by_cases h:j=i
  ·subst h;rw[if_pos rfl,Gu,if_pos hi,Zb9 hx (by omega)]
  ·rw[if_neg h,Pr hx (by omega) (by omega) (by omega)]
 ·rw[List.getElem?_eq_none (by rw[List.length_set,Gu];omega),List.getElem?_eq_none (by rw[Gu];omega)]
theorem take_blk{l:Bl}{i:Nat}:l.take (i*256)++Ct l i=l.take ((i+1)*256):=by
 unfold Ct
 rw[Nat.add_mul,Nat.one_mul,List.take_add]
structure RefI(B bm:Nat)(p:Option Addr)(k c:Nat)(l:List UInt8)(w:World):Prop where
 blk:Blk w bm [.slice p k c] 98
 row:w.ownsRow B 9 1 (.slice p k c) k ((Uu l k).map sv)
 hk:k≤14400
 hl:l.length=k*256
theorem RefI.below{B bm:Nat}{p:O0}{k c:Nat}{l:Bl}{w W:World}(h:RefI B bm p k c l w)(hb:B3 w W):RefI B bm p k c l W:=⟨h.blk.below hb,Zb h.row hb,h.hk,h.hl⟩
theorem RefI.only{B bm:Nat}{p:O0}{k c:Nat}{l:Bl}{w W:World}{T:List TypeId}(h:RefI B bm p k c l w)(hO:Zd T w W)(hT:T.contains 98=false∧T.contains 9=false):RefI B bm p k c l W:=⟨h.blk.only hO hT.1,Zi h.row hO hT.2,h.hk,h.hl⟩
theorem RefI.mono{B B' bm:Nat}{p:O0}{k c:Nat}{l:Bl}{w:World}(h:RefI B bm p k c l w)(hB:B'≤B):RefI B' bm p k c l w:=⟨h.blk,Ze h.row hB,h.hk,h.hl⟩
theorem RefI.base{B bm:Nat}{p:O0}{k c:Nat}{l:Bl}{w:World}(h:RefI B bm p k c l w)(hn:0<k):∃ g,p=some ⟨g,0,none⟩:=by
 rcases h.row.2 with ⟨_,h0⟩|⟨g,a0,a1,hv,_,_,hc,_⟩
 ·omega
 ·simp only[Value.slice.injEq] at hv
  obtain⟨rfl,_,rfl⟩:=hv
  exact⟨g,rfl⟩
theorem Bm(B bm:Nat)(p:O0)(k c:Nat)(l:Bl)(w:World)(hI:RefI B bm p k c l w) :
 C0 13 #[P0 bm] w (Qn (fun w' r=>∃ p2 c2,r=.slice p2 (k*256) c2∧w'.ownsRow w.heap.size 5 1 (.slice p2 (k*256) c2) (k*256) (l.map bv)) w):=by
 have hk:=hI.blk
 have b3:=hI.hk
 have b2:=hI.hl
 have hr:=Zf hI.row
 refine zin 24 Tryz.func13 ?_
 refine xv1 17 3 (show(S0:Value)=.slice none (0*256) 0 from by rw[Nat.zero_mul]) ?_
 have hB:=Below.refl w.heap.size w
 refine zl 0 24 (fun zm a6 V=>∃ (i:Nat) (pb:O0) (cb:Nat),a6=[(0,P0 bm),(2,S0),(3,.slice pb (i*256) cb),(4,V0 (i:Int))]∧zm=k-((i:Int)).toNat∧B3 w V∧Blk V bm ([.slice p k c]) 98∧V.ownsRow w.heap.size 5 1 (.slice pb (i*256) cb) (i*256) ((l.take (i*256)).map bv)∧i≤k) ⟨0,_,_,rfl,rfl,hB,hk,by rw[Nat.zero_mul];exact World.ownsRow_nil _ _ _ _,Nat.zero_le _⟩ ?_
 rintro _ _ W1 ⟨i,pb,cb,rfl,rfl,a1,a0,a4,hi⟩ J1 b0 r1
 refine xb 7 0 a0 ?_
 refine xid 4 ((i:Int)<(k:Int)) (fun b1=>?_) (fun b1=>?_)
 ·refine xb 9 0 a0 ?_
  refine xx 1 _ k i 1 (Strs.elem hr (Gu l k) (k:=i) (by omega)).1 ?_
  refine xl 0 ((Strs.elem (hr.below a1) (Gu l k) (k:=i) (by omega)).2) ?_
  have a3:(Uu l k).getD i []=Ct l i:=blksL_get l (by omega)
  have a7:((Uu l k).getD i []).length=256:=by rw[a3];exact Hj (by omega)
  refine xbi 0 (t2:=9) fun _ _ _ _ zJ zQ zo zx zy zK=>Tj ((Uu l k).getD i []) ((i+1)*256) ((l.take ((i+1)*256)).map bv) zo Tryz.underlying40 Tryz.underlying9 (by kernel_rfl) zx a4 zy (by omega) a1.size (by omega) (by rw[a3,←List.map_append,take_blk]) ?_
  intro p3 c3 W3 o3 a8 a9
  refine zK _ _ ?_
  refine xwm 6 ((i:Int)+1) (↑(i+1):Int) ?_
  have a5:=a1.trans a9
  have a2:=a0.grown a8 a4 (by decide)
  exact ze 2 (b0 _ _ _ ⟨i+1,_,_,rfl,rfl,a5,a2,o3,by omega⟩ (by omega))
 refine xe 12 (.slice pb (i*256) cb) ?_
 obtain rfl:i=k:=by omega
 rw[List.take_of_length_le (by omega)] at a4
 exact⟨_,rfl,a1,_,_,rfl,a4⟩
theorem Cc(B bm:Nat)(p:O0)(k c:Nat)(l:Bl)(w:World)(hI:RefI B bm p k c l w)(no:Int)(x:Value)(ho:¬ (0≤no∧no<(k:Int))) :
 C0 188 #[P0 bm,V0 no,x] w (Ret (V0 3) w):=by
 have hk:=hI.blk
 have a1:=hI.hk
 have a2:=hI.hl
 refine zin 29 Tryz.func188 ?_
 refine xg 11 [8,9] (decide (no<(0:Int))) (fun a0=>?_) (fun a0=>?_)
 ·have a0:=of_decide_eq_true a0
  exact xe 18 (V0 3) ⟨rfl,(B4 w)⟩
 have a0:=of_decide_eq_false a0
 refine xb 4 0 hk ?_
 refine xk 5 (show(decide (no≥(k:Int)):Bool)=true from decide_eq_true (by omega)) ?_
 exact xe 7 (V0 3) ⟨rfl,(B4 w)⟩
theorem Ce(B bm g Bx:Nat)(k c j:Nat)(cur:List Value)(a:O0)(cx:Nat)(lx:Bl)(w:World)(hk:Blk w bm [.slice (S1 g) k c] 98)(kg:Blk w g cur 9)(hne:bm≠g)(hcl:k≤cur.length)(hj:j<k)(hx:w.ownsRow Bx 5 1 (.slice a 256 cx) 256 (lx.map bv))(hlx:lx.length=256)(hBw:B≤w.heap.size)(hBg:B≤g) :
 C0 188 #[P0 bm,V0 (j:Int),.slice a 256 cx] w ((fun e w'=>e=.returned (V0 0)∧Below B w w'∧Zd [9] w w'∧Blk w' g (cur.set j (sv lx)) 9)):=by
 refine zin 29 Tryz.func188 ?_
 refine xgk 11 [8,9] (show(decide ((j:Int)<(0:Int)):Bool)=false from decide_eq_false (by omega)) ?_
 refine xb 4 0 hk ?_
 refine xk 5 (show(decide ((j:Int)≥(k:Int)):Bool)=false from decide_eq_false (by omega)) ?_
 refine xd 14 (.t B [9]) ?_
 have a1:=hk.below (Za w)
 refine xbt (.e [0,1,2] 3) 0 B [9] a1 ?_
 have a2:=Zb hx (Za w)
 refine xcvt (.e [4,5] 6) (.t B [9]) (fun _ _ _ zo zx V hV=>Yn zo zx (Xp (Zf (Zi a2 hV.2 (by decide))) hlx) hlx Tryz.underlying40 Tryz.underlying5 Tryz.underlying9) ?_
 refine xxb (.e [] 7) g 0 k j 1 ?_
 have a0:=kg.below (Za w)
 refine ysg (.o [] 8) a0 (0+j*1) (.string ⟨lx.toArray⟩) (by omega) (.t B [9]) fun W2 u2 k2=>⟨(Zx u2 a0 hBg (by decide)),?_⟩
 replace k2:Blk W2 g (cur.set j (sv lx)) 9:=by rw[←(show cur.set (0+j*1) (.string ⟨lx.toArray⟩)=cur.set j (sv lx) from by rw[Nat.zero_add,Nat.mul_one];rfl)];exact k2
 have hB:=u2.below (blB (Below.refl B w) hBw (Za w)) hBg
 have hO:=(show Zd [9] w _ from(Zd.of_below (Za w))).trans (Zd.of_upd u2 a0 (by decide))
 exact xe 8 (V0 0) ⟨rfl,hB,hO,k2⟩
def WroteI(B bm:Nat)(p:O0)(k c:Nat)(l:Bl)(v:Value)(w:World)(e:Ending)(w':World):Prop :=
 e=.returned v∧Below B w w'∧Zd [9] w w'∧RefI B bm p k c l w'
theorem An(B bm Bx:Nat)(p:O0)(k c:Nat)(l:Bl)(j:Nat)(a:O0)(cx:Nat)(lx:Bl)(w:World)(hI:RefI B bm p k c l w)(hj:j<k)(hx:w.ownsRow Bx 5 1 (.slice a 256 cx) 256 (lx.map bv))(hlx:lx.length=256)(hBw:B≤w.heap.size) :
 C0 188 #[P0 bm,V0 (j:Int),.slice a 256 cx] w (WroteI B bm p k c (Vc l (j*256) lx) (V0 0) w):=by
 obtain⟨g,rfl⟩:=hI.base (by omega)
 have a0:=hI.row
 have a2:=Vz a0
 have a3:=Yx hI.blk a0 (by decide)
 have a5:=hI.hk
 have a4:=hI.hl
 obtain⟨a8,h2⟩:=a0
 rcases h2 with ⟨h2,_⟩|⟨g',a9,a1,hv,hg,hh,hc,hm,a7,a6⟩
 ·cases h2
 ·simp only[Value.slice.injEq,Option.some.injEq,Addr.mk.injEq] at hv
  obtain⟨⟨rfl,_⟩,_,rfl⟩:=hv
  have hb:Blk w g a1.toList 9:=by unfold Blk;simpa using hh
  refine(Ce B bm g Bx k c j a1.toList a cx lx w hI.blk hb a3 (by simp;omega) hj hx hlx hBw a2).mono ?_
  rintro e W ⟨rfl,hB,hO,k2⟩
  refine⟨rfl,hB,hO,hI.blk.only hO (by decide),⟨by rw[List.length_map,Gu,Nat.mul_one],.inr ⟨g,c,(a1.toList.set j (sv lx)).toArray,rfl,hg,k2,hc,hm,by simpa using a7,?_⟩⟩,a5,by rw[Vp (by omega),a4]⟩
  rw[←Zgi hlx (by omega) hj,List.map_set,←a6]
  simp[List.take_set]
def Bq(no er:Int):List Int:=if er=0 then [] else [no]
theorem fltL_nz{no er:Int}(h:er≠0):Bq no er=[no]:=if_neg h
theorem Zfm(no:Int)(w:World) :
 C0 197 #[V0 no,.agg #[S0,V0 0]] w (Ret (.agg #[S0,V0 0]) w):=by
 refine zin 17 Tryz.func197 ?_
 refine xa 2 [S0,V0 0] 35 fun b1 W1 n1=>?_
 refine xa 0 [S0,V0 0] 35 fun b2 W2 n2=>?_
 have a1:=n2.ne n1.blk
 have a0:=n1.blk.below n2.below
 refine xb 6 1 a0 ?_
 refine xsv 7 n2.blk [S0,V0 0] fun W3 u3 k3=>?_
 have g2:=n2.ge n1.below
 have hB:=u3.below (bln n1.below n2.below) g2
 exact xec 4 k3 (.agg #[S0,V0 0]) ⟨rfl,hB⟩
theorem Zds(no er:Int)(w:World)(he:er≠0) :
 C0 197 #[V0 no,.agg #[S0,V0 er]] w (Qn (fun w' r=>∃ a c,r=.agg #[.slice a 1 c,V0 er]∧w'.ownsRow w.heap.size 3 1 (.slice a 1 c) 1 [V0 no]) w):=by
 refine zin 17 Tryz.func197 ?_
 refine xa 2 [S0,V0 er] 35 fun b1 W1 n1=>?_
 refine xa 0 [S0,V0 0] 35 fun b2 W2 n2=>?_
 have h8:=n2.ne n1.blk
 have a0:=n1.blk.below n2.below
 refine xb 6 1 a0 ?_
 refine xk 3 (show((er==(0:Int)):Bool)=false from beq_false_of_ne he) ?_
 refine xd 3 (.t w.heap.size [3,35]) ?_
 refine xm3 (.b [0,2,5]) 1 3 6 ?_ ?_ ?_
 ·refine xbs 0 1 [V0 no] 3 fun b3 W3 n3=>?_
  refine xm2 0 3 6 ?_ ?_
  ·have a5:=(a0.below (Za W2)).below n3.below
   refine xb 0 0 a5 ?_
   refine xm2 0 4 6 ?_ ?_
   ·have g3:=n3.ge (bln (bln n1.below n2.below) (Za W2))
    have o4:=Zw (size:=1) (n:=1) n3.blk g3 rfl (by decide)
    have hB:=bln (bln (bln n1.below n2.below) (Za W2)) n3.below
    refine ybi 0 (.t w.heap.size [3,35]) fun _ _ _ _ zJ zQ zo zx zy zK=>Zn (m:=0) (news:=[]) (V0 0) 1 8 (1) ([V0 no]) zo Tryz.underlying33 (by kernel_rfl) rfl (by decide) zx o4 zy (.inl ⟨none,0,rfl,rfl,rfl⟩) rfl (by simp) (by unfold maxLen;omega) (by omega) hB.size (by rfl) (by rfl) fun h9 i0 W5 o5 f1 h4=>?_
    refine zK _ _ (Zt h4 f1 o4 (by decide)) ?_
    have h0:=a5.grown f1 o4 (by decide)
    refine xb (.o [] 6) 1 h0 ?_
    have k2:=((n2.blk.below (Za W2)).below n3.below).grown f1 o4 (by decide)
    have g2:=n2.ge n1.below
    refine ysv (.o [7] 8) k2 [.slice h9 1 i0,V0 er] (.t w.heap.size [3,35]) fun W6 u6 k6=>⟨(Zx u6 k2 g2 (by decide)),?_⟩
    have e4:=u6.below (hB.trans h4) g2
    have g9:=u6.own2 o5 k2 (by decide)
    exact xec 3 k6 (.agg #[.slice h9 1 i0,V0 er]) ⟨_,rfl,e4,_,_,rfl,g9⟩
   refine xb 0 1 a5 ?_
   have g3:=n3.ge (bln (bln n1.below n2.below) (Za W2))
   have o7:=Zw (size:=1) (n:=1) n3.blk g3 rfl (by decide)
   have hB:=bln (bln (bln n1.below n2.below) (Za W2)) n3.below
   refine ybi (.o [] 4) (.t w.heap.size [3,35]) fun _ _ _ _ zJ zQ zo zx zy zK=>Zn (m:=0) (news:=[]) (V0 0) 1 8 (1) ([V0 no]) zo Tryz.underlying33 (by kernel_rfl) rfl (by decide) zx o7 zy (.inl ⟨none,0,rfl,rfl,rfl⟩) rfl (by simp) (by unfold maxLen;omega) (by omega) hB.size (by rfl) (by rfl) fun h6 h3 W8 o8 h5 h7=>?_
   refine zK _ _ (Zt h7 h5 o7 (by decide)) ?_
   have k2:=((n2.blk.below (Za W2)).below n3.below).grown h5 o7 (by decide)
   have g2:=n2.ge n1.below
   refine ysv (.o [7] 8) k2 [.slice h6 1 h3,V0 er] (.t w.heap.size [3,35]) fun W9 u9 k9=>⟨(Zx u9 k2 g2 (by decide)),?_⟩
   have f0:=u9.below (hB.trans h7) g2
   have f5:=u9.own2 o8 k2 (by decide)
   exact xec 3 k9 (.agg #[.slice h6 1 h3,V0 er]) ⟨_,rfl,f0,_,_,rfl,f5⟩
  have a6:=(a0.below (Za W2)).below n3.below
  refine xb 0 1 a6 ?_
  refine xb (.o [] 3) 0 a6 ?_
  have g3:=n3.ge (bln (bln n1.below n2.below) (Za W2))
  have f9:=Zw (size:=1) (n:=1) n3.blk g3 rfl (by decide)
  have hB:=bln (bln (bln n1.below n2.below) (Za W2)) n3.below
  refine ybi (.o [] 4) (.t w.heap.size [3,35]) fun _ _ _ _ zJ zQ zo zx zy zK=>Zn (m:=0) (news:=[]) (V0 0) 1 8 (1) ([V0 no]) zo Tryz.underlying33 (by kernel_rfl) rfl (by decide) zx f9 zy (.inl ⟨none,0,rfl,rfl,rfl⟩) rfl (by simp) (by unfold maxLen;omega) (by omega) hB.size (by rfl) (by rfl) fun b4 c4 l6 i9 d3 a8=>?_
  refine zK _ _ (Zt a8 d3 f9 (by decide)) ?_
  have k2:=((n2.blk.below (Za W2)).below n3.below).grown d3 f9 (by decide)
  have g2:=n2.ge n1.below
  refine ysv (.o [7] 8) k2 [.slice b4 1 c4,V0 er] (.t w.heap.size [3,35]) fun k0 e7 i5=>⟨(Zx e7 k2 g2 (by decide)),?_⟩
  have e9:=e7.below (hB.trans a8) g2
  have d0:=e7.own2 i9 k2 (by decide)
  exact xec 3 i5 (.agg #[.slice b4 1 c4,V0 er]) ⟨_,rfl,e9,_,_,rfl,d0⟩
 ·have a2:=a0.below (Za W2)
  refine xb 0 0 a2 ?_
  refine xm2 0 1 6 ?_ ?_
  ·refine xbs 0 1 [V0 no] 3 fun l8 j6 a1=>?_
   refine xm2 0 4 6 ?_ ?_
   ·have g8:=a1.ge (bln (bln n1.below n2.below) (Za W2))
    have e2:=Zw (size:=1) (n:=1) a1.blk g8 rfl (by decide)
    have hB:=bln (bln (bln n1.below n2.below) (Za W2)) a1.below
    refine ybi 0 (.t w.heap.size [3,35]) fun _ _ _ _ zJ zQ zo zx zy zK=>Zn (m:=0) (news:=[]) (V0 0) 1 8 (1) ([V0 no]) zo Tryz.underlying33 (by kernel_rfl) rfl (by decide) zx e2 zy (.inl ⟨none,0,rfl,rfl,rfl⟩) rfl (by simp) (by unfold maxLen;omega) (by omega) hB.size (by rfl) (by rfl) fun d5 b9 l7 i8 a4 c1=>?_
    refine zK _ _ (Zt c1 a4 e2 (by decide)) ?_
    have h1:=(a2.below a1.below).grown a4 e2 (by decide)
    refine xb (.o [] 6) 1 h1 ?_
    have k2:=((n2.blk.below (Za W2)).below a1.below).grown a4 e2 (by decide)
    have g2:=n2.ge n1.below
    refine ysv (.o [7] 8) k2 [.slice d5 1 b9,V0 er] (.t w.heap.size [3,35]) fun l3 f2 j1=>⟨(Zx f2 k2 g2 (by decide)),?_⟩
    have g6:=f2.below (hB.trans c1) g2
    have d2:=f2.own2 i8 k2 (by decide)
    exact xec 3 j1 (.agg #[.slice d5 1 b9,V0 er]) ⟨_,rfl,g6,_,_,rfl,d2⟩
   have e6:=a2.below a1.below
   refine xb 0 1 e6 ?_
   have g8:=a1.ge (bln (bln n1.below n2.below) (Za W2))
   have f4:=Zw (size:=1) (n:=1) a1.blk g8 rfl (by decide)
   have hB:=bln (bln (bln n1.below n2.below) (Za W2)) a1.below
   refine ybi (.o [] 4) (.t w.heap.size [3,35]) fun _ _ _ _ zJ zQ zo zx zy zK=>Zn (m:=0) (news:=[]) (V0 0) 1 8 (1) ([V0 no]) zo Tryz.underlying33 (by kernel_rfl) rfl (by decide) zx f4 zy (.inl ⟨none,0,rfl,rfl,rfl⟩) rfl (by simp) (by unfold maxLen;omega) (by omega) hB.size (by rfl) (by rfl) fun c0 c3 k4 i3 c9 c2=>?_
   refine zK _ _ (Zt c2 c9 f4 (by decide)) ?_
   have k2:=((n2.blk.below (Za W2)).below a1.below).grown c9 f4 (by decide)
   have g2:=n2.ge n1.below
   refine ysv (.o [7] 8) k2 [.slice c0 1 c3,V0 er] (.t w.heap.size [3,35]) fun l1 g7 j4=>⟨(Zx g7 k2 g2 (by decide)),?_⟩
   have g1:=g7.below (hB.trans c2) g2
   have b5:=g7.own2 i3 k2 (by decide)
   exact xec 3 j4 (.agg #[.slice c0 1 c3,V0 er]) ⟨_,rfl,g1,_,_,rfl,b5⟩
  refine xb 0 1 a2 ?_
  refine xbs (.o [] 1) 1 [V0 no] 3 fun k7 k5 e1=>?_
  have i4:=e1.ge (bln (bln n1.below n2.below) (Za W2))
  have f6:=Zw (size:=1) (n:=1) e1.blk i4 rfl (by decide)
  have hB:=bln (bln (bln n1.below n2.below) (Za W2)) e1.below
  refine ybi (.o [] 4) (.t w.heap.size [3,35]) fun _ _ _ _ zJ zQ zo zx zy zK=>Zn (m:=0) (news:=[]) (V0 0) 1 8 (1) ([V0 no]) zo Tryz.underlying33 (by kernel_rfl) rfl (by decide) zx f6 zy (.inl ⟨none,0,rfl,rfl,rfl⟩) rfl (by simp) (by unfold maxLen;omega) (by omega) hB.size (by rfl) (by rfl) fun d1 c6 k8 i7 b7 b8=>?_
  refine zK _ _ (Zt b8 b7 f6 (by decide)) ?_
  have k2:=((n2.blk.below (Za W2)).below e1.below).grown b7 f6 (by decide)
  have g2:=n2.ge n1.below
  refine ysv (.o [7] 8) k2 [.slice d1 1 c6,V0 er] (.t w.heap.size [3,35]) fun j9 h2 j2=>⟨(Zx h2 k2 g2 (by decide)),?_⟩
  have g5:=h2.below (hB.trans b8) g2
  have d9:=h2.own2 i7 k2 (by decide)
  exact xec 3 j2 (.agg #[.slice d1 1 c6,V0 er]) ⟨_,rfl,g5,_,_,rfl,d9⟩
 have a3:=a0.below (Za W2)
 refine xb 0 1 a3 ?_
 refine xm2 0 1 3 ?_ ?_
 ·refine xbs 0 1 [V0 no] 3 fun j8 l2 b6=>?_
  have f7:=a3.below b6.below
  refine xb (.o [] 3) 0 f7 ?_
  have i6:=b6.ge (bln (bln n1.below n2.below) (Za W2))
  have f8:=Zw (size:=1) (n:=1) b6.blk i6 rfl (by decide)
  have hB:=bln (bln (bln n1.below n2.below) (Za W2)) b6.below
  refine ybi (.o [] 4) (.t w.heap.size [3,35]) fun _ _ _ _ zJ zQ zo zx zy zK=>Zn (m:=0) (news:=[]) (V0 0) 1 8 (1) ([V0 no]) zo Tryz.underlying33 (by kernel_rfl) rfl (by decide) zx f8 zy (.inl ⟨none,0,rfl,rfl,rfl⟩) rfl (by simp) (by unfold maxLen;omega) (by omega) hB.size (by rfl) (by rfl) fun c8 a7 l0 i1 d8 c7=>?_
  refine zK _ _ (Zt c7 d8 f8 (by decide)) ?_
  have k2:=((n2.blk.below (Za W2)).below b6.below).grown d8 f8 (by decide)
  have g2:=n2.ge n1.below
  refine ysv (.o [7] 8) k2 [.slice c8 1 a7,V0 er] (.t w.heap.size [3,35]) fun l4 g0 i2=>⟨(Zx g0 k2 g2 (by decide)),?_⟩
  have f3:=g0.below (hB.trans c7) g2
  have c5:=g0.own2 i1 k2 (by decide)
  exact xec 3 i2 (.agg #[.slice c8 1 a7,V0 er]) ⟨_,rfl,f3,_,_,rfl,c5⟩
 refine xb 0 0 a3 ?_
 refine xbs (.o [] 1) 1 [V0 no] 3 fun l5 k3 e0=>?_
 have j0:=e0.ge (bln (bln n1.below n2.below) (Za W2))
 have e5:=Zw (size:=1) (n:=1) e0.blk j0 rfl (by decide)
 have hB:=bln (bln (bln n1.below n2.below) (Za W2)) e0.below
 refine ybi (.o [] 4) (.t w.heap.size [3,35]) fun _ _ _ _ zJ zQ zo zx zy zK=>Zn (m:=0) (news:=[]) (V0 0) 1 8 (1) ([V0 no]) zo Tryz.underlying33 (by kernel_rfl) rfl (by decide) zx e5 zy (.inl ⟨none,0,rfl,rfl,rfl⟩) rfl (by simp) (by unfold maxLen;omega) (by omega) hB.size (by rfl) (by rfl) fun d7 a9 k1 j5 d6 b0=>?_
 refine zK _ _ (Zt b0 d6 e5 (by decide)) ?_
 have k2:=((n2.blk.below (Za W2)).below e0.below).grown d6 e5 (by decide)
 have g2:=n2.ge n1.below
 refine ysv (.o [7] 8) k2 [.slice d7 1 a9,V0 er] (.t w.heap.size [3,35]) fun j7 e3 j3=>⟨(Zx e3 k2 g2 (by decide)),?_⟩
 have e8:=e3.below (hB.trans b0) g2
 have d4:=e3.own2 j5 k2 (by decide)
 exact xec 3 j3 (.agg #[.slice d7 1 a9,V0 er]) ⟨_,rfl,e8,_,_,rfl,d4⟩
def FltO(no er:Int)(w:World)(e:Ending)(w':World):Prop:=∃ a c,e=.returned (.agg #[.slice a (Bq no er).length c,V0 er])∧B3 w w'∧w'.ownsRow w.heap.size 3 1 (.slice a (Bq no er).length c) (Bq no er).length ((Bq no er).map V0)
theorem Zg1(no er:Int)(w:World):C0 197 #[V0 no,.agg #[S0,V0 er]] w (FltO no er w):=by
 by_cases he:er=0
 ·subst he
  refine(Zfm no w).mono ?_
  rintro e W ⟨rfl,hb⟩
  exact⟨none,0,rfl,hb,World.ownsRow_nil _ _ _ _⟩
 ·refine(Zds no er w he).mono ?_
  rintro e W ⟨_,rfl,hb,a,c,rfl,ho⟩
  rw[FltO,fltL_nz he]
  exact⟨a,c,rfl,hb,ho⟩
theorem Sf(no er:Int)(w:World) :
 C0 106 #[V0 no,V0 er] w (FltO no er w):=by
 refine zin 9 Tryz.func106 ?_
 refine xa 2 [S0,V0 0] 35 fun b1 W1 n1=>?_
 refine xc 7 (args:=#[V0 no,.agg #[S0,V0 er]]) (Zg1 no er _) ?_
 rintro _ W2 ⟨a5,c5,rfl,a1,a2⟩
 have k1:=n1.blk.below a1
 refine xsv 0 k1 [.slice a5 ((Bq no er).length) c5,V0 er] fun W3 u3 k3=>?_
 have g1:=n1.ge (B4 w)
 have hB:=u3.below (bln n1.below a1) g1
 have a0:=u3.own2 (Ze a2 n1.below.size) k1 (by decide)
 exact xec 3 k3 (.agg #[.slice a5 ((Bq no er).length) c5,V0 er]) ⟨_,_,rfl,hB,a0⟩
def wrE (kind no:Int)(k:Nat)(li:Bl):Int:=if Vv kind no li=0 then(if 0≤no∧no<(k:Int) then 0 else 3) else Vv kind no li
def wrL (kind no:Int)(k:Nat)(li l:Bl):Bl:=if wrE kind no k li=0 then Vc l (no.toNat*256) (Xw kind no li) else l
def RefWr(B bm:Nat)(p:O0)(k c:Nat)(l:Bl)(no er:Int)(w:World)(e:Ending)(w':World):Prop :=
 ∃ a c2,e=.returned (.agg #[.slice a (Bq no er).length c2,V0 er])∧Below B w w'∧Zd [9] w w'∧RefI B bm p k c l w'∧w'.ownsRow w.heap.size 3 1 (.slice a (Bq no er).length c2) (Bq no er).length ((Bq no er).map V0)
theorem Am(kind no:Int)(a:O0)(c:Nat)(li:Bl)(w:World)(h:Bys w (.slice a li.length c) li)(hs:Vv kind no li≠0) :
 C0 187 #[V0 kind,V0 no,.slice a li.length c] w (Ret (.tuple #[S0,V0 (Vv kind no li)]) w):=by
 refine(Zce kind no a c li w h).mono ?_
 rintro e W (⟨_,rfl,hb⟩|⟨h0,_⟩)
 ·exact⟨rfl,hb⟩
 ·exact absurd h0 hs
theorem Bo(kind no:Int)(a:O0)(c:Nat)(li:Bl)(w:World)(h:Bys w (.slice a li.length c) li)(hs:Vv kind no li=0) :
 C0 187 #[V0 kind,V0 no,.slice a li.length c] w (fun e w'=>li.length≤244∧∃ p c,e=.returned (.tuple #[.slice p 256 c,V0 0])∧B3 w w'∧w'.ownsRow w.heap.size 5 1 (.slice p 256 c) 256 ((Xw kind no li).map bv)):=by
 refine(Zce kind no a c li w h).mono ?_
 rintro e W (⟨h0,_⟩|⟨_,_,hl,p,c2,rfl,hb,ho⟩)
 ·exact absurd hs h0
 ·exact⟨hl,p,c2,rfl,hb,ho⟩
theorem Fd(B bm:Nat)(p:O0)(k c:Nat)(l:Bl)(no kind:Int)(a:O0)(ca:Nat)(li:Bl)(w:World)(hI:RefI B bm p k c l w)(hin:Bys w (.slice a li.length ca) li)(hBw:B≤w.heap.size)(hs:Vv kind no li≠0) :
 C0 99 #[P0 bm,V0 no,V0 kind,.slice a li.length ca] w (RefWr B bm p k c l no (Vv kind no li) w):=by
 refine zin 29 Tryz.func99 ?_
 refine xa 2 [S0,V0 0] 35 fun b1 W1 n1=>?_
 have a0:=hin.below n1.below
 refine xc 7 (args:=#[V0 kind,V0 no,.slice a li.length ca]) (Am kind no a ca li _ a0 hs) ?_
 rintro _ W2 ⟨rfl,a1⟩
 refine xk 14 (show(((Vv kind no li) != (0:Int)):Bool)=true from bne_iff_ne.2 hs) ?_
 refine xc 4 (args:=#[V0 no,V0 (Vv kind no li)]) (Sf no (Vv kind no li) _) ?_
 rintro _ W3 ⟨a5,c5,rfl,a3,a7⟩
 have a6:=(blB (blB (Below.refl B w) hBw n1.below) hBw a1).size
 have k1:=(n1.blk.below a1).below a3
 refine xsv 0 k1 [.slice a5 ((Bq no (Vv kind no li)).length) c5,V0 (Vv kind no li)] fun W4 u4 k4=>?_
 have g1:=n1.ge0 (Below.refl B _)
 have hB:=u4.below (blB (blB (blB (Below.refl B w) hBw n1.below) hBw a1) hBw a3) (Nat.le_trans hBw g1)
 have hO:=(Zd.upd_new (((show Zd [9] w _ from(Zd.of_below n1.below)).trans (Zd.of_below a1)).trans (Zd.of_below a3)) u4 g1)
 have a4:=(((hI.below n1.below).below a1).below a3).only (Zd.of_upd (T:=[35]) u4 k1 (by decide)) (by decide)
 have a2:=u4.own2 (Ze a7 a6) k1 (by decide)
 exact xec 4 k4 (.agg #[.slice a5 ((Bq no (Vv kind no li)).length) c5,V0 (Vv kind no li)]) ⟨_,_,rfl,hB,hO,a4,a2⟩
theorem En(B bm:Nat)(p:O0)(k c:Nat)(l:Bl)(no kind:Int)(a:O0)(ca:Nat)(li:Bl)(w:World)(hI:RefI B bm p k c l w)(hin:Bys w (.slice a li.length ca) li)(hBw:B≤w.heap.size)(hs:Vv kind no li=0)(ho:¬ (0≤no∧no<(k:Int))) :
 C0 99 #[P0 bm,V0 no,V0 kind,.slice a li.length ca] w (RefWr B bm p k c l no 3 w):=by
 refine zin 29 Tryz.func99 ?_
 refine xa 2 [S0,V0 0] 35 fun b1 W1 n1=>?_
 have a0:=hin.below n1.below
 refine xc 7 (args:=#[V0 kind,V0 no,.slice a li.length ca]) (Bo kind no a ca li _ a0 hs) ?_
 rintro _ W2 ⟨b0,p2,c2,rfl,a2,h2⟩
 have b2:=(blB (Below.refl B w) hBw n1.below).size
 have a1:=(hI.below n1.below).below a2
 refine xr 23 (args:=#[P0 bm,V0 no,.slice p2 256 c2]) (Cc B bm p k c l _ a1 no _ ho) fun W3 a4=>?_
 refine xc 0 (args:=#[V0 no,V0 3]) (Sf no 3 _) ?_
 rintro _ W4 ⟨a5,c5,rfl,a6,a8⟩
 have a9:=(blB (blB (blB (Below.refl B w) hBw n1.below) hBw a2) hBw a4).size
 have k1:=((n1.blk.below a2).below a4).below a6
 refine xsv 0 k1 [.slice a5 ((Bq no 3).length) c5,V0 3] fun W5 u5 k5=>?_
 have g1:=n1.ge0 (Below.refl B _)
 have hB:=u5.below (blB (blB (blB (blB (Below.refl B w) hBw n1.below) hBw a2) hBw a4) hBw a6) (Nat.le_trans hBw g1)
 have hO:=(Zd.upd_new ((((show Zd [9] w _ from(Zd.of_below n1.below)).trans (Zd.of_below a2)).trans (Zd.of_below a4)).trans (Zd.of_below a6)) u5 g1)
 have a7:=((a1.below a4).below a6).only (Zd.of_upd (T:=[35]) u5 k1 (by decide)) (by decide)
 have a3:=u5.own2 (Ze a8 a9) k1 (by decide)
 exact xec 3 k5 (.agg #[.slice a5 ((Bq no 3).length) c5,V0 3]) ⟨_,_,rfl,hB,hO,a7,a3⟩
theorem Po(B bm:Nat)(p:O0)(k c:Nat)(l:Bl)(j:Nat)(kind:Int)(a:O0)(ca:Nat)(li:Bl)(w:World)(hI:RefI B bm p k c l w)(hin:Bys w (.slice a li.length ca) li)(hBw:B≤w.heap.size)(hs:Vv kind j li=0)(hj:j<k) :
 C0 99 #[P0 bm,V0 (j:Int),V0 kind,.slice a li.length ca] w (RefWr B bm p k c (Vc l (j*256) (Xw kind j li)) (j:Int) 0 w):=by
 refine zin 29 Tryz.func99 ?_
 refine xa 2 [S0,V0 0] 35 fun b1 W1 n1=>?_
 have a0:=hin.below n1.below
 refine xc 7 (args:=#[V0 kind,V0 (j:Int),.slice a li.length ca]) (Bo kind j a ca li _ a0 hs) ?_
 rintro _ W2 ⟨b2,p2,c2,rfl,a3,h2⟩
 have b5:=(blB (Below.refl B w) hBw n1.below).size
 have a4:=(hI.below n1.below).below a3
 have a7:=Ze h2 b5
 have hB:=blB (blB (Below.refl B w) hBw n1.below) hBw a3
 refine xc 23 (args:=#[P0 bm,V0 (j:Int),.slice p2 256 c2]) (An B bm _ p k c l j p2 c2 (Xw kind j li) _ a4 hj a7 (Uv b2) (Nat.le_trans hBw hB.size)) ?_
 rintro _ W3 ⟨rfl,b0,a9,hI⟩
 refine xc 0 (args:=#[V0 (j:Int),V0 0]) (Sf (j:Int) 0 _) ?_
 rintro _ W4 ⟨a5,c5,rfl,a2,b3⟩
 have b4:=(hB.trans b0).size
 have k1:=((n1.blk.below a3).only a9 (by decide)).below a2
 refine xsv 0 k1 [.slice a5 ((Bq (j:Int) 0).length) c5,V0 0] fun W5 u5 k5=>?_
 have g1:=n1.ge0 (Below.refl B _)
 have a8:=u5.below (blB (hB.trans b0) hBw a2) (Nat.le_trans hBw g1)
 have hO:=(Zd.upd_new ((((show Zd [9] w _ from(Zd.of_below n1.below)).trans (Zd.of_below a3)).trans a9).trans (Zd.of_below a2)) u5 g1)
 have a6:=(hI.below a2).only (Zd.of_upd (T:=[35]) u5 k1 (by decide)) (by decide)
 have a1:=u5.own2 (Ze b3 b4) k1 (by decide)
 exact xec 3 k5 (.agg #[.slice a5 ((Bq (j:Int) 0).length) c5,V0 0]) ⟨_,_,rfl,a8,hO,a6,a1⟩
theorem Ed(B bm:Nat)(p:O0)(k c:Nat)(l:Bl)(no kind:Int)(a:O0)(ca:Nat)(li:Bl)(w:World)(hI:RefI B bm p k c l w)(hin:Bys w (.slice a li.length ca) li)(hBw:B≤w.heap.size) :
 C0 99 #[P0 bm,V0 no,V0 kind,.slice a li.length ca] w (RefWr B bm p k c (wrL kind no k li l) no (wrE kind no k li) w):=by
 by_cases hs:Vv kind no li=0
 ·by_cases ho:0≤no∧no<(k:Int)
  ·have he:wrE kind no k li=0:=by unfold wrE;rw[if_pos hs,if_pos ho]
   obtain⟨j,rfl⟩:∃ j:Nat,no=j:=⟨no.toNat,by omega⟩
   rw[wrL,if_pos he,he]
   exact Po B bm p k c l j kind a ca li w hI hin hBw hs (by omega)
  ·have he:wrE kind no k li=3:=by unfold wrE;rw[if_pos hs,if_neg ho]
   rw[wrL,if_neg (by rw[he];decide),he]
   exact En B bm p k c l no kind a ca li w hI hin hBw hs ho
 ·have he:wrE kind no k li=Vv kind no li:=by unfold wrE;rw[if_neg hs]
  rw[wrL,if_neg (by rw[he];exact hs),he]
  exact Fd B bm p k c l no kind a ca li w hI hin hBw hs
theorem BysM.elem{w:World}{a:O0}{n c:Nat}{l:Bl}(h:Bys w (.slice a n c) l)(hl:l.length=n){k:Nat}(hk:k<n):a.isSome=true∧w.cell? (Zz a (k*1))=some (.int .u8 (↑(l.getD k 0).toNat:Int)):=by
 subst hl;exact Bys.elem h hk
def Nh(l:List Int)(n:Nat):List Int:=(List.range 960).map (atI l n)
theorem Ck(l:List Int)(n:Nat):(Nh l n).length=960:=by simp[Nh]
theorem padI_get(l:List Int)(n:Nat){k:Nat}(h:k<960):(Nh l n).getD k 0=atI l n k:=by simp[Nh,List.getD,List.getElem?_range h]
theorem Zgm(l:List Int)(n:Nat):(List.range n).map (atI l 0)=List.replicate n 0:=by
 apply List.ext_getElem
 ·simp
 ·intro i h1 h2;simp[atI]
theorem padI_zero(l:List Int):Nh l 0=List.replicate 960 0:=Zgm l 960
theorem padN_set{l:List Int}{i n:Nat}(hi:i<n):(((List.range n).map (atI l i)).map V0).set i (V0 (l.getD i 0))=((List.range n).map (atI l (i+1))).map V0:=by
 rw[←List.map_set]
 congr 1
 apply List.ext_getElem
 ·simp
 ·intro k h1 h2
  rw[List.getElem_set]
  simp only[List.getElem_map,List.getElem_range,atI]
  by_cases e:i=k
  ·subst e;rw[if_pos rfl,if_pos (by omega)]
  ·rw[if_neg e]
   by_cases h3:k<i
   ·rw[if_pos h3,if_pos (by omega)]
   ·rw[if_neg h3,if_neg (by omega)]
theorem padI_set{l:List Int}{i:Nat}(hi:i<960):((Nh l i).map V0).set i (V0 (l.getD i 0))=(Nh l (i+1)).map V0:=padN_set hi
theorem zeros960:Hs (Value.int .i64 0).cells.toList 960=(List.replicate 960 (0:Int)).map V0:=by
 rw[show(Value.int .i64 0).cells.toList=[Value.int .i64 0] from rfl,Hs,List.map_replicate]
 generalize 960=n
 induction n with
 | zero=>rfl
 | succ n ih=>rw[List.replicate_succ,List.flatten_cons,ih,List.replicate_succ];rfl
def grpB(l:List Int)(k:Nat):Bl:=leB l.length 4++(List.range k).map (g4B l l.length)
theorem grpB_succ(l:List Int)(k:Nat):grpB l (k+1)=grpB l k++[g4B l l.length k]:=by simp[grpB,List.range_succ]
theorem g4_u8{x:Int}(h0:0≤x)(h1:x<256):IntKind.u8.wrap x=((UInt8.ofNat x.toNat).toNat:Int):=by
 rw[UInt8.toNat_ofNat',Nat.mod_eq_of_lt (by omega),IntWalk.u8_in x (by omega)];omega
theorem ref09_Put(a:O0)(c:Nat)(l:List Int)(w:World)(hS:Hq l)(hl:l.length≤960)(h:Sl w (.slice a l.length c) l.length (l.map V0)) :
 C0 245 #[.slice a l.length c] w (Qn (fun w' r=>∃ p c,r=.tuple #[.slice p 244 c,V0 0]∧w'.ownsRow w.heap.size 5 1 (.slice p 244 c) 244 ((Ia l).map bv)) w):=by
 refine zin 74 Tryz.func245 ?_
 refine xk 14 (show(decide ((l.length:Int)>(960:Int)):Bool)=false from decide_eq_false (by omega)) ?_
 refine xmk 4 fun _ _ _ _ zJ zQ zo zx zy zK=>Kn 960 (V0 0) 1 8 ((List.replicate 960 (0:Int)).map V0) zo zx zy Tryz.underlying33 (by kernel_rfl) rfl (by omega) (by omega) (zeros960) fun b1 W1 n1=>?_
 refine zK _ _ ?_
 have o1:=Zw (size:=1) (n:=960) n1.blk (n1.ge (B4 w)) (by rw[List.length_map,List.length_replicate]) (by unfold maxLen;omega)
 refine zl 10 74 (fun zm b4 V=>∃ (i:Nat),b4=[(0,.slice a l.length c),(4,.slice (S1 b1) 960 960),(5,V0 (i:Int))]∧zm=l.length-((i:Int)).toNat∧B3 w V∧V.ownsRow w.heap.size 3 1 (.slice (S1 b1) 960 960) 960 ((Nh l i).map V0)∧i≤l.length) ⟨0,rfl,rfl,n1.below,(by rw[padI_zero];exact o1),Nat.zero_le _⟩ ?_
 rintro _ _ W2 ⟨i,rfl,rfl,a0,ho,hi⟩ J2 c7 r2
 refine xid 9 ((i:Int)<(l.length:Int)) (fun c0=>?_) (fun c0=>?_)
 ·refine xx 9 _ l.length i 1 (IntsN.elem h rfl (k:=i) (by omega)).1 ?_
  refine xl 0 ((IntsN.elem (h.below a0) rfl (k:=i) (by omega)).2) ?_
  refine xgk 2 [22,23] (show(decide ((l.getD i 0)<(0:Int)):Bool)=false from decide_eq_false (by have:=Uf hS i;omega)) ?_
  refine xx 2 _ l.length i 1 (IntsN.elem h rfl (k:=i) (by omega)).1 ?_
  refine xl 0 ((IntsN.elem (h.below a0) rfl (k:=i) (by omega)).2) ?_
  refine xk 4 (show(decide ((l.getD i 0)>(3:Int)):Bool)=false from decide_eq_false (by have:=Uf hS i;omega)) ?_
  refine xx 7 _ l.length i 1 (IntsN.elem h rfl (k:=i) (by omega)).1 ?_
  refine xl 0 ((IntsN.elem (h.below a0) rfl (k:=i) (by omega)).2) ?_
  refine xx 0 _ 960 i 1 (show(some (⟨b1,0,none⟩:Addr)).isSome=true from rfl) ?_
  refine xst 0 fun _ _ _ _ zJ zQ zo zx zy zK=>Xz (t:=3) (k:=i) (v:=V0 (l.getD i 0)) zo zx zy (by kernel_rfl) rfl ho (by omega) fun W5 u5 o5=>?_
  rw[padI_set (l:=l) (i:=i) (by omega)] at o5
  refine zK _ _ ?_
  refine xwm 5 ((i:Int)+1) (↑(i+1):Int) ?_
  have b2:=u5.below a0 (Vz ho)
  exact ze 2 (c7 _ _ _ ⟨i+1,rfl,rfl,b2,o5,by omega⟩ (by omega))
 refine xc 9 (args:=#[V0 (l.length:Int),V0 4]) (Xe (l.length:Int) 4 4 _ (Int.natCast_nonneg _) (by omega) rfl (by decide)) ?_
 rintro _ W6 ⟨_,rfl,b7,p4,c4,rfl,h4⟩
 have c8:i=l.length:=by omega
 have b0:=Zb ho b7
 have b6:=Ze h4 a0.size
 have b5:=bln a0 b7
 refine zl 10 74 (fun zm b4 V=>∃ (k m:Nat) (q:O0) (d:Nat),b4=[(4,.slice (S1 b1) 960 960),(6,.slice q m d),(7,V0 (↑(4*k):Int))]∧zm=960-((↑(4*k):Int)).toNat∧B3 w V∧V.ownsRow w.heap.size 3 1 (.slice (S1 b1) 960 960) 960 ((Nh l l.length).map V0)∧V.ownsRow w.heap.size 5 1 (.slice q m d) m ((grpB l k).map bv)∧k≤240∧m=4+k) ⟨0,4,_,_,rfl,rfl,b5,(by rw[←c8];exact b0),(by simpa [grpB] using b6),Nat.zero_le _,rfl⟩ ?_
 rintro _ _ W7 ⟨k,m,q,d,rfl,rfl,a8,hq,hr,hk,hm⟩ J7 c3 r7
 have hp:∀ j,j<960→(Nh l l.length).getD j 0=atI l l.length j:=fun j hj=>padI_get l _ hj
 have d2:=Nl hS l.length (4*k)
 have d0:=Nl hS l.length (4*k+1)
 have c9:=Nl hS l.length (4*k+2)
 have d1:=Nl hS l.length (4*k+3)
 have h9:k<240→(Nh l l.length).getD (4*k) 0=atI l l.length (4*k)∧(Nh l l.length).getD (4*k+1) 0=atI l l.length (4*k+1)∧(Nh l l.length).getD (4*k+2) 0=atI l l.length (4*k+2)∧(Nh l l.length).getD (4*k+3) 0=atI l l.length (4*k+3):=fun q=>⟨hp _ (by omega),hp _ (by omega),hp _ (by omega),hp _ (by omega)⟩
 refine xid 7 ((↑(4*k):Int)<(960:Int)) (fun c5=>?_) (fun c5=>?_)
 ·refine xd 4 (.t w.heap.size [5]) ?_
  refine xx (.e [0,1,2] 3) _ 960 (4*k) 1 (show(some (⟨b1,0,none⟩:Addr)).isSome=true from rfl) ?_
  have a1:=Zb hq (Za W7)
  refine xlt (.e [] 4) (.t w.heap.size [5]) (fun V hV=>(IntsN.elem (Zf (Zi a1 hV.2 (by decide))) (Ck l l.length) (k:=(4*k)) (by omega)).2) ?_
  refine xwm (.e [5,6] 7) ((↑(4*k):Int)+1) (↑((4*k)+1):Int) ?_
  refine xx (.e [] 8) _ 960 ((4*k)+1) 1 (show(some (⟨b1,0,none⟩:Addr)).isSome=true from rfl) ?_
  refine xlt (.e [] 9) (.t w.heap.size [5]) (fun V hV=>(IntsN.elem (Zf (Zi a1 hV.2 (by decide))) (Ck l l.length) (k:=((4*k)+1)) (by omega)).2) ?_
  refine xw (.e [] 10) (4*((Nh l l.length).getD ((4*k)+1) 0)) ?_
  refine xw (.e [] 11) (((Nh l l.length).getD (4*k) 0)+(4*((Nh l l.length).getD ((4*k)+1) 0))) ?_
  refine xwm (.e [12,13] 14) ((↑(4*k):Int)+2) (↑((4*k)+2):Int) ?_
  refine xx (.e [] 15) _ 960 ((4*k)+2) 1 (show(some (⟨b1,0,none⟩:Addr)).isSome=true from rfl) ?_
  refine xlt (.e [] 16) (.t w.heap.size [5]) (fun V hV=>(IntsN.elem (Zf (Zi a1 hV.2 (by decide))) (Ck l l.length) (k:=((4*k)+2)) (by omega)).2) ?_
  refine xw (.e [] 17) (16*((Nh l l.length).getD ((4*k)+2) 0)) ?_
  refine xw (.e [] 18) (((Nh l l.length).getD (4*k) 0)+(4*((Nh l l.length).getD ((4*k)+1) 0))+(16*((Nh l l.length).getD ((4*k)+2) 0))) ?_
  refine xwm (.e [19,20] 21) ((↑(4*k):Int)+3) (↑((4*k)+3):Int) ?_
  refine xx (.e [] 22) _ 960 ((4*k)+3) 1 (show(some (⟨b1,0,none⟩:Addr)).isSome=true from rfl) ?_
  refine xlt (.e [] 23) (.t w.heap.size [5]) (fun V hV=>(IntsN.elem (Zf (Zi a1 hV.2 (by decide))) (Ck l l.length) (k:=((4*k)+3)) (by omega)).2) ?_
  refine xw (.e [] 24) (64*((Nh l l.length).getD ((4*k)+3) 0)) ?_
  refine xw (.e [] 25) (((Nh l l.length).getD (4*k) 0)+(4*((Nh l l.length).getD ((4*k)+1) 0))+(16*((Nh l l.length).getD ((4*k)+2) 0))+(64*((Nh l l.length).getD ((4*k)+3) 0))) ?_
  refine xq (.e [] 26) (congrArg (Value.int .u8) (show(IntKind.u8.wrap (((Nh l l.length).getD (4*k) 0)+(4*((Nh l l.length).getD ((4*k)+1) 0))+(16*((Nh l l.length).getD ((4*k)+2) 0))+(64*((Nh l l.length).getD ((4*k)+3) 0))):Int)=(↑(g4B l l.length k).toNat:Int) from by obtain⟨q0,q1,q2,q3⟩:=h9 (by omega);rw[q0,q1,q2,q3];exact g4_u8 (by omega) (by omega))) ?_
  refine xbs (.o [] 27) 1 [.int .u8 (↑(g4B l l.length k).toNat:Int)] 5 fun b9 W9 n9=>?_
  have a7:=bln a8 (Za W7)
  have g9:=n9.ge a7
  have a4:=Zb hr (Za W7)
  have b8:=Zr a4 n9
  have a2:=Zb a4 n9.below
  have a6:=bln a7 n9.below
  refine ybi (.o [] 28) (.t w.heap.size [5]) fun _ _ _ _ zJ zQ zo zx zy zK=>Zn (m:=1) (news:=[.int .u8 (↑(g4B l l.length k).toNat:Int)]) (.int .u8 0) 1 1 (m+1) (((grpB l (k+1)).map bv)) zo Tryz.underlying40 (by kernel_rfl) rfl (by decide) zx a2 zy (n9.blk.sl 1 1 (by decide) (by decide)) rfl (by simp[Value.oneCell']) (by unfold maxLen;omega) (by omega) a6.size (by rfl) (by rw[grpB_succ,List.map_append];rfl) fun c6 c2 d3 c1 a3 a5=>?_
  refine zK _ _ (Zt a5 a3 a2 (by decide)) ?_
  refine xwm (.r [29] 5) ((↑(4*k):Int)+4) (↑((4*k)+4):Int) ?_
  refine xv1 2 7 (show(V0 (↑((4*k)+4):Int):Value)=V0 (↑(4*(k+1)):Int) from by congr 1) ?_
  have b3:=a6.trans a5
  have a9:=Zo (Zb a1 n9.below) a3 a2 (by decide)
  exact ze 0 (c3 _ _ _ ⟨k+1,m+1,_,_,rfl,rfl,b3,a9,c1,by omega,by omega⟩ (by omega))
 refine xe 13 (.tuple #[.slice q m d,V0 0]) ?_
 obtain rfl:k=240:=by omega
 subst hm
 exact⟨_,rfl,a8,_,_,rfl,hr⟩
end Go.Proofs.YtegcamkgeacjfaaGreatDoor
namespace Go.Proofs.YtegcamkgeacjfaaGreatDoor
set_option maxHeartbeats 8000000
set_option maxRecDepth 100000
open Go.RowKit
set_option linter.unusedVariables false
theorem Za9{P:Program}{a:Act}{o:Oper}{t t2:TypeId}{x y:Operand}{l m:Bl}(ho:o.op=.binOp .add t x y t2)(hx:a.eval x=.string ⟨l.toArray⟩)(hy:a.eval y=.string ⟨m.toArray⟩)(hl:l.length+m.length≤1000000)(w:World):(execOp a.eval o).run P w=.ok (.value (.string ⟨(l++m).toArray⟩)) w:=by
 have e:(⟨l.toArray⟩:ByteArray)++⟨m.toArray⟩=⟨(l++m).toArray⟩:=by
  apply ByteArray.ext
  simp
 have g:binOp .add t (.string ⟨l.toArray⟩) (.string ⟨m.toArray⟩)=pure (.string ((⟨l.toArray⟩:ByteArray)++⟨m.toArray⟩)):=by
  have h:¬ (9223372036854775807:Int)<((⟨l.toArray⟩:ByteArray).size:Int)+((⟨m.toArray⟩:ByteArray).size:Int):=by simp[ByteArray.size];omega
  simp[binOp,Op.stringOp]
  intro q;exact absurd q h
 have q:eqGuard .add t x y (.string ⟨l.toArray⟩:Value) (.string ⟨m.toArray⟩:Value)=pure ():=rfl
 simp only[execOp,ho,hx,hy,g,e,q]
 simp
end Go.Proofs.YtegcamkgeacjfaaGreatDoor
namespace Go.Proofs.YtegcamkgeacjfaaGreatDoor
set_option maxHeartbeats 8000000
set_option maxRecDepth 100000
open Go.RowKit Go.Extern.Stop Go.Stop Go.Extern
set_option linter.unusedVariables false
attribute [local irreducible] wpList wpAnyH Code.wp Oper.wp Go
theorem Qv(n lo hi:Int)(w:World) :
 C0 177 #[V0 n,V0 lo,V0 hi] w (Ret (.bool (decide (lo≤n∧n≤hi))) w):=by
 refine zin 15 Tryz.func177 ?_
 refine xg 11 [9,10] (decide (n≥lo)) (fun a0=>?_) (fun a0=>?_)
 ·have a0:=of_decide_eq_true a0
  exact xe 8 (.bool (decide (n≤hi))) ⟨by rw[show decide (lo≤n∧n≤hi)=decide (n≤hi) from by simp;omega],(B4 w)⟩
 have a0:=of_decide_eq_false a0
 exact xe 8 (.bool false) ⟨by rw[show decide (lo≤n∧n≤hi)=false from decide_eq_false (by omega)],(B4 w)⟩
def Fc(N:List Int)(ws:List Nat)(k:Nat):Bl:=(List.range k).flatMap fun i=>leB (N.getD i 0) (ws.getD i 0)
theorem Ii(N:List Int)(ws:List Nat)(k:Nat):Fc N ws (k+1)=Fc N ws k++leB (N.getD k 0) (ws.getD k 0):=by simp[Fc,List.range_succ]
def Zc7(N:List Int)(ws:List Nat):Prop:=N.length≤100∧ws.length=N.length∧∀ i,i<N.length→0≤N.getD i 0∧N.getD i 0<9223372036854775808∧ws.getD i 0≤8
theorem Zbu{N:List Int}{ws:List Nat}(h:Zc7 N ws):∀ k,k≤N.length→(Fc N ws k).length≤k*8
 | 0,_=>Nat.zero_le _
 | k+1,hk=>by
  rw[Ii,List.length_append,Zh]
  have:=Zbu h k (by omega)
  have:=(h.2.2 k (by omega)).2.2
  omega
theorem Jq(N:List Int)(ws:List Nat)(gn gw:O0)(cn cw:Nat)(w:World)(hok:Zc7 N ws)(hN:Sl w (.slice gn N.length cn) N.length (N.map V0))(hW:Sl w (.slice gw N.length cw) N.length (ws.map nv)) :
 C0 178 #[.slice gn N.length cn,.slice gw N.length cw] w (Ret (.string ⟨(Fc N ws N.length).toArray⟩) w):=by
 have b1:=hok.1
 have a5:=hok.2.1
 refine zin 26 Tryz.func178 ?_
 have hB:=Below.refl w.heap.size w
 refine zl 17 26 (fun zm a6 V=>∃ (i:Nat),a6=[(0,.slice gn N.length cn),(1,.slice gw N.length cw),(4,.string ⟨#[]⟩),(5,.string ⟨(Fc N ws i).toArray⟩),(6,V0 (i:Int))]∧zm=N.length-((i:Int)).toNat∧B3 w V∧i≤N.length) ⟨0,rfl,rfl,hB,Nat.zero_le _⟩ ?_
 rintro _ _ W1 ⟨i,rfl,rfl,a1,hi⟩ J1 a7 r1
 have b0:=Zbu hok i hi
 have a9:i<N.length→ws.getD i 0≤8:=fun q=>(hok.2.2 i q).2.2
 refine xid 9 ((i:Int)<(N.length:Int)) (fun a8=>?_) (fun a8=>?_)
 ·refine xd 4 .z ?_
  refine xx (.e [0,1,2] 3) _ N.length i 1 (IntsN.elem hN rfl (k:=i) (by omega)).1 ?_
  have a0:=bln a1 (Za W1)
  refine xl (.e [] 4) ((IntsN.elem (hN.below a0) rfl (k:=i) (by omega)).2) ?_
  refine xx (.e [5,6] 7) _ N.length i 1 (Ha hW a5 (k:=i) (by omega)).1 ?_
  refine xl (.e [] 8) ((Ha (hW.below a0) a5 (k:=i) (by omega)).2) ?_
  refine yc (.o [] 9) (args:=#[V0 (N.getD i 0),V0 (↑(ws.getD i 0):Int)]) .z (Xe (N.getD i 0) (ws.getD i 0) (↑(ws.getD i 0):Int) _ (hok.2.2 i (by omega)).1 (hok.2.2 i (by omega)).2.1 rfl (hok.2.2 i (by omega)).2.2) ?_
  rintro _ W3 ⟨_,rfl,a4,p2,c2,rfl,h2⟩
  refine⟨a4,?_⟩
  have a3:=Ze h2 a0.size
  refine xcv (.e [] 10) (fun _ _ _ zo zx V hV=>Yn zo zx (Xp (Zf (Zb a3 hV)) (Zh _ _)) (Zh _ _) Tryz.underlying40 Tryz.underlying5 Tryz.underlying9) ?_
  refine xbo (.e [] 11) (t:=9) (t2:=9) (fun _ _ _ _ zo zx zy V hV=>Za9 (l:=Fc N ws i) (m:=leB (N.getD i 0) (ws.getD i 0)) zo zx zy (by rw[Zh];omega) V) ?_
  refine xwm (.r [12] 5) ((i:Int)+1) (↑(i+1):Int) ?_
  refine xv1 2 5 (show(.string ⟨(Fc N ws i++leB (N.getD i 0) (ws.getD i 0)).toArray⟩:Value)=.string ⟨(Fc N ws (i+1)).toArray⟩ from by rw[Ii]) ?_
  have a2:=bln a0 a4
  exact ze 0 (a7 _ _ _ ⟨i+1,rfl,rfl,a2,by omega⟩ (by omega))
 refine xe 12 (.string ⟨(Fc N ws i).toArray⟩) ?_
 obtain rfl:i=N.length:=by omega
 exact⟨rfl,a1⟩
def Fm(x y z:Int):Bool:=decide (1≤x∧x≤14399)&&decide (0≤y∧y≤960)&&decide (0≤z∧z≤960)
def SlotStrP(x y z:Int)(w:World)(e:Ending)(w':World):Prop :=
 (Fm x y z=false∧e=.returned (.string ⟨#[]⟩)∧B3 w w')∨(Fm x y z=true∧e=.returned (.string ⟨(Fc [x,y,z] [8,4,4] 3).toArray⟩)∧B3 w w')
theorem slotQ_ok{x y z:Int}(h:Fm x y z=true):Zc7 [x,y,z] [8,4,4]:=by
 unfold Fm at h
 simp only[Bool.and_eq_true,decide_eq_true_iff] at h
 refine⟨show 3≤100 from by decide,rfl,fun i hi=>?_⟩
 have a0:i<3:=hi
 obtain rfl|rfl|rfl:i=0∨i=1∨i=2:=by omega
 all_goals simp[List.getD]
 all_goals omega
theorem Zer(x y z:Int)(w:World) :
 C0 183 #[.agg #[V0 x,V0 y,V0 z]] w (SlotStrP x y z w):=by
 refine zin 28 Tryz.func183 ?_
 refine xa 2 [V0 x,V0 y,V0 z] 252 fun b1 W1 n1=>?_
 refine xb 7 0 n1.blk ?_
 refine xr 0 (args:=#[V0 x,V0 1,V0 14399]) (Qv x 1 14399 _) fun W2 a3=>?_
 refine xg 2 [6,7] (!(decide ((1:Int)≤x∧x≤14399))) (fun b3=>?_) (fun b3=>?_)
 ·have c3:(decide ((1:Int)≤x∧x≤14399))=false:=Va b3
  have hB:=bln n1.below a3
  exact xe 21 (.string ⟨#[]⟩) (.inl ⟨by unfold Fm;first|(rw[c3];done)|(rw[c3];rfl),rfl,hB⟩)
 have a5:(decide ((1:Int)≤x∧x≤14399))=true:=Vb b3
 have a8:=n1.blk.below a3
 refine xb 1 1 a8 ?_
 refine xr 0 (args:=#[V0 y,V0 0,V0 960]) (Qv y 0 960 _) fun W6 b0=>?_
 refine xg 3 [11,12,13] (!(decide ((0:Int)≤y∧y≤960))) (fun b8=>?_) (fun b8=>?_)
 ·have c0:(decide ((0:Int)≤y∧y≤960))=false:=Va b8
  have hB:=bln (bln n1.below a3) b0
  exact xe 15 (.string ⟨#[]⟩) (.inl ⟨by unfold Fm;first|(rw[a5,c0];done)|(rw[a5,c0];rfl),rfl,hB⟩)
 have b4:(decide ((0:Int)≤y∧y≤960))=true:=Vb b8
 have a7:=a8.below b0
 refine xb 1 2 a7 ?_
 refine xr 0 (args:=#[V0 z,V0 0,V0 960]) (Qv z 0 960 _) fun c6 a1=>?_
 refine xi 4 (!(decide ((0:Int)≤z∧z≤960))) (fun a2=>?_) (fun a2=>?_)
 ·have a6:(decide ((0:Int)≤z∧z≤960))=false:=Va a2
  have hB:=bln (bln (bln n1.below a3) b0) a1
  exact xe 7 (.string ⟨#[]⟩) (.inl ⟨by unfold Fm;first|(rw[a5,b4,a6];done)|(rw[a5,b4,a6];rfl),rfl,hB⟩)
 have b6:(decide ((0:Int)≤z∧z≤960))=true:=Vb a2
 have a0:=a7.below a1
 refine xb 5 0 a0 ?_
 refine xb 1 1 a0 ?_
 refine xb 1 2 a0 ?_
 refine xbs 0 3 [V0 x,V0 y,V0 z] 3 fun c2 c7 b5=>?_
 refine xbs 0 3 [V0 8,V0 4,V0 4] 3 fun c1 c4 a9=>?_
 have b2:=a9.ne b5.blk
 have b9:Fm x y z=true:=by
  unfold Fm
  rw[a5,b4,b6];rfl
 have a4:=b5.blk.below a9.below
 refine xr 0 (args:=#[.slice (S1 c2) 3 3,.slice (S1 c1) 3 3]) (Jq [x,y,z] [8,4,4] (S1 c2) (S1 c1) 3 3 _ (slotQ_ok b9) (a4.sl 3 3 (by decide) (by decide)) (a9.blk.sl 3 3 (by decide) (by decide))) fun c5 b7=>?_
 have hB:=bln (bln (bln (bln (bln (bln n1.below a3) b0) a1) b5.below) a9.below) b7
 exact xe 4 (.string ⟨(Fc [x,y,z] [8,4,4] 3).toArray⟩) (.inr ⟨b9,rfl,hB⟩)
theorem slot_txt(x y z:Int):Fc [x,y,z] [8,4,4] 3=leB x 8++leB y 4++leB z 4:=by simp[Fc,List.range,List.range.loop]
theorem cnt_txt(x:Int):Fc [x] [4] 1=leB x 4:=by simp[Fc,List.range,List.range.loop]
theorem cnt_ok{n:Int}(h:3≤n∧n≤2147483647):Zc7 [n] [4]:=by
 refine⟨show 1≤100 from by decide,rfl,fun i hi=>?_⟩
 have a0:i<1:=hi
 obtain rfl:i=0:=by omega
 simp[List.getD]
 omega
theorem Lp(n:Int)(w:World)(hn:3≤n∧n≤2147483647) :
 C0 244 #[V0 n] w (Ret (.string ⟨(leB n 4).toArray⟩) w):=by
 refine zin 10 Tryz.func244 ?_
 refine xr 9 (args:=#[V0 n,V0 3,V0 2147483647]) (Qv n 3 2147483647 _) fun W1 a2=>?_
 refine xk 3 (show(!(decide ((3:Int)≤n∧n≤(2147483647:Int))):Bool)=false from by rw[decide_eq_true hn];rfl) ?_
 refine xbs 5 1 [V0 n] 3 fun b2 W2 n2=>?_
 refine xbs 0 1 [V0 4] 3 fun b3 W3 n3=>?_
 have a1:=n3.ne n2.blk
 have a0:=n2.blk.below n3.below
 refine xr 0 (args:=#[.slice (S1 b2) 1 1,.slice (S1 b3) 1 1]) (Jq [n] [4] (S1 b2) (S1 b3) 1 1 _ (cnt_ok hn) (a0.sl 1 1 (by decide) (by decide)) (n3.blk.sl 1 1 (by decide) (by decide))) fun W4 a3=>?_
 have hB:=bln (bln (bln a2 n2.below) n3.below) a3
 exact xe 4 (.string ⟨(Fc [n] [4] 1).toArray⟩) ⟨by rw[cnt_txt],hB⟩
theorem Ng(x y z:Int)(w:World)(h1:1≤x∧x≤14399)(h2:0≤y∧y≤960)(h3:0≤z∧z≤960):C0 183 #[.agg #[V0 x,V0 y,V0 z]] w (Ret (.string ⟨(leB x 8++leB y 4++leB z 4).toArray⟩) w):=by
 refine(Zer x y z w).mono ?_
 rintro e W (⟨h,_,_⟩|⟨_,rfl,hb⟩)
 ·unfold Fm at h
  rw[decide_eq_true h1,decide_eq_true h2,decide_eq_true h3] at h
  exact absurd h (by decide)
 ·exact⟨by rw[slot_txt],hb⟩
theorem Zfs(a:O0)(c:Nat)(l:List Int)(w:World)(hl:l.length≤960)(h:Sl w (.slice a l.length c) l.length (l.map V0)) :
 C0 246 #[.slice a l.length c] w (Ret (.tuple #[V0 (↑(Yb l):Int),V0 (↑(Xd l):Int)]) w):=by
 refine zin 35 Tryz.func246 ?_
 have hB:=Below.refl w.heap.size w
 refine zl 18 35 (fun zm a4 V=>∃ (i f:Nat),a4=[(0,.slice a l.length c),(2,V0 0),(3,V0 0),(4,V0 (f:Int)),(5,V0 (i:Int))]∧zm=l.length-((i:Int)).toNat∧B3 w V∧i≤l.length∧f=Zbe l i) ⟨0,0,rfl,rfl,hB,Nat.zero_le _,rfl⟩ ?_
 rintro _ _ W1 ⟨i,f,rfl,rfl,a1,hi,hf⟩ J1 a7 r1
 have a6:=fun(q:i<l.length)=>Rx q
 have b2:=Wt l i
 refine xid 9 ((i:Int)<(l.length:Int)) (fun b1=>?_) (fun b1=>?_)
 ·refine xx 8 _ l.length i 1 (Ints.elem h (k:=i) (by omega)).1 ?_
  refine xl 0 ((Ints.elem (h.below a1) (k:=i) (by omega)).2) ?_
  refine xie 3 (l.getD i 0) (0:Int) (fun a8=>?_) (fun a8=>?_)
  ·refine xwm 2 ((f:Int)+1) (↑(f+1):Int) ?_
   refine xwm 6 ((i:Int)+1) (↑(i+1):Int) ?_
   exact ze 2 (a7 _ _ _ ⟨i+1,f+1,rfl,rfl,a1,by omega,by rw[a6 (by omega),if_pos (by assumption),hf]⟩ (by omega))
  refine xwm 5 ((i:Int)+1) (↑(i+1):Int) ?_
  exact ze 2 (a7 _ _ _ ⟨i+1,f,rfl,rfl,a1,by omega,by rw[a6 (by omega),if_neg (by assumption)];exact hf⟩ (by omega))
 refine zl 12 35 (fun zm a4 V=>∃ (g:Nat),a4=[(0,.slice a l.length c),(2,V0 0),(3,V0 0),(4,V0 (f:Int)),(6,V0 (g:Int))]∧zm=l.length-((g:Int)).toNat∧B3 w V∧g≤l.length∧((∀ j,j<g→l.getD j 0≠0))) ⟨0,rfl,rfl,a1,Nat.zero_le _,?_⟩ ?_
 ·exact fun j hj=>absurd hj (by omega)
 rintro _ _ W4 ⟨g,rfl,rfl,a0,hg,hz⟩ J4 a9 r4
 refine xg 8 [23,24] (decide ((g:Int)<(l.length:Int))) (fun a3=>?_) (fun a3=>?_)
 ·have a3:=of_decide_eq_true a3
  refine xx 2 _ l.length g 1 (Ints.elem h (k:=g) (by omega)).1 ?_
  refine xl 0 ((Ints.elem (h.below a0) (k:=g) (by omega)).2) ?_
  refine xin 4 (l.getD g 0) (0:Int) (fun b0=>?_) (fun b0=>?_)
  ·refine xwm 5 ((g:Int)+1) (↑(g+1):Int) ?_
   exact ze 3 (a9 _ _ _ ⟨g+1,rfl,rfl,a0,by omega,fun j hj=>(Nat.lt_or_ge j g).elim (fun q=>hz j q) (fun q=>by obtain rfl:j=g:=(by omega);first|assumption|omega)⟩ (by omega))
  refine xe 14 (.tuple #[V0 (f:Int),V0 (g:Int)]) ?_
  obtain rfl:i=l.length:=by omega
  have a2:f=Yb l:=hf
  have a5:g=Xd l:=by first|(exact(Es (by omega) (by omega) hz).symm)|(obtain rfl:g=l.length:=(by omega);exact(Nd hz).symm)
  subst a2 a5
  exact⟨rfl,a0⟩
 have a3:=of_decide_eq_false a3
 refine xe 23 (.tuple #[V0 (f:Int),V0 (g:Int)]) ?_
 obtain rfl:i=l.length:=by omega
 have a2:f=Yb l:=hf
 have a5:g=Xd l:=by first|(exact(Es (by omega) (by omega) hz).symm)|(obtain rfl:g=l.length:=(by omega);exact(Nd hz).symm)
 subst a2 a5
 exact⟨rfl,a0⟩
def Za6(v:Nat)(l:List Ent)(i:Nat):Prop:=Cb l i<(l.getD i Xn).1∧(l.getD i Xn).1≤281474976710655∧(l.getD i Xn).2.1.length=v
instance (v:Nat) (l:List Ent) (i:Nat):Decidable (Za6 v l i):=by unfold Za6;infer_instance
def Px(v:Nat)(l:List Ent):Bool:=(List.range l.length).all fun i=>decide (Za6 v l i)
theorem Sa{v:Nat}{l:List Ent}(h:∀ i,i<l.length→Za6 v l i):Px v l=true:=by
 unfold Px;rw[List.all_eq_true]
 intro i hi
 exact decide_eq_true (h i (List.mem_range.1 hi))
theorem Wp{v:Nat}{l:List Ent}(h:Px v l=true){i:Nat}(hi:i<l.length):Za6 v l i:=by
 unfold Px at h;rw[List.all_eq_true] at h
 exact of_decide_eq_true (h i (List.mem_range.2 hi))
theorem Hb{v:Nat}{l:List Ent}{i:Nat}(hi:i<l.length)(h:¬ Za6 v l i):Px v l=false:=by
 cases hr:Px v l with
 | false=>rfl
 | true=>exact absurd (Wp hr hi) h
theorem lastK_pos{l:List Ent}{i:Nat}(h:0<i):Cb l i=(l.getD (i-1) Xn).1:=by
 cases i with
 | zero=>omega
 | succ i=>rfl
theorem Zdp{l:List Ent}{i:Nat}(h:i=0):Cb l i = -1:=by subst h;rfl
theorem Tn{v:Nat}{l:List Ent}:∀ {i:Nat},(∀ j,j<i→Za6 v l j)→-1≤Cb l i
 | 0,_=>by simp[Cb]
 | i+1,h=>by
  have h1:=Tn (i:=i) fun j hj=>h j (by omega)
  have h2:=(h i (by omega)).1
  simp only[Cb];omega
theorem entsB_ok{v:Nat}{l:List Ent}(h:Px v l=true):EntsOk v l where
 hk i hi:=by
  have h1:=Wp h hi
  have h2:=Tn (v:=v) (l:=l) (i:=i) fun j hj=>Wp h (by omega)
  exact⟨by have:=h1.1;omega,h1.2.1⟩
 hs j hj:=(Wp h hj).1
 hw i hi:=(Wp h hi).2.2
theorem Ls(w:World) :
 C0 173 #[V0 1,.bool true] w (Ret (V0 4) w):=by
 refine zin 19 Tryz.func173 ?_
 refine xbs 7 6 [V0 0,V0 4,V0 8,V0 24,V0 16,V0 4] 3 fun b1 W1 n1=>?_
 refine xb 32 1 n1.blk ?_
 exact xe 4 (V0 4) ⟨rfl,n1.below⟩
theorem Zfo(w:World) :
 C0 88 #[V0 1,.bool true] w (Ret (V0 18) w):=by
 refine zin 16 Tryz.func88 ?_
 refine xr 10 (args:=#[V0 1,.bool true]) (Ls _) fun W1 a0=>?_
 exact xe 18 (V0 18) ⟨rfl,a0⟩
theorem Ln(w:World) :
 C0 173 #[V0 2,.bool true] w (Ret (V0 8) w):=by
 refine zin 19 Tryz.func173 ?_
 refine xbs 7 6 [V0 0,V0 4,V0 8,V0 24,V0 16,V0 4] 3 fun b1 W1 n1=>?_
 refine xb 32 2 n1.blk ?_
 exact xe 4 (V0 8) ⟨rfl,n1.below⟩
theorem Zdk(w:World) :
 C0 88 #[V0 2,.bool true] w (Ret (V0 12) w):=by
 refine zin 16 Tryz.func88 ?_
 refine xr 10 (args:=#[V0 2,.bool true]) (Ln _) fun W1 a0=>?_
 exact xe 25 (V0 12) ⟨rfl,a0⟩
theorem Lx(w:World) :
 C0 173 #[V0 3,.bool true] w (Ret (V0 24) w):=by
 refine zin 19 Tryz.func173 ?_
 refine xbs 7 6 [V0 0,V0 4,V0 8,V0 24,V0 16,V0 4] 3 fun b1 W1 n1=>?_
 refine xb 32 3 n1.blk ?_
 exact xe 4 (V0 24) ⟨rfl,n1.below⟩
theorem Zd8(w:World) :
 C0 88 #[V0 3,.bool true] w (Ret (V0 6) w):=by
 refine zin 16 Tryz.func88 ?_
 refine xr 10 (args:=#[V0 3,.bool true]) (Lx _) fun W1 a0=>?_
 exact xe 39 (V0 6) ⟨rfl,a0⟩
theorem Ba(w:World) :
 C0 173 #[V0 4,.bool true] w (Ret (V0 16) w):=by
 refine zin 19 Tryz.func173 ?_
 refine xbs 7 6 [V0 0,V0 4,V0 8,V0 24,V0 16,V0 4] 3 fun b1 W1 n1=>?_
 refine xb 32 4 n1.blk ?_
 exact xe 4 (V0 16) ⟨rfl,n1.below⟩
theorem Zcx(w:World) :
 C0 88 #[V0 4,.bool true] w (Ret (V0 9) w):=by
 refine zin 16 Tryz.func88 ?_
 refine xr 10 (args:=#[V0 4,.bool true]) (Ba _) fun W1 a0=>?_
 exact xe 32 (V0 9) ⟨rfl,a0⟩
theorem Lw(w:World) :
 C0 173 #[V0 5,.bool true] w (Ret (V0 4) w):=by
 refine zin 19 Tryz.func173 ?_
 refine xbs 7 6 [V0 0,V0 4,V0 8,V0 24,V0 16,V0 4] 3 fun b1 W1 n1=>?_
 refine xb 32 5 n1.blk ?_
 exact xe 4 (V0 4) ⟨rfl,n1.below⟩
theorem Zea(w:World) :
 C0 88 #[V0 5,.bool true] w (Ret (V0 18) w):=by
 refine zin 16 Tryz.func88 ?_
 refine xr 10 (args:=#[V0 5,.bool true]) (Lw _) fun W1 a0=>?_
 exact xe 18 (V0 18) ⟨rfl,a0⟩
theorem Nj(t:Int)(w:World)(h1:1≤t)(h2:t≤5) :
 C0 173 #[V0 t,.bool false] w (Ret (V0 4) w):=by
 refine zin 19 Tryz.func173 ?_
 refine xbs 7 6 [V0 0,V0 4,V0 8,V0 24,V0 16,V0 4] 3 fun b1 W1 n1=>?_
 refine xgk 9 [8,9] (show(decide (t<(1:Int)):Bool)=false from decide_eq_false (by omega)) ?_
 refine xk 5 (show(decide (t>(5:Int)):Bool)=false from decide_eq_false (by omega)) ?_
 exact xe 17 (V0 4) ⟨rfl,n1.below⟩
theorem Za8(t:Int)(w:World)(h1:1≤t)(h2:t≤5) :
 C0 88 #[V0 t,.bool false] w (Ret (V0 18) w):=by
 refine zin 16 Tryz.func88 ?_
 refine xr 10 (args:=#[V0 t,.bool false]) (Nj t _ h1 h2) fun W1 a0=>?_
 exact xe 18 (V0 18) ⟨rfl,a0⟩
theorem Tx(t:Int)(leaf:Bool)(w:World)(h:¬ (1≤t∧t≤5)) :
 C0 173 #[V0 t,.bool leaf] w (Ret (V0 0) w):=by
 refine zin 19 Tryz.func173 ?_
 refine xbs 7 6 [V0 0,V0 4,V0 8,V0 24,V0 16,V0 4] 3 fun b1 W1 n1=>?_
 refine xg 9 [8,9] (decide (t<(1:Int))) (fun a0=>?_) (fun a0=>?_)
 ·have a0:=of_decide_eq_true a0
  exact xe 13 (V0 0) ⟨rfl,n1.below⟩
 have a0:=of_decide_eq_false a0
 refine xk 5 (show(decide (t>(5:Int)):Bool)=true from decide_eq_true (by omega)) ?_
 exact xe 7 (V0 0) ⟨rfl,n1.below⟩
theorem Za4(t:Int)(leaf:Bool)(w:World)(h:¬ (1≤t∧t≤5)) :
 C0 88 #[V0 t,.bool leaf] w (Ret (V0 0) w):=by
 refine zin 16 Tryz.func88 ?_
 refine xr 10 (args:=#[V0 t,.bool leaf]) (Tx t leaf _ h) fun W1 a0=>?_
 exact xe 40 (V0 0) ⟨rfl,a0⟩
theorem Jw(t:Int)(leaf:Bool)(v:Nat)(hv:Pj t leaf=v)(h1:1≤t)(h2:t≤5)(w:World):C0 173 #[V0 t,.bool leaf] w (Ret (V0 (v:Int)) w):=by
 subst hv
 cases leaf
 ·exact Nj t w h1 h2
 obtain rfl|rfl|rfl|rfl|rfl:t=1∨t=2∨t=3∨t=4∨t=5:=by omega
 ·exact Ls w
 ·exact Ln w
 ·exact Lx w
 ·exact Ba w
 ·exact Lw w
theorem Jr(t:Int)(leaf:Bool)(m:Nat)(hm:Qq t leaf=m)(h1:1≤t)(h2:t≤5)(w:World):C0 88 #[V0 t,.bool leaf] w (Ret (V0 (m:Int)) w):=by
 subst hm
 cases leaf
 ·exact Za8 t w h1 h2
 obtain rfl|rfl|rfl|rfl|rfl:t=1∨t=2∨t=3∨t=4∨t=5:=by omega
 ·exact Zfo w
 ·exact Zdk w
 ·exact Zd8 w
 ·exact Zcx w
 ·exact Zea w
theorem Oy(t:Int)(leaf:Bool)(n m v:Nat)(K:List Int)(Vs:List Bl)(ak av:O0)(ck cv:Nat)(w:World)(N:NodeOk t leaf n m v K Vs)(hKs:Sl w (.slice ak n ck) n (K.map V0))(hVs:Sl w (.slice av n cv) n (Vs.map sv)) :
 C0 175 #[.agg #[V0 t,.bool leaf,.slice ak n ck,.slice av n cv]] w (Ret (.bool true) w):=by
 have b4:=N.ht1
 have b5:=N.ht2
 have c5:=N.hn
 have c0:=Dd t leaf
 rw[N.hv] at c0
 have c4:=Yt t leaf
 rw[N.hm] at c4
 have b2:=fitN t leaf
 rw[N.hm,N.hv] at b2
 have c2:=Sl.cap hKs
 refine zin 91 Tryz.func175 ?_
 refine xa 2 [V0 t,.bool leaf,.slice ak n ck,.slice av n cv] 173 fun b1 W1 n1=>?_
 refine xd 5 .z ?_
 have k1:=n1.blk.below (Za W1)
 refine xb (.e [0] 1) 0 k1 ?_
 refine xb (.e [2] 3) 1 k1 ?_
 refine xr (.o [] 4) (args:=#[V0 t,.bool leaf]) (Jw t leaf v N.hv b4 b5 _) fun W2 b8=>?_
 refine xgk (.b [5,6]) [9,10] (show(((v:Int)==(0:Int)):Bool)=false from by simp;omega) ?_
 have a7:=k1.below b8
 refine xb (.e [7] 8) 2 a7 ?_
 refine xb (.e [9,10] 11) 0 a7 ?_
 refine xb (.e [12] 13) 1 a7 ?_
 refine xr (.o [] 14) (args:=#[V0 t,.bool leaf]) (Jr t leaf m N.hm b4 b5 _) fun W4 b7=>?_
 refine xgk (.b [15,16,17]) [19,20,21] (show(decide ((n:Int)>(m:Int)):Bool)=false from decide_eq_false (by omega)) ?_
 have a8:=a7.below b7
 refine xb (.e [18] 19) 3 a8 ?_
 refine xb (.e [20,21] 22) 2 a8 ?_
 refine xk (.r [23,24,25] 2) (show(((n:Int) != (n:Int)):Bool)=false from by simp) ?_
 have hB:=bln (bln (bln n1.below (Za W1)) b8) b7
 refine zl 9 91 (fun zm c1 V=>∃ (i:Nat),c1=[(1,P0 b1),(3,V0 (i:Int))]∧zm=n-((i:Int)).toNat∧B3 w V∧Blk V b1 ([V0 t,.bool leaf,.slice ak n ck,.slice av n cv]) 173∧i≤n) ⟨0,rfl,rfl,hB,a8,Nat.zero_le _⟩ ?_
 rintro _ _ W6 ⟨i,rfl,rfl,a9,a2,hi⟩ J6 b9 r6
 refine xb 5 2 a2 ?_
 refine xid 4 ((i:Int)<(n:Int)) (fun c3=>?_) (fun c3=>?_)
 ·refine xd 5 .z ?_
  have a0:=a2.below (Za W6)
  refine xb (.e [0] 1) 2 a0 ?_
  refine xx (.e [2] 3) _ n i 1 (IntsN.elem hKs N.hK (k:=i) (by omega)).1 ?_
  have a4:=bln a9 (Za W6)
  refine xl (.e [] 4) ((IntsN.elem (hKs.below a4) N.hK (k:=i) (by omega)).2) ?_
  refine xgk (.b [5,6]) [42,43] (show(decide ((K.getD i 0)<(0:Int)):Bool)=false from decide_eq_false (by have:=N.hk0 i (by omega);omega)) ?_
  refine xb (.e [7] 8) 2 a0 ?_
  refine xx (.e [9] 10) _ n i 1 (IntsN.elem hKs N.hK (k:=i) (by omega)).1 ?_
  refine xl (.e [] 11) ((IntsN.elem (hKs.below a4) N.hK (k:=i) (by omega)).2) ?_
  refine xgk (.b [12,13,14]) [49,50,51] (show(decide ((K.getD i 0)>(281474976710655:Int)):Bool)=false from decide_eq_false (by have:=N.hk0 i (by omega);omega)) ?_
  refine xb (.e [15] 16) 3 a0 ?_
  refine xx (.e [17] 18) _ n i 1 (Strs.elem hVs N.hV (k:=i) (by omega)).1 ?_
  refine xl (.e [] 19) ((Strs.elem (hVs.below a4) N.hV (k:=i) (by omega)).2) ?_
  refine xb (.e [20,21] 22) 0 a0 ?_
  refine xb (.e [23] 24) 1 a0 ?_
  refine xr (.o [] 25) (args:=#[V0 t,.bool leaf]) (Jw t leaf v N.hv b4 b5 _) fun c6 a6=>?_
  refine xgk (.b [26,27,28]) [63,64,65] (show(((↑(Vs.getD i []).length:Int) != (v:Int)):Bool)=false from by rw[N.hw i (by omega)];simp) ?_
  refine xg (.b [29,30,31]) [67,68] (decide ((i:Int)>(0:Int))) (fun a3=>?_) (fun a3=>?_)
  ·have a3:=of_decide_eq_true a3
   have a1:=a0.below a6
   refine xb (.e [32] 33) 2 a1 ?_
   refine xx (.e [34] 35) _ n i 1 (IntsN.elem hKs N.hK (k:=i) (by omega)).1 ?_
   have b0:=bln a4 a6
   refine xl (.e [] 36) ((IntsN.elem (hKs.below b0) N.hK (k:=i) (by omega)).2) ?_
   refine xb (.e [37] 38) 2 a1 ?_
   refine xwm (.e [39] 40) ((i:Int)-1) (↑(i-1):Int) ?_
   refine xx (.e [] 41) _ n (i-1) 1 (IntsN.elem hKs N.hK (k:=(i-1)) (by omega)).1 ?_
   refine xl (.e [] 42) ((IntsN.elem (hKs.below b0) N.hK (k:=(i-1)) (by omega)).2) ?_
   refine xk (.r [43,44,45] 2) (show(decide ((K.getD i 0)≤(K.getD (i-1) 0)):Bool)=false from decide_eq_false (by have h9:=N.hk1 (i-1) (by omega);rw[show i-1+1=i by omega] at h9;omega)) ?_
   refine xwm 5 ((i:Int)+1) (↑(i+1):Int) ?_
   exact ze 2 (b9 _ _ _ ⟨i+1,rfl,rfl,b0,a1,by omega⟩ (by omega))
  have a3:=of_decide_eq_false a3
  refine xwm (.r [32,33,34,35,36,37,38,39,40,41,42,43,44,45] 8) ((i:Int)+1) (↑(i+1):Int) ?_
  have b6:=bln a4 a6
  have a5:=a0.below a6
  exact ze 2 (b9 _ _ _ ⟨i+1,rfl,rfl,b6,a5,by omega⟩ (by omega))
 refine xb 8 1 a2 ?_
 refine xg 1 [84,85] leaf (fun b3=>?_) (fun b3=>?_)
 ·exact xe 9 (.bool true) ⟨rfl,a9⟩
 refine xb 1 2 a2 ?_
 exact xe 7 (.bool (decide ((n:Int)>(0:Int)))) ⟨by rw[show decide ((n:Int)>(0:Int))=true from decide_eq_true (by have:=N.hl (by assumption);omega)],a9⟩
theorem leB_1(n:Int):leB n 1=[Zp n 0]:=rfl
theorem leB_2(n:Int):leB n 2=[Zp n 0,Zp n 1]:=rfl
theorem Ms{n:Int}(h:n<256):Zp n 1=0:=by
 unfold Zp
 rw[show n.toNat/256 ^ 1=0 from Nat.div_eq_of_lt (by omega)];rfl
theorem Ef{t:Int}{leaf:Bool}{n m v:Nat}(h1:0≤t)(hn:n≤18)(hm:m≤18)(hv:v≤24):(Qk t leaf n m v).map bv =
 [.int .u8 (Cd leaf),.int .u8 (Zp t 0).toNat,.int .u8 (Zp (n:Int) 0).toNat,.int .u8 0,.int .u8 (Zp (v:Int) 0).toNat,.int .u8 0,.int .u8 (Zp (m:Int) 0).toNat,.int .u8 0,.int .u8 0,.int .u8 0,.int .u8 0,.int .u8 0]:=by
 unfold Qk
 rw[leB_1,leB_1,leB_2,leB_2,leB_2,Ms (n:=(n:Int)) (by omega),Ms (n:=(v:Int)) (by omega),Ms (n:=(m:Int)) (by omega)]
 cases leaf<;>rfl
theorem Nq(t:Int)(leaf:Bool)(n m v:Nat)(K:List Int)(Vs:List Bl)(ak av:O0)(ck cv:Nat)(w:World)(N:NodeOk t leaf n m v K Vs)(hKs:Sl w (.slice ak n ck) n (K.map V0))(hVs:Sl w (.slice av n cv) n (Vs.map sv)) :
 C0 89 #[.agg #[V0 t,.bool leaf,.slice ak n ck,.slice av n cv]] w (Qn (fun w' r=>∃ p c,r=.tuple #[.slice p 244 c,V0 0]∧w'.ownsRow w.heap.size 5 1 (.slice p 244 c) 244 ((Hi m v (Qk t leaf n m v) K Vs n).map bv)) w):=by
 have k5:=N.ht1
 have k3:=N.ht2
 have k2:=N.hn
 have k9:=Dd t leaf
 rw[N.hv] at k9
 have m2:=Yt t leaf
 rw[N.hm] at m2
 have d1:=fitN t leaf
 rw[N.hm,N.hv] at d1
 have l2:=Sl.cap hKs
 refine zin 79 Tryz.func89 ?_
 refine xa 2 [V0 t,.bool leaf,.slice ak n ck,.slice av n cv] 173 fun b1 W1 n1=>?_
 refine xlv 7 n1.blk.rp ?_
 refine xr 0 (args:=#[.agg #[V0 t,.bool leaf,.slice ak n ck,.slice av n cv]]) (Oy t leaf n m v K Vs ak av ck cv _ N (hKs.below n1.below) (hVs.below n1.below)) fun W2 d6=>?_
 have d3:=n1.blk.below d6
 refine xb 9 0 d3 ?_
 refine xb 1 1 d3 ?_
 refine xr 0 (args:=#[V0 t,.bool leaf]) (Jw t leaf v N.hv k5 k3 _) fun W3 f0=>?_
 have d0:=d3.below f0
 refine xb 6 0 d0 ?_
 refine xb 1 1 d0 ?_
 refine xr 0 (args:=#[V0 t,.bool leaf]) (Jr t leaf m N.hm k5 k3 _) fun W4 d4=>?_
 have d2:=d0.below d4
 refine xb 6 0 d2 ?_
 refine xq 0 (congrArg (Value.int .u8) (show(IntKind.u8.wrap t:Int)=(↑(Zp t 0).toNat:Int) from Nv (by omega))) ?_
 refine xb 1 2 d2 ?_
 refine xq 1 (congrArg (Value.int .u8) (show(IntKind.u8.wrap (n:Int):Int)=(↑(Zp (n:Int) 0).toNat:Int) from Nv (by omega))) ?_
 refine xq 1 (congrArg (Value.int .u8) (show(IntKind.u8.wrap (v:Int):Int)=(↑(Zp (v:Int) 0).toNat:Int) from Nv (by omega))) ?_
 refine xq 1 (congrArg (Value.int .u8) (show(IntKind.u8.wrap (m:Int):Int)=(↑(Zp (m:Int) 0).toNat:Int) from Nv (by omega))) ?_
 refine xbs 0 12 [.int .u8 0,.int .u8 (↑(Zp t 0).toNat:Int),.int .u8 (↑(Zp (n:Int) 0).toNat:Int),.int .u8 0,.int .u8 (↑(Zp (v:Int) 0).toNat:Int),.int .u8 0,.int .u8 (↑(Zp (m:Int) 0).toNat:Int),.int .u8 0,.int .u8 0,.int .u8 0,.int .u8 0,.int .u8 0] 5 fun b5 W5 n5=>?_
 have c4:=d2.below n5.below
 refine xb 7 1 c4 ?_
 refine xi 2 leaf (fun m5=>?_) (fun m5=>?_)
 ·refine xs 3 n5.blk [.int .u8 1,.int .u8 (↑(Zp t 0).toNat:Int),.int .u8 (↑(Zp (n:Int) 0).toNat:Int),.int .u8 0,.int .u8 (↑(Zp (v:Int) 0).toNat:Int),.int .u8 0,.int .u8 (↑(Zp (m:Int) 0).toNat:Int),.int .u8 0,.int .u8 0,.int .u8 0,.int .u8 0,.int .u8 0] fun W7 u7 k7=>?_
  have g5:=n5.ge (bln (bln (bln n1.below d6) f0) d4)
  have j4:leaf=true:=by assumption
  have h7:=Ef (t:=t) (leaf:=leaf) (n:=n) (m:=m) (v:=v) (by omega) (by omega) (by omega) (by omega)
  have g0:World.ownsRow W7 w.heap.size 5 1 (.slice (S1 b5) 12 12) 12 (((Qk t leaf n m v)++Xi K n 0).map bv):=by
   rw[show Xi K n 0=[] from rfl,List.append_nil,h7,show Cd leaf=1 by rw[j4];rfl]
   exact Zw (size:=1) (n:=12) k7 g5 rfl (by decide)
  have f8:=u7.below (bln (bln (bln (bln n1.below d6) f0) d4) n5.below) g5
  have h2:=u7.blkT c4 n5.blk (by decide)
  refine zl 9 79 (fun zm a8 V=>∃ (i q:Nat) (p:O0) (c:Nat),a8=[(1,P0 b1),(2,S0),(3,V0 0),(5,V0 (m:Int)),(6,.slice p q c),(7,V0 (i:Int))]∧zm=m-((i:Int)).toNat∧B3 w V∧Blk V b1 ([V0 t,.bool leaf,.slice ak n ck,.slice av n cv]) 173∧V.ownsRow w.heap.size 5 1 (.slice p q c) q (((Qk t leaf n m v)++Xi K n i).map bv)∧i≤m∧q=12+i*8) ⟨0,12,(S1 b5),12,rfl,rfl,f8,h2,g0,Nat.zero_le _,rfl⟩ ?_
  rintro _ _ W8 ⟨i,q,p,c,rfl,rfl,a7,a4,ho,hi,hq⟩ J8 k6 r8
  refine xid 8 ((i:Int)<(m:Int)) (fun m3=>?_) (fun m3=>?_)
  ·refine xb 8 2 a4 ?_
   refine xid 4 ((i:Int)<(n:Int)) (fun j8=>?_) (fun j8=>?_)
   ·refine xb 3 2 a4 ?_
    refine xx 1 _ n i 1 (IntsN.elem hKs N.hK (k:=i) (by omega)).1 ?_
    refine xl 0 ((IntsN.elem (hKs.below a7) N.hK (k:=i) (by omega)).2) ?_
    refine xc 0 (args:=#[V0 (K.getD i 0),V0 8]) (Xe (K.getD i 0) 8 8 _ (N.hk0 i (by omega)).1 (by have:=(N.hk0 i (by omega)).2;omega) rfl (by decide)) ?_
    rintro _ q5 ⟨_,rfl,c5,pk,ck,rfl,f5⟩
    have e7:=Zb ho c5
    have f3:=Ze f5 a7.size
    have d5:=bln a7 c5
    refine xbi 0 fun _ _ _ _ zJ zQ zo zx zy zK=>Zn (m:=8) (news:=(leB (K.getD i 0) 8).map bv) (.int .u8 0) 1 1 (q+8) (((Qk t leaf n m v)++Xi K n (i+1)).map bv) zo Tryz.underlying40 (by kernel_rfl) rfl (by decide) zx e7 zy (Zf f3) (by simp[Zh]) (Xs _) (by unfold maxLen;omega) (by omega) d5.size (by rfl) (by rw[Qc,if_pos (by omega)];simp) fun p3 n2 n3 k8 j7 f6=>?_
    refine zK _ _ ?_
    refine xwm 6 ((i:Int)+1) (↑(i+1):Int) ?_
    have g1:=d5.trans f6
    have b9:=(a4.below c5).grown j7 e7 (by decide)
    exact ze 2 (k6 _ _ _ ⟨i+1,_,_,_,rfl,rfl,g1,b9,k8,by omega,by omega⟩ (by omega))
   refine xbi 2 (t2:=3) fun _ _ _ _ zJ zQ zo zx zy zK=>Sw (kq:=.i64) 8 (q+8) (((Qk t leaf n m v)++Xi K n (i+1)).map bv) zo Tryz.underlying40 Tryz.underlying3 (by kernel_rfl) zx ho zy (by omega) (by omega) a7.size (by rfl) (by rw[Qc,if_neg (by omega)];simp[bv]) fun p4 m9 m7 l3 h0 g7=>?_
   refine zK _ _ ?_
   refine xwm 6 ((i:Int)+1) (↑(i+1):Int) ?_
   have j0:=a7.trans g7
   have c0:=a4.grown h0 ho (by decide)
   exact ze 2 (k6 _ _ _ ⟨i+1,_,_,_,rfl,rfl,j0,c0,l3,by omega,by omega⟩ (by omega))
  have h3:i=m:=by omega
  have i5:World.ownsRow W8 w.heap.size 5 1 (.slice p q c) q (((Qk t leaf n m v)++Xi K n m++Yf Vs 0).map bv):=by
   have e9:Xi K n m=Xi K n i:=by rw[h3]
   rw[e9,show Yf Vs 0=[] from rfl,List.append_nil];exact ho
  refine zl 12 79 (fun zm a8 V=>∃ (j q:Nat) (p:O0) (c:Nat),a8=[(1,P0 b1),(2,S0),(3,V0 0),(6,.slice p q c),(8,V0 (j:Int))]∧zm=n-((j:Int)).toNat∧B3 w V∧Blk V b1 ([V0 t,.bool leaf,.slice ak n ck,.slice av n cv]) 173∧V.ownsRow w.heap.size 5 1 (.slice p q c) q (((Qk t leaf n m v)++Xi K n m++Yf Vs j).map bv)∧j≤n∧q=12+m*8+j*v) ⟨0,q,p,c,rfl,rfl,a7,a4,i5,Nat.zero_le _,by omega⟩ ?_
  rintro _ _ m1 ⟨j,q,p,c,rfl,rfl,a6,a2,b0,hj,k1⟩ p1 j5 m6
  have l8:j<n→j*v+v≤m*v:=fun h=>by have h9:(j+1)*v≤m*v:=Nat.mul_le_mul_right v (by omega);rw[Nat.add_mul,Nat.one_mul] at h9;exact h9
  refine xb 5 3 a2 ?_
  refine xid 4 ((j:Int)<(n:Int)) (fun g8=>?_) (fun g8=>?_)
  ·refine xb 7 3 a2 ?_
   refine xx 1 _ n j 1 (Strs.elem hVs N.hV (k:=j) (by omega)).1 ?_
   refine xl 0 ((Strs.elem (hVs.below a6) N.hV (k:=j) (by omega)).2) ?_
   refine xbi 0 (t2:=9) fun _ _ _ _ zJ zQ zo zx zy zK=>Tj (Vs.getD j []) (q+v) (((Qk t leaf n m v)++Xi K n m++Yf Vs (j+1)).map bv) zo Tryz.underlying40 Tryz.underlying9 (by kernel_rfl) zx b0 zy (by rw[N.hw j (by omega)];omega) a6.size (by rw[N.hw j (by omega)]) (by rw[Ub];simp) fun q4 q6 p9 l7 g6 h4=>?_
   refine zK _ _ ?_
   refine xwm 6 ((j:Int)+1) (↑(j+1):Int) ?_
   have i6:=a6.trans h4
   have b7:=a2.grown g6 b0 (by decide)
   exact ze 2 (j5 _ _ _ ⟨j+1,_,_,_,rfl,rfl,i6,b7,l7,by omega,by rw[Nat.add_mul,Nat.one_mul];omega⟩ (by omega))
  have c7:j=n:=by omega
  have j2:World.ownsRow m1 w.heap.size 5 1 (.slice p q c) q (((Qk t leaf n m v)++Xi K n m++Yf Vs n++List.replicate 0 0).map bv):=by
   have e9:Yf Vs n=Yf Vs j:=by rw[c7]
   rw[List.replicate_zero,List.append_nil,e9];exact b0
  refine zl 7 79 (fun zm a8 V=>∃ (z q:Nat) (p:O0) (c:Nat),a8=[(2,S0),(3,V0 0),(6,.slice p q c)]∧zm=244-q∧B3 w V∧Blk V b1 ([V0 t,.bool leaf,.slice ak n ck,.slice av n cv]) 173∧V.ownsRow w.heap.size 5 1 (.slice p q c) q (((Qk t leaf n m v)++Xi K n m++Yf Vs n++List.replicate z 0).map bv)∧q=12+m*8+n*v+z∧q≤244) ⟨0,q,p,c,rfl,rfl,a6,a2,j2,by rw[←c7];omega,by have h9:n*v≤m*v:=Nat.mul_le_mul_right v (by omega);have h8:j*v=n*v:=congrArg (fun x=>x*v) c7;omega⟩ ?_
  rintro _ _ o3 ⟨z,q,p,c,rfl,rfl,c2,c9,ho,hz,m4⟩ p8 i3 n4
  refine xid 8 ((q:Int)<(244:Int)) (fun g2=>?_) (fun g2=>?_)
  ·refine xbs 5 1 [.int .u8 0] 5 fun q9 p5 d9=>?_
   have j1:=Zr ho d9
   have f2:=Zb ho d9.below
   have e6:=bln c2 d9.below
   refine xbi 0 fun _ _ _ _ zJ zQ zo zx zy zK=>Zn (m:=1) (news:=[.int .u8 0]) (.int .u8 0) 1 1 (q+1) (((Qk t leaf n m v)++Xi K n m++Yf Vs n++List.replicate (z+1) 0).map bv) zo Tryz.underlying40 (by kernel_rfl) rfl (by decide) zx f2 zy (d9.blk.sl 1 1 (by decide) (by decide)) rfl (by simp[Value.oneCell']) (by unfold maxLen;omega) (by omega) e6.size (by rfl) (by rw[List.replicate_succ'];simp[bv]) fun o9 m8 o0 l9 f7 k0=>?_
   refine zK _ _ ?_
   have h1:=e6.trans k0
   have b4:=(c9.below d9.below).grown f7 f2 (by decide)
   exact ze 3 (i3 _ _ _ ⟨z+1,_,_,_,rfl,rfl,h1,b4,l9,by omega,by omega⟩ (by omega))
  refine xe 13 (.tuple #[.slice p q c,V0 0]) ?_
  obtain rfl:q=244:=by omega
  rw[Lf (Ut _ _ _ _ _) d1 k2 (fun j hj=>N.hw j hj)]
  exact⟨_,rfl,c2,_,_,rfl,by rw[show 232-m*8-n*v=z by omega];exact ho⟩
 have j4:leaf=false:=by assumption
 have g5:=n5.ge (bln (bln (bln n1.below d6) f0) d4)
 have h7:=Ef (t:=t) (leaf:=leaf) (n:=n) (m:=m) (v:=v) (by omega) (by omega) (by omega) (by omega)
 have g0:World.ownsRow W5 w.heap.size 5 1 (.slice (S1 b5) 12 12) 12 (((Qk t leaf n m v)++Xi K n 0).map bv):=by
  rw[show Xi K n 0=[] from rfl,List.append_nil,h7,show Cd leaf=0 by rw[j4];rfl]
  exact Zw (size:=1) (n:=12) n5.blk g5 rfl (by decide)
 have f9:=bln (bln (bln (bln n1.below d6) f0) d4) n5.below
 refine zl 9 79 (fun zm a8 V=>∃ (i q:Nat) (p:O0) (c:Nat),a8=[(1,P0 b1),(2,S0),(3,V0 0),(5,V0 (m:Int)),(6,.slice p q c),(7,V0 (i:Int))]∧zm=m-((i:Int)).toNat∧B3 w V∧Blk V b1 ([V0 t,.bool leaf,.slice ak n ck,.slice av n cv]) 173∧V.ownsRow w.heap.size 5 1 (.slice p q c) q (((Qk t leaf n m v)++Xi K n i).map bv)∧i≤m∧q=12+i*8) ⟨0,12,(S1 b5),12,rfl,rfl,f9,c4,g0,Nat.zero_le _,rfl⟩ ?_
 rintro _ _ l4 ⟨i,q,p,c,rfl,rfl,a1,a0,ho,hi,hq⟩ q3 f1 n8
 refine xid 8 ((i:Int)<(m:Int)) (fun j6=>?_) (fun j6=>?_)
 ·refine xb 8 2 a0 ?_
  refine xid 4 ((i:Int)<(n:Int)) (fun i2=>?_) (fun i2=>?_)
  ·refine xb 3 2 a0 ?_
   refine xx 1 _ n i 1 (IntsN.elem hKs N.hK (k:=i) (by omega)).1 ?_
   refine xl 0 ((IntsN.elem (hKs.below a1) N.hK (k:=i) (by omega)).2) ?_
   refine xc 0 (args:=#[V0 (K.getD i 0),V0 8]) (Xe (K.getD i 0) 8 8 _ (N.hk0 i (by omega)).1 (by have:=(N.hk0 i (by omega)).2;omega) rfl (by decide)) ?_
   rintro _ p7 ⟨_,rfl,c8,pk,ck,rfl,f5⟩
   have d8:=Zb ho c8
   have d7:=Ze f5 a1.size
   have e3:=bln a1 c8
   refine xbi 0 fun _ _ _ _ zJ zQ zo zx zy zK=>Zn (m:=8) (news:=(leB (K.getD i 0) 8).map bv) (.int .u8 0) 1 1 (q+8) (((Qk t leaf n m v)++Xi K n (i+1)).map bv) zo Tryz.underlying40 (by kernel_rfl) rfl (by decide) zx d8 zy (Zf d7) (by simp[Zh]) (Xs _) (by unfold maxLen;omega) (by omega) e3.size (by rfl) (by rw[Qc,if_pos (by omega)];simp) fun o4 o6 p0 l6 i4 g9=>?_
   refine zK _ _ ?_
   refine xwm 6 ((i:Int)+1) (↑(i+1):Int) ?_
   have e5:=e3.trans g9
   have b6:=(a0.below c8).grown i4 d8 (by decide)
   exact ze 2 (f1 _ _ _ ⟨i+1,_,_,_,rfl,rfl,e5,b6,l6,by omega,by omega⟩ (by omega))
  refine xbi 2 (t2:=3) fun _ _ _ _ zJ zQ zo zx zy zK=>Sw (kq:=.i64) 8 (q+8) (((Qk t leaf n m v)++Xi K n (i+1)).map bv) zo Tryz.underlying40 Tryz.underlying3 (by kernel_rfl) zx ho zy (by omega) (by omega) a1.size (by rfl) (by rw[Qc,if_neg (by omega)];simp[bv]) fun q7 n7 o7 l0 j9 i8=>?_
  refine zK _ _ ?_
  refine xwm 6 ((i:Int)+1) (↑(i+1):Int) ?_
  have e1:=a1.trans i8
  have b3:=a0.grown j9 ho (by decide)
  exact ze 2 (f1 _ _ _ ⟨i+1,_,_,_,rfl,rfl,e1,b3,l0,by omega,by omega⟩ (by omega))
 have h3:i=m:=by omega
 have i5:World.ownsRow l4 w.heap.size 5 1 (.slice p q c) q (((Qk t leaf n m v)++Xi K n m++Yf Vs 0).map bv):=by
  have e9:Xi K n m=Xi K n i:=by rw[h3]
  rw[e9,show Yf Vs 0=[] from rfl,List.append_nil];exact ho
 refine zl 12 79 (fun zm a8 V=>∃ (j q:Nat) (p:O0) (c:Nat),a8=[(1,P0 b1),(2,S0),(3,V0 0),(6,.slice p q c),(8,V0 (j:Int))]∧zm=n-((j:Int)).toNat∧B3 w V∧Blk V b1 ([V0 t,.bool leaf,.slice ak n ck,.slice av n cv]) 173∧V.ownsRow w.heap.size 5 1 (.slice p q c) q (((Qk t leaf n m v)++Xi K n m++Yf Vs j).map bv)∧j≤n∧q=12+m*8+j*v) ⟨0,q,p,c,rfl,rfl,a1,a0,i5,Nat.zero_le _,by omega⟩ ?_
 rintro _ _ m0 ⟨j,q,p,c,rfl,rfl,a5,a3,a9,hj,k4⟩ o1 j3 q0
 have l8:j<n→j*v+v≤m*v:=fun h=>by have h9:(j+1)*v≤m*v:=Nat.mul_le_mul_right v (by omega);rw[Nat.add_mul,Nat.one_mul] at h9;exact h9
 refine xb 5 3 a3 ?_
 refine xid 4 ((j:Int)<(n:Int)) (fun h5=>?_) (fun h5=>?_)
 ·refine xb 7 3 a3 ?_
  refine xx 1 _ n j 1 (Strs.elem hVs N.hV (k:=j) (by omega)).1 ?_
  refine xl 0 ((Strs.elem (hVs.below a5) N.hV (k:=j) (by omega)).2) ?_
  refine xbi 0 (t2:=9) fun _ _ _ _ zJ zQ zo zx zy zK=>Tj (Vs.getD j []) (q+v) (((Qk t leaf n m v)++Xi K n m++Yf Vs (j+1)).map bv) zo Tryz.underlying40 Tryz.underlying9 (by kernel_rfl) zx a9 zy (by rw[N.hw j (by omega)];omega) a5.size (by rw[N.hw j (by omega)]) (by rw[Ub];simp) fun o8 o2 q1 l1 i9 i0=>?_
  refine zK _ _ ?_
  refine xwm 6 ((j:Int)+1) (↑(j+1):Int) ?_
  have e2:=a5.trans i0
  have b8:=a3.grown i9 a9 (by decide)
  exact ze 2 (j3 _ _ _ ⟨j+1,_,_,_,rfl,rfl,e2,b8,l1,by omega,by rw[Nat.add_mul,Nat.one_mul];omega⟩ (by omega))
 have c7:j=n:=by omega
 have j2:World.ownsRow m0 w.heap.size 5 1 (.slice p q c) q (((Qk t leaf n m v)++Xi K n m++Yf Vs n++List.replicate 0 0).map bv):=by
  have e9:Yf Vs n=Yf Vs j:=by rw[c7]
  rw[List.replicate_zero,List.append_nil,e9];exact a9
 refine zl 7 79 (fun zm a8 V=>∃ (z q:Nat) (p:O0) (c:Nat),a8=[(2,S0),(3,V0 0),(6,.slice p q c)]∧zm=244-q∧B3 w V∧Blk V b1 ([V0 t,.bool leaf,.slice ak n ck,.slice av n cv]) 173∧V.ownsRow w.heap.size 5 1 (.slice p q c) q (((Qk t leaf n m v)++Xi K n m++Yf Vs n++List.replicate z 0).map bv)∧q=12+m*8+n*v+z∧q≤244) ⟨0,q,p,c,rfl,rfl,a5,a3,j2,by rw[←c7];omega,by have h9:n*v≤m*v:=Nat.mul_le_mul_right v (by omega);have h8:j*v=n*v:=congrArg (fun x=>x*v) c7;omega⟩ ?_
 rintro _ _ n6 ⟨z,q,p,c,rfl,rfl,c3,c6,ho,hz,m4⟩ n9 g3 p2
 refine xid 8 ((q:Int)<(244:Int)) (fun i1=>?_) (fun i1=>?_)
 ·refine xbs 5 1 [.int .u8 0] 5 fun n0 o5 e8=>?_
  have i7:=Zr ho e8
  have e0:=Zb ho e8.below
  have c1:=bln c3 e8.below
  refine xbi 0 fun _ _ _ _ zJ zQ zo zx zy zK=>Zn (m:=1) (news:=[.int .u8 0]) (.int .u8 0) 1 1 (q+1) (((Qk t leaf n m v)++Xi K n m++Yf Vs n++List.replicate (z+1) 0).map bv) zo Tryz.underlying40 (by kernel_rfl) rfl (by decide) zx e0 zy (e8.blk.sl 1 1 (by decide) (by decide)) rfl (by simp[Value.oneCell']) (by unfold maxLen;omega) (by omega) c1.size (by rfl) (by rw[List.replicate_succ'];simp[bv]) fun q2 p6 q8 l5 h6 f4=>?_
  refine zK _ _ ?_
  have e4:=c1.trans f4
  have b2:=(c6.below e8.below).grown h6 e0 (by decide)
  exact ze 3 (g3 _ _ _ ⟨z+1,_,_,_,rfl,rfl,e4,b2,l5,by omega,by omega⟩ (by omega))
 refine xe 13 (.tuple #[.slice p q c,V0 0]) ?_
 obtain rfl:q=244:=by omega
 rw[Lf (Ut _ _ _ _ _) d1 k2 (fun j hj=>N.hw j hj)]
 exact⟨_,rfl,c3,_,_,rfl,by rw[show 232-m*8-n*v=z by omega];exact ho⟩
theorem Ay{n m:Nat}(hm:1≤m)(h:n≤m):ovN n m=1:=by
 unfold ovN
 have:(n+m-1)/m≤1:=by
  rw[Nat.div_le_iff_le_mul_add_pred (by omega)];omega
 omega
theorem ovN_step{n m:Nat}(hm:1≤m)(h:m<n):ovN n m=ovN (n-m) m+1:=by
 unfold ovN
 have e:n+m-1=(n-m+m-1)+m:=by omega
 rw[e,Nat.add_div_right _ (by omega)]
 have:1≤(n-m+m-1)/m:=by
  rw[Nat.le_div_iff_mul_le (by omega)];omega
 omega
theorem ovN_32768{n:Nat}{t:Int}(hn:n≤32768)(h1:1≤t)(h2:t≤5):ovN n (Qq t true)≤32768:=by
 have h6:6≤Qq t true:=by
  unfold Qq;repeat' split
  all_goals first|decide|simp_all
 unfold ovN
 have:(n+Qq t true-1)/Qq t true≤32768:=by
   rw[Nat.div_le_iff_le_mul_add_pred (by omega)]
   have:=Nat.mul_le_mul_right 32768 h6
   omega
 omega
theorem Df(n m:Nat)(w:World)(hn:n≤32768)(hm:1≤m)(hm2:m≤32768) :
 C0 243 #[V0 (n:Int),V0 (m:Int)] w (Qn (fun w' r=>∃ p c,r=.slice p (ovN n m) c) w):=by
 refine zin 30 Tryz.func243 ?_
 refine xgk 11 [7,8] (show(decide ((n:Int)<(0:Int)):Bool)=false from decide_eq_false (by omega)) ?_
 refine xgk 4 [10,11,12] (show(decide ((n:Int)>(32768:Int)):Bool)=false from decide_eq_false (by omega)) ?_
 refine xk 5 (show(decide ((m:Int)<(1:Int)):Bool)=false from decide_eq_false (by omega)) ?_
 have hB:=Below.refl w.heap.size w
 refine zl 9 30 (fun zm b0 V=>∃ (j k:Nat) (p:O0) (c:Nat) (xs:List Value),b0=[(0,V0 (k:Int)),(1,V0 (m:Int)),(4,S0),(5,.slice p j c)]∧zm=((k:Int)).toNat+1∧B3 w V∧V.ownsRow w.heap.size 3 1 (.slice p j c) j xs∧j+ovN k m=ovN n m∧k≤n∧j+k≤n) ⟨0,n,none,0,[],rfl,rfl,hB,World.ownsRow_nil _ _ _ _,Nat.zero_add _,Nat.le_refl _,by omega⟩ ?_
 rintro _ _ W3 ⟨j,k,p,c,xs,rfl,rfl,a1,ho,hj,hk,b8⟩ J3 b3 r3
 refine xid 8 ((k:Int)>(m:Int)) (fun b1=>?_) (fun b1=>?_)
 ·refine xbs 7 1 [V0 (m:Int)] 3 fun b5 W5 n5=>?_
  have a7:=Zr ho n5
  have a5:=Zb ho n5.below
  have a2:=bln a1 n5.below
  refine xbi 0 fun _ _ _ _ zJ zQ zo zx zy zK=>Zn (m:=1) (news:=[V0 (m:Int)]) (V0 0) 1 8 (j+1) (xs++[V0 (m:Int)]) zo Tryz.underlying33 (by kernel_rfl) rfl (by decide) zx a5 zy (n5.blk.sl 1 1 (by decide) (by decide)) rfl (by simp[Value.oneCell']) (by unfold maxLen;omega) (by omega) a2.size (by rfl) (by rfl) fun p6 c6 W6 o6 b4 a9=>?_
  refine zK _ _ ?_
  refine xwm 6 ((k:Int)-(m:Int)) (↑(k-m):Int) ?_
  have a3:=a2.trans a9
  exact ze 3 (b3 _ _ _ ⟨j+1,(k-m),_,_,_,rfl,rfl,a3,o6,by have:=ovN_step hm (n:=k) (by omega);omega,by omega,by omega⟩ (by omega))
 refine xbs 9 1 [V0 (k:Int)] 3 fun b7 W7 n7=>?_
 have a8:=Zr ho n7
 have a4:=Zb ho n7.below
 have a0:=bln a1 n7.below
 refine xbi 0 fun _ _ _ _ zJ zQ zo zx zy zK=>Zn (m:=1) (news:=[V0 (k:Int)]) (V0 0) 1 8 (j+1) (xs++[V0 (k:Int)]) zo Tryz.underlying33 (by kernel_rfl) rfl (by decide) zx a4 zy (n7.blk.sl 1 1 (by decide) (by decide)) rfl (by simp[Value.oneCell']) (by unfold maxLen;omega) (by omega) a0.size (by rfl) (by rfl) fun p8 c8 W8 o8 b6 b2=>?_
 refine zK _ _ ?_
 have a6:=a0.trans b2
 refine xe 4 (.slice p8 (j+1) c8) ?_
 have e:=Ay hm (n:=k) (by omega)
 exact⟨_,rfl,a6,_,_,by rw[show ovN n m=j+1 by omega]⟩
theorem Iz(t:Int)(n:Nat)(w:World)(h1:1≤t)(h2:t≤5)(hn:n≤32768) :
 C0 174 #[V0 t,V0 (n:Int)] w (Qn (fun w' r=>∃ p c,r=.slice p (Qw t n).length c∧w'.ownsRow w.heap.size 3 1 (.slice p (Qw t n).length c) (Qw t n).length ((Qw t n).map nv)) w):=by
 have b0:=(Yt t true).1
 have c7:=(Yt t true).2
 have c9:=Fh n (Qq t true) b0
 have c3:=Vf n (Qq t true)
 refine zin 37 Tryz.func174 ?_
 refine xr 9 (args:=#[V0 t,.bool true]) (Jr t true _ rfl h1 h2 _) fun W1 b2=>?_
 refine xgk 2 [9,10] (show(((↑(Qq t true):Int)==(0:Int)):Bool)=false from by simp;omega) ?_
 refine xgk 4 [12,13,14] (show(decide ((n:Int)<(0:Int)):Bool)=false from decide_eq_false (by omega)) ?_
 refine xk 5 (show(decide ((n:Int)>(32768:Int)):Bool)=false from decide_eq_false (by omega)) ?_
 refine xr 6 (args:=#[V0 t,.bool true]) (Jr t true _ rfl h1 h2 _) fun W4 a9=>?_
 refine xc 0 (args:=#[V0 (n:Int),V0 (↑(Qq t true):Int)]) (Df n (Qq t true) _ hn b0 (by omega)) ?_
 rintro _ W5 ⟨_,rfl,b3,p1,c1,rfl⟩
 refine xbs 7 1 [V0 (↑(ovN n (Qq t true)):Int)] 3 fun b6 W6 n6=>?_
 have g6:=n6.ge (bln (bln b2 a9) b3)
 have hB:=bln (bln (bln b2 a9) b3) n6.below
 refine zl 5 37 (fun zm c0 V=>∃ (j x:Nat) (xs:List Nat) (p:O0) (c:Nat),c0=[(0,V0 t),(4,S0),(5,V0 (x:Int)),(6,.slice p (j+1) c)]∧zm=40000-(j+1)∧B3 w V∧V.ownsRow w.heap.size 3 1 (.slice p (j+1) c) (j+1) ((xs++[x]).map nv)∧xs.length=j∧1≤x∧x≤32768∧xs++Ri x=Qw t n∧j+x≤40000) ⟨0,(ovN n (Qq t true)),[],(S1 b6),1,rfl,rfl,hB,Zw (size:=1) (n:=1) n6.blk g6 rfl (by unfold maxLen;decide),rfl,c3,ovN_32768 hn h1 h2,rfl,by omega⟩ ?_
 rintro _ _ W7 ⟨j,x,xs,p,c,rfl,rfl,a3,ho,b4,d2,c4,b1,hj⟩ J7 b8 r7
 refine xid 7 ((x:Int)>(1:Int)) (fun b9=>?_) (fun b9=>?_)
 ·refine xr 7 (args:=#[V0 t,.bool false]) (Jr t false 18 rfl h1 h2 _) fun W9 b5=>?_
  refine xc 0 (args:=#[V0 (x:Int),V0 18]) (Df x 18 _ c4 (by decide) (by decide)) ?_
  rintro _ d4 ⟨_,rfl,a2,p2,c2,rfl⟩
  refine xbs 7 1 [V0 (↑(ovN x 18):Int)] 3 fun d5 c8 a4=>?_
  have a0:=Zb (Zb ho b5) a2
  have a6:=Zr a0 a4
  have a7:=Zb a0 a4.below
  have a1:=bln (bln (bln a3 b5) a2) a4.below
  refine xbi 0 fun _ _ _ _ zJ zQ zo zx zy zK=>Zn (m:=1) (news:=[V0 (↑(ovN x 18):Int)]) (V0 0) 1 8 (j+1+1) (((xs++[x])++[ovN x 18]).map nv) zo Tryz.underlying33 (by kernel_rfl) rfl (by decide) zx a7 zy (a4.blk.sl 1 1 (by decide) (by decide)) rfl (by simp[Value.oneCell']) (by unfold maxLen;omega) (by omega) a1.size (by rfl) (by simp[nv]) fun c6 d0 d1 b7 c5 a5=>?_
  refine zK _ _ ?_
  have d3:=ov18 (x:=x) (by omega)
  have a8:=a1.trans a5
  exact ze 3 (b8 _ _ _ ⟨j+1,(ovN x 18),xs++[x],_,_,rfl,rfl,a8,b7,by simp[b4],Vf _ _,by omega,by rw[←b1,Kv (x:=x) (by omega)];simp,by omega⟩ (by omega))
 refine xe 12 (.slice p (j+1) c) ?_
 have e:Qw t n=xs++[x]:=by rw[←b1,Kq (x:=x) (by omega)]
 have el:(Qw t n).length=j+1:=by rw[e];simp[b4]
 exact⟨_,rfl,a3,p,c,by rw[el],by rw[el,e];exact ho⟩
theorem Qd(t:Int)(n:Nat)(w:World)(h1:1≤t)(h2:t≤5)(hn:n≤32768) :
 C0 87 #[V0 t,V0 (n:Int)] w (Ret (V0 (Zy t n:Int)) w):=by
 refine zin 24 Tryz.func87 ?_
 refine xc 9 (args:=#[V0 t,V0 (n:Int)]) (Iz t n _ h1 h2 hn) ?_
 rintro _ W1 ⟨_,rfl,a5,p,c,rfl,ho⟩
 have a1:=Nat.le_refl w.heap.size
 have a2:=Ze ho a1
 refine zl 15 24 (fun zm a4 V=>∃ (k:Nat),a4=[(4,V0 0),(5,.slice p ((Qw t n).length) c),(6,V0 (↑((Qw t n).take k).sum:Int)),(7,V0 (k:Int))]∧zm=(Qw t n).length-((k:Int)).toNat∧B3 w V∧V.ownsRow w.heap.size 3 1 (.slice p (Qw t n).length c) (Qw t n).length ((Qw t n).map nv)∧k≤(Qw t n).length) ⟨0,rfl,rfl,a5,a2,Nat.zero_le _⟩ ?_
 rintro _ _ W2 ⟨k,rfl,rfl,a0,ho,hk⟩ J2 a6 r2
 have a7:=Zcq t n
 have a1:=Yv t n
 unfold Zy at a1
 have a9:=Zhj (L:=Qw t n) (k+1)
 have a8:k<(Qw t n).length→((Qw t n).take (k+1)).sum=((Qw t n).take k).sum+(Qw t n).getD k 0:=Cv
 refine xid 9 ((k:Int)<(↑((Qw t n).length):Int)) (fun a3=>?_) (fun a3=>?_)
 ·refine xx 8 _ ((Qw t n).length) k 1 (Ha (Zf ho) rfl (k:=k) (by omega)).1 ?_
  refine xl 0 ((Ha (Zf ho) rfl (k:=k) (by omega)).2) ?_
  refine xwm 0 ((↑((Qw t n).take k).sum:Int)+(↑((Qw t n).getD k 0):Int)) (↑(((Qw t n).take k).sum+((Qw t n).getD k 0)):Int) ?_
  refine xwm 6 ((k:Int)+1) (↑(k+1):Int) ?_
  refine xv1 2 6 (show(V0 (↑(((Qw t n).take k).sum+((Qw t n).getD k 0)):Int):Value)=V0 (↑((Qw t n).take (k+1)).sum:Int) from by rw[Cv (by omega)]) ?_
  exact ze 0 (a6 _ _ _ ⟨k+1,rfl,rfl,a0,ho,by omega⟩ (by omega))
 refine xe 12 (V0 (↑((Qw t n).take k).sum:Int)) ?_
 have e:k=(Qw t n).length:=by omega
 subst e
 rw[List.take_length]
 exact⟨rfl,a0⟩
theorem ImgR.mono{B B' b:Nat}{p:O0}{n c:Nat}{l:Bl}{w:World}(h:ImgR B b p n c l w)(hB:B'≤B):ImgR B' b p n c l w:=⟨h.blk,Ze h.row hB,h.hn⟩
def WroteR(B b:Nat)(p:O0)(n c:Nat)(l:Bl)(w:World)(e:Ending)(w':World):Prop :=
 e=.returned .nilIface∧Below B w w'∧Zd [5] w w'∧ImgR B b p n c l w'
theorem Wq(B b:Nat)(p:O0)(n c k:Nat)(ki:Int)(l:Bl)(kind:Int)(a:O0)(ca m:Nat)(li:Bl)(w:World)(hki:ki=(k:Int))(hm:li.length=m)(hI:ImgR B b p n c l w)(hk:k<n/256)(h1:1≤kind)(h2:kind≤4)(hin:Bys w (.slice a m ca) li)(hl:m≤244)(hBw:B≤w.heap.size) :
 C0 80 #[P0 b,V0 ki,V0 kind,.slice a m ca] w (WroteR B b p n c (Vc l (k*256) (Xw kind k li)) w):=by
 subst hki hm
 obtain⟨g,rfl,hc⟩:=hI.base (by omega)
 refine(Ee B b g n c k l kind a ca li w hI.blk hI.row hI.hn hc hk h1 h2 hin hl hBw).mono ?_
 rintro e W ⟨rfl,hb,hO,_,ho⟩
 exact⟨rfl,hb,hO,hI.blk.only hO (by decide),ho,hI.hn⟩
def erT (er:Int):Option Int:=if er=0 then none else some er
structure AlG(B ba b:Nat)(pa:Option Addr)(N ca k:Nat)(L:List Int)(w:World):Prop where
 blk:Blk w ba [.slice pa N ca,.int .i64 (k:Int),.pointer (some ⟨b,0,none⟩)] 153
 nums:w.ownsRow B 3 1 (.slice pa N ca) N (L.map (Value.int .i64))
 hL:L.length=N
 hB:B≤ba
 hN:N≤1000000
 hk:k≤N
theorem AlG.below{B ba b:Nat}{pa:O0}{N ca k:Nat}{L:List Int}{w W:World}(h:AlG B ba b pa N ca k L w)(hb:B3 w W):AlG B ba b pa N ca k L W:=⟨h.blk.below hb,Zb h.nums hb,h.hL,h.hB,h.hN,h.hk⟩
theorem AlG.only{B ba b:Nat}{pa:O0}{N ca k:Nat}{L:List Int}{w W:World}{T:List TypeId}(h:AlG B ba b pa N ca k L w)(hO:Zd T w W)(hT:T.contains 153=false∧T.contains 3=false):AlG B ba b pa N ca k L W:=⟨h.blk.only hO hT.1,Zi h.nums hO hT.2,h.hL,h.hB,h.hN,h.hk⟩
theorem AlG.mono{B B' ba b:Nat}{pa:O0}{N ca k:Nat}{L:List Int}{w:World}(h:AlG B ba b pa N ca k L w)(hB:B'≤B):AlG B' ba b pa N ca k L w:=⟨h.blk,Ze h.nums hB,h.hL,Nat.le_trans hB h.hB,h.hN,h.hk⟩
def Fl(K:Nat)(L:List Int):Bool:=L.all fun x=>decide (1≤x∧x<(K:Int))
def Zfd(L:List Int):Bool:=(List.range (L.length-1)).all fun i=>decide (L.getD i 0<L.getD (i+1) 0)
def Bz(K:Nat)(L:List Int):Int:=if Fl K L then(if Zfd L then 0 else 8) else 1
theorem Mx{K:Nat}{L:List Int}(h:∀ j,j<L.length→1≤L.getD j 0∧L.getD j 0<(K:Int)):Fl K L=true:=by
 unfold Fl
 rw[List.all_eq_true]
 intro x hx
 obtain⟨j,hj,rfl⟩:=List.mem_iff_getElem.1 hx
 have:=h j hj
 simpa [List.getD,hj] using this
theorem Zg7{K:Nat}{L:List Int}(h:Fl K L=true){j:Nat}(hj:j<L.length):1≤L.getD j 0∧L.getD j 0<(K:Int):=by
 unfold Fl at h
 rw[List.all_eq_true] at h
 have:=h L[j] (List.getElem_mem hj)
 simpa [List.getD,hj] using this
theorem Dk{K:Nat}{L:List Int}{j:Nat}(hj:j<L.length)(h:¬ (1≤L.getD j 0∧L.getD j 0<(K:Int))):Fl K L=false:=by
 cases hg:Fl K L with
 | false=>rfl
 | true=>exact absurd (Zg7 hg hj) h
theorem Rq{L:List Int}(h:∀ j,j+1<L.length→L.getD j 0<L.getD (j+1) 0):Zfd L=true:=by
 unfold Zfd
 rw[List.all_eq_true]
 intro j hj
 exact decide_eq_true (h j (by have:=List.mem_range.1 hj;omega))
theorem Zat{L:List Int}{j:Nat}(hj:j+1<L.length)(h:¬ L.getD j 0<L.getD (j+1) 0):Zfd L=false:=by
 unfold Zfd
 rw[List.all_eq_false]
 exact⟨j,List.mem_range.2 (by omega),by simpa using h⟩
theorem Co(l:List Int):∀ u∈l.map V0,u.oneCell'=true:=by
 intro u hu
 obtain⟨x,_,rfl⟩:=List.mem_map.1 hu
 rfl
theorem Zfx(p:Addr)(N c:Nat)(xs:List Value)(w:World)(h:Sl w (.slice (some p) N c) N xs)(hl:xs.length=N)(h1:∀ u∈xs,u.oneCell'=true)(hn:N≤1000000) :
 C0 160 #[.slice (some p) N c] w (Qn (fun w' r=>∃ q c2,r=.slice q N c2∧w'.ownsRow w.heap.size 3 1 (.slice q N c2) N xs) w):=by
 refine zin 8 Tryz.func160 ?_
 refine xb0 17 3 fun b1 W1 n1=>?_
 have o1:=Zw (size:=1) (n:=0) n1.blk (n1.ge (B4 w)) rfl (by decide)
 refine xbi 1 fun _ _ _ _ zJ zQ zo zx zy zK=>Zn (m:=N) (news:=xs) (V0 0) 1 8 (N) (xs) zo Tryz.underlying33 (by kernel_rfl) rfl (by decide) zx o1 zy (h.below n1.below) (by rw[hl,Nat.mul_one]) h1 (by unfold maxLen;omega) (by omega) n1.below.size (by omega) (by rfl) fun a1 a3 W2 o2 a4 a2=>?_
 refine zK _ _ ?_
 have a0:=n1.below.trans a2
 exact xe 4 (.slice a1 N a3) ⟨_,rfl,a0,_,_,rfl,o2⟩
theorem Fj(w:World) :
 C0 160 #[S0] w (Ret (S0) w):=by
 refine zin 8 Tryz.func160 ?_
 exact xe 20 (S0) ⟨rfl,(B4 w)⟩
theorem Za1(a:O0)(N c:Nat)(xs:List Value)(w:World)(h:Sl w (.slice a N c) N xs)(hc:a=none→c=0)(hl:xs.length=N)(h1:∀ u∈xs,u.oneCell'=true)(hn:N≤1000000) :
 C0 160 #[.slice a N c] w (Qn (fun w' r=>∃ q c2,r=.slice q N c2∧w'.ownsRow w.heap.size 3 1 (.slice q N c2) N xs) w):=by
 cases a with
 | some p=>exact Zfx p N c xs w h hl h1 hn
 | none =>
  have hN:N=0∧xs=[]:=by
   rcases h with ⟨a',c',h2,h3,h4⟩|⟨b',a0,a1,h2,_⟩
   ·simp only[Value.slice.injEq] at h2;exact⟨h2.2.1,h4⟩
   ·cases h2
  obtain⟨rfl,rfl⟩:=hN
  obtain rfl:=hc rfl
  refine(Fj w).mono ?_
  rintro e W ⟨rfl,hb⟩
  exact⟨_,rfl,hb,none,0,rfl,World.ownsRow_nil _ _ _ _⟩
theorem sl_cut{w:World}{b:O0}{n c:Nat}{xs:List Value}(h:Sl w (.slice b n c) n xs)(hl:xs.length=n)(k:Nat)(hk:k≤n):Sl w (.slice (Gj b k c 1) (n-k) (c-k)) (n-k) (xs.drop k):=by
 rcases h with ⟨a',c',h1,h2,h3⟩|⟨g,a0,a1,h1,h2,h3,h4⟩
 ·obtain rfl:k=0:=by omega
  subst h3 h2
  exact .inl ⟨Gj b 0 c 1,c-0,rfl,rfl,rfl⟩
 ·simp only[Value.slice.injEq] at h1
  obtain⟨rfl,_,rfl⟩:=h1
  by_cases hz:n-k=0
  ·refine .inl ⟨Gj (some ⟨g,a0,none⟩) k c 1,c-k,by rw[hz],by omega,?_⟩
   exact List.drop_eq_nil_of_le (by omega)
  ·refine .inr ⟨g,a0+k*1,c-k,?_,by omega,by omega,fun j x hj=>?_⟩
   ·rw[Gj,if_neg (by omega)];simp[Addr.add]
   ·rw[List.getElem?_drop] at hj
    have:=h4 (k+j) x hj
    rwa [Nat.mul_one,Nat.add_assoc]
theorem sl_take{w:World}{b:O0}{n c:Nat}{xs:List Value}(h:Sl w (.slice b n c) n xs)(hl:xs.length=n)(m:Nat)(hm:m≤n):Sl w (.slice b m c) m (xs.take m):=Sl.head h hl m hm
def lyE (k N K:Nat)(L:List Int)(kind:Int)(li:Bl):Int:=if k<N then wrE kind (L.getD k 0) K li else 14
def lyB (k N K:Nat)(L:List Int)(kind:Int)(li:Bl):List Int:=if k<N then Bq (L.getD k 0) (wrE kind (L.getD k 0) K li) else []
def lyV (k N K:Nat)(L:List Int)(kind:Int)(li:Bl):Int:=if k<N∧wrE kind (L.getD k 0) K li=0 then L.getD k 0 else 0
def lyK (k N K:Nat)(L:List Int)(kind:Int)(li:Bl):Nat:=if k<N∧wrE kind (L.getD k 0) K li=0 then k+1 else k
def lyL (k N K:Nat)(L:List Int)(kind:Int)(li l:Bl):Bl:=if k<N then wrL kind (L.getD k 0) K li l else l
theorem aheadSl{w:World}{b:O0}{n c k i:Nat}{L:List Int}(h:Sl w (.slice b n c) n (L.map V0))(hl:L.length=n)(hk:k≤n):Sl w (.slice (Gj b k c 1) (min i (n-k)) (c-k)) (min i (n-k)) (((L.drop k).take i).map V0):=by
 have h1:=sl_cut h (by simpa using hl) k hk
 have h2:=sl_take h1 (by simp[hl]) (min i (n-k)) (by omega)
 rw[←List.map_drop,←List.map_take] at h2
 have e:(L.drop k).take (min i (n-k))=(L.drop k).take i:=by
  rcases Nat.le_total i (n-k) with q|q
  ·rw[Nat.min_eq_left q]
  ·rw[Nat.min_eq_right q,List.take_of_length_le (by simp[hl]),List.take_of_length_le (by simp[hl];omega)]
 rw[e] at h2
 exact h2
theorem aheadN{w:World}{B:Nat}{b:O0}{n c k:Nat}{xs:List Value}{e size:Nat}(h:w.ownsRow B e size (.slice b n c) n xs):Gj b k c 1=none→c-k=0:=by
 intro hn
 have hb:b=none:=by
  unfold Gj at hn
  split at hn
  ·exact hn
  ·simpa using hn
 subst hb
 rcases h.2 with ⟨h2,_⟩|⟨g,a0,a1,h2,_⟩
 ·simp only[Value.slice.injEq] at h2;omega
 ·cases h2
theorem Zah(B ba b:Nat)(p0:O0)(N ca k i:Nat)(L:List Int)(w:World)(hA:AlG B ba b p0 N ca k L w)(hi:i≤1000000) :
 C0 161 #[P0 ba,V0 (i:Int)] w (Qn (fun w' r=>∃ q c2,r=.slice q (min i (N-k)) c2∧w'.ownsRow w.heap.size 3 1 (.slice q (min i (N-k)) c2) (min i (N-k)) (((L.drop k).take i).map V0)) w):=by
 have hk:=hA.blk
 have a4:=hA.hk
 have hL:=hA.hL
 have hN:=hA.hN
 have a9:N≤ca:=by
  rcases Nat.eq_zero_or_pos N with q|q
  ·omega
  ·exact Ty hA.nums q
 refine zin 23 Tryz.func161 ?_
 refine xr 9 (args:=#[P0 ba]) (Ku ba b _ _ _ hk) fun W1 a0=>?_
 refine xid 6 ((i:Int)<(1:Int)) (fun a8=>?_) (fun a8=>?_)
 ·refine xe 7 (S0) ?_
  obtain rfl:i=0:=by omega
  exact⟨_,rfl,a0,none,0,by rw[Nat.zero_min],by rw[Nat.zero_min,List.take_zero];exact World.ownsRow_nil _ _ _ _⟩
 have a2:=hk.below a0
 refine xr 7 (args:=#[P0 ba]) (Rl ba p0 N ca k _ _ a2 a4) fun W3 a5=>?_
 refine xq 9 (congrArg V0 (show(if(↑(N-k):Int)<(i:Int) then(↑(N-k):Int) else(i:Int):Int)=(↑(min i (N-k)):Int) from Zcv i (N-k))) ?_
 refine xsH 0 (fun _ _ _ _ zo zx zy V=>Gg (k:=(min i (N-k))) (b:=(Gj p0 k ca 1)) (n:=(N-k)) (c:=(ca-k)) (i:=(↑(min i (N-k)):Int)) (ki:=.i64) zo zx zy rfl (by omega) Tryz.underlying33 (by kernel_rfl) V) ?_
 have hB:=bln a0 a5
 refine xc 0 (args:=#[.slice (Gj p0 k ca 1) (min i (N-k)) (ca-k)]) (Za1 (Gj p0 k ca 1) (min i (N-k)) (ca-k) (((L.drop k).take i).map V0) _ (aheadSl (Zf (Zb hA.nums hB)) hL a4) (aheadN hA.nums) (by simp;omega) (Co _) (by omega)) ?_
 rintro _ W4 ⟨_,rfl,a6,pq,cq,rfl,hq⟩
 have a7:=(bln a0 a5).size
 have a3:=bln hB a6
 have a1:=Ze hq a7
 exact xe 4 (.slice pq (min i (N-k)) cq) ⟨_,rfl,a3,_,_,rfl,a1⟩
structure RAl(B bc bm:Nat)(pg:Option Addr)(N cg:Nat)(fa:Option Addr)(m fc k:Nat)(L:List Int)(w:World):Prop where
 blk:Blk w bc [.pointer (some ⟨bm,0,none⟩),.slice fa m fc,.int .i64 (k:Int)] 169
 nums:w.ownsRow B 3 1 (.slice pg N cg) N (L.map (Value.int .i64))
 hfree:0<m→fa=Gj pg k cg 1∧fc=cg-k
 hm:m+k=N
 hL:L.length=N
 hB:B≤bc
 hN:N≤1000000
theorem RAl.below{B bc bm:Nat}{pg:O0}{N cg:Nat}{fa:O0}{m fc k:Nat}{L:List Int}{w W:World}(h:RAl B bc bm pg N cg fa m fc k L w)(hb:B3 w W):RAl B bc bm pg N cg fa m fc k L W:=⟨h.blk.below hb,Zb h.nums hb,h.hfree,h.hm,h.hL,h.hB,h.hN⟩
theorem RAl.only{B bc bm:Nat}{pg:O0}{N cg:Nat}{fa:O0}{m fc k:Nat}{L:List Int}{w W:World}{T:List TypeId}(h:RAl B bc bm pg N cg fa m fc k L w)(hO:Zd T w W)(hT:T.contains 169=false∧T.contains 3=false):RAl B bc bm pg N cg fa m fc k L W:=⟨h.blk.only hO hT.1,Zi h.nums hO hT.2,h.hfree,h.hm,h.hL,h.hB,h.hN⟩
theorem RAl.mono{B B' bc bm:Nat}{pg:O0}{N cg:Nat}{fa:O0}{m fc k:Nat}{L:List Int}{w:World}(h:RAl B bc bm pg N cg fa m fc k L w)(hB:B'≤B):RAl B' bc bm pg N cg fa m fc k L w:=⟨h.blk,Ze h.nums hB,h.hfree,h.hm,h.hL,Nat.le_trans hB h.hB,h.hN⟩
theorem Ea{w:World}{pg:O0}{N cg:Nat}{fa:O0}{m fc k:Nat}{L:List Int}(h:Sl w (.slice pg N cg) N (L.map V0))(hf:0<m→fa=Gj pg k cg 1∧fc=cg-k)(hm:m+k=N)(hL:L.length=N):Sl w (.slice fa m fc) m ((L.drop k).map V0):=by
 rcases Nat.eq_zero_or_pos m with rfl|hp
 ·rw[List.drop_eq_nil_of_le (by omega)];exact .inl ⟨fa,fc,rfl,rfl,rfl⟩
 ·obtain⟨rfl,rfl⟩:=hf hp
  have:=sl_cut h (by simpa using hL) k (by omega)
  rw[show N-k=m by omega,←List.map_drop] at this
  exact this
theorem Gn{w:World}{fa:O0}{m fc k:Nat}{L:List Int}(h:Sl w (.slice fa m fc) m ((L.drop k).map V0))(hL:L.length=m+k){i:Nat}(hi:i<m):fa.isSome=true∧w.cell? (Zz fa (i*1))=some (V0 (L.getD (k+i) 0)):=by
 have:=IntsN.elem h (by simp;omega) hi
 rwa [show(L.drop k).getD i 0=L.getD (k+i) 0 by simp[List.getD,List.getElem?_drop]] at this
theorem cutA_zero(g c:Nat):Gj (S1 g) 0 c 1=some ⟨g,0,none⟩:=by
 unfold Gj;split
 ·rfl
 ·simp[Addr.add]
theorem Zf3{w:World}{B N cg k:Nat}{pg:O0}{xs:List Value}{e size:Nat}(h:w.ownsRow B e size (.slice pg N cg) N xs)(hk:k+1<N):Gj (Gj pg k cg 1) 1 (cg-k) 1=Gj pg (k+1) cg 1∧cg-k-1=cg-(k+1):=by
 have hc:=Ty h (by omega)
 obtain⟨g,rfl,_⟩:=Qf h (by omega)
 refine⟨?_,by omega⟩
 unfold Gj
 rw[if_neg (by omega),if_neg (by omega),if_neg (by omega)]
 by_cases h0:k=0
 ·subst h0;simp[Addr.add]
 ·simp[Addr.add,h0]
def Took16(B bc bm:Nat)(pg:O0)(N cg k:Nat)(L:List Int)(v:Value)(w:World)(e:Ending)(w':World):Prop :=
 ∃ fa m fc,e=.returned v∧Below B w w'∧Zd [169] w w'∧RAl B bc bm pg N cg fa m fc k L w'
theorem Ni(B bc bm:Nat)(pg:O0)(N cg:Nat)(fa:O0)(m fc k:Nat)(L:List Int)(w:World)(hA:RAl B bc bm pg N cg fa m fc k L w)(hBw:B≤w.heap.size)(h0:0<m) :
 C0 176 #[P0 bc] w (Took16 B bc bm pg N cg (k+1) L (.tuple #[V0 (L.getD (k+0) 0),.agg #[S0,V0 0]]) w):=by
 have hk:=hA.blk
 have hr:=hA.nums
 have hm:=hA.hm
 have hL:=hA.hL
 have hN:=hA.hN
 refine zin 35 Tryz.func176 ?_
 refine xa 3 [S0,V0 0] 35 fun b1 W1 n1=>?_
 have a0:=hk.below n1.below
 refine xb 8 1 a0 ?_
 refine xk 4 (show(((m:Int)==(0:Int)):Bool)=false from by simp;omega) ?_
 refine xb 7 1 a0 ?_
 have a1:=Zb hr n1.below
 refine xx 0 _ m 0 1 (Gn (Ea (Zf a1) hA.hfree hm hL) (by omega) (i:=0) (by omega)).1 ?_
 refine xl 0 ((Gn (Ea (Zf a1) hA.hfree hm hL) (by omega) (i:=0) (by omega)).2) ?_
 refine xb 9 1 a0 ?_
 refine xsL 0 (fun _ _ _ _ zo zx zy V=>Na (k:=1) (b:=fa) (n:=m) (c:=fc) (i:=1) (ki:=.i64) 1 zo zx zy rfl (by omega) Tryz.underlying33 (by kernel_rfl) V) ?_
 refine xs 2 a0 [P0 bm,.slice (Gj fa 1 fc 1) (m-1) (fc-1),V0 (k:Int)] fun W2 u2 k2=>?_
 refine xb 7 2 k2 ?_
 refine xwm 0 ((k:Int)+1) (↑(k+1):Int) ?_
 refine xs 2 k2 [P0 bm,.slice (Gj fa 1 fc 1) (m-1) (fc-1),V0 (↑(k+1):Int)] fun W3 u3 k3=>?_
 have k1:=u3.blkT (u2.blkT n1.blk a0 (by decide)) k2 (by decide)
 refine xsv 7 k1 [S0,V0 0] fun W4 u4 k4=>?_
 have g1:=n1.ge0 (Below.refl B _)
 have hB:=u4.below (u3.below (u2.below (blB (Below.refl B w) hBw n1.below) hA.hB) hA.hB) (Nat.le_trans hBw g1)
 have hO:=(Zd.upd_new (((show Zd [169] w _ from(Zd.of_below n1.below)).trans (Zd.of_upd u2 a0 (by decide))).trans (Zd.of_upd u3 k2 (by decide))) u4 g1)
 have a3:=u4.blkT k3 k1 (by decide)
 have a2:=u4.own2 (u3.own2 (u2.own2 a1 a0 (by decide)) k2 (by decide)) k1 (by decide)
 exact xec 3 k4 (.tuple #[V0 (L.getD (k+0) 0),.agg #[S0,V0 0]]) ⟨_,_,_,rfl,hB,hO,a3,a2,fun hp=>by rw[(hA.hfree h0).1,(hA.hfree h0).2];exact Zf3 a2 (by omega),by omega,hL,hA.hB,hN⟩
theorem only_r1{w w':World}(h:Zd [169] w w'):Zd [169,9] w w':=h.mono fun t ht=>by simp at ht ⊢;exact ht.1
theorem Tp{w w':World}(h:Zd [9] w w'):Zd [169,9] w w':=h.mono fun t ht=>by simp at ht ⊢;exact ht.2
def RLayG(B bc bm:Nat)(pg:O0)(N cg k:Nat)(L:List Int)(p:O0)(K c:Nat)(l:Bl)(kind:Int)(li:Bl)(w:World)(e:Ending)(w':World):Prop :=
 ∃ a c2 fa m fc,e=.returned (.tuple #[V0 (lyV k N K L kind li),.agg #[.slice a (lyB k N K L kind li).length c2,V0 (lyE k N K L kind li)]])∧Below B w w'∧Zd [169,9] w w'∧RAl B bc bm pg N cg fa m fc (lyK k N K L kind li) L w'∧RefI B bm p K c (lyL k N K L kind li l) w' ∧
  w'.ownsRow B 3 1 (.slice a (lyB k N K L kind li).length c2) (lyB k N K L kind li).length ((lyB k N K L kind li).map V0)
theorem Ol(B bc bm:Nat)(pg:O0)(N cg:Nat)(fa:O0)(m fc k:Nat)(L:List Int)(p:O0)(K c:Nat)(l:Bl)(kind:Int)(a:O0)(ci:Nat)(li:Bl)(w:World)(hA:RAl B bc bm pg N cg fa m fc k L w)(hI:RefI B bm p K c l w)(hin:∀ W,Below B w W→Zd [169,9] w W→Bys W (.slice a li.length ci) li)(hBw:B≤w.heap.size)(h0:m=0) :
 C0 90 #[P0 bc,V0 kind,.slice a li.length ci] w (Ret (.tuple #[V0 0,.agg #[S0,V0 14]]) w):=by
 have hk:=hA.blk
 refine zin 37 Tryz.func90 ?_
 refine xa 3 [S0,V0 0] 35 fun b1 W1 n1=>?_
 have a0:=hk.below n1.below
 refine xb 8 1 a0 ?_
 refine xk 4 (show(((m:Int)==(0:Int)):Bool)=true from by subst h0;rfl) ?_
 refine xsv 4 n1.blk [S0,V0 14] fun W2 u2 k2=>?_
 have g1:=n1.ge (B4 w)
 have hB:=u2.below n1.below g1
 exact xec 4 k2 (.tuple #[V0 0,.agg #[S0,V0 14]]) ⟨rfl,hB⟩
theorem Oo(B bc bm:Nat)(pg:O0)(N cg:Nat)(fa:O0)(m fc k:Nat)(L:List Int)(p:O0)(K c:Nat)(l:Bl)(kind:Int)(a:O0)(ci:Nat)(li:Bl)(w:World)(hA:RAl B bc bm pg N cg fa m fc k L w)(hI:RefI B bm p K c l w)(hin:∀ W,Below B w W→Zd [169,9] w W→Bys W (.slice a li.length ci) li)(hBw:B≤w.heap.size)(h0:0<m) :
 C0 90 #[P0 bc,V0 kind,.slice a li.length ci] w (RLayG B bc bm pg N cg k L p K c l kind li w):=by
 have hk:=hA.blk
 have hr:=hA.nums
 have hm:=hA.hm
 have hL:=hA.hL
 have hN:=hA.hN
 have a1:k<N:=by omega
 refine zin 37 Tryz.func90 ?_
 refine xa 3 [S0,V0 0] 35 fun b1 W1 n1=>?_
 have c6:=hk.below n1.below
 refine xb 8 1 c6 ?_
 refine xk 4 (show(((m:Int)==(0:Int)):Bool)=false from by simp;omega) ?_
 refine xd 3 (.t B [9,35]) ?_
 have a4:=c6.below (Za W1)
 refine xbt (.e [0,1,2] 3) 0 B [9,35] a4 ?_
 refine xbt (.e [4,5,6] 7) 1 B [9,35] a4 ?_
 have a3:=Zb (Zb hr n1.below) (Za W1)
 refine xx (.e [] 8) _ m 0 1 (Gn (Ea (Zf a3) hA.hfree hm hL) (by omega) (i:=0) (by omega)).1 ?_
 refine xlt (.e [] 9) (.t B [9,35]) (fun V hV=>(Gn (Ea (Zf (Zi a3 hV.2 (by decide))) hA.hfree hm hL) (by omega) (i:=0) (by omega)).2) ?_
 refine xm2 (.b [10,11]) 12 13 ?_ ?_
 ·have hB:=blB (blB (Below.refl B w) hBw n1.below) hBw (Za W1)
  have e0:B≤(W1.drew).heap.size:=Nat.le_trans hBw hB.size
  have d2:=(hI.below n1.below).below (Za W1)
  have hO:=(show Zd [169,9] w _ from(Zd.of_below n1.below)).trans (Zd.of_below (Za W1))
  refine yc 0 (args:=#[P0 bm,V0 (L.getD (k+0) 0),V0 kind,.slice a li.length ci]) (.t B [9,35]) (Ed B bm p K c l (L.getD (k+0) 0) kind a ci li _ d2 (hin _ hB hO) (Nat.le_trans hBw hB.size)) ?_
  rintro _ W2 ⟨a5,c5,rfl,c8,b0,hI,h5⟩
  refine⟨(Ki c8 b0),?_⟩
  replace h5:=Ze h5 e0
  refine xa (.o [] 13) [S0,V0 0] 35 fun b3 W3 n3=>?_
  have k1:=(n1.blk.below (Za W1)).only b0 (by decide)
  have b2:=n3.ne k1
  have g3:=n3.ge0 (hB.trans c8)
  refine ysv (.o [] 14) n3.blk [.slice a5 ((Bq (L.getD (k+0) 0) (wrE kind (L.getD (k+0) 0) K li)).length) c5,V0 (wrE kind (L.getD (k+0) 0) K li)] (.t B [9,35]) fun W4 u4 k4=>⟨(Zx u4 n3.blk (Nat.le_trans hBw g3) (by decide)),?_⟩
  refine xb 6 1 k4 ?_
  refine xin 3 (wrE kind (L.getD (k+0) 0) K li) (0:Int) (fun e5=>?_) (fun e5=>?_)
  ·have d3:wrE kind (L.getD k 0) K li≠0:=e5
   refine xd 1 (.t B [35]) ?_
   have d7:=k4.below (Za W4)
   refine xlv (.o [1] 0) d7.rp ?_
   have a7:=(u4.blk (k1.below n3.below) (Ne.symm (Ne.symm b2))).below (Za W4)
   have g1:=n1.ge0 (Below.refl B _)
   refine ysv (.o [] 2) a7 [.slice a5 ((Bq (L.getD (k+0) 0) (wrE kind (L.getD (k+0) 0) K li)).length) c5,V0 (wrE kind (L.getD (k+0) 0) K li)] (.t B [35]) fun W6 u6 k6=>⟨(Zx u6 a7 (Nat.le_trans hBw g1) (by decide)),?_⟩
   have e4:=u6.below (blB (u4.below (blB (hB.trans c8) hBw n3.below) (Nat.le_trans hBw g3)) hBw (Za W4)) (Nat.le_trans hBw g1)
   have d1:=(Zd.upd_new ((Zd.upd_new ((hO.trans (Tp b0)).trans (Zd.of_below n3.below)) u4 g3).trans (Zd.of_below (Za W4))) u6 g1)
   have f8:=u6.blkT ((u4.blkT ((a4.only b0 (by decide)).below n3.below) n3.blk (by decide)).below (Za W4)) a7 (by decide)
   have e6:=u6.own2 (Zb (u4.own2 (Zb (Zi a3 b0 (by decide)) n3.below) n3.blk (by decide)) (Za W4)) a7 (by decide)
   have g0:=(((hI.below n3.below).only (Zd.of_upd (T:=[35]) u4 n3.blk (by decide)) (by decide)).below (Za W4)).only (Zd.of_upd (T:=[35]) u6 a7 (by decide)) (by decide)
   have f4:=u6.own2 (Zb (u4.own2 (Zb h5 n3.below) n3.blk (by decide)) (Za W4)) a7 (by decide)
   refine xec 4 k6 (.tuple #[V0 0,.agg #[.slice a5 ((Bq (L.getD (k+0) 0) (wrE kind (L.getD (k+0) 0) K li)).length) c5,V0 (wrE kind (L.getD (k+0) 0) K li)]]) ?_
   have h2:¬ (k<N∧wrE kind (L.getD k 0) K li=0):=fun h=>d3 h.2
   exact⟨a5,c5,_,_,_,by rw[lyV,if_neg h2,lyE,if_pos a1,lyB,if_pos a1];rfl,e4,d1,by rw[lyK,if_neg h2];exact⟨f8,e6,hA.hfree,hm,hL,hA.hB,hN⟩,by rw[lyL,if_pos a1];exact g0,by rw[lyB,if_pos a1];exact f4⟩
  have e7:wrE kind (L.getD k 0) K li=0:=e5
  have g2:=u4.blkT ((a4.only b0 (by decide)).below n3.below) n3.blk (by decide)
  have d9:=u4.own2 (Zb (Zi a3 b0 (by decide)) n3.below) n3.blk (by decide)
  have c4:=u4.below (blB (hB.trans c8) hBw n3.below) (Nat.le_trans hBw g3)
  refine xc 5 (args:=#[P0 bc]) (Ni B bc bm pg N cg fa m fc k L _ ⟨g2,d9,hA.hfree,hm,hL,hA.hB,hN⟩ (Nat.le_trans hBw c4.size) (by omega)) ?_
  rintro _ W7 ⟨h4,m2,g6,rfl,h1,d8,f0⟩
  have b7:=(u4.blk (k1.below n3.below) (Ne.symm (Ne.symm b2))).only d8 (by decide)
  refine xsv 3 b7 [S0,V0 0] fun W8 u8 k8=>?_
  have g1:=n1.ge0 (Below.refl B _)
  have f6:=u8.below (c4.trans h1) (Nat.le_trans hBw g1)
  have f5:=(Zd.upd_new ((Zd.upd_new ((hO.trans (Tp b0)).trans (Zd.of_below n3.below)) u4 g3).trans (only_r1 d8)) u8 g1)
  have c7:=f0.only (Zd.of_upd (T:=[35]) u8 b7 (by decide)) (by decide)
  have e1:=(((hI.below n3.below).only (Zd.of_upd (T:=[35]) u4 n3.blk (by decide)) (by decide)).only d8 (by decide)).only (Zd.of_upd (T:=[35]) u8 b7 (by decide)) (by decide)
  refine xec 3 k8 (.tuple #[V0 (L.getD (k+0) 0),.agg #[S0,V0 0]]) ?_
  have h2:k<N∧wrE kind (L.getD k 0) K li=0:=⟨a1,e7⟩
  have h3:Bq (L.getD k 0) (wrE kind (L.getD k 0) K li)=[]:=by rw[h2.2];rfl
  exact⟨none,0,_,_,_,by rw[lyV,if_pos h2,lyE,if_pos a1,lyB,if_pos a1,h3,h2.2];rfl,f6,f5,by rw[lyK,if_pos h2];exact c7,by rw[lyL,if_pos a1];exact e1,by rw[lyB,if_pos a1,h3];exact World.ownsRow_nil _ _ _ _⟩
 refine xa 0 [S0,V0 0] 35 fun b9 W9 n9=>?_
 have k1:=n1.blk.below (Za W1)
 have a9:=n9.ne k1
 have hB:=blB (blB (blB (Below.refl B w) hBw n1.below) hBw (Za W1)) hBw n9.below
 have e0:B≤(W9).heap.size:=Nat.le_trans hBw hB.size
 have e9:=((hI.below n1.below).below (Za W1)).below n9.below
 have hO:=((show Zd [169,9] w _ from(Zd.of_below n1.below)).trans (Zd.of_below (Za W1))).trans (Zd.of_below n9.below)
 refine yc (.o [] 12) (args:=#[P0 bm,V0 (L.getD (k+0) 0),V0 kind,.slice a li.length ci]) (.t B [9,35]) (Ed B bm p K c l (L.getD (k+0) 0) kind a ci li _ e9 (hin _ hB hO) (Nat.le_trans hBw hB.size)) ?_
 rintro _ h8 ⟨a5,c5,rfl,b6,a0,hI,h5⟩
 refine⟨(Ki b6 a0),?_⟩
 replace h5:=Ze h5 e0
 have k9:=n9.blk.only a0 (by decide)
 have g9:=n9.ge0 (blB (blB (Below.refl B w) hBw n1.below) hBw (Za W1))
 refine ysv (.o [] 14) k9 [.slice a5 ((Bq (L.getD (k+0) 0) (wrE kind (L.getD (k+0) 0) K li)).length) c5,V0 (wrE kind (L.getD (k+0) 0) K li)] (.t B [9,35]) fun a8 a2 g5=>⟨(Zx a2 k9 (Nat.le_trans hBw g9) (by decide)),?_⟩
 refine xb 6 1 g5 ?_
 refine xin 3 (wrE kind (L.getD (k+0) 0) K li) (0:Int) (fun b5=>?_) (fun b5=>?_)
 ·have d3:wrE kind (L.getD k 0) K li≠0:=b5
  refine xd 1 (.t B [35]) ?_
  have c1:=g5.below (Za a8)
  refine xlv (.o [1] 0) c1.rp ?_
  have a6:=(a2.blk ((k1.below n9.below).only a0 (by decide)) (Ne.symm (Ne.symm a9))).below (Za a8)
  have g1:=n1.ge0 (Below.refl B _)
  refine ysv (.o [] 2) a6 [.slice a5 ((Bq (L.getD (k+0) 0) (wrE kind (L.getD (k+0) 0) K li)).length) c5,V0 (wrE kind (L.getD (k+0) 0) K li)] (.t B [35]) fun h6 c0 g7=>⟨(Zx c0 a6 (Nat.le_trans hBw g1) (by decide)),?_⟩
  have f3:=c0.below (blB (a2.below (hB.trans b6) (Nat.le_trans hBw g9)) hBw (Za a8)) (Nat.le_trans hBw g1)
  have d5:=(Zd.upd_new ((Zd.upd_new (hO.trans (Tp a0)) a2 g9).trans (Zd.of_below (Za a8))) c0 g1)
  have f9:=c0.blkT ((a2.blkT ((a4.below n9.below).only a0 (by decide)) k9 (by decide)).below (Za a8)) a6 (by decide)
  have e2:=c0.own2 (Zb (a2.own2 (Zi (Zb a3 n9.below) a0 (by decide)) k9 (by decide)) (Za a8)) a6 (by decide)
  have d6:=((hI.only (Zd.of_upd (T:=[35]) a2 k9 (by decide)) (by decide)).below (Za a8)).only (Zd.of_upd (T:=[35]) c0 a6 (by decide)) (by decide)
  have f1:=c0.own2 (Zb (a2.own2 h5 k9 (by decide)) (Za a8)) a6 (by decide)
  refine xec 4 g7 (.tuple #[V0 0,.agg #[.slice a5 ((Bq (L.getD (k+0) 0) (wrE kind (L.getD (k+0) 0) K li)).length) c5,V0 (wrE kind (L.getD (k+0) 0) K li)]]) ?_
  have h2:¬ (k<N∧wrE kind (L.getD k 0) K li=0):=fun h=>d3 h.2
  exact⟨a5,c5,_,_,_,by rw[lyV,if_neg h2,lyE,if_pos a1,lyB,if_pos a1];rfl,f3,d5,by rw[lyK,if_neg h2];exact⟨f9,e2,hA.hfree,hm,hL,hA.hB,hN⟩,by rw[lyL,if_pos a1];exact d6,by rw[lyB,if_pos a1];exact f1⟩
 have e7:wrE kind (L.getD k 0) K li=0:=b5
 have d4:=a2.blkT ((a4.below n9.below).only a0 (by decide)) k9 (by decide)
 have f7:=a2.own2 (Zi (Zb a3 n9.below) a0 (by decide)) k9 (by decide)
 have c2:=a2.below (hB.trans b6) (Nat.le_trans hBw g9)
 refine xc 5 (args:=#[P0 bc]) (Ni B bc bm pg N cg fa m fc k L _ ⟨d4,f7,hA.hfree,hm,hL,hA.hB,hN⟩ (Nat.le_trans hBw c2.size) (by omega)) ?_
 rintro _ h9 ⟨h4,m2,g6,rfl,d0,b8,f0⟩
 have b4:=(a2.blk ((k1.below n9.below).only a0 (by decide)) (Ne.symm (Ne.symm a9))).only b8 (by decide)
 refine xsv 3 b4 [S0,V0 0] fun h7 c9 g8=>?_
 have g1:=n1.ge0 (Below.refl B _)
 have f2:=c9.below (c2.trans d0) (Nat.le_trans hBw g1)
 have e3:=(Zd.upd_new ((Zd.upd_new (hO.trans (Tp a0)) a2 g9).trans (only_r1 b8)) c9 g1)
 have c3:=f0.only (Zd.of_upd (T:=[35]) c9 b4 (by decide)) (by decide)
 have e8:=((hI.only (Zd.of_upd (T:=[35]) a2 k9 (by decide)) (by decide)).only b8 (by decide)).only (Zd.of_upd (T:=[35]) c9 b4 (by decide)) (by decide)
 refine xec 3 g8 (.tuple #[V0 (L.getD (k+0) 0),.agg #[S0,V0 0]]) ?_
 have h2:k<N∧wrE kind (L.getD k 0) K li=0:=⟨a1,e7⟩
 have h3:Bq (L.getD k 0) (wrE kind (L.getD k 0) K li)=[]:=by rw[h2.2];rfl
 exact⟨none,0,_,_,_,by rw[lyV,if_pos h2,lyE,if_pos a1,lyB,if_pos a1,h3,h2.2];rfl,f2,e3,by rw[lyK,if_pos h2];exact c3,by rw[lyL,if_pos a1];exact e8,by rw[lyB,if_pos a1,h3];exact World.ownsRow_nil _ _ _ _⟩
theorem Zf7(B bc bm:Nat)(pg:O0)(N cg:Nat)(fa:O0)(m fc k:Nat)(L:List Int)(p:O0)(K c:Nat)(l:Bl)(kind:Int)(a:O0)(ci:Nat)(li:Bl)(w:World)(hA:RAl B bc bm pg N cg fa m fc k L w)(hI:RefI B bm p K c l w)(hin:∀ W,Below B w W→Zd [169,9] w W→Bys W (.slice a li.length ci) li)(hBw:B≤w.heap.size) :
 C0 90 #[P0 bc,V0 kind,.slice a li.length ci] w (RLayG B bc bm pg N cg k L p K c l kind li w):=by
 have hm:=hA.hm
 rcases Nat.eq_zero_or_pos m with h0|h0
 ·refine(Ol B bc bm pg N cg fa m fc k L p K c l kind a ci li w hA hI hin hBw h0).mono ?_
  rintro e W ⟨rfl,hb⟩
  have hk:¬ k<N:=by omega
  have h2:¬ (k<N∧wrE kind (L.getD k 0) K li=0):=fun h=>hk h.1
  exact⟨none,0,_,_,_,by rw[lyV,if_neg h2,lyE,if_neg hk,lyB,if_neg hk];rfl,hb.mono hBw,Zd.of_below hb,by rw[lyK,if_neg h2];exact hA.below hb,by rw[lyL,if_neg hk];exact hI.below hb,by rw[lyB,if_neg hk];exact World.ownsRow_nil _ _ _ _⟩
 ·exact Oo B bc bm pg N cg fa m fc k L p K c l kind a ci li w hA hI hin hBw h0
theorem Zf8(B bc bm:Nat)(pg:O0)(N cg:Nat)(fa:O0)(m fc k j:Nat)(L:List Int)(w:World)(hA:RAl B bc bm pg N cg fa m fc k L w)(hj:j≤1000000) :
 C0 184 #[P0 bc,V0 (j:Int)] w (Qn (fun w' r=>∃ q c2,r=.slice q (min j (N-k)) c2∧w'.ownsRow w.heap.size 3 1 (.slice q (min j (N-k)) c2) (min j (N-k)) (((L.drop k).take j).map V0)) w):=by
 have hk:=hA.blk
 have hm:=hA.hm
 have hL:=hA.hL
 have hN:=hA.hN
 have hf:=Ea (Zf hA.nums) hA.hfree hA.hm hA.hL
 refine zin 32 Tryz.func184 ?_
 have hB:=Below.refl w.heap.size w
 refine zl 17 32 (fun zm b0 V=>∃ (i:Nat) (pq:O0) (cq:Nat),b0=[(0,P0 bc),(1,V0 (j:Int)),(4,S0),(5,.slice pq i cq),(6,V0 (i:Int))]∧zm=j-((i:Int)).toNat∧B3 w V∧Blk V bc ([P0 bm,.slice fa m fc,V0 (k:Int)]) 169∧V.ownsRow w.heap.size 3 1 (.slice pq i cq) i (((L.drop k).take i).map V0)∧i≤min j m) ⟨0,_,_,rfl,rfl,hB,hk,World.ownsRow_nil _ _ _ _,Nat.zero_le _⟩ ?_
 rintro _ _ W1 ⟨i,pq,cq,rfl,rfl,a2,a0,hq,hi⟩ J1 b3 r1
 refine xg 7 [9,10] (decide ((i:Int)<(j:Int))) (fun a5=>?_) (fun a5=>?_)
 ·have a5:=of_decide_eq_true a5
  refine xb 4 1 a0 ?_
  refine xid 5 ((i:Int)<(m:Int)) (fun a9=>?_) (fun a9=>?_)
  ·refine xb 9 1 a0 ?_
   refine xx 1 _ m i 1 (Gn hf (by omega) (i:=i) (by omega)).1 ?_
   refine xl 0 ((Gn (hf.below a2) (by omega) (i:=i) (by omega)).2) ?_
   refine xbs 0 1 [V0 (L.getD (k+i) 0)] 3 fun b4 W4 n4=>?_
   have a8:=Zr hq n4
   have a3:=Zb hq n4.below
   have a4:=bln a2 n4.below
   refine xbi 0 fun _ _ _ _ zJ zQ zo zx zy zK=>Zn (m:=1) (news:=[V0 (L.getD (k+i) 0)]) (V0 0) 1 8 (i+1) (((L.drop k).take (i+1)).map V0) zo Tryz.underlying33 (by kernel_rfl) rfl (by decide) zx a3 zy (n4.blk.sl 1 1 (by decide) (by decide)) rfl (by simp[Value.oneCell']) (by unfold maxLen;omega) (by omega) a4.size (by rfl) (by rw[List.take_succ_eq_append_getElem (by simp;omega),List.map_append];simp[List.getD,List.getElem?_eq_getElem (show k+i<L.length by omega)]) fun p5 c5 W5 o5 b1 b2=>?_
   refine zK _ _ ?_
   refine xwm 6 ((i:Int)+1) (↑(i+1):Int) ?_
   have a6:=a4.trans b2
   have a1:=(a0.below n4.below).grown b1 a3 (by decide)
   exact ze 2 (b3 _ _ _ ⟨i+1,_,_,rfl,rfl,a6,a1,o5,by omega⟩ (by omega))
  refine xe 12 (.slice pq i cq) ?_
  have a7:i=min j m:=by omega
  have e1:min j (N-k)=i:=by omega
  have e2:(L.drop k).take j=(L.drop k).take i:=by
   rcases Nat.le_total j m with q|q
   ·rw[a7,Nat.min_eq_left q]
   ·rw[List.take_of_length_le (by simp;omega),List.take_of_length_le (by simp;omega)]
  rw[e1,e2]
  exact⟨_,rfl,a2,_,_,rfl,hq⟩
 have a5:=of_decide_eq_false a5
 refine xe 23 (.slice pq i cq) ?_
 have a7:i=min j m:=by omega
 have e1:min j (N-k)=i:=by omega
 have e2:(L.drop k).take j=(L.drop k).take i:=by
  rcases Nat.le_total j m with q|q
  ·rw[a7,Nat.min_eq_left q]
  ·rw[List.take_of_length_le (by simp;omega),List.take_of_length_le (by simp;omega)]
 rw[e1,e2]
 exact⟨_,rfl,a2,_,_,rfl,hq⟩
theorem Su(t:Int)(x:Value)(w:World)(h:¬ (1≤t∧t≤5)) :
 C0 86 #[V0 t,x] w (Ret (.bool false) w):=by
 refine zin 63 Tryz.func86 ?_
 refine xr 9 (args:=#[V0 t,.bool true]) (Za4 t true _ h) fun W1 a0=>?_
 exact xe 16 (.bool false) ⟨rfl,a0⟩
theorem Sh(t:Int)(v:Nat)(a:O0)(c:Nat)(l:List Ent)(w:World)(ht1:1≤t)(ht2:t≤5)(hv:Pj t true=v)(h:Sts Yj w (.slice a l.length c) l)(hn:l.length≤32768) :
 C0 86 #[V0 t,.slice a l.length c] w (Ret (.bool (Px v l)) w):=by
 have c3:=Yt t true
 refine zin 63 Tryz.func86 ?_
 refine xr 9 (args:=#[V0 t,.bool true]) (Jr t true _ rfl ht1 ht2 _) fun W1 b6=>?_
 refine xgk 2 [8,9] (show(((↑(Qq t true):Int)==(0:Int)):Bool)=false from by simp;omega) ?_
 refine xk 6 (show(decide ((l.length:Int)>(32768:Int)):Bool)=false from decide_eq_false (by omega)) ?_
 refine zl 9 63 (fun zm b7 V=>∃ (i:Nat),b7=[(0,V0 t),(1,.slice a l.length c),(5,V0 (i:Int))]∧zm=l.length-((i:Int)).toNat∧B3 w V∧i≤l.length∧(∀ j,j<i→Za6 v l j)) ⟨0,rfl,rfl,b6,Nat.zero_le _,?_⟩ ?_
 ·exact fun j hj=>absurd hj (by omega)
 rintro _ _ W3 ⟨i,rfl,rfl,a3,hi,hz⟩ J3 b4 r3
 have c1:=Tn hz
 have c0:0<i→Cb l i=(l.getD (i-1) Xn).1:=lastK_pos
 have c2:i=0→Cb l i = -1:=Zdp
 refine xid 9 ((i:Int)<(l.length:Int)) (fun b8=>?_) (fun b8=>?_)
 ·refine xd 5 .z ?_
  refine xx (.e [0,1] 2) _ l.length i 3 (Sts.cell h Xg Xn (k:=i) (i:=0) (by omega) rfl).1 ?_
  have a0:=bln a3 (Za W3)
  refine xl (.e [3] 4) ((Sts.cell (h.below a0) Xg Xn (k:=i) (i:=0) (by omega) rfl).2) ?_
  refine xg (.b [5,6]) [25,26] (decide ((l.getD i Xn).1<(0:Int))) (fun a4=>?_) (fun a4=>?_)
  ·have a4:=of_decide_eq_true a4
   exact xe (.r [7,8,9,10,11,12,13,14,15,16,17,18,19,20,21,22,23,24,25,26,27,28,29,30,31,32,33,34,35,36,37,38,39,40,41,42] 14) (.bool false) ⟨by rw[Hb (i:=i) (by omega) (fun a1=>by unfold Za6 at a1;omega)],a0⟩
  have a4:=of_decide_eq_false a4
  refine xx (.e [7,8] 9) _ l.length i 3 (Sts.cell h Xg Xn (k:=i) (i:=0) (by omega) rfl).1 ?_
  refine xl (.e [10] 11) ((Sts.cell (h.below a0) Xg Xn (k:=i) (i:=0) (by omega) rfl).2) ?_
  refine xg (.b [12,13,14]) [32,33,34] (decide ((l.getD i Xn).1>(281474976710655:Int))) (fun a7=>?_) (fun a7=>?_)
  ·have a7:=of_decide_eq_true a7
   exact xe (.r [15,16,17,18,19,20,21,22,23,24,25,26,27,28,29,30,31,32,33,34,35,36,37,38,39,40,41,42] 14) (.bool false) ⟨by rw[Hb (i:=i) (by omega) (fun a1=>by unfold Za6 at a1;omega)],a0⟩
  have a7:=of_decide_eq_false a7
  refine xg (.b [15,16,17]) [36,37] (decide ((i:Int)>(0:Int))) (fun a6=>?_) (fun a6=>?_)
  ·have a6:=of_decide_eq_true a6
   refine xx (.e [18,19] 20) _ l.length i 3 (Sts.cell h Xg Xn (k:=i) (i:=0) (by omega) rfl).1 ?_
   refine xl (.e [21] 22) ((Sts.cell (h.below a0) Xg Xn (k:=i) (i:=0) (by omega) rfl).2) ?_
   refine xwm (.e [23,24] 25) ((i:Int)-1) (↑(i-1):Int) ?_
   refine xx (.e [] 26) _ l.length (i-1) 3 (Sts.cell h Xg Xn (k:=(i-1)) (i:=0) (by omega) rfl).1 ?_
   refine xl (.e [27] 28) ((Sts.cell (h.below a0) Xg Xn (k:=(i-1)) (i:=0) (by omega) rfl).2) ?_
   refine xg (.b [29,30,31,32]) [49,50,51,52] (decide ((l.getD i Xn).1≤(l.getD (i-1) Xn).1)) (fun a5=>?_) (fun a5=>?_)
   ·have a5:=of_decide_eq_true a5
    exact xe (.r [33,34,35,36,37,38,39,40,41,42] 14) (.bool false) ⟨by rw[Hb (i:=i) (by omega) (fun a1=>by unfold Za6 at a1;omega)],a0⟩
   have a5:=of_decide_eq_false a5
   refine xx (.e [33,34] 35) _ l.length i 3 (Sts.cell h Xg Xn (k:=i) (i:=0) (by omega) rfl).1 ?_
   refine xl (.e [36] 37) ((Sts.cell (h.below a0) Xg Xn (k:=i) (i:=1) (by omega) rfl).2) ?_
   refine xr (.o [38,39] 40) (args:=#[V0 t,.bool true]) (Jw t true v hv ht1 ht2 _) fun W9 b5=>?_
   refine xin (.r [41,42] 2) (↑((l.getD i Xn).2.1).length:Int) (v:Int) (fun b0=>?_) (fun b0=>?_)
   ·have b3:=bln a0 b5
    exact xe 11 (.bool false) ⟨by rw[Hb (i:=i) (by omega) (fun a1=>by unfold Za6 at a1;omega)],b3⟩
   refine xwm 5 ((i:Int)+1) (↑(i+1):Int) ?_
   have b2:=bln a0 b5
   exact ze 2 (b4 _ _ _ ⟨i+1,rfl,rfl,b2,by omega,fun j hj=>(Nat.lt_or_ge j i).elim (hz j) (fun q=>by obtain rfl:j=i:=(by omega);unfold Za6;omega)⟩ (by omega))
  have a6:=of_decide_eq_false a6
  refine xx (.e [18,19,20,21,22,23,24,25,26,27,28,29,30,31,32,33,34] 35) _ l.length i 3 (Sts.cell h Xg Xn (k:=i) (i:=0) (by omega) rfl).1 ?_
  refine xl (.e [36] 37) ((Sts.cell (h.below a0) Xg Xn (k:=i) (i:=1) (by omega) rfl).2) ?_
  refine xr (.o [38,39] 40) (args:=#[V0 t,.bool true]) (Jw t true v hv ht1 ht2 _) fun b9 a2=>?_
  refine xin (.r [41,42] 2) (↑((l.getD i Xn).2.1).length:Int) (v:Int) (fun a8=>?_) (fun a8=>?_)
  ·have b1:=bln a0 a2
   exact xe 11 (.bool false) ⟨by rw[Hb (i:=i) (by omega) (fun a1=>by unfold Za6 at a1;omega)],b1⟩
  refine xwm 5 ((i:Int)+1) (↑(i+1):Int) ?_
  have a9:=bln a0 a2
  exact ze 2 (b4 _ _ _ ⟨i+1,rfl,rfl,a9,by omega,fun j hj=>(Nat.lt_or_ge j i).elim (hz j) (fun q=>by obtain rfl:j=i:=(by omega);unfold Za6;omega)⟩ (by omega))
 exact xe 11 (.bool true) ⟨by rw[Sa (fun j hj=>hz j (by omega))],a3⟩
theorem Zas(t:Int)(a:O0)(c:Nat)(l:List Ent)(w:World)(h:Sts Yj w (.slice a l.length c) l)(hn:l.length≤32768) :
 C0 86 #[V0 t,.slice a l.length c] w (Ret (.bool (decide (1≤t∧t≤5∧Px (Pj t true) l=true))) w):=by
 by_cases ht:1≤t∧t≤5
 ·rw[show decide (1≤t∧t≤5∧Px (Pj t true) l=true)=Px (Pj t true) l by simp[ht.1,ht.2]]
  exact Sh t _ a c l w ht.1 ht.2 rfl h hn
 ·rw[show decide (1≤t∧t≤5∧Px (Pj t true) l=true)=false from decide_eq_false fun h=>ht ⟨h.1,h.2.1⟩]
  exact Su t _ w ht
def RLaidQ(B bc bm:Nat)(pg:O0)(N cg f k:Nat)(p:O0)(K c:Nat)(l:Bl)(li:Bl)(q:Nat)(w:World)(e:Ending)(w':World):Prop :=
 ∃ a c2 fa m fc,e=.returned (.tuple #[V0 (q:Int),.agg #[.slice a 0 c2,V0 0]])∧Below B w w'∧Zd [169,9] w w'∧RAl B bc bm pg N cg fa m fc (k+1) (Qs f N) w'∧RefI B bm p K c (Vc l (q*256) (Xw 2 (q:Int) li)) w'
theorem Cm(B bc bm:Nat)(pg:O0)(N cg:Nat)(fa:O0)(m fc f k:Nat)(p:O0)(K c:Nat)(l:Bl)(a:O0)(ci n':Nat)(li:Bl)(q:Nat)(w:World)(hq:f+k=q)(hn':li.length=n')(hl:n'≤244)(hkN:k<N)(hf:f+N≤K)(hA:RAl B bc bm pg N cg fa m fc k (Qs f N) w)(hI:RefI B bm p K c l w)(hin:∀ W,Below B w W→Zd [169,9] w W→Bys W (.slice a n' ci) li)(hBw:B≤w.heap.size) :
 C0 90 #[P0 bc,V0 2,.slice a n' ci] w (RLaidQ B bc bm pg N cg f k p K c l li q w):=by
 subst hq hn'
 have hK:=hI.hk
 have hL:(Qs f N).getD k 0=((f+k:Nat):Int):=Uh hkN
 have hs:Vv 2 ((f+k:Nat):Int) li=0:=by
  unfold Vv
  rw[if_pos (show Qg 2 ((f+k:Nat):Int)=true from decide_eq_true (by omega)),if_pos hl]
 have hw:wrE 2 ((Qs f N).getD k 0) K li=0:=by
  rw[hL];unfold wrE;rw[if_pos hs,if_pos (by omega)]
 refine(Zf7 B bc bm pg N cg fa m fc k (Qs f N) p K c l 2 a ci li w hA hI hin hBw).mono ?_
 rintro e W ⟨a2,c2,a3,m2,a4,rfl,hb,hO,a1,a0,h5⟩
 have e1:lyV k N K (Qs f N) 2 li=((f+k:Nat):Int):=by rw[lyV,if_pos ⟨hkN,hw⟩,hL]
 have e2:lyE k N K (Qs f N) 2 li=0:=by rw[lyE,if_pos hkN,hw]
 have e3:lyB k N K (Qs f N) 2 li=[]:=by rw[lyB,if_pos hkN,hw];rfl
 have e4:lyK k N K (Qs f N) 2 li=k+1:=by rw[lyK,if_pos ⟨hkN,hw⟩]
 have e5:lyL k N K (Qs f N) 2 li l=Vc l ((f+k)*256) (Xw 2 ((f+k:Nat):Int) li):=by rw[lyL,if_pos hkN,wrL,if_pos hw,hL];rfl
 rw[e4] at a1
 rw[e5] at a0
 exact⟨a2,c2,a3,m2,a4,by rw[e1,e2,e3];rfl,hb,hO,a1,a0⟩
def treeL(t:Int)(leaf:Bool)(m v:Nat)(l:List Ent)(q:Nat)(bs:Bl):Int×Bl:=Ux t (upE l m q (ovN l.length m)) (q+ovN l.length m) (Iw t leaf m v l q bs (ovN l.length m))
theorem from_lt{n m i:Nat}(hm:1≤m)(h:i*m<n∨i=0):i<ovN n m:=by
 have hp:=Vf n m
 rcases h with h|h
 ·unfold ovN
  have:i<(n+m-1)/m:=by
   rw[Nat.lt_div_iff_mul_lt (by omega)];omega
  omega
 ·omega
theorem Zcj{n m i:Nat}(hm:1≤m)(hi:i≤ovN n m)(h:¬ i*m<n)(h0:i*m≠0):i=ovN n m:=by
 rcases Nat.lt_or_ge i (ovN n m) with q|q
 ·rcases Nat.eq_zero_or_pos n with hn|hn
  ·subst hn
   rw[Ay hm (Nat.zero_le _)] at q
   obtain rfl:i=0:=by omega
   simp at h0
  ·exact absurd (Zgf hm hn q) h
 ·omega
def Zgk(B bc bm:Nat)(pg:O0)(N cg f k0:Nat)(p:O0)(K c:Nat)(bs:Bl)(t:Int)(l:List Ent)(w:World)(e:Ending)(w':World):Prop :=
 ∃ fa m fc,e=.returned (.tuple #[V0 (Yo t l (f+k0) bs).1,.agg #[S0,V0 0]])∧Below B w w'∧Zd [169,9] w w'∧RAl B bc bm pg N cg fa m fc (k0+Zy t l.length) (Qs f N) w'∧RefI B bm p K c (Yo t l (f+k0) bs).2 w'
theorem up_at{w:World}{p:O0}{i c m q:Nat}{u:List Ent}(h:Sl w (.slice p i c) i ((upE u m q i).flatMap Yj))(hi:0<i):p.isSome=true∧w.cell? ((Zz p (0*3)).add 2)=some (V0 (upX u m q 0).2.2):=by
 have h2:Sts Yj w (.slice p (upE u m q i).length c) (upE u m q i):=by unfold Sts;rw[Xh];exact h
 have:=Sts.cell h2 Xg Xn (k:=0) (i:=2) (by rw[Xh];exact hi) rfl
 rw[Hx hi] at this
 exact this
theorem Oe(B bc bm:Nat)(pg:O0)(N cg:Nat)(fa:O0)(mf fc f k0:Nat)(p:O0)(K cI:Nat)(bs:Bl)(t:Int)(a:O0)(c:Nat)(l:List Ent)(w:World)(hR:RAl B bc bm pg N cg fa mf fc k0 (Qs f N) w)(hn:l.length≤32768)(hr:1≤t∧t≤5∧Px (Pj t true) l=true)(hs:k0+Zy t l.length≤N)(hf:f+N≤K)(hJ:RefI B bm p K cI bs w)(hin:∀ W,Below B w W→Zd [169,9] w W→Sts Yj W (.slice a l.length c) l)(hBw:B≤w.heap.size) :
 C0 39 #[P0 bc,V0 t,.slice a l.length c] w (Zgk B bc bm pg N cg f k0 p K cI bs t l w):=by
 have av:=hr.1
 have ao:=hr.2.1
 have qj:=hR.hm
 have pr:=hJ.hk
 have hN:=hR.hN
 refine zin 128 Tryz.func39 ?_
 refine xa 3 [S0,V0 0] 35 fun b1 W1 n1=>?_
 have hB:=blB (Below.refl B w) hBw n1.below
 have hO:=(show Zd [169,9] w _ from(Zd.of_below n1.below))
 refine xr 7 (args:=#[V0 t,.slice a l.length c]) (Zas t a c l _ (hin _ hB hO) hn) fun W2 dn=>?_
 refine xk 3 (show(!(decide (1≤t∧t≤5∧Px (Pj t true) l=true)):Bool)=false from by rw[decide_eq_true hr];rfl) ?_
 refine xd 4 .z ?_
 have bu:=((hR.below n1.below).below dn).below (Za W2)
 refine xl (.e [0,1,2] 3) (bu.blk.cell (i:=1) rfl) ?_
 refine xr (.o [4,5,6,7] 8) (args:=#[V0 t,V0 (l.length:Int)]) (Qd t l.length _ av ao hn) fun W3 bz=>?_
 refine xk (.r [9] 2) (show(decide ((mf:Int)<(↑(Zy t l.length):Int)):Bool)=false from decide_eq_false (by omega)) ?_
 have jq:=bu.below bz
 have jt:=(((hJ.below n1.below).below dn).below (Za W2)).below bz
 have bf:=blB (blB (blB hB hBw dn) hBw (Za W2)) hBw bz
 have ff:=((hO.trans (Zd.of_below dn)).trans (Zd.of_below (Za W2))).trans (Zd.of_below bz)
 have k1:=((n1.blk.below dn).below (Za W2)).below bz
 refine zl 8 128 (fun zm w5 V=>∃ (u:List Ent) (k m v:Nat) (a1:Bool) (b2:Bl) (a2:O0) (c2:Nat),w5=[(0,P0 bc),(1,V0 t),(2,.slice a2 u.length c2),(7,P0 b1),(8,.bool a1)]∧zm=(if a1=true then 40000 else u.length)∧Below B w V∧Zd [169,9] w V∧Blk V b1 ([S0,V0 0]) 35∧(∃ fa mf fc,RAl B bc bm pg N cg fa mf fc k (Qs f N) V)∧RefI B bm p K cI b2 V∧(∀ W,Below B V W→Zd [169,9] V W→Sts Yj W (.slice a2 u.length c2) u)∧Qq t a1=m∧Pj t a1=v∧EntsOk v u∧k+(Ri (ovN u.length m)).sum=k0+Zy t l.length∧(a1=false→2≤u.length)∧u.length≤32768∧treeL t a1 m v u (f+k) b2=Yo t l (f+k0) bs) ⟨l,k0,(Qq t true),(Pj t true),true,bs,a,c,rfl,rfl,bf,ff,k1,⟨_,_,_,jq⟩,jt,?_,rfl,rfl,entsB_ok hr.2.2,rfl,(fun h=>by cases h),hn,rfl⟩ ?_
 ·exact fun W h1 h2=>hin W (bf.trans h1) (Zd.trans (by first|exact ff|exact Zd.refl _ _) h2)
 rintro _ _ W4 ⟨u,k,m,v,a1,b2,a2,c2,rfl,rfl,y3,ew,ef,lo,hJ,ko,hm,hv,hE,hk,bw,rd,kk⟩ J4 mj r4
 have a0:B≤W4.heap.size:=Nat.le_trans hBw y3.size
 obtain⟨fa,mf,fc,hR⟩:=lo
 have ay:=Yt t a1
 rw[hm] at ay
 have qz:=Lg (ovN u.length m)
 have px:=Fh u.length m ay.1
 have qg:=Vf u.length m
 refine xr 15 (args:=#[V0 t,.bool a1]) (Jr t a1 m hm av ao _) fun W5 ce=>?_
 refine xv1 5 10 (show(V0 0:Value)=V0 (↑(0*m):Int) from by rw[Nat.zero_mul];rfl) ?_
 have gw:=hR.below ce
 have hd:=hJ.below ce
 have hB:=blB (Below.refl B W4) a0 ce
 have hO:=(show Zd [169,9] W4 _ from(Zd.of_below ce))
 have q5:=ef.below ce
 refine zl 0 128 (fun zm w5 V=>∃ (i:Nat) (p4:O0) (c4:Nat) (fa:O0) (mf fc:Nat),w5=[(0,P0 bc),(1,V0 t),(2,.slice a2 u.length c2),(7,P0 b1),(8,.bool a1),(9,.slice p4 i c4),(10,V0 (↑(i*m):Int)),(11,V0 (m:Int))]∧zm=(ovN u.length m)-i∧Below B W4 V∧Zd [169,9] W4 V∧Blk V b1 ([S0,V0 0]) 35∧V.ownsRow W4.heap.size 123 3 (.slice p4 i c4) i ((upE u m (f+k) i).flatMap Yj)∧RAl B bc bm pg N cg fa mf fc (k+i) (Qs f N) V∧RefI B bm p K cI (Iw t a1 m v u (f+k) b2 i) V∧i≤(ovN u.length m)) ⟨0,none,0,fa,mf,fc,rfl,rfl,hB,hO,q5,World.ownsRow_nil _ _ _ _,gw,hd,Nat.zero_le _⟩ ?_
 rintro _ _ W6 ⟨i,p4,c4,fa,mf,fc,rfl,rfl,s0,q8,c7,x7,hR,hJ,hi⟩ J6 t9 r6
 have pc:(i*m<u.length∨i=0)→i<(ovN u.length m):=from_lt ay.1
 have ru:i*m=0→i=0:=fun h=>(Nat.mul_eq_zero.1 h).elim id (fun h=>by omega)
 refine xg 8 [41,42] (decide ((↑(i*m):Int)<(u.length:Int))) (fun fq=>?_) (fun fq=>?_)
 ·have fq:=of_decide_eq_true fq
  have x6:=s0
  have p2:=q8
  refine xa 14 [V0 0,.bool false,S0,S0] 173 fun b9 W9 n9=>?_
  refine xsv 0 n9.blk [V0 t,.bool a1,S0,S0] fun rj mh md=>?_
  have g9:=n9.ge (B4 W6)
  have hB:=mh.below n9.below g9
  refine zl 10 128 (fun zm w5 V=>∃ (j:Nat) (kp:O0) (kc:Nat) (vp:O0) (vc:Nat),w5=[(0,P0 bc),(1,V0 t),(2,.slice a2 u.length c2),(7,P0 b1),(8,.bool a1),(9,.slice p4 i c4),(10,V0 (↑(i*m):Int)),(11,V0 (m:Int)),(12,P0 b9),(13,V0 (↑(i*m+j):Int))]∧zm=m-j∧B3 W6 V∧Blk V b9 ([V0 t,.bool a1,.slice kp j kc,.slice vp j vc]) 173∧V.ownsRow W6.heap.size 3 1 (.slice kp j kc) j (((Xm (Zj u m i)).take j).map V0)∧V.ownsRow W6.heap.size 9 1 (.slice vp j vc) j (((Yg (Zj u m i)).take j).map sv)∧j≤Vw u.length m i) ⟨0,none,0,none,0,rfl,rfl,hB,md,World.ownsRow_nil _ _ _ _,World.ownsRow_nil _ _ _ _,Nat.zero_le _⟩ ?_
  rintro _ _ v3 ⟨j,kp,kc,vp,vc,rfl,rfl,o8,c5,hK,hV,hj⟩ qe q4 ot
  have mm:Vw u.length m i=min m (u.length-i*m):=rfl
  have jv:=Vj u m i
  have l8:j<Vw u.length m i→(Zj u m i).getD j Xn=u.getD (i*m+j) Xn:=Uq
  refine xg 8 [53,54] (decide ((↑(i*m+j):Int)<(u.length:Int))) (fun o2=>?_) (fun o2=>?_)
  ·have o2:=of_decide_eq_true o2
   refine xwm 3 ((↑(i*m):Int)+(m:Int)) (↑((i*m)+m):Int) ?_
   refine xid 4 ((↑(i*m+j):Int)<(↑((i*m)+m):Int)) (fun gp=>?_) (fun gp=>?_)
   ·refine xd 5 (.t W6.heap.size [3,173]) ?_
    have b5:=ko _ x6 p2
    refine xx (.e [0,2,3] 4) _ u.length (i*m+j) 3 (Sts.cell b5 Xg Xn (k:=(i*m+j)) (i:=0) (by omega) rfl).1 ?_
    have q2:=Zb hV (Za v3)
    have x9:=bln o8 (Za v3)
    refine xlt (.e [5] 6) (.t W6.heap.size [3,173]) (fun V q2=>(Sts.cell (b5.below (Vr x9 q2 (Nat.le_refl _))) Xg Xn (k:=(i*m+j)) (i:=0) (by omega) rfl).2) ?_
    refine xm2 0 1 7 ?_ ?_
    ·have h5:=c5.below (Za v3)
     refine xb 0 2 h5 ?_
     refine xbs (.o [] 7) 1 [V0 ((u.getD (i*m+j) Xn).1)] 3 fun se oq y9=>?_
     have dq:=Zb hK (Za v3)
     have im:=Zr dq y9
     have p3:=Zb dq y9.below
     have dk:=bln x9 y9.below
     refine ybi (.o [] 8) (.t W6.heap.size [3,173]) fun _ _ _ _ zJ zQ zo zx zy zK=>Zn (m:=1) (news:=[V0 ((u.getD (i*m+j) Xn).1)]) (V0 0) 1 8 (j+1) (((Xm (Zj u m i)).take (j+1)).map V0) zo Tryz.underlying33 (by kernel_rfl) rfl (by decide) zx p3 zy (y9.blk.sl 1 1 (by decide) (by decide)) rfl (by simp[Value.oneCell']) (by unfold maxLen;omega) (by omega) dk.size (by rfl) (by rw[Wm (by omega),l8 (by omega)]) fun iz jl qv kn x2 cw=>?_
     refine zK _ _ (Zt cw x2 p3 (by decide)) ?_
     have b3:=(h5.below y9.below).grown x2 p3 (by decide)
     refine ys (.o [9] 10) b3 [V0 t,.bool a1,.slice iz (j+1) jl,.slice vp j vc] (.t W6.heap.size [3,173]) fun ac en ki=>⟨(Zx en b3 g9 (by decide)),?_⟩
     refine xd 2 (.t W6.heap.size [9,173]) ?_
     refine xx (.e [0,2,3] 4) _ u.length (i*m+j) 3 (Sts.cell b5 Xg Xn (k:=(i*m+j)) (i:=0) (by omega) rfl).1 ?_
     have l6:=Zb (en.own2 (Zo (Zb q2 y9.below) x2 p3 (by decide)) b3 (by decide)) (Za ac)
     have w8:=bln (en.below (dk.trans cw) g9) (Za ac)
     refine xlt (.e [5] 6) (.t W6.heap.size [9,173]) (fun V l6=>(Sts.cell (b5.below (Vr w8 l6 (Nat.le_refl _))) Xg Xn (k:=(i*m+j)) (i:=1) (by omega) rfl).2) ?_
     refine xm2 0 1 7 ?_ ?_
     ·have u0:=ki.below (Za ac)
      refine xb 0 3 u0 ?_
      refine xbs (.o [] 7) 1 [.string ⟨((u.getD (i*m+j) Xn).2.1).toArray⟩] 9 fun qf po ak=>?_
      have ip:=Zr l6 ak
      have q7:=Zb l6 ak.below
      have ez:=bln w8 ak.below
      refine ybi (.o [] 8) (.t W6.heap.size [9,173]) fun _ _ _ _ zJ zQ zo zx zy zK=>Zn (m:=1) (news:=[.string ⟨((u.getD (i*m+j) Xn).2.1).toArray⟩]) (.string ⟨#[]⟩) 1 16 (j+1) (((Yg (Zj u m i)).take (j+1)).map sv) zo Tryz.underlying96 (by kernel_rfl) rfl (by decide) zx q7 zy (ak.blk.sl 1 1 (by decide) (by decide)) rfl (by simp[Value.oneCell']) (by unfold maxLen;omega) (by omega) ez.size (by rfl) (by rw[Kj (by omega),l8 (by omega)]) fun mp kx pm mb y2 ex=>?_
      refine zK _ _ (Zt ex y2 q7 (by decide)) ?_
      have k5:=(u0.below ak.below).grown y2 q7 (by decide)
      refine ys (.o [9] 10) k5 [V0 t,.bool a1,.slice iz (j+1) jl,.slice mp (j+1) kx] (.t W6.heap.size [9,173]) fun oc fu mt=>⟨(Zx fu k5 g9 (by decide)),?_⟩
      refine xwm 5 ((↑(i*m+j):Int)+1) (↑((i*m+j)+1):Int) ?_
      have gx:=fu.below (ez.trans ex) g9
      have fh:=fu.own2 (Zo (Zb (Zb (en.own2 kn b3 (by decide)) (Za ac)) ak.below) y2 q7 (by decide)) k5 (by decide)
      have er:=fu.own2 mb k5 (by decide)
      exact ze 2 (q4 _ _ _ ⟨j+1,_,_,_,_,rfl,rfl,gx,mt,fh,er,by omega⟩ (by omega))
     refine xbs 0 1 [.string ⟨((u.getD (i*m+j) Xn).2.1).toArray⟩] 9 fun rs nx z9=>?_
     have hz:=Zr l6 z9
     have t6:=(ki.below (Za ac)).below z9.below
     refine xb (.o [] 1) 3 t6 ?_
     have q3:=Zb l6 z9.below
     have bn:=bln w8 z9.below
     refine ybi (.o [] 8) (.t W6.heap.size [9,173]) fun _ _ _ _ zJ zQ zo zx zy zK=>Zn (m:=1) (news:=[.string ⟨((u.getD (i*m+j) Xn).2.1).toArray⟩]) (.string ⟨#[]⟩) 1 16 (j+1) (((Yg (Zj u m i)).take (j+1)).map sv) zo Tryz.underlying96 (by kernel_rfl) rfl (by decide) zx q3 zy (z9.blk.sl 1 1 (by decide) (by decide)) rfl (by simp[Value.oneCell']) (by unfold maxLen;omega) (by omega) bn.size (by rfl) (by rw[Kj (by omega),l8 (by omega)]) fun nb ku ql nf x3 fe=>?_
     refine zK _ _ (Zt fe x3 q3 (by decide)) ?_
     have j6:=t6.grown x3 q3 (by decide)
     refine ys (.o [9] 10) j6 [V0 t,.bool a1,.slice iz (j+1) jl,.slice nb (j+1) ku] (.t W6.heap.size [9,173]) fun qm fy nh=>⟨(Zx fy j6 g9 (by decide)),?_⟩
     refine xwm 5 ((↑(i*m+j):Int)+1) (↑((i*m+j)+1):Int) ?_
     have gt:=fy.below (bn.trans fe) g9
     have cm:=fy.own2 (Zo (Zb (Zb (en.own2 kn b3 (by decide)) (Za ac)) z9.below) x3 q3 (by decide)) j6 (by decide)
     have de:=fy.own2 nf j6 (by decide)
     exact ze 2 (q4 _ _ _ ⟨j+1,_,_,_,_,rfl,rfl,gt,nh,cm,de,by omega⟩ (by omega))
    refine xbs 0 1 [V0 ((u.getD (i*m+j) Xn).1)] 3 fun nr pb z0=>?_
    have ct:=Zb hK (Za v3)
    have jn:=Zr ct z0
    have h8:=(c5.below (Za v3)).below z0.below
    refine xb (.o [] 1) 2 h8 ?_
    have r2:=Zb ct z0.below
    have dw:=bln x9 z0.below
    refine ybi (.o [] 8) (.t W6.heap.size [3,173]) fun _ _ _ _ zJ zQ zo zx zy zK=>Zn (m:=1) (news:=[V0 ((u.getD (i*m+j) Xn).1)]) (V0 0) 1 8 (j+1) (((Xm (Zj u m i)).take (j+1)).map V0) zo Tryz.underlying33 (by kernel_rfl) rfl (by decide) zx r2 zy (z0.blk.sl 1 1 (by decide) (by decide)) rfl (by simp[Value.oneCell']) (by unfold maxLen;omega) (by omega) dw.size (by rfl) (by rw[Wm (by omega),l8 (by omega)]) fun je jz qs kl x5 cr=>?_
    refine zK _ _ (Zt cr x5 r2 (by decide)) ?_
    have b0:=h8.grown x5 r2 (by decide)
    refine ys (.o [9] 10) b0 [V0 t,.bool a1,.slice je (j+1) jz,.slice vp j vc] (.t W6.heap.size [3,173]) fun z8 dg ke=>⟨(Zx dg b0 g9 (by decide)),?_⟩
    refine xd 2 (.t W6.heap.size [9,173]) ?_
    refine xx (.e [0,2,3] 4) _ u.length (i*m+j) 3 (Sts.cell b5 Xg Xn (k:=(i*m+j)) (i:=0) (by omega) rfl).1 ?_
    have l5:=Zb (dg.own2 (Zo (Zb q2 z0.below) x5 r2 (by decide)) b0 (by decide)) (Za z8)
    have o9:=bln (dg.below (dw.trans cr) g9) (Za z8)
    refine xlt (.e [5] 6) (.t W6.heap.size [9,173]) (fun V l5=>(Sts.cell (b5.below (Vr o9 l5 (Nat.le_refl _))) Xg Xn (k:=(i*m+j)) (i:=1) (by omega) rfl).2) ?_
    refine xm2 0 1 7 ?_ ?_
    ·have t1:=ke.below (Za z8)
     refine xb 0 3 t1 ?_
     refine xbs (.o [] 7) 1 [.string ⟨((u.getD (i*m+j) Xn).2.1).toArray⟩] 9 fun py qn aw=>?_
     have ht:=Zr l5 aw
     have r0:=Zb l5 aw.below
     have u1:=bln o9 aw.below
     refine ybi (.o [] 8) (.t W6.heap.size [9,173]) fun _ _ _ _ zJ zQ zo zx zy zK=>Zn (m:=1) (news:=[.string ⟨((u.getD (i*m+j) Xn).2.1).toArray⟩]) (.string ⟨#[]⟩) 1 16 (j+1) (((Yg (Zj u m i)).take (j+1)).map sv) zo Tryz.underlying96 (by kernel_rfl) rfl (by decide) zx r0 zy (aw.blk.sl 1 1 (by decide) (by decide)) rfl (by simp[Value.oneCell']) (by unfold maxLen;omega) (by omega) u1.size (by rfl) (by rw[Kj (by omega),l8 (by omega)]) fun ni le ol ks y4 fp=>?_
     refine zK _ _ (Zt fp y4 r0 (by decide)) ?_
     have j4:=(t1.below aw.below).grown y4 r0 (by decide)
     refine ys (.o [9] 10) j4 [V0 t,.bool a1,.slice je (j+1) jz,.slice ni (j+1) le] (.t W6.heap.size [9,173]) fun pj gc lt=>⟨(Zx gc j4 g9 (by decide)),?_⟩
     refine xwm 5 ((↑(i*m+j):Int)+1) (↑((i*m+j)+1):Int) ?_
     have dt:=gc.below (u1.trans fp) g9
     have ee:=gc.own2 (Zo (Zb (Zb (dg.own2 kl b0 (by decide)) (Za z8)) aw.below) y4 r0 (by decide)) j4 (by decide)
     have eg:=gc.own2 ks j4 (by decide)
     exact ze 2 (q4 _ _ _ ⟨j+1,_,_,_,_,rfl,rfl,dt,lt,ee,eg,by omega⟩ (by omega))
    refine xbs 0 1 [.string ⟨((u.getD (i*m+j) Xn).2.1).toArray⟩] 9 fun oi om z2=>?_
    have gv:=Zr l5 z2
    have v0:=(ke.below (Za z8)).below z2.below
    refine xb (.o [] 1) 3 v0 ?_
    have s6:=Zb l5 z2.below
    have t7:=bln o9 z2.below
    refine ybi (.o [] 8) (.t W6.heap.size [9,173]) fun _ _ _ _ zJ zQ zo zx zy zK=>Zn (m:=1) (news:=[.string ⟨((u.getD (i*m+j) Xn).2.1).toArray⟩]) (.string ⟨#[]⟩) 1 16 (j+1) (((Yg (Zj u m i)).take (j+1)).map sv) zo Tryz.underlying96 (by kernel_rfl) rfl (by decide) zx s6 zy (z2.blk.sl 1 1 (by decide) (by decide)) rfl (by simp[Value.oneCell']) (by unfold maxLen;omega) (by omega) t7.size (by rfl) (by rw[Kj (by omega),l8 (by omega)]) fun mz lj ri mx w9 cl=>?_
    refine zK _ _ (Zt cl w9 s6 (by decide)) ?_
    have j2:=v0.grown w9 s6 (by decide)
    refine ys (.o [9] 10) j2 [V0 t,.bool a1,.slice je (j+1) jz,.slice mz (j+1) lj] (.t W6.heap.size [9,173]) fun rf gb lr=>⟨(Zx gb j2 g9 (by decide)),?_⟩
    refine xwm 5 ((↑(i*m+j):Int)+1) (↑((i*m+j)+1):Int) ?_
    have bt:=gb.below (t7.trans cl) g9
    have ch:=gb.own2 (Zo (Zb (Zb (dg.own2 kl b0 (by decide)) (Za z8)) z2.below) w9 s6 (by decide)) j2 (by decide)
    have df:=gb.own2 mx j2 (by decide)
    exact ze 2 (q4 _ _ _ ⟨j+1,_,_,_,_,rfl,rfl,bt,lr,ch,df,by omega⟩ (by omega))
   refine xlv 7 c5.rp ?_
   have i7:B3 W6 v3:=o8
   have ca:W4.heap.size≤W6.heap.size:=x6.size
   have w7:=Ze hK ca
   have bq:=Ze hV ca
   have i9:Vw u.length m i=j:=by omega
   have g3:(Zj u m i).length=j:=by rw[Vj,i9]
   have y1:(Xm (Zj u m i)).take j=Xm (Zj u m i):=List.take_of_length_le (by rw[Yc];omega)
   have y7:(Yg (Zj u m i)).take j=Yg (Zj u m i):=List.take_of_length_le (by rw[Gm];omega)
   rw[y1] at w7
   rw[y7] at bq
   have hN:=Pf hE av ao hm hv (fun h=>by have:=bw h;omega) (show i<(ovN u.length m) by omega)
   have d7:=Wz hN
   rw[g3] at hN
   have x0:Hi m v (Qk t a1 j m v) (Xm (Zj u m i)) (Yg (Zj u m i)) j=Zed t a1 m v (Zj u m i):=by rw[←g3];rfl
   refine xc 0 (args:=#[.agg #[V0 t,.bool a1,.slice kp j kc,.slice vp j vc]]) (Nq t a1 j m v (Xm (Zj u m i)) (Yg (Zj u m i)) kp vp kc vc _ hN (Zf w7) (Zf bq)) ?_
   rintro _ sq ⟨_,rfl,g7,p6,c6,rfl,h6⟩
   have jw:=(blB x6 a0 i7).size
   have dp:=Ze h6 jw
   rw[x0] at dp
   have jh:=(hR.below i7).below g7
   have hc:=(hJ.below i7).below g7
   have hO:=(p2.trans (Zd.of_below i7)).trans (Zd.of_below g7)
   have hB:=blB (blB x6 a0 i7) a0 g7
   refine xc 11 (args:=#[P0 bc,V0 2,.slice p6 244 c6]) (Cm B bc bm pg N cg fa mf fc f (k+i) p K cI (Iw t a1 m v u (f+k) b2 i) p6 c6 244 (Zed t a1 m v (Zj u m i)) (f+k+i) _ (Nat.add_assoc _ _ _).symm d7 (by decide) (by omega) hf jh hc (fun W _ hO=>Xp (Zf (Zi dp hO (by decide))) d7) (Nat.le_trans a0 hB.size)) ?_
   rintro _ pu ⟨a9,c9,ih,gu,hh,rfl,n0,m3,hR,hJ⟩
   refine xa 3 [S0,V0 0] 35 fun ow rn d4=>?_
   have f9:=((c7.below i7).below g7).only m3 (by decide)
   have o7:=d4.ne f9
   refine xsv 1 d4.blk [.slice a9 0 c9,V0 0] fun pn i0 mn=>?_
   have ap:=d4.ge0 (hB.trans n0)
   refine xb 6 1 mn ?_
   refine xc 9 (args:=#[V0 (↑(f+k+i):Int),V0 4]) (Xe ((f+k+i:Nat):Int) 4 4 _ (by omega) (by omega) rfl (by decide)) ?_
   rintro _ pf ⟨_,rfl,c3,pk,ck,rfl,x8⟩
   have gz:=(i0.below (blB (hB.trans n0) a0 d4.below) (Nat.le_trans a0 ap)).size
   have cf:=Ze x8 gz
   refine xcv0 0 (fun _ _ _ zo zx=>Yn zo zx (Xp (Zf cf) (Zh _ _)) (Zh _ _) Tryz.underlying40 Tryz.underlying5 Tryz.underlying9) ?_
   refine xa 2 [V0 0,.string ⟨#[]⟩,V0 0] 123 fun qx qp d1=>?_
   have o5:=Zb (i0.own2 (Zb (Zi (Zb (Zb x7 i7) g7) m3 (by decide)) d4.below) d4.blk (by decide)) c3
   have f6:=Zr o5 d1
   refine xsv 0 d1.blk [V0 0,.string ⟨(leB (↑(f+k+i):Int) 4).toArray⟩,V0 (↑(f+k+i):Int)] fun ps j3 ae=>?_
   have au:=d1.ge0 (blB (i0.below (blB (hB.trans n0) a0 d4.below) (Nat.le_trans a0 ap)) a0 c3)
   have h0:=j3.blkT (((i0.blkT (((c5.below g7).only m3 (by decide)).below d4.below) d4.blk (by decide)).below c3).below d1.below) d1.blk (by decide)
   refine xb 6 2 h0 ?_
   refine xid 4 ((j:Int)>(0:Int)) (fun ha=>?_) (fun ha=>?_)
   ·have e3:((Xm (Zj u m i))).getD 0 0=((Zj u m i).getD 0 Xn).1:=Us i9 (by omega)
    refine xb 2 2 h0 ?_
    have cd:=j3.own2 (Zb (Zb (i0.own2 (Zb (Zi (Zb w7 g7) m3 (by decide)) d4.below) d4.blk (by decide)) c3) d1.below) d1.blk (by decide)
    refine xx 0 _ j 0 1 (IntsN.elem (Zf cd) (by rw[Yc,g3]) (k:=0) (by omega)).1 ?_
    refine xl 0 ((IntsN.elem (Zf cd) (by rw[Yc,g3]) (k:=0) (by omega)).2) ?_
    refine xs 1 ae [V0 ((Xm (Zj u m i)).getD 0 0),.string ⟨(leB (↑(f+k+i):Int) 4).toArray⟩,V0 (↑(f+k+i):Int)] fun sm z6 kh=>?_
    refine xlv 5 kh.rp ?_
    refine xbs 0 1 [V0 ((Xm (Zj u m i)).getD 0 0),.string ⟨(leB (↑(f+k+i):Int) 4).toArray⟩,V0 (↑(f+k+i):Int)] 123 fun ob sa r3=>?_
    have gf:=r3.ne kh
    have dj:=z6.below (j3.below (blB (blB (i0.below (blB (hB.trans n0) a0 d4.below) (Nat.le_trans a0 ap)) a0 c3) a0 d1.below) (Nat.le_trans a0 au)) (Nat.le_trans a0 au)
    have t2:=z6.own3 (j3.own3 (Zb o5 d1.below) f6) f6
    have fz:=Zr t2 r3
    have g8:=Zb t2 r3.below
    have v9:=blB dj a0 r3.below
    refine xbi 0 fun _ _ _ _ zJ zQ zo zx zy zK=>Zn (m:=1) (news:=[V0 ((Xm (Zj u m i)).getD 0 0),.string ⟨(leB (↑(f+k+i):Int) 4).toArray⟩,V0 (↑(f+k+i):Int)]) (.agg #[V0 0,.string ⟨#[]⟩,V0 0]) 3 32 (i+1) ((upE u m (f+k) (i+1)).flatMap Yj) zo Tryz.underlying88 (by kernel_rfl) rfl (by decide) zx g8 zy (r3.blk.sl 1 1 (by decide) (by decide)) rfl (by simp[Value.oneCell']) (by unfold maxLen;omega) (by omega) v9.size (by rfl) (Pp (by first|exact e3|exact b4)) fun sc rv rk np r7 hw=>?_
    refine zK _ _ ?_
    refine xwm 6 ((↑(i*m):Int)+(m:Int)) (↑((i*m)+m):Int) ?_
    refine xv1 3 10 (show(V0 (↑((i*m)+m):Int):Value)=V0 (↑((i+1)*m):Int) from by rw[Nat.add_mul,Nat.one_mul]) ?_
    have ir:=(((((((hR.below d4.below).only (Zd.of_upd (T:=[35]) i0 d4.blk (by decide)) (by decide)).below c3).below d1.below).only (Zd.of_upd (T:=[123]) j3 d1.blk (by decide)) (by decide)).only (Zd.of_upd (T:=[123]) z6 ae (by decide)) (by decide)).below r3.below).only (Zd.of_grown (T:=[123]) r7 g8 (by decide)) (by decide)
    have io:=(((((((hJ.below d4.below).only (Zd.of_upd (T:=[35]) i0 d4.blk (by decide)) (by decide)).below c3).below d1.below).only (Zd.of_upd (T:=[123]) j3 d1.blk (by decide)) (by decide)).only (Zd.of_upd (T:=[123]) z6 ae (by decide)) (by decide)).below r3.below).only (Zd.of_grown (T:=[123]) r7 g8 (by decide)) (by decide)
    have ec:=v9.trans (hw.mono a0)
    have gs:=(Zd.grown_new ((Zd.upd_new (Zd.upd_new (((Zd.upd_new ((hO.trans m3).trans (Zd.of_below d4.below)) i0 ap).trans (Zd.of_below c3)).trans (Zd.of_below d1.below)) j3 au) z6 au).trans (Zd.of_below r3.below)) r7 g8)
    have s5:=((z6.blkT (j3.blkT (((i0.blk (f9.below d4.below) (Ne.symm (Ne.symm o7))).below c3).below d1.below) d1.blk (by decide)) ae (by decide)).below r3.below).grown r7 g8 (by decide)
    exact ze 0 (t9 _ _ _ ⟨i+1,_,_,_,_,_,rfl,rfl,ec,gs,s5,np,ir,io,by omega⟩ (by omega))
   have b4:(0:Int)=((Zj u m i).getD 0 Xn).1:=Jo i9 (by omega)
   refine xlv 5 ae.rp ?_
   refine xbs 0 1 [V0 0,.string ⟨(leB (↑(f+k+i):Int) 4).toArray⟩,V0 (↑(f+k+i):Int)] 123 fun qt nt s2=>?_
   have gg:=s2.ne ae
   have bo:=j3.below (blB (blB (i0.below (blB (hB.trans n0) a0 d4.below) (Nat.le_trans a0 ap)) a0 c3) a0 d1.below) (Nat.le_trans a0 au)
   have t8:=j3.own3 (Zb o5 d1.below) f6
   have gj:=Zr t8 s2
   have h7:=Zb t8 s2.below
   have u4:=blB bo a0 s2.below
   refine xbi 0 fun _ _ _ _ zJ zQ zo zx zy zK=>Zn (m:=1) (news:=[V0 0,.string ⟨(leB (↑(f+k+i):Int) 4).toArray⟩,V0 (↑(f+k+i):Int)]) (.agg #[V0 0,.string ⟨#[]⟩,V0 0]) 3 32 (i+1) ((upE u m (f+k) (i+1)).flatMap Yj) zo Tryz.underlying88 (by kernel_rfl) rfl (by decide) zx h7 zy (s2.blk.sl 1 1 (by decide) (by decide)) rfl (by simp[Value.oneCell']) (by unfold maxLen;omega) (by omega) u4.size (by rfl) (Pp (by first|exact e3|exact b4)) fun sf rr qy mo p5 jy=>?_
   refine zK _ _ ?_
   refine xwm 6 ((↑(i*m):Int)+(m:Int)) (↑((i*m)+m):Int) ?_
   refine xv1 3 10 (show(V0 (↑((i*m)+m):Int):Value)=V0 (↑((i+1)*m):Int) from by rw[Nat.add_mul,Nat.one_mul]) ?_
   have ho:=((((((hR.below d4.below).only (Zd.of_upd (T:=[35]) i0 d4.blk (by decide)) (by decide)).below c3).below d1.below).only (Zd.of_upd (T:=[123]) j3 d1.blk (by decide)) (by decide)).below s2.below).only (Zd.of_grown (T:=[123]) p5 h7 (by decide)) (by decide)
   have hb:=((((((hJ.below d4.below).only (Zd.of_upd (T:=[35]) i0 d4.blk (by decide)) (by decide)).below c3).below d1.below).only (Zd.of_upd (T:=[123]) j3 d1.blk (by decide)) (by decide)).below s2.below).only (Zd.of_grown (T:=[123]) p5 h7 (by decide)) (by decide)
   have fj:=u4.trans (jy.mono a0)
   have ia:=(Zd.grown_new ((Zd.upd_new (((Zd.upd_new ((hO.trans m3).trans (Zd.of_below d4.below)) i0 ap).trans (Zd.of_below c3)).trans (Zd.of_below d1.below)) j3 au).trans (Zd.of_below s2.below)) p5 h7)
   have s1:=((j3.blkT (((i0.blk (f9.below d4.below) (Ne.symm (Ne.symm o7))).below c3).below d1.below) d1.blk (by decide)).below s2.below).grown p5 h7 (by decide)
   exact ze 0 (t9 _ _ _ ⟨i+1,_,_,_,_,_,rfl,rfl,fj,ia,s1,mo,ho,hb,by omega⟩ (by omega))
  have o2:=of_decide_eq_false o2
  refine xlv 16 c5.rp ?_
  have j1:B3 W6 v3:=o8
  have ci:W4.heap.size≤W6.heap.size:=x6.size
  have w4:=Ze hK ci
  have eb:=Ze hV ci
  have i9:Vw u.length m i=j:=by omega
  have g3:(Zj u m i).length=j:=by rw[Vj,i9]
  have y1:(Xm (Zj u m i)).take j=Xm (Zj u m i):=List.take_of_length_le (by rw[Yc];omega)
  have y7:(Yg (Zj u m i)).take j=Yg (Zj u m i):=List.take_of_length_le (by rw[Gm];omega)
  rw[y1] at w4
  rw[y7] at eb
  have hN:=Pf hE av ao hm hv (fun h=>by have:=bw h;omega) (show i<(ovN u.length m) by omega)
  have d7:=Wz hN
  rw[g3] at hN
  have x0:Hi m v (Qk t a1 j m v) (Xm (Zj u m i)) (Yg (Zj u m i)) j=Zed t a1 m v (Zj u m i):=by rw[←g3];rfl
  refine xc 0 (args:=#[.agg #[V0 t,.bool a1,.slice kp j kc,.slice vp j vc]]) (Nq t a1 j m v (Xm (Zj u m i)) (Yg (Zj u m i)) kp vp kc vc _ hN (Zf w4) (Zf eb)) ?_
  rintro _ pp ⟨_,rfl,h3,p6,c6,rfl,h6⟩
  have ie:=(blB x6 a0 j1).size
  have eq:=Ze h6 ie
  rw[x0] at eq
  have jg:=(hR.below j1).below h3
  have hu:=(hJ.below j1).below h3
  have hO:=(p2.trans (Zd.of_below j1)).trans (Zd.of_below h3)
  have hB:=blB (blB x6 a0 j1) a0 h3
  refine xc 11 (args:=#[P0 bc,V0 2,.slice p6 244 c6]) (Cm B bc bm pg N cg fa mf fc f (k+i) p K cI (Iw t a1 m v u (f+k) b2 i) p6 c6 244 (Zed t a1 m v (Zj u m i)) (f+k+i) _ (Nat.add_assoc _ _ _).symm d7 (by decide) (by omega) hf jg hu (fun W _ hO=>Xp (Zf (Zi eq hO (by decide))) d7) (Nat.le_trans a0 hB.size)) ?_
  rintro _ oo ⟨a9,c9,ih,gu,hh,rfl,m6,l9,hR,hJ⟩
  refine xa 3 [S0,V0 0] 35 fun ra sr d0=>?_
  have f7:=((c7.below j1).below h3).only l9 (by decide)
  have p1:=d0.ne f7
  refine xsv 1 d0.blk [.slice a9 0 c9,V0 0] fun oa i3 mr=>?_
  have aa:=d0.ge0 (hB.trans m6)
  refine xb 6 1 mr ?_
  refine xc 9 (args:=#[V0 (↑(f+k+i):Int),V0 4]) (Xe ((f+k+i:Nat):Int) 4 4 _ (by omega) (by omega) rfl (by decide)) ?_
  rintro _ ov ⟨_,rfl,c0,pk,ck,rfl,x8⟩
  have jk:=(i3.below (blB (hB.trans m6) a0 d0.below) (Nat.le_trans a0 aa)).size
  have fd:=Ze x8 jk
  refine xcv0 0 (fun _ _ _ zo zx=>Yn zo zx (Xp (Zf fd) (Zh _ _)) (Zh _ _) Tryz.underlying40 Tryz.underlying5 Tryz.underlying9) ?_
  refine xa 2 [V0 0,.string ⟨#[]⟩,V0 0] 123 fun rb rx d2=>?_
  have n7:=Zb (i3.own2 (Zb (Zi (Zb (Zb x7 j1) h3) l9 (by decide)) d0.below) d0.blk (by decide)) c0
  have g0:=Zr n7 d2
  refine xsv 0 d2.blk [V0 0,.string ⟨(leB (↑(f+k+i):Int) 4).toArray⟩,V0 (↑(f+k+i):Int)] fun qu j7 ab=>?_
  have z4:=d2.ge0 (blB (i3.below (blB (hB.trans m6) a0 d0.below) (Nat.le_trans a0 aa)) a0 c0)
  have g6:=j7.blkT (((i3.blkT (((c5.below h3).only l9 (by decide)).below d0.below) d0.blk (by decide)).below c0).below d2.below) d2.blk (by decide)
  refine xb 6 2 g6 ?_
  refine xid 4 ((j:Int)>(0:Int)) (fun ja=>?_) (fun ja=>?_)
  ·have e3:((Xm (Zj u m i))).getD 0 0=((Zj u m i).getD 0 Xn).1:=Us i9 (by omega)
   refine xb 2 2 g6 ?_
   have cc:=j7.own2 (Zb (Zb (i3.own2 (Zb (Zi (Zb w4 h3) l9 (by decide)) d0.below) d0.blk (by decide)) c0) d2.below) d2.blk (by decide)
   refine xx 0 _ j 0 1 (IntsN.elem (Zf cc) (by rw[Yc,g3]) (k:=0) (by omega)).1 ?_
   refine xl 0 ((IntsN.elem (Zf cc) (by rw[Yc,g3]) (k:=0) (by omega)).2) ?_
   refine xs 1 ab [V0 ((Xm (Zj u m i)).getD 0 0),.string ⟨(leB (↑(f+k+i):Int) 4).toArray⟩,V0 (↑(f+k+i):Int)] fun qw aj km=>?_
   refine xlv 5 km.rp ?_
   refine xbs 0 1 [V0 ((Xm (Zj u m i)).getD 0 0),.string ⟨(leB (↑(f+k+i):Int) 4).toArray⟩,V0 (↑(f+k+i):Int)] 123 fun rh os q0=>?_
   have fw:=q0.ne km
   have ba:=aj.below (j7.below (blB (blB (i3.below (blB (hB.trans m6) a0 d0.below) (Nat.le_trans a0 aa)) a0 c0) a0 d2.below) (Nat.le_trans a0 z4)) (Nat.le_trans a0 z4)
   have v4:=aj.own3 (j7.own3 (Zb n7 d2.below) g0) g0
   have gi:=Zr v4 q0
   have g5:=Zb v4 q0.below
   have s8:=blB ba a0 q0.below
   refine xbi 0 fun _ _ _ _ zJ zQ zo zx zy zK=>Zn (m:=1) (news:=[V0 ((Xm (Zj u m i)).getD 0 0),.string ⟨(leB (↑(f+k+i):Int) 4).toArray⟩,V0 (↑(f+k+i):Int)]) (.agg #[V0 0,.string ⟨#[]⟩,V0 0]) 3 32 (i+1) ((upE u m (f+k) (i+1)).flatMap Yj) zo Tryz.underlying88 (by kernel_rfl) rfl (by decide) zx g5 zy (q0.blk.sl 1 1 (by decide) (by decide)) rfl (by simp[Value.oneCell']) (by unfold maxLen;omega) (by omega) s8.size (by rfl) (Pp (by first|exact e3|exact b4)) fun oz rz qd mg r5 gr=>?_
   refine zK _ _ ?_
   refine xwm 6 ((↑(i*m):Int)+(m:Int)) (↑((i*m)+m):Int) ?_
   refine xv1 3 10 (show(V0 (↑((i*m)+m):Int):Value)=V0 (↑((i+1)*m):Int) from by rw[Nat.add_mul,Nat.one_mul]) ?_
   have ka:=(((((((hR.below d0.below).only (Zd.of_upd (T:=[35]) i3 d0.blk (by decide)) (by decide)).below c0).below d2.below).only (Zd.of_upd (T:=[123]) j7 d2.blk (by decide)) (by decide)).only (Zd.of_upd (T:=[123]) aj ab (by decide)) (by decide)).below q0.below).only (Zd.of_grown (T:=[123]) r5 g5 (by decide)) (by decide)
   have ix:=(((((((hJ.below d0.below).only (Zd.of_upd (T:=[35]) i3 d0.blk (by decide)) (by decide)).below c0).below d2.below).only (Zd.of_upd (T:=[123]) j7 d2.blk (by decide)) (by decide)).only (Zd.of_upd (T:=[123]) aj ab (by decide)) (by decide)).below q0.below).only (Zd.of_grown (T:=[123]) r5 g5 (by decide)) (by decide)
   have ey:=s8.trans (gr.mono a0)
   have hq:=(Zd.grown_new ((Zd.upd_new (Zd.upd_new (((Zd.upd_new ((hO.trans l9).trans (Zd.of_below d0.below)) i3 aa).trans (Zd.of_below c0)).trans (Zd.of_below d2.below)) j7 z4) aj z4).trans (Zd.of_below q0.below)) r5 g5)
   have q9:=((aj.blkT (j7.blkT (((i3.blk (f7.below d0.below) (Ne.symm (Ne.symm p1))).below c0).below d2.below) d2.blk (by decide)) ab (by decide)).below q0.below).grown r5 g5 (by decide)
   exact ze 0 (t9 _ _ _ ⟨i+1,_,_,_,_,_,rfl,rfl,ey,hq,q9,mg,ka,ix,by omega⟩ (by omega))
  have b4:(0:Int)=((Zj u m i).getD 0 Xn).1:=Jo i9 (by omega)
  refine xlv 5 ab.rp ?_
  refine xbs 0 1 [V0 0,.string ⟨(leB (↑(f+k+i):Int) 4).toArray⟩,V0 (↑(f+k+i):Int)] 123 fun sd ox s4=>?_
  have ft:=s4.ne ab
  have db:=j7.below (blB (blB (i3.below (blB (hB.trans m6) a0 d0.below) (Nat.le_trans a0 aa)) a0 c0) a0 d2.below) (Nat.le_trans a0 z4)
  have w0:=j7.own3 (Zb n7 d2.below) g0
  have gh:=Zr w0 s4
  have d6:=Zb w0 s4.below
  have u9:=blB db a0 s4.below
  refine xbi 0 fun _ _ _ _ zJ zQ zo zx zy zK=>Zn (m:=1) (news:=[V0 0,.string ⟨(leB (↑(f+k+i):Int) 4).toArray⟩,V0 (↑(f+k+i):Int)]) (.agg #[V0 0,.string ⟨#[]⟩,V0 0]) 3 32 (i+1) ((upE u m (f+k) (i+1)).flatMap Yj) zo Tryz.underlying88 (by kernel_rfl) rfl (by decide) zx d6 zy (s4.blk.sl 1 1 (by decide) (by decide)) rfl (by simp[Value.oneCell']) (by unfold maxLen;omega) (by omega) u9.size (by rfl) (Pp (by first|exact e3|exact b4)) fun nz sb qb kw r1 hp=>?_
  refine zK _ _ ?_
  refine xwm 6 ((↑(i*m):Int)+(m:Int)) (↑((i*m)+m):Int) ?_
  refine xv1 3 10 (show(V0 (↑((i*m)+m):Int):Value)=V0 (↑((i+1)*m):Int) from by rw[Nat.add_mul,Nat.one_mul]) ?_
  have ib:=((((((hR.below d0.below).only (Zd.of_upd (T:=[35]) i3 d0.blk (by decide)) (by decide)).below c0).below d2.below).only (Zd.of_upd (T:=[123]) j7 d2.blk (by decide)) (by decide)).below s4.below).only (Zd.of_grown (T:=[123]) r1 d6 (by decide)) (by decide)
  have iv:=((((((hJ.below d0.below).only (Zd.of_upd (T:=[35]) i3 d0.blk (by decide)) (by decide)).below c0).below d2.below).only (Zd.of_upd (T:=[123]) j7 d2.blk (by decide)) (by decide)).below s4.below).only (Zd.of_grown (T:=[123]) r1 d6 (by decide)) (by decide)
  have cx:=u9.trans (hp.mono a0)
  have iw:=(Zd.grown_new ((Zd.upd_new (((Zd.upd_new ((hO.trans l9).trans (Zd.of_below d0.below)) i3 aa).trans (Zd.of_below c0)).trans (Zd.of_below d2.below)) j7 z4).trans (Zd.of_below s4.below)) r1 d6)
  have r9:=((j7.blkT (((i3.blk (f7.below d0.below) (Ne.symm (Ne.symm p1))).below c0).below d2.below) d2.blk (by decide)).below s4.below).grown r1 d6 (by decide)
  exact ze 0 (t9 _ _ _ ⟨i+1,_,_,_,_,_,rfl,rfl,cx,iw,r9,kw,ib,iv,by omega⟩ (by omega))
 have fq:=of_decide_eq_false fq
 refine xie 5 (↑(i*m):Int) (0:Int) (fun jf=>?_) (fun jf=>?_)
 ·have i4:=s0
  have i1:=q8
  refine xa 8 [V0 0,.bool false,S0,S0] 173 fun kf pw hy=>?_
  refine xsv 0 hy.blk [V0 t,.bool a1,S0,S0] fun oy ln nl=>?_
  have l7:=hy.ge (B4 W6)
  have hB:=ln.below hy.below l7
  refine zl 10 128 (fun zm w5 V=>∃ (j:Nat) (kp:O0) (kc:Nat) (vp:O0) (vc:Nat),w5=[(0,P0 bc),(1,V0 t),(2,.slice a2 u.length c2),(7,P0 b1),(8,.bool a1),(9,.slice p4 i c4),(10,V0 (↑(i*m):Int)),(11,V0 (m:Int)),(12,P0 kf),(13,V0 (↑(i*m+j):Int))]∧zm=m-j∧B3 W6 V∧Blk V kf ([V0 t,.bool a1,.slice kp j kc,.slice vp j vc]) 173∧V.ownsRow W6.heap.size 3 1 (.slice kp j kc) j (((Xm (Zj u m i)).take j).map V0)∧V.ownsRow W6.heap.size 9 1 (.slice vp j vc) j (((Yg (Zj u m i)).take j).map sv)∧j≤Vw u.length m i) ⟨0,none,0,none,0,rfl,rfl,hB,nl,World.ownsRow_nil _ _ _ _,World.ownsRow_nil _ _ _ _,Nat.zero_le _⟩ ?_
  rintro _ _ v6 ⟨j,kp,kc,vp,vc,rfl,rfl,m7,b6,hK,hV,hj⟩ qi p8 re
  have mm:Vw u.length m i=min m (u.length-i*m):=rfl
  have jv:=Vj u m i
  have l8:j<Vw u.length m i→(Zj u m i).getD j Xn=u.getD (i*m+j) Xn:=Uq
  refine xg 8 [53,54] (decide ((↑(i*m+j):Int)<(u.length:Int))) (fun n2=>?_) (fun n2=>?_)
  ·have n2:=of_decide_eq_true n2
   refine xwm 3 ((↑(i*m):Int)+(m:Int)) (↑((i*m)+m):Int) ?_
   refine xid 4 ((↑(i*m+j):Int)<(↑((i*m)+m):Int)) (fun jp=>?_) (fun jp=>?_)
   ·refine xd 5 (.t W6.heap.size [3,173]) ?_
    have a8:=ko _ i4 i1
    refine xx (.e [0,2,3] 4) _ u.length (i*m+j) 3 (Sts.cell a8 Xg Xn (k:=(i*m+j)) (i:=0) (by omega) rfl).1 ?_
    have l3:=Zb hV (Za v6)
    have n6:=bln m7 (Za v6)
    refine xlt (.e [5] 6) (.t W6.heap.size [3,173]) (fun V l3=>(Sts.cell (a8.below (Vr n6 l3 (Nat.le_refl _))) Xg Xn (k:=(i*m+j)) (i:=0) (by omega) rfl).2) ?_
    refine xm2 0 1 7 ?_ ?_
    ·have f1:=b6.below (Za v6)
     refine xb 0 2 f1 ?_
     refine xbs (.o [] 7) 1 [V0 ((u.getD (i*m+j) Xn).1)] 3 fun ry qc ax=>?_
     have fb:=Zb hK (Za v6)
     have jo:=Zr fb ax
     have j5:=Zb fb ax.below
     have v5:=bln n6 ax.below
     refine ybi (.o [] 8) (.t W6.heap.size [3,173]) fun _ _ _ _ zJ zQ zo zx zy zK=>Zn (m:=1) (news:=[V0 ((u.getD (i*m+j) Xn).1)]) (V0 0) 1 8 (j+1) (((Xm (Zj u m i)).take (j+1)).map V0) zo Tryz.underlying33 (by kernel_rfl) rfl (by decide) zx j5 zy (ax.blk.sl 1 1 (by decide) (by decide)) rfl (by simp[Value.oneCell']) (by unfold maxLen;omega) (by omega) v5.size (by rfl) (by rw[Wm (by omega),l8 (by omega)]) fun jb jd sn kb x4 eh=>?_
     refine zK _ _ (Zt eh x4 j5 (by decide)) ?_
     have a6:=(f1.below ax.below).grown x4 j5 (by decide)
     refine ys (.o [9] 10) a6 [V0 t,.bool a1,.slice jb (j+1) jd,.slice vp j vc] (.t W6.heap.size [3,173]) fun aq em kq=>⟨(Zx em a6 l7 (by decide)),?_⟩
     refine xd 2 (.t W6.heap.size [9,173]) ?_
     refine xx (.e [0,2,3] 4) _ u.length (i*m+j) 3 (Sts.cell a8 Xg Xn (k:=(i*m+j)) (i:=0) (by omega) rfl).1 ?_
     have e9:=Zb (em.own2 (Zo (Zb l3 ax.below) x4 j5 (by decide)) a6 (by decide)) (Za aq)
     have n4:=bln (em.below (v5.trans eh) l7) (Za aq)
     refine xlt (.e [5] 6) (.t W6.heap.size [9,173]) (fun V e9=>(Sts.cell (a8.below (Vr n4 e9 (Nat.le_refl _))) Xg Xn (k:=(i*m+j)) (i:=1) (by omega) rfl).2) ?_
     refine xm2 0 1 7 ?_ ?_
     ·have v2:=kq.below (Za aq)
      refine xb 0 3 v2 ?_
      refine xbs (.o [] 7) 1 [.string ⟨((u.getD (i*m+j) Xn).2.1).toArray⟩] 9 fun rt sk z3=>?_
      have iy:=Zr e9 z3
      have k3:=Zb e9 z3.below
      have w3:=bln n4 z3.below
      refine ybi (.o [] 8) (.t W6.heap.size [9,173]) fun _ _ _ _ zJ zQ zo zx zy zK=>Zn (m:=1) (news:=[.string ⟨((u.getD (i*m+j) Xn).2.1).toArray⟩]) (.string ⟨#[]⟩) 1 16 (j+1) (((Yg (Zj u m i)).take (j+1)).map sv) zo Tryz.underlying96 (by kernel_rfl) rfl (by decide) zx k3 zy (z3.blk.sl 1 1 (by decide) (by decide)) rfl (by simp[Value.oneCell']) (by unfold maxLen;omega) (by omega) w3.size (by rfl) (by rw[Kj (by omega),l8 (by omega)]) fun ma mi rc mw w6 bl=>?_
      refine zK _ _ (Zt bl w6 k3 (by decide)) ?_
      have l0:=(v2.below z3.below).grown w6 k3 (by decide)
      refine ys (.o [9] 10) l0 [V0 t,.bool a1,.slice jb (j+1) jd,.slice ma (j+1) mi] (.t W6.heap.size [9,173]) fun ok gm nj=>⟨(Zx gm l0 l7 (by decide)),?_⟩
      refine xwm 5 ((↑(i*m+j):Int)+1) (↑((i*m+j)+1):Int) ?_
      have fg:=gm.below (w3.trans bl) l7
      have bi:=gm.own2 (Zo (Zb (Zb (em.own2 kb a6 (by decide)) (Za aq)) z3.below) w6 k3 (by decide)) l0 (by decide)
      have di:=gm.own2 mw l0 (by decide)
      exact ze 2 (p8 _ _ _ ⟨j+1,_,_,_,_,rfl,rfl,fg,nj,bi,di,by omega⟩ (by omega))
     refine xbs 0 1 [.string ⟨((u.getD (i*m+j) Xn).2.1).toArray⟩] 9 fun rl sj af=>?_
     have jr:=Zr e9 af
     have w2:=(kq.below (Za aq)).below af.below
     refine xb (.o [] 1) 3 w2 ?_
     have k9:=Zb e9 af.below
     have t4:=bln n4 af.below
     refine ybi (.o [] 8) (.t W6.heap.size [9,173]) fun _ _ _ _ zJ zQ zo zx zy zK=>Zn (m:=1) (news:=[.string ⟨((u.getD (i*m+j) Xn).2.1).toArray⟩]) (.string ⟨#[]⟩) 1 16 (j+1) (((Yg (Zj u m i)).take (j+1)).map sv) zo Tryz.underlying96 (by kernel_rfl) rfl (by decide) zx k9 zy (af.blk.sl 1 1 (by decide) (by decide)) rfl (by simp[Value.oneCell']) (by unfold maxLen;omega) (by omega) t4.size (by rfl) (by rw[Kj (by omega),l8 (by omega)]) fun la ng ny ll x1 dm=>?_
     refine zK _ _ (Zt dm x1 k9 (by decide)) ?_
     have k2:=w2.grown x1 k9 (by decide)
     refine ys (.o [9] 10) k2 [V0 t,.bool a1,.slice jb (j+1) jd,.slice la (j+1) ng] (.t W6.heap.size [9,173]) fun qh gl mq=>⟨(Zx gl k2 l7 (by decide)),?_⟩
     refine xwm 5 ((↑(i*m+j):Int)+1) (↑((i*m+j)+1):Int) ?_
     have cy:=gl.below (t4.trans dm) l7
     have bx:=gl.own2 (Zo (Zb (Zb (em.own2 kb a6 (by decide)) (Za aq)) af.below) x1 k9 (by decide)) k2 (by decide)
     have cz:=gl.own2 ll k2 (by decide)
     exact ze 2 (p8 _ _ _ ⟨j+1,_,_,_,_,rfl,rfl,cy,mq,bx,cz,by omega⟩ (by omega))
    refine xbs 0 1 [V0 ((u.getD (i*m+j) Xn).1)] 3 fun rm qk y8=>?_
    have u7:=Zb hK (Za v6)
    have iq:=Zr u7 y8
    have f3:=(b6.below (Za v6)).below y8.below
    refine xb (.o [] 1) 2 f3 ?_
    have k4:=Zb u7 y8.below
    have u8:=bln n6 y8.below
    refine ybi (.o [] 8) (.t W6.heap.size [3,173]) fun _ _ _ _ zJ zQ zo zx zy zK=>Zn (m:=1) (news:=[V0 ((u.getD (i*m+j) Xn).1)]) (V0 0) 1 8 (j+1) (((Xm (Zj u m i)).take (j+1)).map V0) zo Tryz.underlying33 (by kernel_rfl) rfl (by decide) zx k4 zy (y8.blk.sl 1 1 (by decide) (by decide)) rfl (by simp[Value.oneCell']) (by unfold maxLen;omega) (by omega) u8.size (by rfl) (by rw[Wm (by omega),l8 (by omega)]) fun gq ik qo kr y5 ek=>?_
    refine zK _ _ (Zt ek y5 k4 (by decide)) ?_
    have a7:=f3.grown y5 k4 (by decide)
    refine ys (.o [9] 10) a7 [V0 t,.bool a1,.slice gq (j+1) ik,.slice vp j vc] (.t W6.heap.size [3,173]) fun ag cv kd=>⟨(Zx cv a7 l7 (by decide)),?_⟩
    refine xd 2 (.t W6.heap.size [9,173]) ?_
    refine xx (.e [0,2,3] 4) _ u.length (i*m+j) 3 (Sts.cell a8 Xg Xn (k:=(i*m+j)) (i:=0) (by omega) rfl).1 ?_
    have e7:=Zb (cv.own2 (Zo (Zb l3 y8.below) y5 k4 (by decide)) a7 (by decide)) (Za ag)
    have o0:=bln (cv.below (u8.trans ek) l7) (Za ag)
    refine xlt (.e [5] 6) (.t W6.heap.size [9,173]) (fun V e7=>(Sts.cell (a8.below (Vr o0 e7 (Nat.le_refl _))) Xg Xn (k:=(i*m+j)) (i:=1) (by omega) rfl).2) ?_
    refine xm2 0 1 7 ?_ ?_
    ·have t0:=kd.below (Za ag)
     refine xb 0 3 t0 ?_
     refine xbs (.o [] 7) 1 [.string ⟨((u.getD (i*m+j) Xn).2.1).toArray⟩] 9 fun qq og az=>?_
     have jx:=Zr e7 az
     have j8:=Zb e7 az.below
     have u2:=bln o0 az.below
     refine ybi (.o [] 8) (.t W6.heap.size [9,173]) fun _ _ _ _ zJ zQ zo zx zy zK=>Zn (m:=1) (news:=[.string ⟨((u.getD (i*m+j) Xn).2.1).toArray⟩]) (.string ⟨#[]⟩) 1 16 (j+1) (((Yg (Zj u m i)).take (j+1)).map sv) zo Tryz.underlying96 (by kernel_rfl) rfl (by decide) zx j8 zy (az.blk.sl 1 1 (by decide) (by decide)) rfl (by simp[Value.oneCell']) (by unfold maxLen;omega) (by omega) u2.size (by rfl) (by rw[Kj (by omega),l8 (by omega)]) fun ls kv pl ms y6 dc=>?_
     refine zK _ _ (Zt dc y6 j8 (by decide)) ?_
     have k6:=(t0.below az.below).grown y6 j8 (by decide)
     refine ys (.o [9] 10) k6 [V0 t,.bool a1,.slice gq (j+1) ik,.slice ls (j+1) kv] (.t W6.heap.size [9,173]) fun nu ga ld=>⟨(Zx ga k6 l7 (by decide)),?_⟩
     refine xwm 5 ((↑(i*m+j):Int)+1) (↑((i*m+j)+1):Int) ?_
     have dl:=ga.below (u2.trans dc) l7
     have bp:=ga.own2 (Zo (Zb (Zb (cv.own2 kr a7 (by decide)) (Za ag)) az.below) y6 j8 (by decide)) k6 (by decide)
     have ds:=ga.own2 ms k6 (by decide)
     exact ze 2 (p8 _ _ _ ⟨j+1,_,_,_,_,rfl,rfl,dl,ld,bp,ds,by omega⟩ (by omega))
    refine xbs 0 1 [.string ⟨((u.getD (i*m+j) Xn).2.1).toArray⟩] 9 fun sg ph ad=>?_
    have js:=Zr e7 ad
    have w1:=(kd.below (Za ag)).below ad.below
    refine xb (.o [] 1) 3 w1 ?_
    have l4:=Zb e7 ad.below
    have u6:=bln o0 ad.below
    refine ybi (.o [] 8) (.t W6.heap.size [9,173]) fun _ _ _ _ zJ zQ zo zx zy zK=>Zn (m:=1) (news:=[.string ⟨((u.getD (i*m+j) Xn).2.1).toArray⟩]) (.string ⟨#[]⟩) 1 16 (j+1) (((Yg (Zj u m i)).take (j+1)).map sv) zo Tryz.underlying96 (by kernel_rfl) rfl (by decide) zx l4 zy (ad.blk.sl 1 1 (by decide) (by decide)) rfl (by simp[Value.oneCell']) (by unfold maxLen;omega) (by omega) u6.size (by rfl) (by rw[Kj (by omega),l8 (by omega)]) fun lz lk si lb y0 dy=>?_
    refine zK _ _ (Zt dy y0 l4 (by decide)) ?_
    have l2:=w1.grown y0 l4 (by decide)
    refine ys (.o [9] 10) l2 [V0 t,.bool a1,.slice gq (j+1) ik,.slice lz (j+1) lk] (.t W6.heap.size [9,173]) fun pv gn ky=>⟨(Zx gn l2 l7 (by decide)),?_⟩
    refine xwm 5 ((↑(i*m+j):Int)+1) (↑((i*m+j)+1):Int) ?_
    have cp:=gn.below (u6.trans dy) l7
    have es:=gn.own2 (Zo (Zb (Zb (cv.own2 kr a7 (by decide)) (Za ag)) ad.below) y0 l4 (by decide)) l2 (by decide)
    have dh:=gn.own2 lb l2 (by decide)
    exact ze 2 (p8 _ _ _ ⟨j+1,_,_,_,_,rfl,rfl,cp,ky,es,dh,by omega⟩ (by omega))
   refine xlv 7 b6.rp ?_
   have j0:B3 W6 v6:=m7
   have fs:W4.heap.size≤W6.heap.size:=i4.size
   have n8:=Ze hK fs
   have t3:=Ze hV fs
   have i9:Vw u.length m i=j:=by omega
   have g3:(Zj u m i).length=j:=by rw[Vj,i9]
   have y1:(Xm (Zj u m i)).take j=Xm (Zj u m i):=List.take_of_length_le (by rw[Yc];omega)
   have y7:(Yg (Zj u m i)).take j=Yg (Zj u m i):=List.take_of_length_le (by rw[Gm];omega)
   rw[y1] at n8
   rw[y7] at t3
   have hN:=Pf hE av ao hm hv (fun h=>by have:=bw h;omega) (show i<(ovN u.length m) by omega)
   have d7:=Wz hN
   rw[g3] at hN
   have x0:Hi m v (Qk t a1 j m v) (Xm (Zj u m i)) (Yg (Zj u m i)) j=Zed t a1 m v (Zj u m i):=by rw[←g3];rfl
   refine xc 0 (args:=#[.agg #[V0 t,.bool a1,.slice kp j kc,.slice vp j vc]]) (Nq t a1 j m v (Xm (Zj u m i)) (Yg (Zj u m i)) kp vp kc vc _ hN (Zf n8) (Zf t3)) ?_
   rintro _ nw ⟨_,rfl,h9,p6,c6,rfl,h6⟩
   have ii:=(blB i4 a0 j0).size
   have ei:=Ze h6 ii
   rw[x0] at ei
   have cq:=(hR.below j0).below h9
   have gy:=(hJ.below j0).below h9
   have hO:=(i1.trans (Zd.of_below j0)).trans (Zd.of_below h9)
   have hB:=blB (blB i4 a0 j0) a0 h9
   refine xc 11 (args:=#[P0 bc,V0 2,.slice p6 244 c6]) (Cm B bc bm pg N cg fa mf fc f (k+i) p K cI (Iw t a1 m v u (f+k) b2 i) p6 c6 244 (Zed t a1 m v (Zj u m i)) (f+k+i) _ (Nat.add_assoc _ _ _).symm d7 (by decide) (by omega) hf cq gy (fun W _ hO=>Xp (Zf (Zi ei hO (by decide))) d7) (Nat.le_trans a0 hB.size)) ?_
   rintro _ ou ⟨a9,c9,ih,gu,hh,rfl,o1,m2,hR,hJ⟩
   refine xa 3 [S0,V0 0] 35 fun op oe d5=>?_
   have g2:=((c7.below j0).below h9).only m2 (by decide)
   have o4:=d5.ne g2
   refine xsv 1 d5.blk [.slice a9 0 c9,V0 0] fun pz i5 nk=>?_
   have ar:=d5.ge0 (hB.trans o1)
   refine xb 6 1 nk ?_
   refine xc 9 (args:=#[V0 (↑(f+k+i):Int),V0 4]) (Xe ((f+k+i:Nat):Int) 4 4 _ (by omega) (by omega) rfl (by decide)) ?_
   rintro _ ro ⟨_,rfl,c1,pk,ck,rfl,x8⟩
   have jj:=(i5.below (blB (hB.trans o1) a0 d5.below) (Nat.le_trans a0 ar)).size
   have fo:=Ze x8 jj
   refine xcv0 0 (fun _ _ _ zo zx=>Yn zo zx (Xp (Zf fo) (Zh _ _)) (Zh _ _) Tryz.underlying40 Tryz.underlying5 Tryz.underlying9) ?_
   refine xa 2 [V0 0,.string ⟨#[]⟩,V0 0] 123 fun rq nq d3=>?_
   have i8:=Zb (i5.own2 (Zb (Zi (Zb (Zb x7 j0) h9) m2 (by decide)) d5.below) d5.blk (by decide)) c1
   have f8:=Zr i8 d3
   refine xsv 0 d3.blk [V0 0,.string ⟨(leB (↑(f+k+i):Int) 4).toArray⟩,V0 (↑(f+k+i):Int)] fun rg k7 z7=>?_
   have z1:=d3.ge0 (blB (i5.below (blB (hB.trans o1) a0 d5.below) (Nat.le_trans a0 ar)) a0 c1)
   have f0:=k7.blkT (((i5.blkT (((b6.below h9).only m2 (by decide)).below d5.below) d5.blk (by decide)).below c1).below d3.below) d3.blk (by decide)
   refine xb 6 2 f0 ?_
   refine xid 4 ((j:Int)>(0:Int)) (fun jm=>?_) (fun jm=>?_)
   ·have e3:((Xm (Zj u m i))).getD 0 0=((Zj u m i).getD 0 Xn).1:=Us i9 (by omega)
    refine xb 2 2 f0 ?_
    have u3:=k7.own2 (Zb (Zb (i5.own2 (Zb (Zi (Zb n8 h9) m2 (by decide)) d5.below) d5.blk (by decide)) c1) d3.below) d3.blk (by decide)
    refine xx 0 _ j 0 1 (IntsN.elem (Zf u3) (by rw[Yc,g3]) (k:=0) (by omega)).1 ?_
    refine xl 0 ((IntsN.elem (Zf u3) (by rw[Yc,g3]) (k:=0) (by omega)).2) ?_
    refine xs 1 z7 [V0 ((Xm (Zj u m i)).getD 0 0),.string ⟨(leB (↑(f+k+i):Int) 4).toArray⟩,V0 (↑(f+k+i):Int)] fun pt ah kj=>?_
    refine xlv 5 kj.rp ?_
    refine xbs 0 1 [V0 ((Xm (Zj u m i)).getD 0 0),.string ⟨(leB (↑(f+k+i):Int) 4).toArray⟩,V0 (↑(f+k+i):Int)] 123 fun pq sp r8=>?_
    have fx:=r8.ne kj
    have bb:=ah.below (k7.below (blB (blB (i5.below (blB (hB.trans o1) a0 d5.below) (Nat.le_trans a0 ar)) a0 c1) a0 d3.below) (Nat.le_trans a0 z1)) (Nat.le_trans a0 z1)
    have p0:=ah.own3 (k7.own3 (Zb i8 d3.below) f8) f8
    have fv:=Zr p0 r8
    have e4:=Zb p0 r8.below
    have u5:=blB bb a0 r8.below
    refine xbi 0 fun _ _ _ _ zJ zQ zo zx zy zK=>Zn (m:=1) (news:=[V0 ((Xm (Zj u m i)).getD 0 0),.string ⟨(leB (↑(f+k+i):Int) 4).toArray⟩,V0 (↑(f+k+i):Int)]) (.agg #[V0 0,.string ⟨#[]⟩,V0 0]) 3 32 (i+1) ((upE u m (f+k) (i+1)).flatMap Yj) zo Tryz.underlying88 (by kernel_rfl) rfl (by decide) zx e4 zy (r8.blk.sl 1 1 (by decide) (by decide)) rfl (by simp[Value.oneCell']) (by unfold maxLen;omega) (by omega) u5.size (by rfl) (Pp (by first|exact e3|exact b4)) fun sh pe pa lh q6 ig=>?_
    refine zK _ _ ?_
    refine xwm 6 ((↑(i*m):Int)+(m:Int)) (↑((i*m)+m):Int) ?_
    refine xv1 3 10 (show(V0 (↑((i*m)+m):Int):Value)=V0 (↑((i+1)*m):Int) from by rw[Nat.add_mul,Nat.one_mul]) ?_
    have dd:=(((((((hR.below d5.below).only (Zd.of_upd (T:=[35]) i5 d5.blk (by decide)) (by decide)).below c1).below d3.below).only (Zd.of_upd (T:=[123]) k7 d3.blk (by decide)) (by decide)).only (Zd.of_upd (T:=[123]) ah z7 (by decide)) (by decide)).below r8.below).only (Zd.of_grown (T:=[123]) q6 e4 (by decide)) (by decide)
    have ej:=(((((((hJ.below d5.below).only (Zd.of_upd (T:=[35]) i5 d5.blk (by decide)) (by decide)).below c1).below d3.below).only (Zd.of_upd (T:=[123]) k7 d3.blk (by decide)) (by decide)).only (Zd.of_upd (T:=[123]) ah z7 (by decide)) (by decide)).below r8.below).only (Zd.of_grown (T:=[123]) q6 e4 (by decide)) (by decide)
    have fi:=u5.trans (ig.mono a0)
    have ij:=(Zd.grown_new ((Zd.upd_new (Zd.upd_new (((Zd.upd_new ((hO.trans m2).trans (Zd.of_below d5.below)) i5 ar).trans (Zd.of_below c1)).trans (Zd.of_below d3.below)) k7 z1) ah z1).trans (Zd.of_below r8.below)) q6 e4)
    have p7:=((ah.blkT (k7.blkT (((i5.blk (g2.below d5.below) (Ne.symm (Ne.symm o4))).below c1).below d3.below) d3.blk (by decide)) z7 (by decide)).below r8.below).grown q6 e4 (by decide)
    exact ze 0 (t9 _ _ _ ⟨i+1,_,_,_,_,_,rfl,rfl,fi,ij,p7,lh,dd,ej,by omega⟩ (by omega))
   have b4:(0:Int)=((Zj u m i).getD 0 Xn).1:=Jo i9 (by omega)
   refine xlv 5 z7.rp ?_
   refine xbs 0 1 [V0 0,.string ⟨(leB (↑(f+k+i):Int) 4).toArray⟩,V0 (↑(f+k+i):Int)] 123 fun ns od q1=>?_
   have gk:=q1.ne z7
   have eo:=k7.below (blB (blB (i5.below (blB (hB.trans o1) a0 d5.below) (Nat.le_trans a0 ar)) a0 c1) a0 d3.below) (Nat.le_trans a0 z1)
   have o3:=k7.own3 (Zb i8 d3.below) f8
   have gd:=Zr o3 q1
   have e6:=Zb o3 q1.below
   have v7:=blB eo a0 q1.below
   refine xbi 0 fun _ _ _ _ zJ zQ zo zx zy zK=>Zn (m:=1) (news:=[V0 0,.string ⟨(leB (↑(f+k+i):Int) 4).toArray⟩,V0 (↑(f+k+i):Int)]) (.agg #[V0 0,.string ⟨#[]⟩,V0 0]) 3 32 (i+1) ((upE u m (f+k) (i+1)).flatMap Yj) zo Tryz.underlying88 (by kernel_rfl) rfl (by decide) zx e6 zy (q1.blk.sl 1 1 (by decide) (by decide)) rfl (by simp[Value.oneCell']) (by unfold maxLen;omega) (by omega) v7.size (by rfl) (Pp (by first|exact e3|exact b4)) fun pd qr qa lp s7 iu=>?_
   refine zK _ _ ?_
   refine xwm 6 ((↑(i*m):Int)+(m:Int)) (↑((i*m)+m):Int) ?_
   refine xv1 3 10 (show(V0 (↑((i*m)+m):Int):Value)=V0 (↑((i+1)*m):Int) from by rw[Nat.add_mul,Nat.one_mul]) ?_
   have dr:=((((((hR.below d5.below).only (Zd.of_upd (T:=[35]) i5 d5.blk (by decide)) (by decide)).below c1).below d3.below).only (Zd.of_upd (T:=[123]) k7 d3.blk (by decide)) (by decide)).below q1.below).only (Zd.of_grown (T:=[123]) s7 e6 (by decide)) (by decide)
   have et:=((((((hJ.below d5.below).only (Zd.of_upd (T:=[35]) i5 d5.blk (by decide)) (by decide)).below c1).below d3.below).only (Zd.of_upd (T:=[123]) k7 d3.blk (by decide)) (by decide)).below q1.below).only (Zd.of_grown (T:=[123]) s7 e6 (by decide)) (by decide)
   have bh:=v7.trans (iu.mono a0)
   have hg:=(Zd.grown_new ((Zd.upd_new (((Zd.upd_new ((hO.trans m2).trans (Zd.of_below d5.below)) i5 ar).trans (Zd.of_below c1)).trans (Zd.of_below d3.below)) k7 z1).trans (Zd.of_below q1.below)) s7 e6)
   have p9:=((k7.blkT (((i5.blk (g2.below d5.below) (Ne.symm (Ne.symm o4))).below c1).below d3.below) d3.blk (by decide)).below q1.below).grown s7 e6 (by decide)
   exact ze 0 (t9 _ _ _ ⟨i+1,_,_,_,_,_,rfl,rfl,bh,hg,p9,lp,dr,et,by omega⟩ (by omega))
  have n2:=of_decide_eq_false n2
  refine xlv 16 b6.rp ?_
  have i2:B3 W6 v6:=m7
  have ea:W4.heap.size≤W6.heap.size:=i4.size
  have m9:=Ze hK ea
  have v1:=Ze hV ea
  have i9:Vw u.length m i=j:=by omega
  have g3:(Zj u m i).length=j:=by rw[Vj,i9]
  have y1:(Xm (Zj u m i)).take j=Xm (Zj u m i):=List.take_of_length_le (by rw[Yc];omega)
  have y7:(Yg (Zj u m i)).take j=Yg (Zj u m i):=List.take_of_length_le (by rw[Gm];omega)
  rw[y1] at m9
  rw[y7] at v1
  have hN:=Pf hE av ao hm hv (fun h=>by have:=bw h;omega) (show i<(ovN u.length m) by omega)
  have d7:=Wz hN
  rw[g3] at hN
  have x0:Hi m v (Qk t a1 j m v) (Xm (Zj u m i)) (Yg (Zj u m i)) j=Zed t a1 m v (Zj u m i):=by rw[←g3];rfl
  refine xc 0 (args:=#[.agg #[V0 t,.bool a1,.slice kp j kc,.slice vp j vc]]) (Nq t a1 j m v (Xm (Zj u m i)) (Yg (Zj u m i)) kp vp kc vc _ hN (Zf m9) (Zf v1)) ?_
  rintro _ lm ⟨_,rfl,c8,p6,c6,rfl,h6⟩
  have fk:=(blB i4 a0 i2).size
  have bd:=Ze h6 fk
  rw[x0] at bd
  have da:=(hR.below i2).below c8
  have cu:=(hJ.below i2).below c8
  have hO:=(i1.trans (Zd.of_below i2)).trans (Zd.of_below c8)
  have hB:=blB (blB i4 a0 i2) a0 c8
  refine xc 11 (args:=#[P0 bc,V0 2,.slice p6 244 c6]) (Cm B bc bm pg N cg fa mf fc f (k+i) p K cI (Iw t a1 m v u (f+k) b2 i) p6 c6 244 (Zed t a1 m v (Zj u m i)) (f+k+i) _ (Nat.add_assoc _ _ _).symm d7 (by decide) (by omega) hf da cu (fun W _ hO=>Xp (Zf (Zi bd hO (by decide))) d7) (Nat.le_trans a0 hB.size)) ?_
  rintro _ na ⟨a9,c9,ih,gu,hh,rfl,h4,f2,hR,hJ⟩
  refine xa 3 [S0,V0 0] 35 fun lf lu a3=>?_
  have d9:=((c7.below i2).below c8).only f2 (by decide)
  have l1:=a3.ne d9
  refine xsv 1 a3.blk [.slice a9 0 c9,V0 0] fun mv b7 hx=>?_
  have m4:=a3.ge0 (hB.trans h4)
  refine xb 6 1 hx ?_
  refine xc 9 (args:=#[V0 (↑(f+k+i):Int),V0 4]) (Xe ((f+k+i:Nat):Int) 4 4 _ (by omega) (by omega) rfl (by decide)) ?_
  rintro _ lq ⟨_,rfl,a5,pk,ck,rfl,x8⟩
  have ed:=(b7.below (blB (hB.trans h4) a0 a3.below) (Nat.le_trans a0 m4)).size
  have cb:=Ze x8 ed
  refine xcv0 0 (fun _ _ _ zo zx=>Yn zo zx (Xp (Zf cb) (Zh _ _)) (Zh _ _) Tryz.underlying40 Tryz.underlying5 Tryz.underlying9) ?_
  refine xa 2 [V0 0,.string ⟨#[]⟩,V0 0] 123 fun nc lw a4=>?_
  have i6:=Zb (b7.own2 (Zb (Zi (Zb (Zb x7 i2) c8) f2 (by decide)) a3.below) a3.blk (by decide)) a5
  have e0:=Zr i6 a4
  refine xsv 0 a4.blk [V0 0,.string ⟨(leB (↑(f+k+i):Int) 4).toArray⟩,V0 (↑(f+k+i):Int)] fun ml b8 m1=>?_
  have m0:=a4.ge0 (blB (b7.below (blB (hB.trans h4) a0 a3.below) (Nat.le_trans a0 m4)) a0 a5)
  have e8:=b8.blkT (((b7.blkT (((b6.below c8).only f2 (by decide)).below a3.below) a3.blk (by decide)).below a5).below a4.below) a4.blk (by decide)
  refine xb 6 2 e8 ?_
  refine xid 4 ((j:Int)>(0:Int)) (fun cj=>?_) (fun cj=>?_)
  ·have e3:((Xm (Zj u m i))).getD 0 0=((Zj u m i).getD 0 Xn).1:=Us i9 (by omega)
   refine xb 2 2 e8 ?_
   have t5:=b8.own2 (Zb (Zb (b7.own2 (Zb (Zi (Zb m9 c8) f2 (by decide)) a3.below) a3.blk (by decide)) a5) a4.below) a4.blk (by decide)
   refine xx 0 _ j 0 1 (IntsN.elem (Zf t5) (by rw[Yc,g3]) (k:=0) (by omega)).1 ?_
   refine xl 0 ((IntsN.elem (Zf t5) (by rw[Yc,g3]) (k:=0) (by omega)).2) ?_
   refine xs 1 m1 [V0 ((Xm (Zj u m i)).getD 0 0),.string ⟨(leB (↑(f+k+i):Int) 4).toArray⟩,V0 (↑(f+k+i):Int)] fun nm m5 co=>?_
   refine xlv 5 co.rp ?_
   refine xbs 0 1 [V0 ((Xm (Zj u m i)).getD 0 0),.string ⟨(leB (↑(f+k+i):Int) 4).toArray⟩,V0 (↑(f+k+i):Int)] 123 fun nd lv f5=>?_
   have z5:=f5.ne co
   have eu:=m5.below (b8.below (blB (blB (b7.below (blB (hB.trans h4) a0 a3.below) (Nat.le_trans a0 m4)) a0 a5) a0 a4.below) (Nat.le_trans a0 m0)) (Nat.le_trans a0 m0)
   have o6:=m5.own3 (b8.own3 (Zb i6 a4.below) e0) e0
   have dv:=Zr o6 f5
   have e5:=Zb o6 f5.below
   have v8:=blB eu a0 f5.below
   refine xbi 0 fun _ _ _ _ zJ zQ zo zx zy zK=>Zn (m:=1) (news:=[V0 ((Xm (Zj u m i)).getD 0 0),.string ⟨(leB (↑(f+k+i):Int) 4).toArray⟩,V0 (↑(f+k+i):Int)]) (.agg #[V0 0,.string ⟨#[]⟩,V0 0]) 3 32 (i+1) ((upE u m (f+k) (i+1)).flatMap Yj) zo Tryz.underlying88 (by kernel_rfl) rfl (by decide) zx e5 zy (f5.blk.sl 1 1 (by decide) (by decide)) rfl (by simp[Value.oneCell']) (by unfold maxLen;omega) (by omega) v8.size (by rfl) (Pp (by first|exact e3|exact b4)) fun lx lg kz ji k8 cn=>?_
   refine zK _ _ ?_
   refine xwm 6 ((↑(i*m):Int)+(m:Int)) (↑((i*m)+m):Int) ?_
   refine xv1 3 10 (show(V0 (↑((i*m)+m):Int):Value)=V0 (↑((i+1)*m):Int) from by rw[Nat.add_mul,Nat.one_mul]) ?_
   have cs:=(((((((hR.below a3.below).only (Zd.of_upd (T:=[35]) b7 a3.blk (by decide)) (by decide)).below a5).below a4.below).only (Zd.of_upd (T:=[123]) b8 a4.blk (by decide)) (by decide)).only (Zd.of_upd (T:=[123]) m5 m1 (by decide)) (by decide)).below f5.below).only (Zd.of_grown (T:=[123]) k8 e5 (by decide)) (by decide)
   have el:=(((((((hJ.below a3.below).only (Zd.of_upd (T:=[35]) b7 a3.blk (by decide)) (by decide)).below a5).below a4.below).only (Zd.of_upd (T:=[123]) b8 a4.blk (by decide)) (by decide)).only (Zd.of_upd (T:=[123]) m5 m1 (by decide)) (by decide)).below f5.below).only (Zd.of_grown (T:=[123]) k8 e5 (by decide)) (by decide)
   have fr:=v8.trans (cn.mono a0)
   have ic:=(Zd.grown_new ((Zd.upd_new (Zd.upd_new (((Zd.upd_new ((hO.trans f2).trans (Zd.of_below a3.below)) b7 m4).trans (Zd.of_below a5)).trans (Zd.of_below a4.below)) b8 m0) m5 m0).trans (Zd.of_below f5.below)) k8 e5)
   have n5:=((m5.blkT (b8.blkT (((b7.blk (d9.below a3.below) (Ne.symm (Ne.symm l1))).below a5).below a4.below) a4.blk (by decide)) m1 (by decide)).below f5.below).grown k8 e5 (by decide)
   exact ze 0 (t9 _ _ _ ⟨i+1,_,_,_,_,_,rfl,rfl,fr,ic,n5,ji,cs,el,by omega⟩ (by omega))
  have b4:(0:Int)=((Zj u m i).getD 0 Xn).1:=Jo i9 (by omega)
  refine xlv 5 m1.rp ?_
  refine xbs 0 1 [V0 0,.string ⟨(leB (↑(f+k+i):Int) 4).toArray⟩,V0 (↑(f+k+i):Int)] 123 fun lc nn f4=>?_
  have al:=f4.ne m1
  have du:=b8.below (blB (blB (b7.below (blB (hB.trans h4) a0 a3.below) (Nat.le_trans a0 m4)) a0 a5) a0 a4.below) (Nat.le_trans a0 m0)
  have n3:=b8.own3 (Zb i6 a4.below) e0
  have ev:=Zr n3 f4
  have d8:=Zb n3 f4.below
  have s9:=blB du a0 f4.below
  refine xbi 0 fun _ _ _ _ zJ zQ zo zx zy zK=>Zn (m:=1) (news:=[V0 0,.string ⟨(leB (↑(f+k+i):Int) 4).toArray⟩,V0 (↑(f+k+i):Int)]) (.agg #[V0 0,.string ⟨#[]⟩,V0 0]) 3 32 (i+1) ((upE u m (f+k) (i+1)).flatMap Yj) zo Tryz.underlying88 (by kernel_rfl) rfl (by decide) zx d8 zy (f4.blk.sl 1 1 (by decide) (by decide)) rfl (by simp[Value.oneCell']) (by unfold maxLen;omega) (by omega) s9.size (by rfl) (Pp (by first|exact e3|exact b4)) fun ly mc li hl j9 dz=>?_
  refine zK _ _ ?_
  refine xwm 6 ((↑(i*m):Int)+(m:Int)) (↑((i*m)+m):Int) ?_
  refine xv1 3 10 (show(V0 (↑((i*m)+m):Int):Value)=V0 (↑((i+1)*m):Int) from by rw[Nat.add_mul,Nat.one_mul]) ?_
  have br:=((((((hR.below a3.below).only (Zd.of_upd (T:=[35]) b7 a3.blk (by decide)) (by decide)).below a5).below a4.below).only (Zd.of_upd (T:=[123]) b8 a4.blk (by decide)) (by decide)).below f4.below).only (Zd.of_grown (T:=[123]) j9 d8 (by decide)) (by decide)
  have ep:=((((((hJ.below a3.below).only (Zd.of_upd (T:=[35]) b7 a3.blk (by decide)) (by decide)).below a5).below a4.below).only (Zd.of_upd (T:=[123]) b8 a4.blk (by decide)) (by decide)).below f4.below).only (Zd.of_grown (T:=[123]) j9 d8 (by decide)) (by decide)
  have bg:=s9.trans (dz.mono a0)
  have il:=(Zd.grown_new ((Zd.upd_new (((Zd.upd_new ((hO.trans f2).trans (Zd.of_below a3.below)) b7 m4).trans (Zd.of_below a5)).trans (Zd.of_below a4.below)) b8 m0).trans (Zd.of_below f4.below)) j9 d8)
  have m8:=((b8.blkT (((b7.blk (d9.below a3.below) (Ne.symm (Ne.symm l1))).below a5).below a4.below) a4.blk (by decide)).below f4.below).grown j9 d8 (by decide)
  exact ze 0 (t9 _ _ _ ⟨i+1,_,_,_,_,_,rfl,rfl,bg,il,m8,hl,br,ep,by omega⟩ (by omega))
 refine xie 13 (i:Int) (1:Int) (fun fn=>?_) (fun fn=>?_)
 ·refine xx 3 _ i 0 3 (up_at (Zf x7) (by omega)).1 ?_
  refine xl 1 ((up_at (Zf x7) (by omega)).2) ?_
  refine xsv 2 c7 [S0,V0 0] fun mu s3 ju=>?_
  have g1:=n1.ge0 (Below.refl B _)
  have hB:=s3.below (y3.trans s0) (Nat.le_trans hBw g1)
  have hO:=(Zd.upd_new (ew.trans q8) s3 g1)
  have bk:=hR.only (Zd.of_upd (T:=[35]) s3 c7 (by decide)) (by decide)
  have bj:=hJ.only (Zd.of_upd (T:=[35]) s3 c7 (by decide)) (by decide)
  refine xec 7 ju (.tuple #[V0 ((upX u m (f+k) 0).2.2),.agg #[S0,V0 0]]) ?_
  have ai:i=(ovN u.length m):=Zcj ay.1 hi (by omega) (by omega)
  have fm:(ovN u.length m)≤1:=by omega
  have e1:treeL t a1 m v u (f+k) b2=((upX u m (f+k) 0).2.2,(Iw t a1 m v u (f+k) b2 i)):=by
   unfold treeL;rw[Pd (by rw[Xh];exact fm),Hx (by omega),ai]
  have e2:(Ri (ovN u.length m)).sum=(ovN u.length m):=by rw[Kq fm];simp
  rw[kk] at e1
  unfold Zgk
  rw[e1,show k0+Zy t l.length=k+i by omega]
  exact⟨_,_,_,rfl,hB,hO,bk,bj⟩
 refine xv1 12 2 (show(.slice p4 i c4:Value)=.slice p4 ((upE u m (f+k) i).length) c4 from by rw[Xh]) ?_
 have ai:i=(ovN u.length m):=Zcj ay.1 hi (by omega) (by omega)
 have fm:¬ (ovN u.length m)≤1:=by omega
 have oh:(Ri (ovN u.length m)).sum=(ovN u.length m)+(Ri (ovN (ovN u.length m) 18)).sum:=by rw[Kv fm];rfl
 have hB:=y3.trans s0
 have hO:=ew.trans q8
 refine ze 0 (mj _ _ _ ⟨(upE u m (f+k) i),(k+i),18,4,_,(Iw t a1 m v u (f+k) b2 i),_,_,rfl,rfl,hB,hO,c7,⟨_,_,_,hR⟩,hJ,fun W _ h2=>by rw[Xh];unfold Sts;rw[Xh];exact Zf (Zi x7 h2 (by decide)),rfl,rfl,(by rw[ai];exact up_ok hE ay.1),(by rw[Xh,ai];omega),fun _=>by rw[Xh];omega,(by rw[Xh];omega),(by rw[←kk,ai];show _=Ux _ _ _ _;rw[Nb (by rw[Xh];exact fm),Nat.add_assoc];rfl)⟩ ?_)
 rw[if_neg (by decide),Xh]
 by_cases hlf:a1=true
 ·rw[if_pos hlf];omega
 ·rw[if_neg hlf]
  have kg:a1=false:=by simpa using hlf
  have kt:=bw kg
  have jc:m=18:=by rw[←hm,kg];rfl
  have oj:=ov18 kt
  rw[jc] at ai;omega
def RLaidK(kind:Int)(B bc bm:Nat)(pg:O0)(N cg f k:Nat)(p:O0)(K c:Nat)(l:Bl)(li:Bl)(q:Nat)(w:World)(e:Ending)(w':World):Prop :=
 ∃ a c2 fa m fc,e=.returned (.tuple #[V0 (q:Int),.agg #[.slice a 0 c2,V0 0]])∧Below B w w'∧Zd [169,9] w w'∧RAl B bc bm pg N cg fa m fc (k+1) (Qs f N) w'∧RefI B bm p K c (Vc l (q*256) (Xw kind (q:Int) li)) w'
theorem Zch(kind:Int)(hk1:1≤kind)(hk4:kind≤4)(B bc bm:Nat)(pg:O0)(N cg:Nat)(fa:O0)(m fc f k:Nat)(p:O0)(K c:Nat)(l:Bl)(a:O0)(ci n':Nat)(li:Bl)(q:Nat)(w:World)(hq:f+k=q)(hn':li.length=n')(hl:n'≤244)(hkN:k<N)(hf:f+N≤K)(hA:RAl B bc bm pg N cg fa m fc k (Qs f N) w)(hI:RefI B bm p K c l w)(hin:∀ W,Below B w W→Zd [169,9] w W→Bys W (.slice a n' ci) li)(hBw:B≤w.heap.size) :
 C0 90 #[P0 bc,V0 kind,.slice a n' ci] w (RLaidK kind B bc bm pg N cg f k p K c l li q w):=by
 subst hq hn'
 have hK:=hI.hk
 have hL:(Qs f N).getD k 0=((f+k:Nat):Int):=Uh hkN
 have hs:Vv kind ((f+k:Nat):Int) li=0:=by
  unfold Vv
  rw[if_pos (show Qg kind ((f+k:Nat):Int)=true from decide_eq_true (by omega)),if_pos hl]
 have hw:wrE kind ((Qs f N).getD k 0) K li=0:=by
  rw[hL];unfold wrE;rw[if_pos hs,if_pos (by omega)]
 refine(Zf7 B bc bm pg N cg fa m fc k (Qs f N) p K c l kind a ci li w hA hI hin hBw).mono ?_
 rintro e W ⟨a2,c2,a3,m2,a4,rfl,hb,hO,a1,a0,h5⟩
 have e1:lyV k N K (Qs f N) kind li=((f+k:Nat):Int):=by rw[lyV,if_pos ⟨hkN,hw⟩,hL]
 have e2:lyE k N K (Qs f N) kind li=0:=by rw[lyE,if_pos hkN,hw]
 have e3:lyB k N K (Qs f N) kind li=[]:=by rw[lyB,if_pos hkN,hw];rfl
 have e4:lyK k N K (Qs f N) kind li=k+1:=by rw[lyK,if_pos ⟨hkN,hw⟩]
 have e5:lyL k N K (Qs f N) kind li l=Vc l ((f+k)*256) (Xw kind ((f+k:Nat):Int) li):=by rw[lyL,if_pos hkN,wrL,if_pos hw,hL];rfl
 rw[e4] at a1
 rw[e5] at a0
 exact⟨a2,c2,a3,m2,a4,by rw[e1,e2,e3];rfl,hb,hO,a1,a0⟩
def rsV (L:List (List Int))(q i:Nat):List Value:=[V0 ((q+i:Nat):Int),V0 (Yb (L.getD i []):Int),V0 (Xd (L.getD i []):Int)]
def rsL (L:List (List Int))(q n:Nat):List Value:=(List.range n).flatMap (rsV L q)
theorem Zb2(L:List (List Int))(q n:Nat):rsL L q (n+1)=rsL L q n++rsV L q n:=by simp[rsL,List.range_succ]
def RLayP(B bc bm:Nat)(pg:O0)(N cg f k0:Nat)(p:O0)(K c:Nat)(bs:Bl)(L:List (List Int))(w:World)(e:Ending)(w':World):Prop :=
 ∃ a c2 fa m fc,e=.returned (.slice a L.length c2)∧Below B w w'∧Zd [169,9] w w'∧RAl B bc bm pg N cg fa m fc (k0+L.length) (Qs f N) w'∧RefI B bm p K c (Kl L (f+k0) bs L.length) w'∧w'.ownsRow w.heap.size 252 3 (.slice a L.length c2) L.length (rsL L (f+k0) L.length)
theorem ref22_lay(B bc bm:Nat)(pg:O0)(N cg:Nat)(fa0:O0)(mf0 fc0 f k0:Nat)(p:O0)(K cI:Nat)(bs:Bl)(B2:Nat)(pl:O0)(cl:Nat)(gs:List (Nat×Nat))(L:List (List Int))(w:World)(hR:RAl B bc bm pg N cg fa0 mf0 fc0 k0 (Qs f N) w)(hJ:RefI B bm p K cI bs w)(hL:Lists w B2 (.slice pl L.length cl) gs L)(hS:∀ i,i<L.length→Hq (L.getD i [])∧(L.getD i []).length≤960)(hf:f+N≤K)(hk:k0+L.length≤N)(hLn:L.length≤1000000)(hBw:B≤w.heap.size) :
 C0 182 #[P0 bc,.slice pl L.length cl] w (RLayP B bc bm pg N cg f k0 p K cI bs L w):=by
 refine zin 49 Tryz.func182 ?_
 have hB:=Below.refl B w
 refine zl 17 49 (fun zm d2 V=>∃ (i:Nat) (fa:O0) (mf fc:Nat) (p5:O0) (c5:Nat),d2=[(0,P0 bc),(1,.slice pl L.length cl),(4,S0),(5,.slice p5 i c5),(6,V0 (i:Int))]∧zm=L.length-((i:Int)).toNat∧Below B w V∧Zd [169,9] w V∧RAl B bc bm pg N cg fa mf fc (k0+i) (Qs f N) V∧RefI B bm p K cI (Kl L (f+k0) bs i) V∧Lists V B2 (.slice pl L.length cl) gs L∧V.ownsRow w.heap.size 252 3 (.slice p5 i c5) i (rsL L (f+k0) i)∧i≤L.length) ⟨0,fa0,mf0,fc0,none,0,rfl,rfl,hB,(Zd.refl _ _),hR,hJ,hL,World.ownsRow_nil _ _ _ _,Nat.zero_le _⟩ ?_
 rintro _ _ W1 ⟨i,fa,mf,fc,p5,c5,rfl,rfl,a4,a7,hR,hJ,hL,c8,hi⟩ J1 d1 r1
 refine xid 9 ((i:Int)<(L.length:Int)) (fun d3=>?_) (fun d3=>?_)
 ·refine xx 8 _ L.length i 1 (Lists.elem hL rfl (k:=i) (by omega)).1 ?_
  refine xl 0 ((Lists.elem hL rfl (k:=i) (by omega)).2) ?_
  refine xc 0 (args:=#[.slice (some ⟨(gs.getD i (0,0)).1,0,none⟩) ((L.getD i []).length) ((gs.getD i (0,0)).2)]) (ref09_Put (some ⟨(gs.getD i (0,0)).1,0,none⟩) (gs.getD i (0,0)).2 (L.getD i []) _ (hS i (by omega)).1 (hS i (by omega)).2 (Zf (hL.each i (by omega)))) ?_
  rintro _ W3 ⟨_,rfl,a5,p6,c6,rfl,h6⟩
  have c7:=hR.below a5
  have c0:=hJ.below a5
  have a3:=a7.trans (Zd.of_below a5)
  have b7:=Ze h6 a4.size
  have a8:=blB a4 hBw a5
  refine xc 11 (args:=#[P0 bc,V0 3,.slice p6 244 c6]) (Zch 3 (by decide) (by decide) B bc bm pg N cg fa mf fc f (k0+i) p K cI (Kl L (f+k0) bs i) p6 c6 244 (Ia (L.getD i [])) (f+k0+i) _ (Nat.add_assoc _ _ _).symm (Kt _ _) (by decide) (by omega) hf c7 c0 (fun W _ a3=>Xp (Zf (Zi b7 a3 (by decide))) (Kt _ _)) (Nat.le_trans hBw a8.size)) ?_
  rintro _ W4 ⟨a9,c9,d6,d5,d8,rfl,d0,c2,hR,hJ⟩
  refine xa 3 [S0,V0 0] 35 fun b5 W5 n5=>?_
  have b2:=a8.trans d0
  have g5:=n5.ge0 b2
  refine xsv 1 n5.blk [.slice a9 0 c9,V0 0] fun W6 u6 k6=>?_
  have a1:=(((hL.below a5).only c2 (by decide)).below n5.below).only (Zd.of_upd (T:=[35]) u6 n5.blk (by decide)) (by decide)
  refine xx 6 _ L.length i 1 (Lists.elem a1 rfl (k:=i) (by omega)).1 ?_
  refine xl 0 ((Lists.elem a1 rfl (k:=i) (by omega)).2) ?_
  refine xr 0 (args:=#[.slice (some ⟨(gs.getD i (0,0)).1,0,none⟩) ((L.getD i []).length) ((gs.getD i (0,0)).2)]) (Zfs (some ⟨(gs.getD i (0,0)).1,0,none⟩) (gs.getD i (0,0)).2 (L.getD i []) _ (hS i (by omega)).2 (Zf (a1.each i (by omega)))) fun W7 a6=>?_
  refine xbs 13 1 [V0 (↑(f+k0+i):Int),V0 (↑(Yb (L.getD i [])):Int),V0 (↑(Xd (L.getD i [])):Int)] 252 fun b8 W8 n8=>?_
  have b1:=blB (u6.below (blB b2 hBw n5.below) (Nat.le_trans hBw g5)) hBw a6
  have g8:=n8.ge0 b1
  have a2:=Zb (u6.own2 (Zb (Zi (Zb c8 a5) c2 (by decide)) n5.below) n5.blk (by decide)) a6
  have b9:=Zr a2 n8
  have a0:=Zb a2 n8.below
  have b0:=blB b1 hBw n8.below
  refine xbi 0 fun _ _ _ _ zJ zQ zo zx zy zK=>Zn (m:=1) (news:=[V0 (↑(f+k0+i):Int),V0 (↑(Yb (L.getD i [])):Int),V0 (↑(Xd (L.getD i [])):Int)]) (.agg #[V0 0,V0 0,V0 0]) 3 24 (i+1) ((rsL L (f+k0) (i+1))) zo Tryz.underlying266 (by kernel_rfl) rfl (by decide) zx a0 zy (n8.blk.sl 1 1 (by decide) (by decide)) rfl (by simp[Value.oneCell']) (by unfold maxLen;omega) (by omega) b0.size (by rfl) (by rw[Zb2];rfl) fun d9 d7 W9 o9 b3 d4=>?_
  refine zK _ _ ?_
  refine xwm 6 ((i:Int)+1) (↑(i+1):Int) ?_
  have c1:=b0.trans (d4.mono hBw)
  have c4:=(Zd.grown_new (((Zd.upd_new ((a3.trans c2).trans (Zd.of_below n5.below)) u6 g5).trans (Zd.of_below a6)).trans (Zd.of_below n8.below)) b3 a0)
  have b4:=((((hR.below n5.below).only (Zd.of_upd (T:=[35]) u6 n5.blk (by decide)) (by decide)).below a6).below n8.below).only (Zd.of_grown (T:=[252]) b3 a0 (by decide)) (by decide)
  have c3:=((((hJ.below n5.below).only (Zd.of_upd (T:=[35]) u6 n5.blk (by decide)) (by decide)).below a6).below n8.below).only (Zd.of_grown (T:=[252]) b3 a0 (by decide)) (by decide)
  have b6:=((a1.below a6).below n8.below).only (Zd.of_grown (T:=[252]) b3 a0 (by decide)) (by decide)
  exact ze 2 (d1 _ _ _ ⟨i+1,_,_,_,_,_,rfl,rfl,c1,c4,b4,c3,b6,o9,by omega⟩ (by omega))
 refine xe 12 (.slice p5 i c5) ?_
 obtain rfl:i=L.length:=by omega
 exact⟨_,_,_,_,_,rfl,a4,a7,hR,hJ,c8⟩
end Go.Proofs.YtegcamkgeacjfaaGreatDoor
namespace Go.Proofs.YtegcamkgeacjfaaGreatDoor
set_option maxHeartbeats 8000000
set_option maxRecDepth 100000
open Go.RowKit Go.Extern.Stop Go.Stop Go.Extern
set_option linter.unusedVariables false
def Ko(u v:Value):Prop:=∀ j,u.ownBlock=some j→v.ownBlock≠some j
theorem Ko.symm{u v:Value}(h:Ko u v):Ko v u:=fun j h1 h2=>h j h2 h1
theorem Ko.grow{w:World}{u v u':Value}{base e size n:Nat}{xs:List Value}(h:Ko u v)(k:w.ownsRow base e size v n xs)(hl:u'.ownBlock=u.ownBlock∨u'.ownBlock=some w.heap.size):Ko u' v:=by
 rintro j h1 h2
 rcases hl with hl|hl
 ·exact h j (hl▸h1) h2
 ·rw[hl,Option.some.injEq] at h1
  subst h1
  have:=(k.lt _ h2).2
  omega
theorem Ko.row{w W:World}{u v:Value}{base e size n:Nat}{xs:List Value}(h:Ko u v)(k:w.ownsRow base e size v n xs)(hg:w.grownBy W u.ownBlock):W.ownsRow base e size v n xs:=by
 obtain⟨h1,h2⟩:=k
 refine⟨h1,?_⟩
 rcases h2 with h2|⟨g,a0,a1,rfl,hb,hh,r⟩
 ·exact Or.inl h2
 ·exact Or.inr ⟨g,a0,a1,rfl,hb,(hg.block g (Array.getElem?_eq_some_iff.1 hh).1 (fun q=>h g q.symm rfl)).trans hh,r⟩
theorem Ko.of_lt{w W:World}{u v:Value}{base base2 e e2 size size2 n n2:Nat}{xs ys:List Value}(k:w.ownsRow base e size u n xs)(q:W.ownsRow base2 e2 size2 v n2 ys)(h:w.heap.size≤base2):Ko u v:=fun j h1 h2=>by
 have:=(k.lt j h1).2
 have:=(q.lt j h2).1
 omega
theorem Ko.nil(v:Value):Ko (S0) v:=fun j h=>by cases h
theorem Qh{P:Program}{a:Act}{w:World}{K:Act→World→Prop}{Q:Exit→Act→World→Prop}{o:Oper}{s x:Operand}{t e te:TypeId}{base:Nat}{v:Value}{n:Nat}{xs:List Value}{b m c:Nat}{news:List Value}(z:Value)(size bytes n':Nat)(xs':List Value)
 (ho:o.op=.call { callee:=.builtin .append,args:=#[s,x],argTypes:=#[t,t] }) (ht:P.underlying t=some (.slice e)) (hi:(P.info? e).map (fun i=>(i.zero,i.size,i.bytes))=some (some z,size,bytes)) (hzs:z.cells.size=size) (hsz:0<size) (hs:a.eval s=v)
 (hown:w.ownsRow base e size v n xs) (hx:a.eval x=.slice (S1 b) m c) (hnew:Blk w b news te) (hl:news.length=m*size) (h1:∀ u∈news,u.oneCell'=true) (h63:n+m≤maxLen) (hbytes:(n+m)*bytes≤140737488355328) (hbase:base≤w.heap.size) (hn:n+m=n') (hxs:xs++news=xs')
 (h:∀ p c W,W.ownsRow base e size (.slice p n' c) n' xs'→w.grownBy W v.ownBlock→Below base w W→((Value.slice p n' c).ownBlock=v.ownBlock∨(Value.slice p n' c).ownBlock=some w.heap.size)→K (a.put o.dst (.slice p n' c)) W):o.wp P a w K Q:=by
 cases hq:P.info? e with
 | none=>simp[hq] at hi
 | some i =>
  simp only[hq,Option.map_some,Option.some.injEq,Prod.mk.injEq] at hi
  have hc:∀ j u,news[j]? = some u→w.cell? ((⟨b,0,none⟩:Addr).add j)=some u:=fun j u hj=>by
   have hc:=hnew.cell hj
   by_cases h0:j=0
   ·subst h0;simpa [Addr.add] using hc
   ·simpa [Addr.add,h0] using hc
  obtain⟨v',W,hr,h2,h3,_,h5⟩:=run_append_own_at (P:=P) w base t o.type e i z size bytes ht hq hi.1 hi.2.1 hi.2.2 hzs hsz v n xs hown ⟨b,0,none⟩ m c news hl hc h1 h63 hbytes hbase
  subst hn hxs
  obtain⟨p,c2,rfl⟩:=(Zf h2).slice
  unfold Oper.wp execOp
  simp only[ho,resolve,invoke,builtin,Sem.run_bind,Sem.run_pure,Result.andThen_ok,List.map_toArray,List.map_cons,List.map_nil,hs,hx,hr]
  exact h p c2 W h2 h3 (Vu h3 hown (Nat.le_refl _) hbase) h5
end Go.Proofs.YtegcamkgeacjfaaGreatDoor
namespace Go.Proofs.YtegcamkgeacjfaaGreatDoor
set_option maxHeartbeats 8000000
set_option maxRecDepth 100000
open Go.RowKit Go.Extern.Stop Go.Stop Go.Extern
set_option linter.unusedVariables false
attribute [local irreducible] wpList wpAnyH Code.wp Oper.wp Go
structure EachS(B:Nat)(W:World)(u:Value)(gs:List (Nat×Nat))(L:List (List Int)):Prop where
 len:gs.length=L.length
 each:Each W B gs L
 ap:∀ i,i<L.length→Ko u (Bu gs L i)
theorem EachS.below{B:Nat}{w W:World}{u:Value}{gs:List (Nat×Nat)}{L:List (List Int)}(h:EachS B w u gs L)(hb:B3 w W):EachS B W u gs L:=⟨h.len,h.each.below hb,h.ap⟩
theorem EachS.only{T:List TypeId}{B:Nat}{w W:World}{u:Value}{gs:List (Nat×Nat)}{L:List (List Int)}(h:EachS B w u gs L)(hO:Zd T w W)(hT:T.contains 3=false):EachS B W u gs L:=⟨h.len,h.each.only hO hT,h.ap⟩
theorem EachS.grow{B:Nat}{w W:World}{u u':Value}{gs:List (Nat×Nat)}{L:List (List Int)}(h:EachS B w u gs L)(hg:w.grownBy W u.ownBlock)(hl:u'.ownBlock=u.ownBlock∨u'.ownBlock=some w.heap.size):EachS B W u' gs L :=
 ⟨h.len,fun i hi=>(h.ap i hi).row (h.each i hi) hg,fun i hi=>(h.ap i hi).grow (h.each i hi) hl⟩
theorem EachS.nil(B:Nat)(w:World):EachS B w (S0) [] []:=⟨rfl,fun i hi=>absurd hi (Nat.not_lt_zero _),fun i hi=>absurd hi (Nat.not_lt_zero _)⟩
theorem Vm{w:World}{p:O0}{n c q:Nat}{A:List Value}{x:Value}(h:Sl w (.slice p n c) n (A++[x]))(hA:A.length=q):p.isSome=true∧w.cell? (Zz p (q*1))=some x:=by
 rw[Nat.mul_one];exact Sl.elem h (by subst hA;simp)
theorem Sj{q:Nat}{A:List Value}{x y:Value}(hA:A.length=q):(A++[x]).set q y=A++[y]:=by subst hA;simp
theorem out_neg{w:World}{B t n m:Nat}{v x:Value}{A:List Value}(hm:m≠0)(h:w.ownsRow B t 1 v n (A++(if m=0 then [] else [x]))):w.ownsRow B t 1 v n (A++[x]):=by rwa [if_neg hm] at h
theorem Sm{l:List Int}{i q m:Nat}(hq:i=q*960+m)(hi:i<l.length){v:Int}(hv:mn3 (l.getD i 0)=v):((((Zg l).drop (q*960)).take m).map V0)++[V0 v]=((((Zg l).drop (q*960)).take (m+1)).map V0):=by
 have h1:q*960+m<(Zg l).length:=by rw[Jl];omega
 have h2:((Zg l).drop (q*960)).take (m+1)=((Zg l).drop (q*960)).take m++[v]:=by
  rw[List.take_succ_eq_append_getElem (by simp;omega),List.getElem_drop]
  congr 2
  rw[←hv,hq]
  simp[Zg,List.getD]
  rw[List.getElem?_eq_getElem (by rw[Jl] at h1;exact h1)]
  rfl
 rw[h2,List.map_append];rfl
theorem Zb8{B q m c n:Nat}{W:World}{l:List Int}{p:O0}{v:Value}{gs:List (Nat×Nat)}(hm:0<m)(hch:(((Zg l).drop (q*960)).take m)=Vi (Zg l) q)(hcl:(Vi (Zg l) q).length=m)(hn:n=q+1)(hE:EachS B W (.slice p m c) gs (Zl (Zg l) q))
 (hl:W.ownsRow B 3 1 (.slice p m c) m ((((Zg l).drop (q*960)).take m).map V0)) (ho:W.ownsRow B 33 1 v n (((List.range q).map (Bu gs (Zl (Zg l) q)))++[.slice p m c])):∃ gs2,gs2.length=q+1∧Lists W B v gs2 (Zl (Zg l) (q+1)):=by
 obtain⟨g,rfl,hc⟩:=Qf hl hm
 subst hn
 have hL:=Lists.snoc (w:=W) (base:=B) (g:=g) (c:=c) (n:=q+1) (v:=v) (gs:=gs) (L:=Zl (Zg l) q) (ch:=Vi (Zg l) q) (by rw[Xk]) (by rw[Xk,hcl];exact ho) hE.each (by rw[hcl,←hch];exact hl) (by rw[hE.len])
 exact⟨gs++[(g,c)],by rw[List.length_append,hE.len,Xk];rfl,by rw[Au];exact hL⟩
theorem Cp{B i q m c n:Nat}{W:World}{l:List Int}{p:O0}{pb:O0}{cb:Nat}{gs:List (Nat×Nat)}(hq:i=q*960+m)(hm:m<960)(hi:i<l.length)(hn:n=q+1)(hE:EachS B W (.slice p (m+1) c) gs (Zl (Zg l) q))
 (hl:W.ownsRow B 3 1 (.slice p (m+1) c) (m+1) ((((Zg l).drop (q*960)).take (m+1)).map V0)) (ho:W.ownsRow B 33 1 (.slice pb n cb) n (((List.range q).map (Bu gs (Zl (Zg l) q)))++[.slice p (m+1) c])) :
 ∃ q2 m2 pl2 cl2 gs2,i+1=q2*960+m2∧m2<960∧((m2=0→n=q2∧pl2=none∧cl2=0)∧(m2≠0→n=q2+1))∧EachS B W (.slice pl2 m2 cl2) gs2 (Zl (Zg l) q2)∧W.ownsRow B 3 1 (.slice pl2 m2 cl2) m2 ((((Zg l).drop (q2*960)).take m2).map V0)∧W.ownsRow B 33 1 (.slice pb n cb) n (((List.range q2).map (Bu gs2 (Zl (Zg l) q2)))++(if m2=0 then [] else [.slice pl2 m2 cl2])):=by
 by_cases h9:m+1=960
 ·have a0:(Vi (Zg l) q).length=m+1:=by rw[Gd,Jl];omega
  obtain⟨gs2,h1,h2⟩:=Zb8 (by omega) (by unfold Vi;rw[h9]) a0 hn hE hl ho
  refine⟨q+1,0,none,0,gs2,by omega,by decide,⟨fun _=>⟨by omega,rfl,rfl⟩,fun q=>absurd rfl q⟩,⟨by rw[h1,Xk],h2.each,fun _ _=>Ko.nil _⟩,World.ownsRow_nil _ _ _ _,?_⟩
  have:=h2.row
  rw[Xk] at this
  subst hn
  simpa using this
 ·exact⟨q,m+1,p,c,gs,by omega,by omega,⟨fun h=>absurd h (by omega),fun _=>by omega⟩,hE,hl,by rw[if_neg (by omega)];exact ho⟩
def RSplitP(l:List Int)(w:World)(e:Ending)(w':World):Prop :=
 (Yu l≠0∧e=.returned (.tuple #[S0,S0,V0 2])∧B3 w w') ∨
 (Yu l=0∧∃ pb cb gs po co,e=.returned (.tuple #[.slice pb (bmN l.length) cb,.slice po (Zm l l.length).length co,V0 0])∧B3 w w'∧Lists w' w.heap.size (.slice pb (bmN l.length) cb) gs (Zl (Zg l) (bmN l.length))∧w'.ownsRow w.heap.size 123 3 (.slice po (Zm l l.length).length co) (Zm l l.length).length ((Zm l l.length).flatMap Yj))
theorem Rb{l:List Int}{i:Nat}(hl:l.length≤65536)(hi:i<l.length)(h:¬ Kw (l.getD i 0)):Yu l≠0:=fun q=>h ((Gk q).2 i hi)
theorem spl_done{B q m c n:Nat}{W:World}{l:List Int}{p:O0}{pb:O0}{cb:Nat}{gs:List (Nat×Nat)}(hq:l.length=q*960+m)(hm:m<960)(hn:(m=0→n=q∧p=none∧c=0)∧(m≠0→n=q+1))(hE:EachS B W (.slice p m c) gs (Zl (Zg l) q))
 (hl:W.ownsRow B 3 1 (.slice p m c) m ((((Zg l).drop (q*960)).take m).map V0)) (ho:W.ownsRow B 33 1 (.slice pb n cb) n (((List.range q).map (Bu gs (Zl (Zg l) q)))++(if m=0 then [] else [.slice p m c]))):n=bmN l.length∧∃ gs2,Lists W B (.slice pb n cb) gs2 (Zl (Zg l) (bmN l.length)):=by
 by_cases h0:m=0
 ·obtain⟨h1,_,_⟩:=hn.1 h0
  have hb:bmN l.length=q:=by unfold bmN;omega
  rw[hb]
  refine⟨h1,gs,?_,hE.each⟩
  rw[Xk]
  rw[if_pos h0,List.append_nil] at ho
  subst h1;exact ho
 ·have h1:=hn.2 h0
  have hb:bmN l.length=q+1:=by unfold bmN;omega
  rw[if_neg h0] at ho
  have a1:(Vi (Zg l) q).length=m:=by rw[Gd,Jl];omega
  have a0:(((Zg l).drop (q*960)).take m)=Vi (Zg l) q:=by
   unfold Vi
   rw[List.take_of_length_le (i:=m) (by simp[Jl];omega),List.take_of_length_le (i:=960) (by simp[Jl];omega)]
  obtain⟨gs2,_,h2⟩:=Zb8 (by omega) a0 a1 h1 hE hl ho
  rw[hb]
  exact⟨h1,gs2,h2⟩
end Go.Proofs.YtegcamkgeacjfaaGreatDoor
