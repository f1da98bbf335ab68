/- The document's answer for layer 25: what a block has. -/
import Derived.Test.YtlmaglneeaecdaaGreatDoorMg5
namespace Go.Proofs.YtlmaglneeaecdaaGreatDoor
set_option maxHeartbeats 8000000
set_option maxRecDepth 100000
open Go.RowKit Go.Extern.Stop Go.Stop Go.Extern
set_option linter.unusedVariables false
attribute [local irreducible] wpList wpAnyH Code.wp Oper.wp Go
theorem Zdi(B bm:Nat)(p:Option Addr)(k c:Nat)(l:List UInt8)(no er:Int)(w:World)(hI:RefI B bm p k c l w) :
 Calls Tryz.prog 98 #[.pointer (some ⟨bm,0,none⟩),.agg #[.int .i64 no,.int .i64 6,.int .i64 er]] w (Zf6 l no 6 w):=by
 refine zin 129 Tryz.func98 ?_
 refine xa 2 [.int .i64 no,.int .i64 6,.int .i64 er] 141 fun b1 W1 n1=>?_
 refine xa 1 [.slice none 0 0,.int .i64 0] 33 fun b2 W2 n2=>?_
 have k1:=n1.blk.below n2.below
 refine xb 6 1 k1 ?_
 refine xb 8 0 k1 ?_
 have hB:=bln n1.below n2.below
 refine xc 0 (args:=#[.pointer (some ⟨bm,0,none⟩),.int .i64 no]) (Tz B bm p k c l no _ (hI.below hB)) ?_
 rintro e W3 hq3
 rcases hq3 with ⟨hie,p9,c9,a9,d9,rfl,hb3,hr9⟩|⟨hie,p9,c9,a9,d9,rfl,hb3,hs⟩
 ·have hs3:=(bln n1.below n2.below).size
  refine xa 3 [.slice none 0 0,.int .i64 0] 33 fun b4 W4 n4=>?_
  have k2:=n2.blk.below hb3
  have d4_b2:=n4.ne k2
  have hB'1:=bln hB hb3
  have g4:=n4.ge hB'1
  refine xsv 1 n4.blk [.slice a9 1 d9,.int .i64 (Xl l no)] fun W5 u5 k5=>?_
  refine xd 3 (.t w.heap.size [33]) ?_
  refine xm2 (.b [0]) 1 2 ?_ ?_
  ·refine yc 0 (args:=#[.slice p9 0 c9]) (.t w.heap.size [33]) (Um p9 c9 [] _ (.inl ⟨_,_,rfl,rfl,rfl⟩) (by decide)) ?_
   rintro _ W6 ⟨_,rfl,hb6,p8,c8,rfl,ho8⟩
   refine⟨(SF.of_below _ hb6),?_⟩
   have k5'1:=(k5.below (Za W5)).below hb6
   refine xlv (.o [3] 2) k5'1.rp ?_
   have k2'1:=((u5.blk (k2.below n4.below) (Ne.symm (Ne.symm d4_b2))).below (Za W5)).below hb6
   have g2:=n2.ge n1.below
   refine ysv (.o [] 4) k2'1 [.slice a9 1 d9,.int .i64 (Xl l no)] (.t w.heap.size [33]) fun W7 u7 k7=>⟨(Zx u7 k2'1 g2 (by decide)),?_⟩
   have hr9'1:=u7.own2 (Zb (Zb (u5.own2 (Zb (Zd hr9 hs3) n4.below) n4.blk (by decide)) (Za W5)) hb6) k2'1 (by decide)
   have hB'2:=u7.below (bln (bln (u5.below (bln hB'1 n4.below) g4) (Za W5)) hb6) g2
   exact xec 4 k7 (.tuple #[.slice p8 0 c8,.agg #[.slice a9 1 d9,.int .i64 (Xl l no)]]) (Bu (Sm l no) hie hB'2 hr9'1)
  have k5'2:=k5.below (Za W5)
  refine xlv 0 k5'2.rp ?_
  refine yc (.o [] 1) (args:=#[.slice p9 0 c9]) (.t w.heap.size [33]) (Um p9 c9 [] _ (.inl ⟨_,_,rfl,rfl,rfl⟩) (by decide)) ?_
  rintro _ W8 ⟨_,rfl,hb8,p8,c8,rfl,ho8⟩
  refine⟨(SF.of_below _ hb8),?_⟩
  have k2'2:=((u5.blk (k2.below n4.below) (Ne.symm (Ne.symm d4_b2))).below (Za W5)).below hb8
  have g2:=n2.ge n1.below
  refine ysv (.o [3] 4) k2'2 [.slice a9 1 d9,.int .i64 (Xl l no)] (.t w.heap.size [33]) fun W9 u9 k9=>⟨(Zx u9 k2'2 g2 (by decide)),?_⟩
  have hr9'2:=u9.own2 (Zb (Zb (u5.own2 (Zb (Zd hr9 hs3) n4.below) n4.blk (by decide)) (Za W5)) hb8) k2'2 (by decide)
  have hB'3:=u9.below (bln (bln (u5.below (bln hB'1 n4.below) g4) (Za W5)) hb8) g2
  exact xec 4 k9 (.tuple #[.slice p8 0 c8,.agg #[.slice a9 1 d9,.int .i64 (Xl l no)]]) (Bu (Sm l no) hie hB'3 hr9'2)
 have hs3:=(bln n1.below n2.below).size
 refine xa 3 [.slice none 0 0,.int .i64 0] 33 fun b10 W10 n10=>?_
 have k2:=n2.blk.below hb3
 have d10_b2:=n10.ne k2
 have hB'4:=bln hB hb3
 have g10:=n10.ge hB'4
 refine xsv 1 n10.blk [.slice a9 0 d9,.int .i64 0] fun W11 u11 k11=>?_
 refine xd 3 (.t w.heap.size [33]) ?_
 refine xm2 (.b [0]) 1 2 ?_ ?_
 ·have hs'1:=Zb (u11.own2 (Zb (Zd hs hs3) n10.below) n10.blk (by decide)) (Za W11)
  refine yc 0 (args:=#[.slice p9 ((Wh l no).length) c9]) (.t w.heap.size [33]) (Um p9 c9 (Wh l no) _ (Ze hs'1) (Nat.le_trans (Bh l no) (by decide))) ?_
  rintro _ W12 ⟨_,rfl,hb12,p8,c8,rfl,ho8⟩
  have hs12:=(bln (u11.below (bln hB'4 n10.below) g10) (Za W11)).size
  refine⟨(SF.of_below _ hb12),?_⟩
  have k11'1:=(k11.below (Za W11)).below hb12
  refine xlv (.o [3] 2) k11'1.rp ?_
  have k2'3:=((u11.blk (k2.below n10.below) (Ne.symm (Ne.symm d10_b2))).below (Za W11)).below hb12
  have g2:=n2.ge n1.below
  refine ysv (.o [] 4) k2'3 [.slice a9 0 d9,.int .i64 0] (.t w.heap.size [33]) fun W13 u13 k13=>⟨(Zx u13 k2'3 g2 (by decide)),?_⟩
  have ho8'1:=u13.own2 (Zd ho8 hs12) k2'3 (by decide)
  have hB'5:=u13.below (bln (bln (u11.below (bln hB'4 n10.below) g10) (Za W11)) hb12) g2
  exact xec 4 k13 (.tuple #[.slice p8 ((Wh l no).length) c8,.agg #[.slice a9 0 d9,.int .i64 0]]) (Sd ((Sm l no).trans hie) (Zhd l no) (List.length_map _) hB'5 ho8'1)
 have k11'2:=k11.below (Za W11)
 refine xlv 0 k11'2.rp ?_
 have hs'2:=Zb (u11.own2 (Zb (Zd hs hs3) n10.below) n10.blk (by decide)) (Za W11)
 refine yc (.o [] 1) (args:=#[.slice p9 ((Wh l no).length) c9]) (.t w.heap.size [33]) (Um p9 c9 (Wh l no) _ (Ze hs'2) (Nat.le_trans (Bh l no) (by decide))) ?_
 rintro _ W14 ⟨_,rfl,hb14,p8,c8,rfl,ho8⟩
 have hs14:=(bln (u11.below (bln hB'4 n10.below) g10) (Za W11)).size
 refine⟨(SF.of_below _ hb14),?_⟩
 have k2'4:=((u11.blk (k2.below n10.below) (Ne.symm (Ne.symm d10_b2))).below (Za W11)).below hb14
 have g2:=n2.ge n1.below
 refine ysv (.o [3] 4) k2'4 [.slice a9 0 d9,.int .i64 0] (.t w.heap.size [33]) fun W15 u15 k15=>⟨(Zx u15 k2'4 g2 (by decide)),?_⟩
 have ho8'2:=u15.own2 (Zd ho8 hs14) k2'4 (by decide)
 have hB'6:=u15.below (bln (bln (u11.below (bln hB'4 n10.below) g10) (Za W11)) hb14) g2
 exact xec 4 k15 (.tuple #[.slice p8 ((Wh l no).length) c8,.agg #[.slice a9 0 d9,.int .i64 0]]) (Sd ((Sm l no).trans hie) (Zhd l no) (List.length_map _) hB'6 ho8'2)
theorem Zdy(B bm:Nat)(p:Option Addr)(k c:Nat)(l:List UInt8)(no er:Int)(w:World)(hI:RefI B bm p k c l w) :
 Calls Tryz.prog 98 #[.pointer (some ⟨bm,0,none⟩),.agg #[.int .i64 no,.int .i64 7,.int .i64 er]] w (Zf6 l no 7 w):=by
 refine zin 129 Tryz.func98 ?_
 refine xa 2 [.int .i64 no,.int .i64 7,.int .i64 er] 141 fun b1 W1 n1=>?_
 refine xa 1 [.slice none 0 0,.int .i64 0] 33 fun b2 W2 n2=>?_
 have k1:=n1.blk.below n2.below
 refine xb 6 1 k1 ?_
 refine xb 10 1 k1 ?_
 refine xb 8 0 k1 ?_
 have hB:=bln n1.below n2.below
 refine xc 0 (args:=#[.pointer (some ⟨bm,0,none⟩),.int .i64 no]) (Ox B bm p k c l no _ (hI.below hB)) ?_
 rintro e W3 hq3
 rcases hq3 with ⟨hie,p9,c9,a9,d9,rfl,hb3,hr9⟩|⟨hie,p9,c9,a9,d9,rfl,hb3,hs⟩
 ·have hs3:=(bln n1.below n2.below).size
  refine xa 3 [.slice none 0 0,.int .i64 0] 33 fun b4 W4 n4=>?_
  have k2:=n2.blk.below hb3
  have d4_b2:=n4.ne k2
  have hB'1:=bln hB hb3
  have g4:=n4.ge hB'1
  refine xsv 1 n4.blk [.slice a9 1 d9,.int .i64 (Xh l no)] fun W5 u5 k5=>?_
  refine xd 3 (.t w.heap.size [33]) ?_
  have k5'1:=k5.below (Za W5)
  refine xlv (.o [1] 0) k5'1.rp ?_
  have k2'1:=(u5.blk (k2.below n4.below) (Ne.symm (Ne.symm d4_b2))).below (Za W5)
  have g2:=n2.ge n1.below
  refine ysv (.o [] 2) k2'1 [.slice a9 1 d9,.int .i64 (Xh l no)] (.t w.heap.size [33]) fun W6 u6 k6=>⟨(Zx u6 k2'1 g2 (by decide)),?_⟩
  have hr9'1:=u6.own2 (Zb (u5.own2 (Zb (Zd hr9 hs3) n4.below) n4.blk (by decide)) (Za W5)) k2'1 (by decide)
  have hB'2:=u6.below (bln (u5.below (bln hB'1 n4.below) g4) (Za W5)) g2
  exact xec 4 k6 (.tuple #[.slice none 0 0,.agg #[.slice a9 1 d9,.int .i64 (Xh l no)]]) (Bu (hasE_7R l no) hie hB'2 hr9'1)
 refine xa 3 [.slice none 0 0,.int .i64 0] 33 fun b7 W7 n7=>?_
 have k2:=n2.blk.below hb3
 have d7_b2:=n7.ne k2
 have hB'3:=bln hB hb3
 have g7:=n7.ge hB'3
 refine xsv 1 n7.blk [.slice a9 0 d9,.int .i64 0] fun W8 u8 k8=>?_
 refine xd 3 (.t w.heap.size [33]) ?_
 have k8'1:=k8.below (Za W8)
 refine xlv (.o [1] 0) k8'1.rp ?_
 have k2'2:=(u8.blk (k2.below n7.below) (Ne.symm (Ne.symm d7_b2))).below (Za W8)
 have g2:=n2.ge n1.below
 refine ysv (.o [] 2) k2'2 [.slice a9 0 d9,.int .i64 0] (.t w.heap.size [33]) fun W9 u9 k9=>⟨(Zx u9 k2'2 g2 (by decide)),?_⟩
 have hB'4:=u9.below (bln (u8.below (bln hB'3 n7.below) g7) (Za W8)) g2
 exact xec 4 k9 (.tuple #[.slice none 0 0,.agg #[.slice a9 0 d9,.int .i64 0]]) (Sd (n:=0) ((hasE_7R l no).trans hie) (hasL_7R l no) rfl hB'4 (World.ownsRow_nil _ _ _ _))
theorem Zds(B bm:Nat)(p:Option Addr)(k c:Nat)(l:List UInt8)(no t er:Int)(w:World)(hI:RefI B bm p k c l w)(h6:t≠6)(h7:t≠7) :
 Calls Tryz.prog 98 #[.pointer (some ⟨bm,0,none⟩),.agg #[.int .i64 no,.int .i64 t,.int .i64 er]] w (Zf6 l no t w):=by
 refine zin 129 Tryz.func98 ?_
 refine xa 2 [.int .i64 no,.int .i64 t,.int .i64 er] 141 fun b1 W1 n1=>?_
 refine xa 1 [.slice none 0 0,.int .i64 0] 33 fun b2 W2 n2=>?_
 have k1:=n1.blk.below n2.below
 refine xb 6 1 k1 ?_
 refine xk 3 (show((t==(6:Int)):Bool)=false from beq_false_of_ne h6) ?_
 refine xb 6 1 k1 ?_
 refine xk 3 (show((t==(7:Int)):Bool)=false from beq_false_of_ne h7) ?_
 refine xb 6 0 k1 ?_
 refine xb 1 1 k1 ?_
 have hB:=bln n1.below n2.below
 refine xc 0 (args:=#[.pointer (some ⟨bm,0,none⟩),.int .i64 no,.int .i64 t]) (Zf8 B bm p k c l no t _ (hI.below hB)) ?_
 rintro e W3 hq3
 rcases hq3 with ⟨hie,a9,d9,rfl,hb3,hr9⟩|⟨hie,kp,kc,vp,vc,rfl,hb3,hks,hvs⟩
 ·have hs3:=(bln n1.below n2.below).size
  refine xa 3 [.int .i64 0,.bool false,.slice none 0 0,.slice none 0 0] 220 fun b4 W4 n4=>?_
  have hB'1:=bln hB hb3
  have g4:=n4.ge hB'1
  refine xa 0 [.slice none 0 0,.int .i64 0] 33 fun b5 W5 n5=>?_
  have k2:=(n2.blk.below hb3).below n4.below
  have d5_b2:=n5.ne k2
  have hB'2:=bln hB'1 n4.below
  have g5:=n5.ge hB'2
  have k4:=n4.blk.below n5.below
  refine xsv 0 k4 [.int .i64 0,.bool false,.slice none 0 0,.slice none 0 0] fun W6 u6 k6=>?_
  have k5:=u6.blkT n5.blk k4 (by decide)
  refine xsv 0 k5 [.slice a9 1 d9,.int .i64 (Xg l no t)] fun W7 u7 k7=>?_
  refine xb 6 1 k7 ?_
  refine xk 3 (show(((Xg l no t) != (0:Int)):Bool)=true from bne_iff_ne.2 hie) ?_
  refine xd 1 (.t w.heap.size [33]) ?_
  have k7'1:=k7.below (Za W7)
  refine xlv (.o [1] 0) k7'1.rp ?_
  have k2'1:=(u7.blk (u6.blkT (k2.below n5.below) k4 (by decide)) (Ne.symm (Ne.symm d5_b2))).below (Za W7)
  have g2:=n2.ge n1.below
  refine ysv (.o [] 2) k2'1 [.slice a9 1 d9,.int .i64 (Xg l no t)] (.t w.heap.size [33]) fun W8 u8 k8=>⟨(Zx u8 k2'1 g2 (by decide)),?_⟩
  have hr9'1:=u8.own2 (Zb (u7.own2 (u6.own2 (Zb (Zb (Zd hr9 hs3) n4.below) n5.below) k4 (by decide)) k5 (by decide)) (Za W7)) k2'1 (by decide)
  have hB'3:=u8.below (bln (u7.below (u6.below (bln hB'2 n5.below) g4) g5) (Za W7)) g2
  exact xec 4 k8 (.tuple #[.slice none 0 0,.agg #[.slice a9 1 d9,.int .i64 (Xg l no t)]]) (Bu (hasE_nR h6 h7) hie hB'3 hr9'1)
 have hs3:=(bln n1.below n2.below).size
 have hC18:=maxC l no t hie
 have hVl:=Kt l no
 refine xa 3 [.int .i64 0,.bool false,.slice none 0 0,.slice none 0 0] 220 fun b9 W9 n9=>?_
 have hB'4:=bln hB hb3
 have g9:=n9.ge hB'4
 refine xa 0 [.slice none 0 0,.int .i64 0] 33 fun b10 W10 n10=>?_
 have k2:=(n2.blk.below hb3).below n9.below
 have d10_b2:=n10.ne k2
 have hB'5:=bln hB'4 n9.below
 have g10:=n10.ge hB'5
 have k9:=n9.blk.below n10.below
 refine xsv 0 k9 [.int .i64 (Xm (inB l no)),.bool (Xr (inB l no)),.slice kp (Xf (inB l no)) kc,.slice vp (Xf (inB l no)) vc] fun W11 u11 k11=>?_
 have k10:=u11.blkT n10.blk k9 (by decide)
 refine xsv 0 k10 [.slice none 0 0,.int .i64 0] fun W12 u12 k12=>?_
 refine xb 6 1 k12 ?_
 refine xv1 18 12 (show(.slice none 0 0:Value)=.slice none ((Xw l no 0).length) 0 from by rw[Dz];rfl) ?_
 have hvs'1:=u12.own2 (u11.own2 (Zb (Zb (Zd hvs hs3) n9.below) n10.below) k9 (by decide)) k10 (by decide)
 have hB'6:=u12.below (u11.below (bln hB'5 n10.below) g9) g10
 have k1'1:=u12.blkT (u11.blkT (((k1.below hb3).below n9.below).below n10.below) k9 (by decide)) k10 (by decide)
 have k2'2:=u12.blk (u11.blkT (k2.below n10.below) k9 (by decide)) (Ne.symm (Ne.symm d10_b2))
 have k11'1:=u12.blkT k11 k10 (by decide)
 refine zl 0 129 (fun zm zkv V=>∃ (i:Nat) (pz:Option Addr) (cz:Nat),zkv=[(3,.pointer (some ⟨b1,0,none⟩)),(4,.slice none 0 0),(5,.pointer (some ⟨b2,0,none⟩)),(10,.pointer (some ⟨b9,0,none⟩)),(12,.slice pz ((Xw l no i).length) cz),(13,.int .i64 (↑i:Int))]∧zm=(Xf (inB l no))-((↑i:Int)).toNat∧Below w.heap.size w V∧Blk V b1 ([.int .i64 no,.int .i64 t,.int .i64 er]) 141∧Blk V b2 ([.slice none 0 0,.int .i64 0]) 33∧Blk V b9 ([.int .i64 (Xm (inB l no)),.bool (Xr (inB l no)),.slice kp (Xf (inB l no)) kc,.slice vp (Xf (inB l no)) vc]) 220∧Blk V b10 ([.slice none 0 0,.int .i64 0]) 33∧V.ownsRow w.heap.size 9 1 (.slice vp (Xf (inB l no)) vc) (Xf (inB l no)) ((Yx l no).map sv)∧V.ownsRow w.heap.size 141 3 (.slice pz (Xw l no i).length cz) (Xw l no i).length ((Xw l no i).flatMap rxC)∧i≤(Xf (inB l no))∧((∀ j,(Value.slice pz (Xw l no i).length cz).ownBlock=some j→j≠b1))) ⟨0,none,0,rfl,rfl,hB'6,k1'1,k2'2,k11'1,k12,hvs'1,(by rw[Dz];exact World.ownsRow_nil _ _ _ _),Nat.zero_le _,?_⟩ ?_
 ·exact fun j hj=>by cases hj
 rintro _ _ W13 ⟨i,pz,cz,rfl,rfl,hB_13,k13_b1,k13_b2,k13_b9,k13_b10,hvs,ho,hi,hsp⟩ J13 hJ13 r13
 have hTl:=Zer l no i
 refine xb 5 3 k13_b9 ?_
 refine xid 4 ((↑i:Int)<(↑(Xf (inB l no)):Int)) (fun hc14=>?_) (fun hc14=>?_)
 ·refine xb 8 1 k13_b9 ?_
  refine xg 1 [64,65] (Xr (inB l no)) (fun hc15=>?_) (fun hc15=>?_)
  ·refine xb 1 0 k13_b9 ?_
   refine xg 3 [68,69,70] ((Xm (inB l no)) != (1:Int)) (fun hc16=>?_) (fun hc16=>?_)
   ·have hc16:=Vq hc16
    refine xb 1 0 k13_b9 ?_
    refine xin 4 (Xm (inB l no)) (4:Int) (fun hc17=>?_) (fun hc17=>?_)
    ·refine xwm 6 ((↑i:Int)+1) (↑(i+1):Int) ?_
     refine xv1 2 12 (show(.slice pz ((Xw l no i).length) cz:Value)=.slice pz ((Xw l no (i+1)).length) cz from by rw[Pa (show Kh (Xm (inB l no)) (Xr (inB l no)) from⟨by assumption,by omega,by omega⟩)]) ?_
     exact ze 0 (hJ13 _ _ _ ⟨i+1,pz,cz,rfl,rfl,hB_13,k13_b1,k13_b2,k13_b9,k13_b10,hvs,(by rw[Pa (show Kh (Xm (inB l no)) (Xr (inB l no)) from⟨by assumption,by omega,by omega⟩)];exact ho),by omega,(by rw[Pa (show Kh (Xm (inB l no)) (Xr (inB l no)) from⟨by assumption,by omega,by omega⟩)];exact hsp)⟩ (by omega))
    refine xb 5 0 k13_b1 ?_
    refine xb 1 0 k13_b9 ?_
    refine xa 1 [.int .i64 0,.int .i64 0,.int .i64 0] 141 fun b18 W18 n18=>?_
    have d18_b1:=n18.ne k13_b1
    have g18:=n18.ge hB_13
    have r18_ho:=Zr ho n18
    refine xsv 0 n18.blk [.int .i64 no,.int .i64 (Xm (inB l no)),.int .i64 0] fun W19 u19 k19=>?_
    have k13_b9'1:=u19.blkT (k13_b9.below n18.below) n18.blk (by decide)
    refine xb 6 1 k13_b9'1 ?_
    refine xgk 1 [81,82] (show((Xr (inB l no)):Bool)=true from hc15) ?_
    refine xb 1 0 k13_b9'1 ?_
    refine xk 4 (show(((Xm (inB l no))==(4:Int)):Bool)=true from beq_iff_eq.2 (by omega)) ?_
    refine xb 3 3 k13_b9'1 ?_
    have hvs'2:=u19.own2 (Zb hvs n18.below) n18.blk (by decide)
    refine xx 1 _ (Xf (inB l no)) i 1 (Strs.elem (Ze hvs'2) (Kt l no) (k:=i) (by omega)).1 ?_
    refine xl 0 ((Strs.elem (Ze hvs'2) (Kt l no) (k:=i) (by omega)).2) ?_
    refine xr 0 (args:=#[.string ⟨((Yx l no).getD i []).toArray⟩]) (Wf ((Yx l no).getD i []) _ (Hw _ _ i)) fun W21 hb21=>?_
    refine xa 3 [.int .i64 0,.int .i64 0,.int .i64 0] 191 fun b22 W22 n22=>?_
    have hB'7:=bln (u19.below (bln hB_13 n18.below) g18) hb21
    have g22:=n22.ge hB'7
    refine xsv 0 n22.blk [.int .i64 (↑((Yb Zy ((Yx l no).getD i [])).getD 0 0):Int),.int .i64 (↑((Yb Zy ((Yx l no).getD i [])).getD 1 0):Int),.int .i64 (↑((Yb Zy ((Yx l no).getD i [])).getD 2 0):Int)] fun W23 u23 k23=>?_
    refine xb 5 0 k23 ?_
    have k19'1:=u23.blkT ((k19.below hb21).below n22.below) n22.blk (by decide)
    refine xsv 2 k19'1 [.int .i64 (↑((Yb Zy ((Yx l no).getD i [])).getD 0 0):Int),.int .i64 7,.int .i64 (Xk Zy ((Yx l no).getD i []))] fun W24 u24 k24=>?_
    refine xb 6 2 k24 ?_
    refine xin 3 (Xk Zy ((Yx l no).getD i [])) (0:Int) (fun hc25=>?_) (fun hc25=>?_)
    ·have k13_b1'1:=u24.blk (u23.blkT (((u19.blk (k13_b1.below n18.below) (Ne.symm (Ne.symm d18_b1))).below hb21).below n22.below) n22.blk (by decide)) (Ne.symm (Ne.symm d18_b1))
     refine xb 2 0 k13_b1'1 ?_
     refine xs 1 k24 [.int .i64 no,.int .i64 7,.int .i64 (Xk Zy ((Yx l no).getD i []))] fun W26 u26 k26=>?_
     refine xlv 4 k26.rp ?_
     refine xbs 0 1 [.int .i64 no,.int .i64 7,.int .i64 (Xk Zy ((Yx l no).getD i []))] 141 fun b27 W27 n27=>?_
     have k13_b1'2:=u26.blk k13_b1'1 (Ne.symm (Ne.symm d18_b1))
     have d27_b1:=n27.ne k13_b1'2
     have d27_b18:=n27.ne k26
     have hB'8:=u26.below (u24.below (u23.below (bln hB'7 n22.below) g22) g18) g18
     have g27:=n27.ge hB'8
     have ho'1:=u26.own3 (u24.own3 (u23.own2 (Zb (Zb (u19.own3 (Zb ho n18.below) r18_ho) hb21) n22.below) n22.blk (by decide)) r18_ho) r18_ho
     have r27_ho:=Zr ho'1 n27
     have k13_b1'3:=k13_b1'2.below n27.below
     have hl1:=(k13_b1'3).lt
     have ho'2:=Zb ho'1 n27.below
     have hB'9:=bln hB'8 n27.below
     refine xbi 0 fun _ _ _ _ zJ zQ zo zx zy zK=>Hl (b:=b27) (c:=1) (m:=1) (news:=[.int .i64 no,.int .i64 7,.int .i64 (Xk Zy ((Yx l no).getD i []))]) (.agg #[.int .i64 0,.int .i64 0,.int .i64 0]) 3 24 ((Xw l no (i+1)).length) (((Xw l no (i+1)).flatMap rxC)) zo Tryz.underlying142 (by kernel_rfl) rfl (by decide) zx ho'2 zy n27.blk rfl (by simp[Value.oneCell']) (by unfold maxLen;omega) (by omega) hB'9.size (by rw[Xu (by omega) (show ¬ Kh (Xm (inB l no)) (Xr (inB l no)) from fun q=>by obtain⟨q1,q2,q3⟩:=q;first|omega|exact absurd (q1.symm.trans (show(Xr (inB l no))=false by assumption)) (by decide)),List.length_append];rfl) (by rw[Xu (by omega) (show ¬ Kh (Xm (inB l no)) (Xr (inB l no)) from fun q=>by obtain⟨q1,q2,q3⟩:=q;first|omega|exact absurd (q1.symm.trans (show(Xr (inB l no))=false by assumption)) (by decide)),List.flatMap_append,List.flatMap_cons,List.flatMap_nil,List.append_nil];first|rw[Me (by assumption) (by omega) (by omega)]|rw[Uv (by assumption) (by omega) (by omega)]|rw[Us (by assumption) (by omega) (by omega)]|rw[Hi (by assumption) (by omega) (by omega)]|rw[Un (by assumption) (by omega)]|rw[Jv (by assumption) (by omega)]) fun px28 cx28 W28 o28 hg28 hb28 ha28=>?_
     refine zK _ _ ?_
     refine xwm 6 ((↑i:Int)+1) (↑(i+1):Int) ?_
     have hB'10:=hB'9.trans hb28
     have k13_b1'4:=k13_b1'3.grown3 hg28 hsp
     have k13_b2'1:=((u26.blkT (u24.blkT (u23.blkT (((u19.blkT (k13_b2.below n18.below) n18.blk (by decide)).below hb21).below n22.below) n22.blk (by decide)) k19'1 (by decide)) k24 (by decide)).below n27.below).grown hg28 ho'2 (by decide)
     have k13_b9'2:=((u26.blkT (u24.blkT (u23.blkT ((k13_b9'1.below hb21).below n22.below) n22.blk (by decide)) k19'1 (by decide)) k24 (by decide)).below n27.below).grown hg28 ho'2 (by decide)
     have k13_b10'1:=((u26.blkT (u24.blkT (u23.blkT (((u19.blkT (k13_b10.below n18.below) n18.blk (by decide)).below hb21).below n22.below) n22.blk (by decide)) k19'1 (by decide)) k24 (by decide)).below n27.below).grown hg28 ho'2 (by decide)
     have hvs'3:=Xc (Zb (u26.own2 (u24.own2 (u23.own2 (Zb (Zb hvs'2 hb21) n22.below) n22.blk (by decide)) k19'1 (by decide)) k24 (by decide)) n27.below) hg28 ho'2 (by decide)
     exact ze 2 (hJ13 _ _ _ ⟨i+1,_,_,rfl,rfl,hB'10,k13_b1'4,k13_b2'1,k13_b9'2,k13_b10'1,hvs'3,o28,by omega,(fun j hj=>ha28.elim (fun q=>hsp j (q.symm.trans hj)) (fun q=>by have e:=Option.some.inj (q.symm.trans hj);omega))⟩ (by omega))
    refine xlv 4 k24.rp ?_
    refine xbs 0 1 [.int .i64 (↑((Yb Zy ((Yx l no).getD i [])).getD 0 0):Int),.int .i64 7,.int .i64 (Xk Zy ((Yx l no).getD i []))] 141 fun b29 W29 n29=>?_
    have k13_b1'5:=u24.blk (u23.blkT (((u19.blk (k13_b1.below n18.below) (Ne.symm (Ne.symm d18_b1))).below hb21).below n22.below) n22.blk (by decide)) (Ne.symm (Ne.symm d18_b1))
    have d29_b1:=n29.ne k13_b1'5
    have d29_b18:=n29.ne k24
    have hB'11:=u24.below (u23.below (bln hB'7 n22.below) g22) g18
    have g29:=n29.ge hB'11
    have ho'3:=u24.own3 (u23.own2 (Zb (Zb (u19.own3 (Zb ho n18.below) r18_ho) hb21) n22.below) n22.blk (by decide)) r18_ho
    have r29_ho:=Zr ho'3 n29
    have k13_b1'6:=k13_b1'5.below n29.below
    have hl1:=(k13_b1'6).lt
    have ho'4:=Zb ho'3 n29.below
    have hB'12:=bln hB'11 n29.below
    refine xbi 0 fun _ _ _ _ zJ zQ zo zx zy zK=>Hl (b:=b29) (c:=1) (m:=1) (news:=[.int .i64 (↑((Yb Zy ((Yx l no).getD i [])).getD 0 0):Int),.int .i64 7,.int .i64 (Xk Zy ((Yx l no).getD i []))]) (.agg #[.int .i64 0,.int .i64 0,.int .i64 0]) 3 24 ((Xw l no (i+1)).length) (((Xw l no (i+1)).flatMap rxC)) zo Tryz.underlying142 (by kernel_rfl) rfl (by decide) zx ho'4 zy n29.blk rfl (by simp[Value.oneCell']) (by unfold maxLen;omega) (by omega) hB'12.size (by rw[Xu (by omega) (show ¬ Kh (Xm (inB l no)) (Xr (inB l no)) from fun q=>by obtain⟨q1,q2,q3⟩:=q;first|omega|exact absurd (q1.symm.trans (show(Xr (inB l no))=false by assumption)) (by decide)),List.length_append];rfl) (by rw[Xu (by omega) (show ¬ Kh (Xm (inB l no)) (Xr (inB l no)) from fun q=>by obtain⟨q1,q2,q3⟩:=q;first|omega|exact absurd (q1.symm.trans (show(Xr (inB l no))=false by assumption)) (by decide)),List.flatMap_append,List.flatMap_cons,List.flatMap_nil,List.append_nil];first|rw[Me (by assumption) (by omega) (by omega)]|rw[Uv (by assumption) (by omega) (by omega)]|rw[Us (by assumption) (by omega) (by omega)]|rw[Hi (by assumption) (by omega) (by omega)]|rw[Un (by assumption) (by omega)]|rw[Jv (by assumption) (by omega)]) fun px30 cx30 W30 o30 hg30 hb30 ha30=>?_
    refine zK _ _ ?_
    refine xwm 6 ((↑i:Int)+1) (↑(i+1):Int) ?_
    have hB'13:=hB'12.trans hb30
    have k13_b1'7:=k13_b1'6.grown3 hg30 hsp
    have k13_b2'2:=((u24.blkT (u23.blkT (((u19.blkT (k13_b2.below n18.below) n18.blk (by decide)).below hb21).below n22.below) n22.blk (by decide)) k19'1 (by decide)).below n29.below).grown hg30 ho'4 (by decide)
    have k13_b9'3:=((u24.blkT (u23.blkT ((k13_b9'1.below hb21).below n22.below) n22.blk (by decide)) k19'1 (by decide)).below n29.below).grown hg30 ho'4 (by decide)
    have k13_b10'2:=((u24.blkT (u23.blkT (((u19.blkT (k13_b10.below n18.below) n18.blk (by decide)).below hb21).below n22.below) n22.blk (by decide)) k19'1 (by decide)).below n29.below).grown hg30 ho'4 (by decide)
    have hvs'4:=Xc (Zb (u24.own2 (u23.own2 (Zb (Zb hvs'2 hb21) n22.below) n22.blk (by decide)) k19'1 (by decide)) n29.below) hg30 ho'4 (by decide)
    exact ze 2 (hJ13 _ _ _ ⟨i+1,_,_,rfl,rfl,hB'13,k13_b1'7,k13_b2'2,k13_b9'3,k13_b10'2,hvs'4,o30,by omega,(fun j hj=>ha30.elim (fun q=>hsp j (q.symm.trans hj)) (fun q=>by have e:=Option.some.inj (q.symm.trans hj);omega))⟩ (by omega))
   have hc16:=Xp hc16
   refine xb 12 0 k13_b1 ?_
   refine xb 1 0 k13_b9 ?_
   refine xa 1 [.int .i64 0,.int .i64 0,.int .i64 0] 141 fun b31 W31 n31=>?_
   have d31_b1:=n31.ne k13_b1
   have g31:=n31.ge hB_13
   have r31_ho:=Zr ho n31
   refine xsv 0 n31.blk [.int .i64 no,.int .i64 (Xm (inB l no)),.int .i64 0] fun W32 u32 k32=>?_
   have k13_b9'4:=u32.blkT (k13_b9.below n31.below) n31.blk (by decide)
   refine xb 6 1 k13_b9'4 ?_
   refine xgk 1 [81,82] (show((Xr (inB l no)):Bool)=true from hc15) ?_
   refine xb 1 0 k13_b9'4 ?_
   refine xk 4 (show(((Xm (inB l no))==(4:Int)):Bool)=false from beq_false_of_ne (by omega)) ?_
   refine xb 3 3 k13_b9'4 ?_
   have hvs'5:=u32.own2 (Zb hvs n31.below) n31.blk (by decide)
   refine xx 1 _ (Xf (inB l no)) i 1 (Strs.elem (Ze hvs'5) (Kt l no) (k:=i) (by omega)).1 ?_
   refine xl 0 ((Strs.elem (Ze hvs'5) (Kt l no) (k:=i) (by omega)).2) ?_
   refine xr 0 (args:=#[.string ⟨((Yx l no).getD i []).toArray⟩]) (Rj ((Yx l no).getD i []) _ (Hw _ _ i)) fun W34 hb34=>?_
   have k13_b9'5:=k13_b9'4.below hb34
   refine xb 11 0 k13_b9'5 ?_
   have k32'1:=k32.below hb34
   refine xsv 2 k32'1 [.int .i64 (↑(Vg ((Yx l no).getD i [])):Int),.int .i64 (Xm (inB l no)),.int .i64 (Xx ((Yx l no).getD i []))] fun W35 u35 k35=>?_
   have k13_b9'6:=u35.blkT k13_b9'5 k32'1 (by decide)
   refine xb 5 1 k13_b9'6 ?_
   refine xk 2 (show((Xr (inB l no)):Bool)=true from hc15) ?_
   refine xs 2 k35 [.int .i64 (↑(Vg ((Yx l no).getD i [])):Int),.int .i64 2,.int .i64 (Xx ((Yx l no).getD i []))] fun W36 u36 k36=>?_
   refine xb 6 2 k36 ?_
   refine xin 3 (Xx ((Yx l no).getD i [])) (0:Int) (fun hc37=>?_) (fun hc37=>?_)
   ·have k13_b1'8:=u36.blk (u35.blk ((u32.blk (k13_b1.below n31.below) (Ne.symm (Ne.symm d31_b1))).below hb34) (Ne.symm (Ne.symm d31_b1))) (Ne.symm (Ne.symm d31_b1))
    refine xb 2 0 k13_b1'8 ?_
    refine xs 1 k36 [.int .i64 no,.int .i64 2,.int .i64 (Xx ((Yx l no).getD i []))] fun W38 u38 k38=>?_
    refine xlv 4 k38.rp ?_
    refine xbs 0 1 [.int .i64 no,.int .i64 2,.int .i64 (Xx ((Yx l no).getD i []))] 141 fun b39 W39 n39=>?_
    have k13_b1'9:=u38.blk k13_b1'8 (Ne.symm (Ne.symm d31_b1))
    have d39_b1:=n39.ne k13_b1'9
    have d39_b31:=n39.ne k38
    have hB'14:=u38.below (u36.below (u35.below (bln (u32.below (bln hB_13 n31.below) g31) hb34) g31) g31) g31
    have g39:=n39.ge hB'14
    have ho'5:=u38.own3 (u36.own3 (u35.own3 (Zb (u32.own3 (Zb ho n31.below) r31_ho) hb34) r31_ho) r31_ho) r31_ho
    have r39_ho:=Zr ho'5 n39
    have k13_b1'10:=k13_b1'9.below n39.below
    have hl1:=(k13_b1'10).lt
    have ho'6:=Zb ho'5 n39.below
    have hB'15:=bln hB'14 n39.below
    refine xbi 0 fun _ _ _ _ zJ zQ zo zx zy zK=>Hl (b:=b39) (c:=1) (m:=1) (news:=[.int .i64 no,.int .i64 2,.int .i64 (Xx ((Yx l no).getD i []))]) (.agg #[.int .i64 0,.int .i64 0,.int .i64 0]) 3 24 ((Xw l no (i+1)).length) (((Xw l no (i+1)).flatMap rxC)) zo Tryz.underlying142 (by kernel_rfl) rfl (by decide) zx ho'6 zy n39.blk rfl (by simp[Value.oneCell']) (by unfold maxLen;omega) (by omega) hB'15.size (by rw[Xu (by omega) (show ¬ Kh (Xm (inB l no)) (Xr (inB l no)) from fun q=>by obtain⟨q1,q2,q3⟩:=q;first|omega|exact absurd (q1.symm.trans (show(Xr (inB l no))=false by assumption)) (by decide)),List.length_append];rfl) (by rw[Xu (by omega) (show ¬ Kh (Xm (inB l no)) (Xr (inB l no)) from fun q=>by obtain⟨q1,q2,q3⟩:=q;first|omega|exact absurd (q1.symm.trans (show(Xr (inB l no))=false by assumption)) (by decide)),List.flatMap_append,List.flatMap_cons,List.flatMap_nil,List.append_nil];first|rw[Me (by assumption) (by omega) (by omega)]|rw[Uv (by assumption) (by omega) (by omega)]|rw[Us (by assumption) (by omega) (by omega)]|rw[Hi (by assumption) (by omega) (by omega)]|rw[Un (by assumption) (by omega)]|rw[Jv (by assumption) (by omega)]) fun px40 cx40 W40 o40 hg40 hb40 ha40=>?_
    refine zK _ _ ?_
    refine xwm 6 ((↑i:Int)+1) (↑(i+1):Int) ?_
    have hB'16:=hB'15.trans hb40
    have k13_b1'11:=k13_b1'10.grown3 hg40 hsp
    have k13_b2'3:=((u38.blkT (u36.blkT (u35.blkT ((u32.blkT (k13_b2.below n31.below) n31.blk (by decide)).below hb34) k32'1 (by decide)) k35 (by decide)) k36 (by decide)).below n39.below).grown hg40 ho'6 (by decide)
    have k13_b9'7:=((u38.blkT (u36.blkT k13_b9'6 k35 (by decide)) k36 (by decide)).below n39.below).grown hg40 ho'6 (by decide)
    have k13_b10'3:=((u38.blkT (u36.blkT (u35.blkT ((u32.blkT (k13_b10.below n31.below) n31.blk (by decide)).below hb34) k32'1 (by decide)) k35 (by decide)) k36 (by decide)).below n39.below).grown hg40 ho'6 (by decide)
    have hvs'6:=Xc (Zb (u38.own2 (u36.own2 (u35.own2 (Zb hvs'5 hb34) k32'1 (by decide)) k35 (by decide)) k36 (by decide)) n39.below) hg40 ho'6 (by decide)
    exact ze 2 (hJ13 _ _ _ ⟨i+1,_,_,rfl,rfl,hB'16,k13_b1'11,k13_b2'3,k13_b9'7,k13_b10'3,hvs'6,o40,by omega,(fun j hj=>ha40.elim (fun q=>hsp j (q.symm.trans hj)) (fun q=>by have e:=Option.some.inj (q.symm.trans hj);omega))⟩ (by omega))
   refine xlv 4 k36.rp ?_
   refine xbs 0 1 [.int .i64 (↑(Vg ((Yx l no).getD i [])):Int),.int .i64 2,.int .i64 (Xx ((Yx l no).getD i []))] 141 fun b41 W41 n41=>?_
   have k13_b1'12:=u36.blk (u35.blk ((u32.blk (k13_b1.below n31.below) (Ne.symm (Ne.symm d31_b1))).below hb34) (Ne.symm (Ne.symm d31_b1))) (Ne.symm (Ne.symm d31_b1))
   have d41_b1:=n41.ne k13_b1'12
   have d41_b31:=n41.ne k36
   have hB'17:=u36.below (u35.below (bln (u32.below (bln hB_13 n31.below) g31) hb34) g31) g31
   have g41:=n41.ge hB'17
   have ho'7:=u36.own3 (u35.own3 (Zb (u32.own3 (Zb ho n31.below) r31_ho) hb34) r31_ho) r31_ho
   have r41_ho:=Zr ho'7 n41
   have k13_b1'13:=k13_b1'12.below n41.below
   have hl1:=(k13_b1'13).lt
   have ho'8:=Zb ho'7 n41.below
   have hB'18:=bln hB'17 n41.below
   refine xbi 0 fun _ _ _ _ zJ zQ zo zx zy zK=>Hl (b:=b41) (c:=1) (m:=1) (news:=[.int .i64 (↑(Vg ((Yx l no).getD i [])):Int),.int .i64 2,.int .i64 (Xx ((Yx l no).getD i []))]) (.agg #[.int .i64 0,.int .i64 0,.int .i64 0]) 3 24 ((Xw l no (i+1)).length) (((Xw l no (i+1)).flatMap rxC)) zo Tryz.underlying142 (by kernel_rfl) rfl (by decide) zx ho'8 zy n41.blk rfl (by simp[Value.oneCell']) (by unfold maxLen;omega) (by omega) hB'18.size (by rw[Xu (by omega) (show ¬ Kh (Xm (inB l no)) (Xr (inB l no)) from fun q=>by obtain⟨q1,q2,q3⟩:=q;first|omega|exact absurd (q1.symm.trans (show(Xr (inB l no))=false by assumption)) (by decide)),List.length_append];rfl) (by rw[Xu (by omega) (show ¬ Kh (Xm (inB l no)) (Xr (inB l no)) from fun q=>by obtain⟨q1,q2,q3⟩:=q;first|omega|exact absurd (q1.symm.trans (show(Xr (inB l no))=false by assumption)) (by decide)),List.flatMap_append,List.flatMap_cons,List.flatMap_nil,List.append_nil];first|rw[Me (by assumption) (by omega) (by omega)]|rw[Uv (by assumption) (by omega) (by omega)]|rw[Us (by assumption) (by omega) (by omega)]|rw[Hi (by assumption) (by omega) (by omega)]|rw[Un (by assumption) (by omega)]|rw[Jv (by assumption) (by omega)]) fun px42 cx42 W42 o42 hg42 hb42 ha42=>?_
   refine zK _ _ ?_
   refine xwm 6 ((↑i:Int)+1) (↑(i+1):Int) ?_
   have hB'19:=hB'18.trans hb42
   have k13_b1'14:=k13_b1'13.grown3 hg42 hsp
   have k13_b2'4:=((u36.blkT (u35.blkT ((u32.blkT (k13_b2.below n31.below) n31.blk (by decide)).below hb34) k32'1 (by decide)) k35 (by decide)).below n41.below).grown hg42 ho'8 (by decide)
   have k13_b9'8:=((u36.blkT k13_b9'6 k35 (by decide)).below n41.below).grown hg42 ho'8 (by decide)
   have k13_b10'4:=((u36.blkT (u35.blkT ((u32.blkT (k13_b10.below n31.below) n31.blk (by decide)).below hb34) k32'1 (by decide)) k35 (by decide)).below n41.below).grown hg42 ho'8 (by decide)
   have hvs'7:=Xc (Zb (u36.own2 (u35.own2 (Zb hvs'5 hb34) k32'1 (by decide)) k35 (by decide)) n41.below) hg42 ho'8 (by decide)
   exact ze 2 (hJ13 _ _ _ ⟨i+1,_,_,rfl,rfl,hB'19,k13_b1'14,k13_b2'4,k13_b9'8,k13_b10'4,hvs'7,o42,by omega,(fun j hj=>ha42.elim (fun q=>hsp j (q.symm.trans hj)) (fun q=>by have e:=Option.some.inj (q.symm.trans hj);omega))⟩ (by omega))
  refine xb 17 0 k13_b1 ?_
  refine xb 1 0 k13_b9 ?_
  refine xa 1 [.int .i64 0,.int .i64 0,.int .i64 0] 141 fun b43 W43 n43=>?_
  have d43_b1:=n43.ne k13_b1
  have g43:=n43.ge hB_13
  have r43_ho:=Zr ho n43
  refine xsv 0 n43.blk [.int .i64 no,.int .i64 (Xm (inB l no)),.int .i64 0] fun W44 u44 k44=>?_
  have k13_b9'9:=u44.blkT (k13_b9.below n43.below) n43.blk (by decide)
  refine xb 6 1 k13_b9'9 ?_
  refine xgk 1 [81,82] (show((Xr (inB l no)):Bool)=false from hc15) ?_
  refine xb 10 3 k13_b9'9 ?_
  have hvs'8:=u44.own2 (Zb hvs n43.below) n43.blk (by decide)
  refine xx 1 _ (Xf (inB l no)) i 1 (Strs.elem (Ze hvs'8) (Kt l no) (k:=i) (by omega)).1 ?_
  refine xl 0 ((Strs.elem (Ze hvs'8) (Kt l no) (k:=i) (by omega)).2) ?_
  refine xr 0 (args:=#[.string ⟨((Yx l no).getD i []).toArray⟩]) (Rj ((Yx l no).getD i []) _ (Hw _ _ i)) fun W46 hb46=>?_
  have k13_b9'10:=k13_b9'9.below hb46
  refine xb 11 0 k13_b9'10 ?_
  have k44'1:=k44.below hb46
  refine xsv 2 k44'1 [.int .i64 (↑(Vg ((Yx l no).getD i [])):Int),.int .i64 (Xm (inB l no)),.int .i64 (Xx ((Yx l no).getD i []))] fun W47 u47 k47=>?_
  have k13_b9'11:=u47.blkT k13_b9'10 k44'1 (by decide)
  refine xb 5 1 k13_b9'11 ?_
  refine xk 2 (show((Xr (inB l no)):Bool)=false from hc15) ?_
  refine xb 6 2 k47 ?_
  refine xin 3 (Xx ((Yx l no).getD i [])) (0:Int) (fun hc48=>?_) (fun hc48=>?_)
  ·have k13_b1'15:=u47.blk ((u44.blk (k13_b1.below n43.below) (Ne.symm (Ne.symm d43_b1))).below hb46) (Ne.symm (Ne.symm d43_b1))
   refine xb 2 0 k13_b1'15 ?_
   refine xs 1 k47 [.int .i64 no,.int .i64 (Xm (inB l no)),.int .i64 (Xx ((Yx l no).getD i []))] fun W49 u49 k49=>?_
   refine xlv 4 k49.rp ?_
   refine xbs 0 1 [.int .i64 no,.int .i64 (Xm (inB l no)),.int .i64 (Xx ((Yx l no).getD i []))] 141 fun b50 W50 n50=>?_
   have k13_b1'16:=u49.blk k13_b1'15 (Ne.symm (Ne.symm d43_b1))
   have d50_b1:=n50.ne k13_b1'16
   have d50_b43:=n50.ne k49
   have hB'20:=u49.below (u47.below (bln (u44.below (bln hB_13 n43.below) g43) hb46) g43) g43
   have g50:=n50.ge hB'20
   have ho'9:=u49.own3 (u47.own3 (Zb (u44.own3 (Zb ho n43.below) r43_ho) hb46) r43_ho) r43_ho
   have r50_ho:=Zr ho'9 n50
   have k13_b1'17:=k13_b1'16.below n50.below
   have hl1:=(k13_b1'17).lt
   have ho'10:=Zb ho'9 n50.below
   have hB'21:=bln hB'20 n50.below
   refine xbi 0 fun _ _ _ _ zJ zQ zo zx zy zK=>Hl (b:=b50) (c:=1) (m:=1) (news:=[.int .i64 no,.int .i64 (Xm (inB l no)),.int .i64 (Xx ((Yx l no).getD i []))]) (.agg #[.int .i64 0,.int .i64 0,.int .i64 0]) 3 24 ((Xw l no (i+1)).length) (((Xw l no (i+1)).flatMap rxC)) zo Tryz.underlying142 (by kernel_rfl) rfl (by decide) zx ho'10 zy n50.blk rfl (by simp[Value.oneCell']) (by unfold maxLen;omega) (by omega) hB'21.size (by rw[Xu (by omega) (show ¬ Kh (Xm (inB l no)) (Xr (inB l no)) from fun q=>by obtain⟨q1,q2,q3⟩:=q;first|omega|exact absurd (q1.symm.trans (show(Xr (inB l no))=false by assumption)) (by decide)),List.length_append];rfl) (by rw[Xu (by omega) (show ¬ Kh (Xm (inB l no)) (Xr (inB l no)) from fun q=>by obtain⟨q1,q2,q3⟩:=q;first|omega|exact absurd (q1.symm.trans (show(Xr (inB l no))=false by assumption)) (by decide)),List.flatMap_append,List.flatMap_cons,List.flatMap_nil,List.append_nil];first|rw[Me (by assumption) (by omega) (by omega)]|rw[Uv (by assumption) (by omega) (by omega)]|rw[Us (by assumption) (by omega) (by omega)]|rw[Hi (by assumption) (by omega) (by omega)]|rw[Un (by assumption) (by omega)]|rw[Jv (by assumption) (by omega)]) fun px51 cx51 W51 o51 hg51 hb51 ha51=>?_
   refine zK _ _ ?_
   refine xwm 6 ((↑i:Int)+1) (↑(i+1):Int) ?_
   have hB'22:=hB'21.trans hb51
   have k13_b1'18:=k13_b1'17.grown3 hg51 hsp
   have k13_b2'5:=((u49.blkT (u47.blkT ((u44.blkT (k13_b2.below n43.below) n43.blk (by decide)).below hb46) k44'1 (by decide)) k47 (by decide)).below n50.below).grown hg51 ho'10 (by decide)
   have k13_b9'12:=((u49.blkT k13_b9'11 k47 (by decide)).below n50.below).grown hg51 ho'10 (by decide)
   have k13_b10'5:=((u49.blkT (u47.blkT ((u44.blkT (k13_b10.below n43.below) n43.blk (by decide)).below hb46) k44'1 (by decide)) k47 (by decide)).below n50.below).grown hg51 ho'10 (by decide)
   have hvs'9:=Xc (Zb (u49.own2 (u47.own2 (Zb hvs'8 hb46) k44'1 (by decide)) k47 (by decide)) n50.below) hg51 ho'10 (by decide)
   exact ze 2 (hJ13 _ _ _ ⟨i+1,_,_,rfl,rfl,hB'22,k13_b1'18,k13_b2'5,k13_b9'12,k13_b10'5,hvs'9,o51,by omega,(fun j hj=>ha51.elim (fun q=>hsp j (q.symm.trans hj)) (fun q=>by have e:=Option.some.inj (q.symm.trans hj);omega))⟩ (by omega))
  refine xlv 4 k47.rp ?_
  refine xbs 0 1 [.int .i64 (↑(Vg ((Yx l no).getD i [])):Int),.int .i64 (Xm (inB l no)),.int .i64 (Xx ((Yx l no).getD i []))] 141 fun b52 W52 n52=>?_
  have k13_b1'19:=u47.blk ((u44.blk (k13_b1.below n43.below) (Ne.symm (Ne.symm d43_b1))).below hb46) (Ne.symm (Ne.symm d43_b1))
  have d52_b1:=n52.ne k13_b1'19
  have d52_b43:=n52.ne k47
  have hB'23:=u47.below (bln (u44.below (bln hB_13 n43.below) g43) hb46) g43
  have g52:=n52.ge hB'23
  have ho'11:=u47.own3 (Zb (u44.own3 (Zb ho n43.below) r43_ho) hb46) r43_ho
  have r52_ho:=Zr ho'11 n52
  have k13_b1'20:=k13_b1'19.below n52.below
  have hl1:=(k13_b1'20).lt
  have ho'12:=Zb ho'11 n52.below
  have hB'24:=bln hB'23 n52.below
  refine xbi 0 fun _ _ _ _ zJ zQ zo zx zy zK=>Hl (b:=b52) (c:=1) (m:=1) (news:=[.int .i64 (↑(Vg ((Yx l no).getD i [])):Int),.int .i64 (Xm (inB l no)),.int .i64 (Xx ((Yx l no).getD i []))]) (.agg #[.int .i64 0,.int .i64 0,.int .i64 0]) 3 24 ((Xw l no (i+1)).length) (((Xw l no (i+1)).flatMap rxC)) zo Tryz.underlying142 (by kernel_rfl) rfl (by decide) zx ho'12 zy n52.blk rfl (by simp[Value.oneCell']) (by unfold maxLen;omega) (by omega) hB'24.size (by rw[Xu (by omega) (show ¬ Kh (Xm (inB l no)) (Xr (inB l no)) from fun q=>by obtain⟨q1,q2,q3⟩:=q;first|omega|exact absurd (q1.symm.trans (show(Xr (inB l no))=false by assumption)) (by decide)),List.length_append];rfl) (by rw[Xu (by omega) (show ¬ Kh (Xm (inB l no)) (Xr (inB l no)) from fun q=>by obtain⟨q1,q2,q3⟩:=q;first|omega|exact absurd (q1.symm.trans (show(Xr (inB l no))=false by assumption)) (by decide)),List.flatMap_append,List.flatMap_cons,List.flatMap_nil,List.append_nil];first|rw[Me (by assumption) (by omega) (by omega)]|rw[Uv (by assumption) (by omega) (by omega)]|rw[Us (by assumption) (by omega) (by omega)]|rw[Hi (by assumption) (by omega) (by omega)]|rw[Un (by assumption) (by omega)]|rw[Jv (by assumption) (by omega)]) fun px53 cx53 W53 o53 hg53 hb53 ha53=>?_
  refine zK _ _ ?_
  refine xwm 6 ((↑i:Int)+1) (↑(i+1):Int) ?_
  have hB'25:=hB'24.trans hb53
  have k13_b1'21:=k13_b1'20.grown3 hg53 hsp
  have k13_b2'6:=((u47.blkT ((u44.blkT (k13_b2.below n43.below) n43.blk (by decide)).below hb46) k44'1 (by decide)).below n52.below).grown hg53 ho'12 (by decide)
  have k13_b9'13:=(k13_b9'11.below n52.below).grown hg53 ho'12 (by decide)
  have k13_b10'6:=((u47.blkT ((u44.blkT (k13_b10.below n43.below) n43.blk (by decide)).below hb46) k44'1 (by decide)).below n52.below).grown hg53 ho'12 (by decide)
  have hvs'10:=Xc (Zb (u47.own2 (Zb hvs'8 hb46) k44'1 (by decide)) n52.below) hg53 ho'12 (by decide)
  exact ze 2 (hJ13 _ _ _ ⟨i+1,_,_,rfl,rfl,hB'25,k13_b1'21,k13_b2'6,k13_b9'13,k13_b10'6,hvs'10,o53,by omega,(fun j hj=>ha53.elim (fun q=>hsp j (q.symm.trans hj)) (fun q=>by have e:=Option.some.inj (q.symm.trans hj);omega))⟩ (by omega))
 refine xsv 10 k13_b2 [.slice none 0 0,.int .i64 0] fun W54 u54 k54=>?_
 have g2:=n2.ge n1.below
 have ho'13:=u54.own2 ho k13_b2 (by decide)
 have hB'26:=u54.below hB_13 g2
 refine xec 3 k54 (.tuple #[.slice pz ((Xw l no i).length) cz,.agg #[.slice none 0 0,.int .i64 0]]) ?_
 have e9:=Zde (l:=l) (no:=no) (i:=i) (by omega)
 exact Sd ((hasE_nR h6 h7).trans hie) ((hasL_nR h6 h7).trans e9.symm) rfl hB'26 ho'13
theorem ref25_has(B bm:Nat)(p:Option Addr)(k c:Nat)(l:List UInt8)(no ak er:Int)(w:World)(hI:RefI B bm p k c l w) :
 Calls Tryz.prog 98 #[.pointer (some ⟨bm,0,none⟩),.agg #[.int .i64 no,.int .i64 ak,.int .i64 er]] w (Zf6 l no ak w):=by
 by_cases h6:ak=6
 ·subst h6;exact Zdi B bm p k c l no er w hI
 ·by_cases h7:ak=7
  ·subst h7;exact Zdy B bm p k c l no er w hI
  ·exact Zds B bm p k c l no ak er w hI h6 h7
theorem nv_bumpR(cs:List Nat)(k:Nat):(cs.map nv).set k (.int .i64 ((cs.getD k 0+1:Nat):Int))=(Jy cs (k:Int)).map nv:=by
 unfold Jy;rw[Int.toNat_natCast,List.map_set];rfl
theorem bump_getR{cs:List Nat}{k:Nat}(h:k<cs.length):(Jy cs (k:Int)).getD k 0=cs.getD k 0+1:=by
 unfold Jy;rw[Int.toNat_natCast];simp[List.getD,h]
theorem Ua{w:World}{pc:Option Addr}{n m:Nat}{cs:List Nat}(h:Sl w (.slice pc n m) n (cs.map nv)){k:Nat}(hk:k<cs.length):pc.isSome=true∧w.cell? (Xa pc (k*1))=some (.int .i64 ((cs.getD k 0:Nat):Int)):=by
 have hg:(cs.map nv)[k]? = some (.int .i64 ((cs.getD k 0:Nat):Int)):=by simp[List.getD,hk,nv]
 rcases h with ⟨a,c,h1,h2,h3⟩|⟨b,off,cap,h1,h2,h3,h4⟩
 ·rw[h3] at hg;simp at hg
 ·simp only[Value.slice.injEq] at h1
  obtain⟨rfl,_,_⟩:=h1
  refine⟨rfl,?_⟩
  have:=h4 k _ hg
  simpa [Xa,Addr.add_mid] using this
def RCntsP(B g n:Nat)(O:Cx)(w:World)(e:Ending)(w':World):Prop :=
 (O.2.2≠0∧∃ a d,e=.returned (.tuple #[.slice none 0 0,.agg #[.slice a O.2.1.length d,.int .i64 O.2.2]])∧Below B w w'∧w'.ownsRow B 3 1 (.slice a O.2.1.length d) O.2.1.length (O.2.1.map (Value.int .i64))) ∨
 (O.2.2=0∧e=.returned (.tuple #[.slice (some ⟨g,0,none⟩) n n,.agg #[.slice none 0 0,.int .i64 0]])∧Below B w w'∧O.1.length=n∧w'.ownsRow B 3 1 (.slice (some ⟨g,0,none⟩) n n) n (O.1.map nv))
theorem Ky{B g n:Nat}{O:Cx}{c:List Nat}{no er:Int}{d:Nat}{a:Option Addr}{w W:World}(h:O=(c,[no],er))(her:er≠0)(hb:Below B w W)(ho:W.ownsRow B 3 1 (.slice a 1 d) 1 (([no]:List Int).map (Value.int .i64))):RCntsP B g n O w (.returned (.tuple #[.slice none 0 0,.agg #[.slice a 1 d,.int .i64 er]])) W:=by
 subst h;exact .inl ⟨her,a,d,rfl,hb,ho⟩
theorem Zbj(B Bi bm:Nat)(p:Option Addr)(k cm:Nat)(l:List UInt8)(g n:Nat)(cs:List Nat)(pw:Option Addr)(cw0:Nat)(L:List Rx)(w:World)(hI:RefI Bi bm p k cm l w)(hBw:B≤w.heap.size)(hc:w.ownsRow B 3 1 (.slice (some ⟨g,0,none⟩) n n) n (cs.map nv))(hn:cs.length=n)(hWt:Tn B w pw cw0 L)(hph:phi cs+L.length≤100000000) :
 Calls Tryz.prog 52 #[.pointer (some ⟨bm,0,none⟩),.slice (some ⟨g,0,none⟩) n n,.slice pw L.length cw0] w (RCntsP B g n (Xz l cs L) w):=by
 refine zin 68 Tryz.func52 ?_
 refine xa 3 [.slice none 0 0,.int .i64 0] 33 fun b1 W1 n1=>?_
 have hc'1:=Zb hc n1.below
 have hWt'1:=hWt.below n1.below
 have hI'1:=hI.below n1.below
 have hB:=blB (Below.refl B w) hBw n1.below
 refine zl 4 68 (fun zm zkv V=>∃ (c:List Nat) (ts:List Rx) (aw:Option Addr) (cw:Nat),zkv=[(0,.pointer (some ⟨bm,0,none⟩)),(1,.slice (some ⟨g,0,none⟩) n n),(2,.slice aw ts.length cw),(7,.pointer (some ⟨b1,0,none⟩))]∧zm=1001*zer c+ts.length∧Below B w V∧Blk V b1 ([.slice none 0 0,.int .i64 0]) 33∧V.ownsRow B 3 1 (.slice (some ⟨g,0,none⟩) n n) n (c.map nv)∧Tn B V aw cw ts∧RefI Bi bm p k cm l V∧c.length=n∧Xz l c ts=Xz l cs L∧phi c+ts.length≤phi cs+L.length) ⟨cs,L,_,_,rfl,rfl,hB,n1.blk,hc'1,hWt'1,hI'1,hn,rfl,Nat.le_refl _⟩ ?_
 rintro _ _ W2 ⟨c,ts,aw,cw,rfl,rfl,hB_2,k2_b1,hc,hWt,hI,hcn,hinv,hbd⟩ J2 hJ2 r2
 refine xid 8 ((↑ts.length:Int)>(0:Int)) (fun hc3=>?_) (fun hc3=>?_)
 ·obtain⟨⟨nq,kq,eq9⟩,r,htr⟩:∃ x r,ts=x::r:=List.exists_cons_of_ne_nil (fun q=>by rw[q] at hc3;simp at hc3)
  have htl:ts.length=r.length+1:=by rw[htr];rfl
  rw[htr] at hinv
  have hWs:=hWt.at_
  refine xx 6 _ ts.length 0 3 (Sts.cell (f:=rxC) (l:=(nq,kq,eq9)::r) (hWs.sts htr) Tj (0,0,0) (k:=0) (i:=0) (Nat.succ_pos _) rfl).1 ?_
  refine xlv 0 (Sts.rp (k:=0) (hWs.sts htr) Tj (0,0,0) (Nat.succ_pos _) (by decide)) ?_
  refine xa 0 [.int .i64 0,.int .i64 0,.int .i64 0] 141 fun b4 W4 n4=>?_
  have g4:=n4.ge0 hB_2
  refine xsv 0 n4.blk [.int .i64 nq,.int .i64 kq,.int .i64 eq9] fun W5 u5 k5=>?_
  refine xsL 5 (fun _ _ _ _ zo zx zy V=>Xv (k:=1) (b:=aw) (n:=ts.length) (c:=cw) (i:=1) (ki:=.i64) 3 zo zx zy rfl (by omega) Tryz.underlying142 (by kernel_rfl) V) ?_
  refine xb 7 2 k5 ?_
  refine xin 3 eq9 (0:Int) (fun hc6=>?_) (fun hc6=>?_)
  ·refine xb 3 0 k5 ?_
   refine xb 1 2 k5 ?_
   refine xc 0 (args:=#[.int .i64 nq,.int .i64 eq9]) (Di nq eq9 _ (by omega)) ?_
   rintro _ W7 ⟨pa,ca,rfl,hb7,hva⟩
   have hs7:=(u5.below (blB hB_2 hBw n4.below) (Nat.le_trans hBw g4)).size
   have k2_b1'1:=(u5.blkT (k2_b1.below n4.below) n4.blk (by decide)).below hb7
   refine xsv 1 k2_b1'1 [.slice pa 1 ca,.int .i64 eq9] fun W8 u8 k8=>?_
   have g1:=n1.ge0 (Below.refl B _)
   have hva'1:=u8.own2 (Zd hva hs7) k2_b1'1 (by decide)
   have hB'1:=u8.below (blB (u5.below (blB hB_2 hBw n4.below) (Nat.le_trans hBw g4)) hBw hb7) (Nat.le_trans hBw g1)
   refine xec 8 k8 (.tuple #[.slice none 0 0,.agg #[.slice pa 1 ca,.int .i64 eq9]]) ?_
   first|exact Ky (hinv.symm.trans (Nv (x:=(nq,kq,eq9)) (by assumption))) (by assumption) hB'1 (Zd hva'1 hBw)|exact Ky (hinv.symm.trans (Mh (x:=(nq,kq,eq9)) (by assumption) (fun q=>by have q1:=q.1;have q2:=q.2;simp only at q1 q2;omega))) (by decide) hB'1 (Zd hva'1 hBw)
  refine xb 6 0 k5 ?_
  refine xg 2 [29,30] (decide (nq<(0:Int))) (fun hc9=>?_) (fun hc9=>?_)
  ·have hc9:=of_decide_eq_true hc9
   refine xb 12 0 k5 ?_
   refine xc 0 (args:=#[.int .i64 nq,.int .i64 3]) (Di nq 3 _ (by omega)) ?_
   rintro _ W10 ⟨pa,ca,rfl,hb10,hva⟩
   have hs10:=(u5.below (blB hB_2 hBw n4.below) (Nat.le_trans hBw g4)).size
   have k2_b1'2:=(u5.blkT (k2_b1.below n4.below) n4.blk (by decide)).below hb10
   refine xsv 1 k2_b1'2 [.slice pa 1 ca,.int .i64 3] fun W11 u11 k11=>?_
   have g1:=n1.ge0 (Below.refl B _)
   have hva'2:=u11.own2 (Zd hva hs10) k2_b1'2 (by decide)
   have hB'2:=u11.below (blB (u5.below (blB hB_2 hBw n4.below) (Nat.le_trans hBw g4)) hBw hb10) (Nat.le_trans hBw g1)
   refine xec 8 k11 (.tuple #[.slice none 0 0,.agg #[.slice pa 1 ca,.int .i64 3]]) ?_
   first|exact Ky (hinv.symm.trans (Nv (x:=(nq,kq,eq9)) (by assumption))) (by assumption) hB'2 (Zd hva'2 hBw)|exact Ky (hinv.symm.trans (Mh (x:=(nq,kq,eq9)) (by assumption) (fun q=>by have q1:=q.1;have q2:=q.2;simp only at q1 q2;omega))) (by decide) hB'2 (Zd hva'2 hBw)
  have hc9:=of_decide_eq_false hc9
  refine xb 1 0 k5 ?_
  refine xid 6 (nq≥(↑n:Int)) (fun hc12=>?_) (fun hc12=>?_)
  ·refine xb 3 0 k5 ?_
   refine xc 0 (args:=#[.int .i64 nq,.int .i64 3]) (Di nq 3 _ (by omega)) ?_
   rintro _ W13 ⟨pa,ca,rfl,hb13,hva⟩
   have hs13:=(u5.below (blB hB_2 hBw n4.below) (Nat.le_trans hBw g4)).size
   have k2_b1'3:=(u5.blkT (k2_b1.below n4.below) n4.blk (by decide)).below hb13
   refine xsv 1 k2_b1'3 [.slice pa 1 ca,.int .i64 3] fun W14 u14 k14=>?_
   have g1:=n1.ge0 (Below.refl B _)
   have hva'3:=u14.own2 (Zd hva hs13) k2_b1'3 (by decide)
   have hB'3:=u14.below (blB (u5.below (blB hB_2 hBw n4.below) (Nat.le_trans hBw g4)) hBw hb13) (Nat.le_trans hBw g1)
   refine xec 8 k14 (.tuple #[.slice none 0 0,.agg #[.slice pa 1 ca,.int .i64 3]]) ?_
   first|exact Ky (hinv.symm.trans (Nv (x:=(nq,kq,eq9)) (by assumption))) (by assumption) hB'3 (Zd hva'3 hBw)|exact Ky (hinv.symm.trans (Mh (x:=(nq,kq,eq9)) (by assumption) (fun q=>by have q1:=q.1;have q2:=q.2;simp only at q1 q2;omega))) (by decide) hB'3 (Zd hva'3 hBw)
  obtain⟨kx,rfl⟩:∃ kx:Nat,nq=(kx:Int):=⟨nq.toNat,by omega⟩
  have hx0:eq9=0:=by assumption
  have hxb:0≤(kx:Int)∧(kx:Int)<c.length:=by omega
  have hgp:=Zb2 c kx
  have hbg:=bump_getR (cs:=c) (k:=kx) (by omega)
  have hbl:=Vo c (kx:Int)
  refine xb 6 0 k5 ?_
  have hc'2:=u5.own2 (Zb hc n4.below) n4.blk (by decide)
  refine xx 0 _ n kx 1 (Ua (Ze hc'2) (k:=kx) (by omega)).1 ?_
  refine xl 0 ((Ua (Ze hc'2) (k:=kx) (by omega)).2) ?_
  refine xwm 0 ((↑(c.getD kx 0):Int)+1) (↑((c.getD kx 0)+1):Int) ?_
  refine xx 0 _ n kx 1 (Ua (Ze hc'2) (k:=kx) (by omega)).1 ?_
  refine xst 0 fun _ _ _ _ zJ zQ zo zx zy zK=>Ja (t:=3) (k:=kx) (v:=.int .i64 (↑((c.getD kx 0)+1):Int)) zo zx zy (by kernel_rfl) rfl hc'2 (by omega) fun W15 u15 o15=>?_
  rw[nv_bumpR c kx] at o15
  have k2_b1'4:=u5.blkT (k2_b1.below n4.below) n4.blk (by decide)
  refine zK _ _ ?_
  have k5'1:=u15.blk k5 (Kr k5 hc'2 (by decide))
  refine xb 7 0 k5'1 ?_
  refine xx 0 _ n kx 1 (Ua (Ze o15) (k:=kx) (by omega)).1 ?_
  refine xl 0 ((Ua (Ze o15) (k:=kx) (by omega)).2) ?_
  refine xid 3 ((↑((Jy c (↑kx:Int)).getD kx 0):Int)>(1:Int)) (fun hc16=>?_) (fun hc16=>?_)
  ·have hx1:c.getD (kx:Int).toNat 0≠0:=by rw[Int.toNat_natCast];omega
   have hWs'1:=((hWs.below n4.below).updN u5 n4 (by omega)).only (Zh.of_updRow (T:=[3]) u15 hc'2 (by decide)) (by decide)
   refine xv1 3 2 (show(.slice (Qy aw 1 cw 3) (ts.length-1) (cw-1):Value)=.slice (Qy aw 1 cw 3) r.length (cw-1) from by rw[htr];rfl) ?_
   have hB'4:=u15.below (u5.below (blB hB_2 hBw n4.below) (Nat.le_trans hBw g4)) (Hb hc'2)
   have k2_b1'5:=u15.blk k2_b1'4 (Kr k2_b1'4 hc'2 (by decide))
   have hI'2:=((hI.below n4.below).only (Zh.of_upd (T:=[141]) u5 n4.blk (by decide)) (by decide)).only (Zh.of_updRow (T:=[3]) u15 hc'2 (by decide)) (by decide)
   refine ze 0 (hJ2 _ _ _ ⟨(Jy c (↑kx:Int)),r,(Qy aw 1 cw 3),(cw-1),rfl,rfl,hB'4,k2_b1'5,o15,(Ry.tail hWs'1 htr),hI'2,(by rw[Vo];exact hcn),((Zau (x:=((kx:Int),kq,eq9)) hx0 hxb hx1).symm.trans hinv),(by have:=Ki hxb.1 hxb.2;have:=Pu hxb.1 hxb.2;unfold phi at hbd ⊢;omega)⟩ ?_)
   have:=Ki hxb.1 hxb.2
   show 1001*zer (Jy c (↑kx:Int))+r.length<1001*zer c+ts.length
   omega
  have hx1:c.getD (kx:Int).toNat 0=0:=by rw[Int.toNat_natCast];omega
  refine xlv 5 k5'1.rp ?_
  have hI'3:=((hI.below n4.below).only (Zh.of_upd (T:=[141]) u5 n4.blk (by decide)) (by decide)).only (Zh.of_updRow (T:=[3]) u15 hc'2 (by decide)) (by decide)
  refine xc 0 (args:=#[.pointer (some ⟨bm,0,none⟩),.agg #[.int .i64 (↑kx:Int),.int .i64 kq,.int .i64 eq9]]) (ref25_has Bi bm p k cm l (↑kx:Int) kq eq9 _ hI'3) ?_
  rintro e W17 hq17
  rcases hq17 with ⟨hhe,p9,m9,c9,a9,d9,rfl,hb17,hr9⟩|⟨hhe,p9,c9,a9,d9,rfl,hb17,hh9⟩
  ·have hs17:=(u15.below (u5.below (blB hB_2 hBw n4.below) (Nat.le_trans hBw g4)) (Hb hc'2)).size
   refine xa 3 [.slice none 0 0,.int .i64 0] 33 fun b18 W18 n18=>?_
   have k2_b1'6:=(u15.blk k2_b1'4 (Kr k2_b1'4 hc'2 (by decide))).below hb17
   have d18_b1:=n18.ne k2_b1'6
   have hB'5:=blB (u15.below (u5.below (blB hB_2 hBw n4.below) (Nat.le_trans hBw g4)) (Hb hc'2)) hBw hb17
   have g18:=n18.ge0 hB'5
   refine xsv 1 n18.blk [.slice a9 1 d9,.int .i64 (Gq l (↑kx:Int) kq)] fun W19 u19 k19=>?_
   refine xb 6 1 k19 ?_
   refine xk 3 (show(((Gq l (↑kx:Int) kq) != (0:Int)):Bool)=true from bne_iff_ne.2 hhe) ?_
   refine xd 1 (.t B [33]) ?_
   have k19'1:=k19.below (Za W19)
   refine xlv (.o [1] 0) k19'1.rp ?_
   have k2_b1'7:=(u19.blk (k2_b1'6.below n18.below) (Ne.symm (Ne.symm d18_b1))).below (Za W19)
   have g1:=n1.ge0 (Below.refl B _)
   refine ysv (.o [] 2) k2_b1'7 [.slice a9 1 d9,.int .i64 (Gq l (↑kx:Int) kq)] (.t B [33]) fun W20 u20 k20=>⟨(Zx u20 k2_b1'7 (Nat.le_trans hBw g1) (by decide)),?_⟩
   have hr9'1:=u20.own2 (Zb (u19.own2 (Zb (Zd hr9 hs17) n18.below) n18.blk (by decide)) (Za W19)) k2_b1'7 (by decide)
   have hB'6:=u20.below (blB (u19.below (blB hB'5 hBw n18.below) (Nat.le_trans hBw g18)) hBw (Za W19)) (Nat.le_trans hBw g1)
   exact xec 8 k20 (.tuple #[.slice none 0 0,.agg #[.slice a9 1 d9,.int .i64 (Gq l (↑kx:Int) kq)]]) (Ky (hinv.symm.trans (Zdu (x:=((kx:Int),kq,eq9)) hx0 hxb hx1 hhe)) hhe hB'6 (Zd hr9'1 hBw))
  have hs17:=(u15.below (u5.below (blB hB_2 hBw n4.below) (Nat.le_trans hBw g4)) (Hb hc'2)).size
  have hfew:=Zch hhe
  refine xa 3 [.slice none 0 0,.int .i64 0] 33 fun b21 W21 n21=>?_
  have k2_b1'8:=(u15.blk k2_b1'4 (Kr k2_b1'4 hc'2 (by decide))).below hb17
  have d21_b1:=n21.ne k2_b1'8
  have hB'7:=blB (u15.below (u5.below (blB hB_2 hBw n4.below) (Nat.le_trans hBw g4)) (Hb hc'2)) hBw hb17
  have g21:=n21.ge0 hB'7
  refine xsv 1 n21.blk [.slice a9 0 d9,.int .i64 0] fun W22 u22 k22=>?_
  refine xb 6 1 k22 ?_
  have hWs'2:=(((((hWs.below n4.below).updN u5 n4 (by omega)).only (Zh.of_updRow (T:=[3]) u15 hc'2 (by decide)) (by decide)).below hb17).below n21.below).only (Zh.of_upd (T:=[33]) u22 n21.blk (by decide)) (by decide)
  have hh9'1:=u22.own2 (Zb (Zd hh9 hs17) n21.below) n21.blk (by decide)
  have hB'8:=u22.below (blB hB'7 hBw n21.below) (Nat.le_trans hBw g21)
  refine xbi 9 fun _ _ _ _ zJ zQ zo zx zy zK=>Zo (m:=(ts.length-1)) (news:=(r.flatMap rxC)) (.agg #[.int .i64 0,.int .i64 0,.int .i64 0]) 3 24 (((Wz l (↑kx:Int) kq)++r).length) ((((Wz l (↑kx:Int) kq)++r).flatMap rxC)) zo Tryz.underlying142 (by kernel_rfl) rfl (by decide) zx hh9'1 zy (hWs'2.slN htr) (by rw[Wq Tj,htl];rfl) (rx_one r) (by unfold maxLen;omega) (by omega) hB'8.size (by rw[List.length_append,htl];rfl) (by rw[List.flatMap_append]) fun px23 cx23 W23 o23 hg23 hb23=>?_
  refine zK _ _ ?_
  have hB'9:=hB'8.trans (hb23.mono hBw)
  have k2_b1'9:=(u22.blk (k2_b1'8.below n21.below) (Ne.symm (Ne.symm d21_b1))).grown hg23 hh9'1 (by decide)
  have o15'1:=Xc (u22.own2 (Zb (Zb o15 hb17) n21.below) n21.blk (by decide)) hg23 hh9'1 (by decide)
  have hI'4:=(((hI'3.below hb17).below n21.below).only (Zh.of_upd (T:=[33]) u22 n21.blk (by decide)) (by decide)).only (Zh.of_grown (T:=[141]) hg23 hh9'1 (by decide)) (by decide)
  refine ze 3 (hJ2 _ _ _ ⟨(Jy c (↑kx:Int)),((Wz l (↑kx:Int) kq)++r),px23,cx23,rfl,rfl,hB'9,k2_b1'9,o15'1,(Tn.of (Zd o23 hBw) rfl),hI'4,(by rw[Vo];exact hcn),((Lw (x:=((kx:Int),kq,eq9)) hx0 hxb hx1 hhe).symm.trans hinv),(by have:=Ki hxb.1 hxb.2;rw[if_pos hx1] at this;have:=Pu hxb.1 hxb.2;rw[List.length_append];unfold phi at hbd ⊢;omega)⟩ ?_)
  have:=Ki hxb.1 hxb.2
  rw[if_pos hx1] at this
  show 1001*zer (Jy c (↑kx:Int))+((Wz l (↑kx:Int) kq)++r).length<1001*zer c+ts.length
  rw[List.length_append]
  omega
 have hts:ts=[]:=List.eq_nil_of_length_eq_zero (by omega)
 refine xsv 10 k2_b1 [.slice none 0 0,.int .i64 0] fun W24 u24 k24=>?_
 have g1:=n1.ge0 (Below.refl B _)
 have hc'3:=u24.own2 hc k2_b1 (by decide)
 have hB'10:=u24.below hB_2 (Nat.le_trans hBw g1)
 refine xec 3 k24 (.tuple #[.slice (some ⟨g,0,none⟩) n n,.agg #[.slice none 0 0,.int .i64 0]]) ?_
 rw[hts] at hinv
 exact .inr ⟨by rw[←hinv];rfl,rfl,hB'10,by rw[←hinv];exact hcn,by rw[←hinv];exact hc'3⟩
def Fs(O:Cx)(w:World)(e:Ending)(w':World):Prop :=
 (O.2.2≠0∧∃ a m d,m=O.2.1.length∧e=.returned (.tuple #[.slice none 0 0,.agg #[.slice a m d,.int .i64 O.2.2]])∧Below w.heap.size w w'∧w'.ownsRow w.heap.size 3 1 (.slice a m d) m (O.2.1.map (Value.int .i64))) ∨
 (O.2.2=0∧∃ p c,e=.returned (.tuple #[.slice p O.1.length c,.agg #[.slice none 0 0,.int .i64 0]])∧Below w.heap.size w w'∧w'.ownsRow w.heap.size 3 1 (.slice p O.1.length c) O.1.length (O.1.map nv))
theorem Vc{O:Cx}{c:List Nat}{bl:List Int}{er:Int}{m d:Nat}{a:Option Addr}{w W:World}(h:O=(c,bl,er))(her:er≠0)(hm:m=bl.length)(hb:Below w.heap.size w W)(ho:W.ownsRow w.heap.size 3 1 (.slice a m d) m (bl.map (Value.int .i64))):Fs O w (.returned (.tuple #[.slice none 0 0,.agg #[.slice a m d,.int .i64 er]])) W:=by
 subst h;exact .inl ⟨her,a,m,d,hm,rfl,hb,ho⟩
theorem rpart_ok{O:Cx}{c:List Nat}{n d:Nat}{p:Option Addr}{w W:World}(h:O.2.2=0)(h1:O.1=c)(hn:c.length=n)(hb:Below w.heap.size w W)(ho:W.ownsRow w.heap.size 3 1 (.slice p n d) n (c.map nv)):Fs O w (.returned (.tuple #[.slice p n d,.agg #[.slice none 0 0,.int .i64 0]])) W:=by
 subst h1 hn;exact .inr ⟨h,p,d,rfl,hb,ho⟩
theorem Ig(B Bi bm:Nat)(p:Option Addr)(k cm:Nat)(l:List UInt8)(g n:Nat)(cs:List Nat)(pw:Option Addr)(m cw0:Nat)(L:List Rx)(w:World)(hm:L.length=m)(hI:RefI Bi bm p k cm l w)(hBw:B≤w.heap.size)(hc:w.ownsRow B 3 1 (.slice (some ⟨g,0,none⟩) n n) n (cs.map nv))(hn:cs.length=n)(hW:w.ownsRow B 141 3 (.slice pw m cw0) m (L.flatMap rxC))(hph:phi cs+L.length≤100000000) :
 Calls Tryz.prog 52 #[.pointer (some ⟨bm,0,none⟩),.slice (some ⟨g,0,none⟩) n n,.slice pw m cw0] w (RCntsP B g n (Xz l cs L) w):=by
 subst hm;exact Zbj B Bi bm p k cm l g n cs pw cw0 L w hI hBw hc hn (Tn.of hW rfl) hph
theorem rt_row{R:List Rt}{i:Nat}(hi:i<R.length):((R.take (i+1)).map Yt).flatMap rxC=((R.take i).map Yt).flatMap rxC++[.int .i64 (R.getD i (0,0)).1,.int .i64 (R.getD i (0,0)).2,.int .i64 0]:=by
 rw[rt_take hi,List.flatMap_append];simp[rxC,Yt]
theorem Zdc(Bi bm:Nat)(p:Option Addr)(k cm:Nat)(l:List UInt8)(blocks:Int)(pr:Option Addr)(cr:Nat)(R:List Rt)(w:World)(hI:RefI Bi bm p k cm l w)(hR:Sts Jf w (.slice pr R.length cr) R)(hRl:R.length≤100000) :
 Calls Tryz.prog 23 #[.pointer (some ⟨bm,0,none⟩),.int .i64 blocks,.slice pr R.length cr] w (Fs (partO l blocks R) w):=by
 refine zin 59 Tryz.func23 ?_
 refine xa 3 [.slice none 0 0,.int .i64 0] 33 fun b1 W1 n1=>?_
 refine xg 8 [11,12] (decide (blocks<(0:Int))) (fun hc2=>?_) (fun hc2=>?_)
 ·have hc2:=of_decide_eq_true hc2
  refine xsv 10 n1.blk [.slice none 0 0,.int .i64 1] fun W3 u3 k3=>?_
  have g1:=n1.ge (Below.refl w.heap.size _)
  have hB:=u3.below n1.below g1
  refine xec 4 k3 (.tuple #[.slice none 0 0,.agg #[.slice none 0 0,.int .i64 1]]) ?_
  first|exact Vc (bl:=[]) (Yi (.inr (by omega))) (by decide) rfl hB (World.ownsRow_nil _ _ _ _)|exact Vc (bl:=[]) (Yi (.inl (fun q=>by have:=q i (by omega);omega))) (by decide) rfl hB (World.ownsRow_nil _ _ _ _)
 have hc2:=of_decide_eq_false hc2
 refine xid 5 (blocks>(14400:Int)) (fun hc4=>?_) (fun hc4=>?_)
 ·refine xsv 4 n1.blk [.slice none 0 0,.int .i64 1] fun W5 u5 k5=>?_
  have g1:=n1.ge (Below.refl w.heap.size _)
  have hB:=u5.below n1.below g1
  refine xec 4 k5 (.tuple #[.slice none 0 0,.agg #[.slice none 0 0,.int .i64 1]]) ?_
  first|exact Vc (bl:=[]) (Yi (.inr (by omega))) (by decide) rfl hB (World.ownsRow_nil _ _ _ _)|exact Vc (bl:=[]) (Yi (.inl (fun q=>by have:=q i (by omega);omega))) (by decide) rfl hB (World.ownsRow_nil _ _ _ _)
 obtain⟨nb,rfl⟩:∃ nb:Nat,blocks=(nb:Int):=⟨blocks.toNat,by omega⟩
 have hF6:=n1.below
 have hB:=Below.refl W1.heap.size W1
 refine zl 14 59 (fun zm zkv V=>∃ (i:Nat) (pz:Option Addr) (cz:Nat),zkv=[(0,.pointer (some ⟨bm,0,none⟩)),(1,.int .i64 (↑nb:Int)),(2,.slice pr R.length cr),(7,.pointer (some ⟨b1,0,none⟩)),(8,.slice pz i cz),(9,.int .i64 (↑i:Int))]∧zm=R.length-((↑i:Int)).toNat∧Below W1.heap.size W1 V∧V.ownsRow W1.heap.size 141 3 (.slice pz i cz) i (((R.take i).map Yt).flatMap rxC)∧i≤R.length∧Jq R i) ⟨0,none,0,rfl,rfl,hB,World.ownsRow_nil _ _ _ _,Nat.zero_le _,fun j hj=>absurd hj (by omega)⟩ ?_
 rintro _ _ W7 ⟨i,pz,cz,rfl,rfl,hB_7,ho,hi,hok⟩ J7 hJ7 r7
 refine xid 9 ((↑i:Int)<(↑R.length:Int)) (fun hc8=>?_) (fun hc8=>?_)
 ·refine xx 9 _ R.length i 2 (Sts.cell (f:=Jf) hR Ye (0,0) (k:=i) (i:=0) (by omega) rfl).1 ?_
  have hR_hF6:=hR.below hF6
  refine xl 1 ((Sts.cell (hR_hF6.below hB_7) Ye (0,0) (k:=i) (i:=1) (by omega) rfl).2) ?_
  refine xg 2 [28,29] (decide ((R.getD i (0,0)).2<(1:Int))) (fun hc9=>?_) (fun hc9=>?_)
  ·have hc9:=of_decide_eq_true hc9
   have hT10:Below W1.heap.size W1 W7:=hB_7
   have hs10:w.heap.size≤W1.heap.size:=hF6.size
   have k1:=n1.blk.below hT10
   refine xsv 14 k1 [.slice none 0 0,.int .i64 1] fun W11 u11 k11=>?_
   have g1:=n1.ge (Below.refl w.heap.size _)
   have hB:=u11.below (bln hF6 hT10) g1
   refine xec 9 k11 (.tuple #[.slice none 0 0,.agg #[.slice none 0 0,.int .i64 1]]) ?_
   first|exact Vc (bl:=[]) (Yi (.inr (by omega))) (by decide) rfl hB (World.ownsRow_nil _ _ _ _)|exact Vc (bl:=[]) (Yi (.inl (fun q=>by have:=q i (by omega);omega))) (by decide) rfl hB (World.ownsRow_nil _ _ _ _)
  have hc9:=of_decide_eq_false hc9
  refine xx 2 _ R.length i 2 (Sts.cell (f:=Jf) hR Ye (0,0) (k:=i) (i:=0) (by omega) rfl).1 ?_
  refine xl 1 ((Sts.cell (hR_hF6.below hB_7) Ye (0,0) (k:=i) (i:=1) (by omega) rfl).2) ?_
  refine xid 4 ((R.getD i (0,0)).2>(5:Int)) (fun hc12=>?_) (fun hc12=>?_)
  ·have hT13:Below W1.heap.size W1 W7:=hB_7
   have hs13:w.heap.size≤W1.heap.size:=hF6.size
   have k1:=n1.blk.below hT13
   refine xsv 4 k1 [.slice none 0 0,.int .i64 1] fun W14 u14 k14=>?_
   have g1:=n1.ge (Below.refl w.heap.size _)
   have hB:=u14.below (bln hF6 hT13) g1
   refine xec 9 k14 (.tuple #[.slice none 0 0,.agg #[.slice none 0 0,.int .i64 1]]) ?_
   first|exact Vc (bl:=[]) (Yi (.inr (by omega))) (by decide) rfl hB (World.ownsRow_nil _ _ _ _)|exact Vc (bl:=[]) (Yi (.inl (fun q=>by have:=q i (by omega);omega))) (by decide) rfl hB (World.ownsRow_nil _ _ _ _)
  refine xd 2 (.t W1.heap.size [141]) ?_
  refine xx (.e [0,1,2] 3) _ R.length i 2 (Sts.cell (f:=Jf) hR Ye (0,0) (k:=i) (i:=0) (by omega) rfl).1 ?_
  have hB'1:=bln hB_7 (Za W7)
  refine xlt (.e [4] 5) (.t W1.heap.size [141]) (fun V hV=>(Sts.cell (hR_hF6.below (Ke hB'1 hV (Nat.le_refl _))) Ye (0,0) (k:=i) (i:=0) (by omega) rfl).2) ?_
  refine xx (.e [6,7] 8) _ R.length i 2 (Sts.cell (f:=Jf) hR Ye (0,0) (k:=i) (i:=0) (by omega) rfl).1 ?_
  refine xlt (.e [9] 10) (.t W1.heap.size [141]) (fun V hV=>(Sts.cell (hR_hF6.below (Ke hB'1 hV (Nat.le_refl _))) Ye (0,0) (k:=i) (i:=1) (by omega) rfl).2) ?_
  refine xbs (.o [11] 12) 1 [.int .i64 ((R.getD i (0,0)).1),.int .i64 ((R.getD i (0,0)).2),.int .i64 0] 141 fun b15 W15 n15=>?_
  have g15:=n15.ge hB'1
  have ho'1:=Zb ho (Za W7)
  have r15_ho:=Zr ho'1 n15
  have ho'2:=Zb ho'1 n15.below
  have hB'2:=bln hB'1 n15.below
  refine ybi (.o [] 13) (.t W1.heap.size [141]) fun _ _ _ _ zJ zQ zo zx zy zK=>Zo (m:=1) (news:=[.int .i64 ((R.getD i (0,0)).1),.int .i64 ((R.getD i (0,0)).2),.int .i64 0]) (.agg #[.int .i64 0,.int .i64 0,.int .i64 0]) 3 24 (i+1) ((((R.take (i+1)).map Yt).flatMap rxC)) zo Tryz.underlying142 (by kernel_rfl) rfl (by decide) zx ho'2 zy (n15.blk.sl 1 1 (by decide) (by decide)) rfl (by simp[Value.oneCell']) (by unfold maxLen;omega) (by omega) hB'2.size (rfl) (by rw[rt_row (by omega)]) fun px16 cx16 W16 o16 hg16 hb16=>?_
  refine zK _ _ (Xb hb16 hg16 ho'2 (by decide)) ?_
  refine xwm (.r [14] 5) ((↑i:Int)+1) (↑(i+1):Int) ?_
  have hB'3:=hB'2.trans hb16
  exact ze 2 (hJ7 _ _ _ ⟨i+1,_,_,rfl,rfl,hB'3,o16,by omega,hok.next (by omega)⟩ (by omega))
 refine xmk 9 fun _ _ _ _ zJ zQ zo zx zy zK=>Vm nb (.int .i64 0) 1 8 ((List.replicate nb (0:Nat)).map nv) zo zx zy Tryz.underlying31 (by kernel_rfl) rfl (by omega) (by omega) ((zerosV nb)) fun b17 W17 n17=>?_
 have g17:=n17.ge hB_7
 refine zK _ _ ?_
 have ho'3:=Zb ho n17.below
 have o17:=Zw (size:=1) (n:=nb) n17.blk g17 (by rw[List.length_map,List.length_replicate,Nat.mul_one]) (by unfold maxLen;omega)
 have hB'4:=bln hB_7 n17.below
 have hii:i=R.length:=by omega
 have hok2:Jq R R.length:=hii▸hok
 have hrw:=ho'3
 rw[hii,List.take_length] at hrw
 have hpz:=Sc nb
 have hBz:=hB'4.size
 refine xc 1 (args:=#[.pointer (some ⟨bm,0,none⟩),.slice (some ⟨b17,0,none⟩) nb nb,.slice pz i cz]) (Ig W1.heap.size Bi bm p k cm l b17 nb (List.replicate nb 0) pz i cz (R.map Yt) _ (by rw[List.length_map];omega) ((hI.below hF6).below hB'4) hBz o17 List.length_replicate (by rw[hii];exact hrw) (by rw[List.length_map];omega)) ?_
 rintro e W18 hq18
 rcases hq18 with ⟨hce,a9,d9,rfl,hb18,hf9⟩|⟨hce,rfl,hb18,hcl,hc9⟩
 ·have hB'5:=hB'4.trans hb18
  have hT19:Below W1.heap.size W1 W18:=hB'5
  have hs19:w.heap.size≤W1.heap.size:=hF6.size
  have k1:=n1.blk.below hT19
  refine xsv 3 k1 [.slice a9 ((Xz l (List.replicate nb 0) (R.map Yt)).2.1.length) d9,.int .i64 ((Xz l (List.replicate nb 0) (R.map Yt)).2.2)] fun W20 u20 k20=>?_
  have g1:=n1.ge (Below.refl w.heap.size _)
  have hf9'1:=u20.own2 (Zd hf9 hs19) k1 (by decide)
  have hB:=u20.below (bln hF6 hT19) g1
  refine xec 3 k20 (.tuple #[.slice none 0 0,.agg #[.slice a9 ((Xz l (List.replicate nb 0) (R.map Yt)).2.1.length) d9,.int .i64 ((Xz l (List.replicate nb 0) (R.map Yt)).2.2)]]) ?_
  have e9:partO l (↑nb:Int) R=Xz l (List.replicate nb 0) (R.map Yt):=Bq hok2 (by omega) (by omega)
  exact Vc e9 hce rfl hB hf9'1
 have hB'6:=hB'4.trans hb18
 have hT21:Below W1.heap.size W1 W18:=hB'6
 have hs21:w.heap.size≤W1.heap.size:=hF6.size
 have k1:=n1.blk.below hT21
 refine xsv 3 k1 [.slice none 0 0,.int .i64 0] fun W22 u22 k22=>?_
 have g1:=n1.ge (Below.refl w.heap.size _)
 have hc9'1:=u22.own2 (Zd hc9 hs21) k1 (by decide)
 have hB:=u22.below (bln hF6 hT21) g1
 refine xec 3 k22 (.tuple #[.slice (some ⟨b17,0,none⟩) nb nb,.agg #[.slice none 0 0,.int .i64 0]]) ?_
 have e9:partO l (↑nb:Int) R=Xz l (List.replicate nb 0) (R.map Yt):=Bq hok2 (by omega) (by omega)
 exact rpart_ok (by rw[e9];exact hce) (by rw[e9]) hcl hB hc9'1
theorem told_C(bl:List Int)(er:Int)(v:Value)(w:World)(hlen:bl.length≤1)(hg:Zgk w)(hv:Kk w (bl.map some) (some er) v):Calls Tryz.prog 14 #[v] w (Yz (fun w' r=>FltV w' r bl er) w):=by
 have:=Fu (some er) (bl.map some) v w (by rw[List.length_map];omega) hg hv
 rwa [Zat,Tc] at this
theorem told_C0(w:World)(hg:Zgk w):Calls Tryz.prog 14 #[.nilIface] w (Yz (fun w' r=>FltV w' r [] 0) w):=Fu none [] .nilIface w (by decide) hg rfl
theorem Dk{f:List Nat→Rx→Cx}(hf:∀ cs x,(f cs x).2.1.length≤1):∀ (L:List Rx) (cs:List Nat),(Qr f cs L).2.1.length≤1
 | [],cs=>Nat.zero_le _
 | x::r,cs=>by
  rw[Ya]
  split
  ·exact hf cs x
  ·exact Dk hf r _
theorem Fw(l:List UInt8):∀ (d:Nat) (cs:List Nat) (x:Rx),(Zu l d cs x).2.1.length≤1
 | 0,cs,x=>Nat.zero_le _
 | d+1,cs,x=>by
  unfold Zu
  repeat' split
  all_goals first|exact Dk (Fw l d) _ _|exact Nat.le_refl _|exact Nat.zero_le _
theorem Zgc(l:List UInt8)(cs:List Nat)(L:List Rx):(Xz l cs L).2.1.length≤1:=Dk (Fw l _) _ _
theorem Zgn(l:List UInt8)(blocks:Int)(R:List Rt):(partO l blocks R).2.1.length≤1:=by
 unfold partO
 split
 ·exact Nat.zero_le _
 ·exact Zgc _ _ _
theorem cnts_ints(cs:List Nat):cs.map nv=(cs.map (fun n:Nat=>(n:Int))).map (Value.int .i64):=by rw[List.map_map];rfl
theorem Ds(a b:Option Addr)(n ca cb:Nat)(cs:List Nat)(w:World)(hn:cs.length=n)(ha:Sl w (.slice a n ca) n (cs.map nv))(hb:Sl w (.slice b n cb) n (cs.map nv)):Calls Tryz.prog 18 #[.slice a n ca,.slice b n cb] w (Ret (.bool true) w):=by
 have h:=Fg a b ca cb (cs.map (fun n:Nat=>(n:Int))) w
 rw[cnts_ints] at ha hb
 rw[show(cs.map (fun n:Nat=>(n:Int))).length=n from by rw[List.length_map];exact hn] at h
 exact h (by unfold Ints;rw[List.length_map,hn];exact ha) (by unfold Ints;rw[List.length_map,hn];exact hb)
theorem rpart_B{O:Cx}{f:FuncId}{args:Array Value}{w:World}(h:O.2.2≠0)(hc:Calls Tryz.prog f args w (Fs O w)):Calls Tryz.prog f args w (Yz (fun w' r=>∃ a c,r=.tuple #[.slice none 0 0,.agg #[.slice a O.2.1.length c,.int .i64 O.2.2]]∧w'.ownsRow w.heap.size 3 1 (.slice a O.2.1.length c) O.2.1.length (O.2.1.map (Value.int .i64))) w):=hc.mono (by
 rintro e W q
 rcases q with ⟨_,a,m,c,rfl,rfl,hb,ho⟩|⟨h2,_⟩
 ·exact⟨_,rfl,hb,a,c,rfl,ho⟩
 ·exact absurd h2 h)
theorem rpart_G{O:Cx}{f:FuncId}{args:Array Value}{w:World}(h:O.2.2=0)(hc:Calls Tryz.prog f args w (Fs O w)):Calls Tryz.prog f args w (Yz (fun w' r=>∃ p c,r=.tuple #[.slice p O.1.length c,.agg #[.slice none 0 0,.int .i64 0]]∧w'.ownsRow w.heap.size 3 1 (.slice p O.1.length c) O.1.length (O.1.map nv)) w):=hc.mono (by
 rintro e W q
 rcases q with ⟨h2,_⟩|⟨_,p,c,rfl,hb,ho⟩
 ·exact absurd h h2
 ·exact⟨_,rfl,hb,p,c,rfl,ho⟩)
theorem roots_row{R:List Rt}{i:Nat}(hi:i<R.length):(R.take (i+1)).flatMap Jf=(R.take i).flatMap Jf++[.int .i64 (R.getD i (0,0)).1,.int .i64 (R.getD i (0,0)).2]:=by
 rw[List.take_succ_eq_append_getElem hi,List.flatMap_append,show R.getD i (0,0)=R[i] from by simp[List.getD,hi]];simp[Jf]
theorem Cb(Bi bm:Nat)(p:Option Addr)(k cm:Nat)(l:List UInt8)(blocks:Int)(pr:Option Addr)(cr n B:Nat)(R:List Rt)(w:World)(hn:n=R.length)(hI:RefI Bi bm p k cm l w)(h:w.ownsRow B 61 2 (.slice pr n cr) n ((R.take n).flatMap Jf))(hRl:R.length≤100000) :
 Calls Tryz.prog 23 #[.pointer (some ⟨bm,0,none⟩),.int .i64 blocks,.slice pr n cr] w (Fs (partO l blocks R) w):=by
 subst hn
 rw[List.take_length] at h
 exact Zdc Bi bm p k cm l blocks pr cr R w hI (Ze h) hRl
theorem Ej(a:Option Addr)(c:Nat)(l:List UInt8)(bk:Int)(ar:Option Addr)(cr:Nat)(R:List Rt)(w:World)(h:Bys w (.slice a l.length c) l)(hR:Sts Jf w (.slice ar R.length cr) R)(hg:Zgk w) :
 Calls Tryz.prog 6 #[.slice a l.length c,.int .i64 bk,.slice ar R.length cr] w (Ret (.bool true) w):=by
 have hcap:=h.cap rfl
 refine zin 63 Tryz.func6 ?_
 refine xg 12 [15,16] (decide ((↑l.length:Int)>(12000:Int))) (fun hc1=>?_) (fun hc1=>?_)
 ·have hc1:=of_decide_eq_true hc1
  refine xr 9 (args:=#[]) (Se _) fun W2 hb2=>?_
  exact xe 5 (.bool true) ⟨rfl,hb2⟩
 have hc1:=of_decide_eq_false hc1
 refine xid 6 ((↑R.length:Int)>(30:Int)) (fun hc3=>?_) (fun hc3=>?_)
 ·refine xr 2 (args:=#[]) (Se _) fun W4 hb4=>?_
  exact xe 5 (.bool true) ⟨rfl,hb4⟩
 have hB:=Below.refl w.heap.size w
 refine zl 14 63 (fun zm zkv V=>∃ (i:Nat) (pz:Option Addr) (cz:Nat),zkv=[(0,.slice a l.length c),(1,.int .i64 bk),(2,.slice ar R.length cr),(6,.bool false),(7,.slice pz i cz),(8,.int .i64 (↑i:Int))]∧zm=R.length-((↑i:Int)).toNat∧Below w.heap.size w V∧V.ownsRow w.heap.size 61 2 (.slice pz i cz) i ((R.take i).flatMap Jf)∧i≤R.length) ⟨0,none,0,rfl,rfl,hB,World.ownsRow_nil _ _ _ _,Nat.zero_le _⟩ ?_
 rintro _ _ W5 ⟨i,pz,cz,rfl,rfl,hB_5,ho,hi⟩ J5 hJ5 r5
 refine xid 9 ((↑i:Int)<(↑R.length:Int)) (fun hc6=>?_) (fun hc6=>?_)
 ·refine xx 8 _ R.length i 2 (Sts.cell (f:=Jf) hR Ye (0,0) (k:=i) (i:=0) (by omega) rfl).1 ?_
  refine xlv 0 (Sts.rp (k:=i) (hR.below hB_5) Ye (0,0) (by omega) (by decide)) ?_
  refine xbs 0 1 [.int .i64 ((R.getD i (0,0)).1),.int .i64 ((R.getD i (0,0)).2)] 61 fun b7 W7 n7=>?_
  have g7:=n7.ge hB_5
  have r7_ho:=Zr ho n7
  have ho'1:=Zb ho n7.below
  have hB'1:=bln hB_5 n7.below
  refine xbi 0 fun _ _ _ _ zJ zQ zo zx zy zK=>Zo (m:=1) (news:=[.int .i64 ((R.getD i (0,0)).1),.int .i64 ((R.getD i (0,0)).2)]) (.agg #[.int .i64 0,.int .i64 0]) 2 16 (i+1) (((R.take (i+1)).flatMap Jf)) zo Tryz.underlying59 (by kernel_rfl) rfl (by decide) zx ho'1 zy (n7.blk.sl 1 1 (by decide) (by decide)) rfl (by simp[Value.oneCell']) (by unfold maxLen;omega) (by omega) hB'1.size (rfl) (by rw[roots_row (by omega)]) fun px8 cx8 W8 o8 hg8 hb8=>?_
  refine zK _ _ ?_
  refine xwm 6 ((↑i:Int)+1) (↑(i+1):Int) ?_
  have hB'2:=hB'1.trans hb8
  exact ze 2 (hJ5 _ _ _ ⟨i+1,_,_,rfl,rfl,hB'2,o8,by omega⟩ (by omega))
 have hii:i=R.length:=by omega
 refine xc 8 (args:=#[.slice a l.length c]) (image_OfR a c l.length ((l.length/256)*256) l _ rfl (by omega) (h.below hB_5) (by omega) hcap) ?_
 rintro _ W9 ⟨_,rfl,hb9,bi,pi,ci,rfl,_,hI⟩
 have hB'3:=bln hB_5 hb9
 refine xc 2 (args:=#[.pointer (some ⟨bi,0,none⟩),.int .i64 bk,.slice ar R.length cr]) (Zgi _ bi pi _ ci (l.take ((l.length/256)*256)) bk ar cr R _ hI (hR.below hB'3) (by omega)) ?_
 rintro e W10 hq10
 rcases hq10 with ⟨hbe,ty9,v9,rfl,hb10,hv9⟩|⟨hbe,p9,c9,rfl,hb10,hD9⟩
 ·have hB'4:=bln hB'3 hb10
  refine xc 10 (args:=#[.slice a l.length c]) (ref_OfM a c l.length (l.length/256) l _ rfl (by omega) (h.below hB'4) (by omega)) ?_
  rintro _ W11 ⟨_,rfl,hb11,bj,pj,cj,rfl,_,hJ⟩
  have ho'2:=Zb (Zb (Zb ho hb9) hb10) hb11
  refine xc 2 (args:=#[.pointer (some ⟨bj,0,none⟩),.int .i64 bk,.slice pz i cz]) (rpart_B hbe (Cb _ bj pj _ cj (l.take ((l.length/256)*256)) bk pz cz i _ R _ hii hJ ho'2 (by omega))) ?_
  rintro _ W12 ⟨_,rfl,hb12,a8,d8,rfl,hr9⟩
  have hs12:=(bln hB'4 hb11).size
  refine xa 3 [.slice none 0 0,.int .i64 0] 33 fun b13 W13 n13=>?_
  have hB'5:=bln (bln hB'4 hb11) hb12
  have g13:=n13.ge hB'5
  refine xsv 1 n13.blk [.slice a8 ((partO (l.take ((l.length/256)*256)) bk R).2.1.length) d8,.int .i64 ((partO (l.take ((l.length/256)*256)) bk R).2.2)] fun W14 u14 k14=>?_
  refine xd 3 .z ?_
  refine xr (.o [0,1] 2) (args:=#[.slice none 0 0,.slice none 0 0]) (Ds none none 0 0 0 [] _ rfl (.inl ⟨_,_,rfl,rfl,rfl⟩) (.inl ⟨_,_,rfl,rfl,rfl⟩)) fun W15 hb15=>?_
  have k14'1:=(k14.below (Za W14)).below hb15
  refine xlv (.e [3,4] 6) k14'1.rp ?_
  have hv9'1:=(((((hv9.below hb11).below hb12).below n13.below).upd u14 n13.blk (by decide)).below (Za W14)).below hb15
  have hB'6:=bln (bln (u14.below (bln hB'5 n13.below) g13) (Za W14)) hb15
  refine yc (.o [] 5) (args:=#[.iface ty9 (v9)]) .z (told_C (partO (l.take ((l.length/256)*256)) bk R).2.1 (partO (l.take ((l.length/256)*256)) bk R).2.2 (.iface ty9 v9) _ (Zgn _ _ _) (hg.below hB'6) hv9'1) ?_
  rintro _ W16 ⟨vt16,rfl,hb16,hq⟩
  refine⟨hb16,?_⟩
  have hr9'1:=Zb (Zb (Zb (u14.own2 (Zb (Zd hr9 hs12) n13.below) n13.blk (by decide)) (Za W14)) hb15) hb16
  refine xr (.o [] 7) (args:=#[vt16,.agg #[.slice a8 ((partO (l.take ((l.length/256)*256)) bk R).2.1.length) d8,.int .i64 ((partO (l.take ((l.length/256)*256)) bk R).2.2)]]) (Fk (partO (l.take ((l.length/256)*256)) bk R).2.1 (partO (l.take ((l.length/256)*256)) bk R).2.2 vt16 _ _ hq ⟨_,rfl,Ze hr9'1⟩) fun W17 hb17=>?_
  refine xr (.o [8,9] 10) (args:=#[]) (Se _) fun W18 hb18=>?_
  have hB'7:=bln (bln (bln hB'6 hb16) hb17) hb18
  exact xe (.r [11,12] 3) (.bool true) ⟨rfl,hB'7⟩
 have hs10:=(bln hB_5 hb9).size
 have hB'8:=bln hB'3 hb10
 refine xc 10 (args:=#[.slice a l.length c]) (ref_OfM a c l.length (l.length/256) l _ rfl (by omega) (h.below hB'8) (by omega)) ?_
 rintro _ W19 ⟨_,rfl,hb19,bj,pj,cj,rfl,_,hJ⟩
 have ho'3:=Zb (Zb (Zb ho hb9) hb10) hb19
 refine xc 2 (args:=#[.pointer (some ⟨bj,0,none⟩),.int .i64 bk,.slice pz i cz]) (rpart_G hbe (Cb _ bj pj _ cj (l.take ((l.length/256)*256)) bk pz cz i _ R _ hii hJ ho'3 (by omega))) ?_
 rintro _ W20 ⟨_,rfl,hb20,p8,c8,rfl,hD8⟩
 have hs20:=(bln hB'8 hb19).size
 refine xa 3 [.slice none 0 0,.int .i64 0] 33 fun b21 W21 n21=>?_
 have hB'9:=bln (bln hB'8 hb19) hb20
 have g21:=n21.ge hB'9
 refine xsv 1 n21.blk [.slice none 0 0,.int .i64 0] fun W22 u22 k22=>?_
 refine xd 3 .z ?_
 have hD9'1:=Zb (u22.own2 (Zb (Zb (Zb (Zd hD9 hs10) hb19) hb20) n21.below) n21.blk (by decide)) (Za W22)
 have hD8'1:=Zb (u22.own2 (Zb (Zd hD8 hs20) n21.below) n21.blk (by decide)) (Za W22)
 refine xr (.o [0,1] 2) (args:=#[.slice p9 ((partO (l.take ((l.length/256)*256)) bk R).1.length) c9,.slice p8 ((partO (l.take ((l.length/256)*256)) bk R).1.length) c8]) (Ds p9 p8 _ c9 c8 (partO (l.take ((l.length/256)*256)) bk R).1 _ rfl (Ze hD9'1) (Ze hD8'1)) fun W23 hb23=>?_
 have k22'1:=(k22.below (Za W22)).below hb23
 refine xlv (.e [3,4] 6) k22'1.rp ?_
 have hB'10:=bln (bln (u22.below (bln hB'9 n21.below) g21) (Za W22)) hb23
 refine yc (.o [] 5) (args:=#[.nilIface]) .z (told_C0 _ (hg.below hB'10)) ?_
 rintro _ W24 ⟨vt24,rfl,hb24,hq⟩
 refine⟨hb24,?_⟩
 refine xr (.o [] 7) (args:=#[vt24,.agg #[.slice none 0 0,.int .i64 0]]) (Fk [] 0 vt24 _ _ hq ⟨_,rfl,(.inl ⟨_,_,rfl,rfl,rfl⟩)⟩) fun W25 hb25=>?_
 refine xr (.o [8,9] 10) (args:=#[]) (Se _) fun W26 hb26=>?_
 have hB'11:=bln (bln (bln hB'10 hb24) hb25) hb26
 exact xe (.r [11,12] 3) (.bool true) ⟨rfl,hB'11⟩
end Go.Proofs.YtlmaglneeaecdaaGreatDoor
namespace Go.Proofs.YtlmaglneeaecdaaGreatDoor
set_option maxHeartbeats 8000000
set_option maxRecDepth 100000
open Go.ChangeShapes Go.WideShapes Go.ChangeAt Go.RowKit Go.Joins
set_option linter.unusedVariables false
theorem Zgd{H:Type}{enc:TypeId×Value→H}{P:Program}{W:World}{r:Reach}{b0:Nat}{t e:TypeId}{v:Value}{d:DataW H}{p:List MemPlace}(ht:P.underlying t=some (.slice e))(he:P.underlying e=some (.int .u8))(hC:P.cellsOf e=1)
 (hv:Value.okWide P W r b0 t v) (h:DataW.Trod enc P W 0 (fun _=>true) true t v d p):∃ l,Bys W v l:=by
 obtain⟨a,len,cap,rfl⟩:=okWide_slice ht hv
 obtain⟨fuel,hf⟩:=h
 rcases open_ints ht he hC hf with ⟨hcs,_⟩|⟨x,l,c,zs,hcs,_,hl,hm,hz,_,hcell,hwz⟩
 ·simp[Value.cells] at hcs
  obtain⟨rfl,rfl,rfl⟩:=hcs
  exact⟨[],.inl ⟨_,_,rfl,rfl,rfl⟩⟩
 ·simp[Value.cells] at hcs
  obtain⟨rfl,rfl,rfl⟩:=hcs
  have hz':zs.length=cap:=by simpa using hz
  by_cases h0:len=0
  ·subst h0
   exact⟨[],.inl ⟨_,_,rfl,rfl,rfl⟩⟩
  ·obtain⟨b,off,spot⟩:=x
   have hc:=hcell 0 (by omega)
   have hspot:spot=none:=by simpa [Addr.add] using World.cell?_spot hc
   subst hspot
   have hlen:((zs.take len).map fun n=>UInt8.ofNat n.toNat).length=len:=by simp;omega
   refine⟨(zs.take len).map fun n=>UInt8.ofNat n.toNat,.inr ⟨b,off,cap,by rw[hlen],by omega,hm,fun j x hj=>?_⟩⟩
   have hjl:j<len:=by have:=(List.getElem?_eq_some_iff.1 hj).1;simp at this;omega
   have e1:zs[j]? = some zs[j]:=List.getElem?_eq_getElem (by omega)
   have hw:=hwz zs[j] (List.getElem_mem _)
   have hcj:=hcell j (by omega)
   have e2:zs.getD j 0=zs[j]:=by simp[List.getD,e1]
   rw[e2] at hcj
   have hx:x=.int .u8 zs[j]:=by
    rw[List.getElem?_map,List.getElem?_map,List.getElem?_take_of_lt hjl,e1] at hj
    simp only[Option.map_some,Option.some.injEq] at hj
    rw[←hj]
    have hb:0≤zs[j]∧zs[j]≤255:=by simpa [Lit.wf,IntKind.min,IntKind.max,IntKind.signed,IntKind.bits] using hw
    have h3:(zs[j].toNat%256:Nat)=zs[j].toNat:=Nat.mod_eq_of_lt (by omega)
    simp only[bv,UInt8.toNat_ofNat']
    rw[show(2 ^ 8:Nat)=256 from rfl,h3,Int.toNat_of_nonneg hb.1]
   subst hx
   by_cases hj0:j=0
   ·subst hj0;simpa [Addr.add] using hcj
   ·simpa [Addr.add,hj0] using hcj
end Go.Proofs.YtlmaglneeaecdaaGreatDoor
namespace Go.Proofs.YtlmaglneeaecdaaGreatDoor
set_option maxHeartbeats 8000000
set_option maxRecDepth 100000
open Go.ChangeShapes Go.WideShapes Go.ChangeAt Go.RowKit Go.Joins Go.Deep
set_option linter.unusedVariables false
attribute [local irreducible] wpList wpAnyH Code.wp Oper.wp Go
theorem flatT2{α:Type}{f:α→List Value}(hf:∀ x,(f x).length=2):∀ (T:List α) (j:Nat) (x:Value),(T.flatMap f)[j]? = some x→∃ i,∃ h:i<T.length,∃ r,r<2∧j=i*2+r∧(f T[i])[r]? = some x
 | [],j,x,h=>by simp at h
 | y::T,j,x,h=>by
  rw[List.flatMap_cons,List.getElem?_append] at h
  by_cases hj:j<2
  ·rw[if_pos (by rw[hf];exact hj)] at h
   exact⟨0,by simp,j,hj,by omega,by simpa using h⟩
  ·rw[if_neg (by rw[hf];exact hj),hf] at h
   obtain⟨i,hi,r,hr,e,hx⟩:=flatT2 hf T (j-2) x h
   exact⟨i+1,by simpa using hi,r,hr,by omega,by simpa using hx⟩
theorem Zex{H:Type}{enc:TypeId×Value→H}{P:Program}{W:World}{r:Reach}{b0:Nat}{t e:TypeId}{f0 f1:Field}{v:Value}{d:DataW H}{p:List MemPlace}(ht:P.underlying t=some (.slice e))(he:P.underlying e=some (.struct #[f0,f1]))
 (hone:oneCellFields P #[f0,f1]=true) (hC:P.cellsOf e=2) (h0:P.underlying f0.type=some (.int .i64)) (h1:P.underlying f1.type=some (.int .i64))
 (hv:Value.okWide P W r b0 t v) (h:DataW.Trod enc P W 0 (fun _=>true) true t v d p):∃ (L:List Rt) (a:Option Addr) (c:Nat),v=.slice a L.length c∧Sts Jf W (.slice a L.length c) L:=by
 obtain⟨a,len,cap,rfl⟩:=okWide_slice ht hv
 obtain⟨fuel,hf⟩:=h
 rcases open_slice ht hf with ⟨hcs,_⟩|⟨x,l,c,m,n,D,Pl,hcs,_,hl,hm,hmm,_,hi⟩
 ·simp[Value.cells] at hcs
  obtain⟨rfl,rfl,rfl⟩:=hcs
  exact⟨[],none,0,rfl,.inl ⟨none,0,rfl,rfl,rfl⟩⟩
 ·simp[Value.cells] at hcs
  obtain⟨rfl,rfl,rfl⟩:=hcs
  obtain⟨b,off,spot⟩:=x
  have hml:len≤m:=by rw[hmm];simp;omega
  by_cases hlen:len=0
  ·subst hlen
   exact⟨[],_,_,rfl,.inl ⟨_,_,rfl,rfl,rfl⟩⟩
  have hspot:spot=none:=by
   obtain⟨cs,hc,htr⟩:=hi 0 (by omega)
   rw[hC] at hc
   obtain⟨_,hcl,hat⟩:=World.cells?_some hc
   have a0:=hat 0 (by omega)
   rw[List.getElem?_eq_getElem (by omega)] at a0
   simpa [Addr.add] using World.cell?_spot a0
  subst hspot
  have eA:∀ o n,(⟨b,o,none⟩:Addr).add n=⟨b,o+n,none⟩:=by intro o n;unfold Addr.add;split<;>simp_all
  have each:∀ i:Fin len,∃ q:Rt,∀ r x,(Jf q)[r]? = some x→W.cell? ⟨b,off+(i.val*2+r),none⟩=some x:=by
   intro i
   obtain⟨cs,hc,htr⟩:=hi i.val (by have:=i.2;omega)
   rw[hC] at hc
   obtain⟨_,hcl,hat⟩:=World.cells?_some hc
   obtain⟨y0,y1,n',_,_,t0,t1⟩:=trod_struct2 he htr
   obtain⟨o0,k0⟩:=hone_of hone 0 f0 rfl
   obtain⟨o1,k1⟩:=hone_of hone 1 f1 rfl
   match cs,hcl with
   | [c0,c1],_ =>
    have a0:=hat 0 (by omega)
    have a1:=hat 1 (by omega)
    rw[o0,k0] at t0
    rw[o1,k1] at t1
    obtain⟨z0,hz0,_,_⟩:=DataW.trod_int (cs:=[c0]) h0 (by simpa using t0)
    obtain⟨s1,hs1,_,_⟩:=DataW.trod_int (cs:=[c1]) h1 (by simpa using t1)
    simp only[List.cons.injEq,and_true] at hz0 hs1
    subst hz0 hs1
    refine⟨(z0,s1),fun r x hr=>?_⟩
    match r,hr with
    | 0,hr=>simp only[Jf,List.getElem?_cons_zero,Option.some.injEq] at hr;rw[←hr];rw[eA,eA] at a0;exact a0
    | 1,hr=>simp only[Jf,List.getElem?_cons_succ,List.getElem?_cons_zero,Option.some.injEq] at hr;rw[←hr,←Nat.add_assoc];rw[eA,eA] at a1;exact a1
    | r+2,hr=>simp[Jf] at hr
  refine⟨List.ofFn fun i=>Classical.choose (each i),some ⟨b,off,none⟩,cap,by rw[List.length_ofFn],?_⟩
  unfold Sts
  rw[List.length_ofFn]
  refine .inr ⟨b,off,cap,rfl,hl,hm,fun j x hj=>?_⟩
  obtain⟨i,hi,r,hr,e,hx⟩:=flatT2 Ye _ j x hj
  rw[List.getElem_ofFn] at hx
  rw[e]
  exact Classical.choose_spec (each ⟨i,by simpa using hi⟩) r x hx
end Go.Proofs.YtlmaglneeaecdaaGreatDoor
