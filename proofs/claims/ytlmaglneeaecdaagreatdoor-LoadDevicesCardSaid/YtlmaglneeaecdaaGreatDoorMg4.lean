/- (*walker).look. -/
import Derived.StillTailTactics
import Derived.Test.YtlmaglneeaecdaaGreatDoorMg3
namespace Go.Proofs.YtlmaglneeaecdaaGreatDoor
set_option maxHeartbeats 8000000
set_option maxRecDepth 100000
open Go.RowKit Go.Extern.Stop Go.Stop Go.Extern
set_option linter.unusedVariables false
attribute [local irreducible] wpList wpAnyH Code.wp Oper.wp Go
def Zw(l:List UInt8)(way:List Int)(no tree lo hi deep:Int):Int :=
 if Qx way no=true then 11 else if 16≤way.length then 10 else if Xc l no tree≠0 then Xc l no tree else if Yn lo hi (Yq (inB l no) (Zn (inB l no)))≠0 then 9 else
  if Xk (inB l no)=true∧deep≠0∧deep≠((way.length+1:Nat):Int) then 10 else 0
def LookP(B bw:Nat)(cs:List Value)(l:List UInt8)(way:List Int)(no tree lo hi deep:Int)(w:World)(e:Ending)(w':World):Prop :=
 Below B w w'∧Ze [229] w w'∧Blk w' bw cs 229 ∧
 ((Zw l way no tree lo hi deep≠0∧∃ a4 b4 k4 n4 c4 v4 m4 d4 ty x,e=.returned (.tuple #[.agg #[.int .i64 a4,.bool b4,.slice k4 n4 c4,.slice v4 m4 d4],.iface ty x])∧Vu w' [some no] (some (Zw l way no tree lo hi deep)) (.iface ty x)) ∨
  (Zw l way no tree lo hi deep=0∧Xc l no tree=0∧∃ kp kc vp vc,e=.returned (.tuple #[.agg #[.int .i64 (Xt (inB l no)),.bool (Xk (inB l no)),.slice kp (Zn (inB l no)) kc,.slice vp (Zn (inB l no)) vc],.nilIface]) ∧
   w'.ownsRow w.heap.size 3 1 (.slice kp (Zn (inB l no)) kc) (Zn (inB l no)) ((Yq (inB l no) (Zn (inB l no))).map (Value.int .i64))∧w'.ownsRow w.heap.size 9 1 (.slice vp (Zn (inB l no)) vc) (Zn (inB l no)) ((Kt (inB l no) (Zn (inB l no))).map sv)))
theorem Ws{w:World}{v:Value}{n:Nat}{l:List Int}(h:Sl w v n (l.map (Value.int .i64)))(hl:l.length=n):Ints w v l:=by subst hl;exact h
theorem Zb1(B Bi b bw:Nat)(p:Option Addr)(n c:Nat)(l:List UInt8)(c0 c1 c4 c7 c9:Value)(pw:Option Addr)(cw:Nat)(way:List Int)(no tree lo hi deep looked:Int)(w:World)(hBb:B≤bw)(hBw:B≤w.heap.size)(kW:Blk w bw [c0,c1,.int .i64 deep,.int .i64 looked,c4,.pointer (some ⟨b,0,none⟩),.int .i64 tree,c7,.slice pw way.length cw,c9] 229)(hway:w.ownsRow B 3 1 (.slice pw way.length cw) way.length (way.map (Value.int .i64)))(hI:ImgR Bi b p n c l w)(hwl:way.length≤1000000)(hl0:0≤looked)(hl1:looked<9223372036854775807) :
 Calls Tryz.prog 160 #[.pointer (some ⟨bw,0,none⟩),.int .i64 no,.agg #[.int .i64 lo,.int .i64 hi]] w (LookP B bw [c0,c1,.int .i64 deep,.int .i64 (looked+1),c4,.pointer (some ⟨b,0,none⟩),.int .i64 tree,c7,.slice pw way.length cw,c9] l way no tree lo hi deep w):=by
 refine zin 97 Tryz.func160 ?_
 refine xa 2 [.int .i64 lo,.int .i64 hi] 232 fun b1 W1 n1=>?_
 refine xa 0 [.int .i64 0,.bool false,.slice none 0 0,.slice none 0 0] 220 fun b2 W2 n2=>?_
 have kW'1:=(kW.below n1.below).below n2.below
 refine xb 9 3 kW'1 ?_
 refine xw 0 (looked+1) ?_
 refine xs 3 kW'1 [c0,c1,.int .i64 deep,.int .i64 (looked+1),c4,.pointer (some ⟨b,0,none⟩),.int .i64 tree,c7,.slice pw way.length cw,c9] fun W3 u3 k3=>?_
 refine xb 8 8 k3 ?_
 have hway'1:=u3.own2 (Za (Za hway n1.below) n2.below) kW'1 (by decide)
 refine xr 1 (args:=#[.slice pw way.length cw,.int .i64 no]) (containsI pw cw way no _ (Zg hway'1) hwl) fun W4 hb4=>?_
 refine xi 2 (Qx way no) (fun hc5=>?_) (fun hc5=>?_)
 ·refine xc 5 (args:=#[.int .i64 no,.iface 91 (.int .i64 11)]) (Qq no (some 11) [] _ _ rfl) ?_
  rintro _ W6 ⟨r6,rfl,hb6,hv6⟩
  rw[Vk] at hv6
  obtain⟨t6,x6,rfl⟩:=hv6.iface
  have k2:=((u3.blkT n2.blk kW'1 (by decide)).below hb4).below hb6
  refine xsv 0 k2 [.int .i64 0,.bool false,.slice none 0 0,.slice none 0 0] fun W7 u7 k7=>?_
  have g2:=n2.ge0 (blB (Below.refl B w) hBw n1.below)
  have hB:=u7.below (blB (blB (u3.below (blB (blB (Below.refl B w) hBw n1.below) hBw n2.below) hBb) hBw hb4) hBw hb6) (Nat.le_trans hBw g2)
  have hO:=(Ze.upd_new (((((show Ze [229] w _ from(Ze.of_below n1.below)).trans (Ze.of_below n2.below)).trans (Ze.of_upd u3 kW'1 (by decide))).trans (Ze.of_below hb4)).trans (Ze.of_below hb6)) u7 g2)
  have k3'1:=u7.blkT ((k3.below hb4).below hb6) k2 (by decide)
  have hv6'1:=hv6.upd u7 k2 (by decide)
  exact xec 5 k7 (.tuple #[.agg #[.int .i64 0,.bool false,.slice none 0 0,.slice none 0 0],.iface t6 (x6)]) ⟨hB,hO,k3'1,.inl ⟨by(unfold Zw;(repeat' split)<;>first|rfl|assumption|decide|omega|exact absurd (Eq.trans (Eq.symm ‹Qx _ _=true›) ‹Qx _ _=false›) (by decide)|(rename_i q;exact absurd ⟨by assumption,by assumption,by assumption⟩ q)|(rename_i q;obtain⟨q1,q2,q3⟩:=q;exact absurd (Eq.trans (Eq.symm q1) ‹Xk _=false›) (by decide))|(rename_i q;obtain⟨q1,q2,q3⟩:=q;omega)),_,_,_,_,_,_,_,_,_,_,rfl,by(unfold Zw;(repeat' split)<;>first|exact hv6'1|(exfalso;omega)|contradiction|exact absurd (Eq.trans (Eq.symm ‹Qx _ _=true›) ‹Qx _ _=false›) (by decide)|(rename_i q;exact absurd ⟨by assumption,by assumption,by assumption⟩ q)|(rename_i q;obtain⟨q1,q2,q3⟩:=q;exact absurd (Eq.trans (Eq.symm q1) ‹Xk _=false›) (by decide))|(rename_i q;obtain⟨q1,q2,q3⟩:=q;omega))⟩⟩
 have k3'2:=k3.below hb4
 refine xb 8 8 k3'2 ?_
 refine xid 4 ((↑way.length:Int)≥(16:Int)) (fun hc8=>?_) (fun hc8=>?_)
 ·refine xc 5 (args:=#[.int .i64 no,.iface 91 (.int .i64 10)]) (Qq no (some 10) [] _ _ rfl) ?_
  rintro _ W9 ⟨r9,rfl,hb9,hv9⟩
  rw[Vk] at hv9
  obtain⟨t9,x9,rfl⟩:=hv9.iface
  have k2:=((u3.blkT n2.blk kW'1 (by decide)).below hb4).below hb9
  refine xsv 0 k2 [.int .i64 0,.bool false,.slice none 0 0,.slice none 0 0] fun W10 u10 k10=>?_
  have g2:=n2.ge0 (blB (Below.refl B w) hBw n1.below)
  have hB:=u10.below (blB (blB (u3.below (blB (blB (Below.refl B w) hBw n1.below) hBw n2.below) hBb) hBw hb4) hBw hb9) (Nat.le_trans hBw g2)
  have hO:=(Ze.upd_new (((((show Ze [229] w _ from(Ze.of_below n1.below)).trans (Ze.of_below n2.below)).trans (Ze.of_upd u3 kW'1 (by decide))).trans (Ze.of_below hb4)).trans (Ze.of_below hb9)) u10 g2)
  have k3'3:=u10.blkT (k3'2.below hb9) k2 (by decide)
  have hv9'1:=hv9.upd u10 k2 (by decide)
  exact xec 5 k10 (.tuple #[.agg #[.int .i64 0,.bool false,.slice none 0 0,.slice none 0 0],.iface t9 (x9)]) ⟨hB,hO,k3'3,.inl ⟨by(unfold Zw;(repeat' split)<;>first|rfl|assumption|decide|omega|exact absurd (Eq.trans (Eq.symm ‹Qx _ _=true›) ‹Qx _ _=false›) (by decide)|(rename_i q;exact absurd ⟨by assumption,by assumption,by assumption⟩ q)|(rename_i q;obtain⟨q1,q2,q3⟩:=q;exact absurd (Eq.trans (Eq.symm q1) ‹Xk _=false›) (by decide))|(rename_i q;obtain⟨q1,q2,q3⟩:=q;omega)),_,_,_,_,_,_,_,_,_,_,rfl,by(unfold Zw;(repeat' split)<;>first|exact hv9'1|(exfalso;omega)|contradiction|exact absurd (Eq.trans (Eq.symm ‹Qx _ _=true›) ‹Qx _ _=false›) (by decide)|(rename_i q;exact absurd ⟨by assumption,by assumption,by assumption⟩ q)|(rename_i q;obtain⟨q1,q2,q3⟩:=q;exact absurd (Eq.trans (Eq.symm q1) ‹Xk _=false›) (by decide))|(rename_i q;obtain⟨q1,q2,q3⟩:=q;omega))⟩⟩
 refine xd 3 (.t B [220]) ?_
 have k3'4:=k3'2.below (Zb W4)
 refine xbt (.e [0,1,2] 3) 5 B [220] k3'4 ?_
 refine xbt (.e [4,5,6,7] 8) 6 B [220] k3'4 ?_
 refine xm2 0 9 13 ?_ ?_
 ·have hI'1:=((((hI.below n1.below).below n2.below).only (Ze.of_upd (T:=[229]) u3 kW'1 (by decide)) (by decide)).below hb4).below (Zb W4)
  refine yc 0 (args:=#[.pointer (some ⟨b,0,none⟩),.int .i64 no,.int .i64 tree]) (.t B [220]) (Sh Bi b p n c l no tree _ hI'1) ?_
  rintro e W11 hq11
  rcases hq11 with ⟨he,bf,rfl,hb11,hv⟩|⟨he,kp,kc,vp,vc,rfl,hb11,hk,hv_⟩
  ·refine⟨(SF.of_below _ hb11),?_⟩
   refine xa (.o [10,11,12] 13) [.int .i64 0,.bool false,.slice none 0 0,.slice none 0 0] 220 fun b12 W12 n12=>?_
   have k2:=(((u3.blkT n2.blk kW'1 (by decide)).below hb4).below (Zb W4)).below hb11
   have d12_b2:=n12.ne k2
   have hB:=blB (blB (blB (u3.below (blB (blB (Below.refl B w) hBw n1.below) hBw n2.below) hBb) hBw hb4) hBw (Zb W4)) hBw hb11
   have g12:=n12.ge0 hB
   refine ysv (.o [] 14) n12.blk [.int .i64 0,.bool false,.slice none 0 0,.slice none 0 0] (.t B [220]) fun W13 u13 k13=>⟨(Zm u13 n12.blk (Nat.le_trans hBw g12) (by decide)),?_⟩
   refine xlv (.r [15] 14) k13.rp ?_
   have k2'1:=u13.blk (k2.below n12.below) (Ne.symm (Ne.symm d12_b2))
   refine xsv 1 k2'1 [.int .i64 0,.bool false,.slice none 0 0,.slice none 0 0] fun W14 u14 k14=>?_
   have g2:=n2.ge0 (blB (Below.refl B w) hBw n1.below)
   have hB'1:=u14.below (u13.below (blB hB hBw n12.below) (Nat.le_trans hBw g12)) (Nat.le_trans hBw g2)
   have hO:=(Ze.upd_new (Ze.upd_new (((((((show Ze [229] w _ from(Ze.of_below n1.below)).trans (Ze.of_below n2.below)).trans (Ze.of_upd u3 kW'1 (by decide))).trans (Ze.of_below hb4)).trans (Ze.of_below (Zb W4))).trans (Ze.of_below hb11)).trans (Ze.of_below n12.below)) u13 g12) u14 g2)
   have k3'5:=u14.blkT (u13.blkT ((k3'4.below hb11).below n12.below) n12.blk (by decide)) k2'1 (by decide)
   have hv'1:=((hv.below n12.below).upd u13 n12.blk (by decide)).upd u14 k2'1 (by decide)
   exact xec 6 k14 (.tuple #[.agg #[.int .i64 0,.bool false,.slice none 0 0,.slice none 0 0],.iface 179 (.pointer (some ⟨bf,0,none⟩))]) ⟨hB'1,hO,k3'5,.inl ⟨by(unfold Zw;(repeat' split)<;>first|rfl|assumption|decide|omega|exact absurd (Eq.trans (Eq.symm ‹Qx _ _=true›) ‹Qx _ _=false›) (by decide)|(rename_i q;exact absurd ⟨by assumption,by assumption,by assumption⟩ q)|(rename_i q;obtain⟨q1,q2,q3⟩:=q;exact absurd (Eq.trans (Eq.symm q1) ‹Xk _=false›) (by decide))|(rename_i q;obtain⟨q1,q2,q3⟩:=q;omega)),_,_,_,_,_,_,_,_,_,_,rfl,by(unfold Zw;(repeat' split)<;>first|exact hv'1|(exfalso;omega)|contradiction|exact absurd (Eq.trans (Eq.symm ‹Qx _ _=true›) ‹Qx _ _=false›) (by decide)|(rename_i q;exact absurd ⟨by assumption,by assumption,by assumption⟩ q)|(rename_i q;obtain⟨q1,q2,q3⟩:=q;exact absurd (Eq.trans (Eq.symm q1) ‹Xk _=false›) (by decide))|(rename_i q;obtain⟨q1,q2,q3⟩:=q;omega))⟩⟩
  have hs11:=(blB (blB (u3.below (blB (blB (Below.refl B w) hBw n1.below) hBw n2.below) hBb) hBw hb4) hBw (Zb W4)).size
  refine⟨(SF.of_below _ hb11),?_⟩
  refine xa (.o [10,11,12] 13) [.int .i64 0,.bool false,.slice none 0 0,.slice none 0 0] 220 fun b15 W15 n15=>?_
  have k2:=(((u3.blkT n2.blk kW'1 (by decide)).below hb4).below (Zb W4)).below hb11
  have d15_b2:=n15.ne k2
  have hB:=blB (blB (blB (u3.below (blB (blB (Below.refl B w) hBw n1.below) hBw n2.below) hBb) hBw hb4) hBw (Zb W4)) hBw hb11
  have g15:=n15.ge0 hB
  refine ysv (.o [] 14) n15.blk [.int .i64 (Xt (inB l no)),.bool (Xk (inB l no)),.slice kp (Zn (inB l no)) kc,.slice vp (Zn (inB l no)) vc] (.t B [220]) fun W16 u16 k16=>⟨(Zm u16 n15.blk (Nat.le_trans hBw g15) (by decide)),?_⟩
  have k1:=u16.blkT (((((u3.blkT (n1.blk.below n2.below) kW'1 (by decide)).below hb4).below (Zb W4)).below hb11).below n15.below) n15.blk (by decide)
  refine xlv (.r [15] 14) k1.rp ?_
  refine xb 1 2 k16 ?_
  have hk'1:=u16.own2 (Za (Zf hk hs11) n15.below) n15.blk (by decide)
  refine xr 0 (args:=#[.agg #[.int .i64 lo,.int .i64 hi],.slice kp (Zn (inB l no)) kc]) (Dk lo hi _ (Yq (inB l no) (Zn (inB l no))) _ (Ws (Zg hk'1) (Ym _ _))) fun W17 hb17=>?_
  refine xin 4 (Yn lo hi (Yq (inB l no) (Zn (inB l no)))) (0:Int) (fun hc18=>?_) (fun hc18=>?_)
  ·refine xd 1 (.t B [220]) ?_
   refine xm2 (.b [1,2]) 0 3 ?_ ?_
   ·have k16'1:=(k16.below hb17).below (Zb W17)
    refine xlv 0 k16'1.rp ?_
    refine yc (.o [] 3) (args:=#[.int .i64 no,.iface 91 (.int .i64 9)]) (.t B [220]) (Qq no (some 9) [] _ _ rfl) ?_
    rintro _ W19 ⟨r19,rfl,hb19,hv19⟩
    refine⟨(SF.of_below _ hb19),?_⟩
    rw[Vk] at hv19
    obtain⟨t19,x19,rfl⟩:=hv19.iface
    have k2'2:=(((u16.blk (k2.below n15.below) (Ne.symm (Ne.symm d15_b2))).below hb17).below (Zb W17)).below hb19
    have g2:=n2.ge0 (blB (Below.refl B w) hBw n1.below)
    refine ysv (.o [] 4) k2'2 [.int .i64 (Xt (inB l no)),.bool (Xk (inB l no)),.slice kp (Zn (inB l no)) kc,.slice vp (Zn (inB l no)) vc] (.t B [220]) fun W20 u20 k20=>⟨(Zm u20 k2'2 (Nat.le_trans hBw g2) (by decide)),?_⟩
    have hB'2:=u20.below (blB (blB (blB (u16.below (blB hB hBw n15.below) (Nat.le_trans hBw g15)) hBw hb17) hBw (Zb W17)) hBw hb19) (Nat.le_trans hBw g2)
    have hO:=(Ze.upd_new ((((Ze.upd_new (((((((show Ze [229] w _ from(Ze.of_below n1.below)).trans (Ze.of_below n2.below)).trans (Ze.of_upd u3 kW'1 (by decide))).trans (Ze.of_below hb4)).trans (Ze.of_below (Zb W4))).trans (Ze.of_below hb11)).trans (Ze.of_below n15.below)) u16 g15).trans (Ze.of_below hb17)).trans (Ze.of_below (Zb W17))).trans (Ze.of_below hb19)) u20 g2)
    have k3'6:=u20.blkT ((((u16.blkT ((k3'4.below hb11).below n15.below) n15.blk (by decide)).below hb17).below (Zb W17)).below hb19) k2'2 (by decide)
    have hv19'1:=hv19.upd u20 k2'2 (by decide)
    exact xec (.r [5] 5) k20 (.tuple #[.agg #[.int .i64 (Xt (inB l no)),.bool (Xk (inB l no)),.slice kp (Zn (inB l no)) kc,.slice vp (Zn (inB l no)) vc],.iface t19 (x19)]) ⟨hB'2,hO,k3'6,.inl ⟨by(unfold Zw;(repeat' split)<;>first|rfl|assumption|decide|omega|exact absurd (Eq.trans (Eq.symm ‹Qx _ _=true›) ‹Qx _ _=false›) (by decide)|(rename_i q;exact absurd ⟨by assumption,by assumption,by assumption⟩ q)|(rename_i q;obtain⟨q1,q2,q3⟩:=q;exact absurd (Eq.trans (Eq.symm q1) ‹Xk _=false›) (by decide))|(rename_i q;obtain⟨q1,q2,q3⟩:=q;omega)),_,_,_,_,_,_,_,_,_,_,rfl,by(unfold Zw;(repeat' split)<;>first|exact hv19'1|(exfalso;omega)|contradiction|exact absurd (Eq.trans (Eq.symm ‹Qx _ _=true›) ‹Qx _ _=false›) (by decide)|(rename_i q;exact absurd ⟨by assumption,by assumption,by assumption⟩ q)|(rename_i q;obtain⟨q1,q2,q3⟩:=q;exact absurd (Eq.trans (Eq.symm q1) ‹Xk _=false›) (by decide))|(rename_i q;obtain⟨q1,q2,q3⟩:=q;omega))⟩⟩
   refine yc 0 (args:=#[.int .i64 no,.iface 91 (.int .i64 9)]) (.t B [220]) (Qq no (some 9) [] _ _ rfl) ?_
   rintro _ W21 ⟨r21,rfl,hb21,hv21⟩
   refine⟨(SF.of_below _ hb21),?_⟩
   rw[Vk] at hv21
   obtain⟨t21,x21,rfl⟩:=hv21.iface
   have k16'2:=((k16.below hb17).below (Zb W17)).below hb21
   refine xlv (.o [] 0) k16'2.rp ?_
   have k2'3:=(((u16.blk (k2.below n15.below) (Ne.symm (Ne.symm d15_b2))).below hb17).below (Zb W17)).below hb21
   have g2:=n2.ge0 (blB (Below.refl B w) hBw n1.below)
   refine ysv (.o [] 4) k2'3 [.int .i64 (Xt (inB l no)),.bool (Xk (inB l no)),.slice kp (Zn (inB l no)) kc,.slice vp (Zn (inB l no)) vc] (.t B [220]) fun W22 u22 k22=>⟨(Zm u22 k2'3 (Nat.le_trans hBw g2) (by decide)),?_⟩
   have hB'3:=u22.below (blB (blB (blB (u16.below (blB hB hBw n15.below) (Nat.le_trans hBw g15)) hBw hb17) hBw (Zb W17)) hBw hb21) (Nat.le_trans hBw g2)
   have hO:=(Ze.upd_new ((((Ze.upd_new (((((((show Ze [229] w _ from(Ze.of_below n1.below)).trans (Ze.of_below n2.below)).trans (Ze.of_upd u3 kW'1 (by decide))).trans (Ze.of_below hb4)).trans (Ze.of_below (Zb W4))).trans (Ze.of_below hb11)).trans (Ze.of_below n15.below)) u16 g15).trans (Ze.of_below hb17)).trans (Ze.of_below (Zb W17))).trans (Ze.of_below hb21)) u22 g2)
   have k3'7:=u22.blkT ((((u16.blkT ((k3'4.below hb11).below n15.below) n15.blk (by decide)).below hb17).below (Zb W17)).below hb21) k2'3 (by decide)
   have hv21'1:=hv21.upd u22 k2'3 (by decide)
   exact xec (.r [5] 5) k22 (.tuple #[.agg #[.int .i64 (Xt (inB l no)),.bool (Xk (inB l no)),.slice kp (Zn (inB l no)) kc,.slice vp (Zn (inB l no)) vc],.iface t21 (x21)]) ⟨hB'3,hO,k3'7,.inl ⟨by(unfold Zw;(repeat' split)<;>first|rfl|assumption|decide|omega|exact absurd (Eq.trans (Eq.symm ‹Qx _ _=true›) ‹Qx _ _=false›) (by decide)|(rename_i q;exact absurd ⟨by assumption,by assumption,by assumption⟩ q)|(rename_i q;obtain⟨q1,q2,q3⟩:=q;exact absurd (Eq.trans (Eq.symm q1) ‹Xk _=false›) (by decide))|(rename_i q;obtain⟨q1,q2,q3⟩:=q;omega)),_,_,_,_,_,_,_,_,_,_,rfl,by(unfold Zw;(repeat' split)<;>first|exact hv21'1|(exfalso;omega)|contradiction|exact absurd (Eq.trans (Eq.symm ‹Qx _ _=true›) ‹Qx _ _=false›) (by decide)|(rename_i q;exact absurd ⟨by assumption,by assumption,by assumption⟩ q)|(rename_i q;obtain⟨q1,q2,q3⟩:=q;exact absurd (Eq.trans (Eq.symm q1) ‹Xk _=false›) (by decide))|(rename_i q;obtain⟨q1,q2,q3⟩:=q;omega))⟩⟩
  refine xd 1 .z ?_
  have k16'3:=(k16.below hb17).below (Zb W17)
  refine xb (.e [0] 1) 1 k16'3 ?_
  refine xg (.b [2]) [69,70] (Xk (inB l no)) (fun hc23=>?_) (fun hc23=>?_)
  ·have k3'8:=((u16.blkT ((k3'4.below hb11).below n15.below) n15.blk (by decide)).below hb17).below (Zb W17)
   refine xb (.e [3,4,5,6] 7) 2 k3'8 ?_
   refine xg (.b [8,9,10]) [76,77,78] (deep != (0:Int)) (fun hc24=>?_) (fun hc24=>?_)
   ·have hc24:=Vp hc24
    refine xb (.e [11,12,13,14] 15) 2 k3'8 ?_
    refine xb (.e [16,17,18] 19) 8 k3'8 ?_
    refine xwm (.e [20] 21) ((↑way.length:Int)+1) (↑(way.length+1):Int) ?_
    refine xin (.r [22,23,24] 2) deep (↑(way.length+1):Int) (fun hc25=>?_) (fun hc25=>?_)
    ·refine xd 1 (.t B [220]) ?_
     refine xm2 (.b [1,2]) 0 3 ?_ ?_
     ·have k16'4:=k16'3.below (Zb W17.drew)
      refine xlv 0 k16'4.rp ?_
      refine yc (.o [] 3) (args:=#[.int .i64 no,.iface 91 (.int .i64 10)]) (.t B [220]) (Qq no (some 10) [] _ _ rfl) ?_
      rintro _ W26 ⟨r26,rfl,hb26,hv26⟩
      refine⟨(SF.of_below _ hb26),?_⟩
      rw[Vk] at hv26
      obtain⟨t26,x26,rfl⟩:=hv26.iface
      have k2'4:=((((u16.blk (k2.below n15.below) (Ne.symm (Ne.symm d15_b2))).below hb17).below (Zb W17)).below (Zb W17.drew)).below hb26
      have g2:=n2.ge0 (blB (Below.refl B w) hBw n1.below)
      refine ysv (.o [] 4) k2'4 [.int .i64 (Xt (inB l no)),.bool (Xk (inB l no)),.slice kp (Zn (inB l no)) kc,.slice vp (Zn (inB l no)) vc] (.t B [220]) fun W27 u27 k27=>⟨(Zm u27 k2'4 (Nat.le_trans hBw g2) (by decide)),?_⟩
      have hB'4:=u27.below (blB (blB (blB (blB (u16.below (blB hB hBw n15.below) (Nat.le_trans hBw g15)) hBw hb17) hBw (Zb W17)) hBw (Zb W17.drew)) hBw hb26) (Nat.le_trans hBw g2)
      have hO:=(Ze.upd_new (((((Ze.upd_new (((((((show Ze [229] w _ from(Ze.of_below n1.below)).trans (Ze.of_below n2.below)).trans (Ze.of_upd u3 kW'1 (by decide))).trans (Ze.of_below hb4)).trans (Ze.of_below (Zb W4))).trans (Ze.of_below hb11)).trans (Ze.of_below n15.below)) u16 g15).trans (Ze.of_below hb17)).trans (Ze.of_below (Zb W17))).trans (Ze.of_below (Zb W17.drew))).trans (Ze.of_below hb26)) u27 g2)
      have k3'9:=u27.blkT ((k3'8.below (Zb W17.drew)).below hb26) k2'4 (by decide)
      have hv26'1:=hv26.upd u27 k2'4 (by decide)
      exact xec (.r [5] 5) k27 (.tuple #[.agg #[.int .i64 (Xt (inB l no)),.bool (Xk (inB l no)),.slice kp (Zn (inB l no)) kc,.slice vp (Zn (inB l no)) vc],.iface t26 (x26)]) ⟨hB'4,hO,k3'9,.inl ⟨by(unfold Zw;(repeat' split)<;>first|rfl|assumption|decide|omega|exact absurd (Eq.trans (Eq.symm ‹Qx _ _=true›) ‹Qx _ _=false›) (by decide)|(rename_i q;exact absurd ⟨by assumption,by assumption,by assumption⟩ q)|(rename_i q;obtain⟨q1,q2,q3⟩:=q;exact absurd (Eq.trans (Eq.symm q1) ‹Xk _=false›) (by decide))|(rename_i q;obtain⟨q1,q2,q3⟩:=q;omega)),_,_,_,_,_,_,_,_,_,_,rfl,by(unfold Zw;(repeat' split)<;>first|exact hv26'1|(exfalso;omega)|contradiction|exact absurd (Eq.trans (Eq.symm ‹Qx _ _=true›) ‹Qx _ _=false›) (by decide)|(rename_i q;exact absurd ⟨by assumption,by assumption,by assumption⟩ q)|(rename_i q;obtain⟨q1,q2,q3⟩:=q;exact absurd (Eq.trans (Eq.symm q1) ‹Xk _=false›) (by decide))|(rename_i q;obtain⟨q1,q2,q3⟩:=q;omega))⟩⟩
     refine yc 0 (args:=#[.int .i64 no,.iface 91 (.int .i64 10)]) (.t B [220]) (Qq no (some 10) [] _ _ rfl) ?_
     rintro _ W28 ⟨r28,rfl,hb28,hv28⟩
     refine⟨(SF.of_below _ hb28),?_⟩
     rw[Vk] at hv28
     obtain⟨t28,x28,rfl⟩:=hv28.iface
     have k16'5:=(k16'3.below (Zb W17.drew)).below hb28
     refine xlv (.o [] 0) k16'5.rp ?_
     have k2'5:=((((u16.blk (k2.below n15.below) (Ne.symm (Ne.symm d15_b2))).below hb17).below (Zb W17)).below (Zb W17.drew)).below hb28
     have g2:=n2.ge0 (blB (Below.refl B w) hBw n1.below)
     refine ysv (.o [] 4) k2'5 [.int .i64 (Xt (inB l no)),.bool (Xk (inB l no)),.slice kp (Zn (inB l no)) kc,.slice vp (Zn (inB l no)) vc] (.t B [220]) fun W29 u29 k29=>⟨(Zm u29 k2'5 (Nat.le_trans hBw g2) (by decide)),?_⟩
     have hB'5:=u29.below (blB (blB (blB (blB (u16.below (blB hB hBw n15.below) (Nat.le_trans hBw g15)) hBw hb17) hBw (Zb W17)) hBw (Zb W17.drew)) hBw hb28) (Nat.le_trans hBw g2)
     have hO:=(Ze.upd_new (((((Ze.upd_new (((((((show Ze [229] w _ from(Ze.of_below n1.below)).trans (Ze.of_below n2.below)).trans (Ze.of_upd u3 kW'1 (by decide))).trans (Ze.of_below hb4)).trans (Ze.of_below (Zb W4))).trans (Ze.of_below hb11)).trans (Ze.of_below n15.below)) u16 g15).trans (Ze.of_below hb17)).trans (Ze.of_below (Zb W17))).trans (Ze.of_below (Zb W17.drew))).trans (Ze.of_below hb28)) u29 g2)
     have k3'10:=u29.blkT ((k3'8.below (Zb W17.drew)).below hb28) k2'5 (by decide)
     have hv28'1:=hv28.upd u29 k2'5 (by decide)
     exact xec (.r [5] 5) k29 (.tuple #[.agg #[.int .i64 (Xt (inB l no)),.bool (Xk (inB l no)),.slice kp (Zn (inB l no)) kc,.slice vp (Zn (inB l no)) vc],.iface t28 (x28)]) ⟨hB'5,hO,k3'10,.inl ⟨by(unfold Zw;(repeat' split)<;>first|rfl|assumption|decide|omega|exact absurd (Eq.trans (Eq.symm ‹Qx _ _=true›) ‹Qx _ _=false›) (by decide)|(rename_i q;exact absurd ⟨by assumption,by assumption,by assumption⟩ q)|(rename_i q;obtain⟨q1,q2,q3⟩:=q;exact absurd (Eq.trans (Eq.symm q1) ‹Xk _=false›) (by decide))|(rename_i q;obtain⟨q1,q2,q3⟩:=q;omega)),_,_,_,_,_,_,_,_,_,_,rfl,by(unfold Zw;(repeat' split)<;>first|exact hv28'1|(exfalso;omega)|contradiction|exact absurd (Eq.trans (Eq.symm ‹Qx _ _=true›) ‹Qx _ _=false›) (by decide)|(rename_i q;exact absurd ⟨by assumption,by assumption,by assumption⟩ q)|(rename_i q;obtain⟨q1,q2,q3⟩:=q;exact absurd (Eq.trans (Eq.symm q1) ‹Xk _=false›) (by decide))|(rename_i q;obtain⟨q1,q2,q3⟩:=q;omega))⟩⟩
    refine xlv 5 k16'3.rp ?_
    have k2'6:=((u16.blk (k2.below n15.below) (Ne.symm (Ne.symm d15_b2))).below hb17).below (Zb W17)
    refine xsv 0 k2'6 [.int .i64 (Xt (inB l no)),.bool (Xk (inB l no)),.slice kp (Zn (inB l no)) kc,.slice vp (Zn (inB l no)) vc] fun W30 u30 k30=>?_
    have g2:=n2.ge0 (blB (Below.refl B w) hBw n1.below)
    have hB'6:=u30.below (blB (blB (u16.below (blB hB hBw n15.below) (Nat.le_trans hBw g15)) hBw hb17) hBw (Zb W17)) (Nat.le_trans hBw g2)
    have hO:=(Ze.upd_new (((Ze.upd_new (((((((show Ze [229] w _ from(Ze.of_below n1.below)).trans (Ze.of_below n2.below)).trans (Ze.of_upd u3 kW'1 (by decide))).trans (Ze.of_below hb4)).trans (Ze.of_below (Zb W4))).trans (Ze.of_below hb11)).trans (Ze.of_below n15.below)) u16 g15).trans (Ze.of_below hb17)).trans (Ze.of_below (Zb W17))) u30 g2)
    have k3'11:=u30.blkT k3'8 k2'6 (by decide)
    have hk'2:=u30.own2 (Za (Za hk'1 hb17) (Zb W17)) k2'6 (by decide)
    have hv_'1:=u30.own2 (Za (Za (u16.own2 (Za (Zf hv_ hs11) n15.below) n15.blk (by decide)) hb17) (Zb W17)) k2'6 (by decide)
    exact xec 4 k30 (.tuple #[.agg #[.int .i64 (Xt (inB l no)),.bool (Xk (inB l no)),.slice kp (Zn (inB l no)) kc,.slice vp (Zn (inB l no)) vc],.nilIface]) ⟨hB'6,hO,k3'11,.inr ⟨by(unfold Zw;(repeat' split)<;>first|rfl|assumption|decide|omega|exact absurd (Eq.trans (Eq.symm ‹Qx _ _=true›) ‹Qx _ _=false›) (by decide)|(rename_i q;exact absurd ⟨by assumption,by assumption,by assumption⟩ q)|(rename_i q;obtain⟨q1,q2,q3⟩:=q;exact absurd (Eq.trans (Eq.symm q1) ‹Xk _=false›) (by decide))|(rename_i q;obtain⟨q1,q2,q3⟩:=q;omega)),by assumption,_,_,_,_,rfl,hk'2,hv_'1⟩⟩
   have hc24:=Xq hc24
   refine xlv (.r [11,12,13,14,15,16,17,18,19,20,21,22,23,24] 8) k16'3.rp ?_
   have k2'7:=((u16.blk (k2.below n15.below) (Ne.symm (Ne.symm d15_b2))).below hb17).below (Zb W17)
   refine xsv 0 k2'7 [.int .i64 (Xt (inB l no)),.bool (Xk (inB l no)),.slice kp (Zn (inB l no)) kc,.slice vp (Zn (inB l no)) vc] fun W31 u31 k31=>?_
   have g2:=n2.ge0 (blB (Below.refl B w) hBw n1.below)
   have hB'7:=u31.below (blB (blB (u16.below (blB hB hBw n15.below) (Nat.le_trans hBw g15)) hBw hb17) hBw (Zb W17)) (Nat.le_trans hBw g2)
   have hO:=(Ze.upd_new (((Ze.upd_new (((((((show Ze [229] w _ from(Ze.of_below n1.below)).trans (Ze.of_below n2.below)).trans (Ze.of_upd u3 kW'1 (by decide))).trans (Ze.of_below hb4)).trans (Ze.of_below (Zb W4))).trans (Ze.of_below hb11)).trans (Ze.of_below n15.below)) u16 g15).trans (Ze.of_below hb17)).trans (Ze.of_below (Zb W17))) u31 g2)
   have k3'12:=u31.blkT k3'8 k2'7 (by decide)
   have hk'3:=u31.own2 (Za (Za hk'1 hb17) (Zb W17)) k2'7 (by decide)
   have hv_'2:=u31.own2 (Za (Za (u16.own2 (Za (Zf hv_ hs11) n15.below) n15.blk (by decide)) hb17) (Zb W17)) k2'7 (by decide)
   exact xec 4 k31 (.tuple #[.agg #[.int .i64 (Xt (inB l no)),.bool (Xk (inB l no)),.slice kp (Zn (inB l no)) kc,.slice vp (Zn (inB l no)) vc],.nilIface]) ⟨hB'7,hO,k3'12,.inr ⟨by(unfold Zw;(repeat' split)<;>first|rfl|assumption|decide|omega|exact absurd (Eq.trans (Eq.symm ‹Qx _ _=true›) ‹Qx _ _=false›) (by decide)|(rename_i q;exact absurd ⟨by assumption,by assumption,by assumption⟩ q)|(rename_i q;obtain⟨q1,q2,q3⟩:=q;exact absurd (Eq.trans (Eq.symm q1) ‹Xk _=false›) (by decide))|(rename_i q;obtain⟨q1,q2,q3⟩:=q;omega)),by assumption,_,_,_,_,rfl,hk'3,hv_'2⟩⟩
  refine xlv (.r [3,4,5,6,7,8,9,10,11,12,13,14,15,16,17,18,19,20,21,22,23,24] 8) k16'3.rp ?_
  have k2'8:=((u16.blk (k2.below n15.below) (Ne.symm (Ne.symm d15_b2))).below hb17).below (Zb W17)
  refine xsv 0 k2'8 [.int .i64 (Xt (inB l no)),.bool (Xk (inB l no)),.slice kp (Zn (inB l no)) kc,.slice vp (Zn (inB l no)) vc] fun W32 u32 k32=>?_
  have g2:=n2.ge0 (blB (Below.refl B w) hBw n1.below)
  have hB'8:=u32.below (blB (blB (u16.below (blB hB hBw n15.below) (Nat.le_trans hBw g15)) hBw hb17) hBw (Zb W17)) (Nat.le_trans hBw g2)
  have hO:=(Ze.upd_new (((Ze.upd_new (((((((show Ze [229] w _ from(Ze.of_below n1.below)).trans (Ze.of_below n2.below)).trans (Ze.of_upd u3 kW'1 (by decide))).trans (Ze.of_below hb4)).trans (Ze.of_below (Zb W4))).trans (Ze.of_below hb11)).trans (Ze.of_below n15.below)) u16 g15).trans (Ze.of_below hb17)).trans (Ze.of_below (Zb W17))) u32 g2)
  have k3'13:=u32.blkT (((u16.blkT ((k3'4.below hb11).below n15.below) n15.blk (by decide)).below hb17).below (Zb W17)) k2'8 (by decide)
  have hk'4:=u32.own2 (Za (Za hk'1 hb17) (Zb W17)) k2'8 (by decide)
  have hv_'3:=u32.own2 (Za (Za (u16.own2 (Za (Zf hv_ hs11) n15.below) n15.blk (by decide)) hb17) (Zb W17)) k2'8 (by decide)
  exact xec 4 k32 (.tuple #[.agg #[.int .i64 (Xt (inB l no)),.bool (Xk (inB l no)),.slice kp (Zn (inB l no)) kc,.slice vp (Zn (inB l no)) vc],.nilIface]) ⟨hB'8,hO,k3'13,.inr ⟨by(unfold Zw;(repeat' split)<;>first|rfl|assumption|decide|omega|exact absurd (Eq.trans (Eq.symm ‹Qx _ _=true›) ‹Qx _ _=false›) (by decide)|(rename_i q;exact absurd ⟨by assumption,by assumption,by assumption⟩ q)|(rename_i q;obtain⟨q1,q2,q3⟩:=q;exact absurd (Eq.trans (Eq.symm q1) ‹Xk _=false›) (by decide))|(rename_i q;obtain⟨q1,q2,q3⟩:=q;omega)),by assumption,_,_,_,_,rfl,hk'4,hv_'3⟩⟩
 refine xa 0 [.int .i64 0,.bool false,.slice none 0 0,.slice none 0 0] 220 fun b33 W33 n33=>?_
 have k2:=((u3.blkT n2.blk kW'1 (by decide)).below hb4).below (Zb W4)
 have d33_b2:=n33.ne k2
 have hB:=blB (blB (u3.below (blB (blB (Below.refl B w) hBw n1.below) hBw n2.below) hBb) hBw hb4) hBw (Zb W4)
 have g33:=n33.ge0 hB
 have hI'2:=(((((hI.below n1.below).below n2.below).only (Ze.of_upd (T:=[229]) u3 kW'1 (by decide)) (by decide)).below hb4).below (Zb W4)).below n33.below
 refine yc (.o [] 9) (args:=#[.pointer (some ⟨b,0,none⟩),.int .i64 no,.int .i64 tree]) (.t B [220]) (Sh Bi b p n c l no tree _ hI'2) ?_
 rintro e W34 hq34
 rcases hq34 with ⟨he,bf,rfl,hb34,hv⟩|⟨he,kp,kc,vp,vc,rfl,hb34,hk,hv_⟩
 ·refine⟨(SF.of_below _ hb34),?_⟩
  have k33:=n33.blk.below hb34
  refine ysv (.o [10,11,12] 14) k33 [.int .i64 0,.bool false,.slice none 0 0,.slice none 0 0] (.t B [220]) fun W35 u35 k35=>⟨(Zm u35 k33 (Nat.le_trans hBw g33) (by decide)),?_⟩
  refine xlv (.r [15] 14) k35.rp ?_
  have k2'9:=u35.blk ((k2.below n33.below).below hb34) (Ne.symm (Ne.symm d33_b2))
  refine xsv 1 k2'9 [.int .i64 0,.bool false,.slice none 0 0,.slice none 0 0] fun W36 u36 k36=>?_
  have g2:=n2.ge0 (blB (Below.refl B w) hBw n1.below)
  have hB'9:=u36.below (u35.below (blB (blB hB hBw n33.below) hBw hb34) (Nat.le_trans hBw g33)) (Nat.le_trans hBw g2)
  have hO:=(Ze.upd_new (Ze.upd_new (((((((show Ze [229] w _ from(Ze.of_below n1.below)).trans (Ze.of_below n2.below)).trans (Ze.of_upd u3 kW'1 (by decide))).trans (Ze.of_below hb4)).trans (Ze.of_below (Zb W4))).trans (Ze.of_below n33.below)).trans (Ze.of_below hb34)) u35 g33) u36 g2)
  have k3'14:=u36.blkT (u35.blkT ((k3'4.below n33.below).below hb34) k33 (by decide)) k2'9 (by decide)
  have hv'2:=(hv.upd u35 k33 (by decide)).upd u36 k2'9 (by decide)
  exact xec 6 k36 (.tuple #[.agg #[.int .i64 0,.bool false,.slice none 0 0,.slice none 0 0],.iface 179 (.pointer (some ⟨bf,0,none⟩))]) ⟨hB'9,hO,k3'14,.inl ⟨by(unfold Zw;(repeat' split)<;>first|rfl|assumption|decide|omega|exact absurd (Eq.trans (Eq.symm ‹Qx _ _=true›) ‹Qx _ _=false›) (by decide)|(rename_i q;exact absurd ⟨by assumption,by assumption,by assumption⟩ q)|(rename_i q;obtain⟨q1,q2,q3⟩:=q;exact absurd (Eq.trans (Eq.symm q1) ‹Xk _=false›) (by decide))|(rename_i q;obtain⟨q1,q2,q3⟩:=q;omega)),_,_,_,_,_,_,_,_,_,_,rfl,by(unfold Zw;(repeat' split)<;>first|exact hv'2|(exfalso;omega)|contradiction|exact absurd (Eq.trans (Eq.symm ‹Qx _ _=true›) ‹Qx _ _=false›) (by decide)|(rename_i q;exact absurd ⟨by assumption,by assumption,by assumption⟩ q)|(rename_i q;obtain⟨q1,q2,q3⟩:=q;exact absurd (Eq.trans (Eq.symm q1) ‹Xk _=false›) (by decide))|(rename_i q;obtain⟨q1,q2,q3⟩:=q;omega))⟩⟩
 have hs34:=(blB hB hBw n33.below).size
 refine⟨(SF.of_below _ hb34),?_⟩
 have k33:=n33.blk.below hb34
 refine ysv (.o [10,11,12] 14) k33 [.int .i64 (Xt (inB l no)),.bool (Xk (inB l no)),.slice kp (Zn (inB l no)) kc,.slice vp (Zn (inB l no)) vc] (.t B [220]) fun W37 u37 k37=>⟨(Zm u37 k33 (Nat.le_trans hBw g33) (by decide)),?_⟩
 have k1:=u37.blkT (((((u3.blkT (n1.blk.below n2.below) kW'1 (by decide)).below hb4).below (Zb W4)).below n33.below).below hb34) k33 (by decide)
 refine xlv (.r [15] 14) k1.rp ?_
 refine xb 1 2 k37 ?_
 have hk'5:=u37.own2 (Zf hk hs34) k33 (by decide)
 refine xr 0 (args:=#[.agg #[.int .i64 lo,.int .i64 hi],.slice kp (Zn (inB l no)) kc]) (Dk lo hi _ (Yq (inB l no) (Zn (inB l no))) _ (Ws (Zg hk'5) (Ym _ _))) fun W38 hb38=>?_
 refine xin 4 (Yn lo hi (Yq (inB l no) (Zn (inB l no)))) (0:Int) (fun hc39=>?_) (fun hc39=>?_)
 ·refine xd 1 (.t B [220]) ?_
  refine xm2 (.b [1,2]) 0 3 ?_ ?_
  ·have k37'1:=(k37.below hb38).below (Zb W38)
   refine xlv 0 k37'1.rp ?_
   refine yc (.o [] 3) (args:=#[.int .i64 no,.iface 91 (.int .i64 9)]) (.t B [220]) (Qq no (some 9) [] _ _ rfl) ?_
   rintro _ W40 ⟨r40,rfl,hb40,hv40⟩
   refine⟨(SF.of_below _ hb40),?_⟩
   rw[Vk] at hv40
   obtain⟨t40,x40,rfl⟩:=hv40.iface
   have k2'10:=(((u37.blk ((k2.below n33.below).below hb34) (Ne.symm (Ne.symm d33_b2))).below hb38).below (Zb W38)).below hb40
   have g2:=n2.ge0 (blB (Below.refl B w) hBw n1.below)
   refine ysv (.o [] 4) k2'10 [.int .i64 (Xt (inB l no)),.bool (Xk (inB l no)),.slice kp (Zn (inB l no)) kc,.slice vp (Zn (inB l no)) vc] (.t B [220]) fun W41 u41 k41=>⟨(Zm u41 k2'10 (Nat.le_trans hBw g2) (by decide)),?_⟩
   have hB'10:=u41.below (blB (blB (blB (u37.below (blB (blB hB hBw n33.below) hBw hb34) (Nat.le_trans hBw g33)) hBw hb38) hBw (Zb W38)) hBw hb40) (Nat.le_trans hBw g2)
   have hO:=(Ze.upd_new ((((Ze.upd_new (((((((show Ze [229] w _ from(Ze.of_below n1.below)).trans (Ze.of_below n2.below)).trans (Ze.of_upd u3 kW'1 (by decide))).trans (Ze.of_below hb4)).trans (Ze.of_below (Zb W4))).trans (Ze.of_below n33.below)).trans (Ze.of_below hb34)) u37 g33).trans (Ze.of_below hb38)).trans (Ze.of_below (Zb W38))).trans (Ze.of_below hb40)) u41 g2)
   have k3'15:=u41.blkT ((((u37.blkT ((k3'4.below n33.below).below hb34) k33 (by decide)).below hb38).below (Zb W38)).below hb40) k2'10 (by decide)
   have hv40'1:=hv40.upd u41 k2'10 (by decide)
   exact xec (.r [5] 5) k41 (.tuple #[.agg #[.int .i64 (Xt (inB l no)),.bool (Xk (inB l no)),.slice kp (Zn (inB l no)) kc,.slice vp (Zn (inB l no)) vc],.iface t40 (x40)]) ⟨hB'10,hO,k3'15,.inl ⟨by(unfold Zw;(repeat' split)<;>first|rfl|assumption|decide|omega|exact absurd (Eq.trans (Eq.symm ‹Qx _ _=true›) ‹Qx _ _=false›) (by decide)|(rename_i q;exact absurd ⟨by assumption,by assumption,by assumption⟩ q)|(rename_i q;obtain⟨q1,q2,q3⟩:=q;exact absurd (Eq.trans (Eq.symm q1) ‹Xk _=false›) (by decide))|(rename_i q;obtain⟨q1,q2,q3⟩:=q;omega)),_,_,_,_,_,_,_,_,_,_,rfl,by(unfold Zw;(repeat' split)<;>first|exact hv40'1|(exfalso;omega)|contradiction|exact absurd (Eq.trans (Eq.symm ‹Qx _ _=true›) ‹Qx _ _=false›) (by decide)|(rename_i q;exact absurd ⟨by assumption,by assumption,by assumption⟩ q)|(rename_i q;obtain⟨q1,q2,q3⟩:=q;exact absurd (Eq.trans (Eq.symm q1) ‹Xk _=false›) (by decide))|(rename_i q;obtain⟨q1,q2,q3⟩:=q;omega))⟩⟩
  refine yc 0 (args:=#[.int .i64 no,.iface 91 (.int .i64 9)]) (.t B [220]) (Qq no (some 9) [] _ _ rfl) ?_
  rintro _ W42 ⟨r42,rfl,hb42,hv42⟩
  refine⟨(SF.of_below _ hb42),?_⟩
  rw[Vk] at hv42
  obtain⟨t42,x42,rfl⟩:=hv42.iface
  have k37'2:=((k37.below hb38).below (Zb W38)).below hb42
  refine xlv (.o [] 0) k37'2.rp ?_
  have k2'11:=(((u37.blk ((k2.below n33.below).below hb34) (Ne.symm (Ne.symm d33_b2))).below hb38).below (Zb W38)).below hb42
  have g2:=n2.ge0 (blB (Below.refl B w) hBw n1.below)
  refine ysv (.o [] 4) k2'11 [.int .i64 (Xt (inB l no)),.bool (Xk (inB l no)),.slice kp (Zn (inB l no)) kc,.slice vp (Zn (inB l no)) vc] (.t B [220]) fun W43 u43 k43=>⟨(Zm u43 k2'11 (Nat.le_trans hBw g2) (by decide)),?_⟩
  have hB'11:=u43.below (blB (blB (blB (u37.below (blB (blB hB hBw n33.below) hBw hb34) (Nat.le_trans hBw g33)) hBw hb38) hBw (Zb W38)) hBw hb42) (Nat.le_trans hBw g2)
  have hO:=(Ze.upd_new ((((Ze.upd_new (((((((show Ze [229] w _ from(Ze.of_below n1.below)).trans (Ze.of_below n2.below)).trans (Ze.of_upd u3 kW'1 (by decide))).trans (Ze.of_below hb4)).trans (Ze.of_below (Zb W4))).trans (Ze.of_below n33.below)).trans (Ze.of_below hb34)) u37 g33).trans (Ze.of_below hb38)).trans (Ze.of_below (Zb W38))).trans (Ze.of_below hb42)) u43 g2)
  have k3'16:=u43.blkT ((((u37.blkT ((k3'4.below n33.below).below hb34) k33 (by decide)).below hb38).below (Zb W38)).below hb42) k2'11 (by decide)
  have hv42'1:=hv42.upd u43 k2'11 (by decide)
  exact xec (.r [5] 5) k43 (.tuple #[.agg #[.int .i64 (Xt (inB l no)),.bool (Xk (inB l no)),.slice kp (Zn (inB l no)) kc,.slice vp (Zn (inB l no)) vc],.iface t42 (x42)]) ⟨hB'11,hO,k3'16,.inl ⟨by(unfold Zw;(repeat' split)<;>first|rfl|assumption|decide|omega|exact absurd (Eq.trans (Eq.symm ‹Qx _ _=true›) ‹Qx _ _=false›) (by decide)|(rename_i q;exact absurd ⟨by assumption,by assumption,by assumption⟩ q)|(rename_i q;obtain⟨q1,q2,q3⟩:=q;exact absurd (Eq.trans (Eq.symm q1) ‹Xk _=false›) (by decide))|(rename_i q;obtain⟨q1,q2,q3⟩:=q;omega)),_,_,_,_,_,_,_,_,_,_,rfl,by(unfold Zw;(repeat' split)<;>first|exact hv42'1|(exfalso;omega)|contradiction|exact absurd (Eq.trans (Eq.symm ‹Qx _ _=true›) ‹Qx _ _=false›) (by decide)|(rename_i q;exact absurd ⟨by assumption,by assumption,by assumption⟩ q)|(rename_i q;obtain⟨q1,q2,q3⟩:=q;exact absurd (Eq.trans (Eq.symm q1) ‹Xk _=false›) (by decide))|(rename_i q;obtain⟨q1,q2,q3⟩:=q;omega))⟩⟩
 refine xd 1 .z ?_
 have k37'3:=(k37.below hb38).below (Zb W38)
 refine xb (.e [0] 1) 1 k37'3 ?_
 refine xg (.b [2]) [69,70] (Xk (inB l no)) (fun hc44=>?_) (fun hc44=>?_)
 ·have k3'17:=((u37.blkT ((k3'4.below n33.below).below hb34) k33 (by decide)).below hb38).below (Zb W38)
  refine xb (.e [3,4,5,6] 7) 2 k3'17 ?_
  refine xg (.b [8,9,10]) [76,77,78] (deep != (0:Int)) (fun hc45=>?_) (fun hc45=>?_)
  ·have hc45:=Vp hc45
   refine xb (.e [11,12,13,14] 15) 2 k3'17 ?_
   refine xb (.e [16,17,18] 19) 8 k3'17 ?_
   refine xwm (.e [20] 21) ((↑way.length:Int)+1) (↑(way.length+1):Int) ?_
   refine xin (.r [22,23,24] 2) deep (↑(way.length+1):Int) (fun hc46=>?_) (fun hc46=>?_)
   ·refine xd 1 (.t B [220]) ?_
    refine xm2 (.b [1,2]) 0 3 ?_ ?_
    ·have k37'4:=k37'3.below (Zb W38.drew)
     refine xlv 0 k37'4.rp ?_
     refine yc (.o [] 3) (args:=#[.int .i64 no,.iface 91 (.int .i64 10)]) (.t B [220]) (Qq no (some 10) [] _ _ rfl) ?_
     rintro _ W47 ⟨r47,rfl,hb47,hv47⟩
     refine⟨(SF.of_below _ hb47),?_⟩
     rw[Vk] at hv47
     obtain⟨t47,x47,rfl⟩:=hv47.iface
     have k2'12:=((((u37.blk ((k2.below n33.below).below hb34) (Ne.symm (Ne.symm d33_b2))).below hb38).below (Zb W38)).below (Zb W38.drew)).below hb47
     have g2:=n2.ge0 (blB (Below.refl B w) hBw n1.below)
     refine ysv (.o [] 4) k2'12 [.int .i64 (Xt (inB l no)),.bool (Xk (inB l no)),.slice kp (Zn (inB l no)) kc,.slice vp (Zn (inB l no)) vc] (.t B [220]) fun W48 u48 k48=>⟨(Zm u48 k2'12 (Nat.le_trans hBw g2) (by decide)),?_⟩
     have hB'12:=u48.below (blB (blB (blB (blB (u37.below (blB (blB hB hBw n33.below) hBw hb34) (Nat.le_trans hBw g33)) hBw hb38) hBw (Zb W38)) hBw (Zb W38.drew)) hBw hb47) (Nat.le_trans hBw g2)
     have hO:=(Ze.upd_new (((((Ze.upd_new (((((((show Ze [229] w _ from(Ze.of_below n1.below)).trans (Ze.of_below n2.below)).trans (Ze.of_upd u3 kW'1 (by decide))).trans (Ze.of_below hb4)).trans (Ze.of_below (Zb W4))).trans (Ze.of_below n33.below)).trans (Ze.of_below hb34)) u37 g33).trans (Ze.of_below hb38)).trans (Ze.of_below (Zb W38))).trans (Ze.of_below (Zb W38.drew))).trans (Ze.of_below hb47)) u48 g2)
     have k3'18:=u48.blkT ((k3'17.below (Zb W38.drew)).below hb47) k2'12 (by decide)
     have hv47'1:=hv47.upd u48 k2'12 (by decide)
     exact xec (.r [5] 5) k48 (.tuple #[.agg #[.int .i64 (Xt (inB l no)),.bool (Xk (inB l no)),.slice kp (Zn (inB l no)) kc,.slice vp (Zn (inB l no)) vc],.iface t47 (x47)]) ⟨hB'12,hO,k3'18,.inl ⟨by(unfold Zw;(repeat' split)<;>first|rfl|assumption|decide|omega|exact absurd (Eq.trans (Eq.symm ‹Qx _ _=true›) ‹Qx _ _=false›) (by decide)|(rename_i q;exact absurd ⟨by assumption,by assumption,by assumption⟩ q)|(rename_i q;obtain⟨q1,q2,q3⟩:=q;exact absurd (Eq.trans (Eq.symm q1) ‹Xk _=false›) (by decide))|(rename_i q;obtain⟨q1,q2,q3⟩:=q;omega)),_,_,_,_,_,_,_,_,_,_,rfl,by(unfold Zw;(repeat' split)<;>first|exact hv47'1|(exfalso;omega)|contradiction|exact absurd (Eq.trans (Eq.symm ‹Qx _ _=true›) ‹Qx _ _=false›) (by decide)|(rename_i q;exact absurd ⟨by assumption,by assumption,by assumption⟩ q)|(rename_i q;obtain⟨q1,q2,q3⟩:=q;exact absurd (Eq.trans (Eq.symm q1) ‹Xk _=false›) (by decide))|(rename_i q;obtain⟨q1,q2,q3⟩:=q;omega))⟩⟩
    refine yc 0 (args:=#[.int .i64 no,.iface 91 (.int .i64 10)]) (.t B [220]) (Qq no (some 10) [] _ _ rfl) ?_
    rintro _ W49 ⟨r49,rfl,hb49,hv49⟩
    refine⟨(SF.of_below _ hb49),?_⟩
    rw[Vk] at hv49
    obtain⟨t49,x49,rfl⟩:=hv49.iface
    have k37'5:=(k37'3.below (Zb W38.drew)).below hb49
    refine xlv (.o [] 0) k37'5.rp ?_
    have k2'13:=((((u37.blk ((k2.below n33.below).below hb34) (Ne.symm (Ne.symm d33_b2))).below hb38).below (Zb W38)).below (Zb W38.drew)).below hb49
    have g2:=n2.ge0 (blB (Below.refl B w) hBw n1.below)
    refine ysv (.o [] 4) k2'13 [.int .i64 (Xt (inB l no)),.bool (Xk (inB l no)),.slice kp (Zn (inB l no)) kc,.slice vp (Zn (inB l no)) vc] (.t B [220]) fun W50 u50 k50=>⟨(Zm u50 k2'13 (Nat.le_trans hBw g2) (by decide)),?_⟩
    have hB'13:=u50.below (blB (blB (blB (blB (u37.below (blB (blB hB hBw n33.below) hBw hb34) (Nat.le_trans hBw g33)) hBw hb38) hBw (Zb W38)) hBw (Zb W38.drew)) hBw hb49) (Nat.le_trans hBw g2)
    have hO:=(Ze.upd_new (((((Ze.upd_new (((((((show Ze [229] w _ from(Ze.of_below n1.below)).trans (Ze.of_below n2.below)).trans (Ze.of_upd u3 kW'1 (by decide))).trans (Ze.of_below hb4)).trans (Ze.of_below (Zb W4))).trans (Ze.of_below n33.below)).trans (Ze.of_below hb34)) u37 g33).trans (Ze.of_below hb38)).trans (Ze.of_below (Zb W38))).trans (Ze.of_below (Zb W38.drew))).trans (Ze.of_below hb49)) u50 g2)
    have k3'19:=u50.blkT ((k3'17.below (Zb W38.drew)).below hb49) k2'13 (by decide)
    have hv49'1:=hv49.upd u50 k2'13 (by decide)
    exact xec (.r [5] 5) k50 (.tuple #[.agg #[.int .i64 (Xt (inB l no)),.bool (Xk (inB l no)),.slice kp (Zn (inB l no)) kc,.slice vp (Zn (inB l no)) vc],.iface t49 (x49)]) ⟨hB'13,hO,k3'19,.inl ⟨by(unfold Zw;(repeat' split)<;>first|rfl|assumption|decide|omega|exact absurd (Eq.trans (Eq.symm ‹Qx _ _=true›) ‹Qx _ _=false›) (by decide)|(rename_i q;exact absurd ⟨by assumption,by assumption,by assumption⟩ q)|(rename_i q;obtain⟨q1,q2,q3⟩:=q;exact absurd (Eq.trans (Eq.symm q1) ‹Xk _=false›) (by decide))|(rename_i q;obtain⟨q1,q2,q3⟩:=q;omega)),_,_,_,_,_,_,_,_,_,_,rfl,by(unfold Zw;(repeat' split)<;>first|exact hv49'1|(exfalso;omega)|contradiction|exact absurd (Eq.trans (Eq.symm ‹Qx _ _=true›) ‹Qx _ _=false›) (by decide)|(rename_i q;exact absurd ⟨by assumption,by assumption,by assumption⟩ q)|(rename_i q;obtain⟨q1,q2,q3⟩:=q;exact absurd (Eq.trans (Eq.symm q1) ‹Xk _=false›) (by decide))|(rename_i q;obtain⟨q1,q2,q3⟩:=q;omega))⟩⟩
   refine xlv 5 k37'3.rp ?_
   have k2'14:=((u37.blk ((k2.below n33.below).below hb34) (Ne.symm (Ne.symm d33_b2))).below hb38).below (Zb W38)
   refine xsv 0 k2'14 [.int .i64 (Xt (inB l no)),.bool (Xk (inB l no)),.slice kp (Zn (inB l no)) kc,.slice vp (Zn (inB l no)) vc] fun W51 u51 k51=>?_
   have g2:=n2.ge0 (blB (Below.refl B w) hBw n1.below)
   have hB'14:=u51.below (blB (blB (u37.below (blB (blB hB hBw n33.below) hBw hb34) (Nat.le_trans hBw g33)) hBw hb38) hBw (Zb W38)) (Nat.le_trans hBw g2)
   have hO:=(Ze.upd_new (((Ze.upd_new (((((((show Ze [229] w _ from(Ze.of_below n1.below)).trans (Ze.of_below n2.below)).trans (Ze.of_upd u3 kW'1 (by decide))).trans (Ze.of_below hb4)).trans (Ze.of_below (Zb W4))).trans (Ze.of_below n33.below)).trans (Ze.of_below hb34)) u37 g33).trans (Ze.of_below hb38)).trans (Ze.of_below (Zb W38))) u51 g2)
   have k3'20:=u51.blkT k3'17 k2'14 (by decide)
   have hk'6:=u51.own2 (Za (Za hk'5 hb38) (Zb W38)) k2'14 (by decide)
   have hv_'4:=u51.own2 (Za (Za (u37.own2 (Zf hv_ hs34) k33 (by decide)) hb38) (Zb W38)) k2'14 (by decide)
   exact xec 4 k51 (.tuple #[.agg #[.int .i64 (Xt (inB l no)),.bool (Xk (inB l no)),.slice kp (Zn (inB l no)) kc,.slice vp (Zn (inB l no)) vc],.nilIface]) ⟨hB'14,hO,k3'20,.inr ⟨by(unfold Zw;(repeat' split)<;>first|rfl|assumption|decide|omega|exact absurd (Eq.trans (Eq.symm ‹Qx _ _=true›) ‹Qx _ _=false›) (by decide)|(rename_i q;exact absurd ⟨by assumption,by assumption,by assumption⟩ q)|(rename_i q;obtain⟨q1,q2,q3⟩:=q;exact absurd (Eq.trans (Eq.symm q1) ‹Xk _=false›) (by decide))|(rename_i q;obtain⟨q1,q2,q3⟩:=q;omega)),by assumption,_,_,_,_,rfl,hk'6,hv_'4⟩⟩
  have hc45:=Xq hc45
  refine xlv (.r [11,12,13,14,15,16,17,18,19,20,21,22,23,24] 8) k37'3.rp ?_
  have k2'15:=((u37.blk ((k2.below n33.below).below hb34) (Ne.symm (Ne.symm d33_b2))).below hb38).below (Zb W38)
  refine xsv 0 k2'15 [.int .i64 (Xt (inB l no)),.bool (Xk (inB l no)),.slice kp (Zn (inB l no)) kc,.slice vp (Zn (inB l no)) vc] fun W52 u52 k52=>?_
  have g2:=n2.ge0 (blB (Below.refl B w) hBw n1.below)
  have hB'15:=u52.below (blB (blB (u37.below (blB (blB hB hBw n33.below) hBw hb34) (Nat.le_trans hBw g33)) hBw hb38) hBw (Zb W38)) (Nat.le_trans hBw g2)
  have hO:=(Ze.upd_new (((Ze.upd_new (((((((show Ze [229] w _ from(Ze.of_below n1.below)).trans (Ze.of_below n2.below)).trans (Ze.of_upd u3 kW'1 (by decide))).trans (Ze.of_below hb4)).trans (Ze.of_below (Zb W4))).trans (Ze.of_below n33.below)).trans (Ze.of_below hb34)) u37 g33).trans (Ze.of_below hb38)).trans (Ze.of_below (Zb W38))) u52 g2)
  have k3'21:=u52.blkT k3'17 k2'15 (by decide)
  have hk'7:=u52.own2 (Za (Za hk'5 hb38) (Zb W38)) k2'15 (by decide)
  have hv_'5:=u52.own2 (Za (Za (u37.own2 (Zf hv_ hs34) k33 (by decide)) hb38) (Zb W38)) k2'15 (by decide)
  exact xec 4 k52 (.tuple #[.agg #[.int .i64 (Xt (inB l no)),.bool (Xk (inB l no)),.slice kp (Zn (inB l no)) kc,.slice vp (Zn (inB l no)) vc],.nilIface]) ⟨hB'15,hO,k3'21,.inr ⟨by(unfold Zw;(repeat' split)<;>first|rfl|assumption|decide|omega|exact absurd (Eq.trans (Eq.symm ‹Qx _ _=true›) ‹Qx _ _=false›) (by decide)|(rename_i q;exact absurd ⟨by assumption,by assumption,by assumption⟩ q)|(rename_i q;obtain⟨q1,q2,q3⟩:=q;exact absurd (Eq.trans (Eq.symm q1) ‹Xk _=false›) (by decide))|(rename_i q;obtain⟨q1,q2,q3⟩:=q;omega)),by assumption,_,_,_,_,rfl,hk'7,hv_'5⟩⟩
 refine xlv (.r [3,4,5,6,7,8,9,10,11,12,13,14,15,16,17,18,19,20,21,22,23,24] 8) k37'3.rp ?_
 have k2'16:=((u37.blk ((k2.below n33.below).below hb34) (Ne.symm (Ne.symm d33_b2))).below hb38).below (Zb W38)
 refine xsv 0 k2'16 [.int .i64 (Xt (inB l no)),.bool (Xk (inB l no)),.slice kp (Zn (inB l no)) kc,.slice vp (Zn (inB l no)) vc] fun W53 u53 k53=>?_
 have g2:=n2.ge0 (blB (Below.refl B w) hBw n1.below)
 have hB'16:=u53.below (blB (blB (u37.below (blB (blB hB hBw n33.below) hBw hb34) (Nat.le_trans hBw g33)) hBw hb38) hBw (Zb W38)) (Nat.le_trans hBw g2)
 have hO:=(Ze.upd_new (((Ze.upd_new (((((((show Ze [229] w _ from(Ze.of_below n1.below)).trans (Ze.of_below n2.below)).trans (Ze.of_upd u3 kW'1 (by decide))).trans (Ze.of_below hb4)).trans (Ze.of_below (Zb W4))).trans (Ze.of_below n33.below)).trans (Ze.of_below hb34)) u37 g33).trans (Ze.of_below hb38)).trans (Ze.of_below (Zb W38))) u53 g2)
 have k3'22:=u53.blkT (((u37.blkT ((k3'4.below n33.below).below hb34) k33 (by decide)).below hb38).below (Zb W38)) k2'16 (by decide)
 have hk'8:=u53.own2 (Za (Za hk'5 hb38) (Zb W38)) k2'16 (by decide)
 have hv_'6:=u53.own2 (Za (Za (u37.own2 (Zf hv_ hs34) k33 (by decide)) hb38) (Zb W38)) k2'16 (by decide)
 exact xec 4 k53 (.tuple #[.agg #[.int .i64 (Xt (inB l no)),.bool (Xk (inB l no)),.slice kp (Zn (inB l no)) kc,.slice vp (Zn (inB l no)) vc],.nilIface]) ⟨hB'16,hO,k3'22,.inr ⟨by(unfold Zw;(repeat' split)<;>first|rfl|assumption|decide|omega|exact absurd (Eq.trans (Eq.symm ‹Qx _ _=true›) ‹Qx _ _=false›) (by decide)|(rename_i q;exact absurd ⟨by assumption,by assumption,by assumption⟩ q)|(rename_i q;obtain⟨q1,q2,q3⟩:=q;exact absurd (Eq.trans (Eq.symm q1) ‹Xk _=false›) (by decide))|(rename_i q;obtain⟨q1,q2,q3⟩:=q;omega)),by assumption,_,_,_,_,rfl,hk'8,hv_'6⟩⟩
def Ki(K:List Int)(Vs:List (List UInt8))(no:Int)(k:Nat):List Ent:=(List.range k).map fun j=>(K.getD j 0,Vs.getD j [],no)
theorem Hr(K:List Int)(Vs:List (List UInt8))(no:Int)(k:Nat):(Ki K Vs no k).length=k:=by simp[Ki]
theorem Zec(K:List Int)(Vs:List (List UInt8))(no:Int)(k:Nat):Ki K Vs no (k+1)=Ki K Vs no k++[(K.getD k 0,Vs.getD k [],no)]:=by simp[Ki,List.range_succ]
theorem Cj(es:List Ent)(K:List Int)(Vs:List (List UInt8))(no:Int)(k:Nat):(es++Ki K Vs no k).flatMap Ky++[.int .i64 (K.getD k 0),.string ⟨(Vs.getD k []).toArray⟩,.int .i64 no]=(es++Ki K Vs no (k+1)).flatMap Ky:=by
 rw[Zec,←List.append_assoc,List.flatMap_append (xs:=es++Ki K Vs no k)]
 rfl
def LeafP(B bw:Nat)(c1 c3 c4 c5 c6 c7:Value)(pw:Option Addr)(cw:Nat)(way:List Int)(c9:Value)(es:List Ent)(K:List Int)(Vs:List (List UInt8))(no:Int)(n:Nat)(w:World)(e:Ending)(w':World):Prop :=
 ∃ u pe ce,e=.returned u∧Below B w w'∧Ze [229,74] w w'∧Blk w' bw [.slice pe (es.length+n) ce,c1,.int .i64 (↑(way.length+1):Int),c3,c4,c5,c6,c7,.slice pw way.length cw,c9] 229∧w'.ownsRow B 74 3 (.slice pe (es.length+n) ce) (es.length+n) ((es++Ki K Vs no n).flatMap Ky)
theorem Zby(B bw:Nat)(c1 c2 c3 c4 c5 c6 c7 c9:Value)(pe:Option Addr)(ce:Nat)(es:List Ent)(pw:Option Addr)(cw:Nat)(way:List Int)(no:Int)(nt:Int)(nl:Bool)(kp vp:Option Addr)(n kc vc:Nat)(K:List Int)(Vs:List (List UInt8))(w:World)(hBb:B≤bw)(hBw:B≤w.heap.size)(kW:Blk w bw [.slice pe es.length ce,c1,c2,c3,c4,c5,c6,c7,.slice pw way.length cw,c9] 229)(hE:w.ownsRow B 74 3 (.slice pe es.length ce) es.length (es.flatMap Ky))(hKs:∀ W,Below B w W→Ze [229,74] w W→Sl W (.slice kp n kc) n (K.map (Value.int .i64)))(hVs:∀ W,Below B w W→Ze [229,74] w W→Sl W (.slice vp n vc) n (Vs.map sv))(hKl:K.length=n)(hVl:Vs.length=n)(hwl:way.length≤1000000)(hn:es.length+n≤1000000) :
 Calls Tryz.prog 161 #[.pointer (some ⟨bw,0,none⟩),.int .i64 no,.agg #[.int .i64 nt,.bool nl,.slice kp n kc,.slice vp n vc]] w (LeafP B bw c1 c3 c4 c5 c6 c7 pw cw way c9 es K Vs no n w):=by
 refine zin 46 Tryz.func161 ?_
 refine xa 2 [.int .i64 nt,.bool nl,.slice kp n kc,.slice vp n vc] 220 fun b1 W1 n1=>?_
 have kW'1:=kW.below n1.below
 refine xb 8 8 kW'1 ?_
 refine xwm 1 ((↑way.length:Int)+1) (↑(way.length+1):Int) ?_
 refine xs 3 kW'1 [.slice pe es.length ce,c1,.int .i64 (↑(way.length+1):Int),c3,c4,c5,c6,c7,.slice pw way.length cw,c9] fun W2 u2 k2=>?_
 have k1:=u2.blkT n1.blk kW'1 (by decide)
 refine xb 5 2 k1 ?_
 have hE'1:=u2.own2 (Za hE n1.below) kW'1 (by decide)
 have hB:=u2.below (blB (Below.refl B w) hBw n1.below) hBb
 have hO:=(show Ze [229,74] w _ from(Ze.of_below n1.below)).trans (Ze.of_upd u2 kW'1 (by decide))
 refine zl 5 46 (fun zm zkv V=>∃ (i:Nat) (pe:Option Addr) (ce:Nat),zkv=[(0,.pointer (some ⟨bw,0,none⟩)),(1,.int .i64 no),(5,.pointer (some ⟨b1,0,none⟩)),(19,.slice kp n kc),(20,.int .i64 (↑n:Int)),(21,.int .i64 (↑i:Int))]∧zm=n-((↑i:Int)).toNat∧Below B w V∧Ze [229,74] w V∧Blk V bw ([.slice pe (es.length+i) ce,c1,.int .i64 (↑(way.length+1):Int),c3,c4,c5,c6,c7,.slice pw way.length cw,c9]) 229∧Blk V b1 ([.int .i64 nt,.bool nl,.slice kp n kc,.slice vp n vc]) 220∧V.ownsRow B 74 3 (.slice pe (es.length+i) ce) (es.length+i) ((es++Ki K Vs no i).flatMap Ky)∧i≤n) ⟨0,_,_,rfl,rfl,hB,hO,k2,k1,(by simpa [Ki] using hE'1),Nat.zero_le _⟩ ?_
 rintro _ _ W3 ⟨i,pe,ce,rfl,rfl,hB_3,hO_3,k3_bw,k3_b1,hE,hi⟩ J3 hJ3 r3
 refine xid 6 ((↑i:Int)<(↑n:Int)) (fun hc4=>?_) (fun hc4=>?_)
 ·refine xx 7 _ n i 1 (IntsN.elem (hKs _ hB_3 hO_3) hKl (k:=i) (by omega)).1 ?_
  refine xl 0 ((IntsN.elem (hKs _ hB_3 hO_3) hKl (k:=i) (by omega)).2) ?_
  refine xd 4 (.t B [229,74]) ?_
  have k3_b1'1:=k3_b1.below (Zb W3)
  refine xbt (.e [0,1,2,3,4,6,7] 8) 3 B [229,74] k3_b1'1 ?_
  have hB'1:=blB hB_3 hBw (Zb W3)
  have hO'1:=hO_3.trans (Ze.of_below (Zb W3))
  refine xx (.e [9] 10) _ n i 1 (Strs.elem (hVs _ hB'1 hO'1) hVl (k:=i) (by omega)).1 ?_
  refine xlt (.e [] 11) (.t B [229,74]) (fun V hV=>(Strs.elem (hVs _ (Ku hB'1 hV hBw) (hO'1.trans hV.2)) hVl (k:=i) (by omega)).2) ?_
  refine xm2 (.b [12,13]) 5 14 ?_ ?_
  ·have k3_bw'1:=k3_bw.below (Zb W3)
   refine xb 0 0 k3_bw'1 ?_
   refine xbs (.o [] 14) 1 [.int .i64 (K.getD i 0),.string ⟨(Vs.getD i []).toArray⟩,.int .i64 no] 74 fun b5 W5 n5=>?_
   have g5:=n5.ge0 hB'1
   have hE'2:=Za hE (Zb W3)
   have r5_hE:=Zp hE'2 n5
   have hE'3:=Za hE'2 n5.below
   have hB'2:=blB hB'1 hBw n5.below
   refine ybi (.o [] 15) (.t B [229,74]) fun _ _ _ _ zJ zQ zo zx zy zK=>Zt (m:=1) (news:=[.int .i64 (K.getD i 0),.string ⟨(Vs.getD i []).toArray⟩,.int .i64 no]) (.agg #[.int .i64 0,.string ⟨#[]⟩,.int .i64 0]) 3 32 ((es.length+(i+1))) (((es++Ki K Vs no (i+1)).flatMap Ky)) zo Tryz.underlying75 (by kernel_rfl) rfl (by decide) zx hE'3 zy (n5.blk.sl 1 1 (by decide) (by decide)) rfl (by simp[Value.oneCell']) (by unfold maxLen;omega) (by omega) (Nat.le_trans hBw hB'2.size) (by omega) (Cj _ _ _ _ _) fun px6 cx6 W6 o6 hg6 hb6=>?_
   refine zK _ _ (Zr hb6 hg6 hE'3 (by decide)) ?_
   have k3_bw'2:=(k3_bw'1.below n5.below).grown hg6 hE'3 (by decide)
   refine ys (.o [16,17,18] 19) k3_bw'2 [.slice px6 (es.length+(i+1)) cx6,c1,.int .i64 (↑(way.length+1):Int),c3,c4,c5,c6,c7,.slice pw way.length cw,c9] (.t B [229,74]) fun W7 u7 k7=>⟨(Zm u7 k3_bw'2 hBb (by decide)),?_⟩
   refine xwm 4 ((↑i:Int)+1) (↑(i+1):Int) ?_
   have hB'3:=u7.below (hB'2.trans hb6) hBb
   have hO'2:=((hO'1.trans (Ze.of_below n5.below)).trans (Ze.of_grown hg6 hE'3 (by decide))).trans (Ze.of_upd u7 k3_bw'2 (by decide))
   have k3_b1'2:=u7.blkT ((k3_b1'1.below n5.below).grown hg6 hE'3 (by decide)) k3_bw'2 (by decide)
   have o6'1:=u7.own2 o6 k3_bw'2 (by decide)
   exact ze 2 (hJ3 _ _ _ ⟨i+1,_,_,rfl,rfl,hB'3,hO'2,k7,k3_b1'2,o6'1,by omega⟩ (by omega))
  refine xbs 0 1 [.int .i64 (K.getD i 0),.string ⟨(Vs.getD i []).toArray⟩,.int .i64 no] 74 fun b8 W8 n8=>?_
  have g8:=n8.ge0 hB'1
  have hE'4:=Za hE (Zb W3)
  have r8_hE:=Zp hE'4 n8
  have k3_bw'3:=(k3_bw.below (Zb W3)).below n8.below
  refine xb (.o [] 5) 0 k3_bw'3 ?_
  have hE'5:=Za hE'4 n8.below
  have hB'4:=blB hB'1 hBw n8.below
  refine ybi (.o [] 15) (.t B [229,74]) fun _ _ _ _ zJ zQ zo zx zy zK=>Zt (m:=1) (news:=[.int .i64 (K.getD i 0),.string ⟨(Vs.getD i []).toArray⟩,.int .i64 no]) (.agg #[.int .i64 0,.string ⟨#[]⟩,.int .i64 0]) 3 32 ((es.length+(i+1))) (((es++Ki K Vs no (i+1)).flatMap Ky)) zo Tryz.underlying75 (by kernel_rfl) rfl (by decide) zx hE'5 zy (n8.blk.sl 1 1 (by decide) (by decide)) rfl (by simp[Value.oneCell']) (by unfold maxLen;omega) (by omega) (Nat.le_trans hBw hB'4.size) (by omega) (Cj _ _ _ _ _) fun px9 cx9 W9 o9 hg9 hb9=>?_
  refine zK _ _ (Zr hb9 hg9 hE'5 (by decide)) ?_
  have k3_bw'4:=k3_bw'3.grown hg9 hE'5 (by decide)
  refine ys (.o [16,17,18] 19) k3_bw'4 [.slice px9 (es.length+(i+1)) cx9,c1,.int .i64 (↑(way.length+1):Int),c3,c4,c5,c6,c7,.slice pw way.length cw,c9] (.t B [229,74]) fun W10 u10 k10=>⟨(Zm u10 k3_bw'4 hBb (by decide)),?_⟩
  refine xwm 4 ((↑i:Int)+1) (↑(i+1):Int) ?_
  have hB'5:=u10.below (hB'4.trans hb9) hBb
  have hO'3:=((hO'1.trans (Ze.of_below n8.below)).trans (Ze.of_grown hg9 hE'5 (by decide))).trans (Ze.of_upd u10 k3_bw'4 (by decide))
  have k3_b1'3:=u10.blkT ((k3_b1'1.below n8.below).grown hg9 hE'5 (by decide)) k3_bw'4 (by decide)
  have o9'1:=u10.own2 o9 k3_bw'4 (by decide)
  exact ze 2 (hJ3 _ _ _ ⟨i+1,_,_,rfl,rfl,hB'5,hO'3,k10,k3_b1'3,o9'1,by omega⟩ (by omega))
 refine xe 4 (.tuple #[]) ?_
 obtain rfl:i=n:=by omega
 exact⟨_,_,_,rfl,hB_3,hO_3,k3_bw,hE⟩
end Go.Proofs.YtlmaglneeaecdaaGreatDoor
namespace Go.Proofs.YtlmaglneeaecdaaGreatDoor
set_option maxHeartbeats 8000000
set_option maxRecDepth 100000
open Go.RowKit Go.Extern.Stop Go.Stop Go.Extern
set_option linter.unusedVariables false
def Kd(u v:Value):Prop:=∀ j,u.ownBlock=some j→v.ownBlock≠some j
theorem Kd.symm{u v:Value}(h:Kd u v):Kd v u:=fun j h1 h2=>h j h2 h1
theorem Kd.grow{w:World}{u v u':Value}{base e size n:Nat}{xs:List Value}(h:Kd u v)(k:w.ownsRow base e size v n xs)(hl:u'.ownBlock=u.ownBlock∨u'.ownBlock=some w.heap.size):Kd u' v:=by
 rintro j h1 h2
 rcases hl with hl|hl
 ·exact h j (hl▸h1) h2
 ·rw[hl,Option.some.injEq] at h1
  subst h1
  have:=(k.lt _ h2).2
  omega
theorem Kd.row{w W:World}{u v:Value}{base e size n:Nat}{xs:List Value}(h:Kd u v)(k:w.ownsRow base e size v n xs)(hg:w.grownBy W u.ownBlock):W.ownsRow base e size v n xs:=by
 obtain⟨h1,h2⟩:=k
 refine⟨h1,?_⟩
 rcases h2 with h2|⟨g,cap,cur,rfl,hb,hh,r⟩
 ·exact Or.inl h2
 ·exact Or.inr ⟨g,cap,cur,rfl,hb,(hg.block g (Array.getElem?_eq_some_iff.1 hh).1 (fun q=>h g q.symm rfl)).trans hh,r⟩
theorem Kd.of_lt{w W:World}{u v:Value}{base base2 e e2 size size2 n n2:Nat}{xs ys:List Value}(k:w.ownsRow base e size u n xs)(q:W.ownsRow base2 e2 size2 v n2 ys)(h:w.heap.size≤base2):Kd u v:=fun j h1 h2=>by
 have:=(k.lt j h1).2
 have:=(q.lt j h2).1
 omega
theorem Kd.nil(v:Value):Kd (.slice none 0 0) v:=fun j h=>by cases h
theorem own_cut{w:World}{base e n m c:Nat}{p:Option Addr}{xs:List Value}(k:w.ownsRow base e 1 (.slice p n c) n xs)(hm:m≤n)(hp:p.isSome=true):w.ownsRow base e 1 (.slice p m c) m (xs.take m):=by
 obtain⟨h1,h2⟩:=k
 refine⟨by rw[List.length_take];omega,?_⟩
 rcases h2 with ⟨h2,_⟩|⟨g,cap,cur,hv,hb,hh,hc,hr1,hr2,hr3⟩
 ·cases h2;cases hp
 ·simp only[Value.slice.injEq] at hv
  obtain⟨rfl,_,rfl⟩:=hv
  refine Or.inr ⟨g,c,cur,rfl,hb,hh,by omega,hr1,hr2,?_⟩
  rw[←hr3,List.take_take]
  congr 1
  omega
theorem Cz{P:Program}{a:Act}{w:World}{K:Act→World→Prop}{Q:Exit→Act→World→Prop}{o:Oper}{s x:Operand}{t e te:TypeId}{base:Nat}{v:Value}{n:Nat}{xs:List Value}{b m c:Nat}{news:List Value}(z:Value)(size bytes n':Nat)(xs':List Value)
 (ho:o.op=.call { callee:=.builtin .append,args:=#[s,x],argTypes:=#[t,t] }) (ht:P.underlying t=some (.slice e)) (hi:(P.info? e).map (fun i=>(i.zero,i.size,i.bytes))=some (some z,size,bytes)) (hzs:z.cells.size=size) (hsz:0<size) (hs:a.eval s=v)
 (hown:w.ownsRow base e size v n xs) (hx:a.eval x=.slice (some ⟨b,0,none⟩) m c) (hnew:Blk w b news te) (hl:news.length=m*size) (h1:∀ u∈news,u.oneCell'=true) (h63:n+m≤maxLen) (hbytes:(n+m)*bytes≤140737488355328) (hbase:base≤w.heap.size) (hn:n+m=n') (hxs:xs++news=xs')
 (h:∀ p c W,W.ownsRow base e size (.slice p n' c) n' xs'→w.grownBy W v.ownBlock→Below base w W→((Value.slice p n' c).ownBlock=v.ownBlock∨(Value.slice p n' c).ownBlock=some w.heap.size)→K (a.put o.dst (.slice p n' c)) W):o.wp P a w K Q:=by
 cases hq:P.info? e with
 | none=>simp[hq] at hi
 | some i =>
  simp only[hq,Option.map_some,Option.some.injEq,Prod.mk.injEq] at hi
  have hc:∀ j u,news[j]? = some u→w.cell? ((⟨b,0,none⟩:Addr).add j)=some u:=fun j u hj=>by
   have hc:=hnew.cell hj
   by_cases h0:j=0
   ·subst h0;simpa [Addr.add] using hc
   ·simpa [Addr.add,h0] using hc
  obtain⟨v',W,hr,h2,h3,_,h5⟩:=run_append_own_at (P:=P) w base t o.type e i z size bytes ht hq hi.1 hi.2.1 hi.2.2 hzs hsz v n xs hown ⟨b,0,none⟩ m c news hl hc h1 h63 hbytes hbase
  subst hn hxs
  obtain⟨p,c2,rfl⟩:=(Zg h2).slice
  unfold Oper.wp execOp
  simp only[ho,resolve,invoke,builtin,Sem.run_bind,Sem.run_pure,Result.andThen_ok,List.map_toArray,List.map_cons,List.map_nil,hs,hx,hr]
  exact h p c2 W h2 h3 (Hk h3 hown (Nat.le_refl _) hbase) h5
structure WS where
 es:List Ent
 bs:List Int
 deep:Int
 looked:Nat
 fs:List (List Int×Int)
 dry:Bool
def Yh(way bs:List Int)(c:Int)(s:WS):WS:={ s with fs:=s.fs++[(way++bs,c)] }
def Ja(V:List Int→Int→Int→Int→WS→WS)(way:List Int)(no:Int)(val:List UInt8)(p:Int×Int)(s:WS):WS :=
 if Xw val=0 then V (way++[no]) (Yz val:Int) p.1 p.2 s else Yh way [no] (Xw val) s
def Xu(l:List UInt8)(no:Int):List Int:=Yq (inB l no) (Zn (inB l no))
def Qw(l:List UInt8)(no:Int):List (List UInt8):=Kt (inB l no) (Zn (inB l no))
def Pn(V:List Int→Int→Int→Int→WS→WS)(l:List UInt8)(way:List Int)(no hi:Int)(s:WS)(i:Nat):WS :=
 if s.dry=true then s else Ja V way no ((Qw l no).getD i []) (Xa hi (Xu l no) i) s
def Yk(V:List Int→Int→Int→Int→WS→WS)(l:List UInt8)(way:List Int)(no hi:Int)(k:Nat)(s:WS):WS:=(List.range k).foldl (Pn V l way no hi) s
def Zy(l:List UInt8)(tree fuel:Int):Nat→List Int→Int→Int→Int→WS→WS
 | 0,_,_,_,_,s=>s
 | d+1,way,no,lo,hi,s =>
  if fuel≤s.looked then { Yh way [no] 12 s with dry:=true }
  else if Zw l way no tree lo hi s.deep≠0 then Yh way [no] (Zw l way no tree lo hi s.deep) { s with looked:=s.looked+1 }
  else if Xk (inB l no)=true then { s with looked:=s.looked+1,bs:=s.bs++[no],deep:=((way.length+1:Nat):Int),es:=s.es++Ki (Xu l no) (Qw l no) no (Zn (inB l no)) }
  else Yk (Zy l tree fuel d) l way no hi (Zn (inB l no)) { s with looked:=s.looked+1,bs:=s.bs++[no] }
theorem Gm(V:List Int→Int→Int→Int→WS→WS)(l:List UInt8)(way:List Int)(no hi:Int)(k:Nat)(s:WS):Yk V l way no hi (k+1) s=Pn V l way no hi (Yk V l way no hi k s) k:=by
 simp[Yk,List.range_succ]
theorem Ze1(V:List Int→Int→Int→Int→WS→WS)(l:List UInt8)(way:List Int)(no hi:Int)(s:WS)(i:Nat)(h:s.dry=true):Pn V l way no hi s i=s:=by simp[Pn,h]
theorem loopW_dry(V:List Int→Int→Int→Int→WS→WS)(l:List UInt8)(way:List Int)(no hi:Int)(s:WS){k n:Nat}(hk:k≤n)(h:(Yk V l way no hi k s).dry=true):Yk V l way no hi n s=Yk V l way no hi k s:=by
 induction n with
 | zero =>
  obtain rfl:k=0:=by omega
  rfl
 | succ n ih =>
   rcases Nat.lt_or_ge n k with q|q
   ·obtain rfl:k=n+1:=by omega
    rfl
   ·rw[Gm,ih q,Ze1 _ _ _ _ _ _ _ h]
def Ha(w:World):List (List Int×Int)→List Value→Prop
 | [],[]=>True
 | f::r,v::q=>Vu w (f.1.map some) (some f.2) v∧Ha w r q
 | _,_=>False
theorem Ha.kept{w W:World}(hb:∀ blk cs,Blk w blk cs 182→Blk W blk cs 182):∀ {fs:List (List Int×Int)} {vs:List Value},Ha w fs vs→Ha W fs vs
 | [],[],h=>h
 | _::_,_::_,h=>⟨h.1.kept hb,Ha.kept hb h.2⟩
 | [],_::_,h=>h.elim
 | _::_,[],h=>h.elim
theorem Ha.only{T:List TypeId}{w W:World}{fs:List (List Int×Int)}{vs:List Value}(h:Ha w fs vs)(k:Ze T w W)(hT:T.contains 182=false):Ha W fs vs:=h.kept fun _ _ q=>q.only k hT
theorem Ha.below{w W:World}{fs:List (List Int×Int)}{vs:List Value}(h:Ha w fs vs)(hb:Below w.heap.size w W):Ha W fs vs:=h.kept fun _ _ q=>q.below hb
theorem Ha.snoc{w:World}{f:List Int×Int}{v:Value}(hv:Vu w (f.1.map some) (some f.2) v):∀ {fs:List (List Int×Int)} {vs:List Value},Ha w fs vs→Ha w (fs++[f]) (vs++[v])
 | [],[],_=>⟨hv,trivial⟩
 | _::_,_::_,h=>⟨h.1,Ha.snoc hv h.2⟩
 | [],_::_,h=>h.elim
 | _::_,[],h=>h.elim
structure WalkR(B bw Bi b:Nat)(pi:Option Addr)(ni ci:Nat)(l:List UInt8)(tree fuel:Int)(way:List Int)(s:WS)(pe pb pf pw:Option Addr)(ce cb cf cw:Nat)(fv:List Value)(w:World):Prop where
 blk:Blk w bw [.slice pe s.es.length ce,.slice pb s.bs.length cb,.int .i64 s.deep,.int .i64 (s.looked:Int),.slice pf s.fs.length cf,.pointer (some ⟨b,0,none⟩),.int .i64 tree,.int .i64 fuel,.slice pw way.length cw,.bool s.dry] 229
 ents:w.ownsRow B 74 3 (.slice pe s.es.length ce) s.es.length (s.es.flatMap Ky)
 blks:w.ownsRow B 3 1 (.slice pb s.bs.length cb) s.bs.length (s.bs.map (Value.int .i64))
 flts:w.ownsRow B 26 1 (.slice pf s.fs.length cf) s.fs.length fv
 fltv:Ha w s.fs fv
 ways:w.ownsRow B 3 1 (.slice pw way.length cw) way.length (way.map (Value.int .i64))
 apart:Kd (.slice pb s.bs.length cb) (.slice pw way.length cw)
 img:ImgR Bi b pi ni ci l w
def VisitP(B bw Bi b:Nat)(pi:Option Addr)(ni ci:Nat)(l:List UInt8)(tree fuel:Int)(way:List Int)(t:WS)(w:World)(e:Ending)(w':World):Prop :=
 ∃ u pe pb pf pw ce cb cf cw fv,e=.returned u∧Below B w w'∧Ze [229,74,3,26] w w'∧WalkR B bw Bi b pi ni ci l tree fuel way t pe pb pf pw ce cb cf cw fv w'
end Go.Proofs.YtlmaglneeaecdaaGreatDoor
namespace Go.Proofs.YtlmaglneeaecdaaGreatDoor
set_option maxHeartbeats 8000000
set_option maxRecDepth 100000
open Go.RowKit Go.Extern.Stop Go.Stop Go.Extern
set_option linter.unusedVariables false
attribute [local irreducible] wpList wpAnyH Code.wp Oper.wp Go
theorem Cv{w:World}{base e n c:Nat}{p:Option Addr}{xs:List Value}(k:w.ownsRow base e 1 (.slice p n c) n xs)(hn:0<n):p.isSome=true∧n≤c:=by
 rcases k.2 with ⟨h,_⟩|⟨g,cap,cur,hv,_,_,hc,_⟩
 ·simp only[Value.slice.injEq] at h;omega
 ·simp only[Value.slice.injEq] at hv
  obtain⟨rfl,_,rfl⟩:=hv
  exact⟨rfl,hc⟩
theorem Fa{w:World}{base e c:Nat}{p:Option Addr}{way:List Int}{no:Int}(k:w.ownsRow base e 1 (.slice p (way++[no]).length c) (way++[no]).length ((way++[no]).map (Value.int .i64))):w.ownsRow base e 1 (.slice p way.length c) way.length (way.map (Value.int .i64)):=by
 have h:=own_cut (m:=way.length) k (by simp) (Cv k (by simp)).1
 rwa [List.map_append,List.take_left' (by simp)] at h
theorem Zbz{w w':World}(h:Ze [229,26] w w'):Ze [229,74,3,26] w w':=h.mono fun t ht=>by
 simp only[List.contains_cons,List.contains_nil,Bool.or_eq_false_iff] at ht ⊢
 exact⟨ht.1,ht.2.2.2⟩
def VisitC(B bw Bi b:Nat)(pi:Option Addr)(ni ci:Nat)(l:List UInt8)(tree fuel:Int)(d:Nat):Prop :=
 ∀ (way:List Int) (no lo hi:Int) (s:WS) (pe pb pf pw:Option Addr) (ce cb cf cw:Nat) (fv:List Value) (w:World),way.length+d=17→B≤w.heap.size→s.dry=false→WalkR B bw Bi b pi ni ci l tree fuel way s pe pb pf pw ce cb cf cw fv w →
  (Zy l tree fuel d way no lo hi s).es.length≤1000000→(Zy l tree fuel d way no lo hi s).bs.length≤1000000→(Zy l tree fuel d way no lo hi s).fs.length≤1000000 →
  Calls Tryz.prog 111 #[.pointer (some ⟨bw,0,none⟩),.int .i64 no,.agg #[.int .i64 lo,.int .i64 hi]] w (VisitP B bw Bi b pi ni ci l tree fuel way (Zy l tree fuel d way no lo hi s) w)
theorem Oi(B bw Bi b:Nat)(pi:Option Addr)(ni ci:Nat)(l:List UInt8)(tree fuel:Int)(d:Nat)(hV:VisitC B bw Bi b pi ni ci l tree fuel d)(way:List Int)(no lo hi:Int)(val:List UInt8)(s:WS)(pe pb pf pw:Option Addr)(ce cb cf cw:Nat)(fv:List Value)(w:World)(hBb:B≤bw)(hBw:B≤w.heap.size)(hwd:way.length+1+d=17)(hdry:s.dry=false)(hvl:val.length≤1000)(hR:WalkR B bw Bi b pi ni ci l tree fuel (way++[no]) s pe pb pf pw ce cb cf cw fv w)(he:(Ja (Zy l tree fuel d) way no val (lo,hi) s).es.length≤1000000)(hb_:(Ja (Zy l tree fuel d) way no val (lo,hi) s).bs.length≤1000000)(hf:(Ja (Zy l tree fuel d) way no val (lo,hi) s).fs.length≤1000000) :
 Calls Tryz.prog 163 #[.pointer (some ⟨bw,0,none⟩),.int .i64 no,.string ⟨val.toArray⟩,.agg #[.int .i64 lo,.int .i64 hi]] w (VisitP B bw Bi b pi ni ci l tree fuel (way++[no]) (Ja (Zy l tree fuel d) way no val (lo,hi) s) w):=by
 obtain⟨kW,hEn,hBl,hFl,hFv,hWy,hAp,hI⟩:=hR
 have hwc:=(Cv hWy (by simp)).2
 have hwl:(way++[no]).length=way.length+1:=by simp
 refine zin 44 Tryz.func163 ?_
 refine xa 2 [.int .i64 lo,.int .i64 hi] 232 fun b1 W1 n1=>?_
 refine xr 5 (args:=#[.string ⟨val.toArray⟩]) (Pp val _ hvl) fun W2 hb2=>?_
 refine xie 14 (Xw val) (0:Int) (fun hc3=>?_) (fun hc3=>?_)
 ·have k1:=n1.blk.below hb2
  refine xlv 4 k1.rp ?_
  have hch:Ja (Zy l tree fuel d) way no val (lo,hi) s=Zy l tree fuel d (way++[no]) (Yz val:Int) lo hi s:=by unfold Ja;rw[if_pos (by assumption)]
  have hB:=blB (blB (Below.refl B w) hBw n1.below) hBw hb2
  have kW'1:=(kW.below n1.below).below hb2
  have hEn'1:=Za (Za hEn n1.below) hb2
  have hBl'1:=Za (Za hBl n1.below) hb2
  have hFl'1:=Za (Za hFl n1.below) hb2
  have hFv'1:=(hFv.below n1.below).below hb2
  have hWy'1:=Za (Za hWy n1.below) hb2
  have hI'1:=(hI.below n1.below).below hb2
  refine xc 0 (args:=#[.pointer (some ⟨bw,0,none⟩),.int .i64 (↑(Yz val):Int),.agg #[.int .i64 lo,.int .i64 hi]]) (hV (way++[no]) (Yz val:Int) lo hi s pe pb pf pw ce cb cf cw fv _ (by simp;omega) (Nat.le_trans hBw hB.size) hdry ⟨kW'1,hEn'1,hBl'1,hFl'1,hFv'1,hWy'1,hAp,hI'1⟩ (by have q:=he;rw[hch] at q;exact q) (by have q:=hb_;rw[hch] at q;exact q) (by have q:=hf;rw[hch] at q;exact q)) ?_
  rintro _ W4 ⟨u4,pe2,pb2,pf2,pw2,ce2,cb2,cf2,cw2,fv2,rfl,hb4,hO4,hR2⟩
  have hB'1:=hB.trans hb4
  have hO:=((show Ze [229,74,3,26] w _ from(Ze.of_below n1.below)).trans (Ze.of_below hb2)).trans hO4
  refine xe 4 (.tuple #[]) ?_
  rw[hch]
  exact⟨_,_,_,_,_,_,_,_,_,_,rfl,hB'1,hO,hR2⟩
 have kW'2:=(kW.below n1.below).below hb2
 refine xb 7 8 kW'2 ?_
 refine xwm 9 ((↑((way++[no]).length):Int)-1) (↑(((way++[no]).length)-1):Int) ?_
 refine xsH 0 (fun _ _ _ _ zo zx zy V=>Yt (k:=(((way++[no]).length)-1)) (b:=pw) (n:=(way++[no]).length) (c:=cw) (i:=(↑(((way++[no]).length)-1):Int)) (ki:=.i64) zo zx zy rfl (by omega) Tryz.underlying31 (by kernel_rfl) V) ?_
 refine xs 2 kW'2 [.slice pe s.es.length ce,.slice pb s.bs.length cb,.int .i64 s.deep,.int .i64 (s.looked:Int),.slice pf s.fs.length cf,.pointer (some ⟨b,0,none⟩),.int .i64 tree,.int .i64 fuel,.slice pw (((way++[no]).length)-1) cw,.bool s.dry] fun W5 u5 k5=>?_
 refine xc 8 (args:=#[.int .i64 no,.iface 91 (.int .i64 (Xw val))]) (Qq no (some (Xw val)) [] _ _ rfl) ?_
 rintro _ W6 ⟨r6,rfl,hb6,hv6⟩
 rw[Vk] at hv6
 obtain⟨t6,x6,rfl⟩:=hv6.iface
 have k5'1:=k5.below hb6
 have hch:Ja (Zy l tree fuel d) way no val (lo,hi) s=Yh way [no] (Xw val) s:=by unfold Ja;rw[if_neg (by assumption)]
 rw[show(way++[no]).length-1=way.length by omega] at k5'1
 have hB:=blB (u5.below (blB (blB (Below.refl B w) hBw n1.below) hBw hb2) hBb) hBw hb6
 have hFl'2:=Za (u5.own2 (Za (Za hFl n1.below) hb2) kW'2 (by decide)) hb6
 have hWy'2:=Za (u5.own2 (Za (Za hWy n1.below) hb2) kW'2 (by decide)) hb6
 refine xc 0 (args:=#[.pointer (some ⟨bw,0,none⟩),.iface t6 (x6)]) (Nd B bw _ _ _ _ _ _ _ _ pf _ cf fv pw cw way [no] (Xw val) _ _ _ hBb (Nat.le_trans hBw hB.size) k5'1 hFl'2 (Fa hWy'2) hv6 (by omega) (by have:=hf;rw[hch] at this;simp[Yh] at this;omega)) ?_
 rintro _ W7 ⟨u7,pf2,cf2,t2,x2,rfl,hb7,hO7,kN,hFl2,hv2⟩
 refine xs 7 kN [.slice pe s.es.length ce,.slice pb s.bs.length cb,.int .i64 s.deep,.int .i64 (s.looked:Int),.slice pf2 (s.fs.length+1) cf2,.pointer (some ⟨b,0,none⟩),.int .i64 tree,.int .i64 fuel,.slice pw ((way++[no]).length) cw,.bool s.dry] fun W8 u8 k8=>?_
 have hB'2:=u8.below (hB.trans hb7) hBb
 have hO:=(((((show Ze [229,74,3,26] w _ from(Ze.of_below n1.below)).trans (Ze.of_below hb2)).trans (Ze.of_upd u5 kW'2 (by decide))).trans (Ze.of_below hb6)).trans (Zbz hO7)).trans (Ze.of_upd u8 kN (by decide))
 have hEn'2:=u8.own2 (Zl (Za (u5.own2 (Za (Za hEn n1.below) hb2) kW'2 (by decide)) hb6) hO7 (by decide)) kN (by decide)
 have hBl'2:=u8.own2 (Zl (Za (u5.own2 (Za (Za hBl n1.below) hb2) kW'2 (by decide)) hb6) hO7 (by decide)) kN (by decide)
 have hFl2'1:=u8.own2 hFl2 kN (by decide)
 have hv2'1:=hv2.upd u8 kN (by decide)
 have hFv'2:=(((((hFv.below n1.below).below hb2).only (Ze.of_upd (T:=[229]) u5 kW'2 (by decide)) (by decide)).below hb6).only hO7 (by decide)).only (Ze.of_upd (T:=[229]) u8 kN (by decide)) (by decide)
 have hWy'3:=u8.own2 (Zl hWy'2 hO7 (by decide)) kN (by decide)
 have hI'2:=(((((hI.below n1.below).below hb2).only (Ze.of_upd (T:=[229]) u5 kW'2 (by decide)) (by decide)).below hb6).only hO7 (by decide)).only (Ze.of_upd (T:=[229]) u8 kN (by decide)) (by decide)
 refine xe 1 (.tuple #[]) ?_
 rw[hch]
 exact⟨_,pe,pb,pf2,pw,ce,cb,cf2,cw,_,rfl,hB'2,hO,by simpa [Yh] using k8,hEn'2,hBl'2,by simpa [Yh] using hFl2'1,Ha.snoc hv2'1 hFv'2,hWy'3,hAp,hI'2⟩
end Go.Proofs.YtlmaglneeaecdaaGreatDoor
namespace Go.Proofs.YtlmaglneeaecdaaGreatDoor
set_option maxHeartbeats 8000000
set_option maxRecDepth 100000
open Go.RowKit Go.Extern.Stop Go.Stop Go.Extern
set_option linter.unusedVariables false
def Ci(s t:WS):Prop:=s.es.length≤t.es.length∧s.bs.length≤t.bs.length∧s.fs.length≤t.fs.length
theorem Ci.refl(s:WS):Ci s s:=⟨Nat.le_refl _,Nat.le_refl _,Nat.le_refl _⟩
theorem Ci.trans{s t u:WS}(h:Ci s t)(k:Ci t u):Ci s u:=⟨Nat.le_trans h.1 k.1,Nat.le_trans h.2.1 k.2.1,Nat.le_trans h.2.2 k.2.2⟩
theorem Rh(way bs:List Int)(c:Int)(s:WS):Ci s (Yh way bs c s):=⟨Nat.le_refl _,Nat.le_refl _,by simp[Yh]⟩
theorem Zap{V:List Int→Int→Int→Int→WS→WS}(hV:∀ way no lo hi s,Ci s (V way no lo hi s))(way:List Int)(no:Int)(val:List UInt8)(p:Int×Int)(s:WS):Ci s (Ja V way no val p s):=by
 unfold Ja
 split
 ·exact hV _ _ _ _ _
 ·exact Rh _ _ _ _
theorem Zbi{V:List Int→Int→Int→Int→WS→WS}(hV:∀ way no lo hi s,Ci s (V way no lo hi s))(l:List UInt8)(way:List Int)(no hi:Int)(s:WS)(i:Nat):Ci s (Pn V l way no hi s i):=by
 unfold Pn
 split
 ·exact Ci.refl _
 ·exact Zap hV _ _ _ _ _
theorem Sa{V:List Int→Int→Int→Int→WS→WS}(hV:∀ way no lo hi s,Ci s (V way no lo hi s))(l:List UInt8)(way:List Int)(no hi:Int)(s:WS){k n:Nat}(hk:k≤n):Ci (Yk V l way no hi k s) (Yk V l way no hi n s):=by
 induction n with
 | zero =>
  obtain rfl:k=0:=by omega
  exact Ci.refl _
 | succ n ih =>
   rcases Nat.lt_or_ge n k with q|q
   ·obtain rfl:k=n+1:=by omega
    exact Ci.refl _
   ·rw[Gm]
    exact(ih q).trans (Zbi hV _ _ _ _ _ _)
theorem Zfk(V:List Int→Int→Int→Int→WS→WS)(l:List UInt8)(way:List Int)(no hi:Int)(s:WS):Yk V l way no hi 0 s=s:=rfl
theorem Uk(l:List UInt8)(tree fuel:Int):∀ (d:Nat) (way:List Int) (no lo hi:Int) (s:WS),Ci s (Zy l tree fuel d way no lo hi s)
 | 0,_,_,_,_,s=>Ci.refl s
 | d+1,way,no,lo,hi,s=>by
  unfold Zy
  split
  ·exact⟨Nat.le_refl _,Nat.le_refl _,by simp[Yh]⟩
  ·split
   ·exact⟨Nat.le_refl _,Nat.le_refl _,by simp[Yh]⟩
   ·split
    ·exact⟨by simp,by simp,Nat.le_refl _⟩
    ·refine Ci.trans ⟨?_,?_,?_⟩ (Sa (Uk l tree fuel d) l way no hi _ (Nat.zero_le _))
     ·exact Nat.le_refl _
     ·simp[Zfk]
     ·exact Nat.le_refl _
section
variable {B bw Bi b:Nat} {pi:Option Addr} {ni ci:Nat} {l:List UInt8} {tree fuel:Int} {way:List Int} {s:WS} {pe pb pf pw:Option Addr} {ce cb cf cw:Nat} {fv:List Value} {w W:World}
theorem WalkR.below(h:WalkR B bw Bi b pi ni ci l tree fuel way s pe pb pf pw ce cb cf cw fv w)(hb:Below w.heap.size w W):WalkR B bw Bi b pi ni ci l tree fuel way s pe pb pf pw ce cb cf cw fv W :=
 ⟨h.blk.below hb,Za h.ents hb,Za h.blks hb,Za h.flts hb,h.fltv.below hb,Za h.ways hb,h.apart,h.img.below hb⟩
theorem WalkR.only{T:List TypeId}(h:WalkR B bw Bi b pi ni ci l tree fuel way s pe pb pf pw ce cb cf cw fv w)(hO:Ze T w W)
 (hT:T.contains 229=false∧T.contains 74=false∧T.contains 3=false∧T.contains 26=false∧T.contains 182=false∧T.contains 103=false∧T.contains 5=false):WalkR B bw Bi b pi ni ci l tree fuel way s pe pb pf pw ce cb cf cw fv W :=
 ⟨h.blk.only hO hT.1,Zl h.ents hO hT.2.1,Zl h.blks hO hT.2.2.1,Zl h.flts hO hT.2.2.2.1,h.fltv.only hO hT.2.2.2.2.1,Zl h.ways hO hT.2.2.1,h.apart,h.img.only hO ⟨hT.2.2.2.2.2.1,hT.2.2.2.2.2.2⟩⟩
end
end Go.Proofs.YtlmaglneeaecdaaGreatDoor
namespace Go.Proofs.YtlmaglneeaecdaaGreatDoor
set_option maxHeartbeats 8000000
set_option maxRecDepth 100000
open Go.RowKit Go.Extern.Stop Go.Stop Go.Extern
set_option linter.unusedVariables false
attribute [local irreducible] wpList wpAnyH Code.wp Oper.wp Go
theorem LookP.or{B bw:Nat}{cs:List Value}{l:List UInt8}{way:List Int}{no tree lo hi deep:Int}{w:World}{e:Ending}{w':World}(h:LookP B bw cs l way no tree lo hi deep w e w') :
 (Zw l way no tree lo hi deep≠0∧∃ a4 b4 k4 n4 c4 v4 m4 d4 ty x,e=.returned (.tuple #[.agg #[.int .i64 a4,.bool b4,.slice k4 n4 c4,.slice v4 m4 d4],.iface ty x])∧Below B w w'∧Ze [229] w w'∧Blk w' bw cs 229∧Vu w' [some no] (some (Zw l way no tree lo hi deep)) (.iface ty x)) ∨
 (Zw l way no tree lo hi deep=0∧∃ kp kc vp vc,e=.returned (.tuple #[.agg #[.int .i64 (Xt (inB l no)),.bool (Xk (inB l no)),.slice kp (Zn (inB l no)) kc,.slice vp (Zn (inB l no)) vc],.nilIface])∧Below B w w'∧Ze [229] w w'∧Blk w' bw cs 229 ∧
 w'.ownsRow w.heap.size 3 1 (.slice kp (Zn (inB l no)) kc) (Zn (inB l no)) ((Xu l no).map (Value.int .i64))∧w'.ownsRow w.heap.size 9 1 (.slice vp (Zn (inB l no)) vc) (Zn (inB l no)) ((Qw l no).map sv)):=by
 obtain⟨h1,h2,h3,⟨h4,a4,b4,k4,n4,c4,v4,m4,d4,ty,x,h5,h6⟩|⟨h4,_,kp,kc,vp,vc,h5,h6,h7⟩⟩:=h
 ·exact .inl ⟨h4,a4,b4,k4,n4,c4,v4,m4,d4,ty,x,h5,h1,h2,h3,h6⟩
 ·exact .inr ⟨h4,kp,kc,vp,vc,h5,h1,h2,h3,h6,h7⟩
theorem widG_24(t:Int)(b:Bool):Zgj t b≤24:=by
 unfold Zgj Gv
 repeat' split
 all_goals omega
theorem Hq(l:List UInt8)(n i:Nat):((Kt l n).getD i []).length≤1000:=by
 by_cases h:i<n
 ·rw[Io l h]
  unfold Cg
  rw[List.length_take]
  have:=widG_24 (Xt l) (Xk l)
  unfold Xh
  omega
 ·simp[List.getD,List.getElem?_eq_none (show(Kt l n).length≤i by rw[Ve];omega)]
theorem Lv(p:Option Addr)(n c n2 c2:Nat):(Value.slice p n c).ownBlock=(Value.slice p n2 c2).ownBlock:=by
 cases p<;>rfl
theorem Kd.len{p q:Option Addr}{n c m d:Nat}(h:Kd (.slice p n c) (.slice q m d))(n2 c2 m2 d2:Nat):Kd (.slice p n2 c2) (.slice q m2 d2):=fun j h1 h2 =>
 h j ((Lv _ _ _ _ _).trans h1) ((Lv _ _ _ _ _).trans h2)
def prC (p:Int×Int):List Value:=[.int .i64 p.1,.int .i64 p.2]
theorem prC_len(p:Int×Int):(prC p).length=2:=rfl
theorem Zhm(l:List (Int×Int)):Wd l=l.flatMap prC:=by
 induction l with
 | nil=>rfl
 | cons x l ih=>simp only[Wd,List.flatMap_cons,prC];rfl
theorem look_fits{l:List UInt8}{way:List Int}{no tree lo hi deep:Int}(h:Zw l way no tree lo hi deep=0):Yn lo hi (Xu l no)=0∧way.length<16:=by
 unfold Zw at h
 by_cases h1:Qx way no=true
 ·rw[if_pos h1] at h;cases h
 rw[if_neg h1] at h
 by_cases h2:16≤way.length
 ·rw[if_pos h2] at h;cases h
 rw[if_neg h2] at h
 by_cases h3:Xc l no tree≠0
 ·rw[if_pos h3] at h;exact absurd h h3
 rw[if_neg h3] at h
 by_cases h4:Yn lo hi (Yq (inB l no) (Zn (inB l no)))≠0
 ·rw[if_pos h4] at h;cases h
 exact⟨Decidable.not_not.1 h4,by omega⟩
theorem Zfm(hi:Int)(l:List Int){i:Nat}(h:i<l.length):(Vb hi l).getD i (0,0)=Xa hi l i:=by simp[Vb,h]
theorem sts_sp{w:World}{p:Option Addr}{n c:Nat}{L:List (Int×Int)}(h:Sl w (.slice p n c) n (Wd L))(hL:L.length=n):Sts prC w (.slice p L.length c) L:=by
 subst hL;rw[Zhm] at h;exact h
theorem Se(hi:Int)(l:List Int):(Vb hi l).length=l.length:=by simp[Vb]
theorem only_le{w w':World}(h:Ze [229,74] w w'):Ze [229,74,3,26] w w':=h.mono fun t ht=>by
 simp only[List.contains_cons,List.contains_nil,Bool.or_eq_false_iff] at ht ⊢
 exact⟨ht.1,ht.2.1,trivial⟩
theorem only_w{w w':World}(h:Ze [229] w w'):Ze [229,74,3,26] w w':=h.mono fun t ht=>by
 simp only[List.contains_cons,List.contains_nil,Bool.or_eq_false_iff] at ht ⊢
 exact⟨ht.1,trivial⟩
theorem Br(B bw Bi b:Nat)(pi:Option Addr)(ni ci:Nat)(l:List UInt8)(tree fuel:Int)(d:Nat)(hV:d≠0→VisitC B bw Bi b pi ni ci l tree fuel d)(way:List Int)(no lo hi:Int)(s:WS)(pe pb pf pw:Option Addr)(ce cb cf cw:Nat)(fv:List Value)(w:World)(hBb:B≤bw)(hBw:B≤w.heap.size)(hwd:way.length+(d+1)=17)(hdry:s.dry=false)(hfu:fuel≤1000000)(hR:WalkR B bw Bi b pi ni ci l tree fuel way s pe pb pf pw ce cb cf cw fv w)(he:(Zy l tree fuel (d+1) way no lo hi s).es.length≤1000000)(hb_:(Zy l tree fuel (d+1) way no lo hi s).bs.length≤1000000)(hf:(Zy l tree fuel (d+1) way no lo hi s).fs.length≤1000000) :
 Calls Tryz.prog 111 #[.pointer (some ⟨bw,0,none⟩),.int .i64 no,.agg #[.int .i64 lo,.int .i64 hi]] w (VisitP B bw Bi b pi ni ci l tree fuel way (Zy l tree fuel (d+1) way no lo hi s) w):=by
 obtain⟨kW,hEn,hBl,hFl,hFv,hWy,hAp,hI⟩:=hR
 have hBl0:=hBl
 have hWy0:=hWy
 have hgr:=Uk l tree fuel (d+1) way no lo hi s
 have hbs:=Nat.le_trans hgr.2.1 hb_
 refine zin 106 Tryz.func111 ?_
 refine xa 2 [.int .i64 lo,.int .i64 hi] 232 fun b1 W1 n1=>?_
 refine xd 4 .z ?_
 have kW'1:=(kW.below n1.below).below (Zb W1)
 refine xb (.e [0,1,2,3] 4) 3 kW'1 ?_
 refine xb (.e [5,6,7] 8) 7 kW'1 ?_
 refine xid (.r [9] 2) ((↑s.looked:Int)≥fuel) (fun hc2=>?_) (fun hc2=>?_)
 ·refine xc 5 (args:=#[.int .i64 no,.iface 91 (.int .i64 12)]) (Qq no (some 12) [] _ _ rfl) ?_
  rintro _ W3 ⟨r3,rfl,hb3,hv3⟩
  rw[Vk] at hv3
  obtain⟨t3,x3,rfl⟩:=hv3.iface
  have hch:(Zy l tree fuel (d+1) way no lo hi s)={ Yh way [no] 12 s with dry:=true }:=by unfold Zy;rw[if_pos (by omega)]
  have hB:=blB (blB (blB (Below.refl B w) hBw n1.below) hBw (Zb W1)) hBw hb3
  have kW'2:=kW'1.below hb3
  have hFl'1:=Za (Za (Za hFl n1.below) (Zb W1)) hb3
  have hWy'1:=Za (Za (Za hWy n1.below) (Zb W1)) hb3
  refine xc 0 (args:=#[.pointer (some ⟨bw,0,none⟩),.iface t3 (x3)]) (Nd B bw _ _ _ _ _ _ _ _ pf _ cf fv pw cw way [no] 12 _ _ _ hBb (Nat.le_trans hBw hB.size) kW'2 hFl'1 hWy'1 hv3 (by omega) (by have:=hf;rw[hch] at this;simp[Yh] at this;omega)) ?_
  rintro _ W4 ⟨u4,pf2,cf2,t2,x2,rfl,hb4,hO4,kN,hFl2,hv2⟩
  refine xs 7 kN [.slice pe s.es.length ce,.slice pb s.bs.length cb,.int .i64 s.deep,.int .i64 (↑s.looked:Int),.slice pf2 (s.fs.length+1) cf2,.pointer (some ⟨b,0,none⟩),.int .i64 tree,.int .i64 fuel,.slice pw way.length cw,.bool true] fun W5 u5 k5=>?_
  have hB'1:=u5.below (hB.trans hb4) hBb
  have hO:=((((show Ze [229,74,3,26] w _ from(Ze.of_below n1.below)).trans (Ze.of_below (Zb W1))).trans (Ze.of_below hb3)).trans (Zbz hO4)).trans (Ze.of_upd u5 kN (by decide))
  have hEn'1:=u5.own2 (Zl (Za (Za (Za hEn n1.below) (Zb W1)) hb3) hO4 (by decide)) kN (by decide)
  have hBl'1:=u5.own2 (Zl (Za (Za (Za hBl n1.below) (Zb W1)) hb3) hO4 (by decide)) kN (by decide)
  have hFl2'1:=u5.own2 hFl2 kN (by decide)
  have hv2'1:=hv2.upd u5 kN (by decide)
  have hFv'1:=((((hFv.below n1.below).below (Zb W1)).below hb3).only hO4 (by decide)).only (Ze.of_upd (T:=[229]) u5 kN (by decide)) (by decide)
  have hWy'2:=u5.own2 (Zl hWy'1 hO4 (by decide)) kN (by decide)
  have hI'1:=((((hI.below n1.below).below (Zb W1)).below hb3).only hO4 (by decide)).only (Ze.of_upd (T:=[229]) u5 kN (by decide)) (by decide)
  refine xe 4 (.tuple #[]) ?_
  rw[hch]
  exact⟨_,pe,pb,pf2,pw,ce,cb,cf2,cw,_,rfl,hB'1,hO,by simpa [Yh] using k5,hEn'1,hBl'1,by simpa [Yh] using hFl2'1,Ha.snoc hv2'1 hFv'1,hWy'2,hAp,hI'1⟩
 have k1:=n1.blk.below (Zb W1)
 refine xlv 6 k1.rp ?_
 have hB:=blB (blB (Below.refl B w) hBw n1.below) hBw (Zb W1)
 have hWy'3:=Za (Za hWy n1.below) (Zb W1)
 have hI'2:=(hI.below n1.below).below (Zb W1)
 refine xc 0 (args:=#[.pointer (some ⟨bw,0,none⟩),.int .i64 no,.agg #[.int .i64 lo,.int .i64 hi]]) ((Zb1 B Bi b bw pi ni ci l _ _ _ _ _ pw cw way no tree lo hi s.deep (s.looked:Int) _ hBb (Nat.le_trans hBw hB.size) kW'1 hWy'3 hI'2 (by omega) (by omega) (by omega)).mono (fun _ _ h=>LookP.or h)) ?_
 rintro e W6 hq6
 rcases hq6 with ⟨hz,a4,b4,k4,n4,c4,v4,m4,d4,ty,x,rfl,hb6,hO6,kL6,hv6⟩|⟨hz,kp,kc,vp,vc,rfl,hb6,hO6,kL6,hk,hv_⟩
 ·refine xa 3 [.int .i64 0,.bool false,.slice none 0 0,.slice none 0 0] 220 fun b7 W7 n7=>?_
  have hB'2:=hB.trans hb6
  have g7:=n7.ge0 hB'2
  refine xsv 0 n7.blk [.int .i64 a4,.bool b4,.slice k4 n4 c4,.slice v4 m4 d4] fun W8 u8 k8=>?_
  have hch:(Zy l tree fuel (d+1) way no lo hi s)=Yh way [no] (Zw l way no tree lo hi s.deep) { s with looked:=s.looked+1 }:=by unfold Zy;rw[if_neg (by omega),if_pos hz]
  have hB'3:=u8.below (blB hB'2 hBw n7.below) (Nat.le_trans hBw g7)
  have kL6'1:=u8.blkT (kL6.below n7.below) n7.blk (by decide)
  have hFl'2:=u8.own2 (Za (Zl (Za (Za hFl n1.below) (Zb W1)) hO6 (by decide)) n7.below) n7.blk (by decide)
  have hWy'4:=u8.own2 (Za (Zl hWy'3 hO6 (by decide)) n7.below) n7.blk (by decide)
  have hv6'1:=(hv6.below n7.below).upd u8 n7.blk (by decide)
  refine xc 15 (args:=#[.pointer (some ⟨bw,0,none⟩),.iface ty (x)]) (Nd B bw _ _ _ _ _ _ _ _ pf _ cf fv pw cw way [no] (Zw l way no tree lo hi s.deep) _ _ _ hBb (Nat.le_trans hBw hB'3.size) kL6'1 hFl'2 hWy'4 hv6'1 (by omega) (by have:=hf;rw[hch] at this;simp[Yh] at this;omega)) ?_
  rintro _ W9 ⟨u9,pf2,cf2,t2,x2,rfl,hb9,hO9,kN,hFl2,hv2⟩
  have hB'4:=hB'3.trans hb9
  have hO:=(Ze.upd_new ((((show Ze [229,74,3,26] w _ from(Ze.of_below n1.below)).trans (Ze.of_below (Zb W1))).trans (only_w hO6)).trans (Ze.of_below n7.below)) u8 g7).trans (Zbz hO9)
  have hEn'2:=Zl (u8.own2 (Za (Zl (Za (Za hEn n1.below) (Zb W1)) hO6 (by decide)) n7.below) n7.blk (by decide)) hO9 (by decide)
  have hBl'2:=Zl (u8.own2 (Za (Zl (Za (Za hBl n1.below) (Zb W1)) hO6 (by decide)) n7.below) n7.blk (by decide)) hO9 (by decide)
  have hFv'2:=(((((hFv.below n1.below).below (Zb W1)).only hO6 (by decide)).below n7.below).only (Ze.of_upd (T:=[220]) u8 n7.blk (by decide)) (by decide)).only hO9 (by decide)
  have hWy'5:=Zl hWy'4 hO9 (by decide)
  have hI'3:=(((hI'2.only hO6 (by decide)).below n7.below).only (Ze.of_upd (T:=[220]) u8 n7.blk (by decide)) (by decide)).only hO9 (by decide)
  refine xe 4 (.tuple #[]) ?_
  rw[hch]
  exact⟨_,pe,pb,pf2,pw,ce,cb,cf2,cw,_,rfl,hB'4,hO,by simpa [Yh] using kN,hEn'2,hBl'2,by simpa [Yh] using hFl2,Ha.snoc hv2 hFv'2,hWy'5,hAp,hI'3⟩
 have hs6:=(blB (blB (Below.refl B w) hBw n1.below) hBw (Zb W1)).size
 have hk'1:=Zf hk hs6
 have hApk:=Kd.of_lt hBl0 hk'1 (Nat.le_refl _)
 have hApw:=Kd.of_lt hWy0 hk'1 (Nat.le_refl _)
 refine xa 3 [.int .i64 0,.bool false,.slice none 0 0,.slice none 0 0] 220 fun b10 W10 n10=>?_
 have hB'5:=hB.trans hb6
 have g10:=n10.ge0 hB'5
 refine xsv 0 n10.blk [.int .i64 (Xt (inB l no)),.bool (Xk (inB l no)),.slice kp (Zn (inB l no)) kc,.slice vp (Zn (inB l no)) vc] fun W11 u11 k11=>?_
 have kL6'2:=u11.blkT (kL6.below n10.below) n10.blk (by decide)
 refine xb 20 1 kL6'2 ?_
 refine xbs 1 1 [.int .i64 no] 3 fun b12 W12 n12=>?_
 have hB'6:=u11.below (blB hB'5 hBw n10.below) (Nat.le_trans hBw g10)
 have g12:=n12.ge0 hB'6
 have hBl'3:=u11.own2 (Za (Zl (Za (Za hBl n1.below) (Zb W1)) hO6 (by decide)) n10.below) n10.blk (by decide)
 have r12_hBl:=Zp hBl'3 n12
 have hWy'6:=u11.own2 (Za (Zl hWy'3 hO6 (by decide)) n10.below) n10.blk (by decide)
 have r12_hWy:=Zp hWy'6 n12
 have hk'2:=u11.own2 (Za hk'1 n10.below) n10.blk (by decide)
 have r12_hk:=Zp hk'2 n12
 have hBl'4:=Za hBl'3 n12.below
 have hB'7:=blB hB'6 hBw n12.below
 refine xbi 0 fun _ _ _ _ zJ zQ zo zx zy zK=>Cz (b:=b12) (c:=1) (m:=1) (news:=[.int .i64 no]) (.int .i64 0) 1 8 ((s.bs++[no]).length) (((s.bs++[no]).map (Value.int .i64))) zo Tryz.underlying31 (by kernel_rfl) rfl (by decide) zx hBl'4 zy n12.blk rfl (by simp[Value.oneCell']) (by unfold maxLen;omega) (by omega) (Nat.le_trans hBw hB'7.size) (by simp) (by simp) fun px13 cx13 W13 o13 hg13 hb13 ha13=>?_
 have hWy'7:=Za hWy'6 n12.below
 have q13_hWy:=hAp.row hWy'7 hg13
 replace hAp:=(hAp.grow hWy'7 ha13)
 have hk'3:=Za hk'2 n12.below
 have q13_hk:=hApk.row hk'3 hg13
 replace hApk:=(hApk.grow hk'3 ha13)
 have hWyq13:=q13_hWy
 have hkq13:=q13_hk
 refine zK _ _ ?_
 have kL6'3:=(kL6'2.below n12.below).grown hg13 hBl'4 (by decide)
 refine xs 3 kL6'3 [.slice pe s.es.length ce,.slice px13 ((s.bs++[no]).length) cx13,.int .i64 s.deep,.int .i64 ((s.looked:Int)+1),.slice pf s.fs.length cf,.pointer (some ⟨b,0,none⟩),.int .i64 tree,.int .i64 fuel,.slice pw way.length cw,.bool s.dry] fun W14 u14 k14=>?_
 have k11'1:=u14.blkT ((k11.below n12.below).grown hg13 hBl'4 (by decide)) kL6'3 (by decide)
 refine xb 6 1 k11'1 ?_
 refine xi 2 (Xk (inB l no)) (fun hc15=>?_) (fun hc15=>?_)
 ·refine xlv 4 k11'1.rp ?_
  have hch:(Zy l tree fuel (d+1) way no lo hi s)={ s with looked:=s.looked+1,bs:=s.bs++[no],deep:=((way.length+1:Nat):Int),es:=s.es++Ki (Xu l no) (Qw l no) no (Zn (inB l no)) }:=by unfold Zy;rw[if_neg (by omega),if_neg (by omega),if_pos (by assumption)]
  have hB'8:=u14.below (hB'7.trans hb13) hBb
  have hEn'3:=u14.own2 (Zh (Za (u11.own2 (Za (Zl (Za (Za hEn n1.below) (Zb W1)) hO6 (by decide)) n10.below) n10.blk (by decide)) n12.below) hg13 hBl'4 (by decide)) kL6'3 (by decide)
  have hk'4:=u14.own2 hkq13 kL6'3 (by decide)
  have hv_'1:=u14.own2 (Zh (Za (u11.own2 (Za (Zf hv_ hs6) n10.below) n10.blk (by decide)) n12.below) hg13 hBl'4 (by decide)) kL6'3 (by decide)
  refine xc 0 (args:=#[.pointer (some ⟨bw,0,none⟩),.int .i64 no,.agg #[.int .i64 (Xt (inB l no)),.bool (Xk (inB l no)),.slice kp (Zn (inB l no)) kc,.slice vp (Zn (inB l no)) vc]]) (Zby B bw _ _ _ _ _ _ _ _ pe ce s.es pw cw way no _ _ kp vp _ kc vc (Xu l no) (Qw l no) _ hBb (Nat.le_trans hBw hB'8.size) k14 hEn'3 (fun W _ q=>Zg (Zl hk'4 q (by decide))) (fun W _ q=>Zg (Zl hv_'1 q (by decide))) (by simp[Xu,Yq]) (by simp[Qw,Kt]) (by omega) (by have:=he;rw[hch] at this;simp[Hr] at this;omega)) ?_
  rintro _ W16 ⟨u16,pe2,ce2,rfl,hb16,hO16,kE,hE2⟩
  have hB'9:=hB'8.trans hb16
  have hO:=((((Ze.upd_new ((((show Ze [229,74,3,26] w _ from(Ze.of_below n1.below)).trans (Ze.of_below (Zb W1))).trans (only_w hO6)).trans (Ze.of_below n10.below)) u11 g10).trans (Ze.of_below n12.below)).trans (Ze.of_grown hg13 hBl'4 (by decide))).trans (Ze.of_upd u14 kL6'3 (by decide))).trans (only_le hO16)
  have o13'1:=Zl (u14.own2 o13 kL6'3 (by decide)) hO16 (by decide)
  have hFl'3:=Zl (u14.own2 (Zh (Za (u11.own2 (Za (Zl (Za (Za hFl n1.below) (Zb W1)) hO6 (by decide)) n10.below) n10.blk (by decide)) n12.below) hg13 hBl'4 (by decide)) kL6'3 (by decide)) hO16 (by decide)
  have hFv'3:=((((((((hFv.below n1.below).below (Zb W1)).only hO6 (by decide)).below n10.below).only (Ze.of_upd (T:=[220]) u11 n10.blk (by decide)) (by decide)).below n12.below).only (Ze.of_grown (T:=[3]) hg13 hBl'4 (by decide)) (by decide)).only (Ze.of_upd (T:=[229]) u14 kL6'3 (by decide)) (by decide)).only hO16 (by decide)
  have hWy'8:=Zl (u14.own2 hWyq13 kL6'3 (by decide)) hO16 (by decide)
  have hI'4:=((((((hI'2.only hO6 (by decide)).below n10.below).only (Ze.of_upd (T:=[220]) u11 n10.blk (by decide)) (by decide)).below n12.below).only (Ze.of_grown (T:=[3]) hg13 hBl'4 (by decide)) (by decide)).only (Ze.of_upd (T:=[229]) u14 kL6'3 (by decide)) (by decide)).only hO16 (by decide)
  refine xe 4 (.tuple #[]) ?_
  rw[hch]
  exact⟨_,pe2,_,pf,pw,ce2,_,cf,cw,fv,rfl,hB'9,hO,by simpa [Hr] using kE,by simpa [Hr] using hE2,by simpa using o13'1,hFl'3,hFv'3,hWy'8,by simpa using hAp,hI'4⟩
 refine xb 8 8 k14 ?_
 refine xbs 1 1 [.int .i64 no] 3 fun b17 W17 n17=>?_
 have hB'10:=u14.below (hB'7.trans hb13) hBb
 have g17:=n17.ge0 hB'10
 have hWy'9:=u14.own2 hWyq13 kL6'3 (by decide)
 have r17_hWy:=Zp hWy'9 n17
 have hk'5:=u14.own2 hkq13 kL6'3 (by decide)
 have r17_hk:=Zp hk'5 n17
 have o13'2:=u14.own2 o13 kL6'3 (by decide)
 have r17_o13:=Zp o13'2 n17
 have hWy'10:=Za hWy'9 n17.below
 have hB'11:=blB hB'10 hBw n17.below
 refine xbi 0 fun _ _ _ _ zJ zQ zo zx zy zK=>Cz (b:=b17) (c:=1) (m:=1) (news:=[.int .i64 no]) (.int .i64 0) 1 8 ((way++[no]).length) (((way++[no]).map (Value.int .i64))) zo Tryz.underlying31 (by kernel_rfl) rfl (by decide) zx hWy'10 zy n17.blk rfl (by simp[Value.oneCell']) (by unfold maxLen;omega) (by omega) (Nat.le_trans hBw hB'11.size) (by simp) (by simp) fun px18 cx18 W18 o18 hg18 hb18 ha18=>?_
 have o13'3:=Za o13'2 n17.below
 have q18_o13:=hAp.symm.row o13'3 hg18
 replace hAp:=(hAp.symm.grow o13'3 ha18).symm
 have hk'6:=Za hk'5 n17.below
 have q18_hk:=hApw.row hk'6 hg18
 replace hApw:=(hApw.grow hk'6 ha18)
 have o13q18:=q18_o13
 have hkq18:=q18_hk
 refine zK _ _ ?_
 have k14'1:=(k14.below n17.below).grown hg18 hWy'10 (by decide)
 refine xs 2 k14'1 [.slice pe s.es.length ce,.slice px13 ((s.bs++[no]).length) cx13,.int .i64 s.deep,.int .i64 ((s.looked:Int)+1),.slice pf s.fs.length cf,.pointer (some ⟨b,0,none⟩),.int .i64 tree,.int .i64 fuel,.slice px18 ((way++[no]).length) cx18,.bool s.dry] fun W19 u19 k19=>?_
 have k1'1:=u19.blkT (((u14.blkT (((u11.blkT ((k1.only hO6 (by decide)).below n10.below) n10.blk (by decide)).below n12.below).grown hg13 hBl'4 (by decide)) kL6'3 (by decide)).below n17.below).grown hg18 hWy'10 (by decide)) k14'1 (by decide)
 refine xlv 5 k1'1.rp ?_
 have k11'2:=u19.blkT ((k11'1.below n17.below).grown hg18 hWy'10 (by decide)) k14'1 (by decide)
 refine xb 1 2 k11'2 ?_
 have hB'12:=u19.below (hB'11.trans hb18) hBb
 have hsp0:=hB'12.size
 obtain⟨hfit,hw16⟩:=look_fits hz
 have hkl:(Xu l no).length=Zn (inB l no):=by simp[Xu,Yq]
 have hnc:Zn (inB l no)<65536:=Mq _ 2 2
 have hk'7:=u19.own2 hkq18 k14'1 (by decide)
 refine xc 0 (args:=#[.agg #[.int .i64 lo,.int .i64 hi],.slice kp (Zn (inB l no)) kc]) (Za6 lo hi _ (Xu l no) _ (by rw[hkl];omega) (Ws (Zg hk'7) hkl)) ?_
 rintro _ W20 ⟨r20,rfl,hb20,_,hg20⟩
 obtain⟨gs,rfl,hgs,kS⟩:=hg20 hfit
 rw[hkl]
 have hSp:=Xb (size:=2) (n:=Zn (inB l no)) kS (Nat.le_trans hsp0 hgs) (by rw[Bf,Se,hkl]) (by unfold maxLen;omega)
 have hch:(Zy l tree fuel (d+1) way no lo hi s)=(Yk (Zy l tree fuel d) l way no hi (Zn (inB l no)) { s with looked:=s.looked+1,bs:=s.bs++[no] }):=by unfold Zy;rw[if_neg (by omega),if_neg (by omega),if_neg (by simp;assumption)]
 have hspl:(Vb hi (Xu l no)).length=(Zn (inB l no)):=by rw[Se,hkl]
 have hvl:(Qw l no).length=(Zn (inB l no)):=by simp[Qw,Kt]
 have k19'1:=k19.below hb20
 have hEn'4:=Za (u19.own2 (Zh (Za (u14.own2 (Zh (Za (u11.own2 (Za (Zl (Za (Za hEn n1.below) (Zb W1)) hO6 (by decide)) n10.below) n10.blk (by decide)) n12.below) hg13 hBl'4 (by decide)) kL6'3 (by decide)) n17.below) hg18 hWy'10 (by decide)) k14'1 (by decide)) hb20
 have o13'4:=Za (u19.own2 o13q18 k14'1 (by decide)) hb20
 have hFl'4:=Za (u19.own2 (Zh (Za (u14.own2 (Zh (Za (u11.own2 (Za (Zl (Za (Za hFl n1.below) (Zb W1)) hO6 (by decide)) n10.below) n10.blk (by decide)) n12.below) hg13 hBl'4 (by decide)) kL6'3 (by decide)) n17.below) hg18 hWy'10 (by decide)) k14'1 (by decide)) hb20
 have hFv'4:=(((((((((((hFv.below n1.below).below (Zb W1)).only hO6 (by decide)).below n10.below).only (Ze.of_upd (T:=[220]) u11 n10.blk (by decide)) (by decide)).below n12.below).only (Ze.of_grown (T:=[3]) hg13 hBl'4 (by decide)) (by decide)).only (Ze.of_upd (T:=[229]) u14 kL6'3 (by decide)) (by decide)).below n17.below).only (Ze.of_grown (T:=[3]) hg18 hWy'10 (by decide)) (by decide)).only (Ze.of_upd (T:=[229]) u19 k14'1 (by decide)) (by decide)).below hb20
 have o18'1:=Za (u19.own2 o18 k14'1 (by decide)) hb20
 have hI'5:=(((((((((hI'2.only hO6 (by decide)).below n10.below).only (Ze.of_upd (T:=[220]) u11 n10.blk (by decide)) (by decide)).below n12.below).only (Ze.of_grown (T:=[3]) hg13 hBl'4 (by decide)) (by decide)).only (Ze.of_upd (T:=[229]) u14 kL6'3 (by decide)) (by decide)).below n17.below).only (Ze.of_grown (T:=[3]) hg18 hWy'10 (by decide)) (by decide)).only (Ze.of_upd (T:=[229]) u19 k14'1 (by decide)) (by decide)).below hb20
 have hR:WalkR B bw Bi b pi ni ci l tree fuel (way++[no]) (Yk (Zy l tree fuel d) l way no hi 0 { s with looked:=s.looked+1,bs:=s.bs++[no] }) pe _ pf _ ce _ cf _ fv W20:=⟨k19'1,hEn'4,o13'4,hFl'4,hFv'4,o18'1,hAp,hI'5⟩
 have hv_'2:=Za (u19.own2 (Zh (Za (u14.own2 (Zh (Za (u11.own2 (Za (Zf hv_ hs6) n10.below) n10.blk (by decide)) n12.below) hg13 hBl'4 (by decide)) kL6'3 (by decide)) n17.below) hg18 hWy'10 (by decide)) k14'1 (by decide)) hb20
 have hB'13:=blB hB'12 hBw hb20
 have hO:=(((((((Ze.upd_new ((((show Ze [229,74,3,26] w _ from(Ze.of_below n1.below)).trans (Ze.of_below (Zb W1))).trans (only_w hO6)).trans (Ze.of_below n10.below)) u11 g10).trans (Ze.of_below n12.below)).trans (Ze.of_grown hg13 hBl'4 (by decide))).trans (Ze.of_upd u14 kL6'3 (by decide))).trans (Ze.of_below n17.below)).trans (Ze.of_grown hg18 hWy'10 (by decide))).trans (Ze.of_upd u19 k14'1 (by decide))).trans (Ze.of_below hb20)
 have k1'2:=k1'1.below hb20
 have k11'3:=k11'2.below hb20
 refine zl 5 106 (fun zm zkv V=>∃ (i:Nat) (pe5 pb5 pf5 pw5:Option Addr) (ce5 cb5 cf5 cw5:Nat) (fv5:List Value),zkv=[(0,.pointer (some ⟨bw,0,none⟩)),(1,.int .i64 no),(6,.pointer (some ⟨b10,0,none⟩)),(71,.slice (some ⟨gs,0,none⟩) (Zn (inB l no)) (Zn (inB l no))),(72,.int .i64 (↑(Zn (inB l no)):Int)),(73,.int .i64 (↑i:Int))]∧zm=(Zn (inB l no))-((↑i:Int)).toNat∧Below B w V∧Ze [229,74,3,26] w V∧Blk V b1 ([.int .i64 lo,.int .i64 hi]) 232∧Blk V b10 ([.int .i64 (Xt (inB l no)),.bool (Xk (inB l no)),.slice kp (Zn (inB l no)) kc,.slice vp (Zn (inB l no)) vc]) 220∧WalkR B bw Bi b pi ni ci l tree fuel (way++[no]) (Yk (Zy l tree fuel d) l way no hi i { s with looked:=s.looked+1,bs:=s.bs++[no] }) pe5 pb5 pf5 pw5 ce5 cb5 cf5 cw5 fv5 V∧V.ownsRow w.heap.size 9 1 (.slice vp (Zn (inB l no)) vc) (Zn (inB l no)) ((Qw l no).map sv)∧V.ownsRow w.heap.size 232 2 (.slice (some ⟨gs,0,none⟩) (Zn (inB l no)) (Zn (inB l no))) (Zn (inB l no)) (Wd (Vb hi (Xu l no)))∧i≤(Zn (inB l no))∧(Yk (Zy l tree fuel d) l way no hi i { s with looked:=s.looked+1,bs:=s.bs++[no] }).dry=false) ⟨0,_,_,_,_,_,_,_,_,_,rfl,rfl,hB'13,hO,k1'2,k11'3,hR,hv_'2,hSp,Nat.zero_le _,hdry⟩ ?_
 rintro _ _ W21 ⟨i,pe5,pb5,pf5,pw5,ce5,cb5,cf5,cw5,fv5,rfl,rfl,hB_21,hO_21,k21_b1,k21_b10,hR,hv_,hSp,hi_,hdr⟩ J21 hJ21 r21
 have kW3:=hR.blk
 refine xid 6 ((↑i:Int)<(↑(Zn (inB l no)):Int)) (fun hc22=>?_) (fun hc22=>?_)
 ·refine xx 7 _ (Zn (inB l no)) i 2 (Sts.cell (sts_sp (Zg hSp) hspl) prC_len (0,0) (k:=i) (i:=0) (show i<(Vb hi (Xu l no)).length by omega) rfl).1 ?_
  refine xlv 0 (Sts.rp (k:=i) (sts_sp (Zg hSp) hspl) prC_len (0,0) (by omega) (by decide)) ?_
  refine xa 0 [.int .i64 0,.int .i64 0] 232 fun b23 W23 n23=>?_
  have d23_b1:=n23.ne k21_b1
  have g23:=n23.ge0 hB_21
  have r23_hSp:=Zp hSp n23
  refine xsv 1 n23.blk [.int .i64 (((Vb hi (Xu l no)).getD i (0,0)).1),.int .i64 (((Vb hi (Xu l no)).getD i (0,0)).2)] fun W24 u24 k24=>?_
  refine xd 3 (.t B [229,74,3,26]) ?_
  have k21_b10'1:=(u24.blkT (k21_b10.below n23.below) n23.blk (by decide)).below (Zb W24)
  refine xbt (.e [0,1,2] 3) 3 B [229,74,3,26] k21_b10'1 ?_
  have hv_'3:=Za (u24.own2 (Za hv_ n23.below) n23.blk (by decide)) (Zb W24)
  refine xx (.e [4] 5) _ (Zn (inB l no)) i 1 (Strs.elem (Zg hv_'3) hvl (k:=i) (by omega)).1 ?_
  refine xlt (.e [] 6) (.t B [229,74,3,26]) (fun V hV=>(Strs.elem (Zg (Zl hv_'3 hV.2 (by decide))) hvl (k:=i) (by omega)).2) ?_
  have k24'1:=k24.below (Zb W24)
  refine xlvt (.e [] 7) (.t B [229,74,3,26]) (fun V hV=>(k24'1.only hV.2 (by decide)).rp) ?_
  have hxi:=Zfm hi (Xu l no) (i:=i) (by omega)
  have hch2:Ja (Zy l tree fuel d) way no ((Qw l no).getD i []) (((Vb hi (Xu l no)).getD i (0,0)).1,((Vb hi (Xu l no)).getD i (0,0)).2) (Yk (Zy l tree fuel d) l way no hi i { s with looked:=s.looked+1,bs:=s.bs++[no] })=(Yk (Zy l tree fuel d) l way no hi (i+1) { s with looked:=s.looked+1,bs:=s.bs++[no] }):=by rw[Gm];unfold Pn;rw[if_neg (by rw[hdr];decide),hxi]
  have hgi:=Sa (Uk l tree fuel d) l way no hi { s with looked:=s.looked+1,bs:=s.bs++[no] } (show i+1≤(Zn (inB l no)) by omega)
  rw[hch] at he hb_ hf
  have hB'14:=blB (u24.below (blB hB_21 hBw n23.below) (Nat.le_trans hBw g23)) hBw (Zb W24)
  have hR'1:=((hR.below n23.below).only (Ze.of_upd (T:=[232]) u24 n23.blk (by decide)) (by decide)).below (Zb W24)
  refine yc (.o [] 8) (args:=#[.pointer (some ⟨bw,0,none⟩),.int .i64 no,.string ⟨((Qw l no).getD i []).toArray⟩,.agg #[.int .i64 (((Vb hi (Xu l no)).getD i (0,0)).1),.int .i64 (((Vb hi (Xu l no)).getD i (0,0)).2)]]) (.t B [229,74,3,26]) (Oi B bw Bi b pi ni ci l tree fuel d (hV (by omega)) way no _ _ ((Qw l no).getD i []) _ pe5 pb5 pf5 pw5 ce5 cb5 cf5 cw5 fv5 _ hBb (Nat.le_trans hBw hB'14.size) (by omega) hdr (Hq _ _ _) hR'1 (by rw[hch2];exact Nat.le_trans hgi.1 he) (by rw[hch2];exact Nat.le_trans hgi.2.1 hb_) (by rw[hch2];exact Nat.le_trans hgi.2.2 hf)) ?_
  rintro _ W25 ⟨u25,pe3,pb3,pf3,pw3,ce3,cb3,cf3,cw3,fv3,rfl,hb25,hO25,hR3⟩
  have kW3'1:=(u24.blkT (kW3.below n23.below) n23.blk (by decide)).below (Zb W24)
  refine⟨(sft_only hb25 hO25),?_⟩
  rw[hch2] at hR3
  have kW3:=hR3.blk
  refine xb 7 9 kW3 ?_
  refine xi 2 ((Yk (Zy l tree fuel d) l way no hi (i+1) { s with looked:=s.looked+1,bs:=s.bs++[no] }).dry) (fun hc26=>?_) (fun hc26=>?_)
  ·obtain⟨_,hEn,hBl,hFl,hFv,hWy,hAp,hI⟩:=hR3
   have hwc:=(Cv hWy (by simp)).2
   have hwl:(way++[no]).length=way.length+1:=by simp
   have hend:(Yk (Zy l tree fuel d) l way no hi (Zn (inB l no)) { s with looked:=s.looked+1,bs:=s.bs++[no] })=(Yk (Zy l tree fuel d) l way no hi (i+1) { s with looked:=s.looked+1,bs:=s.bs++[no] }):=loopW_dry _ _ _ _ _ _ (by omega) hc26
   refine xd 6 (.t B [229]) ?_
   refine xm2 (.b [0,1,2,3,5,6,7]) 4 8 ?_ ?_
   ·have kW3'2:=kW3.below (Zb W25)
    refine xb 0 8 kW3'2 ?_
    refine xb (.o [] 8) 8 kW3'2 ?_
    refine xwm (.e [9] 10) ((↑((way++[no]).length):Int)-1) (↑(((way++[no]).length)-1):Int) ?_
    refine xsH (.e [] 11) (fun _ _ _ _ zo zx zy V=>Yt (k:=(((way++[no]).length)-1)) (b:=pw3) (n:=(way++[no]).length) (c:=cw3) (i:=(↑(((way++[no]).length)-1):Int)) (ki:=.i64) zo zx zy rfl (by omega) Tryz.underlying31 (by kernel_rfl) V) ?_
    refine ys (.o [12,13] 14) kW3'2 [.slice pe3 ((Yk (Zy l tree fuel d) l way no hi (i+1) { s with looked:=s.looked+1,bs:=s.bs++[no] }).es.length) ce3,.slice pb3 ((Yk (Zy l tree fuel d) l way no hi (i+1) { s with looked:=s.looked+1,bs:=s.bs++[no] }).bs.length) cb3,.int .i64 (Yk (Zy l tree fuel d) l way no hi (i+1) { s with looked:=s.looked+1,bs:=s.bs++[no] }).deep,.int .i64 ((Yk (Zy l tree fuel d) l way no hi (i+1) { s with looked:=s.looked+1,bs:=s.bs++[no] }).looked:Int),.slice pf3 ((Yk (Zy l tree fuel d) l way no hi (i+1) { s with looked:=s.looked+1,bs:=s.bs++[no] }).fs.length) cf3,.pointer (some ⟨b,0,none⟩),.int .i64 tree,.int .i64 fuel,.slice pw3 (((way++[no]).length)-1) cw3,.bool ((Yk (Zy l tree fuel d) l way no hi (i+1) { s with looked:=s.looked+1,bs:=s.bs++[no] }).dry)] (.t B [229]) fun W27 u27 k27=>⟨(Zm u27 kW3'2 hBb (by decide)),?_⟩
    have k21_b1'1:=(((u24.blk (k21_b1.below n23.below) (Ne.symm (Ne.symm d23_b1))).below (Zb W24)).only hO25 (by decide)).below (Zb W25)
    have k21_b10'2:=(k21_b10'1.only hO25 (by decide)).below (Zb W25)
    have hB'15:=u27.below (blB (hB'14.trans hb25) hBw (Zb W25)) hBb
    have hO'1:=((((Ze.upd_new (hO_21.trans (Ze.of_below n23.below)) u24 g23).trans (Ze.of_below (Zb W24))).trans hO25).trans (Ze.of_below (Zb W25))).trans (Ze.of_upd u27 kW3'2 (by decide))
    have hEn'5:=u27.own2 (Za hEn (Zb W25)) kW3'2 (by decide)
    have hBl'5:=u27.own2 (Za hBl (Zb W25)) kW3'2 (by decide)
    have hFl'5:=u27.own2 (Za hFl (Zb W25)) kW3'2 (by decide)
    have hFv'5:=(hFv.below (Zb W25)).only (Ze.of_upd (T:=[229]) u27 kW3'2 (by decide)) (by decide)
    have hWy'11:=u27.own2 (Za hWy (Zb W25)) kW3'2 (by decide)
    have hI'6:=(hI.below (Zb W25)).only (Ze.of_upd (T:=[229]) u27 kW3'2 (by decide)) (by decide)
    refine xe 1 (.tuple #[]) ?_
    rw[hch,hend]
    rw[show(way++[no]).length-1=way.length by simp] at k27
    exact⟨_,pe3,pb3,pf3,pw3,ce3,cb3,cf3,cw3,fv3,rfl,hB'15,hO'1,k27,hEn'5,hBl'5,hFl'5,hFv'5,Fa hWy'11,hAp.len _ _ _ _,hI'6⟩
   have kW3'3:=kW3.below (Zb W25)
   refine xb 0 8 kW3'3 ?_
   refine xwm (.e [9] 10) ((↑((way++[no]).length):Int)-1) (↑(((way++[no]).length)-1):Int) ?_
   refine xb (.o [] 4) 8 kW3'3 ?_
   refine xsH (.e [] 11) (fun _ _ _ _ zo zx zy V=>Yt (k:=(((way++[no]).length)-1)) (b:=pw3) (n:=(way++[no]).length) (c:=cw3) (i:=(↑(((way++[no]).length)-1):Int)) (ki:=.i64) zo zx zy rfl (by omega) Tryz.underlying31 (by kernel_rfl) V) ?_
   refine ys (.o [12,13] 14) kW3'3 [.slice pe3 ((Yk (Zy l tree fuel d) l way no hi (i+1) { s with looked:=s.looked+1,bs:=s.bs++[no] }).es.length) ce3,.slice pb3 ((Yk (Zy l tree fuel d) l way no hi (i+1) { s with looked:=s.looked+1,bs:=s.bs++[no] }).bs.length) cb3,.int .i64 (Yk (Zy l tree fuel d) l way no hi (i+1) { s with looked:=s.looked+1,bs:=s.bs++[no] }).deep,.int .i64 ((Yk (Zy l tree fuel d) l way no hi (i+1) { s with looked:=s.looked+1,bs:=s.bs++[no] }).looked:Int),.slice pf3 ((Yk (Zy l tree fuel d) l way no hi (i+1) { s with looked:=s.looked+1,bs:=s.bs++[no] }).fs.length) cf3,.pointer (some ⟨b,0,none⟩),.int .i64 tree,.int .i64 fuel,.slice pw3 (((way++[no]).length)-1) cw3,.bool ((Yk (Zy l tree fuel d) l way no hi (i+1) { s with looked:=s.looked+1,bs:=s.bs++[no] }).dry)] (.t B [229]) fun W28 u28 k28=>⟨(Zm u28 kW3'3 hBb (by decide)),?_⟩
   have k21_b1'2:=(((u24.blk (k21_b1.below n23.below) (Ne.symm (Ne.symm d23_b1))).below (Zb W24)).only hO25 (by decide)).below (Zb W25)
   have k21_b10'3:=(k21_b10'1.only hO25 (by decide)).below (Zb W25)
   have hB'16:=u28.below (blB (hB'14.trans hb25) hBw (Zb W25)) hBb
   have hO'2:=((((Ze.upd_new (hO_21.trans (Ze.of_below n23.below)) u24 g23).trans (Ze.of_below (Zb W24))).trans hO25).trans (Ze.of_below (Zb W25))).trans (Ze.of_upd u28 kW3'3 (by decide))
   have hEn'6:=u28.own2 (Za hEn (Zb W25)) kW3'3 (by decide)
   have hBl'6:=u28.own2 (Za hBl (Zb W25)) kW3'3 (by decide)
   have hFl'6:=u28.own2 (Za hFl (Zb W25)) kW3'3 (by decide)
   have hFv'6:=(hFv.below (Zb W25)).only (Ze.of_upd (T:=[229]) u28 kW3'3 (by decide)) (by decide)
   have hWy'12:=u28.own2 (Za hWy (Zb W25)) kW3'3 (by decide)
   have hI'7:=(hI.below (Zb W25)).only (Ze.of_upd (T:=[229]) u28 kW3'3 (by decide)) (by decide)
   refine xe 1 (.tuple #[]) ?_
   rw[hch,hend]
   rw[show(way++[no]).length-1=way.length by simp] at k28
   exact⟨_,pe3,pb3,pf3,pw3,ce3,cb3,cf3,cw3,fv3,rfl,hB'16,hO'2,k28,hEn'6,hBl'6,hFl'6,hFv'6,Fa hWy'12,hAp.len _ _ _ _,hI'7⟩
  refine xwm 4 ((↑i:Int)+1) (↑(i+1):Int) ?_
  have hB'17:=hB'14.trans hb25
  have hO'3:=((Ze.upd_new (hO_21.trans (Ze.of_below n23.below)) u24 g23).trans (Ze.of_below (Zb W24))).trans hO25
  have k21_b1'3:=((u24.blk (k21_b1.below n23.below) (Ne.symm (Ne.symm d23_b1))).below (Zb W24)).only hO25 (by decide)
  have k21_b10'4:=k21_b10'1.only hO25 (by decide)
  have hv_'4:=Zl hv_'3 hO25 (by decide)
  have hSp'1:=Zl (Za (u24.own3 (Za hSp n23.below) r23_hSp) (Zb W24)) hO25 (by decide)
  exact ze 2 (hJ21 _ _ _ ⟨i+1,_,_,_,_,_,_,_,_,_,rfl,rfl,hB'17,hO'3,k21_b1'3,k21_b10'4,hR3,hv_'4,hSp'1,by omega,by assumption⟩ (by omega))
 obtain⟨_,hEn,hBl,hFl,hFv,hWy,hAp,hI⟩:=hR
 have hwc:=(Cv hWy (by simp)).2
 have hwl:(way++[no]).length=way.length+1:=by simp
 have hend:(Yk (Zy l tree fuel d) l way no hi (Zn (inB l no)) { s with looked:=s.looked+1,bs:=s.bs++[no] })=(Yk (Zy l tree fuel d) l way no hi i { s with looked:=s.looked+1,bs:=s.bs++[no] }):=by rw[show i=(Zn (inB l no)) by omega]
 refine xd 5 (.t B [229]) ?_
 refine xm2 (.b [0,1,2,3,5,6,7]) 4 8 ?_ ?_
 ·have kW3'4:=kW3.below (Zb W21)
  refine xb 0 8 kW3'4 ?_
  refine xb (.o [] 8) 8 kW3'4 ?_
  refine xwm (.e [9] 10) ((↑((way++[no]).length):Int)-1) (↑(((way++[no]).length)-1):Int) ?_
  refine xsH (.e [] 11) (fun _ _ _ _ zo zx zy V=>Yt (k:=(((way++[no]).length)-1)) (b:=pw5) (n:=(way++[no]).length) (c:=cw5) (i:=(↑(((way++[no]).length)-1):Int)) (ki:=.i64) zo zx zy rfl (by omega) Tryz.underlying31 (by kernel_rfl) V) ?_
  refine ys (.o [12,13] 14) kW3'4 [.slice pe5 ((Yk (Zy l tree fuel d) l way no hi i { s with looked:=s.looked+1,bs:=s.bs++[no] }).es.length) ce5,.slice pb5 ((Yk (Zy l tree fuel d) l way no hi i { s with looked:=s.looked+1,bs:=s.bs++[no] }).bs.length) cb5,.int .i64 (Yk (Zy l tree fuel d) l way no hi i { s with looked:=s.looked+1,bs:=s.bs++[no] }).deep,.int .i64 ((Yk (Zy l tree fuel d) l way no hi i { s with looked:=s.looked+1,bs:=s.bs++[no] }).looked:Int),.slice pf5 ((Yk (Zy l tree fuel d) l way no hi i { s with looked:=s.looked+1,bs:=s.bs++[no] }).fs.length) cf5,.pointer (some ⟨b,0,none⟩),.int .i64 tree,.int .i64 fuel,.slice pw5 (((way++[no]).length)-1) cw5,.bool ((Yk (Zy l tree fuel d) l way no hi i { s with looked:=s.looked+1,bs:=s.bs++[no] }).dry)] (.t B [229]) fun W29 u29 k29=>⟨(Zm u29 kW3'4 hBb (by decide)),?_⟩
  have k21_b1'4:=k21_b1.below (Zb W21)
  have k21_b10'5:=k21_b10.below (Zb W21)
  have hB'18:=u29.below (blB hB_21 hBw (Zb W21)) hBb
  have hO'4:=(hO_21.trans (Ze.of_below (Zb W21))).trans (Ze.of_upd u29 kW3'4 (by decide))
  have hEn'7:=u29.own2 (Za hEn (Zb W21)) kW3'4 (by decide)
  have hBl'7:=u29.own2 (Za hBl (Zb W21)) kW3'4 (by decide)
  have hFl'7:=u29.own2 (Za hFl (Zb W21)) kW3'4 (by decide)
  have hFv'7:=(hFv.below (Zb W21)).only (Ze.of_upd (T:=[229]) u29 kW3'4 (by decide)) (by decide)
  have hWy'13:=u29.own2 (Za hWy (Zb W21)) kW3'4 (by decide)
  have hI'8:=(hI.below (Zb W21)).only (Ze.of_upd (T:=[229]) u29 kW3'4 (by decide)) (by decide)
  refine xe 1 (.tuple #[]) ?_
  rw[hch,hend]
  rw[show(way++[no]).length-1=way.length by simp] at k29
  exact⟨_,pe5,pb5,pf5,pw5,ce5,cb5,cf5,cw5,fv5,rfl,hB'18,hO'4,k29,hEn'7,hBl'7,hFl'7,hFv'7,Fa hWy'13,hAp.len _ _ _ _,hI'8⟩
 have kW3'5:=kW3.below (Zb W21)
 refine xb 0 8 kW3'5 ?_
 refine xwm (.e [9] 10) ((↑((way++[no]).length):Int)-1) (↑(((way++[no]).length)-1):Int) ?_
 refine xb (.o [] 4) 8 kW3'5 ?_
 refine xsH (.e [] 11) (fun _ _ _ _ zo zx zy V=>Yt (k:=(((way++[no]).length)-1)) (b:=pw5) (n:=(way++[no]).length) (c:=cw5) (i:=(↑(((way++[no]).length)-1):Int)) (ki:=.i64) zo zx zy rfl (by omega) Tryz.underlying31 (by kernel_rfl) V) ?_
 refine ys (.o [12,13] 14) kW3'5 [.slice pe5 ((Yk (Zy l tree fuel d) l way no hi i { s with looked:=s.looked+1,bs:=s.bs++[no] }).es.length) ce5,.slice pb5 ((Yk (Zy l tree fuel d) l way no hi i { s with looked:=s.looked+1,bs:=s.bs++[no] }).bs.length) cb5,.int .i64 (Yk (Zy l tree fuel d) l way no hi i { s with looked:=s.looked+1,bs:=s.bs++[no] }).deep,.int .i64 ((Yk (Zy l tree fuel d) l way no hi i { s with looked:=s.looked+1,bs:=s.bs++[no] }).looked:Int),.slice pf5 ((Yk (Zy l tree fuel d) l way no hi i { s with looked:=s.looked+1,bs:=s.bs++[no] }).fs.length) cf5,.pointer (some ⟨b,0,none⟩),.int .i64 tree,.int .i64 fuel,.slice pw5 (((way++[no]).length)-1) cw5,.bool ((Yk (Zy l tree fuel d) l way no hi i { s with looked:=s.looked+1,bs:=s.bs++[no] }).dry)] (.t B [229]) fun W30 u30 k30=>⟨(Zm u30 kW3'5 hBb (by decide)),?_⟩
 have k21_b1'5:=k21_b1.below (Zb W21)
 have k21_b10'6:=k21_b10.below (Zb W21)
 have hB'19:=u30.below (blB hB_21 hBw (Zb W21)) hBb
 have hO'5:=(hO_21.trans (Ze.of_below (Zb W21))).trans (Ze.of_upd u30 kW3'5 (by decide))
 have hEn'8:=u30.own2 (Za hEn (Zb W21)) kW3'5 (by decide)
 have hBl'8:=u30.own2 (Za hBl (Zb W21)) kW3'5 (by decide)
 have hFl'8:=u30.own2 (Za hFl (Zb W21)) kW3'5 (by decide)
 have hFv'8:=(hFv.below (Zb W21)).only (Ze.of_upd (T:=[229]) u30 kW3'5 (by decide)) (by decide)
 have hWy'14:=u30.own2 (Za hWy (Zb W21)) kW3'5 (by decide)
 have hI'9:=(hI.below (Zb W21)).only (Ze.of_upd (T:=[229]) u30 kW3'5 (by decide)) (by decide)
 refine xe 1 (.tuple #[]) ?_
 rw[hch,hend]
 rw[show(way++[no]).length-1=way.length by simp] at k30
 exact⟨_,pe5,pb5,pf5,pw5,ce5,cb5,cf5,cw5,fv5,rfl,hB'19,hO'5,k30,hEn'8,hBl'8,hFl'8,hFv'8,Fa hWy'14,hAp.len _ _ _ _,hI'9⟩
end Go.Proofs.YtlmaglneeaecdaaGreatDoor
namespace Go.Proofs.YtlmaglneeaecdaaGreatDoor
set_option maxHeartbeats 8000000
set_option maxRecDepth 100000
open Go.RowKit Go.Extern.Stop Go.Stop Go.Extern
set_option linter.unusedVariables false
theorem Nz{V:List Int→Int→Int→Int→WS→WS}{l:List UInt8}{way:List Int}{no hi:Int}{s:WS}(P:Nat→WS→Prop)(h0:P 0 s) :
  ∀ n,(∀ i t,i<n→t.dry=false→P i t→P (i+1) (Ja V way no ((Qw l no).getD i []) (Xa hi (Xu l no) i) t))→(∀ i t,i<n→t.dry=true→P i t→P (i+1) t)→P n (Yk V l way no hi n s)
 | 0,_,_=>h0
 | n+1,hs,hd=>by
  have ih:=Nz P h0 n (fun i t hi=>hs i t (by omega)) (fun i t hi=>hd i t (by omega))
  rw[Gm]
  unfold Pn
  split
  ·rename_i h;exact hd n _ (by omega) h ih
  ·rename_i h;exact hs n _ (by omega) (by simpa using h) ih
theorem rootE_no(v:List UInt8):Xw v=0∨Xw v=2∨Xw v=7:=by
 unfold Xw;split
 ·split<;>simp
 ·simp
theorem Rm(l:List UInt8):∀ n,Ye l n=0∨Ye l n=2∨Ye l n=8
 | 0=>.inl rfl
 | n+1=>by
  rw[Ye]
  split
  ·exact Rm l n
  ·unfold Pm;split
   ·simp
   ·split<;>simp
theorem Zgc(l:List UInt8)(no tree:Int):Xc l no tree≠12:=by
 unfold Xc
 split
 ·unfold Qh
  split
  ·split<;>decide
  ·unfold Yr
   split
   ·split
    ·rcases Rm (inB l no) (Zn (inB l no)) with h|h|h<;>rw[h]<;>decide
    ·decide
   ·decide
 ·unfold inE
  split
  ·unfold Yo
   repeat' split
   all_goals decide
  ·decide
theorem lookE_no(l:List UInt8)(way:List Int)(no tree lo hi deep:Int):Zw l way no tree lo hi deep≠12:=by
 unfold Zw
 split
 ·decide
 ·split
  ·decide
  ·split
   ·exact Zgc _ _ _
   ·split
    ·decide
    ·split<;>decide
theorem maxG_18(t:Int)(b:Bool):Zd7 t b≤18:=by
 unfold Zd7 Vy
 repeat' split
 all_goals omega
theorem Dl{l:List UInt8}(h:Yr l=0):Vw l=true:=by
 unfold Yr at h
 split at h
 ·assumption
 ·cases h
theorem Pt{l:List UInt8}{tree:Int}(h:Qh l tree=0):Yr l=0:=by
 unfold Qh at h
 split at h
 ·assumption
 ·assumption
theorem Lh{l:List UInt8}{no tree:Int}(h:Xc l no tree=0):inE l 2 no=0∧Qh (inB l no) tree=0:=by
 unfold Xc at h
 split at h
 ·exact⟨by assumption,h⟩
 ·rename_i q;exact absurd h q
theorem Hj{l:List UInt8}{way:List Int}{no tree lo hi deep:Int}(h:Zw l way no tree lo hi deep=0):Xc l no tree=0∧Yn lo hi (Xu l no)=0∧Zn (inB l no)≤18:=by
 unfold Zw at h
 split at h
 ·cases h
 ·split at h
  ·cases h
  ·split at h
   ·rename_i q;exact absurd h q
   ·rename_i q
    split at h
    ·cases h
    ·rename_i q2
     have q1:Xc l no tree=0:=Decidable.not_not.1 q
     exact⟨q1,Decidable.not_not.1 q2,Nat.le_trans (Hs (Dl (Pt (Lh q1).2))) (maxG_18 _ _)⟩
theorem Gn{lo hi:Int}{L:List Int}(h:Yn lo hi L=0):Qj lo hi=true∧Kk L∧∀ k∈L,lo≤k∧k<hi:=by
 unfold Yn at h
 split at h
 ·split at h
  ·split at h
   ·exact⟨by assumption,by assumption,by assumption⟩
   ·cases h
  ·cases h
 ·cases h
def InBlk(l:List UInt8)(tree:Int)(x:Ent):Prop :=
 Xc l x.2.2 tree=0∧Xk (inB l x.2.2)=true∧∃ k,k<Zn (inB l x.2.2)∧(Xu l x.2.2).getD k 0=x.1∧(Qw l x.2.2).getD k []=x.2.1∧∀ j,j<k→(Xu l x.2.2).getD j 0≠x.1
def Rise(lo hi:Int)(es:List Ent):Prop:=es.Pairwise (fun x y=>x.1<y.1)∧∀ x∈es,lo≤x.1∧x.1<hi
theorem Rise.nil(lo hi:Int):Rise lo hi []:=⟨.nil,fun _ h=>by cases h⟩
theorem Rise.app{lo mi hi:Int}{a b:List Ent}(h:Rise lo mi a)(k:Rise mi hi b)(h1:lo≤mi)(h2:mi≤hi):Rise lo hi (a++b):=by
 refine⟨List.pairwise_append.2 ⟨h.1,k.1,fun x hx y hy=>?_⟩,fun x hx=>?_⟩
 ·have:=(h.2 x hx).2;have:=(k.2 y hy).1;omega
 ·rcases List.mem_append.1 hx with q|q
  ·have:=h.2 x q;omega
  ·have:=k.2 x q;omega
structure Went(l:List UInt8)(tree fuel:Int)(hd:Option Int)(lo hi:Int)(s t:WS)(es:List Ent)(fs:List (List Int×Int)):Prop where
 esE:t.es=s.es++es
 fsE:t.fs=s.fs++fs
 rise:Rise lo hi es
 inb:∀ x∈es,InBlk l tree x
 flt:∀ f∈fs,f.1.head? = hd∧f.1≠[]∧f.2≠0
 dry:t.dry=true↔s.dry=true∨∃ f∈fs,f.2=12
 fuelE:t.dry=true→s.dry=true∨fuel≤t.looked
 look:s.looked≤fuel.toNat→t.looked≤fuel.toNat
 more:s.looked≤t.looked
 blks:t.bs.length+s.looked≤s.bs.length+t.looked
theorem Went.refl(l:List UInt8)(tree fuel:Int)(hd:Option Int)(lo hi:Int)(s:WS):Went l tree fuel hd lo hi s s [] [] :=
 ⟨by simp,by simp,Rise.nil _ _,by simp,by simp,by simp,fun h=>.inl h,fun h=>h,Nat.le_refl _,Nat.le_refl _⟩
theorem Went.trans{l:List UInt8}{tree fuel:Int}{hd:Option Int}{lo mi hi:Int}{s t u:WS}{es es2:List Ent}{fs fs2:List (List Int×Int)}(h:Went l tree fuel hd lo mi s t es fs)(k:Went l tree fuel hd mi hi t u es2 fs2)(h1:lo≤mi)(h2:mi≤hi) :
  Went l tree fuel hd lo hi s u (es++es2) (fs++fs2) where
 esE:=by rw[k.esE,h.esE,List.append_assoc]
 fsE:=by rw[k.fsE,h.fsE,List.append_assoc]
 rise:=h.rise.app k.rise h1 h2
 inb x hx:=by
  rcases List.mem_append.1 hx with q|q
  ·exact h.inb x q
  ·exact k.inb x q
 flt f hf:=by
  rcases List.mem_append.1 hf with q|q
  ·exact h.flt f q
  ·exact k.flt f q
 dry:=by
  rw[k.dry,h.dry]
  constructor
  ·rintro((q|⟨f,q1,q2⟩)|⟨f,q1,q2⟩)
   ·exact .inl q
   ·exact .inr ⟨f,List.mem_append_left _ q1,q2⟩
   ·exact .inr ⟨f,List.mem_append_right _ q1,q2⟩
  ·rintro(q|⟨f,q1,q2⟩)
   ·exact .inl (.inl q)
   ·rcases List.mem_append.1 q1 with q|q
    ·exact .inl (.inr ⟨f,q,q2⟩)
    ·exact .inr ⟨f,q,q2⟩
 fuelE h0:=by
  rcases k.fuelE h0 with q|q
  ·rcases h.fuelE q with q|q
   ·exact .inl q
   ·exact .inr (by have:=k.more;omega)
  ·exact .inr q
 look h0:=k.look (h.look h0)
 more:=Nat.le_trans h.more k.more
 blks:=by have:=h.blks;have:=k.blks;omega
theorem Went.wide{l:List UInt8}{tree fuel:Int}{hd:Option Int}{lo hi lo2 hi2:Int}{s t:WS}{es:List Ent}{fs:List (List Int×Int)}(h:Went l tree fuel hd lo hi s t es fs)(h1:lo2≤lo)(h2:hi≤hi2):Went l tree fuel hd lo2 hi2 s t es fs :=
 { h with rise:=⟨h.rise.1,fun x hx=>by have:=h.rise.2 x hx;omega⟩ }
theorem Went.note(l:List UInt8)(tree fuel:Int){hd:Option Int}(lo hi:Int)(way:List Int)(no c:Int)(s:WS)(hc:c≠0)(hc2:c≠12)(hh:(way++[no]).head? = hd):Went l tree fuel hd lo hi s (Yh way [no] c s) [] [(way++[no],c)] :=
 ⟨by simp[Yh],by simp[Yh],Rise.nil _ _,by simp,(fun f hf=>by rw[List.mem_singleton.1 hf];exact⟨hh,by simp,hc⟩),by simp[Yh,hc2],fun h=>.inl (by simpa [Yh] using h),fun h=>by simpa [Yh] using h,Nat.le_refl _,Nat.le_refl _⟩
theorem Gq{lo hi:Int}{L:List Int}(hf:Yn lo hi L=0){i:Nat}(h:i<L.length):lo≤(Xa hi L i).1∧(Xa hi L i).1≤(Xa hi L i).2∧(Xa hi L i).2≤hi∧(i+1<L.length→(Xa hi L i).2=(Xa hi L (i+1)).1):=by
 obtain⟨h1,h2,h3⟩:=Gn hf
 have h4:=h3 L[i] (List.getElem_mem _)
 unfold Xa
 simp only[List.getElem?_eq_getElem h,Option.getD_some]
 by_cases hn:i+1<L.length
 ·have h5:=h3 L[i+1] (List.getElem_mem _)
  have h6:=Kk.lt h2 (i+1) i (by omega) hn
  simp only[List.getElem?_eq_getElem h,List.getElem?_eq_getElem hn,Option.getD_some] at h6 ⊢
  exact⟨h4.1,by omega,by omega,fun _=>trivial⟩
 ·rw[List.getElem?_eq_none (by omega)]
  simp only[Option.getD_none]
  exact⟨h4.1,by omega,Int.le_refl _,fun h=>absurd h hn⟩
theorem leaf_rise{lo hi:Int}{l:List UInt8}{no:Int}(hf:Yn lo hi (Xu l no)=0)(Vs:List (List UInt8)):Rise lo hi (Ki (Xu l no) Vs no (Zn (inB l no))):=by
 obtain⟨h1,h2,h3⟩:=Gn hf
 have hl:(Xu l no).length=Zn (inB l no):=by simp[Xu,Yq]
 refine⟨?_,?_⟩
 ·unfold Ki
  rw[List.pairwise_map]
  refine List.Pairwise.imp_of_mem (R:=fun a b=>a<b) ?_ List.pairwise_lt_range
  intro a b ha hb hab
  have:=Kk.lt h2 b a hab (by rw[hl];simpa using hb)
  simpa [List.getD] using this
 ·intro x hx
  unfold Ki at hx
  obtain⟨j,hj,rfl⟩:=List.mem_map.1 hx
  have hj:j<(Xu l no).length:=by rw[hl];simpa using hj
  have:=h3 (Xu l no)[j] (List.getElem_mem _)
  simpa [List.getD,hj] using this
theorem leaf_inb{lo hi:Int}{l:List UInt8}{no tree:Int}(hn:Xc l no tree=0)(hl:Xk (inB l no)=true)(hf:Yn lo hi (Xu l no)=0):∀ x∈Ki (Xu l no) (Qw l no) no (Zn (inB l no)),InBlk l tree x:=by
 intro x hx
 obtain⟨h1,h2,h3⟩:=Gn hf
 have hk:(Xu l no).length=Zn (inB l no):=by simp[Xu,Yq]
 unfold Ki at hx
 obtain⟨j,hj,rfl⟩:=List.mem_map.1 hx
 have hj:j<Zn (inB l no):=by simpa using hj
 refine⟨hn,hl,j,hj,rfl,rfl,fun i hi=>?_⟩
 have:=Kk.lt h2 j i hi (by rw[hk];exact hj)
 simp only[List.getD]
 omega
theorem De(l:List UInt8)(tree fuel:Int):∀ (d:Nat) (way:List Int) (no lo hi:Int) (s:WS),s.dry=false→∃ es fs,Went l tree fuel (way++[no]).head? lo hi s (Zy l tree fuel d way no lo hi s) es fs
  | 0,way,no,lo,hi,s,_=>⟨[],[],Went.refl _ _ _ _ _ _ _⟩
  | d + 1, way, no, lo, hi, s, hs => by
    unfold Zy
    split
    · rename_i hf
      exact⟨[],[(way++[no],12)],by simp[Yh],by simp[Yh],Rise.nil _ _,by simp,by simp,by simp,fun _=>.inr hf,fun h=>h,Nat.le_refl _,Nat.le_refl _⟩
    · rename_i hf
      have hlk:s.looked+1≤fuel.toNat:=by omega
      split
      · rename_i he
        have:=Went.note l tree fuel lo hi way no _ { s with looked:=s.looked+1 } he (lookE_no _ _ _ _ _ _ _) rfl
        exact⟨_,_,this.esE,this.fsE,this.rise,this.inb,this.flt,this.dry,fun h=>by simp[Yh,hs] at h,fun _=>hlk,by simp[Yh],by simp[Yh]⟩
      · rename_i he
        have he:Zw l way no tree lo hi s.deep=0:=Decidable.not_not.1 he
        obtain⟨hn,hft,hc⟩:=Hj he
        split
        · rename_i hl
          exact⟨_,[],rfl,by simp,leaf_rise hft _,leaf_inb hn hl hft,by simp,by simp[hs],fun h=>by simp[hs] at h,fun _=>hlk,by simp,by simp;omega⟩
        · have hk:(Xu l no).length=Zn (inB l no):=by simp[Xu,Yq]
          have hfs:=Gn hft
          have hrt:lo≤hi:=by have:=hfs.1;unfold Qj at this;simp at this;omega
          have hloop:=Nz (V:=Zy l tree fuel d) (l:=l) (way:=way) (no:=no) (hi:=hi) (s:={ s with looked:=s.looked+1,bs:=s.bs++[no] })
            (fun i t=>∃ es fs,Went l tree fuel (way++[no]).head? lo (if i=0 then lo else(Xa hi (Xu l no) (i-1)).2) { s with looked:=s.looked+1,bs:=s.bs++[no] } t es fs)
            ⟨[],[],Went.refl _ _ _ _ _ _ _⟩ (Zn (inB l no)) ?_ ?_
          · obtain⟨es,fs,q⟩:=hloop
            refine⟨es,fs,q.esE,q.fsE,?_,q.inb,q.flt,q.dry,fun h=>?_,fun _=>q.look hlk,by have:=q.more;simp only at this;omega,by have:=q.blks;simp at this;omega⟩
            · refine⟨q.rise.1,fun x hx=>?_⟩
              have:=q.rise.2 x hx
              split at this
              · omega
              · rename_i h0
                have:=(Gq hft (i:=Zn (inB l no)-1) (by rw[hk];omega)).2.2.1
                omega
            · rcases q.fuelE h with q2|q2
              · exact .inl q2
              · exact .inr q2
          · rintro i t hi0 htd ⟨es,fs,q⟩
            have hp:=Gq hft (i:=i) (by rw[hk];exact hi0)
            have hmid:lo≤(if i=0 then lo else(Xa hi (Xu l no) (i-1)).2)∧(if i=0 then lo else(Xa hi (Xu l no) (i-1)).2)≤(Xa hi (Xu l no) i).1:=by
              split
              · exact⟨Int.le_refl _,hp.1⟩
              · rename_i h0
                have hp2:=Gq hft (i:=i-1) (by rw[hk];omega)
                have:=hp2.2.2.2 (by rw[hk];omega)
                rw[show i-1+1=i by omega] at this
                omega
            have q':=q.wide (Int.le_refl lo) hmid.2
            rw[if_neg (by omega),Nat.add_sub_cancel]
            unfold Ja
            split
            · obtain⟨es2,fs2,r⟩:=De l tree fuel d (way++[no]) (Yz ((Qw l no).getD i []):Int) (Xa hi (Xu l no) i).1 (Xa hi (Xu l no) i).2 t htd
              have hh:((way++[no])++[(Yz ((Qw l no).getD i []):Int)]).head? = (way++[no]).head? := by cases way<;>rfl
              rw[hh] at r
              exact⟨_,_,q'.trans r (by omega) hp.2.1⟩
            · rename_i hre
              have r:=Went.note l tree fuel (Xa hi (Xu l no) i).1 (Xa hi (Xu l no) i).2 way no (Xw ((Qw l no).getD i [])) t hre (by rcases rootE_no ((Qw l no).getD i []) with h|h|h<;>rw[h]<;>decide) rfl
              exact⟨_,_,q'.trans r (by omega) hp.2.1⟩
          · rintro i t hi0 htd ⟨es,fs,q⟩
            have hp:=Gq hft (i:=i) (by rw[hk];exact hi0)
            rw[if_neg (by omega),Nat.add_sub_cancel]
            refine⟨es,fs,q.wide (Int.le_refl _) ?_⟩
            split
            · omega
            · rename_i h0
              have hp2:=Gq hft (i:=i-1) (by rw[hk];omega)
              have:=hp2.2.2.2 (by rw[hk];omega)
              rw[show i-1+1=i by omega] at this
              omega
theorem Ba(l:List UInt8)(tree fuel:Int):∀ (d:Nat) (way:List Int) (no lo hi:Int) (s:WS),s.dry=false →
  (Zy l tree fuel d way no lo hi s).fs.length+(Zy l tree fuel d way no lo hi s).es.length+18*s.looked≤s.fs.length+s.es.length+18*(Zy l tree fuel d way no lo hi s).looked+(if(Zy l tree fuel d way no lo hi s).dry=true then 1 else 0)
 | 0,way,no,lo,hi,s,hs=>by simp[Zy,hs]
 | d+1,way,no,lo,hi,s,hs=>by
  unfold Zy
  split
  ·simp[Yh];omega
  ·split
   ·simp[Yh,hs];omega
   ·rename_i he
    have he:Zw l way no tree lo hi s.deep=0:=Decidable.not_not.1 he
    obtain⟨hn,hft,hc⟩:=Hj he
    split
    ·simp[Hr,hs];omega
    ·have hloop:=Nz (V:=Zy l tree fuel d) (l:=l) (way:=way) (no:=no) (hi:=hi) (s:={ s with looked:=s.looked+1,bs:=s.bs++[no] })
      (fun i t=>t.fs.length+t.es.length+18*(s.looked+1)≤s.fs.length+s.es.length+i+18*t.looked+(if t.dry=true then 1 else 0)) (by simp[hs]) (Zn (inB l no)) ?_ ?_
     ·omega
     ·intro i t hi0 htd q
      rw[htd] at q
      unfold Ja
      split
      ·have:=Ba l tree fuel d (way++[no]) (Yz ((Qw l no).getD i []):Int) (Xa hi (Xu l no) i).1 (Xa hi (Xu l no) i).2 t htd
       simp at q
       omega
      ·simp[Yh,htd] at q ⊢;omega
     ·intro i t hi0 htd q;omega
end Go.Proofs.YtlmaglneeaecdaaGreatDoor
namespace Go.Proofs.YtlmaglneeaecdaaGreatDoor
set_option maxHeartbeats 8000000
set_option maxRecDepth 100000
open Go.RowKit Go.Extern.Stop Go.Stop Go.Extern
set_option linter.unusedVariables false
attribute [local irreducible] wpList wpAnyH Code.wp Oper.wp Go
theorem Zac{B bw Bi b:Nat}{pi:Option Addr}{ni ci:Nat}{l:List UInt8}{tree fuel:Int}(hBb:B≤bw)(hfu:fuel≤1000000):∀ d,VisitC B bw Bi b pi ni ci l tree fuel (d+1)
 | 0=>fun way no lo hi s pe pb pf pw ce cb cf cw fv w h1 h2 h3 h4 h5 h6 h7=>Br B bw Bi b pi ni ci l tree fuel 0 (fun h=>absurd rfl h) way no lo hi s pe pb pf pw ce cb cf cw fv w hBb h2 h1 h3 hfu h4 h5 h6 h7
 | d+1=>fun way no lo hi s pe pb pf pw ce cb cf cw fv w h1 h2 h3 h4 h5 h6 h7=>Br B bw Bi b pi ni ci l tree fuel (d+1) (fun _=>Zac hBb hfu d) way no lo hi s pe pb pf pw ce cb cf cw fv w hBb h2 h1 h3 hfu h4 h5 h6 h7
def ws0:WS:=⟨[],[],0,0,[],false⟩
def Zd(l:List UInt8)(root tree fuel:Int):WS:=Zy l tree fuel 17 [] root 0 281474976710656 ws0
theorem Wy(l:List UInt8)(root tree fuel:Int):∃ es fs,Went l tree fuel (some root) 0 281474976710656 ws0 (Zd l root tree fuel) es fs:=De l tree fuel 17 [] root 0 281474976710656 ws0 rfl
theorem Bb(l:List UInt8)(root tree fuel:Int):(Zd l root tree fuel).looked≤fuel.toNat:=by
 obtain⟨_,_,h⟩:=Wy l root tree fuel
 exact h.look (Nat.zero_le _)
theorem Ko(l:List UInt8)(root tree fuel:Int)(hf:fuel≤1000):(Zd l root tree fuel).es.length≤1000000∧(Zd l root tree fuel).bs.length≤1000000∧(Zd l root tree fuel).fs.length≤1000000:=by
 have h1:=Ba l tree fuel 17 [] root 0 281474976710656 ws0 rfl
 have h2:=Bb l root tree fuel
 obtain⟨_,_,h3⟩:=Wy l root tree fuel
 have h4:=h3.blks
 simp only[ws0,List.length_nil] at h4
 change (Zd l root tree fuel).fs.length+(Zd l root tree fuel).es.length+18*0≤0+0+18*(Zd l root tree fuel).looked+(if(Zd l root tree fuel).dry=true then 1 else 0) at h1
 have h5:(if(Zd l root tree fuel).dry=true then 1 else 0)≤1:=by split<;>omega
 have h6:fuel.toNat≤1000:=by omega
 generalize (if(Zd l root tree fuel).dry=true then 1 else 0)=q at h1 h5
 omega
def walkC(t:WS)(pe pb pf:Option Addr)(ce cb cf:Nat):List Value:=[.slice pe t.es.length ce,.slice pb t.bs.length cb,.int .i64 t.deep,.int .i64 (t.looked:Int),.slice pf t.fs.length cf]
structure WalkV(B:Nat)(t:WS)(pe pb pf:Option Addr)(ce cb cf:Nat)(fv:List Value)(w:World):Prop where
 ents:w.ownsRow B 74 3 (.slice pe t.es.length ce) t.es.length (t.es.flatMap Ky)
 blks:w.ownsRow B 3 1 (.slice pb t.bs.length cb) t.bs.length (t.bs.map (Value.int .i64))
 flts:w.ownsRow B 26 1 (.slice pf t.fs.length cf) t.fs.length fv
 fltv:Ha w t.fs fv
def ScanP(l:List UInt8)(root tree fuel:Int)(w:World)(e:Ending)(w':World):Prop :=
 ∃ pe pb pf ce cb cf fv,e=.returned (.agg (walkC (Zd l root tree fuel) pe pb pf ce cb cf).toArray)∧Below w.heap.size w w'∧WalkV w.heap.size (Zd l root tree fuel) pe pb pf ce cb cf fv w'
theorem walk_Scan(Bi b:Nat)(pi:Option Addr)(ni ci:Nat)(l:List UInt8)(root tree fuel:Int)(w:World)(hfu:fuel≤1000)(hI:ImgR Bi b pi ni ci l w) :
 Calls Tryz.prog 68 #[.pointer (some ⟨b,0,none⟩),.int .i64 root,.int .i64 tree,.int .i64 fuel] w (ScanP l root tree fuel w):=by
 refine zin 23 Tryz.func68 ?_
 refine xa 2 [.slice none 0 0,.slice none 0 0,.int .i64 0,.int .i64 0,.slice none 0 0] 87 fun b1 W1 n1=>?_
 refine xa 8 [.slice none 0 0,.slice none 0 0,.int .i64 0,.int .i64 0,.slice none 0 0,.pointer (some ⟨b,0,none⟩),.int .i64 tree,.int .i64 fuel,.slice none 0 0,.bool false] 229 fun b2 W2 n2=>?_
 refine xr 7 (args:=#[]) (Zcg _) fun W3 hb3=>?_
 have hfew:=Ko l root tree fuel hfu
 have g2:=n2.ge n1.below
 have hB:=bln (bln n1.below n2.below) hb3
 have k2:=n2.blk.below hb3
 have hI'1:=((hI.below n1.below).below n2.below).below hb3
 refine xc 0 (args:=#[.pointer (some ⟨b2,0,none⟩),.int .i64 root,.agg #[.int .i64 0,.int .i64 281474976710656]]) (Zac (B:=w.heap.size) (bw:=b2) (Bi:=Bi) (b:=b) (pi:=pi) (ni:=ni) (ci:=ci) (l:=l) (tree:=tree) (fuel:=fuel) g2 (by omega) 16 [] root 0 281474976710656 ws0 none none none none 0 0 0 0 [] _ rfl hB.size rfl ⟨k2,World.ownsRow_nil _ _ _ _,World.ownsRow_nil _ _ _ _,World.ownsRow_nil _ _ _ _,trivial,World.ownsRow_nil _ _ _ _,Kd.nil _,hI'1⟩ hfew.1 hfew.2.1 hfew.2.2) ?_
 rintro _ W4 ⟨u4,pe,pb,pf,pw,ce,cb,cf,cw,fv,rfl,hb4,hO4,hR⟩
 change WalkR _ _ _ _ _ _ _ _ _ _ _ (Zd l root tree fuel) _ _ _ _ _ _ _ _ _ _ at hR
 obtain⟨kW,hEn,hBl,hFl,hFv,hWy,hAp,hI⟩:=hR
 refine xlv 7 (kW.rpp 0 5) ?_
 have k1:=((n1.blk.below n2.below).below hb3).only hO4 (by decide)
 refine xsv 0 k1 [.slice pe ((Zd l root tree fuel).es.length) ce,.slice pb ((Zd l root tree fuel).bs.length) cb,.int .i64 (Zd l root tree fuel).deep,.int .i64 ((Zd l root tree fuel).looked:Int),.slice pf ((Zd l root tree fuel).fs.length) cf] fun W5 u5 k5=>?_
 have g1:=n1.ge (Below.refl w.heap.size _)
 have hB'1:=u5.below (hB.trans hb4) g1
 have hEn'1:=u5.own2 hEn k1 (by decide)
 have hBl'1:=u5.own2 hBl k1 (by decide)
 have hFl'1:=u5.own2 hFl k1 (by decide)
 have hFv'1:=hFv.only (Ze.of_upd (T:=[87]) u5 k1 (by decide)) (by decide)
 exact xec 3 k5 (.agg #[.slice pe ((Zd l root tree fuel).es.length) ce,.slice pb ((Zd l root tree fuel).bs.length) cb,.int .i64 (Zd l root tree fuel).deep,.int .i64 ((Zd l root tree fuel).looked:Int),.slice pf ((Zd l root tree fuel).fs.length) cf]) ⟨_,_,_,_,_,_,_,rfl,hB'1,⟨hEn'1,hBl'1,hFl'1,hFv'1⟩⟩
end Go.Proofs.YtlmaglneeaecdaaGreatDoor
namespace Go.Proofs.YtlmaglneeaecdaaGreatDoor
set_option maxHeartbeats 8000000
set_option maxRecDepth 100000
open Go.RowKit Go.Extern.Stop Go.Stop Go.Extern
set_option linter.unusedVariables false
structure Wt where
 no:Int
 lo:Int
 hi:Int
 way:List Int
 ft:Int
 wa:Option Addr
 wc:Nat
def Zdi(l:List UInt8)(tree fuel:Int)(s:WS)(t:Wt):WS :=
 if s.dry=true then s else if t.ft≠0 then Yh t.way [t.no] t.ft s else Zy l tree fuel (17-t.way.length) t.way t.no t.lo t.hi s
def Ec(l:List UInt8)(tree fuel:Int)(ts:List Wt)(s:WS):WS:=ts.foldl (Zdi l tree fuel) s
theorem doneW_nil(l:List UInt8)(tree fuel:Int)(s:WS):Ec l tree fuel [] s=s:=rfl
theorem Mr(l:List UInt8)(tree fuel:Int)(t:Wt)(ts:List Wt)(s:WS):Ec l tree fuel (t::ts) s=Ec l tree fuel ts (Zdi l tree fuel s t):=rfl
theorem doneW_app(l:List UInt8)(tree fuel:Int)(bs ts:List Wt)(s:WS):Ec l tree fuel (bs++ts) s=Ec l tree fuel ts (Ec l tree fuel bs s):=List.foldl_append
theorem Og(l:List UInt8)(tree fuel:Int):∀ (ts:List Wt) (s:WS),s.dry=true→Ec l tree fuel ts s=s
 | [],_,_=>rfl
 | t::ts,s,h=>by rw[Mr,Zdi,if_pos h,Og l tree fuel ts s h]
theorem Zg7(l:List UInt8)(tree fuel:Int)(s:WS)(t:Wt):Ci s (Zdi l tree fuel s t):=by
 unfold Zdi
 split
 ·exact Ci.refl _
 ·split
  ·exact Rh _ _ _ _
  ·exact Uk _ _ _ _ _ _ _ _ _
theorem Ry(l:List UInt8)(tree fuel:Int):∀ (ts:List Wt) (s:WS),Ci s (Ec l tree fuel ts s)
 | [],s=>Ci.refl s
 | t::ts,s=>(Zg7 l tree fuel s t).trans (Ry l tree fuel ts _)
def Vr(l:List UInt8)(t:Wt)(p:Option Addr)(c i:Nat):Wt :=
 if Xw ((Qw l t.no).getD i [])=0 then⟨Yz ((Qw l t.no).getD i []),(Xa t.hi (Xu l t.no) i).1,(Xa t.hi (Xu l t.no) i).2,t.way++[t.no],0,p,c⟩ else⟨t.no,0,0,t.way,Xw ((Qw l t.no).getD i []),t.wa,t.wc⟩
def Yl(l:List UInt8)(t:Wt)(p:Option Addr)(c k:Nat):List Wt:=(List.range k).map (Vr l t p c)
theorem Jb(l:List UInt8)(t:Wt)(p:Option Addr)(c k:Nat):(Yl l t p c k).length=k:=by simp[Yl]
theorem Jc(l:List UInt8)(t:Wt)(p:Option Addr)(c k:Nat):Yl l t p c (k+1)=Yl l t p c k++[Vr l t p c k]:=by simp[Yl,List.range_succ]
theorem one_fault{l:List UInt8}{tree fuel:Int}{s:WS}{t:Wt}(hd:s.dry=false)(h:t.ft≠0):Zdi l tree fuel s t=Yh t.way [t.no] t.ft s:=by
 rw[Zdi,if_neg (by rw[hd];decide),if_pos h]
theorem Us{l:List UInt8}{tree fuel:Int}{s:WS}{t:Wt}(hd:s.dry=false)(h:t.ft=0):Zdi l tree fuel s t=Zy l tree fuel (17-t.way.length) t.way t.no t.lo t.hi s:=by
 rw[Zdi,if_neg (by rw[hd];decide),if_neg (by omega)]
theorem one_fuel{l:List UInt8}{tree fuel:Int}{s:WS}{t:Wt}(hd:s.dry=false)(h:t.ft=0)(hw:t.way.length≤16)(hf:fuel≤s.looked):Zdi l tree fuel s t={ Yh t.way [t.no] 12 s with dry:=true }:=by
 rw[Us hd h,show 17-t.way.length=(16-t.way.length)+1 by omega,Zy,if_pos hf]
theorem one_err{l:List UInt8}{tree fuel:Int}{s:WS}{t:Wt}(hd:s.dry=false)(h:t.ft=0)(hw:t.way.length≤16)(hf:¬ fuel≤s.looked)(he:Zw l t.way t.no tree t.lo t.hi s.deep≠0) :
 Zdi l tree fuel s t=Yh t.way [t.no] (Zw l t.way t.no tree t.lo t.hi s.deep) { s with looked:=s.looked+1 }:=by
 rw[Us hd h,show 17-t.way.length=(16-t.way.length)+1 by omega,Zy,if_neg hf,if_pos he]
theorem Ek{l:List UInt8}{way:List Int}{no tree lo hi deep:Int}(h:Zw l way no tree lo hi deep=0):way.length<16:=by
 unfold Zw at h
 split at h
 ·cases h
 ·split at h
  ·cases h
  ·omega
theorem one_leaf{l:List UInt8}{tree fuel:Int}{s:WS}{t:Wt}(hd:s.dry=false)(h:t.ft=0)(hf:¬ fuel≤s.looked)(he:Zw l t.way t.no tree t.lo t.hi s.deep=0)(hl:Xk (inB l t.no)=true) :
 Zdi l tree fuel s t={ s with looked:=s.looked+1,bs:=s.bs++[t.no],deep:=((t.way.length+1:Nat):Int),es:=s.es++Ki (Xu l t.no) (Qw l t.no) t.no (Zn (inB l t.no)) }:=by
 have:=Ek he
 rw[Us hd h,show 17-t.way.length=(16-t.way.length)+1 by omega,Zy,if_neg hf,if_neg (by omega),if_pos hl]
theorem one_inner{l:List UInt8}{tree fuel:Int}{s:WS}{t:Wt}(p:Option Addr)(c:Nat)(hd:s.dry=false)(h:t.ft=0)(hf:¬ fuel≤s.looked)(he:Zw l t.way t.no tree t.lo t.hi s.deep=0)(hl:Xk (inB l t.no)=false) :
 Zdi l tree fuel s t=Ec l tree fuel (Yl l t p c (Zn (inB l t.no))) { s with looked:=s.looked+1,bs:=s.bs++[t.no] }:=by
 have hw:=Ek he
 rw[Us hd h,show 17-t.way.length=(16-t.way.length)+1 by omega,Zy,if_neg hf,if_neg (by omega),if_neg (by rw[hl];decide)]
 unfold Ec Yl Yk
 rw[List.foldl_map]
 congr 1
 funext u i
 unfold Pn Zdi
 split
 ·rfl
 ·unfold Ja Vr
  by_cases hr:Xw ((Qw l t.no).getD i [])=0
  ·rw[if_pos hr,if_pos hr,if_neg (by simp)]
   simp only[List.length_append,List.length_cons,List.length_nil]
   rw[show 17-(t.way.length+(0+1))=16-t.way.length by omega]
  ·rw[if_neg hr,if_neg hr,if_pos hr]
theorem Dh{l:List UInt8}:∀ {n:Nat},Ye l n=0→∀ i,i<n→Pm l i=0
 | 0,_,i,h=>absurd h (by omega)
 | n+1,h,i,hi=>by
  by_cases h1:Ye l n=0
  ·rw[Ye,if_neg (by rw[h1];decide)] at h
   by_cases e:i=n
   ·rw[e];exact h
   ·exact Dh h1 i (by omega)
  ·rw[Ye,if_pos h1] at h
   exact absurd h h1
theorem Zeb{l:List UInt8}(h:Yr l=0):Ye l (Zn l)=0:=by
 unfold Yr at h
 split at h
 ·split at h
  ·exact h
  ·cases h
 ·cases h
theorem Ze6{l:List UInt8}{n:Nat}(h:Ye l n=0):Kk (Yq l n):=by
 intro k hk h1
 rw[Ym] at hk
 have e:=Dh h k hk
 have g:∀ j,j<n→(Yq l n)[j]?.getD 0=(Ca l j:Int):=fun j hj=>by simp[Yq,List.getElem?_range hj]
 rw[g _ (by omega),g _ hk]
 unfold Pm at e
 split at e
 ·cases e
 ·split at e
  ·cases e
  ·rename_i q;omega
theorem nodK_sort{l:List UInt8}{no tree:Int}(h:Xc l no tree=0):Kk (Xu l no):=Ze6 (Zeb (Pt (Lh h).2))
theorem Uv{l:List UInt8}{no tree lo hi:Int}(h:Xc l no tree=0)(hr:Qj lo hi=true)(hk:∀ i,i<Zn (inB l no)→Ez lo hi ((Xu l no).getD i 0)=true):Yn lo hi (Xu l no)=0:=by
 unfold Yn
 rw[if_pos hr,if_pos (nodK_sort h),if_pos]
 intro x hx
 obtain⟨i,hi',rfl⟩:=List.mem_iff_getElem.1 hx
 have hl:(Xu l no).length=Zn (inB l no):=by simp[Xu,Yq]
 have:=hk i (by omega)
 rw[show(Xu l no).getD i 0=(Xu l no)[i] by simp[List.getD,hi']] at this
 exact Nq.1 this
theorem Zdv{l:List UInt8}{no tree lo hi:Int}{i:Nat}(hn:i<Zn (inB l no))(hk:Ez lo hi ((Xu l no).getD i 0)=false):Yn lo hi (Xu l no)≠0:=by
 intro h
 have hl:(Xu l no).length=Zn (inB l no):=by simp[Xu,Yq]
 have h2:=(Gn h).2.2 ((Xu l no)[i]'(by omega)) (List.getElem_mem _)
 rw[show(Xu l no).getD i 0=(Xu l no)[i]'(by omega) by simp[List.getD,show i<(Xu l no).length by omega]] at hk
 exact absurd (Nq.2 h2) (by rw[hk];decide)
theorem Zf2{lo hi:Int}{L:List Int}(hf:Yn lo hi L=0){i:Nat}(h:i<L.length):Qj (Xa hi L i).1 (Xa hi L i).2=true:=by
 obtain⟨h1,h2,h3,_⟩:=Gq hf h
 have hr:=of_decide_eq_true (Gn hf).1
 exact decide_eq_true ⟨by omega,by omega,by omega⟩
end Go.Proofs.YtlmaglneeaecdaaGreatDoor
namespace Go.Proofs.YtlmaglneeaecdaaGreatDoor
set_option maxHeartbeats 8000000
set_option maxRecDepth 100000
open Go.RowKit
set_option linter.unusedVariables false
theorem Pz(lo hi k:Int)(w:World):Calls Tryz.prog 167 #[spanV lo hi,.int .i64 k] w (Ret (.bool (Ez lo hi k)) w):=by
 unfold spanV
 go_enter Tryz.func167,Tryz.ntmps167
 go_wp2
 all_goals go_ret
 all_goals refine⟨?_,blx _ _⟩
 all_goals (unfold Ez;congr 2;simp;omega)
theorem Mh(lo hi:Int)(w:World):Calls Tryz.prog 214 #[spanV lo hi] w (Ret (.bool (Qj lo hi)) w):=by
 unfold spanV
 go_enter Tryz.func214,Tryz.ntmps214
 go_wp2_with fail
 all_goals go_ret
 all_goals refine⟨?_,blx _ _⟩
 all_goals (unfold Qj;congr 2;simp[*];try omega)
theorem fits_all{lo hi:Int}{l:List Int}(h:Qj lo hi=true)(hs:Kk l)(ha:∀ j:Nat,j<l.length→∀ x,l[j]? = some x→Ez lo hi x=true):Yn lo hi l=0:=by
 have hall:∀ k∈l,lo≤k∧k<hi:=fun k hk=>by
  obtain⟨i,hi',rfl⟩:=List.mem_iff_getElem.1 hk
  exact Nq.1 (ha i hi' _ (by simp))
 simp only[Yn,h,if_true,hs]
 rw[if_pos hall]
theorem Ia(lo hi:Int)(v:Value)(l:List Int)(w:World)(hl:Ints w v l) :
 Calls Tryz.prog 168 #[spanV lo hi,v] w (Ret (.int .i64 (Yn lo hi l)) w):=by
 have hl0:=hl
 obtain⟨a,c,rfl⟩:=hl.slice
 by_cases hr:Qj lo hi=true
 case neg =>
  have hr':Qj lo hi=false:=by simpa using hr
  unfold spanV
  go_enter Tryz.func168,Tryz.ntmps168
  go_wp2_with fail
  refine(Mh _ _ _).mono ?_
  rintro e w' ⟨rfl,hb⟩
  go_wp2_with fail
  go_ret
  exact⟨by rw[Sx hr'];rfl,bln (blx w _) hb⟩
 unfold spanV
 go_enter Tryz.func168,Tryz.ntmps168
 go_wp2_with fail
 refine(Mh _ _ _).mono ?_
 rintro e w' ⟨rfl,hb⟩
 have k0:=Blk.below (Blk.new w [.int .i64 lo,.int .i64 hi] 232) hb
 have z0:=k0.lt
 have hB:=bln (blx w _) hb
 have hl1:=hl.below hB
 clear hb hl hl0
 have HC:Hid (∀ (j:Nat) x,l[j]? = some x→∃ b off,a=some ⟨b,off,none⟩∧w'.cell? ⟨b,off+j,none⟩=some (.int .i64 x)):=by
  intro j x hj
  rcases hl1 with ⟨_,_,_,h2,_⟩|⟨b,off,cap,h1,_,_,h4⟩
  ·rw[List.length_eq_zero_iff.1 h2] at hj;simp at hj
  ·simp only[Value.slice.injEq] at h1
   exact⟨b,off,h1.1,h4 j _ (by simp[hj])⟩
 have hmax:l.length≤9223372036854775807:=by
  rcases hl1 with ⟨_,_,_,h2,_⟩|⟨b,off,cap,h1,h2,h3,_⟩
  ·omega
  ·unfold maxLen at h3;omega
 clear hl1
 go_wp2_with fail
 go_loopw [5] (fun i wr=>∃ k:Nat,1≤k∧i=.int .i64 k∧Kk (l.take k)∧Below w'.heap.size w' wr) (fun i _=>l.length-(intOf i).toNat)
 case atStart=>exact⟨1,by omega,rfl,Kk.one l,Below.refl _ _⟩
 case round =>
  obtain⟨k,hk1,rfl,hs,hbr⟩:=hrel
  have HS:=Lib.hid hs;clear hs
  by_cases hlt:k<l.length
  ·obtain⟨x,hx⟩:∃ x,l[k-1]? = some x:=⟨l[k-1],by simp⟩
   obtain⟨y,hy⟩:∃ y,l[k]? = some y:=⟨l[k],by simp⟩
   obtain⟨b,off,rfl,hcx⟩:=HC.out _ _ hx
   obtain⟨b',off',e',hcy⟩:=HC.out _ _ hy
   simp only[Option.some.injEq,Addr.mk.injEq] at e'
   obtain⟨rfl,rfl,_⟩:=e'
   have hcx:=Pr hbr hcx
   have hcy:=Pr hbr hcy
   have HX:=Lib.hid hx;clear hx
   have HY:=Lib.hid hy;clear hy
   go_wp2_with fail
   go_quiet (fail)
   go_wp2_with fail
   ·go_ret
    exact⟨by rw[Rn hr hk1 HX.out HY.out (by assumption)];rfl,bln hB (blD hbr _)⟩
   ·go_roundw
    case rel=>exact⟨k+1,by omega,by go_num,HS.out.succ HX.out HY.out (by assumption),blD hbr _⟩
    case measure=>simp[intOf];omega
  ·have HA:=Lib.hid (HS.out.all (show l.length≤k by omega));clear HS
   go_wp2_with fail
   go_loopw [6] (fun i w2=>∃ j:Nat,i=.int .i64 j∧(∀ q:Nat,q<j→∀ x,l[q]? = some x→Ez lo hi x=true)∧Below w'.heap.size w' w2) (fun i _=>l.length-(intOf i).toNat)
   case atStart=>exact⟨0,rfl,by omega,hbr⟩
   case round =>
    obtain⟨j,rfl,hj,hb2⟩:=hrel
    have HJ:=Lib.hid hj;clear hj
    by_cases hlt2:j<l.length
    ·obtain⟨x,hx⟩:∃ x,l[j]? = some x:=⟨l[j],by simp⟩
     obtain⟨b,off,rfl,hcx⟩:=HC.out _ _ hx
     have hcx:=Pr hb2 hcx
     have k2:=k0.below hb2
     have e0:∀ z:Ext wr,z.val.cell? ⟨w.heap.size,0,none⟩=some (.int .i64 lo):=fun z=>z.get (k2.cell (i:=0) rfl)
     have e1:∀ z:Ext wr,z.val.cell? ⟨w.heap.size,1,none⟩=some (.int .i64 hi):=fun z=>z.get (k2.cell (i:=1) rfl)
     have e2:∀ z:Ext wr,z.val.cell? ⟨b,off+j,none⟩=some (.int .i64 x):=fun z=>z.get hcx
     have HX:=Lib.hid hx;clear hx
     by_cases ha:Ez lo hi x=true
     ·go_wp2_with fail
      refine Qo (by kernel_rfl) (by kernel_rfl) ?_
      repeat (go_big_quiet_step (exact Ret.ext (Pz _ _ _ _)))
      refine wpQuiet_nil ?_
      intro wx
      go_wp2_with fail
      go_roundw
      case rel =>
       refine⟨j+1,by go_num,fun q hq y hy=>?_,hb2.trans (wx.below.mono hb2.size)⟩
       by_cases hqj:q=j
       ·subst hqj;rw[HX.out] at hy;cases hy;exact ha
       ·exact HJ.out q (by omega) y hy
      case measure=>simp[intOf];omega
     ·have ha:Ez lo hi x=false:=by simpa using ha
      go_wp2_with fail
      refine Qo (by kernel_rfl) (by kernel_rfl) ?_
      repeat (go_big_quiet_step (exact Ret.ext (Pz _ _ _ _)))
      refine wpQuiet_nil ?_
      intro wx
      go_wp2_with fail
      go_ret
      exact⟨by rw[Tt hr HA.out HX.out ha];rfl,bln (bln hB hb2) wx.below⟩
    ·go_wp2_with fail
     go_ret
     exact⟨by rw[fits_all hr HA.out (fun q hq=>HJ.out q (by omega))];rfl,bln hB hb2⟩
theorem Jl{w:World}{B2:Nat}{a b c:Int}{t2:TypeId}(h2:Blk w B2 [.int .i64 a,.int .i64 b] t2){tmps:Array Value}
 (e2:tmps.getD 6 undef=.pointer (some ⟨B2,0,none⟩)) (e3:tmps.getD 7 undef=.int .i64 c) :
 (results Tryz.f117 tmps).run Tryz.prog w=.ok (.tuple #[spanV a b,.int .i64 c]) w:=by
 have c20:=h2.cell (i:=0) rfl
 have c21:=h2.cell (i:=1) rfl
 have e2':tmps[6]?.getD undef=.pointer (some ⟨B2,0,none⟩):=by simpa using e2
 have e3':tmps[7]?.getD undef=.int .i64 c:=by simpa using e3
 simp[results,Tryz.results117,go_sem,c20,c21,e2',e3',spanV]
theorem Gy{w w':World}{B:Nat}(h:Below w.heap.size w w')(hB:w.heap.size≤B){i j:Nat}{x y:Value} :
 Below w.heap.size w ((w'.setCell ⟨B,i,none⟩ x).setCell ⟨B,j,none⟩ y):=(h.setCell hB _).setCell hB _
theorem Um(lo hi i:Int)(v:Value)(l:List Int)(w:World)(hi64 : -9223372036854775808≤i∧i≤9223372036854775807)(hlen:l.length≤1000000)(hl:Ints w v l) :
 Calls Tryz.prog 117 #[spanV lo hi,v,.int .i64 i] w (Ret (.tuple #[spanV (Nm lo hi l i).1.1 (Nm lo hi l i).1.2,.int .i64 (Nm lo hi l i).2]) w):=by
 obtain⟨a,c,rfl⟩:=hl.slice
 unfold spanV
 go_enter Tryz.func117,Tryz.ntmps117
 go_wp2_with fail
 refine(Ia lo hi _ l _ (hl.below ?_)).mono ?_
 ·exact bln (blx _ _) (blx _ _)
 rintro e w' ⟨rfl,hb⟩
 have k0:=Blk.below ((Blk.new w [.int .i64 lo,.int .i64 hi] 232).alloc (.cells #[.int .i64 0,.int .i64 0] 232)) hb
 have k1:=Blk.below (Blk.new (w.alloc (.cells #[.int .i64 lo,.int .i64 hi] 232)) [.int .i64 0,.int .i64 0] 232) hb
 simp only[World.size_alloc] at k1
 have hB:Below w.heap.size w w':=bln (bln (blx _ _) (blx _ _)) hb
 have hl1:=hl.below hB
 clear hb hl
 have z0:=k0.lt
 have z1:=k1.lt
 have c00:=k0.cell (i:=0) rfl
 have c01:=k0.cell (i:=1) rfl
 have c10:=k1.cell (i:=0) rfl
 have c11:=k1.cell (i:=1) rfl
 have f10:=k1.frozen 0
 have f11:=k1.frozen 1
 by_cases hf:Yn lo hi l=0
 case neg =>
  have hf2:(Yn lo hi l != 0)=true:=by simpa using hf
  have HF:=Lib.hid (Zgs (i:=i) hf);clear hf
  go_wp2_with fail
  refine bodyPost_ret (Jl ((k1.set 0 _).set 1 _) rfl rfl) rfl ?_
  rw[HF.out]
  exact⟨rfl,Gy hB (by omega)⟩
 have hf2:(Yn lo hi l != 0)=false:=by simpa using hf
 have HF:=Lib.hid hf;clear hf
 by_cases hin:0≤i∧i<l.length
 case neg =>
  have HO:=Lib.hid (child_out HF.out hin)
  by_cases h0:i<0
  ·have d0:decide (i<0)=true:=by simpa using h0
   go_wp2_with fail
   refine bodyPost_ret (Jl ((k1.set 0 _).set 1 _) rfl rfl) rfl ?_
   rw[HO.out]
   exact⟨rfl,Gy hB (by omega)⟩
  ·have d0:decide (i<0)=false:=by simpa using h0
   have d1:decide ((l.length:Int)≤i)=true:=by simp;omega
   go_wp2_with fail
   refine bodyPost_ret (Jl ((k1.set 0 _).set 1 _) rfl rfl) rfl ?_
   rw[HO.out]
   exact⟨rfl,Gy hB (by omega)⟩
 obtain⟨h1,h2⟩:=hin
 obtain⟨q,rfl⟩:=Int.eq_ofNat_of_zero_le h1
 have hq:q<l.length:=by omega
 have HO:=Lib.hid (Cx HF.out hq)
 have d0:decide ((q:Int)<0)=false:=by simp
 have d1:decide ((l.length:Int)≤(q:Int))=false:=by simp;omega
 rcases hl1 with ⟨_,_,_,h3,_⟩|⟨b,off,cap,h3,h4,h5,h6⟩
 ·omega
 simp only[Value.slice.injEq] at h3
 obtain⟨rfl,_,rfl⟩:=h3
 obtain⟨x,hx⟩:∃ x,l[q]? = some x:=⟨l[q],by simp⟩
 have hcx:=h6 q (.int .i64 x) (by simp[hx])
 by_cases hlast:q+1=l.length
 ·have dl:((q:Int)+1==(l.length:Int))=true:=by simp;omega
  have hp:Xa hi l q=(x,hi):=by unfold Xa;rw[hx,hlast];simp
  have HP:=Lib.hid hp;clear hp
  have HX:=Lib.hid hx;clear hx
  clear hlast h6
  go_wp2_with fail
  go_still_tail 7,(by kernel_rfl)
  change wpList _ _ _ _ _ w'.drew
  go_wp2_with fail
  have k1':Blk (((w'.setCell ⟨w.heap.size+1,0,none⟩ (.int .i64 x)).setCell ⟨w.heap.size+1,1,none⟩ (.int .i64 hi)).drew) (w.heap.size+1) [.int .i64 x,.int .i64 hi] 232:=(k1.set 0 _).set 1 _
  refine bodyPost_ret (Jl k1' rfl rfl) rfl ?_
  rw[HO.out,HP.out]
  exact⟨rfl,(Gy hB (by omega)).drew⟩
 ·have dl:((q:Int)+1==(l.length:Int))=false:=by simp;omega
  obtain⟨y,hy⟩:∃ y,l[q+1]? = some y:=⟨l[q+1],by simp⟩
  have hcy:=h6 (q+1) (.int .i64 y) (by simp[hy])
  have hp:Xa hi l q=(x,y):=by unfold Xa;rw[hx,hy];rfl
  have hq1:q+1<l.length:=by omega
  have HP:=Lib.hid hp;clear hp
  have HX:=Lib.hid hx;clear hx
  have HY:=Lib.hid hy;clear hy
  clear hlast h6
  go_wp2_with fail
  have hw:IntKind.i64.wrap ((q:Int)+1)=(q:Int)+1:=IntWalk.i64_in _ (by omega)
  have hn0:((q:Int)+1).toNat=q+1:=by omega
  have hb0:(0:Int)≤(q:Int)+1:=by omega
  have hb1:(q:Int)+1<(l.length:Int):=by omega
  go_still_tail 10,(by kernel_rfl)
  change wpList _ _ _ _ _ w'.drew
  clear hw hn0 hb0 hb1
  go_wp2_with fail
  have k1':Blk (((w'.setCell ⟨w.heap.size+1,0,none⟩ (.int .i64 x)).setCell ⟨w.heap.size+1,1,none⟩ (.int .i64 y)).drew) (w.heap.size+1) [.int .i64 x,.int .i64 y] 232:=(k1.set 0 _).set 1 _
  refine bodyPost_ret (Jl k1' rfl rfl) rfl ?_
  rw[HO.out,HP.out]
  exact⟨rfl,(Gy hB (by omega)).drew⟩
end Go.Proofs.YtlmaglneeaecdaaGreatDoor
namespace Go.Proofs.YtlmaglneeaecdaaGreatDoor
set_option maxHeartbeats 8000000
set_option maxRecDepth 100000
open Go.RowKit Go.Extern.Stop Go.Stop Go.Extern
set_option linter.unusedVariables false
section
variable {P:Program} {fn:Func} {R:Ending→World→Prop} {w:World} {s:Zs}
def Zg3(w:World):List (Nat×List Value)→Prop
 | []=>True
 | p::r=>(∃ t,Blk w p.1 p.2 t)∧Zg3 w r
noncomputable def zrlm (P:Program) (n:Nat) (kv:List (Nat×Value)) (l:List ResultVar):List (List Value)→Option (List Nat×List Value):=List.rec (motive:=fun _=>List (List Value)→Option (List Nat×List Value)) (fun _=>some ([],[])) (fun r _ ih css=>match r with
 | .tmp t=>match ih css with
  | some r=>some (r.1,zget n kv t::r.2)
  | none=>none
 | .cell k t=>match css with
  | []=>none
  | p::css'=>match zget n kv k with
   | .pointer (some ⟨b,off,sp⟩)=>match sp with
    | none=>match Nat.beq off 0&&(zrow P t&&zsz P t p.length) with
     | true=>match ih css' with
      | some r=>some (b::r.1,.agg p.toArray::r.2)
      | none=>none
     | false=>none
    | some _=>none
   | _=>none) l
theorem To(n:Nat)(kv:List (Nat×Value))(w:World):∀ (l:List ResultVar) (css:List (Nat×List Value)) (vs:List Value),Zg3 w css→zrlm P n kv l (css.map Prod.snd)=some (css.map Prod.fst,vs)→(l.mapM (zrf (zact n kv).tmps)).run P w=.ok vs w
  | [],css,vs,_,h=>by
    have h':some (([]:List Nat),([]:List Value))=some (css.map Prod.fst,vs):=h
    simp only[Option.some.injEq,Prod.mk.injEq] at h'
    rw[←h'.2];rfl
  | r :: l, css, vs, hb, h => by
    rw[List.mapM_cons]
    cases r with
    | tmp t =>
      have h':(match zrlm P n kv l (css.map Prod.snd) with|some r=>some (r.1,zget n kv t::r.2)|none=>none)=some (css.map Prod.fst,vs):=h
      split at h'
      · rename_i r' hv
        simp only[Option.some.injEq,Prod.mk.injEq] at h'
        obtain⟨h1,rfl⟩:=h'
        have hv':zrlm P n kv l (css.map Prod.snd)=some (css.map Prod.fst,r'.2):=by rw[hv,←h1]
        simp only[zrf,Sem.run_bind,Sem.run_pure,Result.andThen_ok,To n kv w l css r'.2 hb hv',Gr]
      · cases h'
    | cell k t' =>
      cases css with
      | nil=>cases h
      | cons p css =>
      have h':(match zget n kv k with
      | .pointer (some ⟨b,off,sp⟩)=>match sp with
        | none=>match Nat.beq off 0&&(zrow P t'&&zsz P t' p.2.length) with
          | true=>match zrlm P n kv l (css.map Prod.snd) with
            | some r=>some (b::r.1,.agg p.2.toArray::r.2)
            | none=>none
          | false=>none
        | some _=>none
      | _=>none)=some (p.1::css.map Prod.fst,vs):=h
      split at h'
      · rename_i b' off sp hb'
        cases sp with
        | some _=>cases h'
        | none =>
          dsimp only at h'
          split at h'
          · rename_i hc
            simp only[Bool.and_eq_true] at hc
            split at h'
            · rename_i r' hv
              simp only[Option.some.injEq,Prod.mk.injEq,List.cons.injEq] at h'
              obtain⟨⟨rfl,h1⟩,rfl⟩:=h'
              obtain⟨⟨t,kb⟩,hb2⟩:=hb
              have hv':zrlm P n kv l (css.map Prod.snd)=some (css.map Prod.fst,r'.2):=by rw[hv,←h1]
              obtain rfl:off=0:=Nat.eq_of_beq_eq_true hc.1
              have hu:=hc.2.1
              unfold zrow at hu
              split at hu
              · rename_i d hd
                have hl:=run_loadVar_mid (P:=P) w p.1 0 t' p.2 d kb.whole hd hu (Ay hc.2.2)
                have e:(zact n kv).tmps.getD k undef=.pointer (some ⟨p.1,0,none⟩):=by rw[Gr];exact hb'
                simp only[zrf,e,asAddr,Sem.run_bind,Sem.run_pure,Result.andThen_ok,hl,To n kv w l css r'.2 hb2 hv']
              · cases hu
            · cases h'
          · cases h'
      · cases h'
noncomputable def zresm (P:Program) (s:Zs) (fn:Func) (css:List (List Value)):Option (List Nat×Value):=match zfin s with
 | true=>match zrlm P s.n s.kv fn.results.toList css with
  | some r=>some (r.1,zvs r.2)
  | none=>none
 | false=>none
theorem Fw(q:Zq)(css:List (Nat×List Value))(hb:Zg3 w css)(v:Value)(hR:R (.returned v) w)(h:zresm P (zq P q s) fn (css.map Prod.snd)=some (css.map Prod.fst,v):=by kernel_rfl):Go P fn R s w:=by
 refine Xe q s ?_
 unfold zresm at h
 split at h
 ·rename_i hf
  split at h
  ·rename_i r hv
   simp only[Option.some.injEq,Prod.mk.injEq] at h
   obtain⟨h1,rfl⟩:=h
   have hv:zrlm P (zq P q s).n (zq P q s).kv fn.results.toList (css.map Prod.snd)=some (css.map Prod.fst,r.2):=by rw[hv,←h1]
   exact Zbt hf (Ng (To _ _ _ _ _ _ hb hv)) hR
  ·cases h
 ·cases h
end
end Go.Proofs.YtlmaglneeaecdaaGreatDoor
namespace Go.Proofs.YtlmaglneeaecdaaGreatDoor
set_option maxHeartbeats 8000000
set_option maxRecDepth 100000
open Go.RowKit Go.Extern.Stop Go.Stop Go.Extern
set_option linter.unusedVariables false
attribute [local irreducible] wpList wpAnyH Code.wp Oper.wp Go
theorem ref08_inB(n lo hi:Int)(w:World) :
 Calls Tryz.prog 119 #[.int .i64 n,.int .i64 lo,.int .i64 hi] w (Ret (.bool (decide (lo≤n∧n≤hi))) w):=by
 refine zin 15 Tryz.func119 ?_
 refine xg 11 [9,10] (decide (n≥lo)) (fun hc1=>?_) (fun hc1=>?_)
 ·have hc1:=of_decide_eq_true hc1
  exact xe 8 (.bool (decide (n≤hi))) ⟨by rw[show decide (lo≤n∧n≤hi)=decide (n≤hi) from by simp;omega],(Below.refl w.heap.size _)⟩
 have hc1:=of_decide_eq_false hc1
 exact xe 8 (.bool false) ⟨by rw[show decide (lo≤n∧n≤hi)=false from decide_eq_false (by omega)],(Below.refl w.heap.size _)⟩
theorem Zf4(s:List UInt8)(lo hi:Int)(w:World)(hs:s.length≤1000) :
 Calls Tryz.prog 79 #[.string ⟨s.toArray⟩,.int .i64 lo,.int .i64 hi] w (Ret (.tuple #[.int .i64 (if s.length=4∧lo≤(Zj s 0 4:Int)∧(Zj s 0 4:Int)≤hi then(Zj s 0 4:Int) else 0),.int .i64 (if s.length=4 then(if lo≤(Zj s 0 4:Int)∧(Zj s 0 4:Int)≤hi then 0 else 2) else 7)]) w):=by
 refine zin 25 Tryz.func79 ?_
 refine xin 14 (↑s.length:Int) (4:Int) (fun hc1=>?_) (fun hc1=>?_)
 ·refine xe 8 (.tuple #[.int .i64 0,.int .i64 7]) ?_
  rw[if_neg (by omega),if_neg (by omega)];exact⟨rfl,(Below.refl w.heap.size _)⟩
 refine xcf 5 fun _ _ _ zJ zQ zo zx zK=>Kc s zo zx Tryz.underlying9 Tryz.underlying22 Tryz.underlying5 (by omega) ?_
 intro bz cz W2 hb2 hbz
 refine zK _ _ ?_
 refine xr 0 (args:=#[.slice (some ⟨bz,0,none⟩) s.length cz,.int .i64 0,.int .i64 4]) (Tz (some ⟨bz,0,none⟩) s.length cz 0 4 0 4 s _ rfl rfl rfl (by decide) (by omega) (by omega) hbz) fun W3 hb3=>?_
 refine xr 13 (args:=#[.int .i64 (↑(Zj s 0 4):Int),.int .i64 lo,.int .i64 hi]) (ref08_inB (↑(Zj s 0 4):Int) lo hi _) fun W4 hb4=>?_
 refine xi 3 (!(decide (lo≤(Zj s 0 4:Int)∧(Zj s 0 4:Int)≤hi))) (fun hc5=>?_) (fun hc5=>?_)
 ·have hin:¬ (lo≤(Zj s 0 4:Int)∧(Zj s 0 4:Int)≤hi):=fun q=>absurd hc5 (by rw[decide_eq_true q];decide)
  have hB:=bln (bln hb2 hb3) hb4
  refine xe 8 (.tuple #[.int .i64 0,.int .i64 2]) ?_
  rw[if_neg fun q=>hin q.2,if_pos (by omega),if_neg hin];exact⟨rfl,hB⟩
 have hin:lo≤(Zj s 0 4:Int)∧(Zj s 0 4:Int)≤hi:=Decidable.byContradiction fun q=>absurd hc5 (by rw[decide_eq_false q];decide)
 have hB:=bln (bln hb2 hb3) hb4
 refine xe 10 (.tuple #[.int .i64 (↑(Zj s 0 4):Int),.int .i64 0]) ?_
 rw[if_pos ⟨by omega,hin⟩,if_pos (by omega),if_pos hin];exact⟨rfl,hB⟩
theorem Rc(s:List UInt8)(w:World)(hs:s.length≤1000) :
 Calls Tryz.prog 79 #[.string ⟨s.toArray⟩,.int .i64 1,.int .i64 14399] w (Ret (.tuple #[.int .i64 (Yz s:Int),.int .i64 (Xw s)]) w):=by
 refine(Zf4 s 1 14399 w hs).mono ?_
 rintro e W ⟨rfl,hb⟩
 refine⟨?_,hb⟩
 have e1:(if s.length=4 then(if(1:Int)≤(Zj s 0 4:Int)∧(Zj s 0 4:Int)≤14399 then(0:Int) else 2) else 7)=Xw s:=by
  unfold Xw
  by_cases h:s.length=4
  ·rw[if_pos h,if_pos h]
   by_cases q:1≤Zj s 0 4∧Zj s 0 4≤14399
   ·rw[if_pos q,if_pos ⟨by omega,by omega⟩]
   ·rw[if_neg q,if_neg (by omega)]
  ·rw[if_neg h,if_neg h]
 have e2:(if s.length=4∧(1:Int)≤(Zj s 0 4:Int)∧(Zj s 0 4:Int)≤14399 then(Zj s 0 4:Int) else 0)=(Yz s:Int):=by
  unfold Yz
  rw[←e1]
  by_cases h:s.length=4
  ·rw[if_pos h]
   by_cases q:(1:Int)≤(Zj s 0 4:Int)∧(Zj s 0 4:Int)≤14399
   ·rw[if_pos ⟨h,q⟩,if_pos q,if_pos rfl]
   ·rw[if_neg fun x=>q x.2,if_neg q,if_neg (by decide)];rfl
  ·rw[if_neg fun x=>h x.1,if_neg h,if_neg (by decide)];rfl
 rw[e1,e2]
theorem Gl(s:List UInt8)(w:World)(hs:s.length≤1000) :
 Calls Tryz.prog 39 #[.string ⟨s.toArray⟩] w (Ret (.tuple #[.int .i64 (Yz s:Int),.int .i64 (Xw s)]) w):=by
 refine zin 8 Tryz.func39 ?_
 refine xr 9 (args:=#[.string ⟨s.toArray⟩,.int .i64 1,.int .i64 14399]) (Rc s _ hs) fun W1 hb1=>?_
 exact xe 7 (.tuple #[.int .i64 (↑(Yz s):Int),.int .i64 (Xw s)]) ⟨rfl,hb1⟩
theorem Vt(no er:Int)(w:World)(he:er≠0):Calls Tryz.prog 36 #[.int .i64 no,.int .i64 er] w (Vx (fun w' r=>∃ a c,r=.agg #[.slice a 1 c,.int .i64 er]∧w'.ownsRow w.heap.size 3 1 (.slice a 1 c) 1 [.int .i64 no]) w):=by
 refine(ref11_At no er w).mono ?_
 rintro e W ⟨a,c,rfl,hb,ho⟩
 rw[fltL_nz he] at ho ⊢
 exact⟨_,rfl,hb,a,c,rfl,ho⟩
theorem Kn(L:List Int):∀ u∈L.map (Value.int .i64),u.oneCell'=true:=by intro u hu;obtain⟨x,_,rfl⟩:=List.mem_map.1 hu;rfl
theorem Fg(no er:Int)(a:Option Addr)(n c:Nat)(L:List Int)(w:World)(he:er≠0)(hL:L.length=n)(hn:n≤1000000)(hS:Sl w (.slice a n c) n (L.map (Value.int .i64))) :
 Calls Tryz.prog 41 #[.int .i64 no,.agg #[.slice a n c,.int .i64 er]] w (Vx (fun w' r=>∃ p c2,r=.agg #[.slice p (n+1) c2,.int .i64 er]∧w'.ownsRow w.heap.size 3 1 (.slice p (n+1) c2) (n+1) ((no::L).map (Value.int .i64))) w):=by
 refine zin 17 Tryz.func41 ?_
 refine xa 2 [.slice a n c,.int .i64 er] 33 fun b1 W1 n1=>?_
 refine xa 0 [.slice none 0 0,.int .i64 0] 33 fun b2 W2 n2=>?_
 have d2_b1:=n2.ne n1.blk
 have k1'1:=n1.blk.below n2.below
 refine xb 6 1 k1'1 ?_
 refine xk 3 (show((er==(0:Int)):Bool)=false from beq_false_of_ne he) ?_
 refine xd 3 (.t w.heap.size [3,33]) ?_
 refine xm3 (.b [0,2,5]) 1 3 6 ?_ ?_ ?_
 ·refine xbs 0 1 [.int .i64 no] 3 fun b3 W3 n3=>?_
  refine xm2 0 3 6 ?_ ?_
  ·have k1'2:=(k1'1.below (Zb W2)).below n3.below
   refine xb 0 0 k1'2 ?_
   refine xm2 0 4 6 ?_ ?_
   ·have g3:=n3.ge (bln (bln n1.below n2.below) (Zb W2))
    have o4:=Xb (size:=1) (n:=1) n3.blk g3 rfl (by decide)
    have hB:=bln (bln (bln n1.below n2.below) (Zb W2)) n3.below
    refine ybi 0 (.t w.heap.size [3,33]) fun _ _ _ _ zJ zQ zo zx zy zK=>Zt (m:=n) (news:=(L.map (Value.int .i64))) (.int .i64 0) 1 8 ((n+1)) (((no::L).map (Value.int .i64))) zo Tryz.underlying31 (by kernel_rfl) rfl (by decide) zx o4 zy (hS.below hB) (by simp[hL]) (Kn L) (by unfold maxLen;omega) (by omega) hB.size (by omega) (by rfl) fun px5 cx5 W5 o5 hg5 hb5=>?_
    refine zK _ _ (Zr hb5 hg5 o4 (by decide)) ?_
    have k1'3:=k1'2.grown hg5 o4 (by decide)
    refine xb (.o [] 6) 1 k1'3 ?_
    have k2:=((n2.blk.below (Zb W2)).below n3.below).grown hg5 o4 (by decide)
    have g2:=n2.ge n1.below
    refine ysv (.o [7] 8) k2 [.slice px5 (n+1) cx5,.int .i64 er] (.t w.heap.size [3,33]) fun W6 u6 k6=>⟨(Zm u6 k2 g2 (by decide)),?_⟩
    have hB'1:=u6.below (hB.trans hb5) g2
    have o5'1:=u6.own2 o5 k2 (by decide)
    exact xec 3 k6 (.agg #[.slice px5 (n+1) cx5,.int .i64 er]) ⟨_,rfl,hB'1,_,_,rfl,o5'1⟩
   refine xb 0 1 k1'2 ?_
   have g3:=n3.ge (bln (bln n1.below n2.below) (Zb W2))
   have o7:=Xb (size:=1) (n:=1) n3.blk g3 rfl (by decide)
   have hB:=bln (bln (bln n1.below n2.below) (Zb W2)) n3.below
   refine ybi (.o [] 4) (.t w.heap.size [3,33]) fun _ _ _ _ zJ zQ zo zx zy zK=>Zt (m:=n) (news:=(L.map (Value.int .i64))) (.int .i64 0) 1 8 ((n+1)) (((no::L).map (Value.int .i64))) zo Tryz.underlying31 (by kernel_rfl) rfl (by decide) zx o7 zy (hS.below hB) (by simp[hL]) (Kn L) (by unfold maxLen;omega) (by omega) hB.size (by omega) (by rfl) fun px8 cx8 W8 o8 hg8 hb8=>?_
   refine zK _ _ (Zr hb8 hg8 o7 (by decide)) ?_
   have k2:=((n2.blk.below (Zb W2)).below n3.below).grown hg8 o7 (by decide)
   have g2:=n2.ge n1.below
   refine ysv (.o [7] 8) k2 [.slice px8 (n+1) cx8,.int .i64 er] (.t w.heap.size [3,33]) fun W9 u9 k9=>⟨(Zm u9 k2 g2 (by decide)),?_⟩
   have hB'2:=u9.below (hB.trans hb8) g2
   have o8'1:=u9.own2 o8 k2 (by decide)
   exact xec 3 k9 (.agg #[.slice px8 (n+1) cx8,.int .i64 er]) ⟨_,rfl,hB'2,_,_,rfl,o8'1⟩
  have k1'4:=(k1'1.below (Zb W2)).below n3.below
  refine xb 0 1 k1'4 ?_
  refine xb (.o [] 3) 0 k1'4 ?_
  have g3:=n3.ge (bln (bln n1.below n2.below) (Zb W2))
  have o10:=Xb (size:=1) (n:=1) n3.blk g3 rfl (by decide)
  have hB:=bln (bln (bln n1.below n2.below) (Zb W2)) n3.below
  refine ybi (.o [] 4) (.t w.heap.size [3,33]) fun _ _ _ _ zJ zQ zo zx zy zK=>Zt (m:=n) (news:=(L.map (Value.int .i64))) (.int .i64 0) 1 8 ((n+1)) (((no::L).map (Value.int .i64))) zo Tryz.underlying31 (by kernel_rfl) rfl (by decide) zx o10 zy (hS.below hB) (by simp[hL]) (Kn L) (by unfold maxLen;omega) (by omega) hB.size (by omega) (by rfl) fun px11 cx11 W11 o11 hg11 hb11=>?_
  refine zK _ _ (Zr hb11 hg11 o10 (by decide)) ?_
  have k2:=((n2.blk.below (Zb W2)).below n3.below).grown hg11 o10 (by decide)
  have g2:=n2.ge n1.below
  refine ysv (.o [7] 8) k2 [.slice px11 (n+1) cx11,.int .i64 er] (.t w.heap.size [3,33]) fun W12 u12 k12=>⟨(Zm u12 k2 g2 (by decide)),?_⟩
  have hB'3:=u12.below (hB.trans hb11) g2
  have o11'1:=u12.own2 o11 k2 (by decide)
  exact xec 3 k12 (.agg #[.slice px11 (n+1) cx11,.int .i64 er]) ⟨_,rfl,hB'3,_,_,rfl,o11'1⟩
 ·have k1'5:=k1'1.below (Zb W2)
  refine xb 0 0 k1'5 ?_
  refine xm2 0 1 6 ?_ ?_
  ·refine xbs 0 1 [.int .i64 no] 3 fun b13 W13 n13=>?_
   refine xm2 0 4 6 ?_ ?_
   ·have g13:=n13.ge (bln (bln n1.below n2.below) (Zb W2))
    have o14:=Xb (size:=1) (n:=1) n13.blk g13 rfl (by decide)
    have hB:=bln (bln (bln n1.below n2.below) (Zb W2)) n13.below
    refine ybi 0 (.t w.heap.size [3,33]) fun _ _ _ _ zJ zQ zo zx zy zK=>Zt (m:=n) (news:=(L.map (Value.int .i64))) (.int .i64 0) 1 8 ((n+1)) (((no::L).map (Value.int .i64))) zo Tryz.underlying31 (by kernel_rfl) rfl (by decide) zx o14 zy (hS.below hB) (by simp[hL]) (Kn L) (by unfold maxLen;omega) (by omega) hB.size (by omega) (by rfl) fun px15 cx15 W15 o15 hg15 hb15=>?_
    refine zK _ _ (Zr hb15 hg15 o14 (by decide)) ?_
    have k1'6:=(k1'5.below n13.below).grown hg15 o14 (by decide)
    refine xb (.o [] 6) 1 k1'6 ?_
    have k2:=((n2.blk.below (Zb W2)).below n13.below).grown hg15 o14 (by decide)
    have g2:=n2.ge n1.below
    refine ysv (.o [7] 8) k2 [.slice px15 (n+1) cx15,.int .i64 er] (.t w.heap.size [3,33]) fun W16 u16 k16=>⟨(Zm u16 k2 g2 (by decide)),?_⟩
    have hB'4:=u16.below (hB.trans hb15) g2
    have o15'1:=u16.own2 o15 k2 (by decide)
    exact xec 3 k16 (.agg #[.slice px15 (n+1) cx15,.int .i64 er]) ⟨_,rfl,hB'4,_,_,rfl,o15'1⟩
   have k1'7:=k1'5.below n13.below
   refine xb 0 1 k1'7 ?_
   have g13:=n13.ge (bln (bln n1.below n2.below) (Zb W2))
   have o17:=Xb (size:=1) (n:=1) n13.blk g13 rfl (by decide)
   have hB:=bln (bln (bln n1.below n2.below) (Zb W2)) n13.below
   refine ybi (.o [] 4) (.t w.heap.size [3,33]) fun _ _ _ _ zJ zQ zo zx zy zK=>Zt (m:=n) (news:=(L.map (Value.int .i64))) (.int .i64 0) 1 8 ((n+1)) (((no::L).map (Value.int .i64))) zo Tryz.underlying31 (by kernel_rfl) rfl (by decide) zx o17 zy (hS.below hB) (by simp[hL]) (Kn L) (by unfold maxLen;omega) (by omega) hB.size (by omega) (by rfl) fun px18 cx18 W18 o18 hg18 hb18=>?_
   refine zK _ _ (Zr hb18 hg18 o17 (by decide)) ?_
   have k2:=((n2.blk.below (Zb W2)).below n13.below).grown hg18 o17 (by decide)
   have g2:=n2.ge n1.below
   refine ysv (.o [7] 8) k2 [.slice px18 (n+1) cx18,.int .i64 er] (.t w.heap.size [3,33]) fun W19 u19 k19=>⟨(Zm u19 k2 g2 (by decide)),?_⟩
   have hB'5:=u19.below (hB.trans hb18) g2
   have o18'1:=u19.own2 o18 k2 (by decide)
   exact xec 3 k19 (.agg #[.slice px18 (n+1) cx18,.int .i64 er]) ⟨_,rfl,hB'5,_,_,rfl,o18'1⟩
  refine xb 0 1 k1'5 ?_
  refine xbs (.o [] 1) 1 [.int .i64 no] 3 fun b20 W20 n20=>?_
  have g20:=n20.ge (bln (bln n1.below n2.below) (Zb W2))
  have o21:=Xb (size:=1) (n:=1) n20.blk g20 rfl (by decide)
  have hB:=bln (bln (bln n1.below n2.below) (Zb W2)) n20.below
  refine ybi (.o [] 4) (.t w.heap.size [3,33]) fun _ _ _ _ zJ zQ zo zx zy zK=>Zt (m:=n) (news:=(L.map (Value.int .i64))) (.int .i64 0) 1 8 ((n+1)) (((no::L).map (Value.int .i64))) zo Tryz.underlying31 (by kernel_rfl) rfl (by decide) zx o21 zy (hS.below hB) (by simp[hL]) (Kn L) (by unfold maxLen;omega) (by omega) hB.size (by omega) (by rfl) fun px22 cx22 W22 o22 hg22 hb22=>?_
  refine zK _ _ (Zr hb22 hg22 o21 (by decide)) ?_
  have k2:=((n2.blk.below (Zb W2)).below n20.below).grown hg22 o21 (by decide)
  have g2:=n2.ge n1.below
  refine ysv (.o [7] 8) k2 [.slice px22 (n+1) cx22,.int .i64 er] (.t w.heap.size [3,33]) fun W23 u23 k23=>⟨(Zm u23 k2 g2 (by decide)),?_⟩
  have hB'6:=u23.below (hB.trans hb22) g2
  have o22'1:=u23.own2 o22 k2 (by decide)
  exact xec 3 k23 (.agg #[.slice px22 (n+1) cx22,.int .i64 er]) ⟨_,rfl,hB'6,_,_,rfl,o22'1⟩
 have k1'8:=k1'1.below (Zb W2)
 refine xb 0 1 k1'8 ?_
 refine xm2 0 1 3 ?_ ?_
 ·refine xbs 0 1 [.int .i64 no] 3 fun b24 W24 n24=>?_
  have k1'9:=k1'8.below n24.below
  refine xb (.o [] 3) 0 k1'9 ?_
  have g24:=n24.ge (bln (bln n1.below n2.below) (Zb W2))
  have o25:=Xb (size:=1) (n:=1) n24.blk g24 rfl (by decide)
  have hB:=bln (bln (bln n1.below n2.below) (Zb W2)) n24.below
  refine ybi (.o [] 4) (.t w.heap.size [3,33]) fun _ _ _ _ zJ zQ zo zx zy zK=>Zt (m:=n) (news:=(L.map (Value.int .i64))) (.int .i64 0) 1 8 ((n+1)) (((no::L).map (Value.int .i64))) zo Tryz.underlying31 (by kernel_rfl) rfl (by decide) zx o25 zy (hS.below hB) (by simp[hL]) (Kn L) (by unfold maxLen;omega) (by omega) hB.size (by omega) (by rfl) fun px26 cx26 W26 o26 hg26 hb26=>?_
  refine zK _ _ (Zr hb26 hg26 o25 (by decide)) ?_
  have k2:=((n2.blk.below (Zb W2)).below n24.below).grown hg26 o25 (by decide)
  have g2:=n2.ge n1.below
  refine ysv (.o [7] 8) k2 [.slice px26 (n+1) cx26,.int .i64 er] (.t w.heap.size [3,33]) fun W27 u27 k27=>⟨(Zm u27 k2 g2 (by decide)),?_⟩
  have hB'7:=u27.below (hB.trans hb26) g2
  have o26'1:=u27.own2 o26 k2 (by decide)
  exact xec 3 k27 (.agg #[.slice px26 (n+1) cx26,.int .i64 er]) ⟨_,rfl,hB'7,_,_,rfl,o26'1⟩
 refine xb 0 0 k1'8 ?_
 refine xbs (.o [] 1) 1 [.int .i64 no] 3 fun b28 W28 n28=>?_
 have g28:=n28.ge (bln (bln n1.below n2.below) (Zb W2))
 have o29:=Xb (size:=1) (n:=1) n28.blk g28 rfl (by decide)
 have hB:=bln (bln (bln n1.below n2.below) (Zb W2)) n28.below
 refine ybi (.o [] 4) (.t w.heap.size [3,33]) fun _ _ _ _ zJ zQ zo zx zy zK=>Zt (m:=n) (news:=(L.map (Value.int .i64))) (.int .i64 0) 1 8 ((n+1)) (((no::L).map (Value.int .i64))) zo Tryz.underlying31 (by kernel_rfl) rfl (by decide) zx o29 zy (hS.below hB) (by simp[hL]) (Kn L) (by unfold maxLen;omega) (by omega) hB.size (by omega) (by rfl) fun px30 cx30 W30 o30 hg30 hb30=>?_
 refine zK _ _ (Zr hb30 hg30 o29 (by decide)) ?_
 have k2:=((n2.blk.below (Zb W2)).below n28.below).grown hg30 o29 (by decide)
 have g2:=n2.ge n1.below
 refine ysv (.o [7] 8) k2 [.slice px30 (n+1) cx30,.int .i64 er] (.t w.heap.size [3,33]) fun W31 u31 k31=>⟨(Zm u31 k2 g2 (by decide)),?_⟩
 have hB'8:=u31.below (hB.trans hb30) g2
 have o30'1:=u31.own2 o30 k2 (by decide)
 exact xec 3 k31 (.agg #[.slice px30 (n+1) cx30,.int .i64 er]) ⟨_,rfl,hB'8,_,_,rfl,o30'1⟩
theorem drop_pred{way:List Int}{i:Nat}(h:0<i∧i≤way.length):way.getD (i-1) 0::way.drop i=way.drop (i-1):=by
 obtain⟨j,rfl⟩:∃ j,i=j+1:=⟨i-1,by omega⟩
 rw[show j+1-1=j by omega,List.drop_eq_getElem_cons (show j<way.length by omega)]
 simp[List.getD,show j<way.length by omega]
theorem Zeo(B:Nat)(wa:Option Addr)(wc:Nat)(way:List Int)(er:Int)(a0:Option Addr)(n0 c0:Nat)(L:List Int)(w:World)(hBw:B≤w.heap.size)(he:er≠0)(hw:Ints w (.slice wa way.length wc) way)(hwl:way.length≤100000)(hL:L.length=n0)(hn:n0≤100000)(h0:w.ownsRow B 3 1 (.slice a0 n0 c0) n0 (L.map (Value.int .i64))) :
 Calls Tryz.prog 115 #[.slice wa way.length wc,.agg #[.slice a0 n0 c0,.int .i64 er]] w (Vx (fun w' r=>∃ a n c,r=.agg #[.slice a n c,.int .i64 er]∧n=way.length+n0∧w'.ownsRow B 3 1 (.slice a n c) n ((way++L).map (Value.int .i64))) w):=by
 refine zin 20 Tryz.func115 ?_
 refine xa 2 [.slice a0 n0 c0,.int .i64 er] 33 fun b1 W1 n1=>?_
 refine xa 0 [.slice none 0 0,.int .i64 0] 33 fun b2 W2 n2=>?_
 have d2_b1:=n2.ne n1.blk
 refine xw 7 ((↑way.length:Int)-1) ?_
 have h0'1:=Za (Za h0 n1.below) n2.below
 have hB:=bln n1.below n2.below
 have k1'1:=n1.blk.below n2.below
 refine zl 4 20 (fun zm zkv V=>∃ (i nf:Nat) (af:Option Addr) (cf:Nat),zkv=[(0,.slice wa way.length wc),(3,.pointer (some ⟨b1,0,none⟩)),(4,.pointer (some ⟨b2,0,none⟩)),(5,.int .i64 ((↑i:Int)-1))]∧zm=(((↑i:Int)-1)+1).toNat∧Below w.heap.size w V∧Blk V b1 ([.slice af nf cf,.int .i64 er]) 33∧Blk V b2 ([.slice none 0 0,.int .i64 0]) 33∧V.ownsRow B 3 1 (.slice af nf cf) nf ((way.drop i++L).map (Value.int .i64))∧i≤way.length∧nf=way.length-i+L.length) ⟨way.length,n0,a0,c0,rfl,rfl,hB,k1'1,n2.blk,by rw[List.drop_length,List.nil_append];exact h0'1,Nat.le_refl _,by omega⟩ ?_
 rintro _ _ W3 ⟨i,nf,af,cf,rfl,rfl,hB_3,k3_b1,k3_b2,hf,hi,hnf⟩ J3 hJ3 r3
 refine xid 7 ((↑i:Int)-1≥(0:Int)) (fun hc4=>?_) (fun hc4=>?_)
 ·refine xd 4 (.t w.heap.size [33]) ?_
  refine xia (.e [0,1] 2) (fun _ _ _ _ zo zx zy V=>Rj (size:=1) (k:=(i-1)) (b:=wa) (n:=way.length) (c:=wc) (i:=((↑i:Int)-1)) (ki:=.i64) zo zx zy (by omega) (by omega) (Ints.elem hw (k:=(i-1)) (by omega)).1 Tryz.underlying31 (by kernel_rfl) V) ?_
  have hB'1:=bln hB_3 (Zb W3)
  refine xlt (.e [] 3) (.t w.heap.size [33]) (fun V hV=>(Ints.elem (hw.below (Ku hB'1 hV (Nat.le_refl _))) (k:=(i-1)) (by omega)).2) ?_
  have k3_b1'1:=k3_b1.below (Zb W3)
  refine xlv (.o [] 4) k3_b1'1.rp ?_
  have hf'1:=Za hf (Zb W3)
  refine yc (.o [] 5) (args:=#[.int .i64 (way.getD (i-1) 0),.agg #[.slice af nf cf,.int .i64 er]]) (.t w.heap.size [33]) (Fg (way.getD (i-1) 0) er af nf cf (way.drop i++L) _ he (by simp;omega) (by omega) (Zg hf'1)) ?_
  rintro _ W5 ⟨_,rfl,hb5,p5,c5,rfl,ho5⟩
  refine⟨(SF.of_below _ hb5),?_⟩
  have k3_b1'2:=k3_b1'1.below hb5
  have g1:=n1.ge (Below.refl w.heap.size _)
  refine ysv (.o [] 6) k3_b1'2 [.slice p5 (nf+1) c5,.int .i64 er] (.t w.heap.size [33]) fun W6 u6 k6=>⟨(Zm u6 k3_b1'2 g1 (by decide)),?_⟩
  refine xq 5 (congrArg (Value.int .i64) (show IntKind.i64.wrap ((↑i:Int)-1-1)=((↑(i-1:Nat):Int)-1) from(show IntKind.i64.wrap ((↑i:Int)-1-1)=((↑i:Int)-1-1) from by first|exact IntWalk.i64_in _ (by omega)|(simp only[IntKind.wrap];omega)).trans (by omega))) ?_
  have ho5'1:=u6.own2 (Zf ho5 hB'1.size) k3_b1'2 (by decide)
  have hB'2:=u6.below (bln hB'1 hb5) g1
  have k3_b2'1:=u6.blk ((k3_b2.below (Zb W3)).below hb5) (Ne.symm d2_b1)
  exact ze 2 (hJ3 _ _ _ ⟨i-1,_,_,_,rfl,rfl,hB'2,k6,k3_b2'1,(by have q:=Zf ho5'1 hBw;rw[show way.getD (i-1) 0::(way.drop i++L)=way.drop (i-1)++L from by rw[←List.cons_append,drop_pred (by omega)]] at q;exact q),by omega,by omega⟩ (by omega))
 refine xlv 7 k3_b1.rp ?_
 refine xsv 0 k3_b2 [.slice af nf cf,.int .i64 er] fun W7 u7 k7=>?_
 have g2:=n2.ge n1.below
 have hB'3:=u7.below hB_3 g2
 have hf'2:=u7.own2 hf k3_b2 (by decide)
 refine xec 3 k7 (.agg #[.slice af nf cf,.int .i64 er]) ?_
 obtain rfl:i=0:=by omega
 exact⟨_,rfl,hB'3,_,_,_,rfl,by omega,hf'2⟩
def RBlkNodeP(l:List UInt8)(no tree:Int)(w:World)(e:Ending)(w':World):Prop :=
 (Xc l no tree≠0∧∃ a c,e=.returned (.tuple #[.agg #[.int .i64 0,.bool false,.slice none 0 0,.slice none 0 0],.agg #[.slice a 1 c,.int .i64 (Xc l no tree)]])∧Below w.heap.size w w'∧w'.ownsRow w.heap.size 3 1 (.slice a 1 c) 1 [.int .i64 no]) ∨
 (Xc l no tree=0∧∃ kp kc vp vc,e=.returned (.tuple #[.agg #[.int .i64 (Xt (inB l no)),.bool (Xk (inB l no)),.slice kp (Zn (inB l no)) kc,.slice vp (Zn (inB l no)) vc],.agg #[.slice none 0 0,.int .i64 0]])∧Below w.heap.size w w'∧w'.ownsRow w.heap.size 3 1 (.slice kp (Zn (inB l no)) kc) (Zn (inB l no)) ((Yq (inB l no) (Zn (inB l no))).map (Value.int .i64))∧w'.ownsRow w.heap.size 9 1 (.slice vp (Zn (inB l no)) vc) (Zn (inB l no)) ((Kt (inB l no) (Zn (inB l no))).map sv))
theorem Zee(B bm:Nat)(p:Option Addr)(k c:Nat)(l:List UInt8)(no tree:Int)(w:World)(hI:RefI B bm p k c l w) :
 Calls Tryz.prog 141 #[.pointer (some ⟨bm,0,none⟩),.int .i64 no,.int .i64 tree] w (RBlkNodeP l no tree w):=by
 refine zin 48 Tryz.func141 ?_
 refine xa 2 [.int .i64 0,.bool false,.slice none 0 0,.slice none 0 0] 220 fun b1 W1 n1=>?_
 refine xa 0 [.slice none 0 0,.int .i64 0] 33 fun b2 W2 n2=>?_
 have hI'1:=(hI.below n1.below).below n2.below
 refine xc 6 (args:=#[.pointer (some ⟨bm,0,none⟩),.int .i64 no,.int .i64 2]) (ref11_in B bm p k c l _ hI'1 no 2) ?_
 rintro e W3 hq3
 rcases hq3 with ⟨hse,rfl,hb3⟩|⟨hse,hil,p3,c3,rfl,hb3,h3⟩
 ·refine xk 14 (show(((inE l 2 no) != (0:Int)):Bool)=true from bne_iff_ne.2 hse) ?_
  refine xc 5 (args:=#[.int .i64 no,.int .i64 (inE l 2 no)]) (Vt no (inE l 2 no) _ hse) ?_
  rintro _ W4 ⟨_,rfl,hb4,a5,c5,rfl,hs5⟩
  have hs4:=(bln (bln n1.below n2.below) hb3).size
  have k1:=((n1.blk.below n2.below).below hb3).below hb4
  refine xsv 0 k1 [.int .i64 0,.bool false,.slice none 0 0,.slice none 0 0] fun W5 u5 k5=>?_
  have g1:=n1.ge (Below.refl w.heap.size _)
  have k2:=u5.blkT ((n2.blk.below hb3).below hb4) k1 (by decide)
  refine xsv 0 k2 [.slice a5 1 c5,.int .i64 (inE l 2 no)] fun W6 u6 k6=>?_
  have g2:=n2.ge n1.below
  have hB:=u6.below (u5.below (bln (bln (bln n1.below n2.below) hb3) hb4) g1) g2
  have hs5'1:=u6.own2 (u5.own2 (Zf hs5 hs4) k1 (by decide)) k2 (by decide)
  have k5'1:=u6.blkT k5 k2 (by decide)
  refine Fw 4 [(b1,[.int .i64 0,.bool false,.slice none 0 0,.slice none 0 0]),(b2,[.slice a5 1 c5,.int .i64 (inE l 2 no)])] ⟨⟨_,k5'1⟩,⟨_,k6⟩,trivial⟩ (.tuple #[.agg #[.int .i64 0,.bool false,.slice none 0 0,.slice none 0 0],.agg #[.slice a5 1 c5,.int .i64 (inE l 2 no)]]) ?_
  have he:Xc l no tree=(inE l 2 no):=by unfold Xc;rw[if_neg hse]
  exact .inl ⟨by rw[he];exact hse,_,_,by rw[he],hB,hs5'1⟩
 have hs3:=(bln n1.below n2.below).size
 have h3'1:=Zf h3 hs3
 refine xc 20 (args:=#[.slice p3 244 c3]) (Zev p3 c3 (inB l no) _ hil (Jv (Zg h3'1) hil)) ?_
 rintro e W7 hq7
 rcases hq7 with ⟨hz,rfl,hb7⟩|⟨hz,kp,kc,vp,vc,rfl,hb7,hk,hv_⟩
 ·refine xa 3 [.int .i64 0,.bool false,.slice none 0 0,.slice none 0 0] 220 fun b8 W8 n8=>?_
  have k1:=((n1.blk.below n2.below).below hb3).below hb7
  have d8_b1:=n8.ne k1
  refine xsv 0 n8.blk [.int .i64 0,.bool false,.slice none 0 0,.slice none 0 0] fun W9 u9 k9=>?_
  have g8:=n8.ge (bln (bln (bln n1.below n2.below) hb3) hb7)
  refine xk 10 (show(((Yr (inB l no)) != (0:Int)):Bool)=true from bne_iff_ne.2 hz) ?_
  refine xc 5 (args:=#[.int .i64 no,.int .i64 (Yr (inB l no))]) (Vt no (Yr (inB l no)) _ hz) ?_
  rintro _ W10 ⟨_,rfl,hb10,a5,c5,rfl,hs5⟩
  have hs10:=(u9.below (bln (bln (bln (bln n1.below n2.below) hb3) hb7) n8.below) g8).size
  have k1'1:=(u9.blk (k1.below n8.below) (Ne.symm (Ne.symm d8_b1))).below hb10
  refine xsv 0 k1'1 [.int .i64 0,.bool false,.slice none 0 0,.slice none 0 0] fun W11 u11 k11=>?_
  have g1:=n1.ge (Below.refl w.heap.size _)
  have k2:=u11.blkT ((u9.blkT (((n2.blk.below hb3).below hb7).below n8.below) n8.blk (by decide)).below hb10) k1'1 (by decide)
  refine xsv 0 k2 [.slice a5 1 c5,.int .i64 (Yr (inB l no))] fun W12 u12 k12=>?_
  have g2:=n2.ge n1.below
  have hB:=u12.below (u11.below (bln (u9.below (bln (bln (bln (bln n1.below n2.below) hb3) hb7) n8.below) g8) hb10) g1) g2
  have hs5'2:=u12.own2 (u11.own2 (Zf hs5 hs10) k1'1 (by decide)) k2 (by decide)
  have k11'1:=u12.blkT k11 k2 (by decide)
  refine Fw 4 [(b1,[.int .i64 0,.bool false,.slice none 0 0,.slice none 0 0]),(b2,[.slice a5 1 c5,.int .i64 (Yr (inB l no))])] ⟨⟨_,k11'1⟩,⟨_,k12⟩,trivial⟩ (.tuple #[.agg #[.int .i64 0,.bool false,.slice none 0 0,.slice none 0 0],.agg #[.slice a5 1 c5,.int .i64 (Yr (inB l no))]]) ?_
  have he:Xc l no tree=(Yr (inB l no)):=by unfold Xc Qh;rw[if_pos hse,if_neg hz]
  exact .inl ⟨by rw[he];exact hz,_,_,by rw[he],hB,hs5'2⟩
 have hs7:=(bln (bln n1.below n2.below) hb3).size
 refine xa 3 [.int .i64 0,.bool false,.slice none 0 0,.slice none 0 0] 220 fun b13 W13 n13=>?_
 have k1:=((n1.blk.below n2.below).below hb3).below hb7
 have d13_b1:=n13.ne k1
 refine xsv 0 n13.blk [.int .i64 (Xt (inB l no)),.bool (Xk (inB l no)),.slice kp (Zn (inB l no)) kc,.slice vp (Zn (inB l no)) vc] fun W14 u14 k14=>?_
 have g13:=n13.ge (bln (bln (bln n1.below n2.below) hb3) hb7)
 refine xg 19 [36,37] (tree != (0:Int)) (fun hc15=>?_) (fun hc15=>?_)
 ·have hc15:=Vp hc15
  refine xb 1 0 k14 ?_
  refine xin 5 (Xt (inB l no)) tree (fun hc16=>?_) (fun hc16=>?_)
  ·refine xc 4 (args:=#[.int .i64 no,.int .i64 6]) (Vt no 6 _ (by decide)) ?_
   rintro _ W17 ⟨_,rfl,hb17,a5,c5,rfl,hs5⟩
   have hs17:=(u14.below (bln (bln (bln (bln n1.below n2.below) hb3) hb7) n13.below) g13).size
   have k1'2:=(u14.blk (k1.below n13.below) (Ne.symm (Ne.symm d13_b1))).below hb17
   refine xsv 0 k1'2 [.int .i64 0,.bool false,.slice none 0 0,.slice none 0 0] fun W18 u18 k18=>?_
   have g1:=n1.ge (Below.refl w.heap.size _)
   have k2:=u18.blkT ((u14.blkT (((n2.blk.below hb3).below hb7).below n13.below) n13.blk (by decide)).below hb17) k1'2 (by decide)
   refine xsv 0 k2 [.slice a5 1 c5,.int .i64 6] fun W19 u19 k19=>?_
   have g2:=n2.ge n1.below
   have hB:=u19.below (u18.below (bln (u14.below (bln (bln (bln (bln n1.below n2.below) hb3) hb7) n13.below) g13) hb17) g1) g2
   have hs5'3:=u19.own2 (u18.own2 (Zf hs5 hs17) k1'2 (by decide)) k2 (by decide)
   have k18'1:=u19.blkT k18 k2 (by decide)
   refine Fw 4 [(b1,[.int .i64 0,.bool false,.slice none 0 0,.slice none 0 0]),(b2,[.slice a5 1 c5,.int .i64 6])] ⟨⟨_,k18'1⟩,⟨_,k19⟩,trivial⟩ (.tuple #[.agg #[.int .i64 0,.bool false,.slice none 0 0,.slice none 0 0],.agg #[.slice a5 1 c5,.int .i64 6]]) ?_
   have he:Xc l no tree=6:=by unfold Xc Qh;rw[if_pos hse,if_pos hz,if_neg (by omega)]
   exact .inl ⟨by rw[he];decide,_,_,by rw[he],hB,hs5'3⟩
  refine xlv 4 k14.rp ?_
  have k1'3:=u14.blk (k1.below n13.below) (Ne.symm (Ne.symm d13_b1))
  refine xsv 1 k1'3 [.int .i64 (Xt (inB l no)),.bool (Xk (inB l no)),.slice kp (Zn (inB l no)) kc,.slice vp (Zn (inB l no)) vc] fun W20 u20 k20=>?_
  have g1:=n1.ge (Below.refl w.heap.size _)
  have k2:=u20.blkT (u14.blkT (((n2.blk.below hb3).below hb7).below n13.below) n13.blk (by decide)) k1'3 (by decide)
  refine xsv 0 k2 [.slice none 0 0,.int .i64 0] fun W21 u21 k21=>?_
  have g2:=n2.ge n1.below
  have hB:=u21.below (u20.below (u14.below (bln (bln (bln (bln n1.below n2.below) hb3) hb7) n13.below) g13) g1) g2
  have hk'1:=u21.own2 (u20.own2 (u14.own2 (Za (Zf hk hs7) n13.below) n13.blk (by decide)) k1'3 (by decide)) k2 (by decide)
  have hv_'1:=u21.own2 (u20.own2 (u14.own2 (Za (Zf hv_ hs7) n13.below) n13.blk (by decide)) k1'3 (by decide)) k2 (by decide)
  have k20'1:=u21.blkT k20 k2 (by decide)
  exact Fw 3 [(b1,[.int .i64 (Xt (inB l no)),.bool (Xk (inB l no)),.slice kp (Zn (inB l no)) kc,.slice vp (Zn (inB l no)) vc]),(b2,[.slice none 0 0,.int .i64 0])] ⟨⟨_,k20'1⟩,⟨_,k21⟩,trivial⟩ (.tuple #[.agg #[.int .i64 (Xt (inB l no)),.bool (Xk (inB l no)),.slice kp (Zn (inB l no)) kc,.slice vp (Zn (inB l no)) vc],.agg #[.slice none 0 0,.int .i64 0]]) (.inr ⟨by unfold Xc Qh;rw[if_pos hse,if_pos hz,if_pos (by omega)],_,_,_,_,rfl,hB,hk'1,hv_'1⟩)
 have hc15:=Xq hc15
 refine xlv 12 k14.rp ?_
 have k1'4:=u14.blk (k1.below n13.below) (Ne.symm (Ne.symm d13_b1))
 refine xsv 1 k1'4 [.int .i64 (Xt (inB l no)),.bool (Xk (inB l no)),.slice kp (Zn (inB l no)) kc,.slice vp (Zn (inB l no)) vc] fun W22 u22 k22=>?_
 have g1:=n1.ge (Below.refl w.heap.size _)
 have k2:=u22.blkT (u14.blkT (((n2.blk.below hb3).below hb7).below n13.below) n13.blk (by decide)) k1'4 (by decide)
 refine xsv 0 k2 [.slice none 0 0,.int .i64 0] fun W23 u23 k23=>?_
 have g2:=n2.ge n1.below
 have hB:=u23.below (u22.below (u14.below (bln (bln (bln (bln n1.below n2.below) hb3) hb7) n13.below) g13) g1) g2
 have hk'2:=u23.own2 (u22.own2 (u14.own2 (Za (Zf hk hs7) n13.below) n13.blk (by decide)) k1'4 (by decide)) k2 (by decide)
 have hv_'2:=u23.own2 (u22.own2 (u14.own2 (Za (Zf hv_ hs7) n13.below) n13.blk (by decide)) k1'4 (by decide)) k2 (by decide)
 have k22'1:=u23.blkT k22 k2 (by decide)
 exact Fw 3 [(b1,[.int .i64 (Xt (inB l no)),.bool (Xk (inB l no)),.slice kp (Zn (inB l no)) kc,.slice vp (Zn (inB l no)) vc]),(b2,[.slice none 0 0,.int .i64 0])] ⟨⟨_,k22'1⟩,⟨_,k23⟩,trivial⟩ (.tuple #[.agg #[.int .i64 (Xt (inB l no)),.bool (Xk (inB l no)),.slice kp (Zn (inB l no)) kc,.slice vp (Zn (inB l no)) vc],.agg #[.slice none 0 0,.int .i64 0]]) (.inr ⟨by unfold Xc Qh;rw[if_pos hse,if_pos hz,if_pos (by omega)],_,_,_,_,rfl,hB,hk'2,hv_'2⟩)
theorem Zg5(a:Option Addr)(c:Nat)(l:List Int)(x:Int)(w:World)(h:Ints w (.slice a l.length c) l)(hln:l.length≤1000000) :
 Calls Tryz.prog 166 #[.slice a l.length c,.int .i64 x] w (Ret (.bool (Qx l x)) w):=by
 refine zin 18 Tryz.func166 ?_
 have hB:=Below.refl w.heap.size w
 refine zl 12 18 (fun zm zkv V=>∃ (i:Nat),zkv=[(0,.slice a l.length c),(1,.int .i64 x),(5,.int .i64 (↑i:Int))]∧zm=l.length-((↑i:Int)).toNat∧Below w.heap.size w V∧i≤l.length∧(∀ j,j<i→x≠l.getD j 0)) ⟨0,rfl,rfl,hB,Nat.zero_le _,?_⟩ ?_
 ·exact fun j hj=>absurd hj (by omega)
 rintro _ _ W1 ⟨i,rfl,rfl,hB_1,hi,hz⟩ J1 hJ1 r1
 refine xid 9 ((↑i:Int)<(↑l.length:Int)) (fun hc2=>?_) (fun hc2=>?_)
 ·refine xx 8 _ l.length i 1 (Ints.elem h (k:=i) (by omega)).1 ?_
  refine xl 0 ((Ints.elem (h.below hB_1) (k:=i) (by omega)).2) ?_
  refine xie 4 (l.getD i 0) x (fun hc3=>?_) (fun hc3=>?_)
  ·refine xe 11 (.bool true) ?_
   rw[On (i:=i) (by omega) (by omega)];exact⟨rfl,hB_1⟩
  refine xwm 5 ((↑i:Int)+1) (↑(i+1):Int) ?_
  exact ze 2 (hJ1 _ _ _ ⟨i+1,rfl,rfl,hB_1,by omega,fun j hj=>(Nat.lt_or_ge j i).elim (hz j) (fun q=>by obtain rfl:j=i:=(by omega);omega)⟩ (by omega))
 refine xe 11 (.bool false) ?_
 rw[Tc (fun j hj=>hz j (by omega))];exact⟨rfl,hB_1⟩
def Zci(l:List UInt8)(way:List Int)(no tree lo hi deep:Int)(w:World)(e:Ending)(w':World):Prop :=
 (Zw l way no tree lo hi deep≠0∧∃ a4 b4 k4 n4 c4 v4 m4 d4 a c,e=.returned (.tuple #[.agg #[.int .i64 a4,.bool b4,.slice k4 n4 c4,.slice v4 m4 d4],.agg #[.slice a 1 c,.int .i64 (Zw l way no tree lo hi deep)]])∧Below w.heap.size w w'∧w'.ownsRow w.heap.size 3 1 (.slice a 1 c) 1 [.int .i64 no]) ∨
 (Zw l way no tree lo hi deep=0∧∃ kp kc vp vc,e=.returned (.tuple #[.agg #[.int .i64 (Xt (inB l no)),.bool (Xk (inB l no)),.slice kp (Zn (inB l no)) kc,.slice vp (Zn (inB l no)) vc],.agg #[.slice none 0 0,.int .i64 0]])∧Below w.heap.size w w'∧w'.ownsRow w.heap.size 3 1 (.slice kp (Zn (inB l no)) kc) (Zn (inB l no)) ((Yq (inB l no) (Zn (inB l no))).map (Value.int .i64))∧w'.ownsRow w.heap.size 9 1 (.slice vp (Zn (inB l no)) vc) (Zn (inB l no)) ((Kt (inB l no) (Zn (inB l no))).map sv))
theorem Zem(B bm:Nat)(p:Option Addr)(k c:Nat)(l:List UInt8)(no tree:Int)(lo hi deep:Int)(way:List Int)(wa:Option Addr)(wc:Nat)(ft:Value)(w:World)(hI:RefI B bm p k c l w)(hw:Ints w (.slice wa way.length wc) way)(hwl:way.length≤100000)(hr:Qj lo hi=true) :
 Calls Tryz.prog 116 #[.pointer (some ⟨bm,0,none⟩),.agg #[.int .i64 no,.int .i64 lo,.int .i64 hi,.slice wa way.length wc,ft],.int .i64 tree,.int .i64 deep] w (Zci l way no tree lo hi deep w):=by
 refine zin 84 Tryz.func116 ?_
 refine xa 2 [.int .i64 no,.int .i64 lo,.int .i64 hi,.slice wa way.length wc,ft] 239 fun b1 W1 n1=>?_
 refine xa 0 [.int .i64 0,.bool false,.slice none 0 0,.slice none 0 0] 220 fun b2 W2 n2=>?_
 refine xa 0 [.slice none 0 0,.int .i64 0] 33 fun b3 W3 n3=>?_
 have k1:=(n1.blk.below n2.below).below n3.below
 refine xb 6 3 k1 ?_
 refine xb 1 0 k1 ?_
 have hB:=bln (bln n1.below n2.below) n3.below
 refine xr 0 (args:=#[.slice wa way.length wc,.int .i64 no]) (Zg5 wa wc way no _ (hw.below hB) (by omega)) fun W4 hb4=>?_
 refine xi 2 (Qx way no) (fun hc5=>?_) (fun hc5=>?_)
 ·have hh:Qx way no=true:=hc5
  have k1'1:=k1.below hb4
  refine xb 4 0 k1'1 ?_
  refine xc 0 (args:=#[.int .i64 no,.int .i64 11]) (Vt no 11 _ (by decide)) ?_
  rintro _ W6 ⟨_,rfl,hb6,a5,c5,rfl,hs5⟩
  have hs6:=(bln hB hb4).size
  have k2:=((n2.blk.below n3.below).below hb4).below hb6
  refine xsv 0 k2 [.int .i64 0,.bool false,.slice none 0 0,.slice none 0 0] fun W7 u7 k7=>?_
  have g2:=n2.ge n1.below
  have k3:=u7.blkT ((n3.blk.below hb4).below hb6) k2 (by decide)
  refine xsv 0 k3 [.slice a5 1 c5,.int .i64 11] fun W8 u8 k8=>?_
  have g3:=n3.ge (bln n1.below n2.below)
  have hB'1:=u8.below (u7.below (bln (bln hB hb4) hb6) g2) g3
  have hs5'1:=u8.own2 (u7.own2 (Zf hs5 hs6) k2 (by decide)) k3 (by decide)
  have k7'1:=u8.blkT k7 k3 (by decide)
  refine Fw 4 [(b2,[.int .i64 0,.bool false,.slice none 0 0,.slice none 0 0]),(b3,[.slice a5 1 c5,.int .i64 11])] ⟨⟨_,k7'1⟩,⟨_,k8⟩,trivial⟩ (.tuple #[.agg #[.int .i64 0,.bool false,.slice none 0 0,.slice none 0 0],.agg #[.slice a5 1 c5,.int .i64 11]]) ?_
  have he:(Zw l way no tree lo hi deep)=11:=by unfold Zw;rw[if_pos hh]
  exact .inl ⟨by rw[he];decide,_,_,_,_,_,_,_,_,_,_,by rw[he],hB'1,hs5'1⟩
 have hh:Qx way no=false:=hc5
 have k1'2:=k1.below hb4
 refine xb 6 3 k1'2 ?_
 refine xwm 1 ((↑way.length:Int)+1) (↑(way.length+1):Int) ?_
 refine xid 3 ((↑(way.length+1):Int)>(16:Int)) (fun hc9=>?_) (fun hc9=>?_)
 ·refine xb 4 0 k1'2 ?_
  refine xc 0 (args:=#[.int .i64 no,.int .i64 10]) (Vt no 10 _ (by decide)) ?_
  rintro _ W10 ⟨_,rfl,hb10,a5,c5,rfl,hs5⟩
  have hs10:=(bln hB hb4).size
  have k2:=((n2.blk.below n3.below).below hb4).below hb10
  refine xsv 0 k2 [.int .i64 0,.bool false,.slice none 0 0,.slice none 0 0] fun W11 u11 k11=>?_
  have g2:=n2.ge n1.below
  have k3:=u11.blkT ((n3.blk.below hb4).below hb10) k2 (by decide)
  refine xsv 0 k3 [.slice a5 1 c5,.int .i64 10] fun W12 u12 k12=>?_
  have g3:=n3.ge (bln n1.below n2.below)
  have hB'2:=u12.below (u11.below (bln (bln hB hb4) hb10) g2) g3
  have hs5'2:=u12.own2 (u11.own2 (Zf hs5 hs10) k2 (by decide)) k3 (by decide)
  have k11'1:=u12.blkT k11 k3 (by decide)
  refine Fw 4 [(b2,[.int .i64 0,.bool false,.slice none 0 0,.slice none 0 0]),(b3,[.slice a5 1 c5,.int .i64 10])] ⟨⟨_,k11'1⟩,⟨_,k12⟩,trivial⟩ (.tuple #[.agg #[.int .i64 0,.bool false,.slice none 0 0,.slice none 0 0],.agg #[.slice a5 1 c5,.int .i64 10]]) ?_
  have he:(Zw l way no tree lo hi deep)=10:=by unfold Zw;rw[if_neg (by rw[hh];decide),if_pos (by omega)]
  exact .inl ⟨by rw[he];decide,_,_,_,_,_,_,_,_,_,_,by rw[he],hB'2,hs5'2⟩
 refine xb 6 0 k1'2 ?_
 have hI'1:=(((hI.below n1.below).below n2.below).below n3.below).below hb4
 refine xc 1 (args:=#[.pointer (some ⟨bm,0,none⟩),.int .i64 no,.int .i64 tree]) (Zee B bm p k c l no tree _ hI'1) ?_
 rintro e W13 hq13
 rcases hq13 with ⟨hne,a3,c3,rfl,hb13,hs3⟩|⟨hne,kp,kc,vp,vc,rfl,hb13,hk,hv_⟩
 ·have hs13:=(bln hB hb4).size
  refine xa 3 [.int .i64 0,.bool false,.slice none 0 0,.slice none 0 0] 220 fun b14 W14 n14=>?_
  have k2:=((n2.blk.below n3.below).below hb4).below hb13
  have d14_b2:=n14.ne k2
  have hB'3:=bln (bln hB hb4) hb13
  have g14:=n14.ge hB'3
  refine xa 0 [.slice none 0 0,.int .i64 0] 33 fun b15 W15 n15=>?_
  have k3:=((n3.blk.below hb4).below hb13).below n14.below
  have d15_b3:=n15.ne k3
  have hB'4:=bln hB'3 n14.below
  have g15:=n15.ge hB'4
  have k14:=n14.blk.below n15.below
  refine xsv 0 k14 [.int .i64 0,.bool false,.slice none 0 0,.slice none 0 0] fun W16 u16 k16=>?_
  have k15:=u16.blkT n15.blk k14 (by decide)
  refine xsv 0 k15 [.slice a3 1 c3,.int .i64 (Xc l no tree)] fun W17 u17 k17=>?_
  refine xb 6 1 k17 ?_
  refine xk 3 (show(((Xc l no tree) != (0:Int)):Bool)=true from bne_iff_ne.2 hne) ?_
  refine xd 1 (.t w.heap.size [220,33]) ?_
  refine xm2 0 0 1 ?_ ?_
  ·have k16'1:=(u17.blkT k16 k15 (by decide)).below (Zb W17)
   refine xlv 0 k16'1.rp ?_
   refine xm2 0 1 2 ?_ ?_
   ·have k17'1:=k17.below (Zb W17)
    refine xlv 0 k17'1.rp ?_
    have k2'1:=(u17.blkT (u16.blk ((k2.below n14.below).below n15.below) (Ne.symm (Ne.symm d14_b2))) k15 (by decide)).below (Zb W17)
    have g2:=n2.ge n1.below
    refine ysv (.o [] 2) k2'1 [.int .i64 0,.bool false,.slice none 0 0,.slice none 0 0] (.t w.heap.size [220,33]) fun W18 u18 k18=>⟨(Zm u18 k2'1 g2 (by decide)),?_⟩
    have k3'1:=u18.blkT ((u17.blk (u16.blkT (k3.below n15.below) k14 (by decide)) (Ne.symm (Ne.symm d15_b3))).below (Zb W17)) k2'1 (by decide)
    have g3:=n3.ge (bln n1.below n2.below)
    refine ysv (.o [] 3) k3'1 [.slice a3 1 c3,.int .i64 (Xc l no tree)] (.t w.heap.size [220,33]) fun W19 u19 k19=>⟨(Zm u19 k3'1 g3 (by decide)),?_⟩
    have hB'5:=u19.below (u18.below (bln (u17.below (u16.below (bln hB'4 n15.below) g14) g15) (Zb W17)) g2) g3
    have hs3'1:=u19.own2 (u18.own2 (Za (u17.own2 (u16.own2 (Za (Za (Zf hs3 hs13) n14.below) n15.below) k14 (by decide)) k15 (by decide)) (Zb W17)) k2'1 (by decide)) k3'1 (by decide)
    have k18'1:=u19.blkT k18 k3'1 (by decide)
    refine Fw 4 [(b2,[.int .i64 0,.bool false,.slice none 0 0,.slice none 0 0]),(b3,[.slice a3 1 c3,.int .i64 (Xc l no tree)])] ⟨⟨_,k18'1⟩,⟨_,k19⟩,trivial⟩ (.tuple #[.agg #[.int .i64 0,.bool false,.slice none 0 0,.slice none 0 0],.agg #[.slice a3 1 c3,.int .i64 (Xc l no tree)]]) ?_
    have he:(Zw l way no tree lo hi deep)=Xc l no tree:=by unfold Zw;rw[if_neg (by rw[hh];decide),if_neg (by omega),if_pos hne]
    exact .inl ⟨by rw[he];exact hne,_,_,_,_,_,_,_,_,_,_,by rw[he],hB'5,hs3'1⟩
   have k2'2:=(u17.blkT (u16.blk ((k2.below n14.below).below n15.below) (Ne.symm (Ne.symm d14_b2))) k15 (by decide)).below (Zb W17)
   have g2:=n2.ge n1.below
   refine ysv 0 k2'2 [.int .i64 0,.bool false,.slice none 0 0,.slice none 0 0] (.t w.heap.size [220,33]) fun W20 u20 k20=>⟨(Zm u20 k2'2 g2 (by decide)),?_⟩
   have k17'2:=u20.blkT (k17.below (Zb W17)) k2'2 (by decide)
   refine xlv (.o [] 1) k17'2.rp ?_
   have k3'2:=u20.blkT ((u17.blk (u16.blkT (k3.below n15.below) k14 (by decide)) (Ne.symm (Ne.symm d15_b3))).below (Zb W17)) k2'2 (by decide)
   have g3:=n3.ge (bln n1.below n2.below)
   refine ysv (.o [] 3) k3'2 [.slice a3 1 c3,.int .i64 (Xc l no tree)] (.t w.heap.size [220,33]) fun W21 u21 k21=>⟨(Zm u21 k3'2 g3 (by decide)),?_⟩
   have hB'6:=u21.below (u20.below (bln (u17.below (u16.below (bln hB'4 n15.below) g14) g15) (Zb W17)) g2) g3
   have hs3'2:=u21.own2 (u20.own2 (Za (u17.own2 (u16.own2 (Za (Za (Zf hs3 hs13) n14.below) n15.below) k14 (by decide)) k15 (by decide)) (Zb W17)) k2'2 (by decide)) k3'2 (by decide)
   have k20'1:=u21.blkT k20 k3'2 (by decide)
   refine Fw 4 [(b2,[.int .i64 0,.bool false,.slice none 0 0,.slice none 0 0]),(b3,[.slice a3 1 c3,.int .i64 (Xc l no tree)])] ⟨⟨_,k20'1⟩,⟨_,k21⟩,trivial⟩ (.tuple #[.agg #[.int .i64 0,.bool false,.slice none 0 0,.slice none 0 0],.agg #[.slice a3 1 c3,.int .i64 (Xc l no tree)]]) ?_
   have he:(Zw l way no tree lo hi deep)=Xc l no tree:=by unfold Zw;rw[if_neg (by rw[hh];decide),if_neg (by omega),if_pos hne]
   exact .inl ⟨by rw[he];exact hne,_,_,_,_,_,_,_,_,_,_,by rw[he],hB'6,hs3'2⟩
  have k17'3:=k17.below (Zb W17)
  refine xlv 0 k17'3.rp ?_
  have k16'2:=(u17.blkT k16 k15 (by decide)).below (Zb W17)
  refine xlv (.o [] 0) k16'2.rp ?_
  have k2'3:=(u17.blkT (u16.blk ((k2.below n14.below).below n15.below) (Ne.symm (Ne.symm d14_b2))) k15 (by decide)).below (Zb W17)
  have g2:=n2.ge n1.below
  refine ysv (.o [] 2) k2'3 [.int .i64 0,.bool false,.slice none 0 0,.slice none 0 0] (.t w.heap.size [220,33]) fun W22 u22 k22=>⟨(Zm u22 k2'3 g2 (by decide)),?_⟩
  have k3'3:=u22.blkT ((u17.blk (u16.blkT (k3.below n15.below) k14 (by decide)) (Ne.symm (Ne.symm d15_b3))).below (Zb W17)) k2'3 (by decide)
  have g3:=n3.ge (bln n1.below n2.below)
  refine ysv (.o [] 3) k3'3 [.slice a3 1 c3,.int .i64 (Xc l no tree)] (.t w.heap.size [220,33]) fun W23 u23 k23=>⟨(Zm u23 k3'3 g3 (by decide)),?_⟩
  have hB'7:=u23.below (u22.below (bln (u17.below (u16.below (bln hB'4 n15.below) g14) g15) (Zb W17)) g2) g3
  have hs3'3:=u23.own2 (u22.own2 (Za (u17.own2 (u16.own2 (Za (Za (Zf hs3 hs13) n14.below) n15.below) k14 (by decide)) k15 (by decide)) (Zb W17)) k2'3 (by decide)) k3'3 (by decide)
  have k22'1:=u23.blkT k22 k3'3 (by decide)
  refine Fw 4 [(b2,[.int .i64 0,.bool false,.slice none 0 0,.slice none 0 0]),(b3,[.slice a3 1 c3,.int .i64 (Xc l no tree)])] ⟨⟨_,k22'1⟩,⟨_,k23⟩,trivial⟩ (.tuple #[.agg #[.int .i64 0,.bool false,.slice none 0 0,.slice none 0 0],.agg #[.slice a3 1 c3,.int .i64 (Xc l no tree)]]) ?_
  have he:(Zw l way no tree lo hi deep)=Xc l no tree:=by unfold Zw;rw[if_neg (by rw[hh];decide),if_neg (by omega),if_pos hne]
  exact .inl ⟨by rw[he];exact hne,_,_,_,_,_,_,_,_,_,_,by rw[he],hB'7,hs3'3⟩
 have hs13:=(bln hB hb4).size
 have hcn:Zn (inB l no)≤18:=Nat.le_trans (Hs (Dl (Pt (Lh hne).2))) (maxG_18 _ _)
 refine xa 3 [.int .i64 0,.bool false,.slice none 0 0,.slice none 0 0] 220 fun b24 W24 n24=>?_
 have k2:=((n2.blk.below n3.below).below hb4).below hb13
 have d24_b2:=n24.ne k2
 have hB'8:=bln (bln hB hb4) hb13
 have g24:=n24.ge hB'8
 refine xa 0 [.slice none 0 0,.int .i64 0] 33 fun b25 W25 n25=>?_
 have k3:=((n3.blk.below hb4).below hb13).below n24.below
 have d25_b3:=n25.ne k3
 have hB'9:=bln hB'8 n24.below
 have g25:=n25.ge hB'9
 have k24:=n24.blk.below n25.below
 refine xsv 0 k24 [.int .i64 (Xt (inB l no)),.bool (Xk (inB l no)),.slice kp (Zn (inB l no)) kc,.slice vp (Zn (inB l no)) vc] fun W26 u26 k26=>?_
 have k25:=u26.blkT n25.blk k24 (by decide)
 refine xsv 0 k25 [.slice none 0 0,.int .i64 0] fun W27 u27 k27=>?_
 refine xb 6 1 k27 ?_
 have hk'1:=u27.own2 (u26.own2 (Za (Za (Zf hk hs13) n24.below) n25.below) k24 (by decide)) k25 (by decide)
 have hv_'1:=u27.own2 (u26.own2 (Za (Za (Zf hv_ hs13) n24.below) n25.below) k24 (by decide)) k25 (by decide)
 have hB'10:=u27.below (u26.below (bln hB'9 n25.below) g24) g25
 have k1'3:=u27.blkT (u26.blkT (((k1'2.below hb13).below n24.below).below n25.below) k24 (by decide)) k25 (by decide)
 have k2'4:=u27.blkT (u26.blk ((k2.below n24.below).below n25.below) (Ne.symm (Ne.symm d24_b2))) k25 (by decide)
 have k3'4:=u27.blk (u26.blkT (k3.below n25.below) k24 (by decide)) (Ne.symm (Ne.symm d25_b3))
 have k26'1:=u27.blkT k26 k25 (by decide)
 refine zl 13 84 (fun zm zkv V=>∃ (i:Nat),zkv=[(3,.int .i64 deep),(5,.pointer (some ⟨b1,0,none⟩)),(8,.pointer (some ⟨b2,0,none⟩)),(9,.pointer (some ⟨b3,0,none⟩)),(10,.pointer (some ⟨b24,0,none⟩)),(12,.int .i64 (↑i:Int))]∧zm=Zn (inB l no)-((↑i:Int)).toNat∧Below w.heap.size w V∧Blk V b1 ([.int .i64 no,.int .i64 lo,.int .i64 hi,.slice wa way.length wc,ft]) 239∧Blk V b2 ([.int .i64 0,.bool false,.slice none 0 0,.slice none 0 0]) 220∧Blk V b3 ([.slice none 0 0,.int .i64 0]) 33∧Blk V b24 ([.int .i64 (Xt (inB l no)),.bool (Xk (inB l no)),.slice kp (Zn (inB l no)) kc,.slice vp (Zn (inB l no)) vc]) 220∧Blk V b25 ([.slice none 0 0,.int .i64 0]) 33∧V.ownsRow w.heap.size 3 1 (.slice kp (Zn (inB l no)) kc) (Zn (inB l no)) ((Yq (inB l no) (Zn (inB l no))).map (Value.int .i64))∧V.ownsRow w.heap.size 9 1 (.slice vp (Zn (inB l no)) vc) (Zn (inB l no)) ((Kt (inB l no) (Zn (inB l no))).map sv)∧i≤Zn (inB l no)∧(∀ j,j<i→Ez lo hi ((Xu l no).getD j 0)=true)) ⟨0,rfl,rfl,hB'10,k1'3,k2'4,k3'4,k26'1,k27,hk'1,hv_'1,Nat.zero_le _,?_⟩ ?_
 ·exact fun j hj=>absurd hj (by omega)
 rintro _ _ W28 ⟨i,rfl,rfl,hB_28,k28_b1,k28_b2,k28_b3,k28_b24,k28_b25,hk,hv_,hii,hall⟩ J28 hJ28 r28
 refine xb 5 2 k28_b24 ?_
 refine xid 4 ((↑i:Int)<(↑(Zn (inB l no)):Int)) (fun hc29=>?_) (fun hc29=>?_)
 ·refine xd 5 .z ?_
  have k28_b1'1:=k28_b1.below (Zb W28)
  refine xlv (.e [0] 1) (k28_b1'1.rpp 1 2) ?_
  have k28_b24'1:=k28_b24.below (Zb W28)
  refine xb (.e [2] 3) 2 k28_b24'1 ?_
  have hk'2:=Za hk (Zb W28)
  refine xx (.e [4] 5) _ (Zn (inB l no)) i 1 (IntsN.elem (l:=(Xu l no)) (Zg hk'2) (Ym _ _) (k:=i) (by omega)).1 ?_
  refine xl (.e [] 6) ((IntsN.elem (l:=(Xu l no)) (Zg hk'2) (Ym _ _) (k:=i) (by omega)).2) ?_
  refine xr (.o [] 7) (args:=#[.agg #[.int .i64 lo,.int .i64 hi],.int .i64 ((Xu l no).getD i 0)]) (Pz lo hi ((Xu l no).getD i 0) _) fun W30 hb30=>?_
  refine xi (.r [8] 2) (!(Ez lo hi ((Xu l no).getD i 0))) (fun hc31=>?_) (fun hc31=>?_)
  ·have hna:Ez lo hi ((Xu l no).getD i 0)=false:=by simpa using hc31
   refine xd 1 (.t w.heap.size [220,33]) ?_
   have k28_b1'2:=(k28_b1'1.below hb30).below (Zb W30)
   refine xbt (.e [1] 2) 0 w.heap.size [220,33] k28_b1'2 ?_
   refine xm2 0 0 3 ?_ ?_
   ·have k28_b24'2:=(k28_b24'1.below hb30).below (Zb W30)
    refine xlv 0 k28_b24'2.rp ?_
    refine yc (.o [] 3) (args:=#[.int .i64 no,.int .i64 9]) (.t w.heap.size [220,33]) (Vt no 9 _ (by decide)) ?_
    rintro _ W32 ⟨_,rfl,hb32,a5,c5,rfl,hs5⟩
    have hs32:=(bln (bln (bln hB_28 (Zb W28)) hb30) (Zb W30)).size
    refine⟨(SF.of_below _ hb32),?_⟩
    have k28_b2'1:=(((k28_b2.below (Zb W28)).below hb30).below (Zb W30)).below hb32
    have g2:=n2.ge n1.below
    refine ysv (.o [] 4) k28_b2'1 [.int .i64 (Xt (inB l no)),.bool (Xk (inB l no)),.slice kp (Zn (inB l no)) kc,.slice vp (Zn (inB l no)) vc] (.t w.heap.size [220,33]) fun W33 u33 k33=>⟨(Zm u33 k28_b2'1 g2 (by decide)),?_⟩
    have k28_b3'1:=u33.blkT ((((k28_b3.below (Zb W28)).below hb30).below (Zb W30)).below hb32) k28_b2'1 (by decide)
    have g3:=n3.ge (bln n1.below n2.below)
    refine ysv (.o [] 5) k28_b3'1 [.slice a5 1 c5,.int .i64 9] (.t w.heap.size [220,33]) fun W34 u34 k34=>⟨(Zm u34 k28_b3'1 g3 (by decide)),?_⟩
    have hB'11:=u34.below (u33.below (bln (bln (bln (bln hB_28 (Zb W28)) hb30) (Zb W30)) hb32) g2) g3
    have hs5'3:=u34.own2 (u33.own2 (Zf hs5 hs32) k28_b2'1 (by decide)) k28_b3'1 (by decide)
    have k33'1:=u34.blkT k33 k28_b3'1 (by decide)
    refine Fw 8 [(b2,[.int .i64 (Xt (inB l no)),.bool (Xk (inB l no)),.slice kp (Zn (inB l no)) kc,.slice vp (Zn (inB l no)) vc]),(b3,[.slice a5 1 c5,.int .i64 9])] ⟨⟨_,k33'1⟩,⟨_,k34⟩,trivial⟩ (.tuple #[.agg #[.int .i64 (Xt (inB l no)),.bool (Xk (inB l no)),.slice kp (Zn (inB l no)) kc,.slice vp (Zn (inB l no)) vc],.agg #[.slice a5 1 c5,.int .i64 9]]) ?_
    have he:(Zw l way no tree lo hi deep)=9:=by unfold Zw;rw[if_neg (by rw[hh];decide),if_neg (by omega),if_neg (by rw[hne];decide),if_pos (by have:=Zdv (i:=i) (tree:=tree) (by omega) hna;exact this)]
    exact .inl ⟨by rw[he];decide,_,_,_,_,_,_,_,_,_,_,by rw[he],hB'11,hs5'3⟩
   refine yc 0 (args:=#[.int .i64 no,.int .i64 9]) (.t w.heap.size [220,33]) (Vt no 9 _ (by decide)) ?_
   rintro _ W35 ⟨_,rfl,hb35,a5,c5,rfl,hs5⟩
   have hs35:=(bln (bln (bln hB_28 (Zb W28)) hb30) (Zb W30)).size
   refine⟨(SF.of_below _ hb35),?_⟩
   have k28_b24'3:=((k28_b24'1.below hb30).below (Zb W30)).below hb35
   refine xlv (.o [] 0) k28_b24'3.rp ?_
   have k28_b2'2:=(((k28_b2.below (Zb W28)).below hb30).below (Zb W30)).below hb35
   have g2:=n2.ge n1.below
   refine ysv (.o [] 4) k28_b2'2 [.int .i64 (Xt (inB l no)),.bool (Xk (inB l no)),.slice kp (Zn (inB l no)) kc,.slice vp (Zn (inB l no)) vc] (.t w.heap.size [220,33]) fun W36 u36 k36=>⟨(Zm u36 k28_b2'2 g2 (by decide)),?_⟩
   have k28_b3'2:=u36.blkT ((((k28_b3.below (Zb W28)).below hb30).below (Zb W30)).below hb35) k28_b2'2 (by decide)
   have g3:=n3.ge (bln n1.below n2.below)
   refine ysv (.o [] 5) k28_b3'2 [.slice a5 1 c5,.int .i64 9] (.t w.heap.size [220,33]) fun W37 u37 k37=>⟨(Zm u37 k28_b3'2 g3 (by decide)),?_⟩
   have hB'12:=u37.below (u36.below (bln (bln (bln (bln hB_28 (Zb W28)) hb30) (Zb W30)) hb35) g2) g3
   have hs5'4:=u37.own2 (u36.own2 (Zf hs5 hs35) k28_b2'2 (by decide)) k28_b3'2 (by decide)
   have k36'1:=u37.blkT k36 k28_b3'2 (by decide)
   refine Fw 8 [(b2,[.int .i64 (Xt (inB l no)),.bool (Xk (inB l no)),.slice kp (Zn (inB l no)) kc,.slice vp (Zn (inB l no)) vc]),(b3,[.slice a5 1 c5,.int .i64 9])] ⟨⟨_,k36'1⟩,⟨_,k37⟩,trivial⟩ (.tuple #[.agg #[.int .i64 (Xt (inB l no)),.bool (Xk (inB l no)),.slice kp (Zn (inB l no)) kc,.slice vp (Zn (inB l no)) vc],.agg #[.slice a5 1 c5,.int .i64 9]]) ?_
   have he:(Zw l way no tree lo hi deep)=9:=by unfold Zw;rw[if_neg (by rw[hh];decide),if_neg (by omega),if_neg (by rw[hne];decide),if_pos (by have:=Zdv (i:=i) (tree:=tree) (by omega) hna;exact this)]
   exact .inl ⟨by rw[he];decide,_,_,_,_,_,_,_,_,_,_,by rw[he],hB'12,hs5'4⟩
  have hna:Ez lo hi ((Xu l no).getD i 0)=true:=by simpa using hc31
  refine xwm 5 ((↑i:Int)+1) (↑(i+1):Int) ?_
  have hB'13:=bln (bln hB_28 (Zb W28)) hb30
  have k28_b1'3:=k28_b1'1.below hb30
  have k28_b2'3:=(k28_b2.below (Zb W28)).below hb30
  have k28_b3'3:=(k28_b3.below (Zb W28)).below hb30
  have k28_b24'4:=k28_b24'1.below hb30
  have k28_b25'1:=(k28_b25.below (Zb W28)).below hb30
  have hk'3:=Za hk'2 hb30
  have hv_'2:=Za (Za hv_ (Zb W28)) hb30
  exact ze 2 (hJ28 _ _ _ ⟨i+1,rfl,rfl,hB'13,k28_b1'3,k28_b2'3,k28_b3'3,k28_b24'4,k28_b25'1,hk'3,hv_'2,by omega,fun j hj=>(Nat.lt_or_ge j i).elim (hall j) (fun q=>by obtain rfl:j=i:=(by omega);exact hna)⟩ (by omega))
 refine xb 9 1 k28_b24 ?_
 refine xg 1 [65,66] (Xk (inB l no)) (fun hc38=>?_) (fun hc38=>?_)
 ·refine xg 4 [68,69,70] (deep != (0:Int)) (fun hc39=>?_) (fun hc39=>?_)
  ·have hc39:=Vp hc39
   refine xb 1 3 k28_b1 ?_
   refine xwm 1 ((↑way.length:Int)+1) (↑(way.length+1):Int) ?_
   refine xin 5 (↑(way.length+1):Int) deep (fun hc40=>?_) (fun hc40=>?_)
   ·refine xd 1 (.t w.heap.size [220,33]) ?_
    have k28_b1'4:=k28_b1.below (Zb W28)
    refine xbt (.e [1] 2) 0 w.heap.size [220,33] k28_b1'4 ?_
    refine xm2 0 0 3 ?_ ?_
    ·have k28_b24'5:=k28_b24.below (Zb W28)
     refine xlv 0 k28_b24'5.rp ?_
     refine yc (.o [] 3) (args:=#[.int .i64 no,.int .i64 10]) (.t w.heap.size [220,33]) (Vt no 10 _ (by decide)) ?_
     rintro _ W41 ⟨_,rfl,hb41,a5,c5,rfl,hs5⟩
     have hs41:=(bln hB_28 (Zb W28)).size
     refine⟨(SF.of_below _ hb41),?_⟩
     have k28_b2'4:=(k28_b2.below (Zb W28)).below hb41
     have g2:=n2.ge n1.below
     refine ysv (.o [] 4) k28_b2'4 [.int .i64 (Xt (inB l no)),.bool (Xk (inB l no)),.slice kp (Zn (inB l no)) kc,.slice vp (Zn (inB l no)) vc] (.t w.heap.size [220,33]) fun W42 u42 k42=>⟨(Zm u42 k28_b2'4 g2 (by decide)),?_⟩
     have k28_b3'4:=u42.blkT ((k28_b3.below (Zb W28)).below hb41) k28_b2'4 (by decide)
     have g3:=n3.ge (bln n1.below n2.below)
     refine ysv (.o [] 5) k28_b3'4 [.slice a5 1 c5,.int .i64 10] (.t w.heap.size [220,33]) fun W43 u43 k43=>⟨(Zm u43 k28_b3'4 g3 (by decide)),?_⟩
     have hB'14:=u43.below (u42.below (bln (bln hB_28 (Zb W28)) hb41) g2) g3
     have hs5'5:=u43.own2 (u42.own2 (Zf hs5 hs41) k28_b2'4 (by decide)) k28_b3'4 (by decide)
     have k42'1:=u43.blkT k42 k28_b3'4 (by decide)
     refine Fw 4 [(b2,[.int .i64 (Xt (inB l no)),.bool (Xk (inB l no)),.slice kp (Zn (inB l no)) kc,.slice vp (Zn (inB l no)) vc]),(b3,[.slice a5 1 c5,.int .i64 10])] ⟨⟨_,k42'1⟩,⟨_,k43⟩,trivial⟩ (.tuple #[.agg #[.int .i64 (Xt (inB l no)),.bool (Xk (inB l no)),.slice kp (Zn (inB l no)) kc,.slice vp (Zn (inB l no)) vc],.agg #[.slice a5 1 c5,.int .i64 10]]) ?_
     have he:(Zw l way no tree lo hi deep)=10:=by unfold Zw;rw[if_neg (by rw[hh];decide),if_neg (by omega),if_neg (by rw[hne];decide),if_neg (by have:=Uv hne hr (fun j hj=>hall j (by omega));unfold Xu at this;rw[this];decide),if_pos ⟨by assumption,by omega,by omega⟩]
     exact .inl ⟨by rw[he];decide,_,_,_,_,_,_,_,_,_,_,by rw[he],hB'14,hs5'5⟩
    refine yc 0 (args:=#[.int .i64 no,.int .i64 10]) (.t w.heap.size [220,33]) (Vt no 10 _ (by decide)) ?_
    rintro _ W44 ⟨_,rfl,hb44,a5,c5,rfl,hs5⟩
    have hs44:=(bln hB_28 (Zb W28)).size
    refine⟨(SF.of_below _ hb44),?_⟩
    have k28_b24'6:=(k28_b24.below (Zb W28)).below hb44
    refine xlv (.o [] 0) k28_b24'6.rp ?_
    have k28_b2'5:=(k28_b2.below (Zb W28)).below hb44
    have g2:=n2.ge n1.below
    refine ysv (.o [] 4) k28_b2'5 [.int .i64 (Xt (inB l no)),.bool (Xk (inB l no)),.slice kp (Zn (inB l no)) kc,.slice vp (Zn (inB l no)) vc] (.t w.heap.size [220,33]) fun W45 u45 k45=>⟨(Zm u45 k28_b2'5 g2 (by decide)),?_⟩
    have k28_b3'5:=u45.blkT ((k28_b3.below (Zb W28)).below hb44) k28_b2'5 (by decide)
    have g3:=n3.ge (bln n1.below n2.below)
    refine ysv (.o [] 5) k28_b3'5 [.slice a5 1 c5,.int .i64 10] (.t w.heap.size [220,33]) fun W46 u46 k46=>⟨(Zm u46 k28_b3'5 g3 (by decide)),?_⟩
    have hB'15:=u46.below (u45.below (bln (bln hB_28 (Zb W28)) hb44) g2) g3
    have hs5'6:=u46.own2 (u45.own2 (Zf hs5 hs44) k28_b2'5 (by decide)) k28_b3'5 (by decide)
    have k45'1:=u46.blkT k45 k28_b3'5 (by decide)
    refine Fw 4 [(b2,[.int .i64 (Xt (inB l no)),.bool (Xk (inB l no)),.slice kp (Zn (inB l no)) kc,.slice vp (Zn (inB l no)) vc]),(b3,[.slice a5 1 c5,.int .i64 10])] ⟨⟨_,k45'1⟩,⟨_,k46⟩,trivial⟩ (.tuple #[.agg #[.int .i64 (Xt (inB l no)),.bool (Xk (inB l no)),.slice kp (Zn (inB l no)) kc,.slice vp (Zn (inB l no)) vc],.agg #[.slice a5 1 c5,.int .i64 10]]) ?_
    have he:(Zw l way no tree lo hi deep)=10:=by unfold Zw;rw[if_neg (by rw[hh];decide),if_neg (by omega),if_neg (by rw[hne];decide),if_neg (by have:=Uv hne hr (fun j hj=>hall j (by omega));unfold Xu at this;rw[this];decide),if_pos ⟨by assumption,by omega,by omega⟩]
    exact .inl ⟨by rw[he];decide,_,_,_,_,_,_,_,_,_,_,by rw[he],hB'15,hs5'6⟩
   refine xlv 4 k28_b24.rp ?_
   refine xsv 1 k28_b2 [.int .i64 (Xt (inB l no)),.bool (Xk (inB l no)),.slice kp (Zn (inB l no)) kc,.slice vp (Zn (inB l no)) vc] fun W47 u47 k47=>?_
   have g2:=n2.ge n1.below
   have k28_b3'6:=u47.blkT k28_b3 k28_b2 (by decide)
   refine xsv 0 k28_b3'6 [.slice none 0 0,.int .i64 0] fun W48 u48 k48=>?_
   have g3:=n3.ge (bln n1.below n2.below)
   have hB'16:=u48.below (u47.below hB_28 g2) g3
   have hk'4:=u48.own2 (u47.own2 hk k28_b2 (by decide)) k28_b3'6 (by decide)
   have hv_'3:=u48.own2 (u47.own2 hv_ k28_b2 (by decide)) k28_b3'6 (by decide)
   have k47'1:=u48.blkT k47 k28_b3'6 (by decide)
   refine Fw 3 [(b2,[.int .i64 (Xt (inB l no)),.bool (Xk (inB l no)),.slice kp (Zn (inB l no)) kc,.slice vp (Zn (inB l no)) vc]),(b3,[.slice none 0 0,.int .i64 0])] ⟨⟨_,k47'1⟩,⟨_,k48⟩,trivial⟩ (.tuple #[.agg #[.int .i64 (Xt (inB l no)),.bool (Xk (inB l no)),.slice kp (Zn (inB l no)) kc,.slice vp (Zn (inB l no)) vc],.agg #[.slice none 0 0,.int .i64 0]]) ?_
   have he:(Zw l way no tree lo hi deep)=0:=by unfold Zw;rw[if_neg (by rw[hh];decide),if_neg (by omega),if_neg (by rw[hne];decide),if_neg (by have:=Uv hne hr (fun j hj=>hall j (by omega));unfold Xu at this;rw[this];decide),if_neg];rintro⟨q1,q2,q3⟩;omega
   exact .inr ⟨he,_,_,_,_,rfl,hB'16,hk'4,hv_'3⟩
  have hc39:=Xq hc39
  refine xlv 14 k28_b24.rp ?_
  refine xsv 1 k28_b2 [.int .i64 (Xt (inB l no)),.bool (Xk (inB l no)),.slice kp (Zn (inB l no)) kc,.slice vp (Zn (inB l no)) vc] fun W49 u49 k49=>?_
  have g2:=n2.ge n1.below
  have k28_b3'7:=u49.blkT k28_b3 k28_b2 (by decide)
  refine xsv 0 k28_b3'7 [.slice none 0 0,.int .i64 0] fun W50 u50 k50=>?_
  have g3:=n3.ge (bln n1.below n2.below)
  have hB'17:=u50.below (u49.below hB_28 g2) g3
  have hk'5:=u50.own2 (u49.own2 hk k28_b2 (by decide)) k28_b3'7 (by decide)
  have hv_'4:=u50.own2 (u49.own2 hv_ k28_b2 (by decide)) k28_b3'7 (by decide)
  have k49'1:=u50.blkT k49 k28_b3'7 (by decide)
  refine Fw 3 [(b2,[.int .i64 (Xt (inB l no)),.bool (Xk (inB l no)),.slice kp (Zn (inB l no)) kc,.slice vp (Zn (inB l no)) vc]),(b3,[.slice none 0 0,.int .i64 0])] ⟨⟨_,k49'1⟩,⟨_,k50⟩,trivial⟩ (.tuple #[.agg #[.int .i64 (Xt (inB l no)),.bool (Xk (inB l no)),.slice kp (Zn (inB l no)) kc,.slice vp (Zn (inB l no)) vc],.agg #[.slice none 0 0,.int .i64 0]]) ?_
  have he:(Zw l way no tree lo hi deep)=0:=by unfold Zw;rw[if_neg (by rw[hh];decide),if_neg (by omega),if_neg (by rw[hne];decide),if_neg (by have:=Uv hne hr (fun j hj=>hall j (by omega));unfold Xu at this;rw[this];decide),if_neg];rintro⟨q1,q2,q3⟩;omega
  exact .inr ⟨he,_,_,_,_,rfl,hB'17,hk'5,hv_'4⟩
 refine xlv 18 k28_b24.rp ?_
 refine xsv 1 k28_b2 [.int .i64 (Xt (inB l no)),.bool (Xk (inB l no)),.slice kp (Zn (inB l no)) kc,.slice vp (Zn (inB l no)) vc] fun W51 u51 k51=>?_
 have g2:=n2.ge n1.below
 have k28_b3'8:=u51.blkT k28_b3 k28_b2 (by decide)
 refine xsv 0 k28_b3'8 [.slice none 0 0,.int .i64 0] fun W52 u52 k52=>?_
 have g3:=n3.ge (bln n1.below n2.below)
 have hB'18:=u52.below (u51.below hB_28 g2) g3
 have hk'6:=u52.own2 (u51.own2 hk k28_b2 (by decide)) k28_b3'8 (by decide)
 have hv_'5:=u52.own2 (u51.own2 hv_ k28_b2 (by decide)) k28_b3'8 (by decide)
 have k51'1:=u52.blkT k51 k28_b3'8 (by decide)
 refine Fw 3 [(b2,[.int .i64 (Xt (inB l no)),.bool (Xk (inB l no)),.slice kp (Zn (inB l no)) kc,.slice vp (Zn (inB l no)) vc]),(b3,[.slice none 0 0,.int .i64 0])] ⟨⟨_,k51'1⟩,⟨_,k52⟩,trivial⟩ (.tuple #[.agg #[.int .i64 (Xt (inB l no)),.bool (Xk (inB l no)),.slice kp (Zn (inB l no)) kc,.slice vp (Zn (inB l no)) vc],.agg #[.slice none 0 0,.int .i64 0]]) ?_
 have he:(Zw l way no tree lo hi deep)=0:=by unfold Zw;rw[if_neg (by rw[hh];decide),if_neg (by omega),if_neg (by rw[hne];decide),if_neg (by have:=Uv hne hr (fun j hj=>hall j (by omega));unfold Xu at this;rw[this];decide),if_neg];rintro⟨q1,q2,q3⟩;exact absurd q1 (by simp_all)
 exact .inr ⟨he,_,_,_,_,rfl,hB'18,hk'6,hv_'5⟩
theorem Zgh(w:World) :
 Calls Tryz.prog 66 #[] w (Vx (fun w' r=>∃ b,r=.slice (some ⟨b,0,none⟩) 1 1∧w.heap.size≤b∧Blk w' b [.int .i64 4,.int .i64 1,.int .i64 14399] 223) w):=by
 refine zin 3 Tryz.func66 ?_
 refine xbs 8 1 [.int .i64 4,.int .i64 1,.int .i64 14399] 223 fun b1 W1 n1=>?_
 have g1:=n1.ge (Below.refl w.heap.size _)
 exact xe 4 (.slice (some ⟨b1,0,none⟩) 1 1) ⟨_,rfl,n1.below,_,rfl,g1,n1.blk⟩
theorem Zfp(gl gn:Nat)(n:Int)(h1:1≤n)(h2:n≤14399)(w:World)(hl:Blk w gl [.int .i64 4,.int .i64 1,.int .i64 14399] 223)(hn:Blk w gn [.int .i64 n] 3) :
 Calls Tryz.prog 64 #[.slice (some ⟨gl,0,none⟩) 1 1,.slice (some ⟨gn,0,none⟩) 1 1] w (Ret (.string ⟨(leB n 4).toArray⟩) w):=by
 have hlo:=h1
 have hhi:=h2
 clear h2
 refine zin 51 Tryz.func64 ?_
 refine xu 19 2 ?_
 refine xlv 15 hl.rp ?_
 refine xa 0 [.int .i64 0,.int .i64 0,.int .i64 0] 223 fun b1 W1 n1=>?_
 have d1_gl:=n1.ne hl
 refine xsv 1 n1.blk [.int .i64 4,.int .i64 1,.int .i64 14399] fun W2 u2 k2=>?_
 have g1:=n1.ge (Below.refl w.heap.size _)
 refine xd 4 .z ?_
 have hn'1:=(u2.blkT (hn.below n1.below) n1.blk (by decide)).below (Zb W2)
 refine xb (.e [0,1,2] 3) 0 hn'1 ?_
 have k2'1:=k2.below (Zb W2)
 refine xb (.e [4] 5) 1 k2'1 ?_
 refine xgk (.b [6,7]) [23,24] (show(decide (n<(1:Int)):Bool)=false from decide_eq_false (by omega)) ?_
 refine xb (.e [8,9,10] 11) 0 hn'1 ?_
 refine xb (.e [12] 13) 2 k2'1 ?_
 refine xk (.r [14,15] 2) (show(decide (n>(14399:Int)):Bool)=false from decide_eq_false (by omega)) ?_
 refine xd 3 .z ?_
 have k2'2:=k2'1.below (Zb W2.drew)
 refine xb (.e [0] 1) 0 k2'2 ?_
 have hn'2:=hn'1.below (Zb W2.drew)
 refine xb (.e [2,3,4] 5) 0 hn'2 ?_
 refine xbs (.o [6] 7) 1 [.int .i64 4,.int .i64 n] 226 fun b4 W4 n4=>?_
 refine yc (.o [] 8) (args:=#[.slice (some ⟨b4,0,none⟩) 1 1]) .z (Pack_4 b4 n (by omega) (by omega) _ n4.blk) ?_
 rintro _ W5 ⟨_,rfl,hb5,p2,c2,rfl,h2⟩
 have hs5:=(bln (bln (bln (u2.below n1.below g1) (Zb W2)) (Zb W2.drew)) n4.below).size
 refine⟨hb5,?_⟩
 have o6:=World.ownsRow_nil W5 w.heap.size 5 1
 have h2'1:=Zf h2 hs5
 have hB:=bln (bln (bln (bln (u2.below n1.below g1) (Zb W2)) (Zb W2.drew)) n4.below) hb5
 refine xbi (.r [9,10,11,12,13] 5) fun _ _ _ _ zJ zQ zo zx zy zK=>Zt (m:=4) (news:=(leB n 4).map bv) (.int .u8 0) 1 1 (4) ((leB n 4).map bv) zo Tryz.underlying22 (by kernel_rfl) rfl (by decide) zx o6 zy (Zg h2'1) (by simp[Zu]) (Ks _) (by unfold maxLen;omega) (by omega) hB.size (by rfl) (by simp) fun px7 cx7 W7 o7 hg7 hb7=>?_
 refine zK _ _ ?_
 refine xcv0 24 (fun _ _ _ zo zx=>Jh zo zx (Jv (Zg o7) (Zu _ _)) (Zu _ _) Tryz.underlying22 Tryz.underlying5 Tryz.underlying9) ?_
 have hB'1:=hB.trans hb7
 exact xe 4 (.string ⟨(leB n 4).toArray⟩) ⟨rfl,hB'1⟩
theorem Rx(n:Int)(h1:1≤n)(h2:n≤14399)(w:World) :
 Calls Tryz.prog 28 #[.int .i64 n] w (Ret (.string ⟨(leB n 4).toArray⟩) w):=by
 refine zin 7 Tryz.func28 ?_
 refine xc 7 (args:=#[]) (Zgh _) ?_
 rintro _ W1 ⟨_,rfl,hb1,gl,rfl,gg,kl⟩
 refine xbs 1 1 [.int .i64 n] 3 fun b2 W2 n2=>?_
 have kl'1:=kl.below n2.below
 refine xr 0 (args:=#[.slice (some ⟨gl,0,none⟩) 1 1,.slice (some ⟨b2,0,none⟩) 1 1]) (Zfp gl b2 n h1 h2 _ kl'1 n2.blk) fun W3 hb3=>?_
 have hB:=bln (bln hb1 n2.below) hb3
 exact xe 4 (.string ⟨(leB n 4).toArray⟩) ⟨rfl,hB⟩
theorem Sts.cut{α:Type}{f:α→List Value}{m:Nat}{w:World}{b:Option Addr}{c:Nat}{l:List α}(hm:∀ x,(f x).length=m)(h:Sts f w (.slice b l.length c) l)(k:Nat)(hk:k≤l.length):Sts f w (.slice (Vd b k c m) (l.drop k).length (c-k)) (l.drop k):=by
 have hlen:(l.drop k).length=l.length-k:=by simp
 have hcap:=Sl.cap h
 by_cases hkn:k=l.length
 ·refine .inl ⟨Vd b k c m,c-k,by rw[show(l.drop k).length=0 by omega],by omega,?_⟩
  rw[List.drop_eq_nil_of_le (by omega)];rfl
 rcases h with ⟨a',c',h1,h2,h3⟩|⟨g,off,cap,h1,h2,h3,h4⟩
 ·omega
 ·simp only[Value.slice.injEq] at h1
  obtain⟨rfl,_,rfl⟩:=h1
  refine .inr ⟨g,off+k*m,c-k,?_,by omega,by omega,fun j x hj=>?_⟩
  ·rw[Vd,if_neg (by omega)];simp[Addr.add]
  ·have hfl:(l.drop k).flatMap f=(l.flatMap f).drop (k*m):=by
    conv=>rhs;rw[←List.take_append_drop k l,List.flatMap_append]
    rw[List.drop_left' (by rw[Ht hm,List.length_take,Nat.min_eq_left hk])]
   rw[hfl,List.getElem?_drop] at hj
   have:=h4 _ _ hj
   rwa [←Nat.add_assoc] at this
theorem Al.only{B ba b g n c:Nat}{pa:Option Addr}{ca f N k:Nat}{l:List UInt8}{w W:World}{T:List TypeId}(h:Al B ba b g n c pa ca f N k l w)(hO:Ze T w W)(hT:(T.contains 153||T.contains 103||T.contains 5||T.contains 3)=false):Al B ba b g n c pa ca f N k l W:=by
 simp only[Bool.or_eq_false_iff] at hT
 exact⟨h.blkA.only hO hT.1.1.1,h.blkI.only hO hT.1.1.2,Zl h.data hO hT.1.2,Zl h.nums hO hT.2⟩
def Xd(l:List Ent)(m i:Nat):List Ent:=(l.drop (i*m)).take m
def Qu(c:List Ent):List Int:=c.map (·.1)
def Kw(c:List Ent):List (List UInt8):=c.map (·.2.1)
def nodB(t:Int)(leaf:Bool)(m v:Nat)(c:List Ent):List UInt8:=Hv m v (Kx t leaf c.length m v) (Qu c) (Kw c) c.length
def Wz(t:Int)(leaf:Bool)(m v:Nat)(l:List Ent)(q:Nat)(bs:List UInt8):Nat→List UInt8
 | 0=>bs
 | i+1=>Kr (Wz t leaf m v l q bs i) ((q+i)*256) (Qz 2 ((q+i:Nat):Int) (nodB t leaf m v (Xd l m i)))
def upX (l:List Ent)(m q i:Nat):Ent:=(((Xd l m i).getD 0 Zi).1,leB ((q+i:Nat):Int) 4,((q+i:Nat):Int))
def upE (l:List Ent)(m q j:Nat):List Ent:=(List.range j).map (upX l m q)
theorem upE_succ(l:List Ent)(m q j:Nat):upE l m q (j+1)=upE l m q j++[upX l m q j]:=by simp[upE,List.range_succ]
theorem Xr(l:List Ent)(m q j:Nat):(upE l m q j).length=j:=by simp[upE]
theorem Js{l:List Ent}{m q j i:Nat}(h:i<j):(upE l m q j).getD i Zi=upX l m q i:=by simp[upE,List.getD,List.getElem?_range h]
theorem Jk(l:List Ent)(m i:Nat):(Xd l m i).length=Yx l.length m i:=by simp[Xd,Yx]
theorem Jq{l:List Ent}{m i j:Nat}(h:j<Yx l.length m i):(Xd l m i).getD j Zi=l.getD (i*m+j) Zi:=by
 unfold Yx at h
 simp[Xd,List.getD,List.getElem?_take_of_lt (show j<m by omega),List.getElem?_drop]
theorem Fk{c:List Ent}{j:Nat}(h:j<c.length):(Qu c).getD j 0=(c.getD j Zi).1:=by simp[Qu,List.getD,h]
theorem Zae{c:List Ent}{j:Nat}(h:j<c.length):(Kw c).getD j []=(c.getD j Zi).2.1:=by simp[Kw,List.getD,h]
theorem Wi(c:List Ent):(Qu c).length=c.length:=by simp[Qu]
theorem Fb(c:List Ent):(Kw c).length=c.length:=by simp[Kw]
theorem Zcn{n m i:Nat}(hm:1≤m)(hn:1≤n)(h:i<ovN n m):i*m<n:=by
 unfold ovN at h
 rcases Nat.eq_zero_or_pos i with rfl|hi
 ·omega
 have h2:i<(n+m-1)/m:=by omega
 have h3:=(Nat.lt_div_iff_mul_lt (by omega)).1 h2
 omega
theorem Wm{t:Int}{leaf:Bool}{m v:Nat}{l:List Ent}(E:EntsOk v l)(h1:1≤t)(h2:t≤5)(hm:Vy t leaf=m)(hv:Gv t leaf=v)(hl:leaf=false→1≤l.length){i:Nat}(hi:i<ovN l.length m):NodeOk t leaf (Xd l m i).length m v (Qu (Xd l m i)) (Kw (Xd l m i)):=by
 have hm1:=(Yv t leaf).1
 rw[hm] at hm1
 have hlen:=Jk l m i
 have hile:=Ii hm1 hi
 have hle:(Xd l m i).length≤l.length-i*m:=by rw[hlen];unfold Yx;omega
 have key:∀ j,j<(Xd l m i).length→i*m+j<l.length∧(Qu (Xd l m i)).getD j 0=(l.getD (i*m+j) Zi).1∧(Kw (Xd l m i)).getD j []=(l.getD (i*m+j) Zi).2.1:=fun j hj=>by
  refine⟨by omega,?_,?_⟩
  ·rw[Fk hj,Jq (by omega)]
  ·rw[Zae hj,Jq (by omega)]
 refine⟨h1,h2,hm,hv,Wi _,Fb _,by rw[hlen];unfold Yx;omega,fun h=>?_,fun j hj=>?_,fun j hj=>?_,fun j hj=>?_⟩
 ·have:=Zcn hm1 (hl h) hi
  rw[hlen];unfold Yx;omega
 ·obtain⟨a1,a2,_⟩:=key j hj
  rw[a2];exact E.hk _ a1
 ·obtain⟨a1,a2,_⟩:=key j (by omega)
  obtain⟨b1,b2,_⟩:=key (j+1) hj
  rw[a2,b2];exact E.hs _ (by omega)
 ·obtain⟨a1,_,a3⟩:=key j hj
  rw[a3];exact E.hw _ a1
theorem Ck{t:Int}{leaf:Bool}{m v:Nat}{c:List Ent}(N:NodeOk t leaf c.length m v (Qu c) (Kw c)):(nodB t leaf m v c).length=244:=by
 have hf:=fitN t leaf
 rw[N.hm,N.hv] at hf
 exact Eh (Km _ _ _ _ _) hf N.hn (fun j hj=>N.hw j hj)
theorem Zc8{w:World}{b:Option Addr}{n m c:Nat}(h:Sl w (.slice b (ovN n m) c) (ovN n m) ((sizL n m).map nv)){k:Nat}(hk:k<ovN n m):b.isSome=true∧w.cell? (Xi b (k*1))=some (.int .i64 ((Yx n m k:Nat):Int)):=by
 have:=Zo h (sizL_len n m) hk
 rwa [show(sizL n m).getD k 0=Yx n m k from by simp[sizL,List.getD,List.getElem?_range hk]] at this
theorem Zgt{l:List Ent}{j:Nat}(h:j<l.length):((Qu l).take (j+1)).map (Value.int .i64)=((Qu l).take j).map (Value.int .i64)++[.int .i64 (l.getD j Zi).1]:=by
 rw[List.take_succ_eq_append_getElem (by rw[Wi];exact h)]
 simp[Qu,List.getD,h]
theorem vals_take{l:List Ent}{j:Nat}(h:j<l.length):((Kw l).take (j+1)).map sv=((Kw l).take j).map sv++[.string ⟨(l.getD j Zi).2.1.toArray⟩]:=by
 rw[List.take_succ_eq_append_getElem (by rw[Fb];exact h)]
 simp[Kw,List.getD,h,sv]
theorem Zdz{l:List Ent}{m i s:Nat}(hs:Yx l.length m i=s):(Qu (l.drop (i*m))).take s=Qu (Xd l m i):=by
 subst hs
 unfold Qu Xd Yx
 rw[←List.map_take]
 congr 1
 rw[List.take_eq_take_iff];simp
theorem Zex{l:List Ent}{m i s:Nat}(hs:Yx l.length m i=s):(Kw (l.drop (i*m))).take s=Kw (Xd l m i):=by
 subst hs
 unfold Kw Xd Yx
 rw[←List.map_take]
 congr 1
 rw[List.take_eq_take_iff];simp
theorem EntsOk.mono{v:Nat}{l:List Ent}(E:EntsOk v l):∀ {a b:Nat},a<b→b<l.length→(l.getD a Zi).1<(l.getD b Zi).1:=by
 intro a b h hb
 induction b with
 | zero=>omega
 | succ b ih =>
  have h1:=E.hs b (by omega)
  rcases Nat.lt_or_ge a b with h2|h2
  ·have:=ih h2 (by omega);omega
  ·obtain rfl:a=b:=by omega
   exact h1
theorem Ic{v:Nat}{l:List Ent}{m:Nat}(hm:1≤m)(hl:1≤l.length){i q:Nat}(hi:i<ovN l.length m):(upX l m q i).1=(l.getD (i*m) Zi).1∧i*m<l.length:=by
 have h:=Zcn hm hl hi
 refine⟨?_,h⟩
 unfold upX
 rw[Jq (by unfold Yx;omega)];rfl
theorem Cd{v:Nat}{l:List Ent}(E:EntsOk v l){m q:Nat}(hm:1≤m):EntsOk 4 (upE l m q (ovN l.length m)):=by
 rcases Nat.eq_zero_or_pos l.length with h0|hl
 ·have h1:ovN l.length m=1:=by
   rw[h0];unfold ovN
   have:(0+m-1)/m=0:=Nat.div_eq_of_lt (by omega)
   omega
  have hnil:l=[]:=List.eq_nil_of_length_eq_zero h0
  subst hnil
  constructor
  ·intro i hi;rw[Xr,h1] at hi;rw[Js (by omega)];simp[upX,Xd,Zi]
  ·intro j hj;rw[Xr,h1] at hj;omega
  ·intro i hi;rw[Xr,h1] at hi;rw[Js (by omega)];simp[upX,Zu]
 constructor
 ·intro i hi
  rw[Xr] at hi
  obtain⟨h1,h2⟩:=Ic (v:=v) (q:=q) hm hl hi
  rw[Js hi,h1];exact E.hk _ h2
 ·intro j hj
  rw[Xr] at hj
  obtain⟨h1,h2⟩:=Ic (v:=v) (q:=q) hm hl hj
  obtain⟨h3,h4⟩:=Ic (v:=v) (q:=q) hm hl (show j<ovN l.length m by omega)
  rw[Js hj,Js (by omega),h1,h3]
  refine E.mono ?_ h2
  rw[Nat.add_mul];omega
 ·intro i hi
  rw[Xr] at hi
  rw[Js hi];simp[upX,Zu]
def Va(t:Int)(u:List Ent)(q:Nat)(bs:List UInt8):Int×List UInt8 :=
 if h:u.length≤1 then((u.getD 0 Zi).2.2,bs)
 else Va t (upE u 18 q (ovN u.length 18)) (q+ovN u.length 18) (Wz t false 18 4 u q bs (ovN u.length 18))
termination_by u.length
decreasing_by rw[Xr];have:=ov18 (x:=u.length) (by omega);omega
theorem Kg{t:Int}{u:List Ent}{q:Nat}{bs:List UInt8}(h:u.length≤1):Va t u q bs=((u.getD 0 Zi).2.2,bs):=by rw[Va];simp[h]
theorem Qr{t:Int}{u:List Ent}{q:Nat}{bs:List UInt8}(h:¬ u.length≤1):Va t u q bs=Va t (upE u 18 q (ovN u.length 18)) (q+ovN u.length 18) (Wz t false 18 4 u q bs (ovN u.length 18)):=by rw[Va];simp[h]
def Yp(t:Int)(l:List Ent)(q:Nat)(bs:List UInt8):Int×List UInt8 :=
 Va t (upE l (Vy t true) q (ovN l.length (Vy t true))) (q+ovN l.length (Vy t true)) (Wz t true (Vy t true) (Gv t true) l q bs (ovN l.length (Vy t true)))
theorem Zb0{t:Int}{u:List Ent}{q:Nat}{bs:List UInt8}(h1:1≤u.length)(hu:(u.getD (u.length-1) Zi).2.2=((q-1:Nat):Int))(hq:1≤q):(Va t u q bs).1=((q-1+((Hu u.length).sum-u.length):Nat):Int):=by
 induction hx:u.length using Nat.strongRecOn generalizing u q bs with
 | _ x ih =>
  subst hx
  by_cases h:u.length≤1
  ·rw[Kg h,Jg h]
   rw[show u.length-1=0 by omega] at hu
   show(u.getD 0 Zi).2.2=_
   rw[hu];simp
  ·have h18:=ov18 (x:=u.length) (by omega)
   have hp:=Qd u.length 18
   rw[Qr h,ih (ovN u.length 18) (by omega) (u:=upE u 18 q (ovN u.length 18)) (q:=q+ovN u.length 18) (by rw[Xr];exact hp) ?_ (by omega) (Xr _ _ _ _),Vg h]
   ·have hge:=Je (ovN u.length 18)
    simp only[List.sum_cons]
    congr 1
    omega
   ·rw[Xr,Js (by omega)]
    simp only[upX]
    congr 1
    omega
def LaidQ(B ba b g n c:Nat)(pa:Option Addr)(ca f N k:Nat)(l:List UInt8)(kind:Int)(li:List UInt8)(q:Nat)(w:World)(e:Ending)(w':World):Prop :=
 e=.returned (.tuple #[.int .i64 (q:Int),.nilIface])∧Below B w w'∧Ze [153,5] w w'∧Fr [ba,g] w w'∧Al B ba b g n c pa ca f N (k+1) (Kr l (q*256) (Qz kind (q:Int) li)) w'
theorem Zf1(B ba b g n c:Nat)(p:Option Addr)(ca f N k:Nat)(l:List UInt8)(kind:Int)(a:Option Addr)(ci:Nat)(li:List UInt8)(q n':Nat)(w:World)(hq:f+k=q)(hn':li.length=n')(hC:AlC B ba n c ca f N)(hA:Al B ba b g n c p ca f N k l w)(hkN:k<N)(h1:1≤kind)(h2:kind≤4)(hin:∀ W,Below B w W→Ze [153] w W→Bys W (.slice a n' ci) li)(hl:n'≤244)(hBw:B≤w.heap.size) :
 Calls Tryz.prog 92 #[.pointer (some ⟨ba,0,none⟩),.int .i64 kind,.slice a n' ci] w (LaidQ B ba b g n c p ca f N k l kind li q w):=by
 subst hq hn';exact Zg6 B ba b g n c p ca f N k l kind a ci li w hC hA hkN h1 h2 hin hl hBw
theorem up_row{l:List Ent}{m q i:Nat}{key:Int}(hk:key=((Xd l m i).getD 0 Zi).1):(upE l m q i).flatMap Ky++[.int .i64 key,.string ⟨(leB ((q+i:Nat):Int) 4).toArray⟩,.int .i64 ((q+i:Nat):Int)]=(upE l m q (i+1)).flatMap Ky:=by
 subst hk;rw[upE_succ];simp[Ky,upX]
theorem chunk_key{l:List Ent}{m i j:Nat}(hs:Yx l.length m i=j)(hj:0<j):((Qu (Xd l m i))).getD 0 0=((Xd l m i).getD 0 Zi).1:=Fk (by rw[Jk];omega)
theorem Zat{l:List Ent}{m i j:Nat}(hs:Yx l.length m i=j)(hj:j=0):(0:Int)=((Xd l m i).getD 0 Zi).1:=by
 have:Xd l m i=[]:=List.eq_nil_of_length_eq_zero (by rw[Jk];omega)
 rw[this];rfl
end Go.Proofs.YtlmaglneeaecdaaGreatDoor
