/- (*walker).look. -/
import Derived.StillTailTactics
import Derived.Test.YtgphgaehfdfjjaaGreatDoorMg3
namespace Go.Proofs.YtgphgaehfdfjjaaGreatDoor
set_option maxHeartbeats 8000000
set_option maxRecDepth 100000
open Go.RowKit Go.Extern.Stop Go.Stop Go.Extern
set_option linter.unusedVariables false
attribute [local irreducible] wpList wpAnyH Code.wp Oper.wp Go
def Zy(l:Bl)(way:List Int)(no tree lo hi deep:Int):Int :=
 if Vf way no=true then 11 else if 16≤way.length then 10 else if Xd l no tree≠0 then Xd l no tree else if Yt lo hi (Yx (inB l no) (Zp (inB l no)))≠0 then 9 else
  if Xm (inB l no)=true∧deep≠0∧deep≠((way.length+1:Nat):Int) then 10 else 0
def LookP(B bw:Nat)(cs:List Value)(l:Bl)(way:List Int)(no tree lo hi deep:Int)(w:World)(e:Ending)(w':World):Prop :=
 Below B w w'∧Zf [301] w w'∧Blk w' bw cs 301 ∧
 ((Zy l way no tree lo hi deep≠0∧∃ a4 b4 k4 n4 c4 v4 m4 d4 ty x,e=.returned (.tuple #[.agg #[V0 a4,.bool b4,.slice k4 n4 c4,.slice v4 m4 d4],.iface ty x])∧Vw w' [some no] (some (Zy l way no tree lo hi deep)) (.iface ty x)) ∨
  (Zy l way no tree lo hi deep=0∧Xd l no tree=0∧∃ kp kc vp vc,e=.returned (.tuple #[.agg #[V0 (Xw (inB l no)),.bool (Xm (inB l no)),.slice kp (Zp (inB l no)) kc,.slice vp (Zp (inB l no)) vc],.nilIface]) ∧
   w'.ownsRow w.heap.size 3 1 (.slice kp (Zp (inB l no)) kc) (Zp (inB l no)) ((Yx (inB l no) (Zp (inB l no))).map V0)∧w'.ownsRow w.heap.size 9 1 (.slice vp (Zp (inB l no)) vc) (Zp (inB l no)) ((Ky (inB l no) (Zp (inB l no))).map sv)))
theorem Pe{w:World}{v:Value}{n:Nat}{l:List Int}(h:Sl w v n (l.map V0))(hl:l.length=n):Ints w v l:=by subst hl;exact h
theorem Zdb(B Bi b bw:Nat)(p:O0)(n c:Nat)(l:Bl)(c0 c1 c4 c7 c9:Value)(pw:O0)(cw:Nat)(way:List Int)(no tree lo hi deep looked:Int)(w:World)(hBb:B≤bw)(hBw:B≤w.heap.size)(kW:Blk w bw [c0,c1,V0 deep,V0 looked,c4,P0 b,V0 tree,c7,.slice pw way.length cw,c9] 301)(hway:w.ownsRow B 3 1 (.slice pw way.length cw) way.length (way.map V0))(hI:ImgR Bi b p n c l w)(hwl:way.length≤1000000)(hl0:0≤looked)(hl1:looked<9223372036854775807) :
 C0 197 #[P0 bw,V0 no,.agg #[V0 lo,V0 hi]] w (LookP B bw [c0,c1,V0 deep,V0 (looked+1),c4,P0 b,V0 tree,c7,.slice pw way.length cw,c9] l way no tree lo hi deep w):=by
 refine zin 97 Tryz.func197 ?_
 refine xa 2 [V0 lo,V0 hi] 304 fun b1 W1 n1=>?_
 refine xa 0 [V0 0,.bool false,S0,S0] 38 fun b2 W2 n2=>?_
 have a3:=(kW.below n1.below).below n2.below
 refine xb 9 3 a3 ?_
 refine xw 0 (looked+1) ?_
 refine xs 3 a3 [c0,c1,V0 deep,V0 (looked+1),c4,P0 b,V0 tree,c7,.slice pw way.length cw,c9] fun W3 u3 k3=>?_
 refine xb 8 8 k3 ?_
 have h2:=u3.own2 (Zb (Zb hway n1.below) n2.below) a3 (by decide)
 refine xr 1 (args:=#[.slice pw way.length cw,V0 no]) (containsI pw cw way no _ (Zh h2) hwl) fun W4 b0=>?_
 refine xi 2 (Vf way no) (fun t3=>?_) (fun t3=>?_)
 ·refine xc 5 (args:=#[V0 no,.iface 33 (V0 11)]) (Qx no (some 11) [] _ _ rfl) ?_
  rintro _ W6 ⟨r6,rfl,o3,p8⟩
  rw[Vt] at p8
  obtain⟨t6,x6,rfl⟩:=p8.iface
  have k2:=((u3.blkT n2.blk a3 (by decide)).below b0).below o3
  refine xsv 0 k2 [V0 0,.bool false,S0,S0] fun W7 u7 k7=>?_
  have g2:=n2.ge0 (blB (Below.refl B w) hBw n1.below)
  have hB:=u7.below (blB (blB (u3.below (blB (blB (Below.refl B w) hBw n1.below) hBw n2.below) hBb) hBw b0) hBw o3) (Nat.le_trans hBw g2)
  have hO:=(Zf.upd_new (((((show Zf [301] w _ from(Zf.of_below n1.below)).trans (Zf.of_below n2.below)).trans (Zf.of_upd u3 a3 (by decide))).trans (Zf.of_below b0)).trans (Zf.of_below o3)) u7 g2)
  have r7:=u7.blkT ((k3.below b0).below o3) k2 (by decide)
  have m4:=p8.upd u7 k2 (by decide)
  exact xec 5 k7 (.tuple #[.agg #[V0 0,.bool false,S0,S0],.iface t6 (x6)]) ⟨hB,hO,r7,.inl ⟨by(unfold Zy;(repeat' split)<;>first|rfl|assumption|decide|omega|exact absurd (Eq.trans (Eq.symm ‹Vf _ _=true›) ‹Vf _ _=false›) (by decide)|(rename_i q;exact absurd ⟨by assumption,by assumption,by assumption⟩ q)|(rename_i q;obtain⟨q1,q2,q3⟩:=q;exact absurd (Eq.trans (Eq.symm q1) ‹Xm _=false›) (by decide))|(rename_i q;obtain⟨q1,q2,q3⟩:=q;omega)),_,_,_,_,_,_,_,_,_,_,rfl,by(unfold Zy;(repeat' split)<;>first|exact m4|(exfalso;omega)|contradiction|exact absurd (Eq.trans (Eq.symm ‹Vf _ _=true›) ‹Vf _ _=false›) (by decide)|(rename_i q;exact absurd ⟨by assumption,by assumption,by assumption⟩ q)|(rename_i q;obtain⟨q1,q2,q3⟩:=q;exact absurd (Eq.trans (Eq.symm q1) ‹Xm _=false›) (by decide))|(rename_i q;obtain⟨q1,q2,q3⟩:=q;omega))⟩⟩
 have f9:=k3.below b0
 refine xb 8 8 f9 ?_
 refine xid 4 ((way.length:Int)≥(16:Int)) (fun u5=>?_) (fun u5=>?_)
 ·refine xc 5 (args:=#[V0 no,.iface 33 (V0 10)]) (Qx no (some 10) [] _ _ rfl) ?_
  rintro _ W9 ⟨r9,rfl,o2,q9⟩
  rw[Vt] at q9
  obtain⟨t9,x9,rfl⟩:=q9.iface
  have k2:=((u3.blkT n2.blk a3 (by decide)).below b0).below o2
  refine xsv 0 k2 [V0 0,.bool false,S0,S0] fun x1 o4 w3=>?_
  have g2:=n2.ge0 (blB (Below.refl B w) hBw n1.below)
  have hB:=o4.below (blB (blB (u3.below (blB (blB (Below.refl B w) hBw n1.below) hBw n2.below) hBb) hBw b0) hBw o2) (Nat.le_trans hBw g2)
  have hO:=(Zf.upd_new (((((show Zf [301] w _ from(Zf.of_below n1.below)).trans (Zf.of_below n2.below)).trans (Zf.of_upd u3 a3 (by decide))).trans (Zf.of_below b0)).trans (Zf.of_below o2)) o4 g2)
  have q5:=o4.blkT (f9.below o2) k2 (by decide)
  have k8:=q9.upd o4 k2 (by decide)
  exact xec 5 w3 (.tuple #[.agg #[V0 0,.bool false,S0,S0],.iface t9 (x9)]) ⟨hB,hO,q5,.inl ⟨by(unfold Zy;(repeat' split)<;>first|rfl|assumption|decide|omega|exact absurd (Eq.trans (Eq.symm ‹Vf _ _=true›) ‹Vf _ _=false›) (by decide)|(rename_i q;exact absurd ⟨by assumption,by assumption,by assumption⟩ q)|(rename_i q;obtain⟨q1,q2,q3⟩:=q;exact absurd (Eq.trans (Eq.symm q1) ‹Xm _=false›) (by decide))|(rename_i q;obtain⟨q1,q2,q3⟩:=q;omega)),_,_,_,_,_,_,_,_,_,_,rfl,by(unfold Zy;(repeat' split)<;>first|exact k8|(exfalso;omega)|contradiction|exact absurd (Eq.trans (Eq.symm ‹Vf _ _=true›) ‹Vf _ _=false›) (by decide)|(rename_i q;exact absurd ⟨by assumption,by assumption,by assumption⟩ q)|(rename_i q;obtain⟨q1,q2,q3⟩:=q;exact absurd (Eq.trans (Eq.symm q1) ‹Xm _=false›) (by decide))|(rename_i q;obtain⟨q1,q2,q3⟩:=q;omega))⟩⟩
 refine xd 3 (.t B [38]) ?_
 have b6:=f9.below (Za W4)
 refine xbt (.e [0,1,2] 3) 5 B [38] b6 ?_
 refine xbt (.e [4,5,6,7] 8) 6 B [38] b6 ?_
 refine xm2 0 9 13 ?_ ?_
 ·have p5:=((((hI.below n1.below).below n2.below).only (Zf.of_upd (T:=[301]) u3 a3 (by decide)) (by decide)).below b0).below (Za W4)
  refine yc 0 (args:=#[P0 b,V0 no,V0 tree]) (.t B [38]) (Su Bi b p n c l no tree _ p5) ?_
  rintro e ap o6
  rcases o6 with ⟨he,bf,rfl,a6,hv⟩|⟨he,kp,kc,vp,vc,rfl,a6,hk,h6⟩
  ·refine⟨(SF.of_below _ a6),?_⟩
   refine xa (.o [10,11,12] 13) [V0 0,.bool false,S0,S0] 38 fun x0 x7 e0=>?_
   have k2:=(((u3.blkT n2.blk a3 (by decide)).below b0).below (Za W4)).below a6
   have g7:=e0.ne k2
   have hB:=blB (blB (blB (u3.below (blB (blB (Below.refl B w) hBw n1.below) hBw n2.below) hBb) hBw b0) hBw (Za W4)) hBw a6
   have q7:=e0.ge0 hB
   refine ysv (.o [] 14) e0.blk [V0 0,.bool false,S0,S0] (.t B [38]) fun ai i1 t0=>⟨(Zo i1 e0.blk (Nat.le_trans hBw q7) (by decide)),?_⟩
   refine xlv (.r [15] 14) t0.rp ?_
   have h7:=i1.blk (k2.below e0.below) (Ne.symm (Ne.symm g7))
   refine xsv 1 h7 [V0 0,.bool false,S0,S0] fun x3 n9 u2=>?_
   have g2:=n2.ge0 (blB (Below.refl B w) hBw n1.below)
   have r8:=n9.below (i1.below (blB hB hBw e0.below) (Nat.le_trans hBw q7)) (Nat.le_trans hBw g2)
   have hO:=(Zf.upd_new (Zf.upd_new (((((((show Zf [301] w _ from(Zf.of_below n1.below)).trans (Zf.of_below n2.below)).trans (Zf.of_upd u3 a3 (by decide))).trans (Zf.of_below b0)).trans (Zf.of_below (Za W4))).trans (Zf.of_below a6)).trans (Zf.of_below e0.below)) i1 q7) n9 g2)
   have p3:=n9.blkT (i1.blkT ((b6.below a6).below e0.below) e0.blk (by decide)) h7 (by decide)
   have p9:=((hv.below e0.below).upd i1 e0.blk (by decide)).upd n9 h7 (by decide)
   exact xec 6 u2 (.tuple #[.agg #[V0 0,.bool false,S0,S0],.iface 215 (P0 bf)]) ⟨r8,hO,p3,.inl ⟨by(unfold Zy;(repeat' split)<;>first|rfl|assumption|decide|omega|exact absurd (Eq.trans (Eq.symm ‹Vf _ _=true›) ‹Vf _ _=false›) (by decide)|(rename_i q;exact absurd ⟨by assumption,by assumption,by assumption⟩ q)|(rename_i q;obtain⟨q1,q2,q3⟩:=q;exact absurd (Eq.trans (Eq.symm q1) ‹Xm _=false›) (by decide))|(rename_i q;obtain⟨q1,q2,q3⟩:=q;omega)),_,_,_,_,_,_,_,_,_,_,rfl,by(unfold Zy;(repeat' split)<;>first|exact p9|(exfalso;omega)|contradiction|exact absurd (Eq.trans (Eq.symm ‹Vf _ _=true›) ‹Vf _ _=false›) (by decide)|(rename_i q;exact absurd ⟨by assumption,by assumption,by assumption⟩ q)|(rename_i q;obtain⟨q1,q2,q3⟩:=q;exact absurd (Eq.trans (Eq.symm q1) ‹Xm _=false›) (by decide))|(rename_i q;obtain⟨q1,q2,q3⟩:=q;omega))⟩⟩
  have f1:=(blB (blB (u3.below (blB (blB (Below.refl B w) hBw n1.below) hBw n2.below) hBb) hBw b0) hBw (Za W4)).size
  refine⟨(SF.of_below _ a6),?_⟩
  refine xa (.o [10,11,12] 13) [V0 0,.bool false,S0,S0] 38 fun ao ac a7=>?_
  have k2:=(((u3.blkT n2.blk a3 (by decide)).below b0).below (Za W4)).below a6
  have b4:=a7.ne k2
  have hB:=blB (blB (blB (u3.below (blB (blB (Below.refl B w) hBw n1.below) hBw n2.below) hBb) hBw b0) hBw (Za W4)) hBw a6
  have c6:=a7.ge0 hB
  refine ysv (.o [] 14) a7.blk [V0 (Xw (inB l no)),.bool (Xm (inB l no)),.slice kp (Zp (inB l no)) kc,.slice vp (Zp (inB l no)) vc] (.t B [38]) fun z2 b3 n8=>⟨(Zo b3 a7.blk (Nat.le_trans hBw c6) (by decide)),?_⟩
  have k1:=b3.blkT (((((u3.blkT (n1.blk.below n2.below) a3 (by decide)).below b0).below (Za W4)).below a6).below a7.below) a7.blk (by decide)
  refine xlv (.r [15] 14) k1.rp ?_
  refine xb 1 2 n8 ?_
  have f3:=b3.own2 (Zb (Zg hk f1) a7.below) a7.blk (by decide)
  refine xr 0 (args:=#[.agg #[V0 lo,V0 hi],.slice kp (Zp (inB l no)) kc]) (Fe lo hi _ (Yx (inB l no) (Zp (inB l no))) _ (Pe (Zh f3) (Yv _ _))) fun a5 a1=>?_
  refine xin 4 (Yt lo hi (Yx (inB l no) (Zp (inB l no)))) (0:Int) (fun p4=>?_) (fun p4=>?_)
  ·refine xd 1 (.t B [38]) ?_
   refine xm2 (.b [1,2]) 0 3 ?_ ?_
   ·have m6:=(n8.below a1).below (Za a5)
    refine xlv 0 m6.rp ?_
    refine yc (.o [] 3) (args:=#[V0 no,.iface 33 (V0 9)]) (.t B [38]) (Qx no (some 9) [] _ _ rfl) ?_
    rintro _ z4 ⟨z6,rfl,e2,h4⟩
    refine⟨(SF.of_below _ e2),?_⟩
    rw[Vt] at h4
    obtain⟨v9,u9,rfl⟩:=h4.iface
    have f4:=(((b3.blk (k2.below a7.below) (Ne.symm (Ne.symm b4))).below a1).below (Za a5)).below e2
    have g2:=n2.ge0 (blB (Below.refl B w) hBw n1.below)
    refine ysv (.o [] 4) f4 [V0 (Xw (inB l no)),.bool (Xm (inB l no)),.slice kp (Zp (inB l no)) kc,.slice vp (Zp (inB l no)) vc] (.t B [38]) fun aa j4 t5=>⟨(Zo j4 f4 (Nat.le_trans hBw g2) (by decide)),?_⟩
    have q0:=j4.below (blB (blB (blB (b3.below (blB hB hBw a7.below) (Nat.le_trans hBw c6)) hBw a1) hBw (Za a5)) hBw e2) (Nat.le_trans hBw g2)
    have hO:=(Zf.upd_new ((((Zf.upd_new (((((((show Zf [301] w _ from(Zf.of_below n1.below)).trans (Zf.of_below n2.below)).trans (Zf.of_upd u3 a3 (by decide))).trans (Zf.of_below b0)).trans (Zf.of_below (Za W4))).trans (Zf.of_below a6)).trans (Zf.of_below a7.below)) b3 c6).trans (Zf.of_below a1)).trans (Zf.of_below (Za a5))).trans (Zf.of_below e2)) j4 g2)
    have s0:=j4.blkT ((((b3.blkT ((b6.below a6).below a7.below) a7.blk (by decide)).below a1).below (Za a5)).below e2) f4 (by decide)
    have h9:=h4.upd j4 f4 (by decide)
    exact xec (.r [5] 5) t5 (.tuple #[.agg #[V0 (Xw (inB l no)),.bool (Xm (inB l no)),.slice kp (Zp (inB l no)) kc,.slice vp (Zp (inB l no)) vc],.iface v9 (u9)]) ⟨q0,hO,s0,.inl ⟨by(unfold Zy;(repeat' split)<;>first|rfl|assumption|decide|omega|exact absurd (Eq.trans (Eq.symm ‹Vf _ _=true›) ‹Vf _ _=false›) (by decide)|(rename_i q;exact absurd ⟨by assumption,by assumption,by assumption⟩ q)|(rename_i q;obtain⟨q1,q2,q3⟩:=q;exact absurd (Eq.trans (Eq.symm q1) ‹Xm _=false›) (by decide))|(rename_i q;obtain⟨q1,q2,q3⟩:=q;omega)),_,_,_,_,_,_,_,_,_,_,rfl,by(unfold Zy;(repeat' split)<;>first|exact h9|(exfalso;omega)|contradiction|exact absurd (Eq.trans (Eq.symm ‹Vf _ _=true›) ‹Vf _ _=false›) (by decide)|(rename_i q;exact absurd ⟨by assumption,by assumption,by assumption⟩ q)|(rename_i q;obtain⟨q1,q2,q3⟩:=q;exact absurd (Eq.trans (Eq.symm q1) ‹Xm _=false›) (by decide))|(rename_i q;obtain⟨q1,q2,q3⟩:=q;omega))⟩⟩
   refine yc 0 (args:=#[V0 no,.iface 33 (V0 9)]) (.t B [38]) (Qx no (some 9) [] _ _ rfl) ?_
   rintro _ ak ⟨z8,rfl,d6,f8⟩
   refine⟨(SF.of_below _ d6),?_⟩
   rw[Vt] at f8
   obtain⟨v7,s8,rfl⟩:=f8.iface
   have l0:=((n8.below a1).below (Za a5)).below d6
   refine xlv (.o [] 0) l0.rp ?_
   have f0:=(((b3.blk (k2.below a7.below) (Ne.symm (Ne.symm b4))).below a1).below (Za a5)).below d6
   have g2:=n2.ge0 (blB (Below.refl B w) hBw n1.below)
   refine ysv (.o [] 4) f0 [V0 (Xw (inB l no)),.bool (Xm (inB l no)),.slice kp (Zp (inB l no)) kc,.slice vp (Zp (inB l no)) vc] (.t B [38]) fun ae i7 w6=>⟨(Zo i7 f0 (Nat.le_trans hBw g2) (by decide)),?_⟩
   have p6:=i7.below (blB (blB (blB (b3.below (blB hB hBw a7.below) (Nat.le_trans hBw c6)) hBw a1) hBw (Za a5)) hBw d6) (Nat.le_trans hBw g2)
   have hO:=(Zf.upd_new ((((Zf.upd_new (((((((show Zf [301] w _ from(Zf.of_below n1.below)).trans (Zf.of_below n2.below)).trans (Zf.of_upd u3 a3 (by decide))).trans (Zf.of_below b0)).trans (Zf.of_below (Za W4))).trans (Zf.of_below a6)).trans (Zf.of_below a7.below)) b3 c6).trans (Zf.of_below a1)).trans (Zf.of_below (Za a5))).trans (Zf.of_below d6)) i7 g2)
   have r1:=i7.blkT ((((b3.blkT ((b6.below a6).below a7.below) a7.blk (by decide)).below a1).below (Za a5)).below d6) f0 (by decide)
   have g1:=f8.upd i7 f0 (by decide)
   exact xec (.r [5] 5) w6 (.tuple #[.agg #[V0 (Xw (inB l no)),.bool (Xm (inB l no)),.slice kp (Zp (inB l no)) kc,.slice vp (Zp (inB l no)) vc],.iface v7 (s8)]) ⟨p6,hO,r1,.inl ⟨by(unfold Zy;(repeat' split)<;>first|rfl|assumption|decide|omega|exact absurd (Eq.trans (Eq.symm ‹Vf _ _=true›) ‹Vf _ _=false›) (by decide)|(rename_i q;exact absurd ⟨by assumption,by assumption,by assumption⟩ q)|(rename_i q;obtain⟨q1,q2,q3⟩:=q;exact absurd (Eq.trans (Eq.symm q1) ‹Xm _=false›) (by decide))|(rename_i q;obtain⟨q1,q2,q3⟩:=q;omega)),_,_,_,_,_,_,_,_,_,_,rfl,by(unfold Zy;(repeat' split)<;>first|exact g1|(exfalso;omega)|contradiction|exact absurd (Eq.trans (Eq.symm ‹Vf _ _=true›) ‹Vf _ _=false›) (by decide)|(rename_i q;exact absurd ⟨by assumption,by assumption,by assumption⟩ q)|(rename_i q;obtain⟨q1,q2,q3⟩:=q;exact absurd (Eq.trans (Eq.symm q1) ‹Xm _=false›) (by decide))|(rename_i q;obtain⟨q1,q2,q3⟩:=q;omega))⟩⟩
  refine xd 1 .z ?_
  have b8:=(n8.below a1).below (Za a5)
  refine xb (.e [0] 1) 1 b8 ?_
  refine xg (.b [2]) [69,70] (Xm (inB l no)) (fun o8=>?_) (fun o8=>?_)
  ·have c5:=((b3.blkT ((b6.below a6).below a7.below) a7.blk (by decide)).below a1).below (Za a5)
   refine xb (.e [3,4,5,6] 7) 2 c5 ?_
   refine xg (.b [8,9,10]) [76,77,78] (deep != (0:Int)) (fun e3=>?_) (fun e3=>?_)
   ·have e3:=Vl e3
    refine xb (.e [11,12,13,14] 15) 2 c5 ?_
    refine xb (.e [16,17,18] 19) 8 c5 ?_
    refine xwm (.e [20] 21) ((way.length:Int)+1) (↑(way.length+1):Int) ?_
    refine xin (.r [22,23,24] 2) deep (↑(way.length+1):Int) (fun p1=>?_) (fun p1=>?_)
    ·refine xd 1 (.t B [38]) ?_
     refine xm2 (.b [1,2]) 0 3 ?_ ?_
     ·have k5:=b8.below (Za a5.drew)
      refine xlv 0 k5.rp ?_
      refine yc (.o [] 3) (args:=#[V0 no,.iface 33 (V0 10)]) (.t B [38]) (Qx no (some 10) [] _ _ rfl) ?_
      rintro _ ag ⟨x4,rfl,e1,g9⟩
      refine⟨(SF.of_below _ e1),?_⟩
      rw[Vt] at g9
      obtain⟨v3,s9,rfl⟩:=g9.iface
      have f6:=((((b3.blk (k2.below a7.below) (Ne.symm (Ne.symm b4))).below a1).below (Za a5)).below (Za a5.drew)).below e1
      have g2:=n2.ge0 (blB (Below.refl B w) hBw n1.below)
      refine ysv (.o [] 4) f6 [V0 (Xw (inB l no)),.bool (Xm (inB l no)),.slice kp (Zp (inB l no)) kc,.slice vp (Zp (inB l no)) vc] (.t B [38]) fun y1 j1 u1=>⟨(Zo j1 f6 (Nat.le_trans hBw g2) (by decide)),?_⟩
      have s3:=j1.below (blB (blB (blB (blB (b3.below (blB hB hBw a7.below) (Nat.le_trans hBw c6)) hBw a1) hBw (Za a5)) hBw (Za a5.drew)) hBw e1) (Nat.le_trans hBw g2)
      have hO:=(Zf.upd_new (((((Zf.upd_new (((((((show Zf [301] w _ from(Zf.of_below n1.below)).trans (Zf.of_below n2.below)).trans (Zf.of_upd u3 a3 (by decide))).trans (Zf.of_below b0)).trans (Zf.of_below (Za W4))).trans (Zf.of_below a6)).trans (Zf.of_below a7.below)) b3 c6).trans (Zf.of_below a1)).trans (Zf.of_below (Za a5))).trans (Zf.of_below (Za a5.drew))).trans (Zf.of_below e1)) j1 g2)
      have r5:=j1.blkT ((c5.below (Za a5.drew)).below e1) f6 (by decide)
      have i0:=g9.upd j1 f6 (by decide)
      exact xec (.r [5] 5) u1 (.tuple #[.agg #[V0 (Xw (inB l no)),.bool (Xm (inB l no)),.slice kp (Zp (inB l no)) kc,.slice vp (Zp (inB l no)) vc],.iface v3 (s9)]) ⟨s3,hO,r5,.inl ⟨by(unfold Zy;(repeat' split)<;>first|rfl|assumption|decide|omega|exact absurd (Eq.trans (Eq.symm ‹Vf _ _=true›) ‹Vf _ _=false›) (by decide)|(rename_i q;exact absurd ⟨by assumption,by assumption,by assumption⟩ q)|(rename_i q;obtain⟨q1,q2,q3⟩:=q;exact absurd (Eq.trans (Eq.symm q1) ‹Xm _=false›) (by decide))|(rename_i q;obtain⟨q1,q2,q3⟩:=q;omega)),_,_,_,_,_,_,_,_,_,_,rfl,by(unfold Zy;(repeat' split)<;>first|exact i0|(exfalso;omega)|contradiction|exact absurd (Eq.trans (Eq.symm ‹Vf _ _=true›) ‹Vf _ _=false›) (by decide)|(rename_i q;exact absurd ⟨by assumption,by assumption,by assumption⟩ q)|(rename_i q;obtain⟨q1,q2,q3⟩:=q;exact absurd (Eq.trans (Eq.symm q1) ‹Xm _=false›) (by decide))|(rename_i q;obtain⟨q1,q2,q3⟩:=q;omega))⟩⟩
     refine yc 0 (args:=#[V0 no,.iface 33 (V0 10)]) (.t B [38]) (Qx no (some 10) [] _ _ rfl) ?_
     rintro _ w7 ⟨y5,rfl,d8,h3⟩
     refine⟨(SF.of_below _ d8),?_⟩
     rw[Vt] at h3
     obtain⟨v8,v5,rfl⟩:=h3.iface
     have j5:=(b8.below (Za a5.drew)).below d8
     refine xlv (.o [] 0) j5.rp ?_
     have f2:=((((b3.blk (k2.below a7.below) (Ne.symm (Ne.symm b4))).below a1).below (Za a5)).below (Za a5.drew)).below d8
     have g2:=n2.ge0 (blB (Below.refl B w) hBw n1.below)
     refine ysv (.o [] 4) f2 [V0 (Xw (inB l no)),.bool (Xm (inB l no)),.slice kp (Zp (inB l no)) kc,.slice vp (Zp (inB l no)) vc] (.t B [38]) fun af m3 u0=>⟨(Zo m3 f2 (Nat.le_trans hBw g2) (by decide)),?_⟩
     have r3:=m3.below (blB (blB (blB (blB (b3.below (blB hB hBw a7.below) (Nat.le_trans hBw c6)) hBw a1) hBw (Za a5)) hBw (Za a5.drew)) hBw d8) (Nat.le_trans hBw g2)
     have hO:=(Zf.upd_new (((((Zf.upd_new (((((((show Zf [301] w _ from(Zf.of_below n1.below)).trans (Zf.of_below n2.below)).trans (Zf.of_upd u3 a3 (by decide))).trans (Zf.of_below b0)).trans (Zf.of_below (Za W4))).trans (Zf.of_below a6)).trans (Zf.of_below a7.below)) b3 c6).trans (Zf.of_below a1)).trans (Zf.of_below (Za a5))).trans (Zf.of_below (Za a5.drew))).trans (Zf.of_below d8)) m3 g2)
     have i4:=m3.blkT ((c5.below (Za a5.drew)).below d8) f2 (by decide)
     have g3:=h3.upd m3 f2 (by decide)
     exact xec (.r [5] 5) u0 (.tuple #[.agg #[V0 (Xw (inB l no)),.bool (Xm (inB l no)),.slice kp (Zp (inB l no)) kc,.slice vp (Zp (inB l no)) vc],.iface v8 (v5)]) ⟨r3,hO,i4,.inl ⟨by(unfold Zy;(repeat' split)<;>first|rfl|assumption|decide|omega|exact absurd (Eq.trans (Eq.symm ‹Vf _ _=true›) ‹Vf _ _=false›) (by decide)|(rename_i q;exact absurd ⟨by assumption,by assumption,by assumption⟩ q)|(rename_i q;obtain⟨q1,q2,q3⟩:=q;exact absurd (Eq.trans (Eq.symm q1) ‹Xm _=false›) (by decide))|(rename_i q;obtain⟨q1,q2,q3⟩:=q;omega)),_,_,_,_,_,_,_,_,_,_,rfl,by(unfold Zy;(repeat' split)<;>first|exact g3|(exfalso;omega)|contradiction|exact absurd (Eq.trans (Eq.symm ‹Vf _ _=true›) ‹Vf _ _=false›) (by decide)|(rename_i q;exact absurd ⟨by assumption,by assumption,by assumption⟩ q)|(rename_i q;obtain⟨q1,q2,q3⟩:=q;exact absurd (Eq.trans (Eq.symm q1) ‹Xm _=false›) (by decide))|(rename_i q;obtain⟨q1,q2,q3⟩:=q;omega))⟩⟩
    refine xlv 5 b8.rp ?_
    have f7:=((b3.blk (k2.below a7.below) (Ne.symm (Ne.symm b4))).below a1).below (Za a5)
    refine xsv 0 f7 [V0 (Xw (inB l no)),.bool (Xm (inB l no)),.slice kp (Zp (inB l no)) kc,.slice vp (Zp (inB l no)) vc] fun y4 j0 w4=>?_
    have g2:=n2.ge0 (blB (Below.refl B w) hBw n1.below)
    have r4:=j0.below (blB (blB (b3.below (blB hB hBw a7.below) (Nat.le_trans hBw c6)) hBw a1) hBw (Za a5)) (Nat.le_trans hBw g2)
    have hO:=(Zf.upd_new (((Zf.upd_new (((((((show Zf [301] w _ from(Zf.of_below n1.below)).trans (Zf.of_below n2.below)).trans (Zf.of_upd u3 a3 (by decide))).trans (Zf.of_below b0)).trans (Zf.of_below (Za W4))).trans (Zf.of_below a6)).trans (Zf.of_below a7.below)) b3 c6).trans (Zf.of_below a1)).trans (Zf.of_below (Za a5))) j0 g2)
    have l1:=j0.blkT c5 f7 (by decide)
    have s2:=j0.own2 (Zb (Zb f3 a1) (Za a5)) f7 (by decide)
    have m7:=j0.own2 (Zb (Zb (b3.own2 (Zb (Zg h6 f1) a7.below) a7.blk (by decide)) a1) (Za a5)) f7 (by decide)
    exact xec 4 w4 (.tuple #[.agg #[V0 (Xw (inB l no)),.bool (Xm (inB l no)),.slice kp (Zp (inB l no)) kc,.slice vp (Zp (inB l no)) vc],.nilIface]) ⟨r4,hO,l1,.inr ⟨by(unfold Zy;(repeat' split)<;>first|rfl|assumption|decide|omega|exact absurd (Eq.trans (Eq.symm ‹Vf _ _=true›) ‹Vf _ _=false›) (by decide)|(rename_i q;exact absurd ⟨by assumption,by assumption,by assumption⟩ q)|(rename_i q;obtain⟨q1,q2,q3⟩:=q;exact absurd (Eq.trans (Eq.symm q1) ‹Xm _=false›) (by decide))|(rename_i q;obtain⟨q1,q2,q3⟩:=q;omega)),by assumption,_,_,_,_,rfl,s2,m7⟩⟩
   have e3:=Xp e3
   refine xlv (.r [11,12,13,14,15,16,17,18,19,20,21,22,23,24] 8) b8.rp ?_
   have f5:=((b3.blk (k2.below a7.below) (Ne.symm (Ne.symm b4))).below a1).below (Za a5)
   refine xsv 0 f5 [V0 (Xw (inB l no)),.bool (Xm (inB l no)),.slice kp (Zp (inB l no)) kc,.slice vp (Zp (inB l no)) vc] fun z5 m0 u6=>?_
   have g2:=n2.ge0 (blB (Below.refl B w) hBw n1.below)
   have o9:=m0.below (blB (blB (b3.below (blB hB hBw a7.below) (Nat.le_trans hBw c6)) hBw a1) hBw (Za a5)) (Nat.le_trans hBw g2)
   have hO:=(Zf.upd_new (((Zf.upd_new (((((((show Zf [301] w _ from(Zf.of_below n1.below)).trans (Zf.of_below n2.below)).trans (Zf.of_upd u3 a3 (by decide))).trans (Zf.of_below b0)).trans (Zf.of_below (Za W4))).trans (Zf.of_below a6)).trans (Zf.of_below a7.below)) b3 c6).trans (Zf.of_below a1)).trans (Zf.of_below (Za a5))) m0 g2)
   have l8:=m0.blkT c5 f5 (by decide)
   have q4:=m0.own2 (Zb (Zb f3 a1) (Za a5)) f5 (by decide)
   have i3:=m0.own2 (Zb (Zb (b3.own2 (Zb (Zg h6 f1) a7.below) a7.blk (by decide)) a1) (Za a5)) f5 (by decide)
   exact xec 4 u6 (.tuple #[.agg #[V0 (Xw (inB l no)),.bool (Xm (inB l no)),.slice kp (Zp (inB l no)) kc,.slice vp (Zp (inB l no)) vc],.nilIface]) ⟨o9,hO,l8,.inr ⟨by(unfold Zy;(repeat' split)<;>first|rfl|assumption|decide|omega|exact absurd (Eq.trans (Eq.symm ‹Vf _ _=true›) ‹Vf _ _=false›) (by decide)|(rename_i q;exact absurd ⟨by assumption,by assumption,by assumption⟩ q)|(rename_i q;obtain⟨q1,q2,q3⟩:=q;exact absurd (Eq.trans (Eq.symm q1) ‹Xm _=false›) (by decide))|(rename_i q;obtain⟨q1,q2,q3⟩:=q;omega)),by assumption,_,_,_,_,rfl,q4,i3⟩⟩
  refine xlv (.r [3,4,5,6,7,8,9,10,11,12,13,14,15,16,17,18,19,20,21,22,23,24] 8) b8.rp ?_
  have e8:=((b3.blk (k2.below a7.below) (Ne.symm (Ne.symm b4))).below a1).below (Za a5)
  refine xsv 0 e8 [V0 (Xw (inB l no)),.bool (Xm (inB l no)),.slice kp (Zp (inB l no)) kc,.slice vp (Zp (inB l no)) vc] fun ab i9 t4=>?_
  have g2:=n2.ge0 (blB (Below.refl B w) hBw n1.below)
  have o5:=i9.below (blB (blB (b3.below (blB hB hBw a7.below) (Nat.le_trans hBw c6)) hBw a1) hBw (Za a5)) (Nat.le_trans hBw g2)
  have hO:=(Zf.upd_new (((Zf.upd_new (((((((show Zf [301] w _ from(Zf.of_below n1.below)).trans (Zf.of_below n2.below)).trans (Zf.of_upd u3 a3 (by decide))).trans (Zf.of_below b0)).trans (Zf.of_below (Za W4))).trans (Zf.of_below a6)).trans (Zf.of_below a7.below)) b3 c6).trans (Zf.of_below a1)).trans (Zf.of_below (Za a5))) i9 g2)
  have m5:=i9.blkT (((b3.blkT ((b6.below a6).below a7.below) a7.blk (by decide)).below a1).below (Za a5)) e8 (by decide)
  have s4:=i9.own2 (Zb (Zb f3 a1) (Za a5)) e8 (by decide)
  have i5:=i9.own2 (Zb (Zb (b3.own2 (Zb (Zg h6 f1) a7.below) a7.blk (by decide)) a1) (Za a5)) e8 (by decide)
  exact xec 4 t4 (.tuple #[.agg #[V0 (Xw (inB l no)),.bool (Xm (inB l no)),.slice kp (Zp (inB l no)) kc,.slice vp (Zp (inB l no)) vc],.nilIface]) ⟨o5,hO,m5,.inr ⟨by(unfold Zy;(repeat' split)<;>first|rfl|assumption|decide|omega|exact absurd (Eq.trans (Eq.symm ‹Vf _ _=true›) ‹Vf _ _=false›) (by decide)|(rename_i q;exact absurd ⟨by assumption,by assumption,by assumption⟩ q)|(rename_i q;obtain⟨q1,q2,q3⟩:=q;exact absurd (Eq.trans (Eq.symm q1) ‹Xm _=false›) (by decide))|(rename_i q;obtain⟨q1,q2,q3⟩:=q;omega)),by assumption,_,_,_,_,rfl,s4,i5⟩⟩
 refine xa 0 [V0 0,.bool false,S0,S0] 38 fun z9 z7 a8=>?_
 have k2:=((u3.blkT n2.blk a3 (by decide)).below b0).below (Za W4)
 have a9:=a8.ne k2
 have hB:=blB (blB (u3.below (blB (blB (Below.refl B w) hBw n1.below) hBw n2.below) hBb) hBw b0) hBw (Za W4)
 have c2:=a8.ge0 hB
 have s5:=(((((hI.below n1.below).below n2.below).only (Zf.of_upd (T:=[301]) u3 a3 (by decide)) (by decide)).below b0).below (Za W4)).below a8.below
 refine yc (.o [] 9) (args:=#[P0 b,V0 no,V0 tree]) (.t B [38]) (Su Bi b p n c l no tree _ s5) ?_
 rintro e al p7
 rcases p7 with ⟨he,bf,rfl,a0,hv⟩|⟨he,kp,kc,vp,vc,rfl,a0,hk,h6⟩
 ·refine⟨(SF.of_below _ a0),?_⟩
  have c3:=a8.blk.below a0
  refine ysv (.o [10,11,12] 14) c3 [V0 0,.bool false,S0,S0] (.t B [38]) fun ah i2 s6=>⟨(Zo i2 c3 (Nat.le_trans hBw c2) (by decide)),?_⟩
  refine xlv (.r [15] 14) s6.rp ?_
  have h8:=i2.blk ((k2.below a8.below).below a0) (Ne.symm (Ne.symm a9))
  refine xsv 1 h8 [V0 0,.bool false,S0,S0] fun y6 o1 w1=>?_
  have g2:=n2.ge0 (blB (Below.refl B w) hBw n1.below)
  have p2:=o1.below (i2.below (blB (blB hB hBw a8.below) hBw a0) (Nat.le_trans hBw c2)) (Nat.le_trans hBw g2)
  have hO:=(Zf.upd_new (Zf.upd_new (((((((show Zf [301] w _ from(Zf.of_below n1.below)).trans (Zf.of_below n2.below)).trans (Zf.of_upd u3 a3 (by decide))).trans (Zf.of_below b0)).trans (Zf.of_below (Za W4))).trans (Zf.of_below a8.below)).trans (Zf.of_below a0)) i2 c2) o1 g2)
  have n3:=o1.blkT (i2.blkT ((b6.below a8.below).below a0) c3 (by decide)) h8 (by decide)
  have q6:=(hv.upd i2 c3 (by decide)).upd o1 h8 (by decide)
  exact xec 6 w1 (.tuple #[.agg #[V0 0,.bool false,S0,S0],.iface 215 (P0 bf)]) ⟨p2,hO,n3,.inl ⟨by(unfold Zy;(repeat' split)<;>first|rfl|assumption|decide|omega|exact absurd (Eq.trans (Eq.symm ‹Vf _ _=true›) ‹Vf _ _=false›) (by decide)|(rename_i q;exact absurd ⟨by assumption,by assumption,by assumption⟩ q)|(rename_i q;obtain⟨q1,q2,q3⟩:=q;exact absurd (Eq.trans (Eq.symm q1) ‹Xm _=false›) (by decide))|(rename_i q;obtain⟨q1,q2,q3⟩:=q;omega)),_,_,_,_,_,_,_,_,_,_,rfl,by(unfold Zy;(repeat' split)<;>first|exact q6|(exfalso;omega)|contradiction|exact absurd (Eq.trans (Eq.symm ‹Vf _ _=true›) ‹Vf _ _=false›) (by decide)|(rename_i q;exact absurd ⟨by assumption,by assumption,by assumption⟩ q)|(rename_i q;obtain⟨q1,q2,q3⟩:=q;exact absurd (Eq.trans (Eq.symm q1) ‹Xm _=false›) (by decide))|(rename_i q;obtain⟨q1,q2,q3⟩:=q;omega))⟩⟩
 have e7:=(blB hB hBw a8.below).size
 refine⟨(SF.of_below _ a0),?_⟩
 have c3:=a8.blk.below a0
 refine ysv (.o [10,11,12] 14) c3 [V0 (Xw (inB l no)),.bool (Xm (inB l no)),.slice kp (Zp (inB l no)) kc,.slice vp (Zp (inB l no)) vc] (.t B [38]) fun x8 b5 o0=>⟨(Zo b5 c3 (Nat.le_trans hBw c2) (by decide)),?_⟩
 have k1:=b5.blkT (((((u3.blkT (n1.blk.below n2.below) a3 (by decide)).below b0).below (Za W4)).below a8.below).below a0) c3 (by decide)
 refine xlv (.r [15] 14) k1.rp ?_
 refine xb 1 2 o0 ?_
 have e9:=b5.own2 (Zg hk e7) c3 (by decide)
 refine xr 0 (args:=#[.agg #[V0 lo,V0 hi],.slice kp (Zp (inB l no)) kc]) (Fe lo hi _ (Yx (inB l no) (Zp (inB l no))) _ (Pe (Zh e9) (Yv _ _))) fun a4 a2=>?_
 refine xin 4 (Yt lo hi (Yx (inB l no) (Zp (inB l no)))) (0:Int) (fun q8=>?_) (fun q8=>?_)
 ·refine xd 1 (.t B [38]) ?_
  refine xm2 (.b [1,2]) 0 3 ?_ ?_
  ·have m8:=(o0.below a2).below (Za a4)
   refine xlv 0 m8.rp ?_
   refine yc (.o [] 3) (args:=#[V0 no,.iface 33 (V0 9)]) (.t B [38]) (Qx no (some 9) [] _ _ rfl) ?_
   rintro _ y9 ⟨x5,rfl,e4,g4⟩
   refine⟨(SF.of_below _ e4),?_⟩
   rw[Vt] at g4
   obtain⟨v6,t2,rfl⟩:=g4.iface
   have c8:=(((b5.blk ((k2.below a8.below).below a0) (Ne.symm (Ne.symm a9))).below a2).below (Za a4)).below e4
   have g2:=n2.ge0 (blB (Below.refl B w) hBw n1.below)
   refine ysv (.o [] 4) c8 [V0 (Xw (inB l no)),.bool (Xm (inB l no)),.slice kp (Zp (inB l no)) kc,.slice vp (Zp (inB l no)) vc] (.t B [38]) fun y2 j6 w2=>⟨(Zo j6 c8 (Nat.le_trans hBw g2) (by decide)),?_⟩
   have k0:=j6.below (blB (blB (blB (b5.below (blB (blB hB hBw a8.below) hBw a0) (Nat.le_trans hBw c2)) hBw a2) hBw (Za a4)) hBw e4) (Nat.le_trans hBw g2)
   have hO:=(Zf.upd_new ((((Zf.upd_new (((((((show Zf [301] w _ from(Zf.of_below n1.below)).trans (Zf.of_below n2.below)).trans (Zf.of_upd u3 a3 (by decide))).trans (Zf.of_below b0)).trans (Zf.of_below (Za W4))).trans (Zf.of_below a8.below)).trans (Zf.of_below a0)) b5 c2).trans (Zf.of_below a2)).trans (Zf.of_below (Za a4))).trans (Zf.of_below e4)) j6 g2)
   have j7:=j6.blkT ((((b5.blkT ((b6.below a8.below).below a0) c3 (by decide)).below a2).below (Za a4)).below e4) c8 (by decide)
   have h5:=g4.upd j6 c8 (by decide)
   exact xec (.r [5] 5) w2 (.tuple #[.agg #[V0 (Xw (inB l no)),.bool (Xm (inB l no)),.slice kp (Zp (inB l no)) kc,.slice vp (Zp (inB l no)) vc],.iface v6 (t2)]) ⟨k0,hO,j7,.inl ⟨by(unfold Zy;(repeat' split)<;>first|rfl|assumption|decide|omega|exact absurd (Eq.trans (Eq.symm ‹Vf _ _=true›) ‹Vf _ _=false›) (by decide)|(rename_i q;exact absurd ⟨by assumption,by assumption,by assumption⟩ q)|(rename_i q;obtain⟨q1,q2,q3⟩:=q;exact absurd (Eq.trans (Eq.symm q1) ‹Xm _=false›) (by decide))|(rename_i q;obtain⟨q1,q2,q3⟩:=q;omega)),_,_,_,_,_,_,_,_,_,_,rfl,by(unfold Zy;(repeat' split)<;>first|exact h5|(exfalso;omega)|contradiction|exact absurd (Eq.trans (Eq.symm ‹Vf _ _=true›) ‹Vf _ _=false›) (by decide)|(rename_i q;exact absurd ⟨by assumption,by assumption,by assumption⟩ q)|(rename_i q;obtain⟨q1,q2,q3⟩:=q;exact absurd (Eq.trans (Eq.symm q1) ‹Xm _=false›) (by decide))|(rename_i q;obtain⟨q1,q2,q3⟩:=q;omega))⟩⟩
  refine yc 0 (args:=#[V0 no,.iface 33 (V0 9)]) (.t B [38]) (Qx no (some 9) [] _ _ rfl) ?_
  rintro _ y7 ⟨y8,rfl,d9,h1⟩
  refine⟨(SF.of_below _ d9),?_⟩
  rw[Vt] at h1
  obtain⟨t1,v1,rfl⟩:=h1.iface
  have k9:=((o0.below a2).below (Za a4)).below d9
  refine xlv (.o [] 0) k9.rp ?_
  have d0:=(((b5.blk ((k2.below a8.below).below a0) (Ne.symm (Ne.symm a9))).below a2).below (Za a4)).below d9
  have g2:=n2.ge0 (blB (Below.refl B w) hBw n1.below)
  refine ysv (.o [] 4) d0 [V0 (Xw (inB l no)),.bool (Xm (inB l no)),.slice kp (Zp (inB l no)) kc,.slice vp (Zp (inB l no)) vc] (.t B [38]) fun x2 l2 v2=>⟨(Zo l2 d0 (Nat.le_trans hBw g2) (by decide)),?_⟩
  have m2:=l2.below (blB (blB (blB (b5.below (blB (blB hB hBw a8.below) hBw a0) (Nat.le_trans hBw c2)) hBw a2) hBw (Za a4)) hBw d9) (Nat.le_trans hBw g2)
  have hO:=(Zf.upd_new ((((Zf.upd_new (((((((show Zf [301] w _ from(Zf.of_below n1.below)).trans (Zf.of_below n2.below)).trans (Zf.of_upd u3 a3 (by decide))).trans (Zf.of_below b0)).trans (Zf.of_below (Za W4))).trans (Zf.of_below a8.below)).trans (Zf.of_below a0)) b5 c2).trans (Zf.of_below a2)).trans (Zf.of_below (Za a4))).trans (Zf.of_below d9)) l2 g2)
  have m9:=l2.blkT ((((b5.blkT ((b6.below a8.below).below a0) c3 (by decide)).below a2).below (Za a4)).below d9) d0 (by decide)
  have g8:=h1.upd l2 d0 (by decide)
  exact xec (.r [5] 5) v2 (.tuple #[.agg #[V0 (Xw (inB l no)),.bool (Xm (inB l no)),.slice kp (Zp (inB l no)) kc,.slice vp (Zp (inB l no)) vc],.iface t1 (v1)]) ⟨m2,hO,m9,.inl ⟨by(unfold Zy;(repeat' split)<;>first|rfl|assumption|decide|omega|exact absurd (Eq.trans (Eq.symm ‹Vf _ _=true›) ‹Vf _ _=false›) (by decide)|(rename_i q;exact absurd ⟨by assumption,by assumption,by assumption⟩ q)|(rename_i q;obtain⟨q1,q2,q3⟩:=q;exact absurd (Eq.trans (Eq.symm q1) ‹Xm _=false›) (by decide))|(rename_i q;obtain⟨q1,q2,q3⟩:=q;omega)),_,_,_,_,_,_,_,_,_,_,rfl,by(unfold Zy;(repeat' split)<;>first|exact g8|(exfalso;omega)|contradiction|exact absurd (Eq.trans (Eq.symm ‹Vf _ _=true›) ‹Vf _ _=false›) (by decide)|(rename_i q;exact absurd ⟨by assumption,by assumption,by assumption⟩ q)|(rename_i q;obtain⟨q1,q2,q3⟩:=q;exact absurd (Eq.trans (Eq.symm q1) ‹Xm _=false›) (by decide))|(rename_i q;obtain⟨q1,q2,q3⟩:=q;omega))⟩⟩
 refine xd 1 .z ?_
 have b9:=(o0.below a2).below (Za a4)
 refine xb (.e [0] 1) 1 b9 ?_
 refine xg (.b [2]) [69,70] (Xm (inB l no)) (fun s1=>?_) (fun s1=>?_)
 ·have b7:=((b5.blkT ((b6.below a8.below).below a0) c3 (by decide)).below a2).below (Za a4)
  refine xb (.e [3,4,5,6] 7) 2 b7 ?_
  refine xg (.b [8,9,10]) [76,77,78] (deep != (0:Int)) (fun e6=>?_) (fun e6=>?_)
  ·have e6:=Vl e6
   refine xb (.e [11,12,13,14] 15) 2 b7 ?_
   refine xb (.e [16,17,18] 19) 8 b7 ?_
   refine xwm (.e [20] 21) ((way.length:Int)+1) (↑(way.length+1):Int) ?_
   refine xin (.r [22,23,24] 2) deep (↑(way.length+1):Int) (fun o7=>?_) (fun o7=>?_)
   ·refine xd 1 (.t B [38]) ?_
    refine xm2 (.b [1,2]) 0 3 ?_ ?_
    ·have l7:=b9.below (Za a4.drew)
     refine xlv 0 l7.rp ?_
     refine yc (.o [] 3) (args:=#[V0 no,.iface 33 (V0 10)]) (.t B [38]) (Qx no (some 10) [] _ _ rfl) ?_
     rintro _ w8 ⟨z3,rfl,e5,g6⟩
     refine⟨(SF.of_below _ e5),?_⟩
     rw[Vt] at g6
     obtain⟨u4,v4,rfl⟩:=g6.iface
     have d4:=((((b5.blk ((k2.below a8.below).below a0) (Ne.symm (Ne.symm a9))).below a2).below (Za a4)).below (Za a4.drew)).below e5
     have g2:=n2.ge0 (blB (Below.refl B w) hBw n1.below)
     refine ysv (.o [] 4) d4 [V0 (Xw (inB l no)),.bool (Xm (inB l no)),.slice kp (Zp (inB l no)) kc,.slice vp (Zp (inB l no)) vc] (.t B [38]) fun ad k4 v0=>⟨(Zo k4 d4 (Nat.le_trans hBw g2) (by decide)),?_⟩
     have k6:=k4.below (blB (blB (blB (blB (b5.below (blB (blB hB hBw a8.below) hBw a0) (Nat.le_trans hBw c2)) hBw a2) hBw (Za a4)) hBw (Za a4.drew)) hBw e5) (Nat.le_trans hBw g2)
     have hO:=(Zf.upd_new (((((Zf.upd_new (((((((show Zf [301] w _ from(Zf.of_below n1.below)).trans (Zf.of_below n2.below)).trans (Zf.of_upd u3 a3 (by decide))).trans (Zf.of_below b0)).trans (Zf.of_below (Za W4))).trans (Zf.of_below a8.below)).trans (Zf.of_below a0)) b5 c2).trans (Zf.of_below a2)).trans (Zf.of_below (Za a4))).trans (Zf.of_below (Za a4.drew))).trans (Zf.of_below e5)) k4 g2)
     have l5:=k4.blkT ((b7.below (Za a4.drew)).below e5) d4 (by decide)
     have g5:=g6.upd k4 d4 (by decide)
     exact xec (.r [5] 5) v0 (.tuple #[.agg #[V0 (Xw (inB l no)),.bool (Xm (inB l no)),.slice kp (Zp (inB l no)) kc,.slice vp (Zp (inB l no)) vc],.iface u4 (v4)]) ⟨k6,hO,l5,.inl ⟨by(unfold Zy;(repeat' split)<;>first|rfl|assumption|decide|omega|exact absurd (Eq.trans (Eq.symm ‹Vf _ _=true›) ‹Vf _ _=false›) (by decide)|(rename_i q;exact absurd ⟨by assumption,by assumption,by assumption⟩ q)|(rename_i q;obtain⟨q1,q2,q3⟩:=q;exact absurd (Eq.trans (Eq.symm q1) ‹Xm _=false›) (by decide))|(rename_i q;obtain⟨q1,q2,q3⟩:=q;omega)),_,_,_,_,_,_,_,_,_,_,rfl,by(unfold Zy;(repeat' split)<;>first|exact g5|(exfalso;omega)|contradiction|exact absurd (Eq.trans (Eq.symm ‹Vf _ _=true›) ‹Vf _ _=false›) (by decide)|(rename_i q;exact absurd ⟨by assumption,by assumption,by assumption⟩ q)|(rename_i q;obtain⟨q1,q2,q3⟩:=q;exact absurd (Eq.trans (Eq.symm q1) ‹Xm _=false›) (by decide))|(rename_i q;obtain⟨q1,q2,q3⟩:=q;omega))⟩⟩
    refine yc 0 (args:=#[V0 no,.iface 33 (V0 10)]) (.t B [38]) (Qx no (some 10) [] _ _ rfl) ?_
    rintro _ z0 ⟨y3,rfl,d7,h0⟩
    refine⟨(SF.of_below _ d7),?_⟩
    rw[Vt] at h0
    obtain⟨t7,w0,rfl⟩:=h0.iface
    have j9:=(b9.below (Za a4.drew)).below d7
    refine xlv (.o [] 0) j9.rp ?_
    have d5:=((((b5.blk ((k2.below a8.below).below a0) (Ne.symm (Ne.symm a9))).below a2).below (Za a4)).below (Za a4.drew)).below d7
    have g2:=n2.ge0 (blB (Below.refl B w) hBw n1.below)
    refine ysv (.o [] 4) d5 [V0 (Xw (inB l no)),.bool (Xm (inB l no)),.slice kp (Zp (inB l no)) kc,.slice vp (Zp (inB l no)) vc] (.t B [38]) fun z1 j8 w5=>⟨(Zo j8 d5 (Nat.le_trans hBw g2) (by decide)),?_⟩
    have n4:=j8.below (blB (blB (blB (blB (b5.below (blB (blB hB hBw a8.below) hBw a0) (Nat.le_trans hBw c2)) hBw a2) hBw (Za a4)) hBw (Za a4.drew)) hBw d7) (Nat.le_trans hBw g2)
    have hO:=(Zf.upd_new (((((Zf.upd_new (((((((show Zf [301] w _ from(Zf.of_below n1.below)).trans (Zf.of_below n2.below)).trans (Zf.of_upd u3 a3 (by decide))).trans (Zf.of_below b0)).trans (Zf.of_below (Za W4))).trans (Zf.of_below a8.below)).trans (Zf.of_below a0)) b5 c2).trans (Zf.of_below a2)).trans (Zf.of_below (Za a4))).trans (Zf.of_below (Za a4.drew))).trans (Zf.of_below d7)) j8 g2)
    have l9:=j8.blkT ((b7.below (Za a4.drew)).below d7) d5 (by decide)
    have g0:=h0.upd j8 d5 (by decide)
    exact xec (.r [5] 5) w5 (.tuple #[.agg #[V0 (Xw (inB l no)),.bool (Xm (inB l no)),.slice kp (Zp (inB l no)) kc,.slice vp (Zp (inB l no)) vc],.iface t7 (w0)]) ⟨n4,hO,l9,.inl ⟨by(unfold Zy;(repeat' split)<;>first|rfl|assumption|decide|omega|exact absurd (Eq.trans (Eq.symm ‹Vf _ _=true›) ‹Vf _ _=false›) (by decide)|(rename_i q;exact absurd ⟨by assumption,by assumption,by assumption⟩ q)|(rename_i q;obtain⟨q1,q2,q3⟩:=q;exact absurd (Eq.trans (Eq.symm q1) ‹Xm _=false›) (by decide))|(rename_i q;obtain⟨q1,q2,q3⟩:=q;omega)),_,_,_,_,_,_,_,_,_,_,rfl,by(unfold Zy;(repeat' split)<;>first|exact g0|(exfalso;omega)|contradiction|exact absurd (Eq.trans (Eq.symm ‹Vf _ _=true›) ‹Vf _ _=false›) (by decide)|(rename_i q;exact absurd ⟨by assumption,by assumption,by assumption⟩ q)|(rename_i q;obtain⟨q1,q2,q3⟩:=q;exact absurd (Eq.trans (Eq.symm q1) ‹Xm _=false›) (by decide))|(rename_i q;obtain⟨q1,q2,q3⟩:=q;omega))⟩⟩
   refine xlv 5 b9.rp ?_
   have d2:=((b5.blk ((k2.below a8.below).below a0) (Ne.symm (Ne.symm a9))).below a2).below (Za a4)
   refine xsv 0 d2 [V0 (Xw (inB l no)),.bool (Xm (inB l no)),.slice kp (Zp (inB l no)) kc,.slice vp (Zp (inB l no)) vc] fun w9 i6 t8=>?_
   have g2:=n2.ge0 (blB (Below.refl B w) hBw n1.below)
   have l3:=i6.below (blB (blB (b5.below (blB (blB hB hBw a8.below) hBw a0) (Nat.le_trans hBw c2)) hBw a2) hBw (Za a4)) (Nat.le_trans hBw g2)
   have hO:=(Zf.upd_new (((Zf.upd_new (((((((show Zf [301] w _ from(Zf.of_below n1.below)).trans (Zf.of_below n2.below)).trans (Zf.of_upd u3 a3 (by decide))).trans (Zf.of_below b0)).trans (Zf.of_below (Za W4))).trans (Zf.of_below a8.below)).trans (Zf.of_below a0)) b5 c2).trans (Zf.of_below a2)).trans (Zf.of_below (Za a4))) i6 g2)
   have j2:=i6.blkT b7 d2 (by decide)
   have r2:=i6.own2 (Zb (Zb e9 a2) (Za a4)) d2 (by decide)
   have i8:=i6.own2 (Zb (Zb (b5.own2 (Zg h6 e7) c3 (by decide)) a2) (Za a4)) d2 (by decide)
   exact xec 4 t8 (.tuple #[.agg #[V0 (Xw (inB l no)),.bool (Xm (inB l no)),.slice kp (Zp (inB l no)) kc,.slice vp (Zp (inB l no)) vc],.nilIface]) ⟨l3,hO,j2,.inr ⟨by(unfold Zy;(repeat' split)<;>first|rfl|assumption|decide|omega|exact absurd (Eq.trans (Eq.symm ‹Vf _ _=true›) ‹Vf _ _=false›) (by decide)|(rename_i q;exact absurd ⟨by assumption,by assumption,by assumption⟩ q)|(rename_i q;obtain⟨q1,q2,q3⟩:=q;exact absurd (Eq.trans (Eq.symm q1) ‹Xm _=false›) (by decide))|(rename_i q;obtain⟨q1,q2,q3⟩:=q;omega)),by assumption,_,_,_,_,rfl,r2,i8⟩⟩
  have e6:=Xp e6
  refine xlv (.r [11,12,13,14,15,16,17,18,19,20,21,22,23,24] 8) b9.rp ?_
  have d1:=((b5.blk ((k2.below a8.below).below a0) (Ne.symm (Ne.symm a9))).below a2).below (Za a4)
  refine xsv 0 d1 [V0 (Xw (inB l no)),.bool (Xm (inB l no)),.slice kp (Zp (inB l no)) kc,.slice vp (Zp (inB l no)) vc] fun aj l6 u8=>?_
  have g2:=n2.ge0 (blB (Below.refl B w) hBw n1.below)
  have j3:=l6.below (blB (blB (b5.below (blB (blB hB hBw a8.below) hBw a0) (Nat.le_trans hBw c2)) hBw a2) hBw (Za a4)) (Nat.le_trans hBw g2)
  have hO:=(Zf.upd_new (((Zf.upd_new (((((((show Zf [301] w _ from(Zf.of_below n1.below)).trans (Zf.of_below n2.below)).trans (Zf.of_upd u3 a3 (by decide))).trans (Zf.of_below b0)).trans (Zf.of_below (Za W4))).trans (Zf.of_below a8.below)).trans (Zf.of_below a0)) b5 c2).trans (Zf.of_below a2)).trans (Zf.of_below (Za a4))) l6 g2)
  have l4:=l6.blkT b7 d1 (by decide)
  have p0:=l6.own2 (Zb (Zb e9 a2) (Za a4)) d1 (by decide)
  have n5:=l6.own2 (Zb (Zb (b5.own2 (Zg h6 e7) c3 (by decide)) a2) (Za a4)) d1 (by decide)
  exact xec 4 u8 (.tuple #[.agg #[V0 (Xw (inB l no)),.bool (Xm (inB l no)),.slice kp (Zp (inB l no)) kc,.slice vp (Zp (inB l no)) vc],.nilIface]) ⟨j3,hO,l4,.inr ⟨by(unfold Zy;(repeat' split)<;>first|rfl|assumption|decide|omega|exact absurd (Eq.trans (Eq.symm ‹Vf _ _=true›) ‹Vf _ _=false›) (by decide)|(rename_i q;exact absurd ⟨by assumption,by assumption,by assumption⟩ q)|(rename_i q;obtain⟨q1,q2,q3⟩:=q;exact absurd (Eq.trans (Eq.symm q1) ‹Xm _=false›) (by decide))|(rename_i q;obtain⟨q1,q2,q3⟩:=q;omega)),by assumption,_,_,_,_,rfl,p0,n5⟩⟩
 refine xlv (.r [3,4,5,6,7,8,9,10,11,12,13,14,15,16,17,18,19,20,21,22,23,24] 8) b9.rp ?_
 have d3:=((b5.blk ((k2.below a8.below).below a0) (Ne.symm (Ne.symm a9))).below a2).below (Za a4)
 refine xsv 0 d3 [V0 (Xw (inB l no)),.bool (Xm (inB l no)),.slice kp (Zp (inB l no)) kc,.slice vp (Zp (inB l no)) vc] fun y0 n6 s7=>?_
 have g2:=n2.ge0 (blB (Below.refl B w) hBw n1.below)
 have m1:=n6.below (blB (blB (b5.below (blB (blB hB hBw a8.below) hBw a0) (Nat.le_trans hBw c2)) hBw a2) hBw (Za a4)) (Nat.le_trans hBw g2)
 have hO:=(Zf.upd_new (((Zf.upd_new (((((((show Zf [301] w _ from(Zf.of_below n1.below)).trans (Zf.of_below n2.below)).trans (Zf.of_upd u3 a3 (by decide))).trans (Zf.of_below b0)).trans (Zf.of_below (Za W4))).trans (Zf.of_below a8.below)).trans (Zf.of_below a0)) b5 c2).trans (Zf.of_below a2)).trans (Zf.of_below (Za a4))) n6 g2)
 have n0:=n6.blkT (((b5.blkT ((b6.below a8.below).below a0) c3 (by decide)).below a2).below (Za a4)) d3 (by decide)
 have r0:=n6.own2 (Zb (Zb e9 a2) (Za a4)) d3 (by decide)
 have n7:=n6.own2 (Zb (Zb (b5.own2 (Zg h6 e7) c3 (by decide)) a2) (Za a4)) d3 (by decide)
 exact xec 4 s7 (.tuple #[.agg #[V0 (Xw (inB l no)),.bool (Xm (inB l no)),.slice kp (Zp (inB l no)) kc,.slice vp (Zp (inB l no)) vc],.nilIface]) ⟨m1,hO,n0,.inr ⟨by(unfold Zy;(repeat' split)<;>first|rfl|assumption|decide|omega|exact absurd (Eq.trans (Eq.symm ‹Vf _ _=true›) ‹Vf _ _=false›) (by decide)|(rename_i q;exact absurd ⟨by assumption,by assumption,by assumption⟩ q)|(rename_i q;obtain⟨q1,q2,q3⟩:=q;exact absurd (Eq.trans (Eq.symm q1) ‹Xm _=false›) (by decide))|(rename_i q;obtain⟨q1,q2,q3⟩:=q;omega)),by assumption,_,_,_,_,rfl,r0,n7⟩⟩
def Ks(K:List Int)(Vs:List Bl)(no:Int)(k:Nat):List Ent:=(List.range k).map fun j=>(K.getD j 0,Vs.getD j [],no)
theorem Hu(K:List Int)(Vs:List Bl)(no:Int)(k:Nat):(Ks K Vs no k).length=k:=by simp[Ks]
theorem Zfh(K:List Int)(Vs:List Bl)(no:Int)(k:Nat):Ks K Vs no (k+1)=Ks K Vs no k++[(K.getD k 0,Vs.getD k [],no)]:=by simp[Ks,List.range_succ]
theorem Db(es:List Ent)(K:List Int)(Vs:List Bl)(no:Int)(k:Nat):(es++Ks K Vs no k).flatMap Ji++[V0 (K.getD k 0),.string ⟨(Vs.getD k []).toArray⟩,V0 no]=(es++Ks K Vs no (k+1)).flatMap Ji:=by
 rw[Zfh,←List.append_assoc,List.flatMap_append (xs:=es++Ks K Vs no k)]
 rfl
def LeafP(B bw:Nat)(c1 c3 c4 c5 c6 c7:Value)(pw:O0)(cw:Nat)(way:List Int)(c9:Value)(es:List Ent)(K:List Int)(Vs:List Bl)(no:Int)(n:Nat)(w:World)(e:Ending)(w':World):Prop :=
 ∃ u pe ce,e=.returned u∧Below B w w'∧Zf [301,100] w w'∧Blk w' bw [.slice pe (es.length+n) ce,c1,V0 (↑(way.length+1):Int),c3,c4,c5,c6,c7,.slice pw way.length cw,c9] 301∧w'.ownsRow B 100 3 (.slice pe (es.length+n) ce) (es.length+n) ((es++Ks K Vs no n).flatMap Ji)
theorem Zda(B bw:Nat)(c1 c2 c3 c4 c5 c6 c7 c9:Value)(pe:O0)(ce:Nat)(es:List Ent)(pw:O0)(cw:Nat)(way:List Int)(no:Int)(nt:Int)(nl:Bool)(kp vp:O0)(n kc vc:Nat)(K:List Int)(Vs:List Bl)(w:World)(hBb:B≤bw)(hBw:B≤w.heap.size)(kW:Blk w bw [.slice pe es.length ce,c1,c2,c3,c4,c5,c6,c7,.slice pw way.length cw,c9] 301)(hE:w.ownsRow B 100 3 (.slice pe es.length ce) es.length (es.flatMap Ji))(hKs:∀ W,Below B w W→Zf [301,100] w W→Sl W (.slice kp n kc) n (K.map V0))(hVs:∀ W,Below B w W→Zf [301,100] w W→Sl W (.slice vp n vc) n (Vs.map sv))(hKl:K.length=n)(hVl:Vs.length=n)(hwl:way.length≤1000000)(hn:es.length+n≤1000000) :
 C0 198 #[P0 bw,V0 no,.agg #[V0 nt,.bool nl,.slice kp n kc,.slice vp n vc]] w (LeafP B bw c1 c3 c4 c5 c6 c7 pw cw way c9 es K Vs no n w):=by
 refine zin 46 Tryz.func198 ?_
 refine xa 2 [V0 nt,.bool nl,.slice kp n kc,.slice vp n vc] 38 fun b1 W1 n1=>?_
 have a8:=kW.below n1.below
 refine xb 8 8 a8 ?_
 refine xwm 1 ((way.length:Int)+1) (↑(way.length+1):Int) ?_
 refine xs 3 a8 [.slice pe es.length ce,c1,V0 (↑(way.length+1):Int),c3,c4,c5,c6,c7,.slice pw way.length cw,c9] fun W2 u2 k2=>?_
 have k1:=u2.blkT n1.blk a8 (by decide)
 refine xb 5 2 k1 ?_
 have d9:=u2.own2 (Zb hE n1.below) a8 (by decide)
 have hB:=u2.below (blB (Below.refl B w) hBw n1.below) hBb
 have hO:=(show Zf [301,100] w _ from(Zf.of_below n1.below)).trans (Zf.of_upd u2 a8 (by decide))
 refine zl 5 46 (fun zm f1 V=>∃ (i:Nat) (pe:O0) (ce:Nat),f1=[(0,P0 bw),(1,V0 no),(5,P0 b1),(19,.slice kp n kc),(20,V0 (n:Int)),(21,V0 (i:Int))]∧zm=n-((i:Int)).toNat∧Below B w V∧Zf [301,100] w V∧Blk V bw ([.slice pe (es.length+i) ce,c1,V0 (↑(way.length+1):Int),c3,c4,c5,c6,c7,.slice pw way.length cw,c9]) 301∧Blk V b1 ([V0 nt,.bool nl,.slice kp n kc,.slice vp n vc]) 38∧V.ownsRow B 100 3 (.slice pe (es.length+i) ce) (es.length+i) ((es++Ks K Vs no i).flatMap Ji)∧i≤n) ⟨0,_,_,rfl,rfl,hB,hO,k2,k1,(by simpa [Ks] using d9),Nat.zero_le _⟩ ?_
 rintro _ _ W3 ⟨i,pe,ce,rfl,rfl,b4,b2,a9,c0,hE,hi⟩ J3 e1 r3
 refine xid 6 ((i:Int)<(n:Int)) (fun e9=>?_) (fun e9=>?_)
 ·refine xx 7 _ n i 1 (IntsN.elem (hKs _ b4 b2) hKl (k:=i) (by omega)).1 ?_
  refine xl 0 ((IntsN.elem (hKs _ b4 b2) hKl (k:=i) (by omega)).2) ?_
  refine xd 4 (.t B [301,100]) ?_
  have a2:=c0.below (Za W3)
  refine xbt (.e [0,1,2,3,4,6,7] 8) 3 B [301,100] a2 ?_
  have a5:=blB b4 hBw (Za W3)
  have b3:=b2.trans (Zf.of_below (Za W3))
  refine xx (.e [9] 10) _ n i 1 (Strs.elem (hVs _ a5 b3) hVl (k:=i) (by omega)).1 ?_
  refine xlt (.e [] 11) (.t B [301,100]) (fun V hV=>(Strs.elem (hVs _ (Kv a5 hV hBw) (b3.trans hV.2)) hVl (k:=i) (by omega)).2) ?_
  refine xm2 (.b [12,13]) 5 14 ?_ ?_
  ·have a3:=a9.below (Za W3)
   refine xb 0 0 a3 ?_
   refine xbs (.o [] 14) 1 [V0 (K.getD i 0),.string ⟨(Vs.getD i []).toArray⟩,V0 no] 100 fun b5 W5 n5=>?_
   have g5:=n5.ge0 a5
   have b7:=Zb hE (Za W3)
   have e3:=Zw b7 n5
   have a6:=Zb b7 n5.below
   have c8:=blB a5 hBw n5.below
   refine ybi (.o [] 15) (.t B [301,100]) fun _ _ _ _ zJ zQ zo zx zy zK=>Zu (m:=1) (news:=[V0 (K.getD i 0),.string ⟨(Vs.getD i []).toArray⟩,V0 no]) (.agg #[V0 0,.string ⟨#[]⟩,V0 0]) 3 32 ((es.length+(i+1))) (((es++Ks K Vs no (i+1)).flatMap Ji)) zo Tryz.underlying101 (by kernel_rfl) rfl (by decide) zx a6 zy (n5.blk.sl 1 1 (by decide) (by decide)) rfl (by simp[Value.oneCell']) (by unfold maxLen;omega) (by omega) (Nat.le_trans hBw c8.size) (by omega) (Db _ _ _ _ _) fun f0 e7 W6 o6 d3 e2=>?_
   refine zK _ _ (Zr e2 d3 a6 (by decide)) ?_
   have a0:=(a3.below n5.below).grown d3 a6 (by decide)
   refine ys (.o [16,17,18] 19) a0 [.slice f0 (es.length+(i+1)) e7,c1,V0 (↑(way.length+1):Int),c3,c4,c5,c6,c7,.slice pw way.length cw,c9] (.t B [301,100]) fun W7 u7 k7=>⟨(Zo u7 a0 hBb (by decide)),?_⟩
   refine xwm 4 ((i:Int)+1) (↑(i+1):Int) ?_
   have d6:=u7.below (c8.trans e2) hBb
   have e0:=((b3.trans (Zf.of_below n5.below)).trans (Zf.of_grown d3 a6 (by decide))).trans (Zf.of_upd u7 a0 (by decide))
   have b0:=u7.blkT ((a2.below n5.below).grown d3 a6 (by decide)) a0 (by decide)
   have d7:=u7.own2 o6 a0 (by decide)
   exact ze 2 (e1 _ _ _ ⟨i+1,_,_,rfl,rfl,d6,e0,k7,b0,d7,by omega⟩ (by omega))
  refine xbs 0 1 [V0 (K.getD i 0),.string ⟨(Vs.getD i []).toArray⟩,V0 no] 100 fun b8 W8 n8=>?_
  have g8:=n8.ge0 a5
  have b9:=Zb hE (Za W3)
  have e4:=Zw b9 n8
  have a4:=(a9.below (Za W3)).below n8.below
  refine xb (.o [] 5) 0 a4 ?_
  have a7:=Zb b9 n8.below
  have d0:=blB a5 hBw n8.below
  refine ybi (.o [] 15) (.t B [301,100]) fun _ _ _ _ zJ zQ zo zx zy zK=>Zu (m:=1) (news:=[V0 (K.getD i 0),.string ⟨(Vs.getD i []).toArray⟩,V0 no]) (.agg #[V0 0,.string ⟨#[]⟩,V0 0]) 3 32 ((es.length+(i+1))) (((es++Ks K Vs no (i+1)).flatMap Ji)) zo Tryz.underlying101 (by kernel_rfl) rfl (by decide) zx a7 zy (n8.blk.sl 1 1 (by decide) (by decide)) rfl (by simp[Value.oneCell']) (by unfold maxLen;omega) (by omega) (Nat.le_trans hBw d0.size) (by omega) (Db _ _ _ _ _) fun f2 e8 W9 o9 d2 e5=>?_
  refine zK _ _ (Zr e5 d2 a7 (by decide)) ?_
  have a1:=a4.grown d2 a7 (by decide)
  refine ys (.o [16,17,18] 19) a1 [.slice f2 (es.length+(i+1)) e8,c1,V0 (↑(way.length+1):Int),c3,c4,c5,c6,c7,.slice pw way.length cw,c9] (.t B [301,100]) fun f3 d1 e6=>⟨(Zo d1 a1 hBb (by decide)),?_⟩
  refine xwm 4 ((i:Int)+1) (↑(i+1):Int) ?_
  have d4:=d1.below (d0.trans e5) hBb
  have d8:=((b3.trans (Zf.of_below n8.below)).trans (Zf.of_grown d2 a7 (by decide))).trans (Zf.of_upd d1 a1 (by decide))
  have b6:=d1.blkT ((a2.below n8.below).grown d2 a7 (by decide)) a1 (by decide)
  have d5:=d1.own2 o9 a1 (by decide)
  exact ze 2 (e1 _ _ _ ⟨i+1,_,_,rfl,rfl,d4,d8,e6,b6,d5,by omega⟩ (by omega))
 refine xe 4 (.tuple #[]) ?_
 obtain rfl:i=n:=by omega
 exact⟨_,_,_,rfl,b4,b2,a9,hE⟩
end Go.Proofs.YtgphgaehfdfjjaaGreatDoor
namespace Go.Proofs.YtgphgaehfdfjjaaGreatDoor
set_option maxHeartbeats 8000000
set_option maxRecDepth 100000
open Go.RowKit Go.Extern.Stop Go.Stop Go.Extern
set_option linter.unusedVariables false
def Kn(u v:Value):Prop:=∀ j,u.ownBlock=some j→v.ownBlock≠some j
theorem Kn.symm{u v:Value}(h:Kn u v):Kn v u:=fun j h1 h2=>h j h2 h1
theorem Kn.grow{w:World}{u v u':Value}{base e size n:Nat}{xs:List Value}(h:Kn u v)(k:w.ownsRow base e size v n xs)(hl:u'.ownBlock=u.ownBlock∨u'.ownBlock=some w.heap.size):Kn u' v:=by
 rintro j h1 h2
 rcases hl with hl|hl
 ·exact h j (hl▸h1) h2
 ·rw[hl,Option.some.injEq] at h1
  subst h1
  have:=(k.lt _ h2).2
  omega
theorem Kn.row{w W:World}{u v:Value}{base e size n:Nat}{xs:List Value}(h:Kn u v)(k:w.ownsRow base e size v n xs)(hg:w.grownBy W u.ownBlock):W.ownsRow base e size v n xs:=by
 obtain⟨h1,h2⟩:=k
 refine⟨h1,?_⟩
 rcases h2 with h2|⟨g,a0,a1,rfl,hb,hh,r⟩
 ·exact Or.inl h2
 ·exact Or.inr ⟨g,a0,a1,rfl,hb,(hg.block g (Array.getElem?_eq_some_iff.1 hh).1 (fun q=>h g q.symm rfl)).trans hh,r⟩
theorem Kn.of_lt{w W:World}{u v:Value}{base base2 e e2 size size2 n n2:Nat}{xs ys:List Value}(k:w.ownsRow base e size u n xs)(q:W.ownsRow base2 e2 size2 v n2 ys)(h:w.heap.size≤base2):Kn u v:=fun j h1 h2=>by
 have:=(k.lt j h1).2
 have:=(q.lt j h2).1
 omega
theorem Kn.nil(v:Value):Kn (S0) v:=fun j h=>by cases h
theorem own_cut{w:World}{base e n m c:Nat}{p:O0}{xs:List Value}(k:w.ownsRow base e 1 (.slice p n c) n xs)(hm:m≤n)(hp:p.isSome=true):w.ownsRow base e 1 (.slice p m c) m (xs.take m):=by
 obtain⟨h1,h2⟩:=k
 refine⟨by rw[List.length_take];omega,?_⟩
 rcases h2 with ⟨h2,_⟩|⟨g,a4,a2,hv,hb,hh,hc,a0,a1,a3⟩
 ·cases h2;cases hp
 ·simp only[Value.slice.injEq] at hv
  obtain⟨rfl,_,rfl⟩:=hv
  refine Or.inr ⟨g,c,a2,rfl,hb,hh,by omega,a0,a1,?_⟩
  rw[←a3,List.take_take]
  congr 1
  omega
theorem Dy{P:Program}{a:Act}{w:World}{K:Act→World→Prop}{Q:Exit→Act→World→Prop}{o:Oper}{s x:Operand}{t e te:TypeId}{base:Nat}{v:Value}{n:Nat}{xs:List Value}{b m c:Nat}{news:List Value}(z:Value)(size bytes n':Nat)(xs':List Value)
 (ho:o.op=.call { callee:=.builtin .append,args:=#[s,x],argTypes:=#[t,t] }) (ht:P.underlying t=some (.slice e)) (hi:(P.info? e).map (fun i=>(i.zero,i.size,i.bytes))=some (some z,size,bytes)) (hzs:z.cells.size=size) (hsz:0<size) (hs:a.eval s=v)
 (hown:w.ownsRow base e size v n xs) (hx:a.eval x=.slice (S1 b) m c) (hnew:Blk w b news te) (hl:news.length=m*size) (h1:∀ u∈news,u.oneCell'=true) (h63:n+m≤maxLen) (hbytes:(n+m)*bytes≤140737488355328) (hbase:base≤w.heap.size) (hn:n+m=n') (hxs:xs++news=xs')
 (h:∀ p c W,W.ownsRow base e size (.slice p n' c) n' xs'→w.grownBy W v.ownBlock→Below base w W→((Value.slice p n' c).ownBlock=v.ownBlock∨(Value.slice p n' c).ownBlock=some w.heap.size)→K (a.put o.dst (.slice p n' c)) W):o.wp P a w K Q:=by
 cases hq:P.info? e with
 | none=>simp[hq] at hi
 | some i =>
  simp only[hq,Option.map_some,Option.some.injEq,Prod.mk.injEq] at hi
  have hc:∀ j u,news[j]? = some u→w.cell? ((⟨b,0,none⟩:Addr).add j)=some u:=fun j u hj=>by
   have hc:=hnew.cell hj
   by_cases h0:j=0
   ·subst h0;simpa [Addr.add] using hc
   ·simpa [Addr.add,h0] using hc
  obtain⟨v',W,hr,h2,h3,_,h5⟩:=run_append_own_at (P:=P) w base t o.type e i z size bytes ht hq hi.1 hi.2.1 hi.2.2 hzs hsz v n xs hown ⟨b,0,none⟩ m c news hl hc h1 h63 hbytes hbase
  subst hn hxs
  obtain⟨p,c2,rfl⟩:=(Zh h2).slice
  unfold Oper.wp execOp
  simp only[ho,resolve,invoke,builtin,Sem.run_bind,Sem.run_pure,Result.andThen_ok,List.map_toArray,List.map_cons,List.map_nil,hs,hx,hr]
  exact h p c2 W h2 h3 (Gb h3 hown (Nat.le_refl _) hbase) h5
structure WS where
 es:List Ent
 bs:List Int
 deep:Int
 looked:Nat
 fs:List (List Int×Int)
 dry:Bool
def Yo(way bs:List Int)(c:Int)(s:WS):WS:={ s with fs:=s.fs++[(way++bs,c)] }
def Jl(V:List Int→Int→Int→Int→WS→WS)(way:List Int)(no:Int)(val:Bl)(p:Int×Int)(s:WS):WS :=
 if Xy val=0 then V (way++[no]) (Qf val:Int) p.1 p.2 s else Yo way [no] (Xy val) s
def Xv(l:Bl)(no:Int):List Int:=Yx (inB l no) (Zp (inB l no))
def Ve(l:Bl)(no:Int):List Bl:=Ky (inB l no) (Zp (inB l no))
def Na(V:List Int→Int→Int→Int→WS→WS)(l:Bl)(way:List Int)(no hi:Int)(s:WS)(i:Nat):WS :=
 if s.dry=true then s else Jl V way no ((Ve l no).getD i []) (Xb hi (Xv l no) i) s
def Yp(V:List Int→Int→Int→Int→WS→WS)(l:Bl)(way:List Int)(no hi:Int)(k:Nat)(s:WS):WS:=(List.range k).foldl (Na V l way no hi) s
def Zz(l:Bl)(tree fuel:Int):Nat→List Int→Int→Int→Int→WS→WS
 | 0,_,_,_,_,s=>s
 | d+1,way,no,lo,hi,s =>
  if fuel≤s.looked then { Yo way [no] 12 s with dry:=true }
  else if Zy l way no tree lo hi s.deep≠0 then Yo way [no] (Zy l way no tree lo hi s.deep) { s with looked:=s.looked+1 }
  else if Xm (inB l no)=true then { s with looked:=s.looked+1,bs:=s.bs++[no],deep:=((way.length+1:Nat):Int),es:=s.es++Ks (Xv l no) (Ve l no) no (Zp (inB l no)) }
  else Yp (Zz l tree fuel d) l way no hi (Zp (inB l no)) { s with looked:=s.looked+1,bs:=s.bs++[no] }
theorem Uj(V:List Int→Int→Int→Int→WS→WS)(l:Bl)(way:List Int)(no hi:Int)(k:Nat)(s:WS):Yp V l way no hi (k+1) s=Na V l way no hi (Yp V l way no hi k s) k:=by
 simp[Yp,List.range_succ]
theorem Zgj(V:List Int→Int→Int→Int→WS→WS)(l:Bl)(way:List Int)(no hi:Int)(s:WS)(i:Nat)(h:s.dry=true):Na V l way no hi s i=s:=by simp[Na,h]
theorem loopW_dry(V:List Int→Int→Int→Int→WS→WS)(l:Bl)(way:List Int)(no hi:Int)(s:WS){k n:Nat}(hk:k≤n)(h:(Yp V l way no hi k s).dry=true):Yp V l way no hi n s=Yp V l way no hi k s:=by
 induction n with
 | zero =>
  obtain rfl:k=0:=by omega
  rfl
 | succ n ih =>
   rcases Nat.lt_or_ge n k with q|q
   ·obtain rfl:k=n+1:=by omega
    rfl
   ·rw[Uj,ih q,Zgj _ _ _ _ _ _ _ h]
def Hj(w:World):List (List Int×Int)→List Value→Prop
 | [],[]=>True
 | f::r,v::q=>Vw w (f.1.map some) (some f.2) v∧Hj w r q
 | _,_=>False
theorem Hj.kept{w W:World}(hb:∀ blk cs,Blk w blk cs 218→Blk W blk cs 218):∀ {fs:List (List Int×Int)} {vs:List Value},Hj w fs vs→Hj W fs vs
 | [],[],h=>h
 | _::_,_::_,h=>⟨h.1.kept hb,Hj.kept hb h.2⟩
 | [],_::_,h=>h.elim
 | _::_,[],h=>h.elim
theorem Hj.only{T:List TypeId}{w W:World}{fs:List (List Int×Int)}{vs:List Value}(h:Hj w fs vs)(k:Zf T w W)(hT:T.contains 218=false):Hj W fs vs:=h.kept fun _ _ q=>q.only k hT
theorem Hj.below{w W:World}{fs:List (List Int×Int)}{vs:List Value}(h:Hj w fs vs)(hb:B0 w W):Hj W fs vs:=h.kept fun _ _ q=>q.below hb
theorem Hj.snoc{w:World}{f:List Int×Int}{v:Value}(hv:Vw w (f.1.map some) (some f.2) v):∀ {fs:List (List Int×Int)} {vs:List Value},Hj w fs vs→Hj w (fs++[f]) (vs++[v])
 | [],[],_=>⟨hv,trivial⟩
 | _::_,_::_,h=>⟨h.1,Hj.snoc hv h.2⟩
 | [],_::_,h=>h.elim
 | _::_,[],h=>h.elim
structure WalkR(B bw Bi b:Nat)(pi:Option Addr)(ni ci:Nat)(l:List UInt8)(tree fuel:Int)(way:List Int)(s:WS)(pe pb pf pw:Option Addr)(ce cb cf cw:Nat)(fv:List Value)(w:World):Prop where
 blk:Blk w bw [.slice pe s.es.length ce,.slice pb s.bs.length cb,.int .i64 s.deep,.int .i64 (s.looked:Int),.slice pf s.fs.length cf,.pointer (some ⟨b,0,none⟩),.int .i64 tree,.int .i64 fuel,.slice pw way.length cw,.bool s.dry] 301
 ents:w.ownsRow B 100 3 (.slice pe s.es.length ce) s.es.length (s.es.flatMap Ji)
 blks:w.ownsRow B 3 1 (.slice pb s.bs.length cb) s.bs.length (s.bs.map (Value.int .i64))
 flts:w.ownsRow B 30 1 (.slice pf s.fs.length cf) s.fs.length fv
 fltv:Hj w s.fs fv
 ways:w.ownsRow B 3 1 (.slice pw way.length cw) way.length (way.map (Value.int .i64))
 apart:Kn (.slice pb s.bs.length cb) (.slice pw way.length cw)
 img:ImgR Bi b pi ni ci l w
def VisitP(B bw Bi b:Nat)(pi:O0)(ni ci:Nat)(l:Bl)(tree fuel:Int)(way:List Int)(t:WS)(w:World)(e:Ending)(w':World):Prop :=
 ∃ u pe pb pf pw ce cb cf cw fv,e=.returned u∧Below B w w'∧Zf [301,100,3,30] w w'∧WalkR B bw Bi b pi ni ci l tree fuel way t pe pb pf pw ce cb cf cw fv w'
end Go.Proofs.YtgphgaehfdfjjaaGreatDoor
namespace Go.Proofs.YtgphgaehfdfjjaaGreatDoor
set_option maxHeartbeats 8000000
set_option maxRecDepth 100000
open Go.RowKit Go.Extern.Stop Go.Stop Go.Extern
set_option linter.unusedVariables false
attribute [local irreducible] wpList wpAnyH Code.wp Oper.wp Go
theorem Dq{w:World}{base e n c:Nat}{p:O0}{xs:List Value}(k:w.ownsRow base e 1 (.slice p n c) n xs)(hn:0<n):p.isSome=true∧n≤c:=by
 rcases k.2 with ⟨h,_⟩|⟨g,a0,a1,hv,_,_,hc,_⟩
 ·simp only[Value.slice.injEq] at h;omega
 ·simp only[Value.slice.injEq] at hv
  obtain⟨rfl,_,rfl⟩:=hv
  exact⟨rfl,hc⟩
theorem Fw{w:World}{base e c:Nat}{p:O0}{way:List Int}{no:Int}(k:w.ownsRow base e 1 (.slice p (way++[no]).length c) (way++[no]).length ((way++[no]).map V0)):w.ownsRow base e 1 (.slice p way.length c) way.length (way.map V0):=by
 have h:=own_cut (m:=way.length) k (by simp) (Dq k (by simp)).1
 rwa [List.map_append,List.take_left' (by simp)] at h
theorem Zch{w w':World}(h:Zf [301,30] w w'):Zf [301,100,3,30] w w':=h.mono fun t ht=>by
 simp only[List.contains_cons,List.contains_nil,Bool.or_eq_false_iff] at ht ⊢
 exact⟨ht.1,ht.2.2.2⟩
def VisitC(B bw Bi b:Nat)(pi:O0)(ni ci:Nat)(l:Bl)(tree fuel:Int)(d:Nat):Prop :=
 ∀ (way:List Int) (no lo hi:Int) (s:WS) (pe pb pf pw:O0) (ce cb cf cw:Nat) (fv:List Value) (w:World),way.length+d=17→B≤w.heap.size→s.dry=false→WalkR B bw Bi b pi ni ci l tree fuel way s pe pb pf pw ce cb cf cw fv w →
  (Zz l tree fuel d way no lo hi s).es.length≤1000000→(Zz l tree fuel d way no lo hi s).bs.length≤1000000→(Zz l tree fuel d way no lo hi s).fs.length≤1000000 →
  C0 178 #[P0 bw,V0 no,.agg #[V0 lo,V0 hi]] w (VisitP B bw Bi b pi ni ci l tree fuel way (Zz l tree fuel d way no lo hi s) w)
theorem Za2(B bw Bi b:Nat)(pi:O0)(ni ci:Nat)(l:Bl)(tree fuel:Int)(d:Nat)(hV:VisitC B bw Bi b pi ni ci l tree fuel d)(way:List Int)(no lo hi:Int)(val:Bl)(s:WS)(pe pb pf pw:O0)(ce cb cf cw:Nat)(fv:List Value)(w:World)(hBb:B≤bw)(hBw:B≤w.heap.size)(hwd:way.length+1+d=17)(hdry:s.dry=false)(hvl:val.length≤1000)(hR:WalkR B bw Bi b pi ni ci l tree fuel (way++[no]) s pe pb pf pw ce cb cf cw fv w)(he:(Jl (Zz l tree fuel d) way no val (lo,hi) s).es.length≤1000000)(hb_:(Jl (Zz l tree fuel d) way no val (lo,hi) s).bs.length≤1000000)(hf:(Jl (Zz l tree fuel d) way no val (lo,hi) s).fs.length≤1000000) :
 C0 200 #[P0 bw,V0 no,.string ⟨val.toArray⟩,.agg #[V0 lo,V0 hi]] w (VisitP B bw Bi b pi ni ci l tree fuel (way++[no]) (Jl (Zz l tree fuel d) way no val (lo,hi) s) w):=by
 obtain⟨kW,d3,d4,d2,d0,c6,d1,hI⟩:=hR
 have e8:=(Dq c6 (by simp)).2
 have e4:(way++[no]).length=way.length+1:=by simp
 refine zin 44 Tryz.func200 ?_
 refine xa 2 [V0 lo,V0 hi] 304 fun b1 W1 n1=>?_
 refine xr 5 (args:=#[.string ⟨val.toArray⟩]) (Nf val _ hvl) fun W2 a0=>?_
 refine xie 14 (Xy val) (0:Int) (fun d7=>?_) (fun d7=>?_)
 ·have k1:=n1.blk.below a0
  refine xlv 4 k1.rp ?_
  have a5:Jl (Zz l tree fuel d) way no val (lo,hi) s=Zz l tree fuel d (way++[no]) (Qf val:Int) lo hi s:=by unfold Jl;rw[if_pos (by assumption)]
  have hB:=blB (blB (Below.refl B w) hBw n1.below) hBw a0
  have c5:=(kW.below n1.below).below a0
  have a7:=Zb (Zb d3 n1.below) a0
  have b4:=Zb (Zb d4 n1.below) a0
  have b3:=Zb (Zb d2 n1.below) a0
  have b8:=(d0.below n1.below).below a0
  have a9:=Zb (Zb c6 n1.below) a0
  have c0:=(hI.below n1.below).below a0
  refine xc 0 (args:=#[P0 bw,V0 (↑(Qf val):Int),.agg #[V0 lo,V0 hi]]) (hV (way++[no]) (Qf val:Int) lo hi s pe pb pf pw ce cb cf cw fv _ (by simp;omega) (Nat.le_trans hBw hB.size) hdry ⟨c5,a7,b4,b3,b8,a9,d1,c0⟩ (by have q:=he;rw[a5] at q;exact q) (by have q:=hb_;rw[a5] at q;exact q) (by have q:=hf;rw[a5] at q;exact q)) ?_
  rintro _ W4 ⟨u4,e5,e3,c2,e6,e1,e2,c8,e9,e7,rfl,d5,d8,d9⟩
  have c3:=hB.trans d5
  have hO:=((show Zf [301,100,3,30] w _ from(Zf.of_below n1.below)).trans (Zf.of_below a0)).trans d8
  refine xe 4 (.tuple #[]) ?_
  rw[a5]
  exact⟨_,_,_,_,_,_,_,_,_,_,rfl,c3,hO,d9⟩
 have a1:=(kW.below n1.below).below a0
 refine xb 7 8 a1 ?_
 refine xwm 9 ((↑((way++[no]).length):Int)-1) (↑(((way++[no]).length)-1):Int) ?_
 refine xsH 0 (fun _ _ _ _ zo zx zy V=>Ys (k:=(((way++[no]).length)-1)) (b:=pw) (n:=(way++[no]).length) (c:=cw) (i:=(↑(((way++[no]).length)-1):Int)) (ki:=.i64) zo zx zy rfl (by omega) Tryz.underlying28 (by kernel_rfl) V) ?_
 refine xs 2 a1 [.slice pe s.es.length ce,.slice pb s.bs.length cb,V0 s.deep,V0 (s.looked:Int),.slice pf s.fs.length cf,P0 b,V0 tree,V0 fuel,.slice pw (((way++[no]).length)-1) cw,.bool s.dry] fun W5 u5 k5=>?_
 refine xc 8 (args:=#[V0 no,.iface 33 (V0 (Xy val))]) (Qx no (some (Xy val)) [] _ _ rfl) ?_
 rintro _ W6 ⟨r6,rfl,a2,c4⟩
 rw[Vt] at c4
 obtain⟨t6,x6,rfl⟩:=c4.iface
 have a8:=k5.below a2
 have a5:Jl (Zz l tree fuel d) way no val (lo,hi) s=Yo way [no] (Xy val) s:=by unfold Jl;rw[if_neg (by assumption)]
 rw[show(way++[no]).length-1=way.length by omega] at a8
 have hB:=blB (u5.below (blB (blB (Below.refl B w) hBw n1.below) hBw a0) hBb) hBw a2
 have b0:=Zb (u5.own2 (Zb (Zb d2 n1.below) a0) a1 (by decide)) a2
 have a3:=Zb (u5.own2 (Zb (Zb c6 n1.below) a0) a1 (by decide)) a2
 refine xc 0 (args:=#[P0 bw,.iface t6 (x6)]) (Nu B bw _ _ _ _ _ _ _ _ pf _ cf fv pw cw way [no] (Xy val) _ _ _ hBb (Nat.le_trans hBw hB.size) a8 b0 (Fw a3) c4 (by omega) (by have:=hf;rw[a5] at this;simp[Yo] at this;omega)) ?_
 rintro _ W7 ⟨u7,c2,c8,t2,x2,rfl,d6,a6,kN,c1,e0⟩
 refine xs 7 kN [.slice pe s.es.length ce,.slice pb s.bs.length cb,V0 s.deep,V0 (s.looked:Int),.slice c2 (s.fs.length+1) c8,P0 b,V0 tree,V0 fuel,.slice pw ((way++[no]).length) cw,.bool s.dry] fun W8 u8 k8=>?_
 have c7:=u8.below (hB.trans d6) hBb
 have hO:=(((((show Zf [301,100,3,30] w _ from(Zf.of_below n1.below)).trans (Zf.of_below a0)).trans (Zf.of_upd u5 a1 (by decide))).trans (Zf.of_below a2)).trans (Zch a6)).trans (Zf.of_upd u8 kN (by decide))
 have b5:=u8.own2 (Zl (Zb (u5.own2 (Zb (Zb d3 n1.below) a0) a1 (by decide)) a2) a6 (by decide)) kN (by decide)
 have b7:=u8.own2 (Zl (Zb (u5.own2 (Zb (Zb d4 n1.below) a0) a1 (by decide)) a2) a6 (by decide)) kN (by decide)
 have a4:=u8.own2 c1 kN (by decide)
 have b9:=e0.upd u8 kN (by decide)
 have b6:=(((((d0.below n1.below).below a0).only (Zf.of_upd (T:=[301]) u5 a1 (by decide)) (by decide)).below a2).only a6 (by decide)).only (Zf.of_upd (T:=[301]) u8 kN (by decide)) (by decide)
 have b2:=u8.own2 (Zl a3 a6 (by decide)) kN (by decide)
 have c9:=(((((hI.below n1.below).below a0).only (Zf.of_upd (T:=[301]) u5 a1 (by decide)) (by decide)).below a2).only a6 (by decide)).only (Zf.of_upd (T:=[301]) u8 kN (by decide)) (by decide)
 refine xe 1 (.tuple #[]) ?_
 rw[a5]
 exact⟨_,pe,pb,c2,pw,ce,cb,c8,cw,_,rfl,c7,hO,by simpa [Yo] using k8,b5,b7,by simpa [Yo] using a4,Hj.snoc b9 b6,b2,d1,c9⟩
end Go.Proofs.YtgphgaehfdfjjaaGreatDoor
namespace Go.Proofs.YtgphgaehfdfjjaaGreatDoor
set_option maxHeartbeats 8000000
set_option maxRecDepth 100000
open Go.RowKit Go.Extern.Stop Go.Stop Go.Extern
set_option linter.unusedVariables false
def Dn(s t:WS):Prop:=s.es.length≤t.es.length∧s.bs.length≤t.bs.length∧s.fs.length≤t.fs.length
theorem Dn.refl(s:WS):Dn s s:=⟨Nat.le_refl _,Nat.le_refl _,Nat.le_refl _⟩
theorem Dn.trans{s t u:WS}(h:Dn s t)(k:Dn t u):Dn s u:=⟨Nat.le_trans h.1 k.1,Nat.le_trans h.2.1 k.2.1,Nat.le_trans h.2.2 k.2.2⟩
theorem Sx(way bs:List Int)(c:Int)(s:WS):Dn s (Yo way bs c s):=⟨Nat.le_refl _,Nat.le_refl _,by simp[Yo]⟩
theorem Zdg{V:List Int→Int→Int→Int→WS→WS}(hV:∀ way no lo hi s,Dn s (V way no lo hi s))(way:List Int)(no:Int)(val:Bl)(p:Int×Int)(s:WS):Dn s (Jl V way no val p s):=by
 unfold Jl
 split
 ·exact hV _ _ _ _ _
 ·exact Sx _ _ _ _
theorem Zcs{V:List Int→Int→Int→Int→WS→WS}(hV:∀ way no lo hi s,Dn s (V way no lo hi s))(l:Bl)(way:List Int)(no hi:Int)(s:WS)(i:Nat):Dn s (Na V l way no hi s i):=by
 unfold Na
 split
 ·exact Dn.refl _
 ·exact Zdg hV _ _ _ _ _
theorem Tz{V:List Int→Int→Int→Int→WS→WS}(hV:∀ way no lo hi s,Dn s (V way no lo hi s))(l:Bl)(way:List Int)(no hi:Int)(s:WS){k n:Nat}(hk:k≤n):Dn (Yp V l way no hi k s) (Yp V l way no hi n s):=by
 induction n with
 | zero =>
  obtain rfl:k=0:=by omega
  exact Dn.refl _
 | succ n ih =>
   rcases Nat.lt_or_ge n k with q|q
   ·obtain rfl:k=n+1:=by omega
    exact Dn.refl _
   ·rw[Uj]
    exact(ih q).trans (Zcs hV _ _ _ _ _ _)
theorem Zhh(V:List Int→Int→Int→Int→WS→WS)(l:Bl)(way:List Int)(no hi:Int)(s:WS):Yp V l way no hi 0 s=s:=rfl
theorem Uo(l:Bl)(tree fuel:Int):∀ (d:Nat) (way:List Int) (no lo hi:Int) (s:WS),Dn s (Zz l tree fuel d way no lo hi s)
 | 0,_,_,_,_,s=>Dn.refl s
 | d+1,way,no,lo,hi,s=>by
  unfold Zz
  split
  ·exact⟨Nat.le_refl _,Nat.le_refl _,by simp[Yo]⟩
  ·split
   ·exact⟨Nat.le_refl _,Nat.le_refl _,by simp[Yo]⟩
   ·split
    ·exact⟨by simp,by simp,Nat.le_refl _⟩
    ·refine Dn.trans ⟨?_,?_,?_⟩ (Tz (Uo l tree fuel d) l way no hi _ (Nat.zero_le _))
     ·exact Nat.le_refl _
     ·simp[Zhh]
     ·exact Nat.le_refl _
section
variable {B bw Bi b:Nat} {pi:Option Addr} {ni ci:Nat} {l:List UInt8} {tree fuel:Int} {way:List Int} {s:WS} {pe pb pf pw:Option Addr} {ce cb cf cw:Nat} {fv:List Value} {w W:World}
theorem WalkR.below(h:WalkR B bw Bi b pi ni ci l tree fuel way s pe pb pf pw ce cb cf cw fv w)(hb:B0 w W):WalkR B bw Bi b pi ni ci l tree fuel way s pe pb pf pw ce cb cf cw fv W :=
 ⟨h.blk.below hb,Zb h.ents hb,Zb h.blks hb,Zb h.flts hb,h.fltv.below hb,Zb h.ways hb,h.apart,h.img.below hb⟩
theorem WalkR.only{T:List TypeId}(h:WalkR B bw Bi b pi ni ci l tree fuel way s pe pb pf pw ce cb cf cw fv w)(hO:Zf T w W)
 (hT:T.contains 301=false∧T.contains 100=false∧T.contains 3=false∧T.contains 30=false∧T.contains 218=false∧T.contains 72=false∧T.contains 5=false):WalkR B bw Bi b pi ni ci l tree fuel way s pe pb pf pw ce cb cf cw fv W :=
 ⟨h.blk.only hO hT.1,Zl h.ents hO hT.2.1,Zl h.blks hO hT.2.2.1,Zl h.flts hO hT.2.2.2.1,h.fltv.only hO hT.2.2.2.2.1,Zl h.ways hO hT.2.2.1,h.apart,h.img.only hO ⟨hT.2.2.2.2.2.1,hT.2.2.2.2.2.2⟩⟩
end
end Go.Proofs.YtgphgaehfdfjjaaGreatDoor
namespace Go.Proofs.YtgphgaehfdfjjaaGreatDoor
set_option maxHeartbeats 8000000
set_option maxRecDepth 100000
open Go.RowKit Go.Extern.Stop Go.Stop Go.Extern
set_option linter.unusedVariables false
attribute [local irreducible] wpList wpAnyH Code.wp Oper.wp Go
theorem LookP.or{B bw:Nat}{cs:List Value}{l:Bl}{way:List Int}{no tree lo hi deep:Int}{w:World}{e:Ending}{w':World}(h:LookP B bw cs l way no tree lo hi deep w e w') :
 (Zy l way no tree lo hi deep≠0∧∃ a4 b4 k4 n4 c4 v4 m4 d4 ty x,e=.returned (.tuple #[.agg #[V0 a4,.bool b4,.slice k4 n4 c4,.slice v4 m4 d4],.iface ty x])∧Below B w w'∧Zf [301] w w'∧Blk w' bw cs 301∧Vw w' [some no] (some (Zy l way no tree lo hi deep)) (.iface ty x)) ∨
 (Zy l way no tree lo hi deep=0∧∃ kp kc vp vc,e=.returned (.tuple #[.agg #[V0 (Xw (inB l no)),.bool (Xm (inB l no)),.slice kp (Zp (inB l no)) kc,.slice vp (Zp (inB l no)) vc],.nilIface])∧Below B w w'∧Zf [301] w w'∧Blk w' bw cs 301 ∧
 w'.ownsRow w.heap.size 3 1 (.slice kp (Zp (inB l no)) kc) (Zp (inB l no)) ((Xv l no).map V0)∧w'.ownsRow w.heap.size 9 1 (.slice vp (Zp (inB l no)) vc) (Zp (inB l no)) ((Ve l no).map sv)):=by
 obtain⟨h1,h2,h3,⟨h4,a4,b4,k4,n4,c4,v4,m4,d4,ty,x,h5,h6⟩|⟨h4,_,kp,kc,vp,vc,h5,h6,h7⟩⟩:=h
 ·exact .inl ⟨h4,a4,b4,k4,n4,c4,v4,m4,d4,ty,x,h5,h1,h2,h3,h6⟩
 ·exact .inr ⟨h4,kp,kc,vp,vc,h5,h1,h2,h3,h6,h7⟩
theorem widG_24(t:Int)(b:Bool):widG t b≤24:=by
 unfold widG Uh
 repeat' split
 all_goals omega
theorem Gc(l:Bl)(n i:Nat):((Ky l n).getD i []).length≤1000:=by
 by_cases h:i<n
 ·rw[Zbp l h]
  unfold Cv
  rw[List.length_take]
  have:=widG_24 (Xw l) (Xm l)
  unfold Xk
  omega
 ·simp[List.getD,List.getElem?_eq_none (show(Ky l n).length≤i by rw[Vm];omega)]
theorem Bh(p:O0)(n c n2 c2:Nat):(Value.slice p n c).ownBlock=(Value.slice p n2 c2).ownBlock:=by
 cases p<;>rfl
theorem Kn.len{p q:O0}{n c m d:Nat}(h:Kn (.slice p n c) (.slice q m d))(n2 c2 m2 d2:Nat):Kn (.slice p n2 c2) (.slice q m2 d2):=fun j h1 h2 =>
 h j ((Bh _ _ _ _ _).trans h1) ((Bh _ _ _ _ _).trans h2)
def prC (p:Int×Int):List Value:=[V0 p.1,V0 p.2]
theorem prC_len(p:Int×Int):(prC p).length=2:=rfl
theorem flat2_prC(l:List (Int×Int)):Wn l=l.flatMap prC:=by
 induction l with
 | nil=>rfl
 | cons x l ih=>simp only[Wn,List.flatMap_cons,prC];rfl
theorem look_fits{l:Bl}{way:List Int}{no tree lo hi deep:Int}(h:Zy l way no tree lo hi deep=0):Yt lo hi (Xv l no)=0∧way.length<16:=by
 unfold Zy at h
 by_cases h1:Vf way no=true
 ·rw[if_pos h1] at h;cases h
 rw[if_neg h1] at h
 by_cases h2:16≤way.length
 ·rw[if_pos h2] at h;cases h
 rw[if_neg h2] at h
 by_cases h3:Xd l no tree≠0
 ·rw[if_pos h3] at h;exact absurd h h3
 rw[if_neg h3] at h
 by_cases h4:Yt lo hi (Yx (inB l no) (Zp (inB l no)))≠0
 ·rw[if_pos h4] at h;cases h
 exact⟨Decidable.not_not.1 h4,by omega⟩
theorem splitL_get(hi:Int)(l:List Int){i:Nat}(h:i<l.length):(Vj hi l).getD i (0,0)=Xb hi l i:=by simp[Vj,h]
theorem sts_sp{w:World}{p:O0}{n c:Nat}{L:List (Int×Int)}(h:Sl w (.slice p n c) n (Wn L))(hL:L.length=n):Sts prC w (.slice p L.length c) L:=by
 subst hL;rw[flat2_prC] at h;exact h
theorem Tu(hi:Int)(l:List Int):(Vj hi l).length=l.length:=by simp[Vj]
theorem only_le{w w':World}(h:Zf [301,100] w w'):Zf [301,100,3,30] w w':=h.mono fun t ht=>by
 simp only[List.contains_cons,List.contains_nil,Bool.or_eq_false_iff] at ht ⊢
 exact⟨ht.1,ht.2.1,trivial⟩
theorem only_w{w w':World}(h:Zf [301] w w'):Zf [301,100,3,30] w w':=h.mono fun t ht=>by
 simp only[List.contains_cons,List.contains_nil,Bool.or_eq_false_iff] at ht ⊢
 exact⟨ht.1,trivial⟩
theorem Bu(B bw Bi b:Nat)(pi:O0)(ni ci:Nat)(l:Bl)(tree fuel:Int)(d:Nat)(hV:d≠0→VisitC B bw Bi b pi ni ci l tree fuel d)(way:List Int)(no lo hi:Int)(s:WS)(pe pb pf pw:O0)(ce cb cf cw:Nat)(fv:List Value)(w:World)(hBb:B≤bw)(hBw:B≤w.heap.size)(hwd:way.length+(d+1)=17)(hdry:s.dry=false)(hfu:fuel≤1000000)(hR:WalkR B bw Bi b pi ni ci l tree fuel way s pe pb pf pw ce cb cf cw fv w)(he:(Zz l tree fuel (d+1) way no lo hi s).es.length≤1000000)(hb_:(Zz l tree fuel (d+1) way no lo hi s).bs.length≤1000000)(hf:(Zz l tree fuel (d+1) way no lo hi s).fs.length≤1000000) :
 C0 178 #[P0 bw,V0 no,.agg #[V0 lo,V0 hi]] w (VisitP B bw Bi b pi ni ci l tree fuel way (Zz l tree fuel (d+1) way no lo hi s) w):=by
 obtain⟨kW,f0,f1,e8,e9,e5,d0,hI⟩:=hR
 have z5:=f1
 have w7:=e5
 have bj:=Uo l tree fuel (d+1) way no lo hi s
 have bo:=Nat.le_trans bj.2.1 hb_
 refine zin 106 Tryz.func178 ?_
 refine xa 2 [V0 lo,V0 hi] 304 fun b1 W1 n1=>?_
 refine xd 4 .z ?_
 have f6:=(kW.below n1.below).below (Za W1)
 refine xb (.e [0,1,2,3] 4) 3 f6 ?_
 refine xb (.e [5,6,7] 8) 7 f6 ?_
 refine xid (.r [9] 2) ((s.looked:Int)≥fuel) (fun bl=>?_) (fun bl=>?_)
 ·refine xc 5 (args:=#[V0 no,.iface 33 (V0 12)]) (Qx no (some 12) [] _ _ rfl) ?_
  rintro _ W3 ⟨r3,rfl,f7,w4⟩
  rw[Vt] at w4
  obtain⟨t3,x3,rfl⟩:=w4.iface
  have d3:(Zz l tree fuel (d+1) way no lo hi s)={ Yo way [no] 12 s with dry:=true }:=by unfold Zz;rw[if_pos (by omega)]
  have hB:=blB (blB (blB (Below.refl B w) hBw n1.below) hBw (Za W1)) hBw f7
  have x1:=f6.below f7
  have s1:=Zb (Zb (Zb e8 n1.below) (Za W1)) f7
  have h2:=Zb (Zb (Zb e5 n1.below) (Za W1)) f7
  refine xc 0 (args:=#[P0 bw,.iface t3 (x3)]) (Nu B bw _ _ _ _ _ _ _ _ pf _ cf fv pw cw way [no] 12 _ _ _ hBb (Nat.le_trans hBw hB.size) x1 s1 h2 w4 (by omega) (by have:=hf;rw[d3] at this;simp[Yo] at this;omega)) ?_
  rintro _ W4 ⟨u4,u1,v1,t2,x2,rfl,bh,l1,kN,j9,y9⟩
  refine xs 7 kN [.slice pe s.es.length ce,.slice pb s.bs.length cb,V0 s.deep,V0 (s.looked:Int),.slice u1 (s.fs.length+1) v1,P0 b,V0 tree,V0 fuel,.slice pw way.length cw,.bool true] fun W5 u5 k5=>?_
  have z3:=u5.below (hB.trans bh) hBb
  have hO:=((((show Zf [301,100,3,30] w _ from(Zf.of_below n1.below)).trans (Zf.of_below (Za W1))).trans (Zf.of_below f7)).trans (Zch l1)).trans (Zf.of_upd u5 kN (by decide))
  have o6:=u5.own2 (Zl (Zb (Zb (Zb f0 n1.below) (Za W1)) f7) l1 (by decide)) kN (by decide)
  have m5:=u5.own2 (Zl (Zb (Zb (Zb f1 n1.below) (Za W1)) f7) l1 (by decide)) kN (by decide)
  have j0:=u5.own2 j9 kN (by decide)
  have o2:=y9.upd u5 kN (by decide)
  have t4:=((((e9.below n1.below).below (Za W1)).below f7).only l1 (by decide)).only (Zf.of_upd (T:=[301]) u5 kN (by decide)) (by decide)
  have n3:=u5.own2 (Zl h2 l1 (by decide)) kN (by decide)
  have w5:=((((hI.below n1.below).below (Za W1)).below f7).only l1 (by decide)).only (Zf.of_upd (T:=[301]) u5 kN (by decide)) (by decide)
  refine xe 4 (.tuple #[]) ?_
  rw[d3]
  exact⟨_,pe,pb,u1,pw,ce,cb,v1,cw,_,rfl,z3,hO,by simpa [Yo] using k5,o6,m5,by simpa [Yo] using j0,Hj.snoc o2 t4,n3,d0,w5⟩
 have k1:=n1.blk.below (Za W1)
 refine xlv 6 k1.rp ?_
 have hB:=blB (blB (Below.refl B w) hBw n1.below) hBw (Za W1)
 have e4:=Zb (Zb e5 n1.below) (Za W1)
 have f9:=(hI.below n1.below).below (Za W1)
 refine xc 0 (args:=#[P0 bw,V0 no,.agg #[V0 lo,V0 hi]]) ((Zdb B Bi b bw pi ni ci l _ _ _ _ _ pw cw way no tree lo hi s.deep (s.looked:Int) _ hBb (Nat.le_trans hBw hB.size) f6 e4 f9 (by omega) (by omega) (by omega)).mono (fun _ _ h=>LookP.or h)) ?_
 rintro e W6 aw
 rcases aw with ⟨hz,a4,b4,k4,n4,c4,v4,m4,d4,ty,x,rfl,z4,c3,z9,av⟩|⟨hz,kp,kc,vp,vc,rfl,z4,c3,z9,hk,v3⟩
 ·refine xa 3 [V0 0,.bool false,S0,S0] 38 fun b7 W7 n7=>?_
  have p9:=hB.trans z4
  have g7:=n7.ge0 p9
  refine xsv 0 n7.blk [V0 a4,.bool b4,.slice k4 n4 c4,.slice v4 m4 d4] fun W8 u8 k8=>?_
  have d3:(Zz l tree fuel (d+1) way no lo hi s)=Yo way [no] (Zy l way no tree lo hi s.deep) { s with looked:=s.looked+1 }:=by unfold Zz;rw[if_neg (by omega),if_pos hz]
  have o8:=u8.below (blB p9 hBw n7.below) (Nat.le_trans hBw g7)
  have o7:=u8.blkT (z9.below n7.below) n7.blk (by decide)
  have r4:=u8.own2 (Zb (Zl (Zb (Zb e8 n1.below) (Za W1)) c3 (by decide)) n7.below) n7.blk (by decide)
  have h4:=u8.own2 (Zb (Zl e4 c3 (by decide)) n7.below) n7.blk (by decide)
  have s6:=(av.below n7.below).upd u8 n7.blk (by decide)
  refine xc 15 (args:=#[P0 bw,.iface ty (x)]) (Nu B bw _ _ _ _ _ _ _ _ pf _ cf fv pw cw way [no] (Zy l way no tree lo hi s.deep) _ _ _ hBb (Nat.le_trans hBw o8.size) o7 r4 h4 s6 (by omega) (by have:=hf;rw[d3] at this;simp[Yo] at this;omega)) ?_
  rintro _ W9 ⟨u9,u1,v1,t2,x2,rfl,bg,l2,kN,j9,y9⟩
  have z8:=o8.trans bg
  have hO:=(Zf.upd_new ((((show Zf [301,100,3,30] w _ from(Zf.of_below n1.below)).trans (Zf.of_below (Za W1))).trans (only_w c3)).trans (Zf.of_below n7.below)) u8 g7).trans (Zch l2)
  have p4:=Zl (u8.own2 (Zb (Zl (Zb (Zb f0 n1.below) (Za W1)) c3 (by decide)) n7.below) n7.blk (by decide)) l2 (by decide)
  have q0:=Zl (u8.own2 (Zb (Zl (Zb (Zb f1 n1.below) (Za W1)) c3 (by decide)) n7.below) n7.blk (by decide)) l2 (by decide)
  have o0:=(((((e9.below n1.below).below (Za W1)).only c3 (by decide)).below n7.below).only (Zf.of_upd (T:=[38]) u8 n7.blk (by decide)) (by decide)).only l2 (by decide)
  have s7:=Zl h4 l2 (by decide)
  have x7:=(((f9.only c3 (by decide)).below n7.below).only (Zf.of_upd (T:=[38]) u8 n7.blk (by decide)) (by decide)).only l2 (by decide)
  refine xe 4 (.tuple #[]) ?_
  rw[d3]
  exact⟨_,pe,pb,u1,pw,ce,cb,v1,cw,_,rfl,z8,hO,by simpa [Yo] using kN,p4,q0,by simpa [Yo] using j9,Hj.snoc y9 o0,s7,d0,x7⟩
 have y8:=(blB (blB (Below.refl B w) hBw n1.below) hBw (Za W1)).size
 have j8:=Zg hk y8
 have j7:=Kn.of_lt z5 j8 (Nat.le_refl _)
 have i3:=Kn.of_lt w7 j8 (Nat.le_refl _)
 refine xa 3 [V0 0,.bool false,S0,S0] 38 fun aj bp a7=>?_
 have r2:=hB.trans z4
 have y4:=a7.ge0 r2
 refine xsv 0 a7.blk [V0 (Xw (inB l no)),.bool (Xm (inB l no)),.slice kp (Zp (inB l no)) kc,.slice vp (Zp (inB l no)) vc] fun ct c8 az=>?_
 have g9:=c8.blkT (z9.below a7.below) a7.blk (by decide)
 refine xb 20 1 g9 ?_
 refine xbs 1 1 [V0 no] 3 fun ap bt b8=>?_
 have r5:=c8.below (blB r2 hBw a7.below) (Nat.le_trans hBw y4)
 have cg:=b8.ge0 r5
 have h0:=c8.own2 (Zb (Zl (Zb (Zb f1 n1.below) (Za W1)) c3 (by decide)) a7.below) a7.blk (by decide)
 have t7:=Zw h0 b8
 have h5:=c8.own2 (Zb (Zl e4 c3 (by decide)) a7.below) a7.blk (by decide)
 have v6:=Zw h5 b8
 have t5:=c8.own2 (Zb j8 a7.below) a7.blk (by decide)
 have v9:=Zw t5 b8
 have a1:=Zb h0 b8.below
 have i4:=blB r5 hBw b8.below
 refine xbi 0 fun _ _ _ _ zJ zQ zo zx zy zK=>Dy (b:=ap) (c:=1) (m:=1) (news:=[V0 no]) (V0 0) 1 8 ((s.bs++[no]).length) (((s.bs++[no]).map V0)) zo Tryz.underlying28 (by kernel_rfl) rfl (by decide) zx a1 zy b8.blk rfl (by simp[Value.oneCell']) (by unfold maxLen;omega) (by omega) (Nat.le_trans hBw i4.size) (by simp) (by simp) fun p8 q1 cr ac a6 s3 t6=>?_
 have h1:=Zb h5 b8.below
 have g2:=d0.row h1 a6
 replace d0:=(d0.grow h1 t6)
 have q5:=Zb t5 b8.below
 have j4:=j7.row q5 a6
 replace j7:=(j7.grow q5 t6)
 have e7:=g2
 have h6:=j4
 refine zK _ _ ?_
 have a0:=(g9.below b8.below).grown a6 a1 (by decide)
 refine xs 3 a0 [.slice pe s.es.length ce,.slice p8 ((s.bs++[no]).length) q1,V0 s.deep,V0 ((s.looked:Int)+1),.slice pf s.fs.length cf,P0 b,V0 tree,V0 fuel,.slice pw way.length cw,.bool s.dry] fun bq c1 x0=>?_
 have e2:=c1.blkT ((az.below b8.below).grown a6 a1 (by decide)) a0 (by decide)
 refine xb 6 1 e2 ?_
 refine xi 2 (Xm (inB l no)) (fun y7=>?_) (fun y7=>?_)
 ·refine xlv 4 e2.rp ?_
  have d3:(Zz l tree fuel (d+1) way no lo hi s)={ s with looked:=s.looked+1,bs:=s.bs++[no],deep:=((way.length+1:Nat):Int),es:=s.es++Ks (Xv l no) (Ve l no) no (Zp (inB l no)) }:=by unfold Zz;rw[if_neg (by omega),if_neg (by omega),if_pos (by assumption)]
  have m0:=c1.below (i4.trans s3) hBb
  have o9:=c1.own2 (Zj (Zb (c8.own2 (Zb (Zl (Zb (Zb f0 n1.below) (Za W1)) c3 (by decide)) a7.below) a7.blk (by decide)) b8.below) a6 a1 (by decide)) a0 (by decide)
  have ab:=c1.own2 h6 a0 (by decide)
  have s8:=c1.own2 (Zj (Zb (c8.own2 (Zb (Zg v3 y8) a7.below) a7.blk (by decide)) b8.below) a6 a1 (by decide)) a0 (by decide)
  refine xc 0 (args:=#[P0 bw,V0 no,.agg #[V0 (Xw (inB l no)),.bool (Xm (inB l no)),.slice kp (Zp (inB l no)) kc,.slice vp (Zp (inB l no)) vc]]) (Zda B bw _ _ _ _ _ _ _ _ pe ce s.es pw cw way no _ _ kp vp _ kc vc (Xv l no) (Ve l no) _ hBb (Nat.le_trans hBw m0.size) x0 o9 (fun W _ q=>Zh (Zl ab q (by decide))) (fun W _ q=>Zh (Zl s8 q (by decide))) (by simp[Xv,Yx]) (by simp[Ve,Ky]) (by omega) (by have:=he;rw[d3] at this;simp[Hu] at this;omega)) ?_
  rintro _ cc ⟨ca,ay,au,rfl,w2,d8,kE,bm⟩
  have w3:=m0.trans w2
  have hO:=((((Zf.upd_new ((((show Zf [301,100,3,30] w _ from(Zf.of_below n1.below)).trans (Zf.of_below (Za W1))).trans (only_w c3)).trans (Zf.of_below a7.below)) c8 y4).trans (Zf.of_below b8.below)).trans (Zf.of_grown a6 a1 (by decide))).trans (Zf.of_upd c1 a0 (by decide))).trans (only_le d8)
  have o4:=Zl (c1.own2 ac a0 (by decide)) d8 (by decide)
  have o3:=Zl (c1.own2 (Zj (Zb (c8.own2 (Zb (Zl (Zb (Zb e8 n1.below) (Za W1)) c3 (by decide)) a7.below) a7.blk (by decide)) b8.below) a6 a1 (by decide)) a0 (by decide)) d8 (by decide)
  have n5:=((((((((e9.below n1.below).below (Za W1)).only c3 (by decide)).below a7.below).only (Zf.of_upd (T:=[38]) c8 a7.blk (by decide)) (by decide)).below b8.below).only (Zf.of_grown (T:=[3]) a6 a1 (by decide)) (by decide)).only (Zf.of_upd (T:=[301]) c1 a0 (by decide)) (by decide)).only d8 (by decide)
  have q9:=Zl (c1.own2 e7 a0 (by decide)) d8 (by decide)
  have y3:=((((((f9.only c3 (by decide)).below a7.below).only (Zf.of_upd (T:=[38]) c8 a7.blk (by decide)) (by decide)).below b8.below).only (Zf.of_grown (T:=[3]) a6 a1 (by decide)) (by decide)).only (Zf.of_upd (T:=[301]) c1 a0 (by decide)) (by decide)).only d8 (by decide)
  refine xe 4 (.tuple #[]) ?_
  rw[d3]
  exact⟨_,ay,_,pf,pw,au,_,cf,cw,fv,rfl,w3,hO,by simpa [Hu] using kE,by simpa [Hu] using bm,by simpa using o4,o3,n5,q9,by simpa using d0,y3⟩
 refine xb 8 8 x0 ?_
 refine xbs 1 1 [V0 no] 3 fun bc cm c7=>?_
 have h7:=c1.below (i4.trans s3) hBb
 have cp:=c7.ge0 h7
 have g6:=c1.own2 e7 a0 (by decide)
 have u7:=Zw g6 c7
 have q2:=c1.own2 h6 a0 (by decide)
 have aa:=Zw q2 c7
 have h9:=c1.own2 ac a0 (by decide)
 have v5:=Zw h9 c7
 have a2:=Zb g6 c7.below
 have i0:=blB h7 hBw c7.below
 refine xbi 0 fun _ _ _ _ zJ zQ zo zx zy zK=>Dy (b:=bc) (c:=1) (m:=1) (news:=[V0 no]) (V0 0) 1 8 ((way++[no]).length) (((way++[no]).map V0)) zo Tryz.underlying28 (by kernel_rfl) rfl (by decide) zx a2 zy c7.blk rfl (by simp[Value.oneCell']) (by unfold maxLen;omega) (by omega) (Nat.le_trans hBw i0.size) (by simp) (by simp) fun x5 y5 cl ar b9 y6 m2=>?_
 have g8:=Zb h9 c7.below
 have f8:=d0.symm.row g8 b9
 replace d0:=(d0.symm.grow g8 m2).symm
 have r1:=Zb q2 c7.below
 have j1:=i3.row r1 b9
 replace i3:=(i3.grow r1 m2)
 have k0:=f8
 have s5:=j1
 refine zK _ _ ?_
 have a3:=(x0.below c7.below).grown b9 a2 (by decide)
 refine xs 2 a3 [.slice pe s.es.length ce,.slice p8 ((s.bs++[no]).length) q1,V0 s.deep,V0 ((s.looked:Int)+1),.slice pf s.fs.length cf,P0 b,V0 tree,V0 fuel,.slice x5 ((way++[no]).length) y5,.bool s.dry] fun cd d9 ba=>?_
 have q3:=d9.blkT (((c1.blkT (((c8.blkT ((k1.only c3 (by decide)).below a7.below) a7.blk (by decide)).below b8.below).grown a6 a1 (by decide)) a0 (by decide)).below c7.below).grown b9 a2 (by decide)) a3 (by decide)
 refine xlv 5 q3.rp ?_
 have h3:=d9.blkT ((e2.below c7.below).grown b9 a2 (by decide)) a3 (by decide)
 refine xb 1 2 h3 ?_
 have h8:=d9.below (i0.trans y6) hBb
 have y2:=h8.size
 obtain⟨x9,aq⟩:=look_fits hz
 have n8:(Xv l no).length=Zp (inB l no):=by simp[Xv,Yx]
 have ch:Zp (inB l no)<65536:=Ba _ 2 2
 have w0:=d9.own2 s5 a3 (by decide)
 refine xc 0 (args:=#[.agg #[V0 lo,V0 hi],.slice kp (Zp (inB l no)) kc]) (Zbu lo hi _ (Xv l no) _ (by rw[n8];omega) (Pe (Zh w0) n8)) ?_
 rintro _ bd ⟨cs,rfl,b5,_,x4⟩
 obtain⟨gs,rfl,bk,kS⟩:=x4 x9
 rw[n8]
 have k7:=Xa (size:=2) (n:=Zp (inB l no)) kS (Nat.le_trans y2 bk) (by rw[Cn,Tu,n8]) (by unfold maxLen;omega)
 have d3:(Zz l tree fuel (d+1) way no lo hi s)=(Yp (Zz l tree fuel d) l way no hi (Zp (inB l no)) { s with looked:=s.looked+1,bs:=s.bs++[no] }):=by unfold Zz;rw[if_neg (by omega),if_neg (by omega),if_neg (by simp;assumption)]
 have m7:(Vj hi (Xv l no)).length=(Zp (inB l no)):=by rw[Tu,n8]
 have ad:(Ve l no).length=(Zp (inB l no)):=by simp[Ve,Ky]
 have q6:=ba.below b5
 have p3:=Zb (d9.own2 (Zj (Zb (c1.own2 (Zj (Zb (c8.own2 (Zb (Zl (Zb (Zb f0 n1.below) (Za W1)) c3 (by decide)) a7.below) a7.blk (by decide)) b8.below) a6 a1 (by decide)) a0 (by decide)) c7.below) b9 a2 (by decide)) a3 (by decide)) b5
 have n9:=Zb (d9.own2 k0 a3 (by decide)) b5
 have p5:=Zb (d9.own2 (Zj (Zb (c1.own2 (Zj (Zb (c8.own2 (Zb (Zl (Zb (Zb e8 n1.below) (Za W1)) c3 (by decide)) a7.below) a7.blk (by decide)) b8.below) a6 a1 (by decide)) a0 (by decide)) c7.below) b9 a2 (by decide)) a3 (by decide)) b5
 have p7:=(((((((((((e9.below n1.below).below (Za W1)).only c3 (by decide)).below a7.below).only (Zf.of_upd (T:=[38]) c8 a7.blk (by decide)) (by decide)).below b8.below).only (Zf.of_grown (T:=[3]) a6 a1 (by decide)) (by decide)).only (Zf.of_upd (T:=[301]) c1 a0 (by decide)) (by decide)).below c7.below).only (Zf.of_grown (T:=[3]) b9 a2 (by decide)) (by decide)).only (Zf.of_upd (T:=[301]) d9 a3 (by decide)) (by decide)).below b5
 have o5:=Zb (d9.own2 ar a3 (by decide)) b5
 have z2:=(((((((((f9.only c3 (by decide)).below a7.below).only (Zf.of_upd (T:=[38]) c8 a7.blk (by decide)) (by decide)).below b8.below).only (Zf.of_grown (T:=[3]) a6 a1 (by decide)) (by decide)).only (Zf.of_upd (T:=[301]) c1 a0 (by decide)) (by decide)).below c7.below).only (Zf.of_grown (T:=[3]) b9 a2 (by decide)) (by decide)).only (Zf.of_upd (T:=[301]) d9 a3 (by decide)) (by decide)).below b5
 have hR:WalkR B bw Bi b pi ni ci l tree fuel (way++[no]) (Yp (Zz l tree fuel d) l way no hi 0 { s with looked:=s.looked+1,bs:=s.bs++[no] }) pe _ pf _ ce _ cf _ fv bd:=⟨q6,p3,n9,p5,p7,o5,d0,z2⟩
 have l4:=Zb (d9.own2 (Zj (Zb (c1.own2 (Zj (Zb (c8.own2 (Zb (Zg v3 y8) a7.below) a7.blk (by decide)) b8.below) a6 a1 (by decide)) a0 (by decide)) c7.below) b9 a2 (by decide)) a3 (by decide)) b5
 have t0:=blB h8 hBw b5
 have hO:=(((((((Zf.upd_new ((((show Zf [301,100,3,30] w _ from(Zf.of_below n1.below)).trans (Zf.of_below (Za W1))).trans (only_w c3)).trans (Zf.of_below a7.below)) c8 y4).trans (Zf.of_below b8.below)).trans (Zf.of_grown a6 a1 (by decide))).trans (Zf.of_upd c1 a0 (by decide))).trans (Zf.of_below c7.below)).trans (Zf.of_grown b9 a2 (by decide))).trans (Zf.of_upd d9 a3 (by decide))).trans (Zf.of_below b5)
 have x6:=q3.below b5
 have o1:=h3.below b5
 refine zl 5 106 (fun zm bf V=>∃ (i:Nat) (i8 i7 i2 f3:O0) (j2 j6 i9 g3:Nat) (m6:List Value),bf=[(0,P0 bw),(1,V0 no),(6,P0 aj),(71,.slice (S1 gs) (Zp (inB l no)) (Zp (inB l no))),(72,V0 (↑(Zp (inB l no)):Int)),(73,V0 (i:Int))]∧zm=(Zp (inB l no))-((i:Int)).toNat∧Below B w V∧Zf [301,100,3,30] w V∧Blk V b1 ([V0 lo,V0 hi]) 304∧Blk V aj ([V0 (Xw (inB l no)),.bool (Xm (inB l no)),.slice kp (Zp (inB l no)) kc,.slice vp (Zp (inB l no)) vc]) 38∧WalkR B bw Bi b pi ni ci l tree fuel (way++[no]) (Yp (Zz l tree fuel d) l way no hi i { s with looked:=s.looked+1,bs:=s.bs++[no] }) i8 i7 i2 f3 j2 j6 i9 g3 m6 V∧V.ownsRow w.heap.size 9 1 (.slice vp (Zp (inB l no)) vc) (Zp (inB l no)) ((Ve l no).map sv)∧V.ownsRow w.heap.size 304 2 (.slice (S1 gs) (Zp (inB l no)) (Zp (inB l no))) (Zp (inB l no)) (Wn (Vj hi (Xv l no)))∧i≤(Zp (inB l no))∧(Yp (Zz l tree fuel d) l way no hi i { s with looked:=s.looked+1,bs:=s.bs++[no] }).dry=false) ⟨0,_,_,_,_,_,_,_,_,_,rfl,rfl,t0,hO,x6,o1,hR,l4,k7,Nat.zero_le _,hdry⟩ ?_
 rintro _ _ c2 ⟨i,i8,i7,i2,f3,j2,j6,i9,g3,m6,rfl,rfl,d5,c9,b3,c6,hR,v3,k7,br,ak⟩ co z1 cn
 have j5:=hR.blk
 refine xid 6 ((i:Int)<(↑(Zp (inB l no)):Int)) (fun x8=>?_) (fun x8=>?_)
 ·refine xx 7 _ (Zp (inB l no)) i 2 (Sts.cell (sts_sp (Zh k7) m7) prC_len (0,0) (k:=i) (i:=0) (show i<(Vj hi (Xv l no)).length by omega) rfl).1 ?_
  refine xlv 0 (Sts.rp (k:=i) (sts_sp (Zh k7) m7) prC_len (0,0) (by omega) (by decide)) ?_
  refine xa 0 [V0 0,V0 0] 304 fun ck bz c5=>?_
  have d1:=c5.ne b3
  have u0:=c5.ge0 d5
  have g0:=Zw k7 c5
  refine xsv 1 c5.blk [V0 (((Vj hi (Xv l no)).getD i (0,0)).1),V0 (((Vj hi (Xv l no)).getD i (0,0)).2)] fun d7 e0 ax=>?_
  refine xd 3 (.t B [301,100,3,30]) ?_
  have b2:=(e0.blkT (c6.below c5.below) c5.blk (by decide)).below (Za d7)
  refine xbt (.e [0,1,2] 3) 3 B [301,100,3,30] b2 ?_
  have e1:=Zb (e0.own2 (Zb v3 c5.below) c5.blk (by decide)) (Za d7)
  refine xx (.e [4] 5) _ (Zp (inB l no)) i 1 (Strs.elem (Zh e1) ad (k:=i) (by omega)).1 ?_
  refine xlt (.e [] 6) (.t B [301,100,3,30]) (fun V hV=>(Strs.elem (Zh (Zl e1 hV.2 (by decide))) ad (k:=i) (by omega)).2) ?_
  have m3:=ax.below (Za d7)
  refine xlvt (.e [] 7) (.t B [301,100,3,30]) (fun V hV=>(m3.only hV.2 (by decide)).rp) ?_
  have ao:=splitL_get hi (Xv l no) (i:=i) (by omega)
  have f2:Jl (Zz l tree fuel d) way no ((Ve l no).getD i []) (((Vj hi (Xv l no)).getD i (0,0)).1,((Vj hi (Xv l no)).getD i (0,0)).2) (Yp (Zz l tree fuel d) l way no hi i { s with looked:=s.looked+1,bs:=s.bs++[no] })=(Yp (Zz l tree fuel d) l way no hi (i+1) { s with looked:=s.looked+1,bs:=s.bs++[no] }):=by rw[Uj];unfold Na;rw[if_neg (by rw[ak];decide),ao]
  have v7:=Tz (Uo l tree fuel d) l way no hi { s with looked:=s.looked+1,bs:=s.bs++[no] } (show i+1≤(Zp (inB l no)) by omega)
  rw[d3] at he hb_ hf
  have d2:=blB (e0.below (blB d5 hBw c5.below) (Nat.le_trans hBw u0)) hBw (Za d7)
  have v8:=((hR.below c5.below).only (Zf.of_upd (T:=[304]) e0 c5.blk (by decide)) (by decide)).below (Za d7)
  refine yc (.o [] 8) (args:=#[P0 bw,V0 no,.string ⟨((Ve l no).getD i []).toArray⟩,.agg #[V0 (((Vj hi (Xv l no)).getD i (0,0)).1),V0 (((Vj hi (Xv l no)).getD i (0,0)).2)]]) (.t B [301,100,3,30]) (Za2 B bw Bi b pi ni ci l tree fuel d (hV (by omega)) way no _ _ ((Ve l no).getD i []) _ i8 i7 i2 f3 j2 j6 i9 g3 m6 _ hBb (Nat.le_trans hBw d2.size) (by omega) ak (Gc _ _ _) v8 (by rw[f2];exact Nat.le_trans v7.1 he) (by rw[f2];exact Nat.le_trans v7.2.1 hb_) (by rw[f2];exact Nat.le_trans v7.2.2 hf)) ?_
  rintro _ c0 ⟨cj,t8,u3,t9,k3,v0,v2,u2,k2,ae,rfl,g4,b6,u6⟩
  have af:=(e0.blkT (j5.below c5.below) c5.blk (by decide)).below (Za d7)
  refine⟨(sft_only g4 b6),?_⟩
  rw[f2] at u6
  have j5:=u6.blk
  refine xb 7 9 j5 ?_
  refine xi 2 ((Yp (Zz l tree fuel d) l way no hi (i+1) { s with looked:=s.looked+1,bs:=s.bs++[no] }).dry) (fun r7=>?_) (fun r7=>?_)
  ·obtain⟨_,f0,f1,e8,e9,e5,d0,hI⟩:=u6
   have bb:=(Dq e5 (by simp)).2
   have bi:(way++[no]).length=way.length+1:=by simp
   have e6:(Yp (Zz l tree fuel d) l way no hi (Zp (inB l no)) { s with looked:=s.looked+1,bs:=s.bs++[no] })=(Yp (Zz l tree fuel d) l way no hi (i+1) { s with looked:=s.looked+1,bs:=s.bs++[no] }):=loopW_dry _ _ _ _ _ _ (by omega) r7
   refine xd 6 (.t B [301]) ?_
   refine xm2 (.b [0,1,2,3,5,6,7]) 4 8 ?_ ?_
   ·have a9:=j5.below (Za c0)
    refine xb 0 8 a9 ?_
    refine xb (.o [] 8) 8 a9 ?_
    refine xwm (.e [9] 10) ((↑((way++[no]).length):Int)-1) (↑(((way++[no]).length)-1):Int) ?_
    refine xsH (.e [] 11) (fun _ _ _ _ zo zx zy V=>Ys (k:=(((way++[no]).length)-1)) (b:=k3) (n:=(way++[no]).length) (c:=k2) (i:=(↑(((way++[no]).length)-1):Int)) (ki:=.i64) zo zx zy rfl (by omega) Tryz.underlying28 (by kernel_rfl) V) ?_
    refine ys (.o [12,13] 14) a9 [.slice t8 ((Yp (Zz l tree fuel d) l way no hi (i+1) { s with looked:=s.looked+1,bs:=s.bs++[no] }).es.length) v0,.slice u3 ((Yp (Zz l tree fuel d) l way no hi (i+1) { s with looked:=s.looked+1,bs:=s.bs++[no] }).bs.length) v2,V0 (Yp (Zz l tree fuel d) l way no hi (i+1) { s with looked:=s.looked+1,bs:=s.bs++[no] }).deep,V0 ((Yp (Zz l tree fuel d) l way no hi (i+1) { s with looked:=s.looked+1,bs:=s.bs++[no] }).looked:Int),.slice t9 ((Yp (Zz l tree fuel d) l way no hi (i+1) { s with looked:=s.looked+1,bs:=s.bs++[no] }).fs.length) u2,P0 b,V0 tree,V0 fuel,.slice k3 (((way++[no]).length)-1) k2,.bool ((Yp (Zz l tree fuel d) l way no hi (i+1) { s with looked:=s.looked+1,bs:=s.bs++[no] }).dry)] (.t B [301]) fun bu f5 ah=>⟨(Zo f5 a9 hBb (by decide)),?_⟩
    have l5:=(((e0.blk (b3.below c5.below) (Ne.symm (Ne.symm d1))).below (Za d7)).only b6 (by decide)).below (Za c0)
    have l3:=(b2.only b6 (by decide)).below (Za c0)
    have m9:=f5.below (blB (d2.trans g4) hBw (Za c0)) hBb
    have y0:=((((Zf.upd_new (c9.trans (Zf.of_below c5.below)) e0 u0).trans (Zf.of_below (Za d7))).trans b6).trans (Zf.of_below (Za c0))).trans (Zf.of_upd f5 a9 (by decide))
    have n6:=f5.own2 (Zb f0 (Za c0)) a9 (by decide)
    have p2:=f5.own2 (Zb f1 (Za c0)) a9 (by decide)
    have t1:=f5.own2 (Zb e8 (Za c0)) a9 (by decide)
    have l8:=(e9.below (Za c0)).only (Zf.of_upd (T:=[301]) f5 a9 (by decide)) (by decide)
    have i6:=f5.own2 (Zb e5 (Za c0)) a9 (by decide)
    have z6:=(hI.below (Za c0)).only (Zf.of_upd (T:=[301]) f5 a9 (by decide)) (by decide)
    refine xe 1 (.tuple #[]) ?_
    rw[d3,e6]
    rw[show(way++[no]).length-1=way.length by simp] at ah
    exact⟨_,t8,u3,t9,k3,v0,v2,u2,k2,ae,rfl,m9,y0,ah,n6,p2,t1,l8,Fw i6,d0.len _ _ _ _,z6⟩
   have b0:=j5.below (Za c0)
   refine xb 0 8 b0 ?_
   refine xwm (.e [9] 10) ((↑((way++[no]).length):Int)-1) (↑(((way++[no]).length)-1):Int) ?_
   refine xb (.o [] 4) 8 b0 ?_
   refine xsH (.e [] 11) (fun _ _ _ _ zo zx zy V=>Ys (k:=(((way++[no]).length)-1)) (b:=k3) (n:=(way++[no]).length) (c:=k2) (i:=(↑(((way++[no]).length)-1):Int)) (ki:=.i64) zo zx zy rfl (by omega) Tryz.underlying28 (by kernel_rfl) V) ?_
   refine ys (.o [12,13] 14) b0 [.slice t8 ((Yp (Zz l tree fuel d) l way no hi (i+1) { s with looked:=s.looked+1,bs:=s.bs++[no] }).es.length) v0,.slice u3 ((Yp (Zz l tree fuel d) l way no hi (i+1) { s with looked:=s.looked+1,bs:=s.bs++[no] }).bs.length) v2,V0 (Yp (Zz l tree fuel d) l way no hi (i+1) { s with looked:=s.looked+1,bs:=s.bs++[no] }).deep,V0 ((Yp (Zz l tree fuel d) l way no hi (i+1) { s with looked:=s.looked+1,bs:=s.bs++[no] }).looked:Int),.slice t9 ((Yp (Zz l tree fuel d) l way no hi (i+1) { s with looked:=s.looked+1,bs:=s.bs++[no] }).fs.length) u2,P0 b,V0 tree,V0 fuel,.slice k3 (((way++[no]).length)-1) k2,.bool ((Yp (Zz l tree fuel d) l way no hi (i+1) { s with looked:=s.looked+1,bs:=s.bs++[no] }).dry)] (.t B [301]) fun bn g1 ai=>⟨(Zo g1 b0 hBb (by decide)),?_⟩
   have q4:=(((e0.blk (b3.below c5.below) (Ne.symm (Ne.symm d1))).below (Za d7)).only b6 (by decide)).below (Za c0)
   have k9:=(b2.only b6 (by decide)).below (Za c0)
   have s0:=g1.below (blB (d2.trans g4) hBw (Za c0)) hBb
   have z7:=((((Zf.upd_new (c9.trans (Zf.of_below c5.below)) e0 u0).trans (Zf.of_below (Za d7))).trans b6).trans (Zf.of_below (Za c0))).trans (Zf.of_upd g1 b0 (by decide))
   have q8:=g1.own2 (Zb f0 (Za c0)) b0 (by decide)
   have l7:=g1.own2 (Zb f1 (Za c0)) b0 (by decide)
   have r9:=g1.own2 (Zb e8 (Za c0)) b0 (by decide)
   have r6:=(e9.below (Za c0)).only (Zf.of_upd (T:=[301]) g1 b0 (by decide)) (by decide)
   have j3:=g1.own2 (Zb e5 (Za c0)) b0 (by decide)
   have w8:=(hI.below (Za c0)).only (Zf.of_upd (T:=[301]) g1 b0 (by decide)) (by decide)
   refine xe 1 (.tuple #[]) ?_
   rw[d3,e6]
   rw[show(way++[no]).length-1=way.length by simp] at ai
   exact⟨_,t8,u3,t9,k3,v0,v2,u2,k2,ae,rfl,s0,z7,ai,q8,l7,r9,r6,Fw j3,d0.len _ _ _ _,w8⟩
  refine xwm 4 ((i:Int)+1) (↑(i+1):Int) ?_
  have s9:=d2.trans g4
  have w9:=((Zf.upd_new (c9.trans (Zf.of_below c5.below)) e0 u0).trans (Zf.of_below (Za d7))).trans b6
  have e3:=((e0.blk (b3.below c5.below) (Ne.symm (Ne.symm d1))).below (Za d7)).only b6 (by decide)
  have d6:=b2.only b6 (by decide)
  have l9:=Zl e1 b6 (by decide)
  have p6:=Zl (Zb (e0.own3 (Zb k7 c5.below) g0) (Za d7)) b6 (by decide)
  exact ze 2 (z1 _ _ _ ⟨i+1,_,_,_,_,_,_,_,_,_,rfl,rfl,s9,w9,e3,d6,u6,l9,p6,by omega,by assumption⟩ (by omega))
 obtain⟨_,f0,f1,e8,e9,e5,d0,hI⟩:=hR
 have bb:=(Dq e5 (by simp)).2
 have bi:(way++[no]).length=way.length+1:=by simp
 have e6:(Yp (Zz l tree fuel d) l way no hi (Zp (inB l no)) { s with looked:=s.looked+1,bs:=s.bs++[no] })=(Yp (Zz l tree fuel d) l way no hi i { s with looked:=s.looked+1,bs:=s.bs++[no] }):=by rw[show i=(Zp (inB l no)) by omega]
 refine xd 5 (.t B [301]) ?_
 refine xm2 (.b [0,1,2,3,5,6,7]) 4 8 ?_ ?_
 ·have a8:=j5.below (Za c2)
  refine xb 0 8 a8 ?_
  refine xb (.o [] 8) 8 a8 ?_
  refine xwm (.e [9] 10) ((↑((way++[no]).length):Int)-1) (↑(((way++[no]).length)-1):Int) ?_
  refine xsH (.e [] 11) (fun _ _ _ _ zo zx zy V=>Ys (k:=(((way++[no]).length)-1)) (b:=f3) (n:=(way++[no]).length) (c:=g3) (i:=(↑(((way++[no]).length)-1):Int)) (ki:=.i64) zo zx zy rfl (by omega) Tryz.underlying28 (by kernel_rfl) V) ?_
  refine ys (.o [12,13] 14) a8 [.slice i8 ((Yp (Zz l tree fuel d) l way no hi i { s with looked:=s.looked+1,bs:=s.bs++[no] }).es.length) j2,.slice i7 ((Yp (Zz l tree fuel d) l way no hi i { s with looked:=s.looked+1,bs:=s.bs++[no] }).bs.length) j6,V0 (Yp (Zz l tree fuel d) l way no hi i { s with looked:=s.looked+1,bs:=s.bs++[no] }).deep,V0 ((Yp (Zz l tree fuel d) l way no hi i { s with looked:=s.looked+1,bs:=s.bs++[no] }).looked:Int),.slice i2 ((Yp (Zz l tree fuel d) l way no hi i { s with looked:=s.looked+1,bs:=s.bs++[no] }).fs.length) i9,P0 b,V0 tree,V0 fuel,.slice f3 (((way++[no]).length)-1) g3,.bool ((Yp (Zz l tree fuel d) l way no hi i { s with looked:=s.looked+1,bs:=s.bs++[no] }).dry)] (.t B [301]) fun cq g5 ag=>⟨(Zo g5 a8 hBb (by decide)),?_⟩
  have m8:=b3.below (Za c2)
  have k6:=c6.below (Za c2)
  have p1:=g5.below (blB d5 hBw (Za c2)) hBb
  have z0:=(c9.trans (Zf.of_below (Za c2))).trans (Zf.of_upd g5 a8 (by decide))
  have n2:=g5.own2 (Zb f0 (Za c2)) a8 (by decide)
  have p0:=g5.own2 (Zb f1 (Za c2)) a8 (by decide)
  have s4:=g5.own2 (Zb e8 (Za c2)) a8 (by decide)
  have m1:=(e9.below (Za c2)).only (Zf.of_upd (T:=[301]) g5 a8 (by decide)) (by decide)
  have i5:=g5.own2 (Zb e5 (Za c2)) a8 (by decide)
  have w1:=(hI.below (Za c2)).only (Zf.of_upd (T:=[301]) g5 a8 (by decide)) (by decide)
  refine xe 1 (.tuple #[]) ?_
  rw[d3,e6]
  rw[show(way++[no]).length-1=way.length by simp] at ag
  exact⟨_,i8,i7,i2,f3,j2,j6,i9,g3,m6,rfl,p1,z0,ag,n2,p0,s4,m1,Fw i5,d0.len _ _ _ _,w1⟩
 have a5:=j5.below (Za c2)
 refine xb 0 8 a5 ?_
 refine xwm (.e [9] 10) ((↑((way++[no]).length):Int)-1) (↑(((way++[no]).length)-1):Int) ?_
 refine xb (.o [] 4) 8 a5 ?_
 refine xsH (.e [] 11) (fun _ _ _ _ zo zx zy V=>Ys (k:=(((way++[no]).length)-1)) (b:=f3) (n:=(way++[no]).length) (c:=g3) (i:=(↑(((way++[no]).length)-1):Int)) (ki:=.i64) zo zx zy rfl (by omega) Tryz.underlying28 (by kernel_rfl) V) ?_
 refine ys (.o [12,13] 14) a5 [.slice i8 ((Yp (Zz l tree fuel d) l way no hi i { s with looked:=s.looked+1,bs:=s.bs++[no] }).es.length) j2,.slice i7 ((Yp (Zz l tree fuel d) l way no hi i { s with looked:=s.looked+1,bs:=s.bs++[no] }).bs.length) j6,V0 (Yp (Zz l tree fuel d) l way no hi i { s with looked:=s.looked+1,bs:=s.bs++[no] }).deep,V0 ((Yp (Zz l tree fuel d) l way no hi i { s with looked:=s.looked+1,bs:=s.bs++[no] }).looked:Int),.slice i2 ((Yp (Zz l tree fuel d) l way no hi i { s with looked:=s.looked+1,bs:=s.bs++[no] }).fs.length) i9,P0 b,V0 tree,V0 fuel,.slice f3 (((way++[no]).length)-1) g3,.bool ((Yp (Zz l tree fuel d) l way no hi i { s with looked:=s.looked+1,bs:=s.bs++[no] }).dry)] (.t B [301]) fun bx f4 al=>⟨(Zo f4 a5 hBb (by decide)),?_⟩
 have l6:=b3.below (Za c2)
 have l0:=c6.below (Za c2)
 have q7:=f4.below (blB d5 hBw (Za c2)) hBb
 have y1:=(c9.trans (Zf.of_below (Za c2))).trans (Zf.of_upd f4 a5 (by decide))
 have s2:=f4.own2 (Zb f0 (Za c2)) a5 (by decide)
 have r0:=f4.own2 (Zb f1 (Za c2)) a5 (by decide)
 have n0:=f4.own2 (Zb e8 (Za c2)) a5 (by decide)
 have r8:=(e9.below (Za c2)).only (Zf.of_upd (T:=[301]) f4 a5 (by decide)) (by decide)
 have i1:=f4.own2 (Zb e5 (Za c2)) a5 (by decide)
 have w6:=(hI.below (Za c2)).only (Zf.of_upd (T:=[301]) f4 a5 (by decide)) (by decide)
 refine xe 1 (.tuple #[]) ?_
 rw[d3,e6]
 rw[show(way++[no]).length-1=way.length by simp] at al
 exact⟨_,i8,i7,i2,f3,j2,j6,i9,g3,m6,rfl,q7,y1,al,s2,r0,n0,r8,Fw i1,d0.len _ _ _ _,w6⟩
end Go.Proofs.YtgphgaehfdfjjaaGreatDoor
namespace Go.Proofs.YtgphgaehfdfjjaaGreatDoor
set_option maxHeartbeats 8000000
set_option maxRecDepth 100000
open Go.RowKit Go.Extern.Stop Go.Stop Go.Extern
set_option linter.unusedVariables false
theorem Mj{V:List Int→Int→Int→Int→WS→WS}{l:Bl}{way:List Int}{no hi:Int}{s:WS}(P:Nat→WS→Prop)(h0:P 0 s) :
  ∀ n,(∀ i t,i<n→t.dry=false→P i t→P (i+1) (Jl V way no ((Ve l no).getD i []) (Xb hi (Xv l no) i) t))→(∀ i t,i<n→t.dry=true→P i t→P (i+1) t)→P n (Yp V l way no hi n s)
 | 0,_,_=>h0
 | n+1,hs,hd=>by
  have ih:=Mj P h0 n (fun i t hi=>hs i t (by omega)) (fun i t hi=>hd i t (by omega))
  rw[Uj]
  unfold Na
  split
  ·rename_i h;exact hd n _ (by omega) h ih
  ·rename_i h;exact hs n _ (by omega) (by simpa using h) ih
theorem rootE_no(v:Bl):Xy v=0∨Xy v=2∨Xy v=7:=by
 unfold Xy;split
 ·split<;>simp
 ·simp
theorem Tk(l:Bl):∀ n,Yh l n=0∨Yh l n=2∨Yh l n=8
 | 0=>.inl rfl
 | n+1=>by
  rw[Yh]
  split
  ·exact Tk l n
  ·unfold Py;split
   ·simp
   ·split<;>simp
theorem Zgx(l:Bl)(no tree:Int):Xd l no tree≠12:=by
 unfold Xd
 split
 ·unfold Qr
  split
  ·split<;>decide
  ·unfold Yz
   split
   ·split
    ·rcases Tk (inB l no) (Zp (inB l no)) with h|h|h<;>rw[h]<;>decide
    ·decide
   ·decide
 ·unfold inE
  split
  ·unfold Yi
   repeat' split
   all_goals decide
  ·decide
theorem lookE_no(l:Bl)(way:List Int)(no tree lo hi deep:Int):Zy l way no tree lo hi deep≠12:=by
 unfold Zy
 split
 ·decide
 ·split
  ·decide
  ·split
   ·exact Zgx _ _ _
   ·split
    ·decide
    ·split<;>decide
theorem maxG_18(t:Int)(b:Bool):Zf9 t b≤18:=by
 unfold Zf9 Kj
 repeat' split
 all_goals omega
theorem Fu{l:Bl}(h:Yz l=0):Ka l=true:=by
 unfold Yz at h
 split at h
 ·assumption
 ·cases h
theorem Nw{l:Bl}{tree:Int}(h:Qr l tree=0):Yz l=0:=by
 unfold Qr at h
 split at h
 ·assumption
 ·assumption
theorem Ls{l:Bl}{no tree:Int}(h:Xd l no tree=0):inE l 2 no=0∧Qr (inB l no) tree=0:=by
 unfold Xd at h
 split at h
 ·exact⟨by assumption,h⟩
 ·rename_i q;exact absurd h q
theorem Hy{l:Bl}{way:List Int}{no tree lo hi deep:Int}(h:Zy l way no tree lo hi deep=0):Xd l no tree=0∧Yt lo hi (Xv l no)=0∧Zp (inB l no)≤18:=by
 unfold Zy at h
 split at h
 ·cases h
 ·split at h
  ·cases h
  ·split at h
   ·rename_i q;exact absurd h q
   ·rename_i q
    split at h
    ·cases h
    ·rename_i q2
     have q1:Xd l no tree=0:=Decidable.not_not.1 q
     exact⟨q1,Decidable.not_not.1 q2,Nat.le_trans (Hv (Fu (Nw (Ls q1).2))) (maxG_18 _ _)⟩
theorem Gy{lo hi:Int}{L:List Int}(h:Yt lo hi L=0):Qq lo hi=true∧Kt L∧∀ k∈L,lo≤k∧k<hi:=by
 unfold Yt at h
 split at h
 ·split at h
  ·split at h
   ·exact⟨by assumption,by assumption,by assumption⟩
   ·cases h
  ·cases h
 ·cases h
def InBlk(l:Bl)(tree:Int)(x:Ent):Prop :=
 Xd l x.2.2 tree=0∧Xm (inB l x.2.2)=true∧∃ k,k<Zp (inB l x.2.2)∧(Xv l x.2.2).getD k 0=x.1∧(Ve l x.2.2).getD k []=x.2.1∧∀ j,j<k→(Xv l x.2.2).getD j 0≠x.1
def Rise(lo hi:Int)(es:List Ent):Prop:=es.Pairwise (fun x y=>x.1<y.1)∧∀ x∈es,lo≤x.1∧x.1<hi
theorem Rise.nil(lo hi:Int):Rise lo hi []:=⟨.nil,fun _ h=>by cases h⟩
theorem Rise.app{lo mi hi:Int}{a b:List Ent}(h:Rise lo mi a)(k:Rise mi hi b)(h1:lo≤mi)(h2:mi≤hi):Rise lo hi (a++b):=by
 refine⟨List.pairwise_append.2 ⟨h.1,k.1,fun x hx y hy=>?_⟩,fun x hx=>?_⟩
 ·have:=(h.2 x hx).2;have:=(k.2 y hy).1;omega
 ·rcases List.mem_append.1 hx with q|q
  ·have:=h.2 x q;omega
  ·have:=k.2 x q;omega
structure Went(l:List UInt8)(tree fuel:Int)(hd:Option Int)(lo hi:Int)(s t:WS)(es:List Ent)(fs:List (List Int×Int)):Prop where
 esE:t.es=s.es++es
 fsE:t.fs=s.fs++fs
 rise:Rise lo hi es
 inb:∀ x∈es,InBlk l tree x
 flt:∀ f∈fs,f.1.head? = hd∧f.1≠[]∧f.2≠0
 dry:t.dry=true↔s.dry=true∨∃ f∈fs,f.2=12
 fuelE:t.dry=true→s.dry=true∨fuel≤t.looked
 look:s.looked≤fuel.toNat→t.looked≤fuel.toNat
 more:s.looked≤t.looked
 blks:t.bs.length+s.looked≤s.bs.length+t.looked
theorem Went.refl(l:Bl)(tree fuel:Int)(hd:Option Int)(lo hi:Int)(s:WS):Went l tree fuel hd lo hi s s [] [] :=
 ⟨by simp,by simp,Rise.nil _ _,by simp,by simp,by simp,fun h=>.inl h,fun h=>h,Nat.le_refl _,Nat.le_refl _⟩
theorem Went.trans{l:Bl}{tree fuel:Int}{hd:Option Int}{lo mi hi:Int}{s t u:WS}{es es2:List Ent}{fs fs2:List (List Int×Int)}(h:Went l tree fuel hd lo mi s t es fs)(k:Went l tree fuel hd mi hi t u es2 fs2)(h1:lo≤mi)(h2:mi≤hi) :
  Went l tree fuel hd lo hi s u (es++es2) (fs++fs2) where
 esE:=by rw[k.esE,h.esE,List.append_assoc]
 fsE:=by rw[k.fsE,h.fsE,List.append_assoc]
 rise:=h.rise.app k.rise h1 h2
 inb x hx:=by
  rcases List.mem_append.1 hx with q|q
  ·exact h.inb x q
  ·exact k.inb x q
 flt f hf:=by
  rcases List.mem_append.1 hf with q|q
  ·exact h.flt f q
  ·exact k.flt f q
 dry:=by
  rw[k.dry,h.dry]
  constructor
  ·rintro((q|⟨f,q1,q2⟩)|⟨f,q1,q2⟩)
   ·exact .inl q
   ·exact .inr ⟨f,List.mem_append_left _ q1,q2⟩
   ·exact .inr ⟨f,List.mem_append_right _ q1,q2⟩
  ·rintro(q|⟨f,q1,q2⟩)
   ·exact .inl (.inl q)
   ·rcases List.mem_append.1 q1 with q|q
    ·exact .inl (.inr ⟨f,q,q2⟩)
    ·exact .inr ⟨f,q,q2⟩
 fuelE h0:=by
  rcases k.fuelE h0 with q|q
  ·rcases h.fuelE q with q|q
   ·exact .inl q
   ·exact .inr (by have:=k.more;omega)
  ·exact .inr q
 look h0:=k.look (h.look h0)
 more:=Nat.le_trans h.more k.more
 blks:=by have:=h.blks;have:=k.blks;omega
theorem Went.wide{l:Bl}{tree fuel:Int}{hd:Option Int}{lo hi lo2 hi2:Int}{s t:WS}{es:List Ent}{fs:List (List Int×Int)}(h:Went l tree fuel hd lo hi s t es fs)(h1:lo2≤lo)(h2:hi≤hi2):Went l tree fuel hd lo2 hi2 s t es fs :=
 { h with rise:=⟨h.rise.1,fun x hx=>by have:=h.rise.2 x hx;omega⟩ }
theorem Went.note(l:Bl)(tree fuel:Int){hd:Option Int}(lo hi:Int)(way:List Int)(no c:Int)(s:WS)(hc:c≠0)(hc2:c≠12)(hh:(way++[no]).head? = hd):Went l tree fuel hd lo hi s (Yo way [no] c s) [] [(way++[no],c)] :=
 ⟨by simp[Yo],by simp[Yo],Rise.nil _ _,by simp,(fun f hf=>by rw[List.mem_singleton.1 hf];exact⟨hh,by simp,hc⟩),by simp[Yo,hc2],fun h=>.inl (by simpa [Yo] using h),fun h=>by simpa [Yo] using h,Nat.le_refl _,Nat.le_refl _⟩
theorem Gz{lo hi:Int}{L:List Int}(hf:Yt lo hi L=0){i:Nat}(h:i<L.length):lo≤(Xb hi L i).1∧(Xb hi L i).1≤(Xb hi L i).2∧(Xb hi L i).2≤hi∧(i+1<L.length→(Xb hi L i).2=(Xb hi L (i+1)).1):=by
 obtain⟨h1,h2,h3⟩:=Gy hf
 have h4:=h3 L[i] (List.getElem_mem _)
 unfold Xb
 simp only[List.getElem?_eq_getElem h,Option.getD_some]
 by_cases hn:i+1<L.length
 ·have h5:=h3 L[i+1] (List.getElem_mem _)
  have h6:=Kt.lt h2 (i+1) i (by omega) hn
  simp only[List.getElem?_eq_getElem h,List.getElem?_eq_getElem hn,Option.getD_some] at h6 ⊢
  exact⟨h4.1,by omega,by omega,fun _=>trivial⟩
 ·rw[List.getElem?_eq_none (by omega)]
  simp only[Option.getD_none]
  exact⟨h4.1,by omega,Int.le_refl _,fun h=>absurd h hn⟩
theorem leaf_rise{lo hi:Int}{l:Bl}{no:Int}(hf:Yt lo hi (Xv l no)=0)(Vs:List Bl):Rise lo hi (Ks (Xv l no) Vs no (Zp (inB l no))):=by
 obtain⟨h1,h2,h3⟩:=Gy hf
 have hl:(Xv l no).length=Zp (inB l no):=by simp[Xv,Yx]
 refine⟨?_,?_⟩
 ·unfold Ks
  rw[List.pairwise_map]
  refine List.Pairwise.imp_of_mem (R:=fun a b=>a<b) ?_ List.pairwise_lt_range
  intro a b ha hb a0
  have:=Kt.lt h2 b a a0 (by rw[hl];simpa using hb)
  simpa [List.getD] using this
 ·intro x hx
  unfold Ks at hx
  obtain⟨j,hj,rfl⟩:=List.mem_map.1 hx
  have hj:j<(Xv l no).length:=by rw[hl];simpa using hj
  have:=h3 (Xv l no)[j] (List.getElem_mem _)
  simpa [List.getD,hj] using this
theorem leaf_inb{lo hi:Int}{l:Bl}{no tree:Int}(hn:Xd l no tree=0)(hl:Xm (inB l no)=true)(hf:Yt lo hi (Xv l no)=0):∀ x∈Ks (Xv l no) (Ve l no) no (Zp (inB l no)),InBlk l tree x:=by
 intro x hx
 obtain⟨h1,h2,h3⟩:=Gy hf
 have hk:(Xv l no).length=Zp (inB l no):=by simp[Xv,Yx]
 unfold Ks at hx
 obtain⟨j,hj,rfl⟩:=List.mem_map.1 hx
 have hj:j<Zp (inB l no):=by simpa using hj
 refine⟨hn,hl,j,hj,rfl,rfl,fun i hi=>?_⟩
 have:=Kt.lt h2 j i hi (by rw[hk];exact hj)
 simp only[List.getD]
 omega
theorem Dw(l:Bl)(tree fuel:Int):∀ (d:Nat) (way:List Int) (no lo hi:Int) (s:WS),s.dry=false→∃ es fs,Went l tree fuel (way++[no]).head? lo hi s (Zz l tree fuel d way no lo hi s) es fs
  | 0,way,no,lo,hi,s,_=>⟨[],[],Went.refl _ _ _ _ _ _ _⟩
  | d + 1, way, no, lo, hi, s, hs => by
    unfold Zz
    split
    · rename_i hf
      exact⟨[],[(way++[no],12)],by simp[Yo],by simp[Yo],Rise.nil _ _,by simp,by simp,by simp,fun _=>.inr hf,fun h=>h,Nat.le_refl _,Nat.le_refl _⟩
    · rename_i hf
      have a3:s.looked+1≤fuel.toNat:=by omega
      split
      · rename_i he
        have:=Went.note l tree fuel lo hi way no _ { s with looked:=s.looked+1 } he (lookE_no _ _ _ _ _ _ _) rfl
        exact⟨_,_,this.esE,this.fsE,this.rise,this.inb,this.flt,this.dry,fun h=>by simp[Yo,hs] at h,fun _=>a3,by simp[Yo],by simp[Yo]⟩
      · rename_i he
        have he:Zy l way no tree lo hi s.deep=0:=Decidable.not_not.1 he
        obtain⟨hn,a0,hc⟩:=Hy he
        split
        · rename_i hl
          exact⟨_,[],rfl,by simp,leaf_rise a0 _,leaf_inb hn hl a0,by simp,by simp[hs],fun h=>by simp[hs] at h,fun _=>a3,by simp,by simp;omega⟩
        · have hk:(Xv l no).length=Zp (inB l no):=by simp[Xv,Yx]
          have a8:=Gy a0
          have b0:lo≤hi:=by have:=a8.1;unfold Qq at this;simp at this;omega
          have a1:=Mj (V:=Zz l tree fuel d) (l:=l) (way:=way) (no:=no) (hi:=hi) (s:={ s with looked:=s.looked+1,bs:=s.bs++[no] })
            (fun i t=>∃ es fs,Went l tree fuel (way++[no]).head? lo (if i=0 then lo else(Xb hi (Xv l no) (i-1)).2) { s with looked:=s.looked+1,bs:=s.bs++[no] } t es fs)
            ⟨[],[],Went.refl _ _ _ _ _ _ _⟩ (Zp (inB l no)) ?_ ?_
          · obtain⟨es,fs,q⟩:=a1
            refine⟨es,fs,q.esE,q.fsE,?_,q.inb,q.flt,q.dry,fun h=>?_,fun _=>q.look a3,by have:=q.more;simp only at this;omega,by have:=q.blks;simp at this;omega⟩
            · refine⟨q.rise.1,fun x hx=>?_⟩
              have:=q.rise.2 x hx
              split at this
              · omega
              · rename_i h0
                have:=(Gz a0 (i:=Zp (inB l no)-1) (by rw[hk];omega)).2.2.1
                omega
            · rcases q.fuelE h with q2|q2
              · exact .inl q2
              · exact .inr q2
          · rintro i t a2 a6 ⟨es,fs,q⟩
            have hp:=Gz a0 (i:=i) (by rw[hk];exact a2)
            have a4:lo≤(if i=0 then lo else(Xb hi (Xv l no) (i-1)).2)∧(if i=0 then lo else(Xb hi (Xv l no) (i-1)).2)≤(Xb hi (Xv l no) i).1:=by
              split
              · exact⟨Int.le_refl _,hp.1⟩
              · rename_i h0
                have a5:=Gz a0 (i:=i-1) (by rw[hk];omega)
                have:=a5.2.2.2 (by rw[hk];omega)
                rw[show i-1+1=i by omega] at this
                omega
            have q':=q.wide (Int.le_refl lo) a4.2
            rw[if_neg (by omega),Nat.add_sub_cancel]
            unfold Jl
            split
            · obtain⟨a9,b1,r⟩:=Dw l tree fuel d (way++[no]) (Qf ((Ve l no).getD i []):Int) (Xb hi (Xv l no) i).1 (Xb hi (Xv l no) i).2 t a6
              have hh:((way++[no])++[(Qf ((Ve l no).getD i []):Int)]).head? = (way++[no]).head? := by cases way<;>rfl
              rw[hh] at r
              exact⟨_,_,q'.trans r (by omega) hp.2.1⟩
            · rename_i a7
              have r:=Went.note l tree fuel (Xb hi (Xv l no) i).1 (Xb hi (Xv l no) i).2 way no (Xy ((Ve l no).getD i [])) t a7 (by rcases rootE_no ((Ve l no).getD i []) with h|h|h<;>rw[h]<;>decide) rfl
              exact⟨_,_,q'.trans r (by omega) hp.2.1⟩
          · rintro i t a2 a6 ⟨es,fs,q⟩
            have hp:=Gz a0 (i:=i) (by rw[hk];exact a2)
            rw[if_neg (by omega),Nat.add_sub_cancel]
            refine⟨es,fs,q.wide (Int.le_refl _) ?_⟩
            split
            · omega
            · rename_i h0
              have a5:=Gz a0 (i:=i-1) (by rw[hk];omega)
              have:=a5.2.2.2 (by rw[hk];omega)
              rw[show i-1+1=i by omega] at this
              omega
theorem Bv(l:Bl)(tree fuel:Int):∀ (d:Nat) (way:List Int) (no lo hi:Int) (s:WS),s.dry=false →
  (Zz l tree fuel d way no lo hi s).fs.length+(Zz l tree fuel d way no lo hi s).es.length+18*s.looked≤s.fs.length+s.es.length+18*(Zz l tree fuel d way no lo hi s).looked+(if(Zz l tree fuel d way no lo hi s).dry=true then 1 else 0)
 | 0,way,no,lo,hi,s,hs=>by simp[Zz,hs]
 | d+1,way,no,lo,hi,s,hs=>by
  unfold Zz
  split
  ·simp[Yo];omega
  ·split
   ·simp[Yo,hs];omega
   ·rename_i he
    have he:Zy l way no tree lo hi s.deep=0:=Decidable.not_not.1 he
    obtain⟨hn,a3,hc⟩:=Hy he
    split
    ·simp[Hu,hs];omega
    ·have a1:=Mj (V:=Zz l tree fuel d) (l:=l) (way:=way) (no:=no) (hi:=hi) (s:={ s with looked:=s.looked+1,bs:=s.bs++[no] })
      (fun i t=>t.fs.length+t.es.length+18*(s.looked+1)≤s.fs.length+s.es.length+i+18*t.looked+(if t.dry=true then 1 else 0)) (by simp[hs]) (Zp (inB l no)) ?_ ?_
     ·omega
     ·intro i t a2 a0 q
      rw[a0] at q
      unfold Jl
      split
      ·have:=Bv l tree fuel d (way++[no]) (Qf ((Ve l no).getD i []):Int) (Xb hi (Xv l no) i).1 (Xb hi (Xv l no) i).2 t a0
       simp at q
       omega
      ·simp[Yo,a0] at q ⊢;omega
     ·intro i t a2 a0 q;omega
end Go.Proofs.YtgphgaehfdfjjaaGreatDoor
namespace Go.Proofs.YtgphgaehfdfjjaaGreatDoor
set_option maxHeartbeats 8000000
set_option maxRecDepth 100000
open Go.RowKit Go.Extern.Stop Go.Stop Go.Extern
set_option linter.unusedVariables false
attribute [local irreducible] wpList wpAnyH Code.wp Oper.wp Go
theorem Ov{B bw Bi b:Nat}{pi:O0}{ni ci:Nat}{l:Bl}{tree fuel:Int}(hBb:B≤bw)(hfu:fuel≤1000000):∀ d,VisitC B bw Bi b pi ni ci l tree fuel (d+1)
 | 0=>fun a0 no lo hi s pe pb pf pw ce cb cf cw fv w h1 h2 h3 h4 h5 h6 h7=>Bu B bw Bi b pi ni ci l tree fuel 0 (fun h=>absurd rfl h) a0 no lo hi s pe pb pf pw ce cb cf cw fv w hBb h2 h1 h3 hfu h4 h5 h6 h7
 | d+1=>fun a0 no lo hi s pe pb pf pw ce cb cf cw fv w h1 h2 h3 h4 h5 h6 h7=>Bu B bw Bi b pi ni ci l tree fuel (d+1) (fun _=>Ov hBb hfu d) a0 no lo hi s pe pb pf pw ce cb cf cw fv w hBb h2 h1 h3 hfu h4 h5 h6 h7
def ws0:WS:=⟨[],[],0,0,[],false⟩
def Zd(l:Bl)(root tree fuel:Int):WS:=Zz l tree fuel 17 [] root 0 281474976710656 ws0
theorem Pj(l:Bl)(root tree fuel:Int):∃ es fs,Went l tree fuel (some root) 0 281474976710656 ws0 (Zd l root tree fuel) es fs:=Dw l tree fuel 17 [] root 0 281474976710656 ws0 rfl
theorem Cl(l:Bl)(root tree fuel:Int):(Zd l root tree fuel).looked≤fuel.toNat:=by
 obtain⟨_,_,h⟩:=Pj l root tree fuel
 exact h.look (Nat.zero_le _)
theorem Ja(l:Bl)(root tree fuel:Int)(hf:fuel≤1000):(Zd l root tree fuel).es.length≤1000000∧(Zd l root tree fuel).bs.length≤1000000∧(Zd l root tree fuel).fs.length≤1000000:=by
 have h1:=Bv l tree fuel 17 [] root 0 281474976710656 ws0 rfl
 have h2:=Cl l root tree fuel
 obtain⟨_,_,h3⟩:=Pj l root tree fuel
 have h4:=h3.blks
 simp only[ws0,List.length_nil] at h4
 change (Zd l root tree fuel).fs.length+(Zd l root tree fuel).es.length+18*0≤0+0+18*(Zd l root tree fuel).looked+(if(Zd l root tree fuel).dry=true then 1 else 0) at h1
 have h5:(if(Zd l root tree fuel).dry=true then 1 else 0)≤1:=by split<;>omega
 have h6:fuel.toNat≤1000:=by omega
 generalize (if(Zd l root tree fuel).dry=true then 1 else 0)=q at h1 h5
 omega
def walkC(t:WS)(pe pb pf:O0)(ce cb cf:Nat):List Value:=[.slice pe t.es.length ce,.slice pb t.bs.length cb,V0 t.deep,V0 (t.looked:Int),.slice pf t.fs.length cf]
structure WalkV(B:Nat)(t:WS)(pe pb pf:Option Addr)(ce cb cf:Nat)(fv:List Value)(w:World):Prop where
 ents:w.ownsRow B 100 3 (.slice pe t.es.length ce) t.es.length (t.es.flatMap Ji)
 blks:w.ownsRow B 3 1 (.slice pb t.bs.length cb) t.bs.length (t.bs.map (Value.int .i64))
 flts:w.ownsRow B 30 1 (.slice pf t.fs.length cf) t.fs.length fv
 fltv:Hj w t.fs fv
def ScanP(l:Bl)(root tree fuel:Int)(w:World)(e:Ending)(w':World):Prop :=
 ∃ pe pb pf ce cb cf fv,e=.returned (.agg (walkC (Zd l root tree fuel) pe pb pf ce cb cf).toArray)∧B0 w w'∧WalkV w.heap.size (Zd l root tree fuel) pe pb pf ce cb cf fv w'
theorem walk_Scan(Bi b:Nat)(pi:O0)(ni ci:Nat)(l:Bl)(root tree fuel:Int)(w:World)(hfu:fuel≤1000)(hI:ImgR Bi b pi ni ci l w) :
 C0 141 #[P0 b,V0 root,V0 tree,V0 fuel] w (ScanP l root tree fuel w):=by
 refine zin 23 Tryz.func141 ?_
 refine xa 2 [S0,S0,V0 0,V0 0,S0] 175 fun b1 W1 n1=>?_
 refine xa 8 [S0,S0,V0 0,V0 0,S0,P0 b,V0 tree,V0 fuel,S0,.bool false] 301 fun b2 W2 n2=>?_
 refine xr 7 (args:=#[]) (Zdj _) fun W3 a5=>?_
 have a0:=Ja l root tree fuel hfu
 have g2:=n2.ge n1.below
 have hB:=bln (bln n1.below n2.below) a5
 have k2:=n2.blk.below a5
 have a6:=((hI.below n1.below).below n2.below).below a5
 refine xc 0 (args:=#[P0 b2,V0 root,.agg #[V0 0,V0 281474976710656]]) (Ov (B:=w.heap.size) (bw:=b2) (Bi:=Bi) (b:=b) (pi:=pi) (ni:=ni) (ci:=ci) (l:=l) (tree:=tree) (fuel:=fuel) g2 (by omega) 16 [] root 0 281474976710656 ws0 none none none none 0 0 0 0 [] _ rfl hB.size rfl ⟨k2,World.ownsRow_nil _ _ _ _,World.ownsRow_nil _ _ _ _,World.ownsRow_nil _ _ _ _,trivial,World.ownsRow_nil _ _ _ _,Kn.nil _,a6⟩ a0.1 a0.2.1 a0.2.2) ?_
 rintro _ W4 ⟨u4,pe,pb,pf,pw,ce,cb,cf,cw,fv,rfl,b3,b4,hR⟩
 change WalkR _ _ _ _ _ _ _ _ _ _ _ (Zd l root tree fuel) _ _ _ _ _ _ _ _ _ _ at hR
 obtain⟨kW,a9,b0,a8,b5,b7,b6,hI⟩:=hR
 refine xlv 7 (kW.rpp 0 5) ?_
 have k1:=((n1.blk.below n2.below).below a5).only b4 (by decide)
 refine xsv 0 k1 [.slice pe ((Zd l root tree fuel).es.length) ce,.slice pb ((Zd l root tree fuel).bs.length) cb,V0 (Zd l root tree fuel).deep,V0 ((Zd l root tree fuel).looked:Int),.slice pf ((Zd l root tree fuel).fs.length) cf] fun W5 u5 k5=>?_
 have g1:=n1.ge (B3 w)
 have a7:=u5.below (hB.trans b3) g1
 have a1:=u5.own2 a9 k1 (by decide)
 have a3:=u5.own2 b0 k1 (by decide)
 have a2:=u5.own2 a8 k1 (by decide)
 have a4:=b5.only (Zf.of_upd (T:=[175]) u5 k1 (by decide)) (by decide)
 exact xec 3 k5 (.agg #[.slice pe ((Zd l root tree fuel).es.length) ce,.slice pb ((Zd l root tree fuel).bs.length) cb,V0 (Zd l root tree fuel).deep,V0 ((Zd l root tree fuel).looked:Int),.slice pf ((Zd l root tree fuel).fs.length) cf]) ⟨_,_,_,_,_,_,_,rfl,a7,⟨a1,a3,a2,a4⟩⟩
end Go.Proofs.YtgphgaehfdfjjaaGreatDoor
namespace Go.Proofs.YtgphgaehfdfjjaaGreatDoor
set_option maxHeartbeats 8000000
set_option maxRecDepth 100000
open Go.RowKit Go.Extern.Stop Go.Stop Go.Extern
set_option linter.unusedVariables false
structure Wt where
 no:Int
 lo:Int
 hi:Int
 way:List Int
 ft:Int
 wa:Option Addr
 wc:Nat
def Zdo(l:Bl)(tree fuel:Int)(s:WS)(t:Wt):WS :=
 if s.dry=true then s else if t.ft≠0 then Yo t.way [t.no] t.ft s else Zz l tree fuel (17-t.way.length) t.way t.no t.lo t.hi s
def Fi(l:Bl)(tree fuel:Int)(ts:List Wt)(s:WS):WS:=ts.foldl (Zdo l tree fuel) s
theorem doneW_nil(l:Bl)(tree fuel:Int)(s:WS):Fi l tree fuel [] s=s:=rfl
theorem Lu(l:Bl)(tree fuel:Int)(t:Wt)(ts:List Wt)(s:WS):Fi l tree fuel (t::ts) s=Fi l tree fuel ts (Zdo l tree fuel s t):=rfl
theorem doneW_app(l:Bl)(tree fuel:Int)(bs ts:List Wt)(s:WS):Fi l tree fuel (bs++ts) s=Fi l tree fuel ts (Fi l tree fuel bs s):=List.foldl_append
theorem Zau(l:Bl)(tree fuel:Int):∀ (ts:List Wt) (s:WS),s.dry=true→Fi l tree fuel ts s=s
 | [],_,_=>rfl
 | t::ts,s,h=>by rw[Lu,Zdo,if_pos h,Zau l tree fuel ts s h]
theorem oneW_grow(l:Bl)(tree fuel:Int)(s:WS)(t:Wt):Dn s (Zdo l tree fuel s t):=by
 unfold Zdo
 split
 ·exact Dn.refl _
 ·split
  ·exact Sx _ _ _ _
  ·exact Uo _ _ _ _ _ _ _ _ _
theorem Ti(l:Bl)(tree fuel:Int):∀ (ts:List Wt) (s:WS),Dn s (Fi l tree fuel ts s)
 | [],s=>Dn.refl s
 | t::ts,s=>(oneW_grow l tree fuel s t).trans (Ti l tree fuel ts _)
def Kb(l:Bl)(t:Wt)(p:O0)(c i:Nat):Wt :=
 if Xy ((Ve l t.no).getD i [])=0 then⟨Qf ((Ve l t.no).getD i []),(Xb t.hi (Xv l t.no) i).1,(Xb t.hi (Xv l t.no) i).2,t.way++[t.no],0,p,c⟩ else⟨t.no,0,0,t.way,Xy ((Ve l t.no).getD i []),t.wa,t.wc⟩
def Yw(l:Bl)(t:Wt)(p:O0)(c k:Nat):List Wt:=(List.range k).map (Kb l t p c)
theorem Jm(l:Bl)(t:Wt)(p:O0)(c k:Nat):(Yw l t p c k).length=k:=by simp[Yw]
theorem Jo(l:Bl)(t:Wt)(p:O0)(c k:Nat):Yw l t p c (k+1)=Yw l t p c k++[Kb l t p c k]:=by simp[Yw,List.range_succ]
theorem one_fault{l:Bl}{tree fuel:Int}{s:WS}{t:Wt}(hd:s.dry=false)(h:t.ft≠0):Zdo l tree fuel s t=Yo t.way [t.no] t.ft s:=by
 rw[Zdo,if_neg (by rw[hd];decide),if_pos h]
theorem Wu{l:Bl}{tree fuel:Int}{s:WS}{t:Wt}(hd:s.dry=false)(h:t.ft=0):Zdo l tree fuel s t=Zz l tree fuel (17-t.way.length) t.way t.no t.lo t.hi s:=by
 rw[Zdo,if_neg (by rw[hd];decide),if_neg (by omega)]
theorem one_fuel{l:Bl}{tree fuel:Int}{s:WS}{t:Wt}(hd:s.dry=false)(h:t.ft=0)(hw:t.way.length≤16)(hf:fuel≤s.looked):Zdo l tree fuel s t={ Yo t.way [t.no] 12 s with dry:=true }:=by
 rw[Wu hd h,show 17-t.way.length=(16-t.way.length)+1 by omega,Zz,if_pos hf]
theorem one_err{l:Bl}{tree fuel:Int}{s:WS}{t:Wt}(hd:s.dry=false)(h:t.ft=0)(hw:t.way.length≤16)(hf:¬ fuel≤s.looked)(he:Zy l t.way t.no tree t.lo t.hi s.deep≠0) :
 Zdo l tree fuel s t=Yo t.way [t.no] (Zy l t.way t.no tree t.lo t.hi s.deep) { s with looked:=s.looked+1 }:=by
 rw[Wu hd h,show 17-t.way.length=(16-t.way.length)+1 by omega,Zz,if_neg hf,if_pos he]
theorem El{l:Bl}{way:List Int}{no tree lo hi deep:Int}(h:Zy l way no tree lo hi deep=0):way.length<16:=by
 unfold Zy at h
 split at h
 ·cases h
 ·split at h
  ·cases h
  ·omega
theorem one_leaf{l:Bl}{tree fuel:Int}{s:WS}{t:Wt}(hd:s.dry=false)(h:t.ft=0)(hf:¬ fuel≤s.looked)(he:Zy l t.way t.no tree t.lo t.hi s.deep=0)(hl:Xm (inB l t.no)=true) :
 Zdo l tree fuel s t={ s with looked:=s.looked+1,bs:=s.bs++[t.no],deep:=((t.way.length+1:Nat):Int),es:=s.es++Ks (Xv l t.no) (Ve l t.no) t.no (Zp (inB l t.no)) }:=by
 have:=El he
 rw[Wu hd h,show 17-t.way.length=(16-t.way.length)+1 by omega,Zz,if_neg hf,if_neg (by omega),if_pos hl]
theorem one_inner{l:Bl}{tree fuel:Int}{s:WS}{t:Wt}(p:O0)(c:Nat)(hd:s.dry=false)(h:t.ft=0)(hf:¬ fuel≤s.looked)(he:Zy l t.way t.no tree t.lo t.hi s.deep=0)(hl:Xm (inB l t.no)=false) :
 Zdo l tree fuel s t=Fi l tree fuel (Yw l t p c (Zp (inB l t.no))) { s with looked:=s.looked+1,bs:=s.bs++[t.no] }:=by
 have hw:=El he
 rw[Wu hd h,show 17-t.way.length=(16-t.way.length)+1 by omega,Zz,if_neg hf,if_neg (by omega),if_neg (by rw[hl];decide)]
 unfold Fi Yw Yp
 rw[List.foldl_map]
 congr 1
 funext u i
 unfold Na Zdo
 split
 ·rfl
 ·unfold Jl Kb
  by_cases hr:Xy ((Ve l t.no).getD i [])=0
  ·rw[if_pos hr,if_pos hr,if_neg (by simp)]
   simp only[List.length_append,List.length_cons,List.length_nil]
   rw[show 17-(t.way.length+(0+1))=16-t.way.length by omega]
  ·rw[if_neg hr,if_neg hr,if_pos hr]
theorem Rh{l:Bl}:∀ {n:Nat},Yh l n=0→∀ i,i<n→Py l i=0
 | 0,_,i,h=>absurd h (by omega)
 | n+1,h,i,hi=>by
  by_cases h1:Yh l n=0
  ·rw[Yh,if_neg (by rw[h1];decide)] at h
   by_cases e:i=n
   ·rw[e];exact h
   ·exact Rh h1 i (by omega)
  ·rw[Yh,if_pos h1] at h
   exact absurd h h1
theorem Zfe{l:Bl}(h:Yz l=0):Yh l (Zp l)=0:=by
 unfold Yz at h
 split at h
 ·split at h
  ·exact h
  ·cases h
 ·cases h
theorem Zgl{l:Bl}{n:Nat}(h:Yh l n=0):Kt (Yx l n):=by
 intro k hk h1
 rw[Yv] at hk
 have e:=Rh h k hk
 have g:∀ j,j<n→(Yx l n)[j]?.getD 0=(Cs l j:Int):=fun j hj=>by simp[Yx,List.getElem?_range hj]
 rw[g _ (by omega),g _ hk]
 unfold Py at e
 split at e
 ·cases e
 ·split at e
  ·cases e
  ·rename_i q;omega
theorem nodK_sort{l:Bl}{no tree:Int}(h:Xd l no tree=0):Kt (Xv l no):=Zgl (Zfe (Nw (Ls h).2))
theorem Wk{l:Bl}{no tree lo hi:Int}(h:Xd l no tree=0)(hr:Qq lo hi=true)(hk:∀ i,i<Zp (inB l no)→Et lo hi ((Xv l no).getD i 0)=true):Yt lo hi (Xv l no)=0:=by
 unfold Yt
 rw[if_pos hr,if_pos (nodK_sort h),if_pos]
 intro x hx
 obtain⟨i,a0,rfl⟩:=List.mem_iff_getElem.1 hx
 have hl:(Xv l no).length=Zp (inB l no):=by simp[Xv,Yx]
 have:=hk i (by omega)
 rw[show(Xv l no).getD i 0=(Xv l no)[i] by simp[List.getD,a0]] at this
 exact Lc.1 this
theorem Zei{l:Bl}{no tree lo hi:Int}{i:Nat}(hn:i<Zp (inB l no))(hk:Et lo hi ((Xv l no).getD i 0)=false):Yt lo hi (Xv l no)≠0:=by
 intro h
 have hl:(Xv l no).length=Zp (inB l no):=by simp[Xv,Yx]
 have h2:=(Gy h).2.2 ((Xv l no)[i]'(by omega)) (List.getElem_mem _)
 rw[show(Xv l no).getD i 0=(Xv l no)[i]'(by omega) by simp[List.getD,show i<(Xv l no).length by omega]] at hk
 exact absurd (Lc.2 h2) (by rw[hk];decide)
theorem Zhl{lo hi:Int}{L:List Int}(hf:Yt lo hi L=0){i:Nat}(h:i<L.length):Qq (Xb hi L i).1 (Xb hi L i).2=true:=by
 obtain⟨h1,h2,h3,_⟩:=Gz hf h
 have hr:=of_decide_eq_true (Gy hf).1
 exact decide_eq_true ⟨by omega,by omega,by omega⟩
end Go.Proofs.YtgphgaehfdfjjaaGreatDoor
namespace Go.Proofs.YtgphgaehfdfjjaaGreatDoor
set_option maxHeartbeats 8000000
set_option maxRecDepth 100000
open Go.RowKit
set_option linter.unusedVariables false
theorem Nj(lo hi k:Int)(w:World):C0 206 #[spanV lo hi,V0 k] w (Ret (.bool (Et lo hi k)) w):=by
 unfold spanV
 go_enter Tryz.func206,Tryz.ntmps206
 go_wp2
 all_goals go_ret
 all_goals refine⟨?_,blx _ _⟩
 all_goals (unfold Et;congr 2;simp;omega)
theorem Md(lo hi:Int)(w:World):C0 216 #[spanV lo hi] w (Ret (.bool (Qq lo hi)) w):=by
 unfold spanV
 go_enter Tryz.func216,Tryz.ntmps216
 go_wp2_with fail
 all_goals go_ret
 all_goals refine⟨?_,blx _ _⟩
 all_goals (unfold Qq;congr 2;simp[*];try omega)
theorem fits_all{lo hi:Int}{l:List Int}(h:Qq lo hi=true)(hs:Kt l)(ha:∀ j:Nat,j<l.length→∀ x,l[j]? = some x→Et lo hi x=true):Yt lo hi l=0:=by
 have a0:∀ k∈l,lo≤k∧k<hi:=fun k hk=>by
  obtain⟨i,a1,rfl⟩:=List.mem_iff_getElem.1 hk
  exact Lc.1 (ha i a1 _ (by simp))
 simp only[Yt,h,if_true,hs]
 rw[if_pos a0]
theorem Oz(lo hi:Int)(v:Value)(l:List Int)(w:World)(hl:Ints w v l) :
 C0 207 #[spanV lo hi,v] w (Ret (V0 (Yt lo hi l)) w):=by
 have b0:=hl
 obtain⟨a,c,rfl⟩:=hl.slice
 by_cases hr:Qq lo hi=true
 case neg =>
  have b1:Qq lo hi=false:=by simpa using hr
  unfold spanV
  go_enter Tryz.func207,Tryz.ntmps207
  go_wp2_with fail
  refine(Md _ _ _).mono ?_
  rintro e w' ⟨rfl,hb⟩
  go_wp2_with fail
  go_ret
  exact⟨by rw[Ab b1];rfl,bln (blx w _) hb⟩
 unfold spanV
 go_enter Tryz.func207,Tryz.ntmps207
 go_wp2_with fail
 refine(Md _ _ _).mono ?_
 rintro e w' ⟨rfl,hb⟩
 have k0:=Blk.below (Blk.new w [V0 lo,V0 hi] 304) hb
 have z0:=k0.lt
 have hB:=bln (blx w _) hb
 have a4:=hl.below hB
 clear hb hl b0
 have HC:Hid (∀ (j:Nat) x,l[j]? = some x→∃ b a0,a=some ⟨b,a0,none⟩∧w'.cell? ⟨b,a0+j,none⟩=some (V0 x)):=by
  intro j x hj
  rcases a4 with ⟨_,_,_,h2,_⟩|⟨b,a0,a6,h1,_,_,h4⟩
  ·rw[List.length_eq_zero_iff.1 h2] at hj;simp at hj
  ·simp only[Value.slice.injEq] at h1
   exact⟨b,a0,h1.1,h4 j _ (by simp[hj])⟩
 have a8:l.length≤9223372036854775807:=by
  rcases a4 with ⟨_,_,_,h2,_⟩|⟨b,a0,a6,h1,h2,h3,_⟩
  ·omega
  ·unfold maxLen at h3;omega
 clear a4
 go_wp2_with fail
 go_loopw [5] (fun i wr=>∃ k:Nat,1≤k∧i=V0 k∧Kt (l.take k)∧Below w'.heap.size w' wr) (fun i _=>l.length-(intOf i).toNat)
 case atStart=>exact⟨1,by omega,rfl,Kt.one l,Below.refl _ _⟩
 case round =>
  obtain⟨k,a7,rfl,hs,a3⟩:=hrel
  have HS:=Lib.hid hs;clear hs
  by_cases hlt:k<l.length
  ·obtain⟨x,hx⟩:∃ x,l[k-1]? = some x:=⟨l[k-1],by simp⟩
   obtain⟨y,hy⟩:∃ y,l[k]? = some y:=⟨l[k],by simp⟩
   obtain⟨b,a0,rfl,a2⟩:=HC.out _ _ hx
   obtain⟨b',a9,e',a5⟩:=HC.out _ _ hy
   simp only[Option.some.injEq,Addr.mk.injEq] at e'
   obtain⟨rfl,rfl,_⟩:=e'
   have a2:=Nx a3 a2
   have a5:=Nx a3 a5
   have HX:=Lib.hid hx;clear hx
   have HY:=Lib.hid hy;clear hy
   go_wp2_with fail
   go_quiet (fail)
   go_wp2_with fail
   ·go_ret
    exact⟨by rw[Td hr a7 HX.out HY.out (by assumption)];rfl,bln hB (blD a3 _)⟩
   ·go_roundw
    case rel=>exact⟨k+1,by omega,by go_num,HS.out.succ HX.out HY.out (by assumption),blD a3 _⟩
    case measure=>simp[intOf];omega
  ·have HA:=Lib.hid (HS.out.all (show l.length≤k by omega));clear HS
   go_wp2_with fail
   go_loopw [6] (fun i w2=>∃ j:Nat,i=V0 j∧(∀ q:Nat,q<j→∀ x,l[q]? = some x→Et lo hi x=true)∧Below w'.heap.size w' w2) (fun i _=>l.length-(intOf i).toNat)
   case atStart=>exact⟨0,rfl,by omega,a3⟩
   case round =>
    obtain⟨j,rfl,hj,a1⟩:=hrel
    have HJ:=Lib.hid hj;clear hj
    by_cases hlt2:j<l.length
    ·obtain⟨x,hx⟩:∃ x,l[j]? = some x:=⟨l[j],by simp⟩
     obtain⟨b,a0,rfl,a2⟩:=HC.out _ _ hx
     have a2:=Nx a1 a2
     have k2:=k0.below a1
     have e0:∀ z:Ext wr,z.val.cell? ⟨w.heap.size,0,none⟩=some (V0 lo):=fun z=>z.get (k2.cell (i:=0) rfl)
     have e1:∀ z:Ext wr,z.val.cell? ⟨w.heap.size,1,none⟩=some (V0 hi):=fun z=>z.get (k2.cell (i:=1) rfl)
     have e2:∀ z:Ext wr,z.val.cell? ⟨b,a0+j,none⟩=some (V0 x):=fun z=>z.get a2
     have HX:=Lib.hid hx;clear hx
     by_cases ha:Et lo hi x=true
     ·go_wp2_with fail
      refine Qv (by kernel_rfl) (by kernel_rfl) ?_
      repeat (go_big_quiet_step (exact Ret.ext (Nj _ _ _ _)))
      refine wpQuiet_nil ?_
      intro wx
      go_wp2_with fail
      go_roundw
      case rel =>
       refine⟨j+1,by go_num,fun q hq y hy=>?_,a1.trans (wx.below.mono a1.size)⟩
       by_cases hqj:q=j
       ·subst hqj;rw[HX.out] at hy;cases hy;exact ha
       ·exact HJ.out q (by omega) y hy
      case measure=>simp[intOf];omega
     ·have ha:Et lo hi x=false:=by simpa using ha
      go_wp2_with fail
      refine Qv (by kernel_rfl) (by kernel_rfl) ?_
      repeat (go_big_quiet_step (exact Ret.ext (Nj _ _ _ _)))
      refine wpQuiet_nil ?_
      intro wx
      go_wp2_with fail
      go_ret
      exact⟨by rw[It hr HA.out HX.out ha];rfl,bln (bln hB a1) wx.below⟩
    ·go_wp2_with fail
     go_ret
     exact⟨by rw[fits_all hr HA.out (fun q hq=>HJ.out q (by omega))];rfl,bln hB a1⟩
theorem Jw{w:World}{B2:Nat}{a b c:Int}{t2:TypeId}(h2:Blk w B2 [V0 a,V0 b] t2){tmps:Array Value}
 (e2:tmps.getD 6 undef=P0 B2) (e3:tmps.getD 7 undef=V0 c) :
 (results Tryz.f190 tmps).run Tryz.prog w=.ok (.tuple #[spanV a b,V0 c]) w:=by
 have a1:=h2.cell (i:=0) rfl
 have a0:=h2.cell (i:=1) rfl
 have a3:tmps[6]?.getD undef=P0 B2:=by simpa using e2
 have a2:tmps[7]?.getD undef=V0 c:=by simpa using e3
 simp[results,Tryz.results190,go_sem,a1,a0,a3,a2,spanV]
theorem Un{w w':World}{B:Nat}(h:B0 w w')(hB:w.heap.size≤B){i j:Nat}{x y:Value} :
 B0 w ((w'.setCell ⟨B,i,none⟩ x).setCell ⟨B,j,none⟩ y):=(h.setCell hB _).setCell hB _
theorem Uv(lo hi i:Int)(v:Value)(l:List Int)(w:World)(hi64 : -9223372036854775808≤i∧i≤9223372036854775807)(hlen:l.length≤1000000)(hl:Ints w v l) :
 C0 190 #[spanV lo hi,v,V0 i] w (Ret (.tuple #[spanV (Mc lo hi l i).1.1 (Mc lo hi l i).1.2,V0 (Mc lo hi l i).2]) w):=by
 obtain⟨a,c,rfl⟩:=hl.slice
 unfold spanV
 go_enter Tryz.func190,Tryz.ntmps190
 go_wp2_with fail
 refine(Oz lo hi _ l _ (hl.below ?_)).mono ?_
 ·exact bln (blx _ _) (blx _ _)
 rintro e w' ⟨rfl,hb⟩
 have k0:=Blk.below ((Blk.new w [V0 lo,V0 hi] 304).alloc (.cells #[V0 0,V0 0] 304)) hb
 have k1:=Blk.below (Blk.new (w.alloc (.cells #[V0 lo,V0 hi] 304)) [V0 0,V0 0] 304) hb
 simp only[World.size_alloc] at k1
 have hB:B0 w w':=bln (bln (blx _ _) (blx _ _)) hb
 have a3:=hl.below hB
 clear hb hl
 have z0:=k0.lt
 have z1:=k1.lt
 have b4:=k0.cell (i:=0) rfl
 have a8:=k0.cell (i:=1) rfl
 have b3:=k1.cell (i:=0) rfl
 have b0:=k1.cell (i:=1) rfl
 have b2:=k1.frozen 0
 have a6:=k1.frozen 1
 by_cases hf:Yt lo hi l=0
 case neg =>
  have a4:(Yt lo hi l != 0)=true:=by simpa using hf
  have HF:=Lib.hid (child_bad (i:=i) hf);clear hf
  go_wp2_with fail
  refine bodyPost_ret (Jw ((k1.set 0 _).set 1 _) rfl rfl) rfl ?_
  rw[HF.out]
  exact⟨rfl,Un hB (by omega)⟩
 have a4:(Yt lo hi l != 0)=false:=by simpa using hf
 have HF:=Lib.hid hf;clear hf
 by_cases hin:0≤i∧i<l.length
 case neg =>
  have HO:=Lib.hid (child_out HF.out hin)
  by_cases h0:i<0
  ·have d0:decide (i<0)=true:=by simpa using h0
   go_wp2_with fail
   refine bodyPost_ret (Jw ((k1.set 0 _).set 1 _) rfl rfl) rfl ?_
   rw[HO.out]
   exact⟨rfl,Un hB (by omega)⟩
  ·have d0:decide (i<0)=false:=by simpa using h0
   have d1:decide ((l.length:Int)≤i)=true:=by simp;omega
   go_wp2_with fail
   refine bodyPost_ret (Jw ((k1.set 0 _).set 1 _) rfl rfl) rfl ?_
   rw[HO.out]
   exact⟨rfl,Un hB (by omega)⟩
 obtain⟨h1,h2⟩:=hin
 obtain⟨q,rfl⟩:=Int.eq_ofNat_of_zero_le h1
 have hq:q<l.length:=by omega
 have HO:=Lib.hid (Dd HF.out hq)
 have d0:decide ((q:Int)<0)=false:=by simp
 have d1:decide ((l.length:Int)≤(q:Int))=false:=by simp;omega
 rcases a3 with ⟨_,_,_,h3,_⟩|⟨b,b1,a7,h3,h4,h5,h6⟩
 ·omega
 simp only[Value.slice.injEq] at h3
 obtain⟨rfl,_,rfl⟩:=h3
 obtain⟨x,hx⟩:∃ x,l[q]? = some x:=⟨l[q],by simp⟩
 have b5:=h6 q (V0 x) (by simp[hx])
 by_cases hlast:q+1=l.length
 ·have dl:((q:Int)+1==(l.length:Int))=true:=by simp;omega
  have hp:Xb hi l q=(x,hi):=by unfold Xb;rw[hx,hlast];simp
  have HP:=Lib.hid hp;clear hp
  have HX:=Lib.hid hx;clear hx
  clear hlast h6
  go_wp2_with fail
  go_still_tail 7,(by kernel_rfl)
  change wpList _ _ _ _ _ w'.drew
  go_wp2_with fail
  have a0:Blk (((w'.setCell ⟨w.heap.size+1,0,none⟩ (V0 x)).setCell ⟨w.heap.size+1,1,none⟩ (V0 hi)).drew) (w.heap.size+1) [V0 x,V0 hi] 304:=(k1.set 0 _).set 1 _
  refine bodyPost_ret (Jw a0 rfl rfl) rfl ?_
  rw[HO.out,HP.out]
  exact⟨rfl,(Un hB (by omega)).drew⟩
 ·have dl:((q:Int)+1==(l.length:Int))=false:=by simp;omega
  obtain⟨y,hy⟩:∃ y,l[q+1]? = some y:=⟨l[q+1],by simp⟩
  have b6:=h6 (q+1) (V0 y) (by simp[hy])
  have hp:Xb hi l q=(x,y):=by unfold Xb;rw[hx,hy];rfl
  have a9:q+1<l.length:=by omega
  have HP:=Lib.hid hp;clear hp
  have HX:=Lib.hid hx;clear hx
  have HY:=Lib.hid hy;clear hy
  clear hlast h6
  go_wp2_with fail
  have hw:IntKind.i64.wrap ((q:Int)+1)=(q:Int)+1:=IntWalk.i64_in _ (by omega)
  have a2:((q:Int)+1).toNat=q+1:=by omega
  have a5:(0:Int)≤(q:Int)+1:=by omega
  have a1:(q:Int)+1<(l.length:Int):=by omega
  go_still_tail 10,(by kernel_rfl)
  change wpList _ _ _ _ _ w'.drew
  clear hw a2 a5 a1
  go_wp2_with fail
  have a0:Blk (((w'.setCell ⟨w.heap.size+1,0,none⟩ (V0 x)).setCell ⟨w.heap.size+1,1,none⟩ (V0 y)).drew) (w.heap.size+1) [V0 x,V0 y] 304:=(k1.set 0 _).set 1 _
  refine bodyPost_ret (Jw a0 rfl rfl) rfl ?_
  rw[HO.out,HP.out]
  exact⟨rfl,(Un hB (by omega)).drew⟩
end Go.Proofs.YtgphgaehfdfjjaaGreatDoor
namespace Go.Proofs.YtgphgaehfdfjjaaGreatDoor
set_option maxHeartbeats 8000000
set_option maxRecDepth 100000
open Go.RowKit Go.Extern.Stop Go.Stop Go.Extern
set_option linter.unusedVariables false
section
variable {P:Program} {fn:Func} {R:Ending→World→Prop} {w:World} {s:Zs}
def BlksOf(w:World):List (Nat×List Value)→Prop
 | []=>True
 | p::r=>(∃ t,Blk w p.1 p.2 t)∧BlksOf w r
noncomputable def zrlm (P:Program) (n:Nat) (kv:List (Nat×Value)) (l:List ResultVar):List (List Value)→Option (List Nat×List Value):=List.rec (motive:=fun _=>List (List Value)→Option (List Nat×List Value)) (fun _=>some ([],[])) (fun r _ ih css=>match r with
 | .tmp t=>match ih css with
  | some r=>some (r.1,zget n kv t::r.2)
  | none=>none
 | .cell k t=>match css with
  | []=>none
  | p::css'=>match zget n kv k with
   | .pointer (some ⟨b,off,sp⟩)=>match sp with
    | none=>match Nat.beq off 0&&(zrow P t&&zsz P t p.length) with
     | true=>match ih css' with
      | some r=>some (b::r.1,.agg p.toArray::r.2)
      | none=>none
     | false=>none
    | some _=>none
   | _=>none) l
theorem Ao(n:Nat)(kv:List (Nat×Value))(w:World):∀ (l:List ResultVar) (css:List (Nat×List Value)) (vs:List Value),BlksOf w css→zrlm P n kv l (css.map Prod.snd)=some (css.map Prod.fst,vs)→(l.mapM (zrf (zact n kv).tmps)).run P w=.ok vs w
  | [],css,vs,_,h=>by
    have h':some (([]:List Nat),([]:List Value))=some (css.map Prod.fst,vs):=h
    simp only[Option.some.injEq,Prod.mk.injEq] at h'
    rw[←h'.2];rfl
  | r :: l, css, vs, hb, h => by
    rw[List.mapM_cons]
    cases r with
    | tmp t =>
      have h':(match zrlm P n kv l (css.map Prod.snd) with|some r=>some (r.1,zget n kv t::r.2)|none=>none)=some (css.map Prod.fst,vs):=h
      split at h'
      · rename_i r' hv
        simp only[Option.some.injEq,Prod.mk.injEq] at h'
        obtain⟨h1,rfl⟩:=h'
        have a1:zrlm P n kv l (css.map Prod.snd)=some (css.map Prod.fst,r'.2):=by rw[hv,←h1]
        simp only[zrf,Sem.run_bind,Sem.run_pure,Result.andThen_ok,Ao n kv w l css r'.2 hb a1,Ul]
      · cases h'
    | cell k t' =>
      cases css with
      | nil=>cases h
      | cons p css =>
      have h':(match zget n kv k with
      | .pointer (some ⟨b,a0,sp⟩)=>match sp with
        | none=>match Nat.beq a0 0&&(zrow P t'&&zsz P t' p.2.length) with
          | true=>match zrlm P n kv l (css.map Prod.snd) with
            | some r=>some (b::r.1,.agg p.2.toArray::r.2)
            | none=>none
          | false=>none
        | some _=>none
      | _=>none)=some (p.1::css.map Prod.fst,vs):=h
      split at h'
      · rename_i b' a0 sp a3
        cases sp with
        | some _=>cases h'
        | none =>
          dsimp only at h'
          split at h'
          · rename_i hc
            simp only[Bool.and_eq_true] at hc
            split at h'
            · rename_i r' hv
              simp only[Option.some.injEq,Prod.mk.injEq,List.cons.injEq] at h'
              obtain⟨⟨rfl,h1⟩,rfl⟩:=h'
              obtain⟨⟨t,kb⟩,a2⟩:=hb
              have a1:zrlm P n kv l (css.map Prod.snd)=some (css.map Prod.fst,r'.2):=by rw[hv,←h1]
              obtain rfl:a0=0:=Nat.eq_of_beq_eq_true hc.1
              have hu:=hc.2.1
              unfold zrow at hu
              split at hu
              · rename_i d hd
                have hl:=run_loadVar_mid (P:=P) w p.1 0 t' p.2 d kb.whole hd hu (Za9 hc.2.2)
                have e:(zact n kv).tmps.getD k undef=.pointer (some ⟨p.1,0,none⟩):=by rw[Ul];exact a3
                simp only[zrf,e,asAddr,Sem.run_bind,Sem.run_pure,Result.andThen_ok,hl,Ao n kv w l css r'.2 a2 a1]
              · cases hu
            · cases h'
          · cases h'
      · cases h'
noncomputable def zresm (P:Program) (s:Zs) (fn:Func) (css:List (List Value)):Option (List Nat×Value):=match zfin s with
 | true=>match zrlm P s.n s.kv fn.results.toList css with
  | some r=>some (r.1,zvs r.2)
  | none=>none
 | false=>none
theorem Nq(q:Zq)(css:List (Nat×List Value))(hb:BlksOf w css)(v:Value)(hR:R (.returned v) w)(h:zresm P (zq P q s) fn (css.map Prod.snd)=some (css.map Prod.fst,v):=by kernel_rfl):Go P fn R s w:=by
 refine Xf q s ?_
 unfold zresm at h
 split at h
 ·rename_i hf
  split at h
  ·rename_i r hv
   simp only[Option.some.injEq,Prod.mk.injEq] at h
   obtain⟨h1,rfl⟩:=h
   have hv:zrlm P (zq P q s).n (zq P q s).kv fn.results.toList (css.map Prod.snd)=some (css.map Prod.fst,r.2):=by rw[hv,←h1]
   exact Zcv hf (Nl (Ao _ _ _ _ _ _ hb hv)) hR
  ·cases h
 ·cases h
end
end Go.Proofs.YtgphgaehfdfjjaaGreatDoor
namespace Go.Proofs.YtgphgaehfdfjjaaGreatDoor
set_option maxHeartbeats 8000000
set_option maxRecDepth 100000
open Go.RowKit Go.Extern.Stop Go.Stop Go.Extern
set_option linter.unusedVariables false
attribute [local irreducible] wpList wpAnyH Code.wp Oper.wp Go
theorem ref08_inB(n lo hi:Int)(w:World) :
 C0 191 #[V0 n,V0 lo,V0 hi] w (Ret (.bool (decide (lo≤n∧n≤hi))) w):=by
 refine zin 15 Tryz.func191 ?_
 refine xg 11 [9,10] (decide (n≥lo)) (fun a0=>?_) (fun a0=>?_)
 ·have a0:=of_decide_eq_true a0
  exact xe 8 (.bool (decide (n≤hi))) ⟨by rw[show decide (lo≤n∧n≤hi)=decide (n≤hi) from by simp;omega],(B3 w)⟩
 have a0:=of_decide_eq_false a0
 exact xe 8 (.bool false) ⟨by rw[show decide (lo≤n∧n≤hi)=false from decide_eq_false (by omega)],(B3 w)⟩
theorem Zgy(s:Bl)(lo hi:Int)(w:World)(hs:s.length≤1000) :
 C0 157 #[.string ⟨s.toArray⟩,V0 lo,V0 hi] w (Ret (.tuple #[V0 (if s.length=4∧lo≤(Zi s 0 4:Int)∧(Zi s 0 4:Int)≤hi then(Zi s 0 4:Int) else 0),V0 (if s.length=4 then(if lo≤(Zi s 0 4:Int)∧(Zi s 0 4:Int)≤hi then 0 else 2) else 7)]) w):=by
 refine zin 25 Tryz.func157 ?_
 refine xin 14 (s.length:Int) (4:Int) (fun a6=>?_) (fun a6=>?_)
 ·refine xe 8 (.tuple #[V0 0,V0 7]) ?_
  rw[if_neg (by omega),if_neg (by omega)];exact⟨rfl,(B3 w)⟩
 refine xcf 5 fun _ _ _ zJ zQ zo zx zK=>Kl s zo zx Tryz.underlying9 Tryz.underlying22 Tryz.underlying5 (by omega) ?_
 intro bz cz W2 a3 a5
 refine zK _ _ ?_
 refine xr 0 (args:=#[.slice (S1 bz) s.length cz,V0 0,V0 4]) (Io (S1 bz) s.length cz 0 4 0 4 s _ rfl rfl rfl (by decide) (by omega) (by omega) a5) fun W3 a4=>?_
 refine xr 13 (args:=#[V0 (↑(Zi s 0 4):Int),V0 lo,V0 hi]) (ref08_inB (↑(Zi s 0 4):Int) lo hi _) fun W4 a2=>?_
 refine xi 3 (!(decide (lo≤(Zi s 0 4:Int)∧(Zi s 0 4:Int)≤hi))) (fun a1=>?_) (fun a1=>?_)
 ·have a0:¬ (lo≤(Zi s 0 4:Int)∧(Zi s 0 4:Int)≤hi):=fun q=>absurd a1 (by rw[decide_eq_true q];decide)
  have hB:=bln (bln a3 a4) a2
  refine xe 8 (.tuple #[V0 0,V0 2]) ?_
  rw[if_neg fun q=>a0 q.2,if_pos (by omega),if_neg a0];exact⟨rfl,hB⟩
 have a0:lo≤(Zi s 0 4:Int)∧(Zi s 0 4:Int)≤hi:=Decidable.byContradiction fun q=>absurd a1 (by rw[decide_eq_false q];decide)
 have hB:=bln (bln a3 a4) a2
 refine xe 10 (.tuple #[V0 (↑(Zi s 0 4):Int),V0 0]) ?_
 rw[if_pos ⟨by omega,a0⟩,if_pos (by omega),if_pos a0];exact⟨rfl,hB⟩
theorem Sc(s:Bl)(w:World)(hs:s.length≤1000) :
 C0 157 #[.string ⟨s.toArray⟩,V0 1,V0 14399] w (Ret (.tuple #[V0 (Qf s:Int),V0 (Xy s)]) w):=by
 refine(Zgy s 1 14399 w hs).mono ?_
 rintro e W ⟨rfl,hb⟩
 refine⟨?_,hb⟩
 have e1:(if s.length=4 then(if(1:Int)≤(Zi s 0 4:Int)∧(Zi s 0 4:Int)≤14399 then(0:Int) else 2) else 7)=Xy s:=by
  unfold Xy
  by_cases h:s.length=4
  ·rw[if_pos h,if_pos h]
   by_cases q:1≤Zi s 0 4∧Zi s 0 4≤14399
   ·rw[if_pos q,if_pos ⟨by omega,by omega⟩]
   ·rw[if_neg q,if_neg (by omega)]
  ·rw[if_neg h,if_neg h]
 have e2:(if s.length=4∧(1:Int)≤(Zi s 0 4:Int)∧(Zi s 0 4:Int)≤14399 then(Zi s 0 4:Int) else 0)=(Qf s:Int):=by
  unfold Qf
  rw[←e1]
  by_cases h:s.length=4
  ·rw[if_pos h]
   by_cases q:(1:Int)≤(Zi s 0 4:Int)∧(Zi s 0 4:Int)≤14399
   ·rw[if_pos ⟨h,q⟩,if_pos q,if_pos rfl]
   ·rw[if_neg fun x=>q x.2,if_neg q,if_neg (by decide)];rfl
  ·rw[if_neg fun x=>h x.1,if_neg h,if_neg (by decide)];rfl
 rw[e1,e2]
theorem Uf(s:Bl)(w:World)(hs:s.length≤1000) :
 C0 100 #[.string ⟨s.toArray⟩] w (Ret (.tuple #[V0 (Qf s:Int),V0 (Xy s)]) w):=by
 refine zin 8 Tryz.func100 ?_
 refine xr 9 (args:=#[.string ⟨s.toArray⟩,V0 1,V0 14399]) (Sc s _ hs) fun W1 a0=>?_
 exact xe 7 (.tuple #[V0 (↑(Qf s):Int),V0 (Xy s)]) ⟨rfl,a0⟩
theorem Qp(no er:Int)(w:World)(he:er≠0):C0 95 #[V0 no,V0 er] w (Vy (fun w' r=>∃ a c,r=.agg #[.slice a 1 c,V0 er]∧w'.ownsRow w.heap.size 3 1 (.slice a 1 c) 1 [V0 no]) w):=by
 refine(ref11_At no er w).mono ?_
 rintro e W ⟨a,c,rfl,hb,ho⟩
 rw[fltL_nz he] at ho ⊢
 exact⟨_,rfl,hb,a,c,rfl,ho⟩
theorem Jb(L:List Int):∀ u∈L.map V0,u.oneCell'=true:=by intro u hu;obtain⟨x,_,rfl⟩:=List.mem_map.1 hu;rfl
theorem Rj(no er:Int)(a:O0)(n c:Nat)(L:List Int)(w:World)(he:er≠0)(hL:L.length=n)(hn:n≤1000000)(hS:Sl w (.slice a n c) n (L.map V0)) :
 C0 102 #[V0 no,.agg #[.slice a n c,V0 er]] w (Vy (fun w' r=>∃ p c2,r=.agg #[.slice p (n+1) c2,V0 er]∧w'.ownsRow w.heap.size 3 1 (.slice p (n+1) c2) (n+1) ((no::L).map V0)) w):=by
 refine zin 17 Tryz.func102 ?_
 refine xa 2 [.slice a n c,V0 er] 52 fun b1 W1 n1=>?_
 refine xa 0 [S0,V0 0] 52 fun b2 W2 n2=>?_
 have h9:=n2.ne n1.blk
 have a0:=n1.blk.below n2.below
 refine xb 6 1 a0 ?_
 refine xk 3 (show((er==(0:Int)):Bool)=false from beq_false_of_ne he) ?_
 refine xd 3 (.t w.heap.size [3,52]) ?_
 refine xm3 (.b [0,2,5]) 1 3 6 ?_ ?_ ?_
 ·refine xbs 0 1 [V0 no] 3 fun b3 W3 n3=>?_
  refine xm2 0 3 6 ?_ ?_
  ·have a4:=(a0.below (Za W2)).below n3.below
   refine xb 0 0 a4 ?_
   refine xm2 0 4 6 ?_ ?_
   ·have g3:=n3.ge (bln (bln n1.below n2.below) (Za W2))
    have o4:=Xa (size:=1) (n:=1) n3.blk g3 rfl (by decide)
    have hB:=bln (bln (bln n1.below n2.below) (Za W2)) n3.below
    refine ybi 0 (.t w.heap.size [3,52]) fun _ _ _ _ zJ zQ zo zx zy zK=>Zu (m:=n) (news:=(L.map V0)) (V0 0) 1 8 ((n+1)) (((no::L).map V0)) zo Tryz.underlying28 (by kernel_rfl) rfl (by decide) zx o4 zy (hS.below hB) (by simp[hL]) (Jb L) (by unfold maxLen;omega) (by omega) hB.size (by omega) (by rfl) fun h4 h8 W5 o5 g9 h6=>?_
    refine zK _ _ (Zr h6 g9 o4 (by decide)) ?_
    have e5:=a4.grown g9 o4 (by decide)
    refine xb (.o [] 6) 1 e5 ?_
    have k2:=((n2.blk.below (Za W2)).below n3.below).grown g9 o4 (by decide)
    have g2:=n2.ge n1.below
    refine ysv (.o [7] 8) k2 [.slice h4 (n+1) h8,V0 er] (.t w.heap.size [3,52]) fun W6 u6 k6=>⟨(Zo u6 k2 g2 (by decide)),?_⟩
    have g8:=u6.below (hB.trans h6) g2
    have f1:=u6.own2 o5 k2 (by decide)
    exact xec 3 k6 (.agg #[.slice h4 (n+1) h8,V0 er]) ⟨_,rfl,g8,_,_,rfl,f1⟩
   refine xb 0 1 a4 ?_
   have g3:=n3.ge (bln (bln n1.below n2.below) (Za W2))
   have o7:=Xa (size:=1) (n:=1) n3.blk g3 rfl (by decide)
   have hB:=bln (bln (bln n1.below n2.below) (Za W2)) n3.below
   refine ybi (.o [] 4) (.t w.heap.size [3,52]) fun _ _ _ _ zJ zQ zo zx zy zK=>Zu (m:=n) (news:=(L.map V0)) (V0 0) 1 8 ((n+1)) (((no::L).map V0)) zo Tryz.underlying28 (by kernel_rfl) rfl (by decide) zx o7 zy (hS.below hB) (by simp[hL]) (Jb L) (by unfold maxLen;omega) (by omega) hB.size (by omega) (by rfl) fun h7 h3 W8 o8 h5 i0=>?_
   refine zK _ _ (Zr i0 h5 o7 (by decide)) ?_
   have k2:=((n2.blk.below (Za W2)).below n3.below).grown h5 o7 (by decide)
   have g2:=n2.ge n1.below
   refine ysv (.o [7] 8) k2 [.slice h7 (n+1) h3,V0 er] (.t w.heap.size [3,52]) fun W9 u9 k9=>⟨(Zo u9 k2 g2 (by decide)),?_⟩
   have f5:=u9.below (hB.trans i0) g2
   have g0:=u9.own2 o8 k2 (by decide)
   exact xec 3 k9 (.agg #[.slice h7 (n+1) h3,V0 er]) ⟨_,rfl,f5,_,_,rfl,g0⟩
  have d4:=(a0.below (Za W2)).below n3.below
  refine xb 0 1 d4 ?_
  refine xb (.o [] 3) 0 d4 ?_
  have g3:=n3.ge (bln (bln n1.below n2.below) (Za W2))
  have g4:=Xa (size:=1) (n:=1) n3.blk g3 rfl (by decide)
  have hB:=bln (bln (bln n1.below n2.below) (Za W2)) n3.below
  refine ybi (.o [] 4) (.t w.heap.size [3,52]) fun _ _ _ _ zJ zQ zo zx zy zK=>Zu (m:=n) (news:=(L.map V0)) (V0 0) 1 8 ((n+1)) (((no::L).map V0)) zo Tryz.underlying28 (by kernel_rfl) rfl (by decide) zx g4 zy (hS.below hB) (by simp[hL]) (Jb L) (by unfold maxLen;omega) (by omega) hB.size (by omega) (by rfl) fun d0 d5 l8 i1 c5 a9=>?_
  refine zK _ _ (Zr a9 c5 g4 (by decide)) ?_
  have k2:=((n2.blk.below (Za W2)).below n3.below).grown c5 g4 (by decide)
  have g2:=n2.ge n1.below
  refine ysv (.o [7] 8) k2 [.slice d0 (n+1) d5,V0 er] (.t w.heap.size [3,52]) fun j8 f3 i2=>⟨(Zo f3 k2 g2 (by decide)),?_⟩
  have f0:=f3.below (hB.trans a9) g2
  have c1:=f3.own2 i1 k2 (by decide)
  exact xec 3 i2 (.agg #[.slice d0 (n+1) d5,V0 er]) ⟨_,rfl,f0,_,_,rfl,c1⟩
 ·have a2:=a0.below (Za W2)
  refine xb 0 0 a2 ?_
  refine xm2 0 1 6 ?_ ?_
  ·refine xbs 0 1 [V0 no] 3 fun l6 l5 a1=>?_
   refine xm2 0 4 6 ?_ ?_
   ·have g7:=a1.ge (bln (bln n1.below n2.below) (Za W2))
    have e3:=Xa (size:=1) (n:=1) a1.blk g7 rfl (by decide)
    have hB:=bln (bln (bln n1.below n2.below) (Za W2)) a1.below
    refine ybi 0 (.t w.heap.size [3,52]) fun _ _ _ _ zJ zQ zo zx zy zK=>Zu (m:=n) (news:=(L.map V0)) (V0 0) 1 8 ((n+1)) (((no::L).map V0)) zo Tryz.underlying28 (by kernel_rfl) rfl (by decide) zx e3 zy (hS.below hB) (by simp[hL]) (Jb L) (by unfold maxLen;omega) (by omega) hB.size (by omega) (by rfl) fun b4 b8 l2 j5 a3 c0=>?_
    refine zK _ _ (Zr c0 a3 e3 (by decide)) ?_
    have e8:=(a2.below a1.below).grown a3 e3 (by decide)
    refine xb (.o [] 6) 1 e8 ?_
    have k2:=((n2.blk.below (Za W2)).below a1.below).grown a3 e3 (by decide)
    have g2:=n2.ge n1.below
    refine ysv (.o [7] 8) k2 [.slice b4 (n+1) b8,V0 er] (.t w.heap.size [3,52]) fun k5 f8 i5=>⟨(Zo f8 k2 g2 (by decide)),?_⟩
    have h2:=f8.below (hB.trans c0) g2
    have d7:=f8.own2 j5 k2 (by decide)
    exact xec 3 i5 (.agg #[.slice b4 (n+1) b8,V0 er]) ⟨_,rfl,h2,_,_,rfl,d7⟩
   have f4:=a2.below a1.below
   refine xb 0 1 f4 ?_
   have g7:=a1.ge (bln (bln n1.below n2.below) (Za W2))
   have h1:=Xa (size:=1) (n:=1) a1.blk g7 rfl (by decide)
   have hB:=bln (bln (bln n1.below n2.below) (Za W2)) a1.below
   refine ybi (.o [] 4) (.t w.heap.size [3,52]) fun _ _ _ _ zJ zQ zo zx zy zK=>Zu (m:=n) (news:=(L.map V0)) (V0 0) 1 8 ((n+1)) (((no::L).map V0)) zo Tryz.underlying28 (by kernel_rfl) rfl (by decide) zx h1 zy (hS.below hB) (by simp[hL]) (Jb L) (by unfold maxLen;omega) (by omega) hB.size (by omega) (by rfl) fun b7 c8 l0 i6 b9 d1=>?_
   refine zK _ _ (Zr d1 b9 h1 (by decide)) ?_
   have k2:=((n2.blk.below (Za W2)).below a1.below).grown b9 h1 (by decide)
   have g2:=n2.ge n1.below
   refine ysv (.o [7] 8) k2 [.slice b7 (n+1) c8,V0 er] (.t w.heap.size [3,52]) fun k7 f9 j3=>⟨(Zo f9 k2 g2 (by decide)),?_⟩
   have g1:=f9.below (hB.trans d1) g2
   have b0:=f9.own2 i6 k2 (by decide)
   exact xec 3 j3 (.agg #[.slice b7 (n+1) c8,V0 er]) ⟨_,rfl,g1,_,_,rfl,b0⟩
  refine xb 0 1 a2 ?_
  refine xbs (.o [] 1) 1 [V0 no] 3 fun l7 l1 e2=>?_
  have j0:=e2.ge (bln (bln n1.below n2.below) (Za W2))
  have e9:=Xa (size:=1) (n:=1) e2.blk j0 rfl (by decide)
  have hB:=bln (bln (bln n1.below n2.below) (Za W2)) e2.below
  refine ybi (.o [] 4) (.t w.heap.size [3,52]) fun _ _ _ _ zJ zQ zo zx zy zK=>Zu (m:=n) (news:=(L.map V0)) (V0 0) 1 8 ((n+1)) (((no::L).map V0)) zo Tryz.underlying28 (by kernel_rfl) rfl (by decide) zx e9 zy (hS.below hB) (by simp[hL]) (Jb L) (by unfold maxLen;omega) (by omega) hB.size (by omega) (by rfl) fun d8 a7 l3 j1 c9 c7=>?_
  refine zK _ _ (Zr c7 c9 e9 (by decide)) ?_
  have k2:=((n2.blk.below (Za W2)).below e2.below).grown c9 e9 (by decide)
  have g2:=n2.ge n1.below
  refine ysv (.o [7] 8) k2 [.slice d8 (n+1) a7,V0 er] (.t w.heap.size [3,52]) fun k4 f7 i3=>⟨(Zo f7 k2 g2 (by decide)),?_⟩
  have g6:=f7.below (hB.trans c7) g2
  have b5:=f7.own2 j1 k2 (by decide)
  exact xec 3 i3 (.agg #[.slice d8 (n+1) a7,V0 er]) ⟨_,rfl,g6,_,_,rfl,b5⟩
 have a5:=a0.below (Za W2)
 refine xb 0 1 a5 ?_
 refine xm2 0 1 3 ?_ ?_
 ·refine xbs 0 1 [V0 no] 3 fun j7 k3 c6=>?_
  have f2:=a5.below c6.below
  refine xb (.o [] 3) 0 f2 ?_
  have i4:=c6.ge (bln (bln n1.below n2.below) (Za W2))
  have f6:=Xa (size:=1) (n:=1) c6.blk i4 rfl (by decide)
  have hB:=bln (bln (bln n1.below n2.below) (Za W2)) c6.below
  refine ybi (.o [] 4) (.t w.heap.size [3,52]) fun _ _ _ _ zJ zQ zo zx zy zK=>Zu (m:=n) (news:=(L.map V0)) (V0 0) 1 8 ((n+1)) (((no::L).map V0)) zo Tryz.underlying28 (by kernel_rfl) rfl (by decide) zx f6 zy (hS.below hB) (by simp[hL]) (Jb L) (by unfold maxLen;omega) (by omega) hB.size (by omega) (by rfl) fun a8 d9 l4 j4 c4 b6=>?_
  refine zK _ _ (Zr b6 c4 f6 (by decide)) ?_
  have k2:=((n2.blk.below (Za W2)).below c6.below).grown c4 f6 (by decide)
  have g2:=n2.ge n1.below
  refine ysv (.o [7] 8) k2 [.slice a8 (n+1) d9,V0 er] (.t w.heap.size [3,52]) fun k0 e6 i7=>⟨(Zo e6 k2 g2 (by decide)),?_⟩
  have e7:=e6.below (hB.trans b6) g2
  have d2:=e6.own2 j4 k2 (by decide)
  exact xec 3 i7 (.agg #[.slice a8 (n+1) d9,V0 er]) ⟨_,rfl,e7,_,_,rfl,d2⟩
 refine xb 0 0 a5 ?_
 refine xbs (.o [] 1) 1 [V0 no] 3 fun j9 j6 e1=>?_
 have j2:=e1.ge (bln (bln n1.below n2.below) (Za W2))
 have h0:=Xa (size:=1) (n:=1) e1.blk j2 rfl (by decide)
 have hB:=bln (bln (bln n1.below n2.below) (Za W2)) e1.below
 refine ybi (.o [] 4) (.t w.heap.size [3,52]) fun _ _ _ _ zJ zQ zo zx zy zK=>Zu (m:=n) (news:=(L.map V0)) (V0 0) 1 8 ((n+1)) (((no::L).map V0)) zo Tryz.underlying28 (by kernel_rfl) rfl (by decide) zx h0 zy (hS.below hB) (by simp[hL]) (Jb L) (by unfold maxLen;omega) (by omega) hB.size (by omega) (by rfl) fun c3 d6 k1 i8 d3 a6=>?_
 refine zK _ _ (Zr a6 d3 h0 (by decide)) ?_
 have k2:=((n2.blk.below (Za W2)).below e1.below).grown d3 h0 (by decide)
 have g2:=n2.ge n1.below
 refine ysv (.o [7] 8) k2 [.slice c3 (n+1) d6,V0 er] (.t w.heap.size [3,52]) fun k8 g5 i9=>⟨(Zo g5 k2 g2 (by decide)),?_⟩
 have e4:=g5.below (hB.trans a6) g2
 have e0:=g5.own2 i8 k2 (by decide)
 exact xec 3 i9 (.agg #[.slice c3 (n+1) d6,V0 er]) ⟨_,rfl,e4,_,_,rfl,e0⟩
theorem drop_pred{way:List Int}{i:Nat}(h:0<i∧i≤way.length):way.getD (i-1) 0::way.drop i=way.drop (i-1):=by
 obtain⟨j,rfl⟩:∃ j,i=j+1:=⟨i-1,by omega⟩
 rw[show j+1-1=j by omega,List.drop_eq_getElem_cons (show j<way.length by omega)]
 simp[List.getD,show j<way.length by omega]
theorem Zfm(B:Nat)(wa:O0)(wc:Nat)(way:List Int)(er:Int)(a0:O0)(n0 c0:Nat)(L:List Int)(w:World)(hBw:B≤w.heap.size)(he:er≠0)(hw:Ints w (.slice wa way.length wc) way)(hwl:way.length≤100000)(hL:L.length=n0)(hn:n0≤100000)(h0:w.ownsRow B 3 1 (.slice a0 n0 c0) n0 (L.map V0)) :
 C0 188 #[.slice wa way.length wc,.agg #[.slice a0 n0 c0,V0 er]] w (Vy (fun w' r=>∃ a n c,r=.agg #[.slice a n c,V0 er]∧n=way.length+n0∧w'.ownsRow B 3 1 (.slice a n c) n ((way++L).map V0)) w):=by
 refine zin 20 Tryz.func188 ?_
 refine xa 2 [.slice a0 n0 c0,V0 er] 52 fun b1 W1 n1=>?_
 refine xa 0 [S0,V0 0] 52 fun b2 W2 n2=>?_
 have a7:=n2.ne n1.blk
 refine xw 7 ((way.length:Int)-1) ?_
 have b3:=Zb (Zb h0 n1.below) n2.below
 have hB:=bln n1.below n2.below
 have b8:=n1.blk.below n2.below
 refine zl 4 20 (fun zm c2 V=>∃ (i nf:Nat) (af:O0) (cf:Nat),c2=[(0,.slice wa way.length wc),(3,P0 b1),(4,P0 b2),(5,V0 ((i:Int)-1))]∧zm=(((i:Int)-1)+1).toNat∧B0 w V∧Blk V b1 ([.slice af nf cf,V0 er]) 52∧Blk V b2 ([S0,V0 0]) 52∧V.ownsRow B 3 1 (.slice af nf cf) nf ((way.drop i++L).map V0)∧i≤way.length∧nf=way.length-i+L.length) ⟨way.length,n0,a0,c0,rfl,rfl,hB,b8,n2.blk,by rw[List.drop_length,List.nil_append];exact b3,Nat.le_refl _,by omega⟩ ?_
 rintro _ _ W3 ⟨i,nf,af,cf,rfl,rfl,a9,a5,a3,hf,hi,c4⟩ J3 b9 r3
 refine xid 7 ((i:Int)-1≥(0:Int)) (fun c1=>?_) (fun c1=>?_)
 ·refine xd 4 (.t w.heap.size [52]) ?_
  refine xia (.e [0,1] 2) (fun _ _ _ _ zo zx zy V=>Sz (size:=1) (k:=(i-1)) (b:=wa) (n:=way.length) (c:=wc) (i:=((i:Int)-1)) (ki:=.i64) zo zx zy (by omega) (by omega) (Ints.elem hw (k:=(i-1)) (by omega)).1 Tryz.underlying28 (by kernel_rfl) V) ?_
  have a6:=bln a9 (Za W3)
  refine xlt (.e [] 3) (.t w.heap.size [52]) (fun V hV=>(Ints.elem (hw.below (Kv a6 hV (Nat.le_refl _))) (k:=(i-1)) (by omega)).2) ?_
  have a2:=a5.below (Za W3)
  refine xlv (.o [] 4) a2.rp ?_
  have b7:=Zb hf (Za W3)
  refine yc (.o [] 5) (args:=#[V0 (way.getD (i-1) 0),.agg #[.slice af nf cf,V0 er]]) (.t w.heap.size [52]) (Rj (way.getD (i-1) 0) er af nf cf (way.drop i++L) _ he (by simp;omega) (by omega) (Zh b7)) ?_
  rintro _ W5 ⟨_,rfl,b0,p5,c5,rfl,c3⟩
  refine⟨(SF.of_below _ b0),?_⟩
  have a1:=a2.below b0
  have g1:=n1.ge (B3 w)
  refine ysv (.o [] 6) a1 [.slice p5 (nf+1) c5,V0 er] (.t w.heap.size [52]) fun W6 u6 k6=>⟨(Zo u6 a1 g1 (by decide)),?_⟩
  refine xq 5 (congrArg V0 (show IntKind.i64.wrap ((i:Int)-1-1)=((↑(i-1:Nat):Int)-1) from(show IntKind.i64.wrap ((i:Int)-1-1)=((i:Int)-1-1) from by first|exact IntWalk.i64_in _ (by omega)|(simp only[IntKind.wrap];omega)).trans (by omega))) ?_
  have a8:=u6.own2 (Zg c3 a6.size) a1 (by decide)
  have b6:=u6.below (bln a6 b0) g1
  have a4:=u6.blk ((a3.below (Za W3)).below b0) (Ne.symm a7)
  exact ze 2 (b9 _ _ _ ⟨i-1,_,_,_,rfl,rfl,b6,k6,a4,(by have q:=Zg a8 hBw;rw[show way.getD (i-1) 0::(way.drop i++L)=way.drop (i-1)++L from by rw[←List.cons_append,drop_pred (by omega)]] at q;exact q),by omega,by omega⟩ (by omega))
 refine xlv 7 a5.rp ?_
 refine xsv 0 a3 [.slice af nf cf,V0 er] fun W7 u7 k7=>?_
 have g2:=n2.ge n1.below
 have b5:=u7.below a9 g2
 have b4:=u7.own2 hf a3 (by decide)
 refine xec 3 k7 (.agg #[.slice af nf cf,V0 er]) ?_
 obtain rfl:i=0:=by omega
 exact⟨_,rfl,b5,_,_,_,rfl,by omega,b4⟩
def RBlkNodeP(l:Bl)(no tree:Int)(w:World)(e:Ending)(w':World):Prop :=
 (Xd l no tree≠0∧∃ a c,e=.returned (.tuple #[.agg #[V0 0,.bool false,S0,S0],.agg #[.slice a 1 c,V0 (Xd l no tree)]])∧B0 w w'∧w'.ownsRow w.heap.size 3 1 (.slice a 1 c) 1 [V0 no]) ∨
 (Xd l no tree=0∧∃ kp kc vp vc,e=.returned (.tuple #[.agg #[V0 (Xw (inB l no)),.bool (Xm (inB l no)),.slice kp (Zp (inB l no)) kc,.slice vp (Zp (inB l no)) vc],.agg #[S0,V0 0]])∧B0 w w'∧w'.ownsRow w.heap.size 3 1 (.slice kp (Zp (inB l no)) kc) (Zp (inB l no)) ((Yx (inB l no) (Zp (inB l no))).map V0)∧w'.ownsRow w.heap.size 9 1 (.slice vp (Zp (inB l no)) vc) (Zp (inB l no)) ((Ky (inB l no) (Zp (inB l no))).map sv))
theorem Zf3(B bm:Nat)(p:O0)(k c:Nat)(l:Bl)(no tree:Int)(w:World)(hI:RefI B bm p k c l w) :
 C0 205 #[P0 bm,V0 no,V0 tree] w (RBlkNodeP l no tree w):=by
 refine zin 48 Tryz.func205 ?_
 refine xa 2 [V0 0,.bool false,S0,S0] 38 fun b1 W1 n1=>?_
 refine xa 0 [S0,V0 0] 52 fun b2 W2 n2=>?_
 have d6:=(hI.below n1.below).below n2.below
 refine xc 6 (args:=#[P0 bm,V0 no,V0 2]) (Zd0 B bm p k c l _ d6 no 2) ?_
 rintro e W3 f6
 rcases f6 with ⟨a8,rfl,a1⟩|⟨a8,f0,p3,c3,rfl,a1,h3⟩
 ·refine xk 14 (show(((inE l 2 no) != (0:Int)):Bool)=true from bne_iff_ne.2 a8) ?_
  refine xc 5 (args:=#[V0 no,V0 (inE l 2 no)]) (Qp no (inE l 2 no) _ a8) ?_
  rintro _ W4 ⟨_,rfl,d9,a5,c5,rfl,c1⟩
  have g4:=(bln (bln n1.below n2.below) a1).size
  have k1:=((n1.blk.below n2.below).below a1).below d9
  refine xsv 0 k1 [V0 0,.bool false,S0,S0] fun W5 u5 k5=>?_
  have g1:=n1.ge (B3 w)
  have k2:=u5.blkT ((n2.blk.below a1).below d9) k1 (by decide)
  refine xsv 0 k2 [.slice a5 1 c5,V0 (inE l 2 no)] fun W6 u6 k6=>?_
  have g2:=n2.ge n1.below
  have hB:=u6.below (u5.below (bln (bln (bln n1.below n2.below) a1) d9) g1) g2
  have c2:=u6.own2 (u5.own2 (Zg c1 g4) k1 (by decide)) k2 (by decide)
  have d8:=u6.blkT k5 k2 (by decide)
  refine Nq 4 [(b1,[V0 0,.bool false,S0,S0]),(b2,[.slice a5 1 c5,V0 (inE l 2 no)])] ⟨⟨_,d8⟩,⟨_,k6⟩,trivial⟩ (.tuple #[.agg #[V0 0,.bool false,S0,S0],.agg #[.slice a5 1 c5,V0 (inE l 2 no)]]) ?_
  have he:Xd l no tree=(inE l 2 no):=by unfold Xd;rw[if_neg a8]
  exact .inl ⟨by rw[he];exact a8,_,_,by rw[he],hB,c2⟩
 have f4:=(bln n1.below n2.below).size
 have d7:=Zg h3 f4
 refine xc 20 (args:=#[.slice p3 244 c3]) (Zgr p3 c3 (inB l no) _ f0 (Ko (Zh d7) f0)) ?_
 rintro e W7 f2
 rcases f2 with ⟨hz,rfl,a3⟩|⟨hz,kp,kc,vp,vc,rfl,a3,hk,f1⟩
 ·refine xa 3 [V0 0,.bool false,S0,S0] 38 fun b8 W8 n8=>?_
  have k1:=((n1.blk.below n2.below).below a1).below a3
  have c4:=n8.ne k1
  refine xsv 0 n8.blk [V0 0,.bool false,S0,S0] fun W9 u9 k9=>?_
  have g8:=n8.ge (bln (bln (bln n1.below n2.below) a1) a3)
  refine xk 10 (show(((Yz (inB l no)) != (0:Int)):Bool)=true from bne_iff_ne.2 hz) ?_
  refine xc 5 (args:=#[V0 no,V0 (Yz (inB l no))]) (Qp no (Yz (inB l no)) _ hz) ?_
  rintro _ h4 ⟨_,rfl,b3,a5,c5,rfl,c1⟩
  have e0:=(u9.below (bln (bln (bln (bln n1.below n2.below) a1) a3) n8.below) g8).size
  have b4:=(u9.blk (k1.below n8.below) (Ne.symm (Ne.symm c4))).below b3
  refine xsv 0 b4 [V0 0,.bool false,S0,S0] fun h5 e1 f9=>?_
  have g1:=n1.ge (B3 w)
  have k2:=e1.blkT ((u9.blkT (((n2.blk.below a1).below a3).below n8.below) n8.blk (by decide)).below b3) b4 (by decide)
  refine xsv 0 k2 [.slice a5 1 c5,V0 (Yz (inB l no))] fun g6 e3 f5=>?_
  have g2:=n2.ge n1.below
  have hB:=e3.below (e1.below (bln (u9.below (bln (bln (bln (bln n1.below n2.below) a1) a3) n8.below) g8) b3) g1) g2
  have c8:=e3.own2 (e1.own2 (Zg c1 e0) b4 (by decide)) k2 (by decide)
  have c6:=e3.blkT f9 k2 (by decide)
  refine Nq 4 [(b1,[V0 0,.bool false,S0,S0]),(b2,[.slice a5 1 c5,V0 (Yz (inB l no))])] ⟨⟨_,c6⟩,⟨_,f5⟩,trivial⟩ (.tuple #[.agg #[V0 0,.bool false,S0,S0],.agg #[.slice a5 1 c5,V0 (Yz (inB l no))]]) ?_
  have he:Xd l no tree=(Yz (inB l no)):=by unfold Xd Qr;rw[if_pos a8,if_neg hz]
  exact .inl ⟨by rw[he];exact hz,_,_,by rw[he],hB,c8⟩
 have d3:=(bln (bln n1.below n2.below) a1).size
 refine xa 3 [V0 0,.bool false,S0,S0] 38 fun h1 g7 a0=>?_
 have k1:=((n1.blk.below n2.below).below a1).below a3
 have a2:=a0.ne k1
 refine xsv 0 a0.blk [V0 (Xw (inB l no)),.bool (Xm (inB l no)),.slice kp (Zp (inB l no)) kc,.slice vp (Zp (inB l no)) vc] fun h8 a4 e4=>?_
 have d2:=a0.ge (bln (bln (bln n1.below n2.below) a1) a3)
 refine xg 19 [36,37] (tree != (0:Int)) (fun a6=>?_) (fun a6=>?_)
 ·have a6:=Vl a6
  refine xb 1 0 e4 ?_
  refine xin 5 (Xw (inB l no)) tree (fun e7=>?_) (fun e7=>?_)
  ·refine xc 4 (args:=#[V0 no,V0 6]) (Qp no 6 _ (by decide)) ?_
   rintro _ h6 ⟨_,rfl,b5,a5,c5,rfl,c1⟩
   have e5:=(a4.below (bln (bln (bln (bln n1.below n2.below) a1) a3) a0.below) d2).size
   have b0:=(a4.blk (k1.below a0.below) (Ne.symm (Ne.symm a2))).below b5
   refine xsv 0 b0 [V0 0,.bool false,S0,S0] fun h2 e6 f3=>?_
   have g1:=n1.ge (B3 w)
   have k2:=e6.blkT ((a4.blkT (((n2.blk.below a1).below a3).below a0.below) a0.blk (by decide)).below b5) b0 (by decide)
   refine xsv 0 k2 [.slice a5 1 c5,V0 6] fun g9 e2 g0=>?_
   have g2:=n2.ge n1.below
   have hB:=e2.below (e6.below (bln (a4.below (bln (bln (bln (bln n1.below n2.below) a1) a3) a0.below) d2) b5) g1) g2
   have b9:=e2.own2 (e6.own2 (Zg c1 e5) b0 (by decide)) k2 (by decide)
   have b7:=e2.blkT f3 k2 (by decide)
   refine Nq 4 [(b1,[V0 0,.bool false,S0,S0]),(b2,[.slice a5 1 c5,V0 6])] ⟨⟨_,b7⟩,⟨_,g0⟩,trivial⟩ (.tuple #[.agg #[V0 0,.bool false,S0,S0],.agg #[.slice a5 1 c5,V0 6]]) ?_
   have he:Xd l no tree=6:=by unfold Xd Qr;rw[if_pos a8,if_pos hz,if_neg (by omega)]
   exact .inl ⟨by rw[he];decide,_,_,by rw[he],hB,b9⟩
  refine xlv 4 e4.rp ?_
  have a9:=a4.blk (k1.below a0.below) (Ne.symm (Ne.symm a2))
  refine xsv 1 a9 [V0 (Xw (inB l no)),.bool (Xm (inB l no)),.slice kp (Zp (inB l no)) kc,.slice vp (Zp (inB l no)) vc] fun h7 d4 g3=>?_
  have g1:=n1.ge (B3 w)
  have k2:=d4.blkT (a4.blkT (((n2.blk.below a1).below a3).below a0.below) a0.blk (by decide)) a9 (by decide)
  refine xsv 0 k2 [S0,V0 0] fun h0 d0 f8=>?_
  have g2:=n2.ge n1.below
  have hB:=d0.below (d4.below (a4.below (bln (bln (bln (bln n1.below n2.below) a1) a3) a0.below) d2) g1) g2
  have e8:=d0.own2 (d4.own2 (a4.own2 (Zb (Zg hk d3) a0.below) a0.blk (by decide)) a9 (by decide)) k2 (by decide)
  have c7:=d0.own2 (d4.own2 (a4.own2 (Zb (Zg f1 d3) a0.below) a0.blk (by decide)) a9 (by decide)) k2 (by decide)
  have c0:=d0.blkT g3 k2 (by decide)
  exact Nq 3 [(b1,[V0 (Xw (inB l no)),.bool (Xm (inB l no)),.slice kp (Zp (inB l no)) kc,.slice vp (Zp (inB l no)) vc]),(b2,[S0,V0 0])] ⟨⟨_,c0⟩,⟨_,f8⟩,trivial⟩ (.tuple #[.agg #[V0 (Xw (inB l no)),.bool (Xm (inB l no)),.slice kp (Zp (inB l no)) kc,.slice vp (Zp (inB l no)) vc],.agg #[S0,V0 0]]) (.inr ⟨by unfold Xd Qr;rw[if_pos a8,if_pos hz,if_pos (by omega)],_,_,_,_,rfl,hB,e8,c7⟩)
 have a6:=Xp a6
 refine xlv 12 e4.rp ?_
 have a7:=a4.blk (k1.below a0.below) (Ne.symm (Ne.symm a2))
 refine xsv 1 a7 [V0 (Xw (inB l no)),.bool (Xm (inB l no)),.slice kp (Zp (inB l no)) kc,.slice vp (Zp (inB l no)) vc] fun h9 d1 g5=>?_
 have g1:=n1.ge (B3 w)
 have k2:=d1.blkT (a4.blkT (((n2.blk.below a1).below a3).below a0.below) a0.blk (by decide)) a7 (by decide)
 refine xsv 0 k2 [S0,V0 0] fun i0 d5 f7=>?_
 have g2:=n2.ge n1.below
 have hB:=d5.below (d1.below (a4.below (bln (bln (bln (bln n1.below n2.below) a1) a3) a0.below) d2) g1) g2
 have e9:=d5.own2 (d1.own2 (a4.own2 (Zb (Zg hk d3) a0.below) a0.blk (by decide)) a7 (by decide)) k2 (by decide)
 have b6:=d5.own2 (d1.own2 (a4.own2 (Zb (Zg f1 d3) a0.below) a0.blk (by decide)) a7 (by decide)) k2 (by decide)
 have c9:=d5.blkT g5 k2 (by decide)
 exact Nq 3 [(b1,[V0 (Xw (inB l no)),.bool (Xm (inB l no)),.slice kp (Zp (inB l no)) kc,.slice vp (Zp (inB l no)) vc]),(b2,[S0,V0 0])] ⟨⟨_,c9⟩,⟨_,f7⟩,trivial⟩ (.tuple #[.agg #[V0 (Xw (inB l no)),.bool (Xm (inB l no)),.slice kp (Zp (inB l no)) kc,.slice vp (Zp (inB l no)) vc],.agg #[S0,V0 0]]) (.inr ⟨by unfold Xd Qr;rw[if_pos a8,if_pos hz,if_pos (by omega)],_,_,_,_,rfl,hB,e9,b6⟩)
theorem ref14_has(a:O0)(c:Nat)(l:List Int)(x:Int)(w:World)(h:Ints w (.slice a l.length c) l)(hln:l.length≤1000000) :
 C0 204 #[.slice a l.length c,V0 x] w (Ret (.bool (Vf l x)) w):=by
 refine zin 18 Tryz.func204 ?_
 have hB:=Below.refl w.heap.size w
 refine zl 12 18 (fun zm a3 V=>∃ (i:Nat),a3=[(0,.slice a l.length c),(1,V0 x),(5,V0 (i:Int))]∧zm=l.length-((i:Int)).toNat∧B0 w V∧i≤l.length∧(∀ j,j<i→x≠l.getD j 0)) ⟨0,rfl,rfl,hB,Nat.zero_le _,?_⟩ ?_
 ·exact fun j hj=>absurd hj (by omega)
 rintro _ _ W1 ⟨i,rfl,rfl,a0,hi,hz⟩ J1 a1 r1
 refine xid 9 ((i:Int)<(l.length:Int)) (fun a4=>?_) (fun a4=>?_)
 ·refine xx 8 _ l.length i 1 (Ints.elem h (k:=i) (by omega)).1 ?_
  refine xl 0 ((Ints.elem (h.below a0) (k:=i) (by omega)).2) ?_
  refine xie 4 (l.getD i 0) x (fun a2=>?_) (fun a2=>?_)
  ·refine xe 11 (.bool true) ?_
   rw[Zaz (i:=i) (by omega) (by omega)];exact⟨rfl,a0⟩
  refine xwm 5 ((i:Int)+1) (↑(i+1):Int) ?_
  exact ze 2 (a1 _ _ _ ⟨i+1,rfl,rfl,a0,by omega,fun j hj=>(Nat.lt_or_ge j i).elim (hz j) (fun q=>by obtain rfl:j=i:=(by omega);omega)⟩ (by omega))
 refine xe 11 (.bool false) ?_
 rw[Ty (fun j hj=>hz j (by omega))];exact⟨rfl,a0⟩
def Zd4(l:Bl)(way:List Int)(no tree lo hi deep:Int)(w:World)(e:Ending)(w':World):Prop :=
 (Zy l way no tree lo hi deep≠0∧∃ a4 b4 k4 n4 c4 v4 m4 d4 a c,e=.returned (.tuple #[.agg #[V0 a4,.bool b4,.slice k4 n4 c4,.slice v4 m4 d4],.agg #[.slice a 1 c,V0 (Zy l way no tree lo hi deep)]])∧B0 w w'∧w'.ownsRow w.heap.size 3 1 (.slice a 1 c) 1 [V0 no]) ∨
 (Zy l way no tree lo hi deep=0∧∃ kp kc vp vc,e=.returned (.tuple #[.agg #[V0 (Xw (inB l no)),.bool (Xm (inB l no)),.slice kp (Zp (inB l no)) kc,.slice vp (Zp (inB l no)) vc],.agg #[S0,V0 0]])∧B0 w w'∧w'.ownsRow w.heap.size 3 1 (.slice kp (Zp (inB l no)) kc) (Zp (inB l no)) ((Yx (inB l no) (Zp (inB l no))).map V0)∧w'.ownsRow w.heap.size 9 1 (.slice vp (Zp (inB l no)) vc) (Zp (inB l no)) ((Ky (inB l no) (Zp (inB l no))).map sv))
theorem Zfs(B bm:Nat)(p:O0)(k c:Nat)(l:Bl)(no tree:Int)(lo hi deep:Int)(way:List Int)(wa:O0)(wc:Nat)(ft:Value)(w:World)(hI:RefI B bm p k c l w)(hw:Ints w (.slice wa way.length wc) way)(hwl:way.length≤100000)(hr:Qq lo hi=true) :
 C0 189 #[P0 bm,.agg #[V0 no,V0 lo,V0 hi,.slice wa way.length wc,ft],V0 tree,V0 deep] w (Zd4 l way no tree lo hi deep w):=by
 refine zin 84 Tryz.func189 ?_
 refine xa 2 [V0 no,V0 lo,V0 hi,.slice wa way.length wc,ft] 312 fun b1 W1 n1=>?_
 refine xa 0 [V0 0,.bool false,S0,S0] 38 fun b2 W2 n2=>?_
 refine xa 0 [S0,V0 0] 52 fun b3 W3 n3=>?_
 have k1:=(n1.blk.below n2.below).below n3.below
 refine xb 6 3 k1 ?_
 refine xb 1 0 k1 ?_
 have hB:=bln (bln n1.below n2.below) n3.below
 refine xr 0 (args:=#[.slice wa way.length wc,V0 no]) (ref14_has wa wc way no _ (hw.below hB) (by omega)) fun W4 c7=>?_
 refine xi 2 (Vf way no) (fun p8=>?_) (fun p8=>?_)
 ·have hh:Vf way no=true:=p8
  have r1:=k1.below c7
  refine xb 4 0 r1 ?_
  refine xc 0 (args:=#[V0 no,V0 11]) (Qp no 11 _ (by decide)) ?_
  rintro _ W6 ⟨_,rfl,s7,a5,c5,rfl,f4⟩
  have v5:=(bln hB c7).size
  have k2:=((n2.blk.below n3.below).below c7).below s7
  refine xsv 0 k2 [V0 0,.bool false,S0,S0] fun W7 u7 k7=>?_
  have g2:=n2.ge n1.below
  have k3:=u7.blkT ((n3.blk.below c7).below s7) k2 (by decide)
  refine xsv 0 k3 [.slice a5 1 c5,V0 11] fun W8 u8 k8=>?_
  have g3:=n3.ge (bln n1.below n2.below)
  have s5:=u8.below (u7.below (bln (bln hB c7) s7) g2) g3
  have m2:=u8.own2 (u7.own2 (Zg f4 v5) k2 (by decide)) k3 (by decide)
  have r2:=u8.blkT k7 k3 (by decide)
  refine Nq 4 [(b2,[V0 0,.bool false,S0,S0]),(b3,[.slice a5 1 c5,V0 11])] ⟨⟨_,r2⟩,⟨_,k8⟩,trivial⟩ (.tuple #[.agg #[V0 0,.bool false,S0,S0],.agg #[.slice a5 1 c5,V0 11]]) ?_
  have he:(Zy l way no tree lo hi deep)=11:=by unfold Zy;rw[if_pos hh]
  exact .inl ⟨by rw[he];decide,_,_,_,_,_,_,_,_,_,_,by rw[he],s5,m2⟩
 have hh:Vf way no=false:=p8
 have f9:=k1.below c7
 refine xb 6 3 f9 ?_
 refine xwm 1 ((way.length:Int)+1) (↑(way.length+1):Int) ?_
 refine xid 3 ((↑(way.length+1):Int)>(16:Int)) (fun u4=>?_) (fun u4=>?_)
 ·refine xb 4 0 f9 ?_
  refine xc 0 (args:=#[V0 no,V0 10]) (Qp no 10 _ (by decide)) ?_
  rintro _ w8 ⟨_,rfl,h5,a5,c5,rfl,f4⟩
  have q5:=(bln hB c7).size
  have k2:=((n2.blk.below n3.below).below c7).below h5
  refine xsv 0 k2 [V0 0,.bool false,S0,S0] fun ae s4 v3=>?_
  have g2:=n2.ge n1.below
  have k3:=s4.blkT ((n3.blk.below c7).below h5) k2 (by decide)
  refine xsv 0 k3 [.slice a5 1 c5,V0 10] fun x3 q8 t4=>?_
  have g3:=n3.ge (bln n1.below n2.below)
  have q9:=q8.below (s4.below (bln (bln hB c7) h5) g2) g3
  have l7:=q8.own2 (s4.own2 (Zg f4 q5) k2 (by decide)) k3 (by decide)
  have j2:=q8.blkT v3 k3 (by decide)
  refine Nq 4 [(b2,[V0 0,.bool false,S0,S0]),(b3,[.slice a5 1 c5,V0 10])] ⟨⟨_,j2⟩,⟨_,t4⟩,trivial⟩ (.tuple #[.agg #[V0 0,.bool false,S0,S0],.agg #[.slice a5 1 c5,V0 10]]) ?_
  have he:(Zy l way no tree lo hi deep)=10:=by unfold Zy;rw[if_neg (by rw[hh];decide),if_pos (by omega)]
  exact .inl ⟨by rw[he];decide,_,_,_,_,_,_,_,_,_,_,by rw[he],q9,l7⟩
 refine xb 6 0 f9 ?_
 have p9:=(((hI.below n1.below).below n2.below).below n3.below).below c7
 refine xc 1 (args:=#[P0 bm,V0 no,V0 tree]) (Zf3 B bm p k c l no tree _ p9) ?_
 rintro e z7 s8
 rcases s8 with ⟨c6,a3,c3,rfl,c9,q6⟩|⟨c6,kp,kc,vp,vc,rfl,c9,hk,i0⟩
 ·have e2:=(bln hB c7).size
  refine xa 3 [V0 0,.bool false,S0,S0] 38 fun x1 x2 e9=>?_
  have k2:=((n2.blk.below n3.below).below c7).below c9
  have d1:=e9.ne k2
  have j9:=bln (bln hB c7) c9
  have s3:=e9.ge j9
  refine xa 0 [S0,V0 0] 52 fun ac z2 d0=>?_
  have k3:=((n3.blk.below c7).below c9).below e9.below
  have d3:=d0.ne k3
  have h0:=bln j9 e9.below
  have r5:=d0.ge h0
  have h1:=e9.blk.below d0.below
  refine xsv 0 h1 [V0 0,.bool false,S0,S0] fun y5 d9 t2=>?_
  have g5:=d9.blkT d0.blk h1 (by decide)
  refine xsv 0 g5 [.slice a3 1 c3,V0 (Xd l no tree)] fun c8 d4 n4=>?_
  refine xb 6 1 n4 ?_
  refine xk 3 (show(((Xd l no tree) != (0:Int)):Bool)=true from bne_iff_ne.2 c6) ?_
  refine xd 1 (.t w.heap.size [38,52]) ?_
  refine xm2 0 0 1 ?_ ?_
  ·have m4:=(d4.blkT t2 g5 (by decide)).below (Za c8)
   refine xlv 0 m4.rp ?_
   refine xm2 0 1 2 ?_ ?_
   ·have i4:=n4.below (Za c8)
    refine xlv 0 i4.rp ?_
    have g7:=(d4.blkT (d9.blk ((k2.below e9.below).below d0.below) (Ne.symm (Ne.symm d1))) g5 (by decide)).below (Za c8)
    have g2:=n2.ge n1.below
    refine ysv (.o [] 2) g7 [V0 0,.bool false,S0,S0] (.t w.heap.size [38,52]) fun y7 p4 u2=>⟨(Zo p4 g7 g2 (by decide)),?_⟩
    have g8:=p4.blkT ((d4.blk (d9.blkT (k3.below d0.below) h1 (by decide)) (Ne.symm (Ne.symm d3))).below (Za c8)) g7 (by decide)
    have g3:=n3.ge (bln n1.below n2.below)
    refine ysv (.o [] 3) g8 [.slice a3 1 c3,V0 (Xd l no tree)] (.t w.heap.size [38,52]) fun y6 o5 v4=>⟨(Zo o5 g8 g3 (by decide)),?_⟩
    have s1:=o5.below (p4.below (bln (d4.below (d9.below (bln h0 d0.below) s3) r5) (Za c8)) g2) g3
    have i7:=o5.own2 (p4.own2 (Zb (d4.own2 (d9.own2 (Zb (Zb (Zg q6 e2) e9.below) d0.below) h1 (by decide)) g5 (by decide)) (Za c8)) g7 (by decide)) g8 (by decide)
    have l2:=o5.blkT u2 g8 (by decide)
    refine Nq 4 [(b2,[V0 0,.bool false,S0,S0]),(b3,[.slice a3 1 c3,V0 (Xd l no tree)])] ⟨⟨_,l2⟩,⟨_,v4⟩,trivial⟩ (.tuple #[.agg #[V0 0,.bool false,S0,S0],.agg #[.slice a3 1 c3,V0 (Xd l no tree)]]) ?_
    have he:(Zy l way no tree lo hi deep)=Xd l no tree:=by unfold Zy;rw[if_neg (by rw[hh];decide),if_neg (by omega),if_pos c6]
    exact .inl ⟨by rw[he];exact c6,_,_,_,_,_,_,_,_,_,_,by rw[he],s1,i7⟩
   have f3:=(d4.blkT (d9.blk ((k2.below e9.below).below d0.below) (Ne.symm (Ne.symm d1))) g5 (by decide)).below (Za c8)
   have g2:=n2.ge n1.below
   refine ysv 0 f3 [V0 0,.bool false,S0,S0] (.t w.heap.size [38,52]) fun z0 j3 t8=>⟨(Zo j3 f3 g2 (by decide)),?_⟩
   have k6:=j3.blkT (n4.below (Za c8)) f3 (by decide)
   refine xlv (.o [] 1) k6.rp ?_
   have f7:=j3.blkT ((d4.blk (d9.blkT (k3.below d0.below) h1 (by decide)) (Ne.symm (Ne.symm d3))).below (Za c8)) f3 (by decide)
   have g3:=n3.ge (bln n1.below n2.below)
   refine ysv (.o [] 3) f7 [.slice a3 1 c3,V0 (Xd l no tree)] (.t w.heap.size [38,52]) fun aa o4 u3=>⟨(Zo o4 f7 g3 (by decide)),?_⟩
   have s2:=o4.below (j3.below (bln (d4.below (d9.below (bln h0 d0.below) s3) r5) (Za c8)) g2) g3
   have l6:=o4.own2 (j3.own2 (Zb (d4.own2 (d9.own2 (Zb (Zb (Zg q6 e2) e9.below) d0.below) h1 (by decide)) g5 (by decide)) (Za c8)) f3 (by decide)) f7 (by decide)
   have l4:=o4.blkT t8 f7 (by decide)
   refine Nq 4 [(b2,[V0 0,.bool false,S0,S0]),(b3,[.slice a3 1 c3,V0 (Xd l no tree)])] ⟨⟨_,l4⟩,⟨_,u3⟩,trivial⟩ (.tuple #[.agg #[V0 0,.bool false,S0,S0],.agg #[.slice a3 1 c3,V0 (Xd l no tree)]]) ?_
   have he:(Zy l way no tree lo hi deep)=Xd l no tree:=by unfold Zy;rw[if_neg (by rw[hh];decide),if_neg (by omega),if_pos c6]
   exact .inl ⟨by rw[he];exact c6,_,_,_,_,_,_,_,_,_,_,by rw[he],s2,l6⟩
  have i9:=n4.below (Za c8)
  refine xlv 0 i9.rp ?_
  have l3:=(d4.blkT t2 g5 (by decide)).below (Za c8)
  refine xlv (.o [] 0) l3.rp ?_
  have g0:=(d4.blkT (d9.blk ((k2.below e9.below).below d0.below) (Ne.symm (Ne.symm d1))) g5 (by decide)).below (Za c8)
  have g2:=n2.ge n1.below
  refine ysv (.o [] 2) g0 [V0 0,.bool false,S0,S0] (.t w.heap.size [38,52]) fun z4 n6 w4=>⟨(Zo n6 g0 g2 (by decide)),?_⟩
  have g1:=n6.blkT ((d4.blk (d9.blkT (k3.below d0.below) h1 (by decide)) (Ne.symm (Ne.symm d3))).below (Za c8)) g0 (by decide)
  have g3:=n3.ge (bln n1.below n2.below)
  refine ysv (.o [] 3) g1 [.slice a3 1 c3,V0 (Xd l no tree)] (.t w.heap.size [38,52]) fun y1 o1 t6=>⟨(Zo o1 g1 g3 (by decide)),?_⟩
  have p7:=o1.below (n6.below (bln (d4.below (d9.below (bln h0 d0.below) s3) r5) (Za c8)) g2) g3
  have j6:=o1.own2 (n6.own2 (Zb (d4.own2 (d9.own2 (Zb (Zb (Zg q6 e2) e9.below) d0.below) h1 (by decide)) g5 (by decide)) (Za c8)) g0 (by decide)) g1 (by decide)
  have j8:=o1.blkT w4 g1 (by decide)
  refine Nq 4 [(b2,[V0 0,.bool false,S0,S0]),(b3,[.slice a3 1 c3,V0 (Xd l no tree)])] ⟨⟨_,j8⟩,⟨_,t6⟩,trivial⟩ (.tuple #[.agg #[V0 0,.bool false,S0,S0],.agg #[.slice a3 1 c3,V0 (Xd l no tree)]]) ?_
  have he:(Zy l way no tree lo hi deep)=Xd l no tree:=by unfold Zy;rw[if_neg (by rw[hh];decide),if_neg (by omega),if_pos c6]
  exact .inl ⟨by rw[he];exact c6,_,_,_,_,_,_,_,_,_,_,by rw[he],p7,j6⟩
 have e2:=(bln hB c7).size
 have w7:Zp (inB l no)≤18:=Nat.le_trans (Hv (Fu (Nw (Ls c6).2))) (maxG_18 _ _)
 refine xa 3 [V0 0,.bool false,S0,S0] 38 fun t1 x8 g4=>?_
 have k2:=((n2.blk.below n3.below).below c7).below c9
 have h4:=g4.ne k2
 have i8:=bln (bln hB c7) c9
 have t7:=g4.ge i8
 refine xa 0 [S0,V0 0] 52 fun w1 w9 f6=>?_
 have k3:=((n3.blk.below c7).below c9).below g4.below
 have h6:=f6.ne k3
 have j4:=bln i8 g4.below
 have t9:=f6.ge j4
 have h9:=g4.blk.below f6.below
 refine xsv 0 h9 [V0 (Xw (inB l no)),.bool (Xm (inB l no)),.slice kp (Zp (inB l no)) kc,.slice vp (Zp (inB l no)) vc] fun z5 h7 u1=>?_
 have i1:=h7.blkT f6.blk h9 (by decide)
 refine xsv 0 i1 [S0,V0 0] fun x5 h3 t3=>?_
 refine xb 6 1 t3 ?_
 have r8:=h3.own2 (h7.own2 (Zb (Zb (Zg hk e2) g4.below) f6.below) h9 (by decide)) i1 (by decide)
 have m5:=h3.own2 (h7.own2 (Zb (Zb (Zg i0 e2) g4.below) f6.below) h9 (by decide)) i1 (by decide)
 have l0:=h3.below (h7.below (bln j4 f6.below) t7) t9
 have p5:=h3.blkT (h7.blkT (((f9.below c9).below g4.below).below f6.below) h9 (by decide)) i1 (by decide)
 have s6:=h3.blkT (h7.blk ((k2.below g4.below).below f6.below) (Ne.symm (Ne.symm h4))) i1 (by decide)
 have q4:=h3.blk (h7.blkT (k3.below f6.below) h9 (by decide)) (Ne.symm (Ne.symm h6))
 have k9:=h3.blkT u1 i1 (by decide)
 refine zl 13 84 (fun zm v6 V=>∃ (i:Nat),v6=[(3,V0 deep),(5,P0 b1),(8,P0 b2),(9,P0 b3),(10,P0 t1),(12,V0 (i:Int))]∧zm=Zp (inB l no)-((i:Int)).toNat∧B0 w V∧Blk V b1 ([V0 no,V0 lo,V0 hi,.slice wa way.length wc,ft]) 312∧Blk V b2 ([V0 0,.bool false,S0,S0]) 38∧Blk V b3 ([S0,V0 0]) 52∧Blk V t1 ([V0 (Xw (inB l no)),.bool (Xm (inB l no)),.slice kp (Zp (inB l no)) kc,.slice vp (Zp (inB l no)) vc]) 38∧Blk V w1 ([S0,V0 0]) 52∧V.ownsRow w.heap.size 3 1 (.slice kp (Zp (inB l no)) kc) (Zp (inB l no)) ((Yx (inB l no) (Zp (inB l no))).map V0)∧V.ownsRow w.heap.size 9 1 (.slice vp (Zp (inB l no)) vc) (Zp (inB l no)) ((Ky (inB l no) (Zp (inB l no))).map sv)∧i≤Zp (inB l no)∧(∀ j,j<i→Et lo hi ((Xv l no).getD j 0)=true)) ⟨0,rfl,rfl,l0,p5,s6,q4,k9,t3,r8,m5,Nat.zero_le _,?_⟩ ?_
 ·exact fun j hj=>absurd hj (by omega)
 rintro _ _ c2 ⟨i,rfl,rfl,a4,d2,a0,a6,a1,f8,hk,i0,y9,d6⟩ y2 q0 x7
 refine xb 5 2 a1 ?_
 refine xid 4 ((i:Int)<(↑(Zp (inB l no)):Int)) (fun q7=>?_) (fun q7=>?_)
 ·refine xd 5 .z ?_
  have c4:=d2.below (Za c2)
  refine xlv (.e [0] 1) (c4.rpp 1 2) ?_
  have a7:=a1.below (Za c2)
  refine xb (.e [2] 3) 2 a7 ?_
  have h8:=Zb hk (Za c2)
  refine xx (.e [4] 5) _ (Zp (inB l no)) i 1 (IntsN.elem (l:=(Xv l no)) (Zh h8) (Yv _ _) (k:=i) (by omega)).1 ?_
  refine xl (.e [] 6) ((IntsN.elem (l:=(Xv l no)) (Zh h8) (Yv _ _) (k:=i) (by omega)).2) ?_
  refine xr (.o [] 7) (args:=#[.agg #[V0 lo,V0 hi],V0 ((Xv l no).getD i 0)]) (Nj lo hi ((Xv l no).getD i 0) _) fun e8 a2=>?_
  refine xi (.r [8] 2) (!(Et lo hi ((Xv l no).getD i 0))) (fun h2=>?_) (fun h2=>?_)
  ·have o3:Et lo hi ((Xv l no).getD i 0)=false:=by simpa using h2
   refine xd 1 (.t w.heap.size [38,52]) ?_
   have f2:=(c4.below a2).below (Za e8)
   refine xbt (.e [1] 2) 0 w.heap.size [38,52] f2 ?_
   refine xm2 0 0 3 ?_ ?_
   ·have d5:=(a7.below a2).below (Za e8)
    refine xlv 0 d5.rp ?_
    refine yc (.o [] 3) (args:=#[V0 no,V0 9]) (.t w.heap.size [38,52]) (Qp no 9 _ (by decide)) ?_
    rintro _ z1 ⟨_,rfl,g6,a5,c5,rfl,f4⟩
    have r6:=(bln (bln (bln a4 (Za c2)) a2) (Za e8)).size
    refine⟨(SF.of_below _ g6),?_⟩
    have c0:=(((a0.below (Za c2)).below a2).below (Za e8)).below g6
    have g2:=n2.ge n1.below
    refine ysv (.o [] 4) c0 [V0 (Xw (inB l no)),.bool (Xm (inB l no)),.slice kp (Zp (inB l no)) kc,.slice vp (Zp (inB l no)) vc] (.t w.heap.size [38,52]) fun y8 n8 u6=>⟨(Zo n8 c0 g2 (by decide)),?_⟩
    have b5:=n8.blkT ((((a6.below (Za c2)).below a2).below (Za e8)).below g6) c0 (by decide)
    have g3:=n3.ge (bln n1.below n2.below)
    refine ysv (.o [] 5) b5 [.slice a5 1 c5,V0 9] (.t w.heap.size [38,52]) fun ab n7 t5=>⟨(Zo n7 b5 g3 (by decide)),?_⟩
    have m3:=n7.below (n8.below (bln (bln (bln (bln a4 (Za c2)) a2) (Za e8)) g6) g2) g3
    have m1:=n7.own2 (n8.own2 (Zg f4 r6) c0 (by decide)) b5 (by decide)
    have i5:=n7.blkT u6 b5 (by decide)
    refine Nq 8 [(b2,[V0 (Xw (inB l no)),.bool (Xm (inB l no)),.slice kp (Zp (inB l no)) kc,.slice vp (Zp (inB l no)) vc]),(b3,[.slice a5 1 c5,V0 9])] ⟨⟨_,i5⟩,⟨_,t5⟩,trivial⟩ (.tuple #[.agg #[V0 (Xw (inB l no)),.bool (Xm (inB l no)),.slice kp (Zp (inB l no)) kc,.slice vp (Zp (inB l no)) vc],.agg #[.slice a5 1 c5,V0 9]]) ?_
    have he:(Zy l way no tree lo hi deep)=9:=by unfold Zy;rw[if_neg (by rw[hh];decide),if_neg (by omega),if_neg (by rw[c6];decide),if_pos (by have:=Zei (i:=i) (tree:=tree) (by omega) o3;exact this)]
    exact .inl ⟨by rw[he];decide,_,_,_,_,_,_,_,_,_,_,by rw[he],m3,m1⟩
   refine yc 0 (args:=#[V0 no,V0 9]) (.t w.heap.size [38,52]) (Qp no 9 _ (by decide)) ?_
   rintro _ z6 ⟨_,rfl,f5,a5,c5,rfl,f4⟩
   have s9:=(bln (bln (bln a4 (Za c2)) a2) (Za e8)).size
   refine⟨(SF.of_below _ f5),?_⟩
   have e1:=((a7.below a2).below (Za e8)).below f5
   refine xlv (.o [] 0) e1.rp ?_
   have b0:=(((a0.below (Za c2)).below a2).below (Za e8)).below f5
   have g2:=n2.ge n1.below
   refine ysv (.o [] 4) b0 [V0 (Xw (inB l no)),.bool (Xm (inB l no)),.slice kp (Zp (inB l no)) kc,.slice vp (Zp (inB l no)) vc] (.t w.heap.size [38,52]) fun x9 o0 v9=>⟨(Zo o0 b0 g2 (by decide)),?_⟩
   have b6:=o0.blkT ((((a6.below (Za c2)).below a2).below (Za e8)).below f5) b0 (by decide)
   have g3:=n3.ge (bln n1.below n2.below)
   refine ysv (.o [] 5) b6 [.slice a5 1 c5,V0 9] (.t w.heap.size [38,52]) fun x4 p0 u5=>⟨(Zo p0 b6 g3 (by decide)),?_⟩
   have l1:=p0.below (o0.below (bln (bln (bln (bln a4 (Za c2)) a2) (Za e8)) f5) g2) g3
   have k0:=p0.own2 (o0.own2 (Zg f4 s9) b0 (by decide)) b6 (by decide)
   have j1:=p0.blkT v9 b6 (by decide)
   refine Nq 8 [(b2,[V0 (Xw (inB l no)),.bool (Xm (inB l no)),.slice kp (Zp (inB l no)) kc,.slice vp (Zp (inB l no)) vc]),(b3,[.slice a5 1 c5,V0 9])] ⟨⟨_,j1⟩,⟨_,u5⟩,trivial⟩ (.tuple #[.agg #[V0 (Xw (inB l no)),.bool (Xm (inB l no)),.slice kp (Zp (inB l no)) kc,.slice vp (Zp (inB l no)) vc],.agg #[.slice a5 1 c5,V0 9]]) ?_
   have he:(Zy l way no tree lo hi deep)=9:=by unfold Zy;rw[if_neg (by rw[hh];decide),if_neg (by omega),if_neg (by rw[c6];decide),if_pos (by have:=Zei (i:=i) (tree:=tree) (by omega) o3;exact this)]
   exact .inl ⟨by rw[he];decide,_,_,_,_,_,_,_,_,_,_,by rw[he],l1,k0⟩
  have o3:Et lo hi ((Xv l no).getD i 0)=true:=by simpa using h2
  refine xwm 5 ((i:Int)+1) (↑(i+1):Int) ?_
  have m9:=bln (bln a4 (Za c2)) a2
  have e5:=c4.below a2
  have e6:=(a0.below (Za c2)).below a2
  have e7:=(a6.below (Za c2)).below a2
  have d7:=a7.below a2
  have e3:=(f8.below (Za c2)).below a2
  have r3:=Zb h8 a2
  have i2:=Zb (Zb i0 (Za c2)) a2
  exact ze 2 (q0 _ _ _ ⟨i+1,rfl,rfl,m9,e5,e6,e7,d7,e3,r3,i2,by omega,fun j hj=>(Nat.lt_or_ge j i).elim (d6 j) (fun q=>by obtain rfl:j=i:=(by omega);exact o3)⟩ (by omega))
 refine xb 9 1 a1 ?_
 refine xg 1 [65,66] (Xm (inB l no)) (fun r4=>?_) (fun r4=>?_)
 ·refine xg 4 [68,69,70] (deep != (0:Int)) (fun f1=>?_) (fun f1=>?_)
  ·have f1:=Vl f1
   refine xb 1 3 d2 ?_
   refine xwm 1 ((way.length:Int)+1) (↑(way.length+1):Int) ?_
   refine xin 5 (↑(way.length+1):Int) deep (fun s0=>?_) (fun s0=>?_)
   ·refine xd 1 (.t w.heap.size [38,52]) ?_
    have e4:=d2.below (Za c2)
    refine xbt (.e [1] 2) 0 w.heap.size [38,52] e4 ?_
    refine xm2 0 0 3 ?_ ?_
    ·have d8:=a1.below (Za c2)
     refine xlv 0 d8.rp ?_
     refine yc (.o [] 3) (args:=#[V0 no,V0 10]) (.t w.heap.size [38,52]) (Qp no 10 _ (by decide)) ?_
     rintro _ x6 ⟨_,rfl,g9,a5,c5,rfl,f4⟩
     have p6:=(bln a4 (Za c2)).size
     refine⟨(SF.of_below _ g9),?_⟩
     have b7:=(a0.below (Za c2)).below g9
     have g2:=n2.ge n1.below
     refine ysv (.o [] 4) b7 [V0 (Xw (inB l no)),.bool (Xm (inB l no)),.slice kp (Zp (inB l no)) kc,.slice vp (Zp (inB l no)) vc] (.t w.heap.size [38,52]) fun y0 o7 u9=>⟨(Zo o7 b7 g2 (by decide)),?_⟩
     have b9:=o7.blkT ((a6.below (Za c2)).below g9) b7 (by decide)
     have g3:=n3.ge (bln n1.below n2.below)
     refine ysv (.o [] 5) b9 [.slice a5 1 c5,V0 10] (.t w.heap.size [38,52]) fun x0 o6 v2=>⟨(Zo o6 b9 g3 (by decide)),?_⟩
     have l5:=o6.below (o7.below (bln (bln a4 (Za c2)) g9) g2) g3
     have j5:=o6.own2 (o7.own2 (Zg f4 p6) b7 (by decide)) b9 (by decide)
     have m6:=o6.blkT u9 b9 (by decide)
     refine Nq 4 [(b2,[V0 (Xw (inB l no)),.bool (Xm (inB l no)),.slice kp (Zp (inB l no)) kc,.slice vp (Zp (inB l no)) vc]),(b3,[.slice a5 1 c5,V0 10])] ⟨⟨_,m6⟩,⟨_,v2⟩,trivial⟩ (.tuple #[.agg #[V0 (Xw (inB l no)),.bool (Xm (inB l no)),.slice kp (Zp (inB l no)) kc,.slice vp (Zp (inB l no)) vc],.agg #[.slice a5 1 c5,V0 10]]) ?_
     have he:(Zy l way no tree lo hi deep)=10:=by unfold Zy;rw[if_neg (by rw[hh];decide),if_neg (by omega),if_neg (by rw[c6];decide),if_neg (by have:=Wk c6 hr (fun j hj=>d6 j (by omega));unfold Xv at this;rw[this];decide),if_pos ⟨by assumption,by omega,by omega⟩]
     exact .inl ⟨by rw[he];decide,_,_,_,_,_,_,_,_,_,_,by rw[he],l5,j5⟩
    refine yc 0 (args:=#[V0 no,V0 10]) (.t w.heap.size [38,52]) (Qp no 10 _ (by decide)) ?_
    rintro _ af ⟨_,rfl,f0,a5,c5,rfl,f4⟩
    have r9:=(bln a4 (Za c2)).size
    refine⟨(SF.of_below _ f0),?_⟩
    have e0:=(a1.below (Za c2)).below f0
    refine xlv (.o [] 0) e0.rp ?_
    have a9:=(a0.below (Za c2)).below f0
    have g2:=n2.ge n1.below
    refine ysv (.o [] 4) a9 [V0 (Xw (inB l no)),.bool (Xm (inB l no)),.slice kp (Zp (inB l no)) kc,.slice vp (Zp (inB l no)) vc] (.t w.heap.size [38,52]) fun ad p2 v8=>⟨(Zo p2 a9 g2 (by decide)),?_⟩
    have b8:=p2.blkT ((a6.below (Za c2)).below f0) a9 (by decide)
    have g3:=n3.ge (bln n1.below n2.below)
    refine ysv (.o [] 5) b8 [.slice a5 1 c5,V0 10] (.t w.heap.size [38,52]) fun z9 p1 w2=>⟨(Zo p1 b8 g3 (by decide)),?_⟩
    have j0:=p1.below (p2.below (bln (bln a4 (Za c2)) f0) g2) g3
    have k5:=p1.own2 (p2.own2 (Zg f4 r9) a9 (by decide)) b8 (by decide)
    have m8:=p1.blkT v8 b8 (by decide)
    refine Nq 4 [(b2,[V0 (Xw (inB l no)),.bool (Xm (inB l no)),.slice kp (Zp (inB l no)) kc,.slice vp (Zp (inB l no)) vc]),(b3,[.slice a5 1 c5,V0 10])] ⟨⟨_,m8⟩,⟨_,w2⟩,trivial⟩ (.tuple #[.agg #[V0 (Xw (inB l no)),.bool (Xm (inB l no)),.slice kp (Zp (inB l no)) kc,.slice vp (Zp (inB l no)) vc],.agg #[.slice a5 1 c5,V0 10]]) ?_
    have he:(Zy l way no tree lo hi deep)=10:=by unfold Zy;rw[if_neg (by rw[hh];decide),if_neg (by omega),if_neg (by rw[c6];decide),if_neg (by have:=Wk c6 hr (fun j hj=>d6 j (by omega));unfold Xv at this;rw[this];decide),if_pos ⟨by assumption,by omega,by omega⟩]
    exact .inl ⟨by rw[he];decide,_,_,_,_,_,_,_,_,_,_,by rw[he],j0,k5⟩
   refine xlv 4 a1.rp ?_
   refine xsv 1 a0 [V0 (Xw (inB l no)),.bool (Xm (inB l no)),.slice kp (Zp (inB l no)) kc,.slice vp (Zp (inB l no)) vc] fun w5 p3 v7=>?_
   have g2:=n2.ge n1.below
   have a8:=p3.blkT a6 a0 (by decide)
   refine xsv 0 a8 [S0,V0 0] fun z3 o2 v1=>?_
   have g3:=n3.ge (bln n1.below n2.below)
   have m0:=o2.below (p3.below a4 g2) g3
   have t0:=o2.own2 (p3.own2 hk a0 (by decide)) a8 (by decide)
   have i3:=o2.own2 (p3.own2 i0 a0 (by decide)) a8 (by decide)
   have j7:=o2.blkT v7 a8 (by decide)
   refine Nq 3 [(b2,[V0 (Xw (inB l no)),.bool (Xm (inB l no)),.slice kp (Zp (inB l no)) kc,.slice vp (Zp (inB l no)) vc]),(b3,[S0,V0 0])] ⟨⟨_,j7⟩,⟨_,v1⟩,trivial⟩ (.tuple #[.agg #[V0 (Xw (inB l no)),.bool (Xm (inB l no)),.slice kp (Zp (inB l no)) kc,.slice vp (Zp (inB l no)) vc],.agg #[S0,V0 0]]) ?_
   have he:(Zy l way no tree lo hi deep)=0:=by unfold Zy;rw[if_neg (by rw[hh];decide),if_neg (by omega),if_neg (by rw[c6];decide),if_neg (by have:=Wk c6 hr (fun j hj=>d6 j (by omega));unfold Xv at this;rw[this];decide),if_neg];rintro⟨q1,q2,q3⟩;omega
   exact .inr ⟨he,_,_,_,_,rfl,m0,t0,i3⟩
  have f1:=Xp f1
  refine xlv 14 a1.rp ?_
  refine xsv 1 a0 [V0 (Xw (inB l no)),.bool (Xm (inB l no)),.slice kp (Zp (inB l no)) kc,.slice vp (Zp (inB l no)) vc] fun y3 o8 w0=>?_
  have g2:=n2.ge n1.below
  have b4:=o8.blkT a6 a0 (by decide)
  refine xsv 0 b4 [S0,V0 0] fun y4 n9 w3=>?_
  have g3:=n3.ge (bln n1.below n2.below)
  have m7:=n9.below (o8.below a4 g2) g3
  have r0:=n9.own2 (o8.own2 hk a0 (by decide)) b4 (by decide)
  have i6:=n9.own2 (o8.own2 i0 a0 (by decide)) b4 (by decide)
  have l9:=n9.blkT w0 b4 (by decide)
  refine Nq 3 [(b2,[V0 (Xw (inB l no)),.bool (Xm (inB l no)),.slice kp (Zp (inB l no)) kc,.slice vp (Zp (inB l no)) vc]),(b3,[S0,V0 0])] ⟨⟨_,l9⟩,⟨_,w3⟩,trivial⟩ (.tuple #[.agg #[V0 (Xw (inB l no)),.bool (Xm (inB l no)),.slice kp (Zp (inB l no)) kc,.slice vp (Zp (inB l no)) vc],.agg #[S0,V0 0]]) ?_
  have he:(Zy l way no tree lo hi deep)=0:=by unfold Zy;rw[if_neg (by rw[hh];decide),if_neg (by omega),if_neg (by rw[c6];decide),if_neg (by have:=Wk c6 hr (fun j hj=>d6 j (by omega));unfold Xv at this;rw[this];decide),if_neg];rintro⟨q1,q2,q3⟩;omega
  exact .inr ⟨he,_,_,_,_,rfl,m7,r0,i6⟩
 refine xlv 18 a1.rp ?_
 refine xsv 1 a0 [V0 (Xw (inB l no)),.bool (Xm (inB l no)),.slice kp (Zp (inB l no)) kc,.slice vp (Zp (inB l no)) vc] fun w6 n5 u0=>?_
 have g2:=n2.ge n1.below
 have c1:=n5.blkT a6 a0 (by decide)
 refine xsv 0 c1 [S0,V0 0] fun z8 o9 v0=>?_
 have g3:=n3.ge (bln n1.below n2.below)
 have k4:=o9.below (n5.below a4 g2) g3
 have r7:=o9.own2 (n5.own2 hk a0 (by decide)) c1 (by decide)
 have n0:=o9.own2 (n5.own2 i0 a0 (by decide)) c1 (by decide)
 have l8:=o9.blkT u0 c1 (by decide)
 refine Nq 3 [(b2,[V0 (Xw (inB l no)),.bool (Xm (inB l no)),.slice kp (Zp (inB l no)) kc,.slice vp (Zp (inB l no)) vc]),(b3,[S0,V0 0])] ⟨⟨_,l8⟩,⟨_,v0⟩,trivial⟩ (.tuple #[.agg #[V0 (Xw (inB l no)),.bool (Xm (inB l no)),.slice kp (Zp (inB l no)) kc,.slice vp (Zp (inB l no)) vc],.agg #[S0,V0 0]]) ?_
 have he:(Zy l way no tree lo hi deep)=0:=by unfold Zy;rw[if_neg (by rw[hh];decide),if_neg (by omega),if_neg (by rw[c6];decide),if_neg (by have:=Wk c6 hr (fun j hj=>d6 j (by omega));unfold Xv at this;rw[this];decide),if_neg];rintro⟨q1,q2,q3⟩;exact absurd q1 (by simp_all)
 exact .inr ⟨he,_,_,_,_,rfl,k4,r7,n0⟩
theorem Zfo(w:World) :
 C0 89 #[] w (Vy (fun w' r=>∃ b,r=.slice (S1 b) 1 1∧w.heap.size≤b∧Blk w' b [V0 4,V0 1,V0 14399] 270) w):=by
 refine zin 3 Tryz.func89 ?_
 refine xbs 8 1 [V0 4,V0 1,V0 14399] 270 fun b1 W1 n1=>?_
 have g1:=n1.ge (B3 w)
 exact xe 4 (.slice (S1 b1) 1 1) ⟨_,rfl,n1.below,_,rfl,g1,n1.blk⟩
theorem Zg1(gl gn:Nat)(n:Int)(h1:1≤n)(h2:n≤14399)(w:World)(hl:Blk w gl [V0 4,V0 1,V0 14399] 270)(hn:Blk w gn [V0 n] 3) :
 C0 87 #[.slice (S1 gl) 1 1,.slice (S1 gn) 1 1] w (Ret (.string ⟨(leB n 4).toArray⟩) w):=by
 have b3:=h1
 have b6:=h2
 clear h2
 refine zin 51 Tryz.func87 ?_
 refine xu 19 2 ?_
 refine xlv 15 hl.rp ?_
 refine xa 0 [V0 0,V0 0,V0 0] 270 fun b1 W1 n1=>?_
 have a6:=n1.ne hl
 refine xsv 1 n1.blk [V0 4,V0 1,V0 14399] fun W2 u2 k2=>?_
 have g1:=n1.ge (B3 w)
 refine xd 4 .z ?_
 have a0:=(u2.blkT (hn.below n1.below) n1.blk (by decide)).below (Za W2)
 refine xb (.e [0,1,2] 3) 0 a0 ?_
 have a1:=k2.below (Za W2)
 refine xb (.e [4] 5) 1 a1 ?_
 refine xgk (.b [6,7]) [23,24] (show(decide (n<(1:Int)):Bool)=false from decide_eq_false (by omega)) ?_
 refine xb (.e [8,9,10] 11) 0 a0 ?_
 refine xb (.e [12] 13) 2 a1 ?_
 refine xk (.r [14,15] 2) (show(decide (n>(14399:Int)):Bool)=false from decide_eq_false (by omega)) ?_
 refine xd 3 .z ?_
 have a3:=a1.below (Za W2.drew)
 refine xb (.e [0] 1) 0 a3 ?_
 have a5:=a0.below (Za W2.drew)
 refine xb (.e [2,3,4] 5) 0 a5 ?_
 refine xbs (.o [6] 7) 1 [V0 4,V0 n] 229 fun b4 W4 n4=>?_
 refine yc (.o [] 8) (args:=#[.slice (S1 b4) 1 1]) .z (Pack_4 b4 n (by omega) (by omega) _ n4.blk) ?_
 rintro _ W5 ⟨_,rfl,a7,p2,c2,rfl,h2⟩
 have a8:=(bln (bln (bln (u2.below n1.below g1) (Za W2)) (Za W2.drew)) n4.below).size
 refine⟨a7,?_⟩
 have o6:=World.ownsRow_nil W5 w.heap.size 5 1
 have a2:=Zg h2 a8
 have hB:=bln (bln (bln (bln (u2.below n1.below g1) (Za W2)) (Za W2.drew)) n4.below) a7
 refine xbi (.r [9,10,11,12,13] 5) fun _ _ _ _ zJ zQ zo zx zy zK=>Zu (m:=4) (news:=(leB n 4).map bv) (.int .u8 0) 1 1 (4) ((leB n 4).map bv) zo Tryz.underlying22 (by kernel_rfl) rfl (by decide) zx o6 zy (Zh a2) (by simp[Zt]) (Kf _) (by unfold maxLen;omega) (by omega) hB.size (by rfl) (by simp) fun b5 b0 W7 o7 b2 a9=>?_
 refine zK _ _ ?_
 refine xcv0 24 (fun _ _ _ zo zx=>Jf zo zx (Ko (Zh o7) (Zt _ _)) (Zt _ _) Tryz.underlying22 Tryz.underlying5 Tryz.underlying9) ?_
 have a4:=hB.trans a9
 exact xe 4 (.string ⟨(leB n 4).toArray⟩) ⟨rfl,a4⟩
theorem Ts(n:Int)(h1:1≤n)(h2:n≤14399)(w:World) :
 C0 41 #[V0 n] w (Ret (.string ⟨(leB n 4).toArray⟩) w):=by
 refine zin 7 Tryz.func41 ?_
 refine xc 7 (args:=#[]) (Zfo _) ?_
 rintro _ W1 ⟨_,rfl,a1,gl,rfl,gg,kl⟩
 refine xbs 1 1 [V0 n] 3 fun b2 W2 n2=>?_
 have a0:=kl.below n2.below
 refine xr 0 (args:=#[.slice (S1 gl) 1 1,.slice (S1 b2) 1 1]) (Zg1 gl b2 n h1 h2 _ a0 n2.blk) fun W3 a2=>?_
 have hB:=bln (bln a1 n2.below) a2
 exact xe 4 (.string ⟨(leB n 4).toArray⟩) ⟨rfl,hB⟩
theorem Sts.cut{α:Type}{f:α→List Value}{m:Nat}{w:World}{b:O0}{c:Nat}{l:List α}(hm:∀ x,(f x).length=m)(h:Sts f w (.slice b l.length c) l)(k:Nat)(hk:k≤l.length):Sts f w (.slice (Qz b k c m) (l.drop k).length (c-k)) (l.drop k):=by
 have a2:(l.drop k).length=l.length-k:=by simp
 have a0:=Sl.cap h
 by_cases hkn:k=l.length
 ·refine .inl ⟨Qz b k c m,c-k,by rw[show(l.drop k).length=0 by omega],by omega,?_⟩
  rw[List.drop_eq_nil_of_le (by omega)];rfl
 rcases h with ⟨a',c',h1,h2,h3⟩|⟨g,a1,a4,h1,h2,h3,h4⟩
 ·omega
 ·simp only[Value.slice.injEq] at h1
  obtain⟨rfl,_,rfl⟩:=h1
  refine .inr ⟨g,a1+k*m,c-k,?_,by omega,by omega,fun j x hj=>?_⟩
  ·rw[Qz,if_neg (by omega)];simp[Addr.add]
  ·have a3:(l.drop k).flatMap f=(l.flatMap f).drop (k*m):=by
    conv=>rhs;rw[←List.take_append_drop k l,List.flatMap_append]
    rw[List.drop_left' (by rw[Hx hm,List.length_take,Nat.min_eq_left hk])]
   rw[a3,List.getElem?_drop] at hj
   have:=h4 _ _ hj
   rwa [←Nat.add_assoc] at this
theorem Al.only{B ba b g n c:Nat}{pa:O0}{ca f N k:Nat}{l:Bl}{w W:World}{T:List TypeId}(h:Al B ba b g n c pa ca f N k l w)(hO:Zf T w W)(hT:(T.contains 125||T.contains 72||T.contains 5||T.contains 3)=false):Al B ba b g n c pa ca f N k l W:=by
 simp only[Bool.or_eq_false_iff] at hT
 exact⟨h.blkA.only hO hT.1.1.1,h.blkI.only hO hT.1.1.2,Zl h.data hO hT.1.2,Zl h.nums hO hT.2⟩
def Xe(l:List Ent)(m i:Nat):List Ent:=(l.drop (i*m)).take m
def Vc(c:List Ent):List Int:=c.map (·.1)
def Jh(c:List Ent):List Bl:=c.map (·.2.1)
def nodB(t:Int)(leaf:Bool)(m v:Nat)(c:List Ent):Bl:=Gh m v (Jj t leaf c.length m v) (Vc c) (Jh c) c.length
def Pb(t:Int)(leaf:Bool)(m v:Nat)(l:List Ent)(q:Nat)(bs:Bl):Nat→Bl
 | 0=>bs
 | i+1=>Jd (Pb t leaf m v l q bs i) ((q+i)*256) (Vh 2 ((q+i:Nat):Int) (nodB t leaf m v (Xe l m i)))
def upX (l:List Ent)(m q i:Nat):Ent:=(((Xe l m i).getD 0 Zn).1,leB ((q+i:Nat):Int) 4,((q+i:Nat):Int))
def upE (l:List Ent)(m q j:Nat):List Ent:=(List.range j).map (upX l m q)
theorem upE_succ(l:List Ent)(m q j:Nat):upE l m q (j+1)=upE l m q j++[upX l m q j]:=by simp[upE,List.range_succ]
theorem Xt(l:List Ent)(m q j:Nat):(upE l m q j).length=j:=by simp[upE]
theorem Hg{l:List Ent}{m q j i:Nat}(h:i<j):(upE l m q j).getD i Zn=upX l m q i:=by simp[upE,List.getD,List.getElem?_range h]
theorem Js(l:List Ent)(m i:Nat):(Xe l m i).length=Qe l.length m i:=by simp[Xe,Qe]
theorem Jt{l:List Ent}{m i j:Nat}(h:j<Qe l.length m i):(Xe l m i).getD j Zn=l.getD (i*m+j) Zn:=by
 unfold Qe at h
 simp[Xe,List.getD,List.getElem?_take_of_lt (show j<m by omega),List.getElem?_drop]
theorem Fb{c:List Ent}{j:Nat}(h:j<c.length):(Vc c).getD j 0=(c.getD j Zn).1:=by simp[Vc,List.getD,h]
theorem Om{c:List Ent}{j:Nat}(h:j<c.length):(Jh c).getD j []=(c.getD j Zn).2.1:=by simp[Jh,List.getD,h]
theorem Wm(c:List Ent):(Vc c).length=c.length:=by simp[Vc]
theorem En(c:List Ent):(Jh c).length=c.length:=by simp[Jh]
theorem Ze4{n m i:Nat}(hm:1≤m)(hn:1≤n)(h:i<ovN n m):i*m<n:=by
 unfold ovN at h
 rcases Nat.eq_zero_or_pos i with rfl|hi
 ·omega
 have h2:i<(n+m-1)/m:=by omega
 have h3:=(Nat.lt_div_iff_mul_lt (by omega)).1 h2
 omega
theorem Pa{t:Int}{leaf:Bool}{m v:Nat}{l:List Ent}(E:EntsOk v l)(h1:1≤t)(h2:t≤5)(hm:Kj t leaf=m)(hv:Uh t leaf=v)(hl:leaf=false→1≤l.length){i:Nat}(hi:i<ovN l.length m):NodeOk t leaf (Xe l m i).length m v (Vc (Xe l m i)) (Jh (Xe l m i)):=by
 have a5:=(Qb t leaf).1
 rw[hm] at a5
 have a0:=Js l m i
 have a6:=Zas a5 hi
 have a7:(Xe l m i).length≤l.length-i*m:=by rw[a0];unfold Qe;omega
 have a4:∀ j,j<(Xe l m i).length→i*m+j<l.length∧(Vc (Xe l m i)).getD j 0=(l.getD (i*m+j) Zn).1∧(Jh (Xe l m i)).getD j []=(l.getD (i*m+j) Zn).2.1:=fun j hj=>by
  refine⟨by omega,?_,?_⟩
  ·rw[Fb hj,Jt (by omega)]
  ·rw[Om hj,Jt (by omega)]
 refine⟨h1,h2,hm,hv,Wm _,En _,by rw[a0];unfold Qe;omega,fun h=>?_,fun j hj=>?_,fun j hj=>?_,fun j hj=>?_⟩
 ·have:=Ze4 a5 (hl h) hi
  rw[a0];unfold Qe;omega
 ·obtain⟨a1,a2,_⟩:=a4 j hj
  rw[a2];exact E.hk _ a1
 ·obtain⟨a1,a2,_⟩:=a4 j (by omega)
  obtain⟨b1,b2,_⟩:=a4 (j+1) hj
  rw[a2,b2];exact E.hs _ (by omega)
 ·obtain⟨a1,_,a3⟩:=a4 j hj
  rw[a3];exact E.hw _ a1
theorem Dp{t:Int}{leaf:Bool}{m v:Nat}{c:List Ent}(N:NodeOk t leaf c.length m v (Vc c) (Jh c)):(nodB t leaf m v c).length=244:=by
 have hf:=fitN t leaf
 rw[N.hm,N.hv] at hf
 exact Ed (Je _ _ _ _ _) hf N.hn (fun j hj=>N.hw j hj)
theorem Zdy{w:World}{b:O0}{n m c:Nat}(h:Sl w (.slice b (ovN n m) c) (ovN n m) ((sizL n m).map nv)){k:Nat}(hk:k<ovN n m):b.isSome=true∧w.cell? (Xj b (k*1))=some (V0 ((Qe n m k:Nat):Int)):=by
 have:=Zm h (sizL_len n m) hk
 rwa [show(sizL n m).getD k 0=Qe n m k from by simp[sizL,List.getD,List.getElem?_range hk]] at this
theorem keys_take{l:List Ent}{j:Nat}(h:j<l.length):((Vc l).take (j+1)).map V0=((Vc l).take j).map V0++[V0 (l.getD j Zn).1]:=by
 rw[List.take_succ_eq_append_getElem (by rw[Wm];exact h)]
 simp[Vc,List.getD,h]
theorem vals_take{l:List Ent}{j:Nat}(h:j<l.length):((Jh l).take (j+1)).map sv=((Jh l).take j).map sv++[.string ⟨(l.getD j Zn).2.1.toArray⟩]:=by
 rw[List.take_succ_eq_append_getElem (by rw[En];exact h)]
 simp[Jh,List.getD,h,sv]
theorem Zgp{l:List Ent}{m i s:Nat}(hs:Qe l.length m i=s):(Vc (l.drop (i*m))).take s=Vc (Xe l m i):=by
 subst hs
 unfold Vc Xe Qe
 rw[←List.map_take]
 congr 1
 rw[List.take_eq_take_iff];simp
theorem Zg2{l:List Ent}{m i s:Nat}(hs:Qe l.length m i=s):(Jh (l.drop (i*m))).take s=Jh (Xe l m i):=by
 subst hs
 unfold Jh Xe Qe
 rw[←List.map_take]
 congr 1
 rw[List.take_eq_take_iff];simp
theorem EntsOk.mono{v:Nat}{l:List Ent}(E:EntsOk v l):∀ {a b:Nat},a<b→b<l.length→(l.getD a Zn).1<(l.getD b Zn).1:=by
 intro a b h hb
 induction b with
 | zero=>omega
 | succ b ih =>
  have h1:=E.hs b (by omega)
  rcases Nat.lt_or_ge a b with h2|h2
  ·have:=ih h2 (by omega);omega
  ·obtain rfl:a=b:=by omega
   exact h1
theorem Zat{v:Nat}{l:List Ent}{m:Nat}(hm:1≤m)(hl:1≤l.length){i q:Nat}(hi:i<ovN l.length m):(upX l m q i).1=(l.getD (i*m) Zn).1∧i*m<l.length:=by
 have h:=Ze4 hm hl hi
 refine⟨?_,h⟩
 unfold upX
 rw[Jt (by unfold Qe;omega)];rfl
theorem Cq{v:Nat}{l:List Ent}(E:EntsOk v l){m q:Nat}(hm:1≤m):EntsOk 4 (upE l m q (ovN l.length m)):=by
 rcases Nat.eq_zero_or_pos l.length with h0|hl
 ·have h1:ovN l.length m=1:=by
   rw[h0];unfold ovN
   have:(0+m-1)/m=0:=Nat.div_eq_of_lt (by omega)
   omega
  have a0:l=[]:=List.eq_nil_of_length_eq_zero h0
  subst a0
  constructor
  ·intro i hi;rw[Xt,h1] at hi;rw[Hg (by omega)];simp[upX,Xe,Zn]
  ·intro j hj;rw[Xt,h1] at hj;omega
  ·intro i hi;rw[Xt,h1] at hi;rw[Hg (by omega)];simp[upX,Zt]
 constructor
 ·intro i hi
  rw[Xt] at hi
  obtain⟨h1,h2⟩:=Zat (v:=v) (q:=q) hm hl hi
  rw[Hg hi,h1];exact E.hk _ h2
 ·intro j hj
  rw[Xt] at hj
  obtain⟨h1,h2⟩:=Zat (v:=v) (q:=q) hm hl hj
  obtain⟨h3,h4⟩:=Zat (v:=v) (q:=q) hm hl (show j<ovN l.length m by omega)
  rw[Hg hj,Hg (by omega),h1,h3]
  refine E.mono ?_ h2
  rw[Nat.add_mul];omega
 ·intro i hi
  rw[Xt] at hi
  rw[Hg hi];simp[upX,Zt]
def Vi(t:Int)(u:List Ent)(q:Nat)(bs:Bl):Int×Bl :=
 if h:u.length≤1 then((u.getD 0 Zn).2.2,bs)
 else Vi t (upE u 18 q (ovN u.length 18)) (q+ovN u.length 18) (Pb t false 18 4 u q bs (ovN u.length 18))
termination_by u.length
decreasing_by rw[Xt];have:=ov18 (x:=u.length) (by omega);omega
theorem Kr{t:Int}{u:List Ent}{q:Nat}{bs:Bl}(h:u.length≤1):Vi t u q bs=((u.getD 0 Zn).2.2,bs):=by rw[Vi];simp[h]
theorem Qy{t:Int}{u:List Ent}{q:Nat}{bs:Bl}(h:¬ u.length≤1):Vi t u q bs=Vi t (upE u 18 q (ovN u.length 18)) (q+ovN u.length 18) (Pb t false 18 4 u q bs (ovN u.length 18)):=by rw[Vi];simp[h]
def Yy(t:Int)(l:List Ent)(q:Nat)(bs:Bl):Int×Bl :=
 Vi t (upE l (Kj t true) q (ovN l.length (Kj t true))) (q+ovN l.length (Kj t true)) (Pb t true (Kj t true) (Uh t true) l q bs (ovN l.length (Kj t true)))
theorem Zdd{t:Int}{u:List Ent}{q:Nat}{bs:Bl}(h1:1≤u.length)(hu:(u.getD (u.length-1) Zn).2.2=((q-1:Nat):Int))(hq:1≤q):(Vi t u q bs).1=((q-1+((Gf u.length).sum-u.length):Nat):Int):=by
 induction hx:u.length using Nat.strongRecOn generalizing u q bs with
 | _ x ih =>
  subst hx
  by_cases h:u.length≤1
  ·rw[Kr h,Jr h]
   rw[show u.length-1=0 by omega] at hu
   show(u.getD 0 Zn).2.2=_
   rw[hu];simp
  ·have a0:=ov18 (x:=u.length) (by omega)
   have hp:=Qn u.length 18
   rw[Qy h,ih (ovN u.length 18) (by omega) (u:=upE u 18 q (ovN u.length 18)) (q:=q+ovN u.length 18) (by rw[Xt];exact hp) ?_ (by omega) (Xt _ _ _ _),Vo h]
   ·have a1:=Jn (ovN u.length 18)
    simp only[List.sum_cons]
    congr 1
    omega
   ·rw[Xt,Hg (by omega)]
    simp only[upX]
    congr 1
    omega
def LaidQ(B ba b g n c:Nat)(pa:O0)(ca f N k:Nat)(l:Bl)(kind:Int)(li:Bl)(q:Nat)(w:World)(e:Ending)(w':World):Prop :=
 e=.returned (.tuple #[V0 (q:Int),.nilIface])∧Below B w w'∧Zf [125,5] w w'∧Fr [ba,g] w w'∧Al B ba b g n c pa ca f N (k+1) (Jd l (q*256) (Vh kind (q:Int) li)) w'
theorem Zf5(B ba b g n c:Nat)(p:O0)(ca f N k:Nat)(l:Bl)(kind:Int)(a:O0)(ci:Nat)(li:Bl)(q n':Nat)(w:World)(hq:f+k=q)(hn':li.length=n')(hC:AlC B ba n c ca f N)(hA:Al B ba b g n c p ca f N k l w)(hkN:k<N)(h1:1≤kind)(h2:kind≤4)(hin:∀ W,Below B w W→Zf [125] w W→Bys W (.slice a n' ci) li)(hl:n'≤244)(hBw:B≤w.heap.size) :
 C0 63 #[P0 ba,V0 kind,.slice a n' ci] w (LaidQ B ba b g n c p ca f N k l kind li q w):=by
 subst hq hn';exact alloc_Lay B ba b g n c p ca f N k l kind a ci li w hC hA hkN h1 h2 hin hl hBw
theorem up_row{l:List Ent}{m q i:Nat}{key:Int}(hk:key=((Xe l m i).getD 0 Zn).1):(upE l m q i).flatMap Ji++[V0 key,.string ⟨(leB ((q+i:Nat):Int) 4).toArray⟩,V0 ((q+i:Nat):Int)]=(upE l m q (i+1)).flatMap Ji:=by
 subst hk;rw[upE_succ];simp[Ji,upX]
theorem chunk_key{l:List Ent}{m i j:Nat}(hs:Qe l.length m i=j)(hj:0<j):((Vc (Xe l m i))).getD 0 0=((Xe l m i).getD 0 Zn).1:=Fb (by rw[Js];omega)
theorem Zc9{l:List Ent}{m i j:Nat}(hs:Qe l.length m i=j)(hj:j=0):(0:Int)=((Xe l m i).getD 0 Zn).1:=by
 have:Xe l m i=[]:=List.eq_nil_of_length_eq_zero (by rw[Js];omega)
 rw[this];rfl
end Go.Proofs.YtgphgaehfdfjjaaGreatDoor
