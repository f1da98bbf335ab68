/- (*walker).look. -/
import Derived.Laws.StructEq
import Derived.Test.YtegcamkgeacjfaaGreatDoorMg2
namespace Go.Proofs.YtegcamkgeacjfaaGreatDoor
set_option maxHeartbeats 8000000
set_option maxRecDepth 100000
open Go.RowKit Go.Extern.Stop Go.Stop Go.Extern
set_option linter.unusedVariables false
attribute [local irreducible] wpList wpAnyH Code.wp Oper.wp Go
def Xu(l:Bl)(way:List Int)(no tree lo hi deep:Int):Int :=
 if Yt way no=true then 11 else if 16≤way.length then 10 else if Xn l no tree≠0 then Xn l no tree else if Qq lo hi (Qo (inB l no) (Zr (inB l no)))≠0 then 9 else
  if Xp (inB l no)=true∧deep≠0∧deep≠((way.length+1:Nat):Int) then 10 else 0
def LookP(B bw:Nat)(cs:List Value)(l:Bl)(way:List Int)(no tree lo hi deep:Int)(w:World)(e:Ending)(w':World):Prop :=
 Below B w w'∧Ze [315] w w'∧Blk w' bw cs 315 ∧
 ((Xu l way no tree lo hi deep≠0∧∃ a4 b4 k4 n4 c4 v4 m4 d4 ty x,e=.returned (.tuple #[.agg #[V0 a4,.bool b4,.slice k4 n4 c4,.slice v4 m4 d4],.iface ty x])∧Yu w' [some no] (some (Xu l way no tree lo hi deep)) (.iface ty x)) ∨
  (Xu l way no tree lo hi deep=0∧Xn l no tree=0∧∃ kp kc vp vc,e=.returned (.tuple #[.agg #[V0 (Yo (inB l no)),.bool (Xp (inB l no)),.slice kp (Zr (inB l no)) kc,.slice vp (Zr (inB l no)) vc],.nilIface]) ∧
   w'.ownsRow w.heap.size 3 1 (.slice kp (Zr (inB l no)) kc) (Zr (inB l no)) ((Qo (inB l no) (Zr (inB l no))).map V0)∧w'.ownsRow w.heap.size 9 1 (.slice vp (Zr (inB l no)) vc) (Zr (inB l no)) ((Kw (inB l no) (Zr (inB l no))).map sv)))
theorem Ct{w:World}{v:Value}{n:Nat}{l:List Int}(h:Sl w v n (l.map V0))(hl:l.length=n):Ints w v l:=by subst hl;exact h
theorem Sn(B Bi b bw:Nat)(p:O0)(n c:Nat)(l:Bl)(c0 c1 c4 c7 c9:Value)(pw:O0)(cw:Nat)(way:List Int)(no tree lo hi deep looked:Int)(w:World)(hBb:B≤bw)(hBw:B≤w.heap.size)(kW:Blk w bw [c0,c1,V0 deep,V0 looked,c4,P0 b,V0 tree,c7,.slice pw way.length cw,c9] 315)(hway:w.ownsRow B 3 1 (.slice pw way.length cw) way.length (way.map V0))(hI:ImgR Bi b p n c l w)(hwl:way.length≤1000000)(hl0:0≤looked)(hl1:looked<9223372036854775807) :
 C0 255 #[P0 bw,V0 no,.agg #[V0 lo,V0 hi]] w (LookP B bw [c0,c1,V0 deep,V0 (looked+1),c4,P0 b,V0 tree,c7,.slice pw way.length cw,c9] l way no tree lo hi deep w):=by
 refine zin 97 Tryz.func255 ?_
 refine xa 2 [V0 lo,V0 hi] 214 fun b1 W1 n1=>?_
 refine xa 0 [V0 0,.bool false,S0,S0] 173 fun b2 W2 n2=>?_
 have a3:=(kW.below n1.below).below n2.below
 refine xb 9 3 a3 ?_
 refine xw 0 (looked+1) ?_
 refine xs 3 a3 [c0,c1,V0 deep,V0 (looked+1),c4,P0 b,V0 tree,c7,.slice pw way.length cw,c9] fun W3 u3 k3=>?_
 refine xb 8 8 k3 ?_
 have g8:=u3.own2 (Zb (Zb hway n1.below) n2.below) a3 (by decide)
 refine xr 1 (args:=#[.slice pw way.length cw,V0 no]) (Zcj pw cw way no _ (Zi g8) hwl) fun W4 b0=>?_
 refine xi 2 (Yt way no) (fun v2=>?_) (fun v2=>?_)
 ·refine xc 5 (args:=#[V0 no,.iface 63 (V0 11)]) (Yj no (some 11) [] _ _ rfl) ?_
  rintro _ W6 ⟨r6,rfl,o4,q7⟩
  rw[Yw] at q7
  obtain⟨t6,x6,rfl⟩:=q7.iface
  have k2:=((u3.blkT n2.blk a3 (by decide)).below b0).below o4
  refine xsv 0 k2 [V0 0,.bool false,S0,S0] fun W7 u7 k7=>?_
  have g2:=n2.ge0 (blB (Below.refl B w) hBw n1.below)
  have hB:=u7.below (blB (blB (u3.below (blB (blB (Below.refl B w) hBw n1.below) hBw n2.below) hBb) hBw b0) hBw o4) (Nat.le_trans hBw g2)
  have hO:=(Ze.upd_new (((((show Ze [315] w _ from(Ze.of_below n1.below)).trans (Ze.of_below n2.below)).trans (Ze.of_upd u3 a3 (by decide))).trans (Ze.of_below b0)).trans (Ze.of_below o4)) u7 g2)
  have p9:=u7.blkT ((k3.below b0).below o4) k2 (by decide)
  have m3:=q7.upd u7 k2 (by decide)
  exact xec 5 k7 (.tuple #[.agg #[V0 0,.bool false,S0,S0],.iface t6 (x6)]) ⟨hB,hO,p9,.inl ⟨by(unfold Xu;(repeat' split)<;>first|rfl|assumption|decide|omega|exact absurd (Eq.trans (Eq.symm ‹Yt _ _=true›) ‹Yt _ _=false›) (by decide)|(rename_i q;exact absurd ⟨by assumption,by assumption,by assumption⟩ q)|(rename_i q;obtain⟨q1,q2,q3⟩:=q;exact absurd (Eq.trans (Eq.symm q1) ‹Xp _=false›) (by decide))|(rename_i q;obtain⟨q1,q2,q3⟩:=q;omega)),_,_,_,_,_,_,_,_,_,_,rfl,by(unfold Xu;(repeat' split)<;>first|exact m3|(exfalso;omega)|contradiction|exact absurd (Eq.trans (Eq.symm ‹Yt _ _=true›) ‹Yt _ _=false›) (by decide)|(rename_i q;exact absurd ⟨by assumption,by assumption,by assumption⟩ q)|(rename_i q;obtain⟨q1,q2,q3⟩:=q;exact absurd (Eq.trans (Eq.symm q1) ‹Xp _=false›) (by decide))|(rename_i q;obtain⟨q1,q2,q3⟩:=q;omega))⟩⟩
 have h5:=k3.below b0
 refine xb 8 8 h5 ?_
 refine xid 4 ((way.length:Int)≥(16:Int)) (fun s6=>?_) (fun s6=>?_)
 ·refine xc 5 (args:=#[V0 no,.iface 63 (V0 10)]) (Yj no (some 10) [] _ _ rfl) ?_
  rintro _ W9 ⟨r9,rfl,o0,o7⟩
  rw[Yw] at o7
  obtain⟨t9,x9,rfl⟩:=o7.iface
  have k2:=((u3.blkT n2.blk a3 (by decide)).below b0).below o0
  refine xsv 0 k2 [V0 0,.bool false,S0,S0] fun x7 o2 u1=>?_
  have g2:=n2.ge0 (blB (Below.refl B w) hBw n1.below)
  have hB:=o2.below (blB (blB (u3.below (blB (blB (Below.refl B w) hBw n1.below) hBw n2.below) hBb) hBw b0) hBw o0) (Nat.le_trans hBw g2)
  have hO:=(Ze.upd_new (((((show Ze [315] w _ from(Ze.of_below n1.below)).trans (Ze.of_below n2.below)).trans (Ze.of_upd u3 a3 (by decide))).trans (Ze.of_below b0)).trans (Ze.of_below o0)) o2 g2)
  have s2:=o2.blkT (h5.below o0) k2 (by decide)
  have n7:=o7.upd o2 k2 (by decide)
  exact xec 5 u1 (.tuple #[.agg #[V0 0,.bool false,S0,S0],.iface t9 (x9)]) ⟨hB,hO,s2,.inl ⟨by(unfold Xu;(repeat' split)<;>first|rfl|assumption|decide|omega|exact absurd (Eq.trans (Eq.symm ‹Yt _ _=true›) ‹Yt _ _=false›) (by decide)|(rename_i q;exact absurd ⟨by assumption,by assumption,by assumption⟩ q)|(rename_i q;obtain⟨q1,q2,q3⟩:=q;exact absurd (Eq.trans (Eq.symm q1) ‹Xp _=false›) (by decide))|(rename_i q;obtain⟨q1,q2,q3⟩:=q;omega)),_,_,_,_,_,_,_,_,_,_,rfl,by(unfold Xu;(repeat' split)<;>first|exact n7|(exfalso;omega)|contradiction|exact absurd (Eq.trans (Eq.symm ‹Yt _ _=true›) ‹Yt _ _=false›) (by decide)|(rename_i q;exact absurd ⟨by assumption,by assumption,by assumption⟩ q)|(rename_i q;obtain⟨q1,q2,q3⟩:=q;exact absurd (Eq.trans (Eq.symm q1) ‹Xp _=false›) (by decide))|(rename_i q;obtain⟨q1,q2,q3⟩:=q;omega))⟩⟩
 refine xd 3 (.t B [173]) ?_
 have b6:=h5.below (Za W4)
 refine xbt (.e [0,1,2] 3) 5 B [173] b6 ?_
 refine xbt (.e [4,5,6,7] 8) 6 B [173] b6 ?_
 refine xm2 0 9 13 ?_ ?_
 ·have r2:=((((hI.below n1.below).below n2.below).only (Ze.of_upd (T:=[315]) u3 a3 (by decide)) (by decide)).below b0).below (Za W4)
  refine yc 0 (args:=#[P0 b,V0 no,V0 tree]) (.t B [173]) (Cd Bi b p n c l no tree _ r2) ?_
  rintro e x1 q0
  rcases q0 with ⟨he,bf,rfl,a6,hv⟩|⟨he,kp,kc,vp,vc,rfl,a6,hk,h4⟩
  ·refine⟨(SF.of_below _ a6),?_⟩
   refine xa (.o [10,11,12] 13) [V0 0,.bool false,S0,S0] 173 fun z2 y2 e1=>?_
   have k2:=(((u3.blkT n2.blk a3 (by decide)).below b0).below (Za W4)).below a6
   have h1:=e1.ne k2
   have hB:=blB (blB (blB (u3.below (blB (blB (Below.refl B w) hBw n1.below) hBw n2.below) hBb) hBw b0) hBw (Za W4)) hBw a6
   have p7:=e1.ge0 hB
   refine ysv (.o [] 14) e1.blk [V0 0,.bool false,S0,S0] (.t B [173]) fun w8 i1 t0=>⟨(Zt i1 e1.blk (Nat.le_trans hBw p7) (by decide)),?_⟩
   refine xlv (.r [15] 14) t0.rp ?_
   have g7:=i1.blk (k2.below e1.below) (Ne.symm (Ne.symm h1))
   refine xsv 1 g7 [V0 0,.bool false,S0,S0] fun y5 o3 s9=>?_
   have g2:=n2.ge0 (blB (Below.refl B w) hBw n1.below)
   have r7:=o3.below (i1.below (blB hB hBw e1.below) (Nat.le_trans hBw p7)) (Nat.le_trans hBw g2)
   have hO:=(Ze.upd_new (Ze.upd_new (((((((show Ze [315] w _ from(Ze.of_below n1.below)).trans (Ze.of_below n2.below)).trans (Ze.of_upd u3 a3 (by decide))).trans (Ze.of_below b0)).trans (Ze.of_below (Za W4))).trans (Ze.of_below a6)).trans (Ze.of_below e1.below)) i1 p7) o3 g2)
   have s3:=o3.blkT (i1.blkT ((b6.below a6).below e1.below) e1.blk (by decide)) g7 (by decide)
   have p0:=((hv.below e1.below).upd i1 e1.blk (by decide)).upd o3 g7 (by decide)
   exact xec 6 s9 (.tuple #[.agg #[V0 0,.bool false,S0,S0],.iface 185 (P0 bf)]) ⟨r7,hO,s3,.inl ⟨by(unfold Xu;(repeat' split)<;>first|rfl|assumption|decide|omega|exact absurd (Eq.trans (Eq.symm ‹Yt _ _=true›) ‹Yt _ _=false›) (by decide)|(rename_i q;exact absurd ⟨by assumption,by assumption,by assumption⟩ q)|(rename_i q;obtain⟨q1,q2,q3⟩:=q;exact absurd (Eq.trans (Eq.symm q1) ‹Xp _=false›) (by decide))|(rename_i q;obtain⟨q1,q2,q3⟩:=q;omega)),_,_,_,_,_,_,_,_,_,_,rfl,by(unfold Xu;(repeat' split)<;>first|exact p0|(exfalso;omega)|contradiction|exact absurd (Eq.trans (Eq.symm ‹Yt _ _=true›) ‹Yt _ _=false›) (by decide)|(rename_i q;exact absurd ⟨by assumption,by assumption,by assumption⟩ q)|(rename_i q;obtain⟨q1,q2,q3⟩:=q;exact absurd (Eq.trans (Eq.symm q1) ‹Xp _=false›) (by decide))|(rename_i q;obtain⟨q1,q2,q3⟩:=q;omega))⟩⟩
  have f4:=(blB (blB (u3.below (blB (blB (Below.refl B w) hBw n1.below) hBw n2.below) hBb) hBw b0) hBw (Za W4)).size
  refine⟨(SF.of_below _ a6),?_⟩
  refine xa (.o [10,11,12] 13) [V0 0,.bool false,S0,S0] 173 fun y7 af a7=>?_
  have k2:=(((u3.blkT n2.blk a3 (by decide)).below b0).below (Za W4)).below a6
  have b4:=a7.ne k2
  have hB:=blB (blB (blB (u3.below (blB (blB (Below.refl B w) hBw n1.below) hBw n2.below) hBb) hBw b0) hBw (Za W4)) hBw a6
  have c5:=a7.ge0 hB
  refine ysv (.o [] 14) a7.blk [V0 (Yo (inB l no)),.bool (Xp (inB l no)),.slice kp (Zr (inB l no)) kc,.slice vp (Zr (inB l no)) vc] (.t B [173]) fun x4 b3 n9=>⟨(Zt b3 a7.blk (Nat.le_trans hBw c5) (by decide)),?_⟩
  have k1:=b3.blkT (((((u3.blkT (n1.blk.below n2.below) a3 (by decide)).below b0).below (Za W4)).below a6).below a7.below) a7.blk (by decide)
  refine xlv (.r [15] 14) k1.rp ?_
  refine xb 1 2 n9 ?_
  have e9:=b3.own2 (Zb (Zh hk f4) a7.below) a7.blk (by decide)
  refine xr 0 (args:=#[.agg #[V0 lo,V0 hi],.slice kp (Zr (inB l no)) kc]) (Mb lo hi _ (Qo (inB l no) (Zr (inB l no))) _ (Ct (Zi e9) (Nu _ _))) fun a4 a2=>?_
  refine xin 4 (Qq lo hi (Qo (inB l no) (Zr (inB l no)))) (0:Int) (fun p5=>?_) (fun p5=>?_)
  ·refine xd 1 (.t B [173]) ?_
   refine xm2 (.b [1,2]) 0 3 ?_ ?_
   ·have i4:=(n9.below a2).below (Za a4)
    refine xlv 0 i4.rp ?_
    refine yc (.o [] 3) (args:=#[V0 no,.iface 63 (V0 9)]) (.t B [173]) (Yj no (some 9) [] _ _ rfl) ?_
    rintro _ z4 ⟨w9,rfl,e3,h7⟩
    refine⟨(SF.of_below _ e3),?_⟩
    rw[Yw] at h7
    obtain⟨v9,w3,rfl⟩:=h7.iface
    have e7:=(((b3.blk (k2.below a7.below) (Ne.symm (Ne.symm b4))).below a2).below (Za a4)).below e3
    have g2:=n2.ge0 (blB (Below.refl B w) hBw n1.below)
    refine ysv (.o [] 4) e7 [V0 (Yo (inB l no)),.bool (Xp (inB l no)),.slice kp (Zr (inB l no)) kc,.slice vp (Zr (inB l no)) vc] (.t B [173]) fun y9 j7 t4=>⟨(Zt j7 e7 (Nat.le_trans hBw g2) (by decide)),?_⟩
    have r1:=j7.below (blB (blB (blB (b3.below (blB hB hBw a7.below) (Nat.le_trans hBw c5)) hBw a2) hBw (Za a4)) hBw e3) (Nat.le_trans hBw g2)
    have hO:=(Ze.upd_new ((((Ze.upd_new (((((((show Ze [315] w _ from(Ze.of_below n1.below)).trans (Ze.of_below n2.below)).trans (Ze.of_upd u3 a3 (by decide))).trans (Ze.of_below b0)).trans (Ze.of_below (Za W4))).trans (Ze.of_below a6)).trans (Ze.of_below a7.below)) b3 c5).trans (Ze.of_below a2)).trans (Ze.of_below (Za a4))).trans (Ze.of_below e3)) j7 g2)
    have q8:=j7.blkT ((((b3.blkT ((b6.below a6).below a7.below) a7.blk (by decide)).below a2).below (Za a4)).below e3) e7 (by decide)
    have h2:=h7.upd j7 e7 (by decide)
    exact xec (.r [5] 5) t4 (.tuple #[.agg #[V0 (Yo (inB l no)),.bool (Xp (inB l no)),.slice kp (Zr (inB l no)) kc,.slice vp (Zr (inB l no)) vc],.iface v9 (w3)]) ⟨r1,hO,q8,.inl ⟨by(unfold Xu;(repeat' split)<;>first|rfl|assumption|decide|omega|exact absurd (Eq.trans (Eq.symm ‹Yt _ _=true›) ‹Yt _ _=false›) (by decide)|(rename_i q;exact absurd ⟨by assumption,by assumption,by assumption⟩ q)|(rename_i q;obtain⟨q1,q2,q3⟩:=q;exact absurd (Eq.trans (Eq.symm q1) ‹Xp _=false›) (by decide))|(rename_i q;obtain⟨q1,q2,q3⟩:=q;omega)),_,_,_,_,_,_,_,_,_,_,rfl,by(unfold Xu;(repeat' split)<;>first|exact h2|(exfalso;omega)|contradiction|exact absurd (Eq.trans (Eq.symm ‹Yt _ _=true›) ‹Yt _ _=false›) (by decide)|(rename_i q;exact absurd ⟨by assumption,by assumption,by assumption⟩ q)|(rename_i q;obtain⟨q1,q2,q3⟩:=q;exact absurd (Eq.trans (Eq.symm q1) ‹Xp _=false›) (by decide))|(rename_i q;obtain⟨q1,q2,q3⟩:=q;omega))⟩⟩
   refine yc 0 (args:=#[V0 no,.iface 63 (V0 9)]) (.t B [173]) (Yj no (some 9) [] _ _ rfl) ?_
   rintro _ w7 ⟨ao,rfl,d9,h0⟩
   refine⟨(SF.of_below _ d9),?_⟩
   rw[Yw] at h0
   obtain⟨w1,t5,rfl⟩:=h0.iface
   have i5:=((n9.below a2).below (Za a4)).below d9
   refine xlv (.o [] 0) i5.rp ?_
   have f0:=(((b3.blk (k2.below a7.below) (Ne.symm (Ne.symm b4))).below a2).below (Za a4)).below d9
   have g2:=n2.ge0 (blB (Below.refl B w) hBw n1.below)
   refine ysv (.o [] 4) f0 [V0 (Yo (inB l no)),.bool (Xp (inB l no)),.slice kp (Zr (inB l no)) kc,.slice vp (Zr (inB l no)) vc] (.t B [173]) fun aj k9 u6=>⟨(Zt k9 f0 (Nat.le_trans hBw g2) (by decide)),?_⟩
   have q5:=k9.below (blB (blB (blB (b3.below (blB hB hBw a7.below) (Nat.le_trans hBw c5)) hBw a2) hBw (Za a4)) hBw d9) (Nat.le_trans hBw g2)
   have hO:=(Ze.upd_new ((((Ze.upd_new (((((((show Ze [315] w _ from(Ze.of_below n1.below)).trans (Ze.of_below n2.below)).trans (Ze.of_upd u3 a3 (by decide))).trans (Ze.of_below b0)).trans (Ze.of_below (Za W4))).trans (Ze.of_below a6)).trans (Ze.of_below a7.below)) b3 c5).trans (Ze.of_below a2)).trans (Ze.of_below (Za a4))).trans (Ze.of_below d9)) k9 g2)
   have p4:=k9.blkT ((((b3.blkT ((b6.below a6).below a7.below) a7.blk (by decide)).below a2).below (Za a4)).below d9) f0 (by decide)
   have g9:=h0.upd k9 f0 (by decide)
   exact xec (.r [5] 5) u6 (.tuple #[.agg #[V0 (Yo (inB l no)),.bool (Xp (inB l no)),.slice kp (Zr (inB l no)) kc,.slice vp (Zr (inB l no)) vc],.iface w1 (t5)]) ⟨q5,hO,p4,.inl ⟨by(unfold Xu;(repeat' split)<;>first|rfl|assumption|decide|omega|exact absurd (Eq.trans (Eq.symm ‹Yt _ _=true›) ‹Yt _ _=false›) (by decide)|(rename_i q;exact absurd ⟨by assumption,by assumption,by assumption⟩ q)|(rename_i q;obtain⟨q1,q2,q3⟩:=q;exact absurd (Eq.trans (Eq.symm q1) ‹Xp _=false›) (by decide))|(rename_i q;obtain⟨q1,q2,q3⟩:=q;omega)),_,_,_,_,_,_,_,_,_,_,rfl,by(unfold Xu;(repeat' split)<;>first|exact g9|(exfalso;omega)|contradiction|exact absurd (Eq.trans (Eq.symm ‹Yt _ _=true›) ‹Yt _ _=false›) (by decide)|(rename_i q;exact absurd ⟨by assumption,by assumption,by assumption⟩ q)|(rename_i q;obtain⟨q1,q2,q3⟩:=q;exact absurd (Eq.trans (Eq.symm q1) ‹Xp _=false›) (by decide))|(rename_i q;obtain⟨q1,q2,q3⟩:=q;omega))⟩⟩
  refine xd 1 .z ?_
  have b9:=(n9.below a2).below (Za a4)
  refine xb (.e [0] 1) 1 b9 ?_
  refine xg (.b [2]) [69,70] (Xp (inB l no)) (fun s5=>?_) (fun s5=>?_)
  ·have c6:=((b3.blkT ((b6.below a6).below a7.below) a7.blk (by decide)).below a2).below (Za a4)
   refine xb (.e [3,4,5,6] 7) 2 c6 ?_
   refine xg (.b [8,9,10]) [76,77,78] (deep != (0:Int)) (fun e4=>?_) (fun e4=>?_)
   ·have e4:=Gz e4
    refine xb (.e [11,12,13,14] 15) 2 c6 ?_
    refine xb (.e [16,17,18] 19) 8 c6 ?_
    refine xwm (.e [20] 21) ((way.length:Int)+1) (↑(way.length+1):Int) ?_
    refine xin (.r [22,23,24] 2) deep (↑(way.length+1):Int) (fun p6=>?_) (fun p6=>?_)
    ·refine xd 1 (.t B [173]) ?_
     refine xm2 (.b [1,2]) 0 3 ?_ ?_
     ·have i7:=b9.below (Za a4.drew)
      refine xlv 0 i7.rp ?_
      refine yc (.o [] 3) (args:=#[V0 no,.iface 63 (V0 10)]) (.t B [173]) (Yj no (some 10) [] _ _ rfl) ?_
      rintro _ z9 ⟨y4,rfl,e2,h9⟩
      refine⟨(SF.of_below _ e2),?_⟩
      rw[Yw] at h9
      obtain⟨u9,v3,rfl⟩:=h9.iface
      have f3:=((((b3.blk (k2.below a7.below) (Ne.symm (Ne.symm b4))).below a2).below (Za a4)).below (Za a4.drew)).below e2
      have g2:=n2.ge0 (blB (Below.refl B w) hBw n1.below)
      refine ysv (.o [] 4) f3 [V0 (Yo (inB l no)),.bool (Xp (inB l no)),.slice kp (Zr (inB l no)) kc,.slice vp (Zr (inB l no)) vc] (.t B [173]) fun ai n5 w2=>⟨(Zt n5 f3 (Nat.le_trans hBw g2) (by decide)),?_⟩
      have o9:=n5.below (blB (blB (blB (blB (b3.below (blB hB hBw a7.below) (Nat.le_trans hBw c5)) hBw a2) hBw (Za a4)) hBw (Za a4.drew)) hBw e2) (Nat.le_trans hBw g2)
      have hO:=(Ze.upd_new (((((Ze.upd_new (((((((show Ze [315] w _ from(Ze.of_below n1.below)).trans (Ze.of_below n2.below)).trans (Ze.of_upd u3 a3 (by decide))).trans (Ze.of_below b0)).trans (Ze.of_below (Za W4))).trans (Ze.of_below a6)).trans (Ze.of_below a7.below)) b3 c5).trans (Ze.of_below a2)).trans (Ze.of_below (Za a4))).trans (Ze.of_below (Za a4.drew))).trans (Ze.of_below e2)) n5 g2)
      have s1:=n5.blkT ((c6.below (Za a4.drew)).below e2) f3 (by decide)
      have h8:=h9.upd n5 f3 (by decide)
      exact xec (.r [5] 5) w2 (.tuple #[.agg #[V0 (Yo (inB l no)),.bool (Xp (inB l no)),.slice kp (Zr (inB l no)) kc,.slice vp (Zr (inB l no)) vc],.iface u9 (v3)]) ⟨o9,hO,s1,.inl ⟨by(unfold Xu;(repeat' split)<;>first|rfl|assumption|decide|omega|exact absurd (Eq.trans (Eq.symm ‹Yt _ _=true›) ‹Yt _ _=false›) (by decide)|(rename_i q;exact absurd ⟨by assumption,by assumption,by assumption⟩ q)|(rename_i q;obtain⟨q1,q2,q3⟩:=q;exact absurd (Eq.trans (Eq.symm q1) ‹Xp _=false›) (by decide))|(rename_i q;obtain⟨q1,q2,q3⟩:=q;omega)),_,_,_,_,_,_,_,_,_,_,rfl,by(unfold Xu;(repeat' split)<;>first|exact h8|(exfalso;omega)|contradiction|exact absurd (Eq.trans (Eq.symm ‹Yt _ _=true›) ‹Yt _ _=false›) (by decide)|(rename_i q;exact absurd ⟨by assumption,by assumption,by assumption⟩ q)|(rename_i q;obtain⟨q1,q2,q3⟩:=q;exact absurd (Eq.trans (Eq.symm q1) ‹Xp _=false›) (by decide))|(rename_i q;obtain⟨q1,q2,q3⟩:=q;omega))⟩⟩
     refine yc 0 (args:=#[V0 no,.iface 63 (V0 10)]) (.t B [173]) (Yj no (some 10) [] _ _ rfl) ?_
     rintro _ ag ⟨x8,rfl,d8,g3⟩
     refine⟨(SF.of_below _ d8),?_⟩
     rw[Yw] at g3
     obtain⟨v5,v0,rfl⟩:=g3.iface
     have m6:=(b9.below (Za a4.drew)).below d8
     refine xlv (.o [] 0) m6.rp ?_
     have f1:=((((b3.blk (k2.below a7.below) (Ne.symm (Ne.symm b4))).below a2).below (Za a4)).below (Za a4.drew)).below d8
     have g2:=n2.ge0 (blB (Below.refl B w) hBw n1.below)
     refine ysv (.o [] 4) f1 [V0 (Yo (inB l no)),.bool (Xp (inB l no)),.slice kp (Zr (inB l no)) kc,.slice vp (Zr (inB l no)) vc] (.t B [173]) fun z1 i8 u4=>⟨(Zt i8 f1 (Nat.le_trans hBw g2) (by decide)),?_⟩
     have q9:=i8.below (blB (blB (blB (blB (b3.below (blB hB hBw a7.below) (Nat.le_trans hBw c5)) hBw a2) hBw (Za a4)) hBw (Za a4.drew)) hBw d8) (Nat.le_trans hBw g2)
     have hO:=(Ze.upd_new (((((Ze.upd_new (((((((show Ze [315] w _ from(Ze.of_below n1.below)).trans (Ze.of_below n2.below)).trans (Ze.of_upd u3 a3 (by decide))).trans (Ze.of_below b0)).trans (Ze.of_below (Za W4))).trans (Ze.of_below a6)).trans (Ze.of_below a7.below)) b3 c5).trans (Ze.of_below a2)).trans (Ze.of_below (Za a4))).trans (Ze.of_below (Za a4.drew))).trans (Ze.of_below d8)) i8 g2)
     have k6:=i8.blkT ((c6.below (Za a4.drew)).below d8) f1 (by decide)
     have i0:=g3.upd i8 f1 (by decide)
     exact xec (.r [5] 5) u4 (.tuple #[.agg #[V0 (Yo (inB l no)),.bool (Xp (inB l no)),.slice kp (Zr (inB l no)) kc,.slice vp (Zr (inB l no)) vc],.iface v5 (v0)]) ⟨q9,hO,k6,.inl ⟨by(unfold Xu;(repeat' split)<;>first|rfl|assumption|decide|omega|exact absurd (Eq.trans (Eq.symm ‹Yt _ _=true›) ‹Yt _ _=false›) (by decide)|(rename_i q;exact absurd ⟨by assumption,by assumption,by assumption⟩ q)|(rename_i q;obtain⟨q1,q2,q3⟩:=q;exact absurd (Eq.trans (Eq.symm q1) ‹Xp _=false›) (by decide))|(rename_i q;obtain⟨q1,q2,q3⟩:=q;omega)),_,_,_,_,_,_,_,_,_,_,rfl,by(unfold Xu;(repeat' split)<;>first|exact i0|(exfalso;omega)|contradiction|exact absurd (Eq.trans (Eq.symm ‹Yt _ _=true›) ‹Yt _ _=false›) (by decide)|(rename_i q;exact absurd ⟨by assumption,by assumption,by assumption⟩ q)|(rename_i q;obtain⟨q1,q2,q3⟩:=q;exact absurd (Eq.trans (Eq.symm q1) ‹Xp _=false›) (by decide))|(rename_i q;obtain⟨q1,q2,q3⟩:=q;omega))⟩⟩
    refine xlv 5 b9.rp ?_
    have f5:=((b3.blk (k2.below a7.below) (Ne.symm (Ne.symm b4))).below a2).below (Za a4)
    refine xsv 0 f5 [V0 (Yo (inB l no)),.bool (Xp (inB l no)),.slice kp (Zr (inB l no)) kc,.slice vp (Zr (inB l no)) vc] fun aa m7 u8=>?_
    have g2:=n2.ge0 (blB (Below.refl B w) hBw n1.below)
    have p8:=m7.below (blB (blB (b3.below (blB hB hBw a7.below) (Nat.le_trans hBw c5)) hBw a2) hBw (Za a4)) (Nat.le_trans hBw g2)
    have hO:=(Ze.upd_new (((Ze.upd_new (((((((show Ze [315] w _ from(Ze.of_below n1.below)).trans (Ze.of_below n2.below)).trans (Ze.of_upd u3 a3 (by decide))).trans (Ze.of_below b0)).trans (Ze.of_below (Za W4))).trans (Ze.of_below a6)).trans (Ze.of_below a7.below)) b3 c5).trans (Ze.of_below a2)).trans (Ze.of_below (Za a4))) m7 g2)
    have l6:=m7.blkT c6 f5 (by decide)
    have o5:=m7.own2 (Zb (Zb e9 a2) (Za a4)) f5 (by decide)
    have m8:=m7.own2 (Zb (Zb (b3.own2 (Zb (Zh h4 f4) a7.below) a7.blk (by decide)) a2) (Za a4)) f5 (by decide)
    exact xec 4 u8 (.tuple #[.agg #[V0 (Yo (inB l no)),.bool (Xp (inB l no)),.slice kp (Zr (inB l no)) kc,.slice vp (Zr (inB l no)) vc],.nilIface]) ⟨p8,hO,l6,.inr ⟨by(unfold Xu;(repeat' split)<;>first|rfl|assumption|decide|omega|exact absurd (Eq.trans (Eq.symm ‹Yt _ _=true›) ‹Yt _ _=false›) (by decide)|(rename_i q;exact absurd ⟨by assumption,by assumption,by assumption⟩ q)|(rename_i q;obtain⟨q1,q2,q3⟩:=q;exact absurd (Eq.trans (Eq.symm q1) ‹Xp _=false›) (by decide))|(rename_i q;obtain⟨q1,q2,q3⟩:=q;omega)),by assumption,_,_,_,_,rfl,o5,m8⟩⟩
   have e4:=Yq e4
   refine xlv (.r [11,12,13,14,15,16,17,18,19,20,21,22,23,24] 8) b9.rp ?_
   have e8:=((b3.blk (k2.below a7.below) (Ne.symm (Ne.symm b4))).below a2).below (Za a4)
   refine xsv 0 e8 [V0 (Yo (inB l no)),.bool (Xp (inB l no)),.slice kp (Zr (inB l no)) kc,.slice vp (Zr (inB l no)) vc] fun ap k0 t3=>?_
   have g2:=n2.ge0 (blB (Below.refl B w) hBw n1.below)
   have r5:=k0.below (blB (blB (b3.below (blB hB hBw a7.below) (Nat.le_trans hBw c5)) hBw a2) hBw (Za a4)) (Nat.le_trans hBw g2)
   have hO:=(Ze.upd_new (((Ze.upd_new (((((((show Ze [315] w _ from(Ze.of_below n1.below)).trans (Ze.of_below n2.below)).trans (Ze.of_upd u3 a3 (by decide))).trans (Ze.of_below b0)).trans (Ze.of_below (Za W4))).trans (Ze.of_below a6)).trans (Ze.of_below a7.below)) b3 c5).trans (Ze.of_below a2)).trans (Ze.of_below (Za a4))) k0 g2)
   have j0:=k0.blkT c6 e8 (by decide)
   have r0:=k0.own2 (Zb (Zb e9 a2) (Za a4)) e8 (by decide)
   have l2:=k0.own2 (Zb (Zb (b3.own2 (Zb (Zh h4 f4) a7.below) a7.blk (by decide)) a2) (Za a4)) e8 (by decide)
   exact xec 4 t3 (.tuple #[.agg #[V0 (Yo (inB l no)),.bool (Xp (inB l no)),.slice kp (Zr (inB l no)) kc,.slice vp (Zr (inB l no)) vc],.nilIface]) ⟨r5,hO,j0,.inr ⟨by(unfold Xu;(repeat' split)<;>first|rfl|assumption|decide|omega|exact absurd (Eq.trans (Eq.symm ‹Yt _ _=true›) ‹Yt _ _=false›) (by decide)|(rename_i q;exact absurd ⟨by assumption,by assumption,by assumption⟩ q)|(rename_i q;obtain⟨q1,q2,q3⟩:=q;exact absurd (Eq.trans (Eq.symm q1) ‹Xp _=false›) (by decide))|(rename_i q;obtain⟨q1,q2,q3⟩:=q;omega)),by assumption,_,_,_,_,rfl,r0,l2⟩⟩
  refine xlv (.r [3,4,5,6,7,8,9,10,11,12,13,14,15,16,17,18,19,20,21,22,23,24] 8) b9.rp ?_
  have f2:=((b3.blk (k2.below a7.below) (Ne.symm (Ne.symm b4))).below a2).below (Za a4)
  refine xsv 0 f2 [V0 (Yo (inB l no)),.bool (Xp (inB l no)),.slice kp (Zr (inB l no)) kc,.slice vp (Zr (inB l no)) vc] fun z5 j4 t7=>?_
  have g2:=n2.ge0 (blB (Below.refl B w) hBw n1.below)
  have o8:=j4.below (blB (blB (b3.below (blB hB hBw a7.below) (Nat.le_trans hBw c5)) hBw a2) hBw (Za a4)) (Nat.le_trans hBw g2)
  have hO:=(Ze.upd_new (((Ze.upd_new (((((((show Ze [315] w _ from(Ze.of_below n1.below)).trans (Ze.of_below n2.below)).trans (Ze.of_upd u3 a3 (by decide))).trans (Ze.of_below b0)).trans (Ze.of_below (Za W4))).trans (Ze.of_below a6)).trans (Ze.of_below a7.below)) b3 c5).trans (Ze.of_below a2)).trans (Ze.of_below (Za a4))) j4 g2)
  have i6:=j4.blkT (((b3.blkT ((b6.below a6).below a7.below) a7.blk (by decide)).below a2).below (Za a4)) f2 (by decide)
  have r8:=j4.own2 (Zb (Zb e9 a2) (Za a4)) f2 (by decide)
  have m4:=j4.own2 (Zb (Zb (b3.own2 (Zb (Zh h4 f4) a7.below) a7.blk (by decide)) a2) (Za a4)) f2 (by decide)
  exact xec 4 t7 (.tuple #[.agg #[V0 (Yo (inB l no)),.bool (Xp (inB l no)),.slice kp (Zr (inB l no)) kc,.slice vp (Zr (inB l no)) vc],.nilIface]) ⟨o8,hO,i6,.inr ⟨by(unfold Xu;(repeat' split)<;>first|rfl|assumption|decide|omega|exact absurd (Eq.trans (Eq.symm ‹Yt _ _=true›) ‹Yt _ _=false›) (by decide)|(rename_i q;exact absurd ⟨by assumption,by assumption,by assumption⟩ q)|(rename_i q;obtain⟨q1,q2,q3⟩:=q;exact absurd (Eq.trans (Eq.symm q1) ‹Xp _=false›) (by decide))|(rename_i q;obtain⟨q1,q2,q3⟩:=q;omega)),by assumption,_,_,_,_,rfl,r8,m4⟩⟩
 refine xa 0 [V0 0,.bool false,S0,S0] 173 fun z0 y8 a8=>?_
 have k2:=((u3.blkT n2.blk a3 (by decide)).below b0).below (Za W4)
 have a9:=a8.ne k2
 have hB:=blB (blB (u3.below (blB (blB (Below.refl B w) hBw n1.below) hBw n2.below) hBb) hBw b0) hBw (Za W4)
 have c2:=a8.ge0 hB
 have r3:=(((((hI.below n1.below).below n2.below).only (Ze.of_upd (T:=[315]) u3 a3 (by decide)) (by decide)).below b0).below (Za W4)).below a8.below
 refine yc (.o [] 9) (args:=#[P0 b,V0 no,V0 tree]) (.t B [173]) (Cd Bi b p n c l no tree _ r3) ?_
 rintro e ac s0
 rcases s0 with ⟨he,bf,rfl,a0,hv⟩|⟨he,kp,kc,vp,vc,rfl,a0,hk,h4⟩
 ·refine⟨(SF.of_below _ a0),?_⟩
  have c3:=a8.blk.below a0
  refine ysv (.o [10,11,12] 14) c3 [V0 0,.bool false,S0,S0] (.t B [173]) fun z7 i2 t1=>⟨(Zt i2 c3 (Nat.le_trans hBw c2) (by decide)),?_⟩
  refine xlv (.r [15] 14) t1.rp ?_
  have g6:=i2.blk ((k2.below a8.below).below a0) (Ne.symm (Ne.symm a9))
  refine xsv 1 g6 [V0 0,.bool false,S0,S0] fun x0 n8 v1=>?_
  have g2:=n2.ge0 (blB (Below.refl B w) hBw n1.below)
  have s4:=n8.below (i2.below (blB (blB hB hBw a8.below) hBw a0) (Nat.le_trans hBw c2)) (Nat.le_trans hBw g2)
  have hO:=(Ze.upd_new (Ze.upd_new (((((((show Ze [315] w _ from(Ze.of_below n1.below)).trans (Ze.of_below n2.below)).trans (Ze.of_upd u3 a3 (by decide))).trans (Ze.of_below b0)).trans (Ze.of_below (Za W4))).trans (Ze.of_below a8.below)).trans (Ze.of_below a0)) i2 c2) n8 g2)
  have n4:=n8.blkT (i2.blkT ((b6.below a8.below).below a0) c3 (by decide)) g6 (by decide)
  have r4:=(hv.upd i2 c3 (by decide)).upd n8 g6 (by decide)
  exact xec 6 v1 (.tuple #[.agg #[V0 0,.bool false,S0,S0],.iface 185 (P0 bf)]) ⟨s4,hO,n4,.inl ⟨by(unfold Xu;(repeat' split)<;>first|rfl|assumption|decide|omega|exact absurd (Eq.trans (Eq.symm ‹Yt _ _=true›) ‹Yt _ _=false›) (by decide)|(rename_i q;exact absurd ⟨by assumption,by assumption,by assumption⟩ q)|(rename_i q;obtain⟨q1,q2,q3⟩:=q;exact absurd (Eq.trans (Eq.symm q1) ‹Xp _=false›) (by decide))|(rename_i q;obtain⟨q1,q2,q3⟩:=q;omega)),_,_,_,_,_,_,_,_,_,_,rfl,by(unfold Xu;(repeat' split)<;>first|exact r4|(exfalso;omega)|contradiction|exact absurd (Eq.trans (Eq.symm ‹Yt _ _=true›) ‹Yt _ _=false›) (by decide)|(rename_i q;exact absurd ⟨by assumption,by assumption,by assumption⟩ q)|(rename_i q;obtain⟨q1,q2,q3⟩:=q;exact absurd (Eq.trans (Eq.symm q1) ‹Xp _=false›) (by decide))|(rename_i q;obtain⟨q1,q2,q3⟩:=q;omega))⟩⟩
 have f6:=(blB hB hBw a8.below).size
 refine⟨(SF.of_below _ a0),?_⟩
 have c3:=a8.blk.below a0
 refine ysv (.o [10,11,12] 14) c3 [V0 (Yo (inB l no)),.bool (Xp (inB l no)),.slice kp (Zr (inB l no)) kc,.slice vp (Zr (inB l no)) vc] (.t B [173]) fun x2 b5 o1=>⟨(Zt b5 c3 (Nat.le_trans hBw c2) (by decide)),?_⟩
 have k1:=b5.blkT (((((u3.blkT (n1.blk.below n2.below) a3 (by decide)).below b0).below (Za W4)).below a8.below).below a0) c3 (by decide)
 refine xlv (.r [15] 14) k1.rp ?_
 refine xb 1 2 o1 ?_
 have f7:=b5.own2 (Zh hk f6) c3 (by decide)
 refine xr 0 (args:=#[.agg #[V0 lo,V0 hi],.slice kp (Zr (inB l no)) kc]) (Mb lo hi _ (Qo (inB l no) (Zr (inB l no))) _ (Ct (Zi f7) (Nu _ _))) fun a5 a1=>?_
 refine xin 4 (Qq lo hi (Qo (inB l no) (Zr (inB l no)))) (0:Int) (fun q6=>?_) (fun q6=>?_)
 ·refine xd 1 (.t B [173]) ?_
  refine xm2 (.b [1,2]) 0 3 ?_ ?_
  ·have m9:=(o1.below a1).below (Za a5)
   refine xlv 0 m9.rp ?_
   refine yc (.o [] 3) (args:=#[V0 no,.iface 63 (V0 9)]) (.t B [173]) (Yj no (some 9) [] _ _ rfl) ?_
   rintro _ x3 ⟨z8,rfl,e0,g0⟩
   refine⟨(SF.of_below _ e0),?_⟩
   rw[Yw] at g0
   obtain⟨v8,w0,rfl⟩:=g0.iface
   have d1:=(((b5.blk ((k2.below a8.below).below a0) (Ne.symm (Ne.symm a9))).below a1).below (Za a5)).below e0
   have g2:=n2.ge0 (blB (Below.refl B w) hBw n1.below)
   refine ysv (.o [] 4) d1 [V0 (Yo (inB l no)),.bool (Xp (inB l no)),.slice kp (Zr (inB l no)) kc,.slice vp (Zr (inB l no)) vc] (.t B [173]) fun z6 k5 s8=>⟨(Zt k5 d1 (Nat.le_trans hBw g2) (by decide)),?_⟩
   have j3:=k5.below (blB (blB (blB (b5.below (blB (blB hB hBw a8.below) hBw a0) (Nat.le_trans hBw c2)) hBw a1) hBw (Za a5)) hBw e0) (Nat.le_trans hBw g2)
   have hO:=(Ze.upd_new ((((Ze.upd_new (((((((show Ze [315] w _ from(Ze.of_below n1.below)).trans (Ze.of_below n2.below)).trans (Ze.of_upd u3 a3 (by decide))).trans (Ze.of_below b0)).trans (Ze.of_below (Za W4))).trans (Ze.of_below a8.below)).trans (Ze.of_below a0)) b5 c2).trans (Ze.of_below a1)).trans (Ze.of_below (Za a5))).trans (Ze.of_below e0)) k5 g2)
   have m0:=k5.blkT ((((b5.blkT ((b6.below a8.below).below a0) c3 (by decide)).below a1).below (Za a5)).below e0) d1 (by decide)
   have f8:=g0.upd k5 d1 (by decide)
   exact xec (.r [5] 5) s8 (.tuple #[.agg #[V0 (Yo (inB l no)),.bool (Xp (inB l no)),.slice kp (Zr (inB l no)) kc,.slice vp (Zr (inB l no)) vc],.iface v8 (w0)]) ⟨j3,hO,m0,.inl ⟨by(unfold Xu;(repeat' split)<;>first|rfl|assumption|decide|omega|exact absurd (Eq.trans (Eq.symm ‹Yt _ _=true›) ‹Yt _ _=false›) (by decide)|(rename_i q;exact absurd ⟨by assumption,by assumption,by assumption⟩ q)|(rename_i q;obtain⟨q1,q2,q3⟩:=q;exact absurd (Eq.trans (Eq.symm q1) ‹Xp _=false›) (by decide))|(rename_i q;obtain⟨q1,q2,q3⟩:=q;omega)),_,_,_,_,_,_,_,_,_,_,rfl,by(unfold Xu;(repeat' split)<;>first|exact f8|(exfalso;omega)|contradiction|exact absurd (Eq.trans (Eq.symm ‹Yt _ _=true›) ‹Yt _ _=false›) (by decide)|(rename_i q;exact absurd ⟨by assumption,by assumption,by assumption⟩ q)|(rename_i q;obtain⟨q1,q2,q3⟩:=q;exact absurd (Eq.trans (Eq.symm q1) ‹Xp _=false›) (by decide))|(rename_i q;obtain⟨q1,q2,q3⟩:=q;omega))⟩⟩
  refine yc 0 (args:=#[V0 no,.iface 63 (V0 9)]) (.t B [173]) (Yj no (some 9) [] _ _ rfl) ?_
  rintro _ z3 ⟨ak,rfl,d6,g1⟩
  refine⟨(SF.of_below _ d6),?_⟩
  rw[Yw] at g1
  obtain⟨w6,u2,rfl⟩:=g1.iface
  have l4:=((o1.below a1).below (Za a5)).below d6
  refine xlv (.o [] 0) l4.rp ?_
  have d2:=(((b5.blk ((k2.below a8.below).below a0) (Ne.symm (Ne.symm a9))).below a1).below (Za a5)).below d6
  have g2:=n2.ge0 (blB (Below.refl B w) hBw n1.below)
  refine ysv (.o [] 4) d2 [V0 (Yo (inB l no)),.bool (Xp (inB l no)),.slice kp (Zr (inB l no)) kc,.slice vp (Zr (inB l no)) vc] (.t B [173]) fun x5 n0 v4=>⟨(Zt n0 d2 (Nat.le_trans hBw g2) (by decide)),?_⟩
  have j5:=n0.below (blB (blB (blB (b5.below (blB (blB hB hBw a8.below) hBw a0) (Nat.le_trans hBw c2)) hBw a1) hBw (Za a5)) hBw d6) (Nat.le_trans hBw g2)
  have hO:=(Ze.upd_new ((((Ze.upd_new (((((((show Ze [315] w _ from(Ze.of_below n1.below)).trans (Ze.of_below n2.below)).trans (Ze.of_upd u3 a3 (by decide))).trans (Ze.of_below b0)).trans (Ze.of_below (Za W4))).trans (Ze.of_below a8.below)).trans (Ze.of_below a0)) b5 c2).trans (Ze.of_below a1)).trans (Ze.of_below (Za a5))).trans (Ze.of_below d6)) n0 g2)
  have k4:=n0.blkT ((((b5.blkT ((b6.below a8.below).below a0) c3 (by decide)).below a1).below (Za a5)).below d6) d2 (by decide)
  have f9:=g1.upd n0 d2 (by decide)
  exact xec (.r [5] 5) v4 (.tuple #[.agg #[V0 (Yo (inB l no)),.bool (Xp (inB l no)),.slice kp (Zr (inB l no)) kc,.slice vp (Zr (inB l no)) vc],.iface w6 (u2)]) ⟨j5,hO,k4,.inl ⟨by(unfold Xu;(repeat' split)<;>first|rfl|assumption|decide|omega|exact absurd (Eq.trans (Eq.symm ‹Yt _ _=true›) ‹Yt _ _=false›) (by decide)|(rename_i q;exact absurd ⟨by assumption,by assumption,by assumption⟩ q)|(rename_i q;obtain⟨q1,q2,q3⟩:=q;exact absurd (Eq.trans (Eq.symm q1) ‹Xp _=false›) (by decide))|(rename_i q;obtain⟨q1,q2,q3⟩:=q;omega)),_,_,_,_,_,_,_,_,_,_,rfl,by(unfold Xu;(repeat' split)<;>first|exact f9|(exfalso;omega)|contradiction|exact absurd (Eq.trans (Eq.symm ‹Yt _ _=true›) ‹Yt _ _=false›) (by decide)|(rename_i q;exact absurd ⟨by assumption,by assumption,by assumption⟩ q)|(rename_i q;obtain⟨q1,q2,q3⟩:=q;exact absurd (Eq.trans (Eq.symm q1) ‹Xp _=false›) (by decide))|(rename_i q;obtain⟨q1,q2,q3⟩:=q;omega))⟩⟩
 refine xd 1 .z ?_
 have b8:=(o1.below a1).below (Za a5)
 refine xb (.e [0] 1) 1 b8 ?_
 refine xg (.b [2]) [69,70] (Xp (inB l no)) (fun p2=>?_) (fun p2=>?_)
 ·have b7:=((b5.blkT ((b6.below a8.below).below a0) c3 (by decide)).below a1).below (Za a5)
  refine xb (.e [3,4,5,6] 7) 2 b7 ?_
  refine xg (.b [8,9,10]) [76,77,78] (deep != (0:Int)) (fun e5=>?_) (fun e5=>?_)
  ·have e5:=Gz e5
   refine xb (.e [11,12,13,14] 15) 2 b7 ?_
   refine xb (.e [16,17,18] 19) 8 b7 ?_
   refine xwm (.e [20] 21) ((way.length:Int)+1) (↑(way.length+1):Int) ?_
   refine xin (.r [22,23,24] 2) deep (↑(way.length+1):Int) (fun p1=>?_) (fun p1=>?_)
   ·refine xd 1 (.t B [173]) ?_
    refine xm2 (.b [1,2]) 0 3 ?_ ?_
    ·have n6:=b8.below (Za a5.drew)
     refine xlv 0 n6.rp ?_
     refine yc (.o [] 3) (args:=#[V0 no,.iface 63 (V0 10)]) (.t B [173]) (Yj no (some 10) [] _ _ rfl) ?_
     rintro _ y1 ⟨ad,rfl,e6,g4⟩
     refine⟨(SF.of_below _ e6),?_⟩
     rw[Yw] at g4
     obtain⟨t2,v6,rfl⟩:=g4.iface
     have d4:=((((b5.blk ((k2.below a8.below).below a0) (Ne.symm (Ne.symm a9))).below a1).below (Za a5)).below (Za a5.drew)).below e6
     have g2:=n2.ge0 (blB (Below.refl B w) hBw n1.below)
     refine ysv (.o [] 4) d4 [V0 (Yo (inB l no)),.bool (Xp (inB l no)),.slice kp (Zr (inB l no)) kc,.slice vp (Zr (inB l no)) vc] (.t B [173]) fun ab k8 w4=>⟨(Zt k8 d4 (Nat.le_trans hBw g2) (by decide)),?_⟩
     have n3:=k8.below (blB (blB (blB (blB (b5.below (blB (blB hB hBw a8.below) hBw a0) (Nat.le_trans hBw c2)) hBw a1) hBw (Za a5)) hBw (Za a5.drew)) hBw e6) (Nat.le_trans hBw g2)
     have hO:=(Ze.upd_new (((((Ze.upd_new (((((((show Ze [315] w _ from(Ze.of_below n1.below)).trans (Ze.of_below n2.below)).trans (Ze.of_upd u3 a3 (by decide))).trans (Ze.of_below b0)).trans (Ze.of_below (Za W4))).trans (Ze.of_below a8.below)).trans (Ze.of_below a0)) b5 c2).trans (Ze.of_below a1)).trans (Ze.of_below (Za a5))).trans (Ze.of_below (Za a5.drew))).trans (Ze.of_below e6)) k8 g2)
     have j6:=k8.blkT ((b7.below (Za a5.drew)).below e6) d4 (by decide)
     have h6:=g4.upd k8 d4 (by decide)
     exact xec (.r [5] 5) w4 (.tuple #[.agg #[V0 (Yo (inB l no)),.bool (Xp (inB l no)),.slice kp (Zr (inB l no)) kc,.slice vp (Zr (inB l no)) vc],.iface t2 (v6)]) ⟨n3,hO,j6,.inl ⟨by(unfold Xu;(repeat' split)<;>first|rfl|assumption|decide|omega|exact absurd (Eq.trans (Eq.symm ‹Yt _ _=true›) ‹Yt _ _=false›) (by decide)|(rename_i q;exact absurd ⟨by assumption,by assumption,by assumption⟩ q)|(rename_i q;obtain⟨q1,q2,q3⟩:=q;exact absurd (Eq.trans (Eq.symm q1) ‹Xp _=false›) (by decide))|(rename_i q;obtain⟨q1,q2,q3⟩:=q;omega)),_,_,_,_,_,_,_,_,_,_,rfl,by(unfold Xu;(repeat' split)<;>first|exact h6|(exfalso;omega)|contradiction|exact absurd (Eq.trans (Eq.symm ‹Yt _ _=true›) ‹Yt _ _=false›) (by decide)|(rename_i q;exact absurd ⟨by assumption,by assumption,by assumption⟩ q)|(rename_i q;obtain⟨q1,q2,q3⟩:=q;exact absurd (Eq.trans (Eq.symm q1) ‹Xp _=false›) (by decide))|(rename_i q;obtain⟨q1,q2,q3⟩:=q;omega))⟩⟩
    refine yc 0 (args:=#[V0 no,.iface 63 (V0 10)]) (.t B [173]) (Yj no (some 10) [] _ _ rfl) ?_
    rintro _ ah ⟨ae,rfl,d7,g5⟩
    refine⟨(SF.of_below _ d7),?_⟩
    rw[Yw] at g5
    obtain⟨u0,w5,rfl⟩:=g5.iface
    have l7:=(b8.below (Za a5.drew)).below d7
    refine xlv (.o [] 0) l7.rp ?_
    have c8:=((((b5.blk ((k2.below a8.below).below a0) (Ne.symm (Ne.symm a9))).below a1).below (Za a5)).below (Za a5.drew)).below d7
    have g2:=n2.ge0 (blB (Below.refl B w) hBw n1.below)
    refine ysv (.o [] 4) c8 [V0 (Yo (inB l no)),.bool (Xp (inB l no)),.slice kp (Zr (inB l no)) kc,.slice vp (Zr (inB l no)) vc] (.t B [173]) fun al l5 u5=>⟨(Zt l5 c8 (Nat.le_trans hBw g2) (by decide)),?_⟩
    have m1:=l5.below (blB (blB (blB (blB (b5.below (blB (blB hB hBw a8.below) hBw a0) (Nat.le_trans hBw c2)) hBw a1) hBw (Za a5)) hBw (Za a5.drew)) hBw d7) (Nat.le_trans hBw g2)
    have hO:=(Ze.upd_new (((((Ze.upd_new (((((((show Ze [315] w _ from(Ze.of_below n1.below)).trans (Ze.of_below n2.below)).trans (Ze.of_upd u3 a3 (by decide))).trans (Ze.of_below b0)).trans (Ze.of_below (Za W4))).trans (Ze.of_below a8.below)).trans (Ze.of_below a0)) b5 c2).trans (Ze.of_below a1)).trans (Ze.of_below (Za a5))).trans (Ze.of_below (Za a5.drew))).trans (Ze.of_below d7)) l5 g2)
    have l0:=l5.blkT ((b7.below (Za a5.drew)).below d7) c8 (by decide)
    have h3:=g5.upd l5 c8 (by decide)
    exact xec (.r [5] 5) u5 (.tuple #[.agg #[V0 (Yo (inB l no)),.bool (Xp (inB l no)),.slice kp (Zr (inB l no)) kc,.slice vp (Zr (inB l no)) vc],.iface u0 (w5)]) ⟨m1,hO,l0,.inl ⟨by(unfold Xu;(repeat' split)<;>first|rfl|assumption|decide|omega|exact absurd (Eq.trans (Eq.symm ‹Yt _ _=true›) ‹Yt _ _=false›) (by decide)|(rename_i q;exact absurd ⟨by assumption,by assumption,by assumption⟩ q)|(rename_i q;obtain⟨q1,q2,q3⟩:=q;exact absurd (Eq.trans (Eq.symm q1) ‹Xp _=false›) (by decide))|(rename_i q;obtain⟨q1,q2,q3⟩:=q;omega)),_,_,_,_,_,_,_,_,_,_,rfl,by(unfold Xu;(repeat' split)<;>first|exact h3|(exfalso;omega)|contradiction|exact absurd (Eq.trans (Eq.symm ‹Yt _ _=true›) ‹Yt _ _=false›) (by decide)|(rename_i q;exact absurd ⟨by assumption,by assumption,by assumption⟩ q)|(rename_i q;obtain⟨q1,q2,q3⟩:=q;exact absurd (Eq.trans (Eq.symm q1) ‹Xp _=false›) (by decide))|(rename_i q;obtain⟨q1,q2,q3⟩:=q;omega))⟩⟩
   refine xlv 5 b8.rp ?_
   have d0:=((b5.blk ((k2.below a8.below).below a0) (Ne.symm (Ne.symm a9))).below a1).below (Za a5)
   refine xsv 0 d0 [V0 (Yo (inB l no)),.bool (Xp (inB l no)),.slice kp (Zr (inB l no)) kc,.slice vp (Zr (inB l no)) vc] fun y0 i9 s7=>?_
   have g2:=n2.ge0 (blB (Below.refl B w) hBw n1.below)
   have l3:=i9.below (blB (blB (b5.below (blB (blB hB hBw a8.below) hBw a0) (Nat.le_trans hBw c2)) hBw a1) hBw (Za a5)) (Nat.le_trans hBw g2)
   have hO:=(Ze.upd_new (((Ze.upd_new (((((((show Ze [315] w _ from(Ze.of_below n1.below)).trans (Ze.of_below n2.below)).trans (Ze.of_upd u3 a3 (by decide))).trans (Ze.of_below b0)).trans (Ze.of_below (Za W4))).trans (Ze.of_below a8.below)).trans (Ze.of_below a0)) b5 c2).trans (Ze.of_below a1)).trans (Ze.of_below (Za a5))) i9 g2)
   have i3:=i9.blkT b7 d0 (by decide)
   have o6:=i9.own2 (Zb (Zb f7 a1) (Za a5)) d0 (by decide)
   have j1:=i9.own2 (Zb (Zb (b5.own2 (Zh h4 f6) c3 (by decide)) a1) (Za a5)) d0 (by decide)
   exact xec 4 s7 (.tuple #[.agg #[V0 (Yo (inB l no)),.bool (Xp (inB l no)),.slice kp (Zr (inB l no)) kc,.slice vp (Zr (inB l no)) vc],.nilIface]) ⟨l3,hO,i3,.inr ⟨by(unfold Xu;(repeat' split)<;>first|rfl|assumption|decide|omega|exact absurd (Eq.trans (Eq.symm ‹Yt _ _=true›) ‹Yt _ _=false›) (by decide)|(rename_i q;exact absurd ⟨by assumption,by assumption,by assumption⟩ q)|(rename_i q;obtain⟨q1,q2,q3⟩:=q;exact absurd (Eq.trans (Eq.symm q1) ‹Xp _=false›) (by decide))|(rename_i q;obtain⟨q1,q2,q3⟩:=q;omega)),by assumption,_,_,_,_,rfl,o6,j1⟩⟩
  have e5:=Yq e5
  refine xlv (.r [11,12,13,14,15,16,17,18,19,20,21,22,23,24] 8) b8.rp ?_
  have d3:=((b5.blk ((k2.below a8.below).below a0) (Ne.symm (Ne.symm a9))).below a1).below (Za a5)
  refine xsv 0 d3 [V0 (Yo (inB l no)),.bool (Xp (inB l no)),.slice kp (Zr (inB l no)) kc,.slice vp (Zr (inB l no)) vc] fun y6 m2 t8=>?_
  have g2:=n2.ge0 (blB (Below.refl B w) hBw n1.below)
  have j2:=m2.below (blB (blB (b5.below (blB (blB hB hBw a8.below) hBw a0) (Nat.le_trans hBw c2)) hBw a1) hBw (Za a5)) (Nat.le_trans hBw g2)
  have hO:=(Ze.upd_new (((Ze.upd_new (((((((show Ze [315] w _ from(Ze.of_below n1.below)).trans (Ze.of_below n2.below)).trans (Ze.of_upd u3 a3 (by decide))).trans (Ze.of_below b0)).trans (Ze.of_below (Za W4))).trans (Ze.of_below a8.below)).trans (Ze.of_below a0)) b5 c2).trans (Ze.of_below a1)).trans (Ze.of_below (Za a5))) m2 g2)
  have j9:=m2.blkT b7 d3 (by decide)
  have p3:=m2.own2 (Zb (Zb f7 a1) (Za a5)) d3 (by decide)
  have l9:=m2.own2 (Zb (Zb (b5.own2 (Zh h4 f6) c3 (by decide)) a1) (Za a5)) d3 (by decide)
  exact xec 4 t8 (.tuple #[.agg #[V0 (Yo (inB l no)),.bool (Xp (inB l no)),.slice kp (Zr (inB l no)) kc,.slice vp (Zr (inB l no)) vc],.nilIface]) ⟨j2,hO,j9,.inr ⟨by(unfold Xu;(repeat' split)<;>first|rfl|assumption|decide|omega|exact absurd (Eq.trans (Eq.symm ‹Yt _ _=true›) ‹Yt _ _=false›) (by decide)|(rename_i q;exact absurd ⟨by assumption,by assumption,by assumption⟩ q)|(rename_i q;obtain⟨q1,q2,q3⟩:=q;exact absurd (Eq.trans (Eq.symm q1) ‹Xp _=false›) (by decide))|(rename_i q;obtain⟨q1,q2,q3⟩:=q;omega)),by assumption,_,_,_,_,rfl,p3,l9⟩⟩
 refine xlv (.r [3,4,5,6,7,8,9,10,11,12,13,14,15,16,17,18,19,20,21,22,23,24] 8) b8.rp ?_
 have d5:=((b5.blk ((k2.below a8.below).below a0) (Ne.symm (Ne.symm a9))).below a1).below (Za a5)
 refine xsv 0 d5 [V0 (Yo (inB l no)),.bool (Xp (inB l no)),.slice kp (Zr (inB l no)) kc,.slice vp (Zr (inB l no)) vc] fun y3 m5 v7=>?_
 have g2:=n2.ge0 (blB (Below.refl B w) hBw n1.below)
 have l1:=m5.below (blB (blB (b5.below (blB (blB hB hBw a8.below) hBw a0) (Nat.le_trans hBw c2)) hBw a1) hBw (Za a5)) (Nat.le_trans hBw g2)
 have hO:=(Ze.upd_new (((Ze.upd_new (((((((show Ze [315] w _ from(Ze.of_below n1.below)).trans (Ze.of_below n2.below)).trans (Ze.of_upd u3 a3 (by decide))).trans (Ze.of_below b0)).trans (Ze.of_below (Za W4))).trans (Ze.of_below a8.below)).trans (Ze.of_below a0)) b5 c2).trans (Ze.of_below a1)).trans (Ze.of_below (Za a5))) m5 g2)
 have l8:=m5.blkT (((b5.blkT ((b6.below a8.below).below a0) c3 (by decide)).below a1).below (Za a5)) d5 (by decide)
 have q4:=m5.own2 (Zb (Zb f7 a1) (Za a5)) d5 (by decide)
 have j8:=m5.own2 (Zb (Zb (b5.own2 (Zh h4 f6) c3 (by decide)) a1) (Za a5)) d5 (by decide)
 exact xec 4 v7 (.tuple #[.agg #[V0 (Yo (inB l no)),.bool (Xp (inB l no)),.slice kp (Zr (inB l no)) kc,.slice vp (Zr (inB l no)) vc],.nilIface]) ⟨l1,hO,l8,.inr ⟨by(unfold Xu;(repeat' split)<;>first|rfl|assumption|decide|omega|exact absurd (Eq.trans (Eq.symm ‹Yt _ _=true›) ‹Yt _ _=false›) (by decide)|(rename_i q;exact absurd ⟨by assumption,by assumption,by assumption⟩ q)|(rename_i q;obtain⟨q1,q2,q3⟩:=q;exact absurd (Eq.trans (Eq.symm q1) ‹Xp _=false›) (by decide))|(rename_i q;obtain⟨q1,q2,q3⟩:=q;omega)),by assumption,_,_,_,_,rfl,q4,j8⟩⟩
def Kq(K:List Int)(Vs:List Bl)(no:Int)(k:Nat):List Ent:=(List.range k).map fun j=>(K.getD j 0,Vs.getD j [],no)
theorem Uc(K:List Int)(Vs:List Bl)(no:Int)(k:Nat):(Kq K Vs no k).length=k:=by simp[Kq]
theorem Oj(K:List Int)(Vs:List Bl)(no:Int)(k:Nat):Kq K Vs no (k+1)=Kq K Vs no k++[(K.getD k 0,Vs.getD k [],no)]:=by simp[Kq,List.range_succ]
theorem Ic(es:List Ent)(K:List Int)(Vs:List Bl)(no:Int)(k:Nat):(es++Kq K Vs no k).flatMap Hp++[V0 (K.getD k 0),.string ⟨(Vs.getD k []).toArray⟩,V0 no]=(es++Kq K Vs no (k+1)).flatMap Hp:=by
 rw[Oj,←List.append_assoc,List.flatMap_append (xs:=es++Kq K Vs no k)]
 rfl
def LeafP(B bw:Nat)(c1 c3 c4 c5 c6 c7:Value)(pw:O0)(cw:Nat)(way:List Int)(c9:Value)(es:List Ent)(K:List Int)(Vs:List Bl)(no:Int)(n:Nat)(w:World)(e:Ending)(w':World):Prop :=
 ∃ u pe ce,e=.returned u∧Below B w w'∧Ze [315,123] w w'∧Blk w' bw [.slice pe (es.length+n) ce,c1,V0 (↑(way.length+1):Int),c3,c4,c5,c6,c7,.slice pw way.length cw,c9] 315∧w'.ownsRow B 123 3 (.slice pe (es.length+n) ce) (es.length+n) ((es++Kq K Vs no n).flatMap Hp)
theorem Sf(B bw:Nat)(c1 c2 c3 c4 c5 c6 c7 c9:Value)(pe:O0)(ce:Nat)(es:List Ent)(pw:O0)(cw:Nat)(way:List Int)(no:Int)(nt:Int)(nl:Bool)(kp vp:O0)(n kc vc:Nat)(K:List Int)(Vs:List Bl)(w:World)(hBb:B≤bw)(hBw:B≤w.heap.size)(kW:Blk w bw [.slice pe es.length ce,c1,c2,c3,c4,c5,c6,c7,.slice pw way.length cw,c9] 315)(hE:w.ownsRow B 123 3 (.slice pe es.length ce) es.length (es.flatMap Hp))(hKs:∀ W,Below B w W→Ze [315,123] w W→Sl W (.slice kp n kc) n (K.map V0))(hVs:∀ W,Below B w W→Ze [315,123] w W→Sl W (.slice vp n vc) n (Vs.map sv))(hKl:K.length=n)(hVl:Vs.length=n)(hwl:way.length≤1000000)(hn:es.length+n≤1000000) :
 C0 256 #[P0 bw,V0 no,.agg #[V0 nt,.bool nl,.slice kp n kc,.slice vp n vc]] w (LeafP B bw c1 c3 c4 c5 c6 c7 pw cw way c9 es K Vs no n w):=by
 refine zin 46 Tryz.func256 ?_
 refine xa 2 [V0 nt,.bool nl,.slice kp n kc,.slice vp n vc] 173 fun b1 W1 n1=>?_
 have a8:=kW.below n1.below
 refine xb 8 8 a8 ?_
 refine xwm 1 ((way.length:Int)+1) (↑(way.length+1):Int) ?_
 refine xs 3 a8 [.slice pe es.length ce,c1,V0 (↑(way.length+1):Int),c3,c4,c5,c6,c7,.slice pw way.length cw,c9] fun W2 u2 k2=>?_
 have k1:=u2.blkT n1.blk a8 (by decide)
 refine xb 5 2 k1 ?_
 have d4:=u2.own2 (Zb hE n1.below) a8 (by decide)
 have hB:=u2.below (blB (Below.refl B w) hBw n1.below) hBb
 have hO:=(show Ze [315,123] w _ from(Ze.of_below n1.below)).trans (Ze.of_upd u2 a8 (by decide))
 refine zl 5 46 (fun zm e6 V=>∃ (i:Nat) (pe:O0) (ce:Nat),e6=[(0,P0 bw),(1,V0 no),(5,P0 b1),(19,.slice kp n kc),(20,V0 (n:Int)),(21,V0 (i:Int))]∧zm=n-((i:Int)).toNat∧Below B w V∧Ze [315,123] w V∧Blk V bw ([.slice pe (es.length+i) ce,c1,V0 (↑(way.length+1):Int),c3,c4,c5,c6,c7,.slice pw way.length cw,c9]) 315∧Blk V b1 ([V0 nt,.bool nl,.slice kp n kc,.slice vp n vc]) 173∧V.ownsRow B 123 3 (.slice pe (es.length+i) ce) (es.length+i) ((es++Kq K Vs no i).flatMap Hp)∧i≤n) ⟨0,_,_,rfl,rfl,hB,hO,k2,k1,(by simpa [Kq] using d4),Nat.zero_le _⟩ ?_
 rintro _ _ W3 ⟨i,pe,ce,rfl,rfl,b6,b2,a7,d0,hE,hi⟩ J3 e2 r3
 refine xid 6 ((i:Int)<(n:Int)) (fun e9=>?_) (fun e9=>?_)
 ·refine xx 7 _ n i 1 (IntsN.elem (hKs _ b6 b2) hKl (k:=i) (by omega)).1 ?_
  refine xl 0 ((IntsN.elem (hKs _ b6 b2) hKl (k:=i) (by omega)).2) ?_
  refine xd 4 (.t B [315,123]) ?_
  have a2:=d0.below (Za W3)
  refine xbt (.e [0,1,2,3,4,6,7] 8) 3 B [315,123] a2 ?_
  have a5:=blB b6 hBw (Za W3)
  have b3:=b2.trans (Ze.of_below (Za W3))
  refine xx (.e [9] 10) _ n i 1 (Strs.elem (hVs _ a5 b3) hVl (k:=i) (by omega)).1 ?_
  refine xlt (.e [] 11) (.t B [315,123]) (fun V hV=>(Strs.elem (hVs _ (Ao a5 hV hBw) (b3.trans hV.2)) hVl (k:=i) (by omega)).2) ?_
  refine xm2 (.b [12,13]) 5 14 ?_ ?_
  ·have a4:=a7.below (Za W3)
   refine xb 0 0 a4 ?_
   refine xbs (.o [] 14) 1 [V0 (K.getD i 0),.string ⟨(Vs.getD i []).toArray⟩,V0 no] 123 fun b5 W5 n5=>?_
   have g5:=n5.ge0 a5
   have d1:=Zb hE (Za W3)
   have e3:=Zz d1 n5
   have a6:=Zb d1 n5.below
   have c8:=blB a5 hBw n5.below
   refine ybi (.o [] 15) (.t B [315,123]) fun _ _ _ _ zJ zQ zo zx zy zK=>Xq (m:=1) (news:=[V0 (K.getD i 0),.string ⟨(Vs.getD i []).toArray⟩,V0 no]) (.agg #[V0 0,.string ⟨#[]⟩,V0 0]) 3 32 ((es.length+(i+1))) (((es++Kq K Vs no (i+1)).flatMap Hp)) zo Tryz.underlying88 (by kernel_rfl) rfl (by decide) zx a6 zy (n5.blk.sl 1 1 (by decide) (by decide)) rfl (by simp[Value.oneCell']) (by unfold maxLen;omega) (by omega) (Nat.le_trans hBw c8.size) (by omega) (Ic _ _ _ _ _) fun e8 f2 W6 o6 d3 e4=>?_
   refine zK _ _ (Ql e4 d3 a6 (by decide)) ?_
   have a0:=(a4.below n5.below).grown d3 a6 (by decide)
   refine ys (.o [16,17,18] 19) a0 [.slice e8 (es.length+(i+1)) f2,c1,V0 (↑(way.length+1):Int),c3,c4,c5,c6,c7,.slice pw way.length cw,c9] (.t B [315,123]) fun W7 u7 k7=>⟨(Zt u7 a0 hBb (by decide)),?_⟩
   refine xwm 4 ((i:Int)+1) (↑(i+1):Int) ?_
   have d6:=u7.below (c8.trans e4) hBb
   have d5:=((b3.trans (Ze.of_below n5.below)).trans (Ze.of_grown d3 a6 (by decide))).trans (Ze.of_upd u7 a0 (by decide))
   have b0:=u7.blkT ((a2.below n5.below).grown d3 a6 (by decide)) a0 (by decide)
   have d7:=u7.own2 o6 a0 (by decide)
   exact ze 2 (e2 _ _ _ ⟨i+1,_,_,rfl,rfl,d6,d5,k7,b0,d7,by omega⟩ (by omega))
  refine xbs 0 1 [V0 (K.getD i 0),.string ⟨(Vs.getD i []).toArray⟩,V0 no] 123 fun b8 W8 n8=>?_
  have g8:=n8.ge0 a5
  have c0:=Zb hE (Za W3)
  have e1:=Zz c0 n8
  have a3:=(a7.below (Za W3)).below n8.below
  refine xb (.o [] 5) 0 a3 ?_
  have a9:=Zb c0 n8.below
  have b9:=blB a5 hBw n8.below
  refine ybi (.o [] 15) (.t B [315,123]) fun _ _ _ _ zJ zQ zo zx zy zK=>Xq (m:=1) (news:=[V0 (K.getD i 0),.string ⟨(Vs.getD i []).toArray⟩,V0 no]) (.agg #[V0 0,.string ⟨#[]⟩,V0 0]) 3 32 ((es.length+(i+1))) (((es++Kq K Vs no (i+1)).flatMap Hp)) zo Tryz.underlying88 (by kernel_rfl) rfl (by decide) zx a9 zy (n8.blk.sl 1 1 (by decide) (by decide)) rfl (by simp[Value.oneCell']) (by unfold maxLen;omega) (by omega) (Nat.le_trans hBw b9.size) (by omega) (Ic _ _ _ _ _) fun f1 e7 W9 o9 d2 e5=>?_
  refine zK _ _ (Ql e5 d2 a9 (by decide)) ?_
  have a1:=a3.grown d2 a9 (by decide)
  refine ys (.o [16,17,18] 19) a1 [.slice f1 (es.length+(i+1)) e7,c1,V0 (↑(way.length+1):Int),c3,c4,c5,c6,c7,.slice pw way.length cw,c9] (.t B [315,123]) fun f3 b7 f0=>⟨(Zt b7 a1 hBb (by decide)),?_⟩
  refine xwm 4 ((i:Int)+1) (↑(i+1):Int) ?_
  have d8:=b7.below (b9.trans e5) hBb
  have e0:=((b3.trans (Ze.of_below n8.below)).trans (Ze.of_grown d2 a9 (by decide))).trans (Ze.of_upd b7 a1 (by decide))
  have b4:=b7.blkT ((a2.below n8.below).grown d2 a9 (by decide)) a1 (by decide)
  have d9:=b7.own2 o9 a1 (by decide)
  exact ze 2 (e2 _ _ _ ⟨i+1,_,_,rfl,rfl,d8,e0,f0,b4,d9,by omega⟩ (by omega))
 refine xe 4 (.tuple #[]) ?_
 obtain rfl:i=n:=by omega
 exact⟨_,_,_,rfl,b6,b2,a7,hE⟩
end Go.Proofs.YtegcamkgeacjfaaGreatDoor
namespace Go.Proofs.YtegcamkgeacjfaaGreatDoor
set_option maxHeartbeats 8000000
set_option maxRecDepth 100000
open Go.RowKit Go.Extern.Stop Go.Stop Go.Extern
set_option linter.unusedVariables false
def Je(u v:Value):Prop:=∀ j,u.ownBlock=some j→v.ownBlock≠some j
theorem Je.symm{u v:Value}(h:Je u v):Je v u:=fun j h1 h2=>h j h2 h1
theorem Je.grow{w:World}{u v u':Value}{base e size n:Nat}{xs:List Value}(h:Je u v)(k:w.ownsRow base e size v n xs)(hl:u'.ownBlock=u.ownBlock∨u'.ownBlock=some w.heap.size):Je u' v:=by
 rintro j h1 h2
 rcases hl with hl|hl
 ·exact h j (hl▸h1) h2
 ·rw[hl,Option.some.injEq] at h1
  subst h1
  have:=(k.lt _ h2).2
  omega
theorem Je.row{w W:World}{u v:Value}{base e size n:Nat}{xs:List Value}(h:Je u v)(k:w.ownsRow base e size v n xs)(hg:w.grownBy W u.ownBlock):W.ownsRow base e size v n xs:=by
 obtain⟨h1,h2⟩:=k
 refine⟨h1,?_⟩
 rcases h2 with h2|⟨g,a1,a0,rfl,hb,hh,r⟩
 ·exact Or.inl h2
 ·exact Or.inr ⟨g,a1,a0,rfl,hb,(hg.block g (Array.getElem?_eq_some_iff.1 hh).1 (fun q=>h g q.symm rfl)).trans hh,r⟩
theorem Je.of_lt{w W:World}{u v:Value}{base base2 e e2 size size2 n n2:Nat}{xs ys:List Value}(k:w.ownsRow base e size u n xs)(q:W.ownsRow base2 e2 size2 v n2 ys)(h:w.heap.size≤base2):Je u v:=fun j h1 h2=>by
 have:=(k.lt j h1).2
 have:=(q.lt j h2).1
 omega
theorem Je.nil(v:Value):Je (S0) v:=fun j h=>by cases h
theorem Zdk{w:World}{base e n m c:Nat}{p:O0}{xs:List Value}(k:w.ownsRow base e 1 (.slice p n c) n xs)(hm:m≤n)(hp:p.isSome=true):w.ownsRow base e 1 (.slice p m c) m (xs.take m):=by
 obtain⟨h1,h2⟩:=k
 refine⟨by rw[List.length_take];omega,?_⟩
 rcases h2 with ⟨h2,_⟩|⟨g,a4,a3,hv,hb,hh,hc,a1,a2,a0⟩
 ·cases h2;cases hp
 ·simp only[Value.slice.injEq] at hv
  obtain⟨rfl,_,rfl⟩:=hv
  refine Or.inr ⟨g,c,a3,rfl,hb,hh,by omega,a1,a2,?_⟩
  rw[←a0,List.take_take]
  congr 1
  omega
theorem Ep{P:Program}{a:Act}{w:World}{K:Act→World→Prop}{Q:Exit→Act→World→Prop}{o:Oper}{s x:Operand}{t e te:TypeId}{base:Nat}{v:Value}{n:Nat}{xs:List Value}{b m c:Nat}{news:List Value}(z:Value)(size bytes n':Nat)(xs':List Value)
 (ho:o.op=.call { callee:=.builtin .append,args:=#[s,x],argTypes:=#[t,t] }) (ht:P.underlying t=some (.slice e)) (hi:(P.info? e).map (fun i=>(i.zero,i.size,i.bytes))=some (some z,size,bytes)) (hzs:z.cells.size=size) (hsz:0<size) (hs:a.eval s=v)
 (hown:w.ownsRow base e size v n xs) (hx:a.eval x=.slice (S1 b) m c) (hnew:Blk w b news te) (hl:news.length=m*size) (h1:∀ u∈news,u.oneCell'=true) (h63:n+m≤maxLen) (hbytes:(n+m)*bytes≤140737488355328) (hbase:base≤w.heap.size) (hn:n+m=n') (hxs:xs++news=xs')
 (h:∀ p c W,W.ownsRow base e size (.slice p n' c) n' xs'→w.grownBy W v.ownBlock→Below base w W→((Value.slice p n' c).ownBlock=v.ownBlock∨(Value.slice p n' c).ownBlock=some w.heap.size)→K (a.put o.dst (.slice p n' c)) W):o.wp P a w K Q:=by
 cases hq:P.info? e with
 | none=>simp[hq] at hi
 | some i =>
  simp only[hq,Option.map_some,Option.some.injEq,Prod.mk.injEq] at hi
  have hc:∀ j u,news[j]? = some u→w.cell? ((⟨b,0,none⟩:Addr).add j)=some u:=fun j u hj=>by
   have hc:=hnew.cell hj
   by_cases h0:j=0
   ·subst h0;simpa [Addr.add] using hc
   ·simpa [Addr.add,h0] using hc
  obtain⟨v',W,hr,h2,h3,_,h5⟩:=run_append_own_at (P:=P) w base t o.type e i z size bytes ht hq hi.1 hi.2.1 hi.2.2 hzs hsz v n xs hown ⟨b,0,none⟩ m c news hl hc h1 h63 hbytes hbase
  subst hn hxs
  obtain⟨p,c2,rfl⟩:=(Zi h2).slice
  unfold Oper.wp execOp
  simp only[ho,resolve,invoke,builtin,Sem.run_bind,Sem.run_pure,Result.andThen_ok,List.map_toArray,List.map_cons,List.map_nil,hs,hx,hr]
  exact h p c2 W h2 h3 (Hx h3 hown (Nat.le_refl _) hbase) h5
structure WS where
 es:List Ent
 bs:List Int
 deep:Int
 looked:Nat
 fs:List (List Int×Int)
 dry:Bool
def Yr(way bs:List Int)(c:Int)(s:WS):WS:={ s with fs:=s.fs++[(way++bs,c)] }
def Vh(V:List Int→Int→Int→Int→WS→WS)(way:List Int)(no:Int)(val:Bl)(p:Int×Int)(s:WS):WS :=
 if Xk val=0 then V (way++[no]) (Zo val:Int) p.1 p.2 s else Yr way [no] (Xk val) s
def Vz(l:Bl)(no:Int):List Int:=Qo (inB l no) (Zr (inB l no))
def Ci(l:Bl)(no:Int):List Bl:=Kw (inB l no) (Zr (inB l no))
def Wi(V:List Int→Int→Int→Int→WS→WS)(l:Bl)(way:List Int)(no hi:Int)(s:WS)(i:Nat):WS :=
 if s.dry=true then s else Vh V way no ((Ci l no).getD i []) (Xr hi (Vz l no) i) s
def Xx(V:List Int→Int→Int→Int→WS→WS)(l:Bl)(way:List Int)(no hi:Int)(k:Nat)(s:WS):WS:=(List.range k).foldl (Wi V l way no hi) s
def Zn(l:Bl)(tree fuel:Int):Nat→List Int→Int→Int→Int→WS→WS
 | 0,_,_,_,_,s=>s
 | d+1,way,no,lo,hi,s =>
  if fuel≤s.looked then { Yr way [no] 12 s with dry:=true }
  else if Xu l way no tree lo hi s.deep≠0 then Yr way [no] (Xu l way no tree lo hi s.deep) { s with looked:=s.looked+1 }
  else if Xp (inB l no)=true then { s with looked:=s.looked+1,bs:=s.bs++[no],deep:=((way.length+1:Nat):Int),es:=s.es++Kq (Vz l no) (Ci l no) no (Zr (inB l no)) }
  else Xx (Zn l tree fuel d) l way no hi (Zr (inB l no)) { s with looked:=s.looked+1,bs:=s.bs++[no] }
theorem Hj(V:List Int→Int→Int→Int→WS→WS)(l:Bl)(way:List Int)(no hi:Int)(k:Nat)(s:WS):Xx V l way no hi (k+1) s=Wi V l way no hi (Xx V l way no hi k s) k:=by
 simp[Xx,List.range_succ]
theorem Oz(V:List Int→Int→Int→Int→WS→WS)(l:Bl)(way:List Int)(no hi:Int)(s:WS)(i:Nat)(h:s.dry=true):Wi V l way no hi s i=s:=by simp[Wi,h]
theorem Zd2(V:List Int→Int→Int→Int→WS→WS)(l:Bl)(way:List Int)(no hi:Int)(s:WS){k n:Nat}(hk:k≤n)(h:(Xx V l way no hi k s).dry=true):Xx V l way no hi n s=Xx V l way no hi k s:=by
 induction n with
 | zero =>
  obtain rfl:k=0:=by omega
  rfl
 | succ n ih =>
   rcases Nat.lt_or_ge n k with q|q
   ·obtain rfl:k=n+1:=by omega
    rfl
   ·rw[Hj,ih q,Oz _ _ _ _ _ _ _ h]
def Qr(w:World):List (List Int×Int)→List Value→Prop
 | [],[]=>True
 | f::r,v::q=>Yu w (f.1.map some) (some f.2) v∧Qr w r q
 | _,_=>False
theorem Qr.kept{w W:World}(hb:∀ blk cs,Blk w blk cs 188→Blk W blk cs 188):∀ {fs:List (List Int×Int)} {vs:List Value},Qr w fs vs→Qr W fs vs
 | [],[],h=>h
 | _::_,_::_,h=>⟨h.1.kept hb,Qr.kept hb h.2⟩
 | [],_::_,h=>h.elim
 | _::_,[],h=>h.elim
theorem Qr.only{T:List TypeId}{w W:World}{fs:List (List Int×Int)}{vs:List Value}(h:Qr w fs vs)(k:Ze T w W)(hT:T.contains 188=false):Qr W fs vs:=h.kept fun _ _ q=>q.only k hT
theorem Qr.below{w W:World}{fs:List (List Int×Int)}{vs:List Value}(h:Qr w fs vs)(hb:B0 w W):Qr W fs vs:=h.kept fun _ _ q=>q.below hb
theorem Qr.snoc{w:World}{f:List Int×Int}{v:Value}(hv:Yu w (f.1.map some) (some f.2) v):∀ {fs:List (List Int×Int)} {vs:List Value},Qr w fs vs→Qr w (fs++[f]) (vs++[v])
 | [],[],_=>⟨hv,trivial⟩
 | _::_,_::_,h=>⟨h.1,Qr.snoc hv h.2⟩
 | [],_::_,h=>h.elim
 | _::_,[],h=>h.elim
structure WalkR(B bw Bi b:Nat)(pi:Option Addr)(ni ci:Nat)(l:List UInt8)(tree fuel:Int)(way:List Int)(s:WS)(pe pb pf pw:Option Addr)(ce cb cf cw:Nat)(fv:List Value)(w:World):Prop where
 blk:Blk w bw [.slice pe s.es.length ce,.slice pb s.bs.length cb,.int .i64 s.deep,.int .i64 (s.looked:Int),.slice pf s.fs.length cf,.pointer (some ⟨b,0,none⟩),.int .i64 tree,.int .i64 fuel,.slice pw way.length cw,.bool s.dry] 315
 ents:w.ownsRow B 123 3 (.slice pe s.es.length ce) s.es.length (s.es.flatMap Hp)
 blks:w.ownsRow B 3 1 (.slice pb s.bs.length cb) s.bs.length (s.bs.map (Value.int .i64))
 flts:w.ownsRow B 29 1 (.slice pf s.fs.length cf) s.fs.length fv
 fltv:Qr w s.fs fv
 ways:w.ownsRow B 3 1 (.slice pw way.length cw) way.length (way.map (Value.int .i64))
 apart:Je (.slice pb s.bs.length cb) (.slice pw way.length cw)
 img:ImgR Bi b pi ni ci l w
def Zdf(B bw Bi b:Nat)(pi:O0)(ni ci:Nat)(l:Bl)(tree fuel:Int)(way:List Int)(t:WS)(w:World)(e:Ending)(w':World):Prop :=
 ∃ u pe pb pf pw ce cb cf cw fv,e=.returned u∧Below B w w'∧Ze [315,123,3,29] w w'∧WalkR B bw Bi b pi ni ci l tree fuel way t pe pb pf pw ce cb cf cw fv w'
end Go.Proofs.YtegcamkgeacjfaaGreatDoor
namespace Go.Proofs.YtegcamkgeacjfaaGreatDoor
set_option maxHeartbeats 8000000
set_option maxRecDepth 100000
open Go.RowKit Go.Extern.Stop Go.Stop Go.Extern
set_option linter.unusedVariables false
attribute [local irreducible] wpList wpAnyH Code.wp Oper.wp Go
theorem Pp{w:World}{base e n c:Nat}{p:O0}{xs:List Value}(k:w.ownsRow base e 1 (.slice p n c) n xs)(hn:0<n):p.isSome=true∧n≤c:=by
 rcases k.2 with ⟨h,_⟩|⟨g,a1,a0,hv,_,_,hc,_⟩
 ·simp only[Value.slice.injEq] at h;omega
 ·simp only[Value.slice.injEq] at hv
  obtain⟨rfl,_,rfl⟩:=hv
  exact⟨rfl,hc⟩
theorem Pr{w:World}{base e c:Nat}{p:O0}{way:List Int}{no:Int}(k:w.ownsRow base e 1 (.slice p (way++[no]).length c) (way++[no]).length ((way++[no]).map V0)):w.ownsRow base e 1 (.slice p way.length c) way.length (way.map V0):=by
 have h:=Zdk (m:=way.length) k (by simp) (Pp k (by simp)).1
 rwa [List.map_append,List.take_left' (by simp)] at h
theorem Tc{w w':World}(h:Ze [315,29] w w'):Ze [315,123,3,29] w w':=h.mono fun t ht=>by
 simp only[List.contains_cons,List.contains_nil,Bool.or_eq_false_iff] at ht ⊢
 exact⟨ht.1,ht.2.2.2⟩
def Zdz(B bw Bi b:Nat)(pi:O0)(ni ci:Nat)(l:Bl)(tree fuel:Int)(d:Nat):Prop :=
 ∀ (way:List Int) (no lo hi:Int) (s:WS) (pe pb pf pw:O0) (ce cb cf cw:Nat) (fv:List Value) (w:World),way.length+d=17→B≤w.heap.size→s.dry=false→WalkR B bw Bi b pi ni ci l tree fuel way s pe pb pf pw ce cb cf cw fv w →
  (Zn l tree fuel d way no lo hi s).es.length≤1000000→(Zn l tree fuel d way no lo hi s).bs.length≤1000000→(Zn l tree fuel d way no lo hi s).fs.length≤1000000 →
  C0 200 #[P0 bw,V0 no,.agg #[V0 lo,V0 hi]] w (Zdf B bw Bi b pi ni ci l tree fuel way (Zn l tree fuel d way no lo hi s) w)
theorem Fe(B bw Bi b:Nat)(pi:O0)(ni ci:Nat)(l:Bl)(tree fuel:Int)(d:Nat)(hV:Zdz B bw Bi b pi ni ci l tree fuel d)(way:List Int)(no lo hi:Int)(val:Bl)(s:WS)(pe pb pf pw:O0)(ce cb cf cw:Nat)(fv:List Value)(w:World)(hBb:B≤bw)(hBw:B≤w.heap.size)(hwd:way.length+1+d=17)(hdry:s.dry=false)(hvl:val.length≤1000)(hR:WalkR B bw Bi b pi ni ci l tree fuel (way++[no]) s pe pb pf pw ce cb cf cw fv w)(he:(Vh (Zn l tree fuel d) way no val (lo,hi) s).es.length≤1000000)(hb_:(Vh (Zn l tree fuel d) way no val (lo,hi) s).bs.length≤1000000)(hf:(Vh (Zn l tree fuel d) way no val (lo,hi) s).fs.length≤1000000) :
 C0 258 #[P0 bw,V0 no,.string ⟨val.toArray⟩,.agg #[V0 lo,V0 hi]] w (Zdf B bw Bi b pi ni ci l tree fuel (way++[no]) (Vh (Zn l tree fuel d) way no val (lo,hi) s) w):=by
 obtain⟨kW,d0,d4,d2,d1,c2,d3,hI⟩:=hR
 have e6:=(Pp c2 (by simp)).2
 have e5:(way++[no]).length=way.length+1:=by simp
 refine zin 44 Tryz.func258 ?_
 refine xa 2 [V0 lo,V0 hi] 214 fun b1 W1 n1=>?_
 refine xr 5 (args:=#[.string ⟨val.toArray⟩]) (Qu val _ hvl) fun W2 a1=>?_
 refine xie 14 (Xk val) (0:Int) (fun e0=>?_) (fun e0=>?_)
 ·have k1:=n1.blk.below a1
  refine xlv 4 k1.rp ?_
  have a4:Vh (Zn l tree fuel d) way no val (lo,hi) s=Zn l tree fuel d (way++[no]) (Zo val:Int) lo hi s:=by unfold Vh;rw[if_pos (by assumption)]
  have hB:=blB (blB (Below.refl B w) hBw n1.below) hBw a1
  have c7:=(kW.below n1.below).below a1
  have b6:=Zb (Zb d0 n1.below) a1
  have a9:=Zb (Zb d4 n1.below) a1
  have b5:=Zb (Zb d2 n1.below) a1
  have b7:=(d1.below n1.below).below a1
  have b3:=Zb (Zb c2 n1.below) a1
  have c8:=(hI.below n1.below).below a1
  refine xc 0 (args:=#[P0 bw,V0 (↑(Zo val):Int),.agg #[V0 lo,V0 hi]]) (hV (way++[no]) (Zo val:Int) lo hi s pe pb pf pw ce cb cf cw fv _ (by simp;omega) (Nat.le_trans hBw hB.size) hdry ⟨c7,b6,a9,b5,b7,b3,d3,c8⟩ (by have q:=he;rw[a4] at q;exact q) (by have q:=hb_;rw[a4] at q;exact q) (by have q:=hf;rw[a4] at q;exact q)) ?_
  rintro _ W4 ⟨u4,e1,e2,c1,e3,e9,e8,c0,e7,e4,rfl,d9,d6,d5⟩
  have c3:=hB.trans d9
  have hO:=((show Ze [315,123,3,29] w _ from(Ze.of_below n1.below)).trans (Ze.of_below a1)).trans d6
  refine xe 4 (.tuple #[]) ?_
  rw[a4]
  exact⟨_,_,_,_,_,_,_,_,_,_,rfl,c3,hO,d5⟩
 have a0:=(kW.below n1.below).below a1
 refine xb 7 8 a0 ?_
 refine xwm 9 ((↑((way++[no]).length):Int)-1) (↑(((way++[no]).length)-1):Int) ?_
 refine xsH 0 (fun _ _ _ _ zo zx zy V=>Qt (k:=(((way++[no]).length)-1)) (b:=pw) (n:=(way++[no]).length) (c:=cw) (i:=(↑(((way++[no]).length)-1):Int)) (ki:=.i64) zo zx zy rfl (by omega) Tryz.underlying33 (by kernel_rfl) V) ?_
 refine xs 2 a0 [.slice pe s.es.length ce,.slice pb s.bs.length cb,V0 s.deep,V0 (s.looked:Int),.slice pf s.fs.length cf,P0 b,V0 tree,V0 fuel,.slice pw (((way++[no]).length)-1) cw,.bool s.dry] fun W5 u5 k5=>?_
 refine xc 8 (args:=#[V0 no,.iface 63 (V0 (Xk val))]) (Yj no (some (Xk val)) [] _ _ rfl) ?_
 rintro _ W6 ⟨r6,rfl,a2,c4⟩
 rw[Yw] at c4
 obtain⟨t6,x6,rfl⟩:=c4.iface
 have b9:=k5.below a2
 have a4:Vh (Zn l tree fuel d) way no val (lo,hi) s=Yr way [no] (Xk val) s:=by unfold Vh;rw[if_neg (by assumption)]
 rw[show(way++[no]).length-1=way.length by omega] at b9
 have hB:=blB (u5.below (blB (blB (Below.refl B w) hBw n1.below) hBw a1) hBb) hBw a2
 have a8:=Zb (u5.own2 (Zb (Zb d2 n1.below) a1) a0 (by decide)) a2
 have a3:=Zb (u5.own2 (Zb (Zb c2 n1.below) a1) a0 (by decide)) a2
 refine xc 0 (args:=#[P0 bw,.iface t6 (x6)]) (Hz B bw _ _ _ _ _ _ _ _ pf _ cf fv pw cw way [no] (Xk val) _ _ _ hBb (Nat.le_trans hBw hB.size) b9 a8 (Pr a3) c4 (by omega) (by have:=hf;rw[a4] at this;simp[Yr] at this;omega)) ?_
 rintro _ W7 ⟨u7,c1,c0,t2,x2,rfl,d8,a6,kN,c5,d7⟩
 refine xs 7 kN [.slice pe s.es.length ce,.slice pb s.bs.length cb,V0 s.deep,V0 (s.looked:Int),.slice c1 (s.fs.length+1) c0,P0 b,V0 tree,V0 fuel,.slice pw ((way++[no]).length) cw,.bool s.dry] fun W8 u8 k8=>?_
 have c6:=u8.below (hB.trans d8) hBb
 have hO:=(((((show Ze [315,123,3,29] w _ from(Ze.of_below n1.below)).trans (Ze.of_below a1)).trans (Ze.of_upd u5 a0 (by decide))).trans (Ze.of_below a2)).trans (Tc a6)).trans (Ze.of_upd u8 kN (by decide))
 have a7:=u8.own2 (Zf (Zb (u5.own2 (Zb (Zb d0 n1.below) a1) a0 (by decide)) a2) a6 (by decide)) kN (by decide)
 have b2:=u8.own2 (Zf (Zb (u5.own2 (Zb (Zb d4 n1.below) a1) a0 (by decide)) a2) a6 (by decide)) kN (by decide)
 have a5:=u8.own2 c5 kN (by decide)
 have b4:=d7.upd u8 kN (by decide)
 have b8:=(((((d1.below n1.below).below a1).only (Ze.of_upd (T:=[315]) u5 a0 (by decide)) (by decide)).below a2).only a6 (by decide)).only (Ze.of_upd (T:=[315]) u8 kN (by decide)) (by decide)
 have b0:=u8.own2 (Zf a3 a6 (by decide)) kN (by decide)
 have c9:=(((((hI.below n1.below).below a1).only (Ze.of_upd (T:=[315]) u5 a0 (by decide)) (by decide)).below a2).only a6 (by decide)).only (Ze.of_upd (T:=[315]) u8 kN (by decide)) (by decide)
 refine xe 1 (.tuple #[]) ?_
 rw[a4]
 exact⟨_,pe,pb,c1,pw,ce,cb,c0,cw,_,rfl,c6,hO,by simpa [Yr] using k8,a7,b2,by simpa [Yr] using a5,Qr.snoc b4 b8,b0,d3,c9⟩
end Go.Proofs.YtegcamkgeacjfaaGreatDoor
namespace Go.Proofs.YtegcamkgeacjfaaGreatDoor
set_option maxHeartbeats 8000000
set_option maxRecDepth 100000
open Go.RowKit Go.Extern.Stop Go.Stop Go.Extern
set_option linter.unusedVariables false
def Cx(s t:WS):Prop:=s.es.length≤t.es.length∧s.bs.length≤t.bs.length∧s.fs.length≤t.fs.length
theorem Cx.refl(s:WS):Cx s s:=⟨Nat.le_refl _,Nat.le_refl _,Nat.le_refl _⟩
theorem Cx.trans{s t u:WS}(h:Cx s t)(k:Cx t u):Cx s u:=⟨Nat.le_trans h.1 k.1,Nat.le_trans h.2.1 k.2.1,Nat.le_trans h.2.2 k.2.2⟩
theorem Oa(way bs:List Int)(c:Int)(s:WS):Cx s (Yr way bs c s):=⟨Nat.le_refl _,Nat.le_refl _,by simp[Yr]⟩
theorem Sj{V:List Int→Int→Int→Int→WS→WS}(hV:∀ way no lo hi s,Cx s (V way no lo hi s))(way:List Int)(no:Int)(val:Bl)(p:Int×Int)(s:WS):Cx s (Vh V way no val p s):=by
 unfold Vh
 split
 ·exact hV _ _ _ _ _
 ·exact Oa _ _ _ _
theorem Sg{V:List Int→Int→Int→Int→WS→WS}(hV:∀ way no lo hi s,Cx s (V way no lo hi s))(l:Bl)(way:List Int)(no hi:Int)(s:WS)(i:Nat):Cx s (Wi V l way no hi s i):=by
 unfold Wi
 split
 ·exact Cx.refl _
 ·exact Sj hV _ _ _ _ _
theorem Bv{V:List Int→Int→Int→Int→WS→WS}(hV:∀ way no lo hi s,Cx s (V way no lo hi s))(l:Bl)(way:List Int)(no hi:Int)(s:WS){k n:Nat}(hk:k≤n):Cx (Xx V l way no hi k s) (Xx V l way no hi n s):=by
 induction n with
 | zero =>
  obtain rfl:k=0:=by omega
  exact Cx.refl _
 | succ n ih =>
   rcases Nat.lt_or_ge n k with q|q
   ·obtain rfl:k=n+1:=by omega
    exact Cx.refl _
   ·rw[Hj]
    exact(ih q).trans (Sg hV _ _ _ _ _ _)
theorem Iq(V:List Int→Int→Int→Int→WS→WS)(l:Bl)(way:List Int)(no hi:Int)(s:WS):Xx V l way no hi 0 s=s:=rfl
theorem Hy(l:Bl)(tree fuel:Int):∀ (d:Nat) (way:List Int) (no lo hi:Int) (s:WS),Cx s (Zn l tree fuel d way no lo hi s)
 | 0,_,_,_,_,s=>Cx.refl s
 | d+1,way,no,lo,hi,s=>by
  unfold Zn
  split
  ·exact⟨Nat.le_refl _,Nat.le_refl _,by simp[Yr]⟩
  ·split
   ·exact⟨Nat.le_refl _,Nat.le_refl _,by simp[Yr]⟩
   ·split
    ·exact⟨by simp,by simp,Nat.le_refl _⟩
    ·refine Cx.trans ⟨?_,?_,?_⟩ (Bv (Hy l tree fuel d) l way no hi _ (Nat.zero_le _))
     ·exact Nat.le_refl _
     ·simp[Iq]
     ·exact Nat.le_refl _
section
variable {B bw Bi b:Nat} {pi:Option Addr} {ni ci:Nat} {l:List UInt8} {tree fuel:Int} {way:List Int} {s:WS} {pe pb pf pw:Option Addr} {ce cb cf cw:Nat} {fv:List Value} {w W:World}
theorem WalkR.below(h:WalkR B bw Bi b pi ni ci l tree fuel way s pe pb pf pw ce cb cf cw fv w)(hb:B0 w W):WalkR B bw Bi b pi ni ci l tree fuel way s pe pb pf pw ce cb cf cw fv W :=
 ⟨h.blk.below hb,Zb h.ents hb,Zb h.blks hb,Zb h.flts hb,h.fltv.below hb,Zb h.ways hb,h.apart,h.img.below hb⟩
theorem WalkR.only{T:List TypeId}(h:WalkR B bw Bi b pi ni ci l tree fuel way s pe pb pf pw ce cb cf cw fv w)(hO:Ze T w W)
 (hT:T.contains 315=false∧T.contains 123=false∧T.contains 3=false∧T.contains 29=false∧T.contains 188=false∧T.contains 95=false∧T.contains 5=false):WalkR B bw Bi b pi ni ci l tree fuel way s pe pb pf pw ce cb cf cw fv W :=
 ⟨h.blk.only hO hT.1,Zf h.ents hO hT.2.1,Zf h.blks hO hT.2.2.1,Zf h.flts hO hT.2.2.2.1,h.fltv.only hO hT.2.2.2.2.1,Zf h.ways hO hT.2.2.1,h.apart,h.img.only hO ⟨hT.2.2.2.2.2.1,hT.2.2.2.2.2.2⟩⟩
end
end Go.Proofs.YtegcamkgeacjfaaGreatDoor
namespace Go.Proofs.YtegcamkgeacjfaaGreatDoor
set_option maxHeartbeats 8000000
set_option maxRecDepth 100000
open Go.RowKit Go.Extern.Stop Go.Stop Go.Extern
set_option linter.unusedVariables false
attribute [local irreducible] wpList wpAnyH Code.wp Oper.wp Go
theorem LookP.or{B bw:Nat}{cs:List Value}{l:Bl}{way:List Int}{no tree lo hi deep:Int}{w:World}{e:Ending}{w':World}(h:LookP B bw cs l way no tree lo hi deep w e w') :
 (Xu l way no tree lo hi deep≠0∧∃ a4 b4 k4 n4 c4 v4 m4 d4 ty x,e=.returned (.tuple #[.agg #[V0 a4,.bool b4,.slice k4 n4 c4,.slice v4 m4 d4],.iface ty x])∧Below B w w'∧Ze [315] w w'∧Blk w' bw cs 315∧Yu w' [some no] (some (Xu l way no tree lo hi deep)) (.iface ty x)) ∨
 (Xu l way no tree lo hi deep=0∧∃ kp kc vp vc,e=.returned (.tuple #[.agg #[V0 (Yo (inB l no)),.bool (Xp (inB l no)),.slice kp (Zr (inB l no)) kc,.slice vp (Zr (inB l no)) vc],.nilIface])∧Below B w w'∧Ze [315] w w'∧Blk w' bw cs 315 ∧
 w'.ownsRow w.heap.size 3 1 (.slice kp (Zr (inB l no)) kc) (Zr (inB l no)) ((Vz l no).map V0)∧w'.ownsRow w.heap.size 9 1 (.slice vp (Zr (inB l no)) vc) (Zr (inB l no)) ((Ci l no).map sv)):=by
 obtain⟨h1,h2,h3,⟨h4,a4,b4,k4,n4,c4,v4,m4,d4,ty,x,h5,h6⟩|⟨h4,_,kp,kc,vp,vc,h5,h6,h7⟩⟩:=h
 ·exact .inl ⟨h4,a4,b4,k4,n4,c4,v4,m4,d4,ty,x,h5,h1,h2,h3,h6⟩
 ·exact .inr ⟨h4,kp,kc,vp,vc,h5,h1,h2,h3,h6,h7⟩
theorem widG_24(t:Int)(b:Bool):widG t b≤24:=by
 unfold widG widN
 repeat' split
 all_goals omega
theorem Na(l:Bl)(n i:Nat):((Kw l n).getD i []).length≤1000:=by
 by_cases h:i<n
 ·rw[Zdw l h]
  unfold Zdh
  rw[List.length_take]
  have:=widG_24 (Yo l) (Xp l)
  unfold Qg
  omega
 ·simp[List.getD,List.getElem?_eq_none (show(Kw l n).length≤i by rw[Zdn];omega)]
theorem Wt(p:O0)(n c n2 c2:Nat):(Value.slice p n c).ownBlock=(Value.slice p n2 c2).ownBlock:=by
 cases p<;>rfl
theorem Je.len{p q:O0}{n c m d:Nat}(h:Je (.slice p n c) (.slice q m d))(n2 c2 m2 d2:Nat):Je (.slice p n2 c2) (.slice q m2 d2):=fun j h1 h2 =>
 h j ((Wt _ _ _ _ _).trans h1) ((Wt _ _ _ _ _).trans h2)
def prC (p:Int×Int):List Value:=[V0 p.1,V0 p.2]
theorem Zdq(p:Int×Int):(prC p).length=2:=rfl
theorem Zb2(l:List (Int×Int)):Hb l=l.flatMap prC:=by
 induction l with
 | nil=>rfl
 | cons x l ih=>simp only[Hb,List.flatMap_cons,prC];rfl
theorem Zch{l:Bl}{way:List Int}{no tree lo hi deep:Int}(h:Xu l way no tree lo hi deep=0):Qq lo hi (Vz l no)=0∧way.length<16:=by
 unfold Xu at h
 by_cases h1:Yt way no=true
 ·rw[if_pos h1] at h;cases h
 rw[if_neg h1] at h
 by_cases h2:16≤way.length
 ·rw[if_pos h2] at h;cases h
 rw[if_neg h2] at h
 by_cases h3:Xn l no tree≠0
 ·rw[if_pos h3] at h;exact absurd h h3
 rw[if_neg h3] at h
 by_cases h4:Qq lo hi (Qo (inB l no) (Zr (inB l no)))≠0
 ·rw[if_pos h4] at h;cases h
 exact⟨Decidable.not_not.1 h4,by omega⟩
theorem Zak(hi:Int)(l:List Int){i:Nat}(h:i<l.length):(Yn hi l).getD i (0,0)=Xr hi l i:=by simp[Yn,h]
theorem sts_sp{w:World}{p:O0}{n c:Nat}{L:List (Int×Int)}(h:Sl w (.slice p n c) n (Hb L))(hL:L.length=n):Sts prC w (.slice p L.length c) L:=by
 subst hL;rw[Zb2] at h;exact h
theorem Bq(hi:Int)(l:List Int):(Yn hi l).length=l.length:=by simp[Yn]
theorem only_le{w w':World}(h:Ze [315,123] w w'):Ze [315,123,3,29] w w':=h.mono fun t ht=>by
 simp only[List.contains_cons,List.contains_nil,Bool.or_eq_false_iff] at ht ⊢
 exact⟨ht.1,ht.2.1,trivial⟩
theorem Zd6{w w':World}(h:Ze [315] w w'):Ze [315,123,3,29] w w':=h.mono fun t ht=>by
 simp only[List.contains_cons,List.contains_nil,Bool.or_eq_false_iff] at ht ⊢
 exact⟨ht.1,trivial⟩
theorem Uz(B bw Bi b:Nat)(pi:O0)(ni ci:Nat)(l:Bl)(tree fuel:Int)(d:Nat)(hV:d≠0→Zdz B bw Bi b pi ni ci l tree fuel d)(way:List Int)(no lo hi:Int)(s:WS)(pe pb pf pw:O0)(ce cb cf cw:Nat)(fv:List Value)(w:World)(hBb:B≤bw)(hBw:B≤w.heap.size)(hwd:way.length+(d+1)=17)(hdry:s.dry=false)(hfu:fuel≤1000000)(hR:WalkR B bw Bi b pi ni ci l tree fuel way s pe pb pf pw ce cb cf cw fv w)(he:(Zn l tree fuel (d+1) way no lo hi s).es.length≤1000000)(hb_:(Zn l tree fuel (d+1) way no lo hi s).bs.length≤1000000)(hf:(Zn l tree fuel (d+1) way no lo hi s).fs.length≤1000000) :
 C0 200 #[P0 bw,V0 no,.agg #[V0 lo,V0 hi]] w (Zdf B bw Bi b pi ni ci l tree fuel way (Zn l tree fuel (d+1) way no lo hi s) w):=by
 obtain⟨kW,e8,f0,e9,f1,e2,d0,hI⟩:=hR
 have y3:=f0
 have y8:=e2
 have aq:=Hy l tree fuel (d+1) way no lo hi s
 have br:=Nat.le_trans aq.2.1 hb_
 refine zin 106 Tryz.func200 ?_
 refine xa 2 [V0 lo,V0 hi] 214 fun b1 W1 n1=>?_
 refine xd 4 .z ?_
 have g3:=(kW.below n1.below).below (Za W1)
 refine xb (.e [0,1,2,3] 4) 3 g3 ?_
 refine xb (.e [5,6,7] 8) 7 g3 ?_
 refine xid (.r [9] 2) ((s.looked:Int)≥fuel) (fun ax=>?_) (fun ax=>?_)
 ·refine xc 5 (args:=#[V0 no,.iface 63 (V0 12)]) (Yj no (some 12) [] _ _ rfl) ?_
  rintro _ W3 ⟨r3,rfl,f7,x1⟩
  rw[Yw] at x1
  obtain⟨t3,x3,rfl⟩:=x1.iface
  have d3:(Zn l tree fuel (d+1) way no lo hi s)={ Yr way [no] 12 s with dry:=true }:=by unfold Zn;rw[if_pos (by omega)]
  have hB:=blB (blB (blB (Below.refl B w) hBw n1.below) hBw (Za W1)) hBw f7
  have v7:=g3.below f7
  have s6:=Zb (Zb (Zb e9 n1.below) (Za W1)) f7
  have h7:=Zb (Zb (Zb e2 n1.below) (Za W1)) f7
  refine xc 0 (args:=#[P0 bw,.iface t3 (x3)]) (Hz B bw _ _ _ _ _ _ _ _ pf _ cf fv pw cw way [no] 12 _ _ _ hBb (Nat.le_trans hBw hB.size) v7 s6 h7 x1 (by omega) (by have:=hf;rw[d3] at this;simp[Yr] at this;omega)) ?_
  rintro _ W4 ⟨u4,v0,u7,t2,x2,rfl,bl,k2,kN,j1,w9⟩
  refine xs 7 kN [.slice pe s.es.length ce,.slice pb s.bs.length cb,V0 s.deep,V0 (s.looked:Int),.slice v0 (s.fs.length+1) u7,P0 b,V0 tree,V0 fuel,.slice pw way.length cw,.bool true] fun W5 u5 k5=>?_
  have z5:=u5.below (hB.trans bl) hBb
  have hO:=((((show Ze [315,123,3,29] w _ from(Ze.of_below n1.below)).trans (Ze.of_below (Za W1))).trans (Ze.of_below f7)).trans (Tc k2)).trans (Ze.of_upd u5 kN (by decide))
  have m7:=u5.own2 (Zf (Zb (Zb (Zb e8 n1.below) (Za W1)) f7) k2 (by decide)) kN (by decide)
  have r5:=u5.own2 (Zf (Zb (Zb (Zb f0 n1.below) (Za W1)) f7) k2 (by decide)) kN (by decide)
  have i6:=u5.own2 j1 kN (by decide)
  have q4:=w9.upd u5 kN (by decide)
  have o3:=((((f1.below n1.below).below (Za W1)).below f7).only k2 (by decide)).only (Ze.of_upd (T:=[315]) u5 kN (by decide)) (by decide)
  have n6:=u5.own2 (Zf h7 k2 (by decide)) kN (by decide)
  have z2:=((((hI.below n1.below).below (Za W1)).below f7).only k2 (by decide)).only (Ze.of_upd (T:=[315]) u5 kN (by decide)) (by decide)
  refine xe 4 (.tuple #[]) ?_
  rw[d3]
  exact⟨_,pe,pb,v0,pw,ce,cb,u7,cw,_,rfl,z5,hO,by simpa [Yr] using k5,m7,r5,by simpa [Yr] using i6,Qr.snoc q4 o3,n6,d0,z2⟩
 have k1:=n1.blk.below (Za W1)
 refine xlv 6 k1.rp ?_
 have hB:=blB (blB (Below.refl B w) hBw n1.below) hBw (Za W1)
 have e1:=Zb (Zb e2 n1.below) (Za W1)
 have f8:=(hI.below n1.below).below (Za W1)
 refine xc 0 (args:=#[P0 bw,V0 no,.agg #[V0 lo,V0 hi]]) ((Sn B Bi b bw pi ni ci l _ _ _ _ _ pw cw way no tree lo hi s.deep (s.looked:Int) _ hBb (Nat.le_trans hBw hB.size) g3 e1 f8 (by omega) (by omega) (by omega)).mono (fun _ _ h=>LookP.or h)) ?_
 rintro e W6 ap
 rcases ap with ⟨hz,a4,b4,k4,n4,c4,v4,m4,d4,ty,x,rfl,z8,c3,w1,bi⟩|⟨hz,kp,kc,vp,vc,rfl,z8,c3,w1,hk,u3⟩
 ·refine xa 3 [V0 0,.bool false,S0,S0] 173 fun b7 W7 n7=>?_
  have q6:=hB.trans z8
  have g7:=n7.ge0 q6
  refine xsv 0 n7.blk [V0 a4,.bool b4,.slice k4 n4 c4,.slice v4 m4 d4] fun W8 u8 k8=>?_
  have d3:(Zn l tree fuel (d+1) way no lo hi s)=Yr way [no] (Xu l way no tree lo hi s.deep) { s with looked:=s.looked+1 }:=by unfold Zn;rw[if_neg (by omega),if_pos hz]
  have p4:=u8.below (blB q6 hBw n7.below) (Nat.le_trans hBw g7)
  have m6:=u8.blkT (w1.below n7.below) n7.blk (by decide)
  have l4:=u8.own2 (Zb (Zf (Zb (Zb e9 n1.below) (Za W1)) c3 (by decide)) n7.below) n7.blk (by decide)
  have h4:=u8.own2 (Zb (Zf e1 c3 (by decide)) n7.below) n7.blk (by decide)
  have r2:=(bi.below n7.below).upd u8 n7.blk (by decide)
  refine xc 15 (args:=#[P0 bw,.iface ty (x)]) (Hz B bw _ _ _ _ _ _ _ _ pf _ cf fv pw cw way [no] (Xu l way no tree lo hi s.deep) _ _ _ hBb (Nat.le_trans hBw p4.size) m6 l4 h4 r2 (by omega) (by have:=hf;rw[d3] at this;simp[Yr] at this;omega)) ?_
  rintro _ W9 ⟨u9,v0,u7,t2,x2,rfl,az,k7,kN,j1,w9⟩
  have w0:=p4.trans az
  have hO:=(Ze.upd_new ((((show Ze [315,123,3,29] w _ from(Ze.of_below n1.below)).trans (Ze.of_below (Za W1))).trans (Zd6 c3)).trans (Ze.of_below n7.below)) u8 g7).trans (Tc k7)
  have p3:=Zf (u8.own2 (Zb (Zf (Zb (Zb e8 n1.below) (Za W1)) c3 (by decide)) n7.below) n7.blk (by decide)) k7 (by decide)
  have s3:=Zf (u8.own2 (Zb (Zf (Zb (Zb f0 n1.below) (Za W1)) c3 (by decide)) n7.below) n7.blk (by decide)) k7 (by decide)
  have r0:=(((((f1.below n1.below).below (Za W1)).only c3 (by decide)).below n7.below).only (Ze.of_upd (T:=[173]) u8 n7.blk (by decide)) (by decide)).only k7 (by decide)
  have r9:=Zf h4 k7 (by decide)
  have z3:=(((f8.only c3 (by decide)).below n7.below).only (Ze.of_upd (T:=[173]) u8 n7.blk (by decide)) (by decide)).only k7 (by decide)
  refine xe 4 (.tuple #[]) ?_
  rw[d3]
  exact⟨_,pe,pb,v0,pw,ce,cb,u7,cw,_,rfl,w0,hO,by simpa [Yr] using kN,p3,s3,by simpa [Yr] using j1,Qr.snoc w9 r0,r9,d0,z3⟩
 have y5:=(blB (blB (Below.refl B w) hBw n1.below) hBw (Za W1)).size
 have i7:=Zh hk y5
 have j2:=Je.of_lt y3 i7 (Nat.le_refl _)
 have j8:=Je.of_lt y8 i7 (Nat.le_refl _)
 refine xa 3 [V0 0,.bool false,S0,S0] 173 fun ai bx a9=>?_
 have q0:=hB.trans z8
 have v9:=a9.ge0 q0
 refine xsv 0 a9.blk [V0 (Yo (inB l no)),.bool (Xp (inB l no)),.slice kp (Zr (inB l no)) kc,.slice vp (Zr (inB l no)) vc] fun bo c8 bh=>?_
 have h0:=c8.blkT (w1.below a9.below) a9.blk (by decide)
 refine xb 20 1 h0 ?_
 refine xbs 1 1 [V0 no] 3 fun bf ca b8=>?_
 have o6:=c8.below (blB q0 hBw a9.below) (Nat.le_trans hBw v9)
 have ch:=b8.ge0 o6
 have h9:=c8.own2 (Zb (Zf (Zb (Zb f0 n1.below) (Za W1)) c3 (by decide)) a9.below) a9.blk (by decide)
 have u6:=Zz h9 b8
 have g6:=c8.own2 (Zb (Zf e1 c3 (by decide)) a9.below) a9.blk (by decide)
 have v2:=Zz g6 b8
 have l5:=c8.own2 (Zb i7 a9.below) a9.blk (by decide)
 have z4:=Zz l5 b8
 have a1:=Zb h9 b8.below
 have j7:=blB o6 hBw b8.below
 refine xbi 0 fun _ _ _ _ zJ zQ zo zx zy zK=>Ep (b:=bf) (c:=1) (m:=1) (news:=[V0 no]) (V0 0) 1 8 ((s.bs++[no]).length) (((s.bs++[no]).map V0)) zo Tryz.underlying33 (by kernel_rfl) rfl (by decide) zx a1 zy b8.blk rfl (by simp[Value.oneCell']) (by unfold maxLen;omega) (by omega) (Nat.le_trans hBw j7.size) (by simp) (by simp) fun s4 s0 bn af a8 t5 m2=>?_
 have h8:=Zb g6 b8.below
 have g0:=d0.row h8 a8
 replace d0:=(d0.grow h8 m2)
 have q1:=Zb l5 b8.below
 have j3:=j2.row q1 a8
 replace j2:=(j2.grow q1 m2)
 have e4:=g0
 have h3:=j3
 refine zK _ _ ?_
 have a0:=(h0.below b8.below).grown a8 a1 (by decide)
 refine xs 3 a0 [.slice pe s.es.length ce,.slice s4 ((s.bs++[no]).length) s0,V0 s.deep,V0 ((s.looked:Int)+1),.slice pf s.fs.length cf,P0 b,V0 tree,V0 fuel,.slice pw way.length cw,.bool s.dry] fun cg c2 w5=>?_
 have e5:=c2.blkT ((bh.below b8.below).grown a8 a1 (by decide)) a0 (by decide)
 refine xb 6 1 e5 ?_
 refine xi 2 (Xp (inB l no)) (fun x4=>?_) (fun x4=>?_)
 ·refine xlv 4 e5.rp ?_
  have d3:(Zn l tree fuel (d+1) way no lo hi s)={ s with looked:=s.looked+1,bs:=s.bs++[no],deep:=((way.length+1:Nat):Int),es:=s.es++Kq (Vz l no) (Ci l no) no (Zr (inB l no)) }:=by unfold Zn;rw[if_neg (by omega),if_neg (by omega),if_pos (by assumption)]
  have l7:=c2.below (j7.trans t5) hBb
  have q7:=c2.own2 (Zp (Zb (c8.own2 (Zb (Zf (Zb (Zb e8 n1.below) (Za W1)) c3 (by decide)) a9.below) a9.blk (by decide)) b8.below) a8 a1 (by decide)) a0 (by decide)
  have z6:=c2.own2 h3 a0 (by decide)
  have s2:=c2.own2 (Zp (Zb (c8.own2 (Zb (Zh u3 y5) a9.below) a9.blk (by decide)) b8.below) a8 a1 (by decide)) a0 (by decide)
  refine xc 0 (args:=#[P0 bw,V0 no,.agg #[V0 (Yo (inB l no)),.bool (Xp (inB l no)),.slice kp (Zr (inB l no)) kc,.slice vp (Zr (inB l no)) vc]]) (Sf B bw _ _ _ _ _ _ _ _ pe ce s.es pw cw way no _ _ kp vp _ kc vc (Vz l no) (Ci l no) _ hBb (Nat.le_trans hBw l7.size) w5 q7 (fun W _ q=>Zi (Zf z6 q (by decide))) (fun W _ q=>Zi (Zf s2 q (by decide))) (by simp[Vz,Qo]) (by simp[Ci,Kw]) (by omega) (by have:=he;rw[d3] at this;simp[Uc] at this;omega)) ?_
  rintro _ bu ⟨bp,ao,bd,rfl,x7,d8,kE,aw⟩
  have z9:=l7.trans x7
  have hO:=((((Ze.upd_new ((((show Ze [315,123,3,29] w _ from(Ze.of_below n1.below)).trans (Ze.of_below (Za W1))).trans (Zd6 c3)).trans (Ze.of_below a9.below)) c8 v9).trans (Ze.of_below b8.below)).trans (Ze.of_grown a8 a1 (by decide))).trans (Ze.of_upd c2 a0 (by decide))).trans (only_le d8)
  have s8:=Zf (c2.own2 af a0 (by decide)) d8 (by decide)
  have l9:=Zf (c2.own2 (Zp (Zb (c8.own2 (Zb (Zf (Zb (Zb e9 n1.below) (Za W1)) c3 (by decide)) a9.below) a9.blk (by decide)) b8.below) a8 a1 (by decide)) a0 (by decide)) d8 (by decide)
  have t1:=((((((((f1.below n1.below).below (Za W1)).only c3 (by decide)).below a9.below).only (Ze.of_upd (T:=[173]) c8 a9.blk (by decide)) (by decide)).below b8.below).only (Ze.of_grown (T:=[3]) a8 a1 (by decide)) (by decide)).only (Ze.of_upd (T:=[315]) c2 a0 (by decide)) (by decide)).only d8 (by decide)
  have q2:=Zf (c2.own2 e4 a0 (by decide)) d8 (by decide)
  have y6:=((((((f8.only c3 (by decide)).below a9.below).only (Ze.of_upd (T:=[173]) c8 a9.blk (by decide)) (by decide)).below b8.below).only (Ze.of_grown (T:=[3]) a8 a1 (by decide)) (by decide)).only (Ze.of_upd (T:=[315]) c2 a0 (by decide)) (by decide)).only d8 (by decide)
  refine xe 4 (.tuple #[]) ?_
  rw[d3]
  exact⟨_,ao,_,pf,pw,bd,_,cf,cw,fv,rfl,z9,hO,by simpa [Uc] using kE,by simpa [Uc] using aw,by simpa using s8,l9,t1,q2,by simpa using d0,y6⟩
 refine xb 8 8 w5 ?_
 refine xbs 1 1 [V0 no] 3 fun bm cc c7=>?_
 have i0:=c2.below (j7.trans t5) hBb
 have cd:=c7.ge0 i0
 have h1:=c2.own2 e4 a0 (by decide)
 have u2:=Zz h1 c7
 have t0:=c2.own2 h3 a0 (by decide)
 have y1:=Zz t0 c7
 have h5:=c2.own2 af a0 (by decide)
 have u0:=Zz h5 c7
 have a2:=Zb h1 c7.below
 have g8:=blB i0 hBw c7.below
 refine xbi 0 fun _ _ _ _ zJ zQ zo zx zy zK=>Ep (b:=bm) (c:=1) (m:=1) (news:=[V0 no]) (V0 0) 1 8 ((way++[no]).length) (((way++[no]).map V0)) zo Tryz.underlying33 (by kernel_rfl) rfl (by decide) zx a2 zy c7.blk rfl (by simp[Value.oneCell']) (by unfold maxLen;omega) (by omega) (Nat.le_trans hBw g8.size) (by simp) (by simp) fun z1 z0 ck ba b9 x5 m8=>?_
 have g9:=Zb h5 c7.below
 have g1:=d0.symm.row g9 b9
 replace d0:=(d0.symm.grow g9 m8).symm
 have l6:=Zb t0 c7.below
 have i8:=j8.row l6 b9
 replace j8:=(j8.grow l6 m8)
 have i3:=g1
 have m0:=i8
 refine zK _ _ ?_
 have a3:=(w5.below c7.below).grown b9 a2 (by decide)
 refine xs 2 a3 [.slice pe s.es.length ce,.slice s4 ((s.bs++[no]).length) s0,V0 s.deep,V0 ((s.looked:Int)+1),.slice pf s.fs.length cf,P0 b,V0 tree,V0 fuel,.slice z1 ((way++[no]).length) z0,.bool s.dry] fun cn e0 au=>?_
 have n8:=e0.blkT (((c2.blkT (((c8.blkT ((k1.only c3 (by decide)).below a9.below) a9.blk (by decide)).below b8.below).grown a8 a1 (by decide)) a0 (by decide)).below c7.below).grown b9 a2 (by decide)) a3 (by decide)
 refine xlv 5 n8.rp ?_
 have h2:=e0.blkT ((e5.below c7.below).grown b9 a2 (by decide)) a3 (by decide)
 refine xb 1 2 h2 ?_
 have h6:=e0.below (g8.trans x5) hBb
 have z7:=h6.size
 obtain⟨y9,av⟩:=Zch hz
 have n2:(Vz l no).length=Zr (inB l no):=by simp[Vz,Qo]
 have cj:Zr (inB l no)<65536:=Co _ 2 2
 have w6:=e0.own2 m0 a3 (by decide)
 refine xc 0 (args:=#[.agg #[V0 lo,V0 hi],.slice kp (Zr (inB l no)) kc]) (Ro lo hi _ (Vz l no) _ (by rw[n2];omega) (Ct (Zi w6) n2)) ?_
 rintro _ bc ⟨bz,rfl,b5,_,y2⟩
 obtain⟨gs,rfl,bk,kS⟩:=y2 y9
 rw[n2]
 have l0:=Qh (size:=2) (n:=Zr (inB l no)) kS (Nat.le_trans z7 bk) (by rw[Wr,Bq,n2]) (by unfold maxLen;omega)
 have d3:(Zn l tree fuel (d+1) way no lo hi s)=(Xx (Zn l tree fuel d) l way no hi (Zr (inB l no)) { s with looked:=s.looked+1,bs:=s.bs++[no] }):=by unfold Zn;rw[if_neg (by omega),if_neg (by omega),if_neg (by simp;assumption)]
 have t4:(Yn hi (Vz l no)).length=(Zr (inB l no)):=by rw[Bq,n2]
 have ac:(Ci l no).length=(Zr (inB l no)):=by simp[Ci,Kw]
 have s5:=au.below b5
 have n3:=Zb (e0.own2 (Zp (Zb (c2.own2 (Zp (Zb (c8.own2 (Zb (Zf (Zb (Zb e8 n1.below) (Za W1)) c3 (by decide)) a9.below) a9.blk (by decide)) b8.below) a8 a1 (by decide)) a0 (by decide)) c7.below) b9 a2 (by decide)) a3 (by decide)) b5
 have r1:=Zb (e0.own2 i3 a3 (by decide)) b5
 have o8:=Zb (e0.own2 (Zp (Zb (c2.own2 (Zp (Zb (c8.own2 (Zb (Zf (Zb (Zb e9 n1.below) (Za W1)) c3 (by decide)) a9.below) a9.blk (by decide)) b8.below) a8 a1 (by decide)) a0 (by decide)) c7.below) b9 a2 (by decide)) a3 (by decide)) b5
 have r7:=(((((((((((f1.below n1.below).below (Za W1)).only c3 (by decide)).below a9.below).only (Ze.of_upd (T:=[173]) c8 a9.blk (by decide)) (by decide)).below b8.below).only (Ze.of_grown (T:=[3]) a8 a1 (by decide)) (by decide)).only (Ze.of_upd (T:=[315]) c2 a0 (by decide)) (by decide)).below c7.below).only (Ze.of_grown (T:=[3]) b9 a2 (by decide)) (by decide)).only (Ze.of_upd (T:=[315]) e0 a3 (by decide)) (by decide)).below b5
 have o0:=Zb (e0.own2 ba a3 (by decide)) b5
 have x9:=(((((((((f8.only c3 (by decide)).below a9.below).only (Ze.of_upd (T:=[173]) c8 a9.blk (by decide)) (by decide)).below b8.below).only (Ze.of_grown (T:=[3]) a8 a1 (by decide)) (by decide)).only (Ze.of_upd (T:=[315]) c2 a0 (by decide)) (by decide)).below c7.below).only (Ze.of_grown (T:=[3]) b9 a2 (by decide)) (by decide)).only (Ze.of_upd (T:=[315]) e0 a3 (by decide)) (by decide)).below b5
 have hR:WalkR B bw Bi b pi ni ci l tree fuel (way++[no]) (Xx (Zn l tree fuel d) l way no hi 0 { s with looked:=s.looked+1,bs:=s.bs++[no] }) pe _ pf _ ce _ cf _ fv bc:=⟨s5,n3,r1,o8,r7,o0,d0,x9⟩
 have p1:=Zb (e0.own2 (Zp (Zb (c2.own2 (Zp (Zb (c8.own2 (Zb (Zh u3 y5) a9.below) a9.blk (by decide)) b8.below) a8 a1 (by decide)) a0 (by decide)) c7.below) b9 a2 (by decide)) a3 (by decide)) b5
 have q8:=blB h6 hBw b5
 have hO:=(((((((Ze.upd_new ((((show Ze [315,123,3,29] w _ from(Ze.of_below n1.below)).trans (Ze.of_below (Za W1))).trans (Zd6 c3)).trans (Ze.of_below a9.below)) c8 v9).trans (Ze.of_below b8.below)).trans (Ze.of_grown a8 a1 (by decide))).trans (Ze.of_upd c2 a0 (by decide))).trans (Ze.of_below c7.below)).trans (Ze.of_grown b9 a2 (by decide))).trans (Ze.of_upd e0 a3 (by decide))).trans (Ze.of_below b5)
 have w2:=n8.below b5
 have p5:=h2.below b5
 refine zl 5 106 (fun zm bg V=>∃ (i:Nat) (j6 j4 i2 f3:O0) (j9 j0 j5 f6:Nat) (s7:List Value),bg=[(0,P0 bw),(1,V0 no),(6,P0 ai),(71,.slice (S1 gs) (Zr (inB l no)) (Zr (inB l no))),(72,V0 (↑(Zr (inB l no)):Int)),(73,V0 (i:Int))]∧zm=(Zr (inB l no))-((i:Int)).toNat∧Below B w V∧Ze [315,123,3,29] w V∧Blk V b1 ([V0 lo,V0 hi]) 214∧Blk V ai ([V0 (Yo (inB l no)),.bool (Xp (inB l no)),.slice kp (Zr (inB l no)) kc,.slice vp (Zr (inB l no)) vc]) 173∧WalkR B bw Bi b pi ni ci l tree fuel (way++[no]) (Xx (Zn l tree fuel d) l way no hi i { s with looked:=s.looked+1,bs:=s.bs++[no] }) j6 j4 i2 f3 j9 j0 j5 f6 s7 V∧V.ownsRow w.heap.size 9 1 (.slice vp (Zr (inB l no)) vc) (Zr (inB l no)) ((Ci l no).map sv)∧V.ownsRow w.heap.size 214 2 (.slice (S1 gs) (Zr (inB l no)) (Zr (inB l no))) (Zr (inB l no)) (Hb (Yn hi (Vz l no)))∧i≤(Zr (inB l no))∧(Xx (Zn l tree fuel d) l way no hi i { s with looked:=s.looked+1,bs:=s.bs++[no] }).dry=false) ⟨0,_,_,_,_,_,_,_,_,_,rfl,rfl,q8,hO,w2,p5,hR,p1,l0,Nat.zero_le _,hdry⟩ ?_
 rintro _ _ c0 ⟨i,j6,j4,i2,f3,j9,j0,j5,f6,s7,rfl,rfl,d5,c9,b3,c6,hR,u3,l0,bq,ad⟩ bt aa ct
 have i5:=hR.blk
 refine xid 6 ((i:Int)<(↑(Zr (inB l no)):Int)) (fun y0=>?_) (fun y0=>?_)
 ·refine xx 7 _ (Zr (inB l no)) i 2 (Sts.cell (sts_sp (Zi l0) t4) Zdq (0,0) (k:=i) (i:=0) (show i<(Yn hi (Vz l no)).length by omega) rfl).1 ?_
  refine xlv 0 (Sts.rp (k:=i) (sts_sp (Zi l0) t4) Zdq (0,0) (by omega) (by decide)) ?_
  refine xa 0 [V0 0,V0 0] 214 fun cq cm c5=>?_
  have d1:=c5.ne b3
  have v3:=c5.ge0 d5
  have g5:=Zz l0 c5
  refine xsv 1 c5.blk [V0 (((Yn hi (Vz l no)).getD i (0,0)).1),V0 (((Yn hi (Vz l no)).getD i (0,0)).2)] fun d7 d9 ar=>?_
  refine xd 3 (.t B [315,123,3,29]) ?_
  have b2:=(d9.blkT (c6.below c5.below) c5.blk (by decide)).below (Za d7)
  refine xbt (.e [0,1,2] 3) 3 B [315,123,3,29] b2 ?_
  have e6:=Zb (d9.own2 (Zb u3 c5.below) c5.blk (by decide)) (Za d7)
  refine xx (.e [4] 5) _ (Zr (inB l no)) i 1 (Strs.elem (Zi e6) ac (k:=i) (by omega)).1 ?_
  refine xlt (.e [] 6) (.t B [315,123,3,29]) (fun V hV=>(Strs.elem (Zi (Zf e6 hV.2 (by decide))) ac (k:=i) (by omega)).2) ?_
  have q5:=ar.below (Za d7)
  refine xlvt (.e [] 7) (.t B [315,123,3,29]) (fun V hV=>(q5.only hV.2 (by decide)).rp) ?_
  have bj:=Zak hi (Vz l no) (i:=i) (by omega)
  have f5:Vh (Zn l tree fuel d) way no ((Ci l no).getD i []) (((Yn hi (Vz l no)).getD i (0,0)).1,((Yn hi (Vz l no)).getD i (0,0)).2) (Xx (Zn l tree fuel d) l way no hi i { s with looked:=s.looked+1,bs:=s.bs++[no] })=(Xx (Zn l tree fuel d) l way no hi (i+1) { s with looked:=s.looked+1,bs:=s.bs++[no] }):=by rw[Hj];unfold Wi;rw[if_neg (by rw[ad];decide),bj]
  have v8:=Bv (Hy l tree fuel d) l way no hi { s with looked:=s.looked+1,bs:=s.bs++[no] } (show i+1≤(Zr (inB l no)) by omega)
  rw[d3] at he hb_ hf
  have d2:=blB (d9.below (blB d5 hBw c5.below) (Nat.le_trans hBw v3)) hBw (Za d7)
  have x8:=((hR.below c5.below).only (Ze.of_upd (T:=[214]) d9 c5.blk (by decide)) (by decide)).below (Za d7)
  refine yc (.o [] 8) (args:=#[P0 bw,V0 no,.string ⟨((Ci l no).getD i []).toArray⟩,.agg #[V0 (((Yn hi (Vz l no)).getD i (0,0)).1),V0 (((Yn hi (Vz l no)).getD i (0,0)).2)]]) (.t B [315,123,3,29]) (Fe B bw Bi b pi ni ci l tree fuel d (hV (by omega)) way no _ _ ((Ci l no).getD i []) _ j6 j4 i2 f3 j9 j0 j5 f6 s7 _ hBb (Nat.le_trans hBw d2.size) (by omega) ad (Na _ _ _) x8 (by rw[f5];exact Nat.le_trans v8.1 he) (by rw[f5];exact Nat.le_trans v8.2.1 hb_) (by rw[f5];exact Nat.le_trans v8.2.2 hf)) ?_
  rintro _ c1 ⟨co,v1,t8,v6,l2,u1,t9,v5,k3,aj,rfl,f4,b6,t7⟩
  have ak:=(d9.blkT (i5.below c5.below) c5.blk (by decide)).below (Za d7)
  refine⟨(Xo f4 b6),?_⟩
  rw[f5] at t7
  have i5:=t7.blk
  refine xb 7 9 i5 ?_
  refine xi 2 ((Xx (Zn l tree fuel d) l way no hi (i+1) { s with looked:=s.looked+1,bs:=s.bs++[no] }).dry) (fun l8=>?_) (fun l8=>?_)
  ·obtain⟨_,e8,f0,e9,f1,e2,d0,hI⟩:=t7
   have bb:=(Pp e2 (by simp)).2
   have ay:(way++[no]).length=way.length+1:=by simp
   have e3:(Xx (Zn l tree fuel d) l way no hi (Zr (inB l no)) { s with looked:=s.looked+1,bs:=s.bs++[no] })=(Xx (Zn l tree fuel d) l way no hi (i+1) { s with looked:=s.looked+1,bs:=s.bs++[no] }):=Zd2 _ _ _ _ _ _ (by omega) l8
   refine xd 6 (.t B [315]) ?_
   refine xm2 (.b [0,1,2,3,5,6,7]) 4 8 ?_ ?_
   ·have a5:=i5.below (Za c1)
    refine xb 0 8 a5 ?_
    refine xb (.o [] 8) 8 a5 ?_
    refine xwm (.e [9] 10) ((↑((way++[no]).length):Int)-1) (↑(((way++[no]).length)-1):Int) ?_
    refine xsH (.e [] 11) (fun _ _ _ _ zo zx zy V=>Qt (k:=(((way++[no]).length)-1)) (b:=l2) (n:=(way++[no]).length) (c:=k3) (i:=(↑(((way++[no]).length)-1):Int)) (ki:=.i64) zo zx zy rfl (by omega) Tryz.underlying33 (by kernel_rfl) V) ?_
    refine ys (.o [12,13] 14) a5 [.slice v1 ((Xx (Zn l tree fuel d) l way no hi (i+1) { s with looked:=s.looked+1,bs:=s.bs++[no] }).es.length) u1,.slice t8 ((Xx (Zn l tree fuel d) l way no hi (i+1) { s with looked:=s.looked+1,bs:=s.bs++[no] }).bs.length) t9,V0 (Xx (Zn l tree fuel d) l way no hi (i+1) { s with looked:=s.looked+1,bs:=s.bs++[no] }).deep,V0 ((Xx (Zn l tree fuel d) l way no hi (i+1) { s with looked:=s.looked+1,bs:=s.bs++[no] }).looked:Int),.slice v6 ((Xx (Zn l tree fuel d) l way no hi (i+1) { s with looked:=s.looked+1,bs:=s.bs++[no] }).fs.length) v5,P0 b,V0 tree,V0 fuel,.slice l2 (((way++[no]).length)-1) k3,.bool ((Xx (Zn l tree fuel d) l way no hi (i+1) { s with looked:=s.looked+1,bs:=s.bs++[no] }).dry)] (.t B [315]) fun cs g4 al=>⟨(Zt g4 a5 hBb (by decide)),?_⟩
    have p8:=(((d9.blk (b3.below c5.below) (Ne.symm (Ne.symm d1))).below (Za d7)).only b6 (by decide)).below (Za c1)
    have k9:=(b2.only b6 (by decide)).below (Za c1)
    have m1:=g4.below (blB (d2.trans f4) hBw (Za c1)) hBb
    have w7:=((((Ze.upd_new (c9.trans (Ze.of_below c5.below)) d9 v3).trans (Ze.of_below (Za d7))).trans b6).trans (Ze.of_below (Za c1))).trans (Ze.of_upd g4 a5 (by decide))
    have p2:=g4.own2 (Zb e8 (Za c1)) a5 (by decide)
    have s1:=g4.own2 (Zb f0 (Za c1)) a5 (by decide)
    have n0:=g4.own2 (Zb e9 (Za c1)) a5 (by decide)
    have m9:=(f1.below (Za c1)).only (Ze.of_upd (T:=[315]) g4 a5 (by decide)) (by decide)
    have i1:=g4.own2 (Zb e2 (Za c1)) a5 (by decide)
    have ab:=(hI.below (Za c1)).only (Ze.of_upd (T:=[315]) g4 a5 (by decide)) (by decide)
    refine xe 1 (.tuple #[]) ?_
    rw[d3,e3]
    rw[show(way++[no]).length-1=way.length by simp] at al
    exact⟨_,v1,t8,v6,l2,u1,t9,v5,k3,aj,rfl,m1,w7,al,p2,s1,n0,m9,Pr i1,d0.len _ _ _ _,ab⟩
   have b0:=i5.below (Za c1)
   refine xb 0 8 b0 ?_
   refine xwm (.e [9] 10) ((↑((way++[no]).length):Int)-1) (↑(((way++[no]).length)-1):Int) ?_
   refine xb (.o [] 4) 8 b0 ?_
   refine xsH (.e [] 11) (fun _ _ _ _ zo zx zy V=>Qt (k:=(((way++[no]).length)-1)) (b:=l2) (n:=(way++[no]).length) (c:=k3) (i:=(↑(((way++[no]).length)-1):Int)) (ki:=.i64) zo zx zy rfl (by omega) Tryz.underlying33 (by kernel_rfl) V) ?_
   refine ys (.o [12,13] 14) b0 [.slice v1 ((Xx (Zn l tree fuel d) l way no hi (i+1) { s with looked:=s.looked+1,bs:=s.bs++[no] }).es.length) u1,.slice t8 ((Xx (Zn l tree fuel d) l way no hi (i+1) { s with looked:=s.looked+1,bs:=s.bs++[no] }).bs.length) t9,V0 (Xx (Zn l tree fuel d) l way no hi (i+1) { s with looked:=s.looked+1,bs:=s.bs++[no] }).deep,V0 ((Xx (Zn l tree fuel d) l way no hi (i+1) { s with looked:=s.looked+1,bs:=s.bs++[no] }).looked:Int),.slice v6 ((Xx (Zn l tree fuel d) l way no hi (i+1) { s with looked:=s.looked+1,bs:=s.bs++[no] }).fs.length) v5,P0 b,V0 tree,V0 fuel,.slice l2 (((way++[no]).length)-1) k3,.bool ((Xx (Zn l tree fuel d) l way no hi (i+1) { s with looked:=s.looked+1,bs:=s.bs++[no] }).dry)] (.t B [315]) fun cr f9 ah=>⟨(Zt f9 b0 hBb (by decide)),?_⟩
   have s9:=(((d9.blk (b3.below c5.below) (Ne.symm (Ne.symm d1))).below (Za d7)).only b6 (by decide)).below (Za c1)
   have l1:=(b2.only b6 (by decide)).below (Za c1)
   have o7:=f9.below (blB (d2.trans f4) hBw (Za c1)) hBb
   have x0:=((((Ze.upd_new (c9.trans (Ze.of_below c5.below)) d9 v3).trans (Ze.of_below (Za d7))).trans b6).trans (Ze.of_below (Za c1))).trans (Ze.of_upd f9 b0 (by decide))
   have q3:=f9.own2 (Zb e8 (Za c1)) b0 (by decide)
   have o4:=f9.own2 (Zb f0 (Za c1)) b0 (by decide)
   have p9:=f9.own2 (Zb e9 (Za c1)) b0 (by decide)
   have p7:=(f1.below (Za c1)).only (Ze.of_upd (T:=[315]) f9 b0 (by decide)) (by decide)
   have k0:=f9.own2 (Zb e2 (Za c1)) b0 (by decide)
   have y7:=(hI.below (Za c1)).only (Ze.of_upd (T:=[315]) f9 b0 (by decide)) (by decide)
   refine xe 1 (.tuple #[]) ?_
   rw[d3,e3]
   rw[show(way++[no]).length-1=way.length by simp] at ah
   exact⟨_,v1,t8,v6,l2,u1,t9,v5,k3,aj,rfl,o7,x0,ah,q3,o4,p9,p7,Pr k0,d0.len _ _ _ _,y7⟩
  refine xwm 4 ((i:Int)+1) (↑(i+1):Int) ?_
  have o1:=d2.trans f4
  have w4:=((Ze.upd_new (c9.trans (Ze.of_below c5.below)) d9 v3).trans (Ze.of_below (Za d7))).trans b6
  have e7:=((d9.blk (b3.below c5.below) (Ne.symm (Ne.symm d1))).below (Za d7)).only b6 (by decide)
  have d6:=b2.only b6 (by decide)
  have m3:=Zf e6 b6 (by decide)
  have n5:=Zf (Zb (d9.own3 (Zb l0 c5.below) g5) (Za d7)) b6 (by decide)
  exact ze 2 (aa _ _ _ ⟨i+1,_,_,_,_,_,_,_,_,_,rfl,rfl,o1,w4,e7,d6,t7,m3,n5,by omega,by assumption⟩ (by omega))
 obtain⟨_,e8,f0,e9,f1,e2,d0,hI⟩:=hR
 have bb:=(Pp e2 (by simp)).2
 have ay:(way++[no]).length=way.length+1:=by simp
 have e3:(Xx (Zn l tree fuel d) l way no hi (Zr (inB l no)) { s with looked:=s.looked+1,bs:=s.bs++[no] })=(Xx (Zn l tree fuel d) l way no hi i { s with looked:=s.looked+1,bs:=s.bs++[no] }):=by rw[show i=(Zr (inB l no)) by omega]
 refine xd 5 (.t B [315]) ?_
 refine xm2 (.b [0,1,2,3,5,6,7]) 4 8 ?_ ?_
 ·have a6:=i5.below (Za c0)
  refine xb 0 8 a6 ?_
  refine xb (.o [] 8) 8 a6 ?_
  refine xwm (.e [9] 10) ((↑((way++[no]).length):Int)-1) (↑(((way++[no]).length)-1):Int) ?_
  refine xsH (.e [] 11) (fun _ _ _ _ zo zx zy V=>Qt (k:=(((way++[no]).length)-1)) (b:=f3) (n:=(way++[no]).length) (c:=f6) (i:=(↑(((way++[no]).length)-1):Int)) (ki:=.i64) zo zx zy rfl (by omega) Tryz.underlying33 (by kernel_rfl) V) ?_
  refine ys (.o [12,13] 14) a6 [.slice j6 ((Xx (Zn l tree fuel d) l way no hi i { s with looked:=s.looked+1,bs:=s.bs++[no] }).es.length) j9,.slice j4 ((Xx (Zn l tree fuel d) l way no hi i { s with looked:=s.looked+1,bs:=s.bs++[no] }).bs.length) j0,V0 (Xx (Zn l tree fuel d) l way no hi i { s with looked:=s.looked+1,bs:=s.bs++[no] }).deep,V0 ((Xx (Zn l tree fuel d) l way no hi i { s with looked:=s.looked+1,bs:=s.bs++[no] }).looked:Int),.slice i2 ((Xx (Zn l tree fuel d) l way no hi i { s with looked:=s.looked+1,bs:=s.bs++[no] }).fs.length) j5,P0 b,V0 tree,V0 fuel,.slice f3 (((way++[no]).length)-1) f6,.bool ((Xx (Zn l tree fuel d) l way no hi i { s with looked:=s.looked+1,bs:=s.bs++[no] }).dry)] (.t B [315]) fun cl f2 ae=>⟨(Zt f2 a6 hBb (by decide)),?_⟩
  have q9:=b3.below (Za c0)
  have k6:=c6.below (Za c0)
  have r8:=f2.below (blB d5 hBw (Za c0)) hBb
  have w3:=(c9.trans (Ze.of_below (Za c0))).trans (Ze.of_upd f2 a6 (by decide))
  have t6:=f2.own2 (Zb e8 (Za c0)) a6 (by decide)
  have p6:=f2.own2 (Zb f0 (Za c0)) a6 (by decide)
  have m5:=f2.own2 (Zb e9 (Za c0)) a6 (by decide)
  have r6:=(f1.below (Za c0)).only (Ze.of_upd (T:=[315]) f2 a6 (by decide)) (by decide)
  have i4:=f2.own2 (Zb e2 (Za c0)) a6 (by decide)
  have x6:=(hI.below (Za c0)).only (Ze.of_upd (T:=[315]) f2 a6 (by decide)) (by decide)
  refine xe 1 (.tuple #[]) ?_
  rw[d3,e3]
  rw[show(way++[no]).length-1=way.length by simp] at ae
  exact⟨_,j6,j4,i2,f3,j9,j0,j5,f6,s7,rfl,r8,w3,ae,t6,p6,m5,r6,Pr i4,d0.len _ _ _ _,x6⟩
 have a7:=i5.below (Za c0)
 refine xb 0 8 a7 ?_
 refine xwm (.e [9] 10) ((↑((way++[no]).length):Int)-1) (↑(((way++[no]).length)-1):Int) ?_
 refine xb (.o [] 4) 8 a7 ?_
 refine xsH (.e [] 11) (fun _ _ _ _ zo zx zy V=>Qt (k:=(((way++[no]).length)-1)) (b:=f3) (n:=(way++[no]).length) (c:=f6) (i:=(↑(((way++[no]).length)-1):Int)) (ki:=.i64) zo zx zy rfl (by omega) Tryz.underlying33 (by kernel_rfl) V) ?_
 refine ys (.o [12,13] 14) a7 [.slice j6 ((Xx (Zn l tree fuel d) l way no hi i { s with looked:=s.looked+1,bs:=s.bs++[no] }).es.length) j9,.slice j4 ((Xx (Zn l tree fuel d) l way no hi i { s with looked:=s.looked+1,bs:=s.bs++[no] }).bs.length) j0,V0 (Xx (Zn l tree fuel d) l way no hi i { s with looked:=s.looked+1,bs:=s.bs++[no] }).deep,V0 ((Xx (Zn l tree fuel d) l way no hi i { s with looked:=s.looked+1,bs:=s.bs++[no] }).looked:Int),.slice i2 ((Xx (Zn l tree fuel d) l way no hi i { s with looked:=s.looked+1,bs:=s.bs++[no] }).fs.length) j5,P0 b,V0 tree,V0 fuel,.slice f3 (((way++[no]).length)-1) f6,.bool ((Xx (Zn l tree fuel d) l way no hi i { s with looked:=s.looked+1,bs:=s.bs++[no] }).dry)] (.t B [315]) fun cp g2 ag=>⟨(Zt g2 a7 hBb (by decide)),?_⟩
 have o2:=b3.below (Za c0)
 have l3:=c6.below (Za c0)
 have r4:=g2.below (blB d5 hBw (Za c0)) hBb
 have w8:=(c9.trans (Ze.of_below (Za c0))).trans (Ze.of_upd g2 a7 (by decide))
 have o9:=g2.own2 (Zb e8 (Za c0)) a7 (by decide)
 have o5:=g2.own2 (Zb f0 (Za c0)) a7 (by decide)
 have p0:=g2.own2 (Zb e9 (Za c0)) a7 (by decide)
 have n9:=(f1.below (Za c0)).only (Ze.of_upd (T:=[315]) g2 a7 (by decide)) (by decide)
 have i9:=g2.own2 (Zb e2 (Za c0)) a7 (by decide)
 have y4:=(hI.below (Za c0)).only (Ze.of_upd (T:=[315]) g2 a7 (by decide)) (by decide)
 refine xe 1 (.tuple #[]) ?_
 rw[d3,e3]
 rw[show(way++[no]).length-1=way.length by simp] at ag
 exact⟨_,j6,j4,i2,f3,j9,j0,j5,f6,s7,rfl,r4,w8,ag,o9,o5,p0,n9,Pr i9,d0.len _ _ _ _,y4⟩
end Go.Proofs.YtegcamkgeacjfaaGreatDoor
namespace Go.Proofs.YtegcamkgeacjfaaGreatDoor
set_option maxHeartbeats 8000000
set_option maxRecDepth 100000
open Go.RowKit Go.Extern.Stop Go.Stop Go.Extern
set_option linter.unusedVariables false
theorem Gr{V:List Int→Int→Int→Int→WS→WS}{l:Bl}{way:List Int}{no hi:Int}{s:WS}(P:Nat→WS→Prop)(h0:P 0 s) :
  ∀ n,(∀ i t,i<n→t.dry=false→P i t→P (i+1) (Vh V way no ((Ci l no).getD i []) (Xr hi (Vz l no) i) t))→(∀ i t,i<n→t.dry=true→P i t→P (i+1) t)→P n (Xx V l way no hi n s)
 | 0,_,_=>h0
 | n+1,hs,hd=>by
  have ih:=Gr P h0 n (fun i t hi=>hs i t (by omega)) (fun i t hi=>hd i t (by omega))
  rw[Hj]
  unfold Wi
  split
  ·rename_i h;exact hd n _ (by omega) h ih
  ·rename_i h;exact hs n _ (by omega) (by simpa using h) ih
theorem rootE_no(v:Bl):Xk v=0∨Xk v=2∨Xk v=7:=by
 unfold Xk;split
 ·split<;>simp
 ·simp
theorem Bz(l:Bl):∀ n,Yg l n=0∨Yg l n=2∨Yg l n=8
 | 0=>.inl rfl
 | n+1=>by
  rw[Yg]
  split
  ·exact Bz l n
  ·unfold Eb;split
   ·simp
   ·split<;>simp
theorem Oe(l:Bl)(no tree:Int):Xn l no tree≠12:=by
 unfold Xn
 split
 ·unfold Qc
  split
  ·split<;>decide
  ·unfold Kb
   split
   ·split
    ·rcases Bz (inB l no) (Zr (inB l no)) with h|h|h<;>rw[h]<;>decide
    ·decide
   ·decide
 ·unfold inE
  split
  ·unfold Qw
   repeat' split
   all_goals decide
  ·decide
theorem lookE_no(l:Bl)(way:List Int)(no tree lo hi deep:Int):Xu l way no tree lo hi deep≠12:=by
 unfold Xu
 split
 ·decide
 ·split
  ·decide
  ·split
   ·exact Oe _ _ _
   ·split
    ·decide
    ·split<;>decide
theorem maxG_18(t:Int)(b:Bool):maxG t b≤18:=by
 unfold maxG maxN
 repeat' split
 all_goals omega
theorem Sv{l:Bl}(h:Kb l=0):Ra l=true:=by
 unfold Kb at h
 split at h
 ·assumption
 ·cases h
theorem St{l:Bl}{tree:Int}(h:Qc l tree=0):Kb l=0:=by
 unfold Qc at h
 split at h
 ·assumption
 ·assumption
theorem Za1{l:Bl}{no tree:Int}(h:Xn l no tree=0):inE l 2 no=0∧Qc (inB l no) tree=0:=by
 unfold Xn at h
 split at h
 ·exact⟨by assumption,h⟩
 ·rename_i q;exact absurd h q
theorem Ri{l:Bl}{way:List Int}{no tree lo hi deep:Int}(h:Xu l way no tree lo hi deep=0):Xn l no tree=0∧Qq lo hi (Vz l no)=0∧Zr (inB l no)≤18:=by
 unfold Xu at h
 split at h
 ·cases h
 ·split at h
  ·cases h
  ·split at h
   ·rename_i q;exact absurd h q
   ·rename_i q
    split at h
    ·cases h
    ·rename_i q2
     have q1:Xn l no tree=0:=Decidable.not_not.1 q
     exact⟨q1,Decidable.not_not.1 q2,Nat.le_trans (Ng (Sv (St (Za1 q1).2))) (maxG_18 _ _)⟩
theorem Gp{lo hi:Int}{L:List Int}(h:Qq lo hi L=0):Jg lo hi=true∧Vv L∧∀ k∈L,lo≤k∧k<hi:=by
 unfold Qq at h
 split at h
 ·split at h
  ·split at h
   ·exact⟨by assumption,by assumption,by assumption⟩
   ·cases h
  ·cases h
 ·cases h
def InBlk(l:Bl)(tree:Int)(x:Ent):Prop :=
 Xn l x.2.2 tree=0∧Xp (inB l x.2.2)=true∧∃ k,k<Zr (inB l x.2.2)∧(Vz l x.2.2).getD k 0=x.1∧(Ci l x.2.2).getD k []=x.2.1∧∀ j,j<k→(Vz l x.2.2).getD j 0≠x.1
def Zca(lo hi:Int)(es:List Ent):Prop:=es.Pairwise (fun x y=>x.1<y.1)∧∀ x∈es,lo≤x.1∧x.1<hi
theorem Zca.nil(lo hi:Int):Zca lo hi []:=⟨.nil,fun _ h=>by cases h⟩
theorem Zca.app{lo mi hi:Int}{a b:List Ent}(h:Zca lo mi a)(k:Zca mi hi b)(h1:lo≤mi)(h2:mi≤hi):Zca lo hi (a++b):=by
 refine⟨List.pairwise_append.2 ⟨h.1,k.1,fun x hx y hy=>?_⟩,fun x hx=>?_⟩
 ·have:=(h.2 x hx).2;have:=(k.2 y hy).1;omega
 ·rcases List.mem_append.1 hx with q|q
  ·have:=h.2 x q;omega
  ·have:=k.2 x q;omega
structure Went(l:List UInt8)(tree fuel:Int)(hd:Option Int)(lo hi:Int)(s t:WS)(es:List Ent)(fs:List (List Int×Int)):Prop where
 esE:t.es=s.es++es
 fsE:t.fs=s.fs++fs
 rise:Zca lo hi es
 inb:∀ x∈es,InBlk l tree x
 flt:∀ f∈fs,f.1.head? = hd∧f.1≠[]∧f.2≠0
 dry:t.dry=true↔s.dry=true∨∃ f∈fs,f.2=12
 fuelE:t.dry=true→s.dry=true∨fuel≤t.looked
 look:s.looked≤fuel.toNat→t.looked≤fuel.toNat
 more:s.looked≤t.looked
 blks:t.bs.length+s.looked≤s.bs.length+t.looked
theorem Went.refl(l:Bl)(tree fuel:Int)(hd:Option Int)(lo hi:Int)(s:WS):Went l tree fuel hd lo hi s s [] [] :=
 ⟨by simp,by simp,Zca.nil _ _,by simp,by simp,by simp,fun h=>.inl h,fun h=>h,Nat.le_refl _,Nat.le_refl _⟩
theorem Went.trans{l:Bl}{tree fuel:Int}{hd:Option Int}{lo mi hi:Int}{s t u:WS}{es es2:List Ent}{fs fs2:List (List Int×Int)}(h:Went l tree fuel hd lo mi s t es fs)(k:Went l tree fuel hd mi hi t u es2 fs2)(h1:lo≤mi)(h2:mi≤hi) :
  Went l tree fuel hd lo hi s u (es++es2) (fs++fs2) where
 esE:=by rw[k.esE,h.esE,List.append_assoc]
 fsE:=by rw[k.fsE,h.fsE,List.append_assoc]
 rise:=h.rise.app k.rise h1 h2
 inb x hx:=by
  rcases List.mem_append.1 hx with q|q
  ·exact h.inb x q
  ·exact k.inb x q
 flt f hf:=by
  rcases List.mem_append.1 hf with q|q
  ·exact h.flt f q
  ·exact k.flt f q
 dry:=by
  rw[k.dry,h.dry]
  constructor
  ·rintro((q|⟨f,q1,q2⟩)|⟨f,q1,q2⟩)
   ·exact .inl q
   ·exact .inr ⟨f,List.mem_append_left _ q1,q2⟩
   ·exact .inr ⟨f,List.mem_append_right _ q1,q2⟩
  ·rintro(q|⟨f,q1,q2⟩)
   ·exact .inl (.inl q)
   ·rcases List.mem_append.1 q1 with q|q
    ·exact .inl (.inr ⟨f,q,q2⟩)
    ·exact .inr ⟨f,q,q2⟩
 fuelE h0:=by
  rcases k.fuelE h0 with q|q
  ·rcases h.fuelE q with q|q
   ·exact .inl q
   ·exact .inr (by have:=k.more;omega)
  ·exact .inr q
 look h0:=k.look (h.look h0)
 more:=Nat.le_trans h.more k.more
 blks:=by have:=h.blks;have:=k.blks;omega
theorem Went.wide{l:Bl}{tree fuel:Int}{hd:Option Int}{lo hi lo2 hi2:Int}{s t:WS}{es:List Ent}{fs:List (List Int×Int)}(h:Went l tree fuel hd lo hi s t es fs)(h1:lo2≤lo)(h2:hi≤hi2):Went l tree fuel hd lo2 hi2 s t es fs :=
 { h with rise:=⟨h.rise.1,fun x hx=>by have:=h.rise.2 x hx;omega⟩ }
theorem Went.note(l:Bl)(tree fuel:Int){hd:Option Int}(lo hi:Int)(way:List Int)(no c:Int)(s:WS)(hc:c≠0)(hc2:c≠12)(hh:(way++[no]).head? = hd):Went l tree fuel hd lo hi s (Yr way [no] c s) [] [(way++[no],c)] :=
 ⟨by simp[Yr],by simp[Yr],Zca.nil _ _,by simp,(fun f hf=>by rw[List.mem_singleton.1 hf];exact⟨hh,by simp,hc⟩),by simp[Yr,hc2],fun h=>.inl (by simpa [Yr] using h),fun h=>by simpa [Yr] using h,Nat.le_refl _,Nat.le_refl _⟩
theorem Ju{lo hi:Int}{L:List Int}(hf:Qq lo hi L=0){i:Nat}(h:i<L.length):lo≤(Xr hi L i).1∧(Xr hi L i).1≤(Xr hi L i).2∧(Xr hi L i).2≤hi∧(i+1<L.length→(Xr hi L i).2=(Xr hi L (i+1)).1):=by
 obtain⟨h1,h2,h3⟩:=Gp hf
 have h4:=h3 L[i] (List.getElem_mem _)
 unfold Xr
 simp only[List.getElem?_eq_getElem h,Option.getD_some]
 by_cases hn:i+1<L.length
 ·have h5:=h3 L[i+1] (List.getElem_mem _)
  have h6:=Vv.lt h2 (i+1) i (by omega) hn
  simp only[List.getElem?_eq_getElem h,List.getElem?_eq_getElem hn,Option.getD_some] at h6 ⊢
  exact⟨h4.1,by omega,by omega,fun _=>trivial⟩
 ·rw[List.getElem?_eq_none (by omega)]
  simp only[Option.getD_none]
  exact⟨h4.1,by omega,Int.le_refl _,fun h=>absurd h hn⟩
theorem Zb9{lo hi:Int}{l:Bl}{no:Int}(hf:Qq lo hi (Vz l no)=0)(Vs:List Bl):Zca lo hi (Kq (Vz l no) Vs no (Zr (inB l no))):=by
 obtain⟨h1,h2,h3⟩:=Gp hf
 have hl:(Vz l no).length=Zr (inB l no):=by simp[Vz,Qo]
 refine⟨?_,?_⟩
 ·unfold Kq
  rw[List.pairwise_map]
  refine List.Pairwise.imp_of_mem (R:=fun a b=>a<b) ?_ List.pairwise_lt_range
  intro a b ha hb a0
  have:=Vv.lt h2 b a a0 (by rw[hl];simpa using hb)
  simpa [List.getD] using this
 ·intro x hx
  unfold Kq at hx
  obtain⟨j,hj,rfl⟩:=List.mem_map.1 hx
  have hj:j<(Vz l no).length:=by rw[hl];simpa using hj
  have:=h3 (Vz l no)[j] (List.getElem_mem _)
  simpa [List.getD,hj] using this
theorem leaf_inb{lo hi:Int}{l:Bl}{no tree:Int}(hn:Xn l no tree=0)(hl:Xp (inB l no)=true)(hf:Qq lo hi (Vz l no)=0):∀ x∈Kq (Vz l no) (Ci l no) no (Zr (inB l no)),InBlk l tree x:=by
 intro x hx
 obtain⟨h1,h2,h3⟩:=Gp hf
 have hk:(Vz l no).length=Zr (inB l no):=by simp[Vz,Qo]
 unfold Kq at hx
 obtain⟨j,hj,rfl⟩:=List.mem_map.1 hx
 have hj:j<Zr (inB l no):=by simpa using hj
 refine⟨hn,hl,j,hj,rfl,rfl,fun i hi=>?_⟩
 have:=Vv.lt h2 j i hi (by rw[hk];exact hj)
 simp only[List.getD]
 omega
theorem Nz(l:Bl)(tree fuel:Int):∀ (d:Nat) (way:List Int) (no lo hi:Int) (s:WS),s.dry=false→∃ es fs,Went l tree fuel (way++[no]).head? lo hi s (Zn l tree fuel d way no lo hi s) es fs
  | 0,way,no,lo,hi,s,_=>⟨[],[],Went.refl _ _ _ _ _ _ _⟩
  | d + 1, way, no, lo, hi, s, hs => by
    unfold Zn
    split
    · rename_i hf
      exact⟨[],[(way++[no],12)],by simp[Yr],by simp[Yr],Zca.nil _ _,by simp,by simp,by simp,fun _=>.inr hf,fun h=>h,Nat.le_refl _,Nat.le_refl _⟩
    · rename_i hf
      have a4:s.looked+1≤fuel.toNat:=by omega
      split
      · rename_i he
        have:=Went.note l tree fuel lo hi way no _ { s with looked:=s.looked+1 } he (lookE_no _ _ _ _ _ _ _) rfl
        exact⟨_,_,this.esE,this.fsE,this.rise,this.inb,this.flt,this.dry,fun h=>by simp[Yr,hs] at h,fun _=>a4,by simp[Yr],by simp[Yr]⟩
      · rename_i he
        have he:Xu l way no tree lo hi s.deep=0:=Decidable.not_not.1 he
        obtain⟨hn,a0,hc⟩:=Ri he
        split
        · rename_i hl
          exact⟨_,[],rfl,by simp,Zb9 a0 _,leaf_inb hn hl a0,by simp,by simp[hs],fun h=>by simp[hs] at h,fun _=>a4,by simp,by simp;omega⟩
        · have hk:(Vz l no).length=Zr (inB l no):=by simp[Vz,Qo]
          have a7:=Gp a0
          have a9:lo≤hi:=by have:=a7.1;unfold Jg at this;simp at this;omega
          have a1:=Gr (V:=Zn l tree fuel d) (l:=l) (way:=way) (no:=no) (hi:=hi) (s:={ s with looked:=s.looked+1,bs:=s.bs++[no] })
            (fun i t=>∃ es fs,Went l tree fuel (way++[no]).head? lo (if i=0 then lo else(Xr hi (Vz l no) (i-1)).2) { s with looked:=s.looked+1,bs:=s.bs++[no] } t es fs)
            ⟨[],[],Went.refl _ _ _ _ _ _ _⟩ (Zr (inB l no)) ?_ ?_
          · obtain⟨es,fs,q⟩:=a1
            refine⟨es,fs,q.esE,q.fsE,?_,q.inb,q.flt,q.dry,fun h=>?_,fun _=>q.look a4,by have:=q.more;simp only at this;omega,by have:=q.blks;simp at this;omega⟩
            · refine⟨q.rise.1,fun x hx=>?_⟩
              have:=q.rise.2 x hx
              split at this
              · omega
              · rename_i h0
                have:=(Ju a0 (i:=Zr (inB l no)-1) (by rw[hk];omega)).2.2.1
                omega
            · rcases q.fuelE h with q2|q2
              · exact .inl q2
              · exact .inr q2
          · rintro i t a3 a6 ⟨es,fs,q⟩
            have hp:=Ju a0 (i:=i) (by rw[hk];exact a3)
            have a5:lo≤(if i=0 then lo else(Xr hi (Vz l no) (i-1)).2)∧(if i=0 then lo else(Xr hi (Vz l no) (i-1)).2)≤(Xr hi (Vz l no) i).1:=by
              split
              · exact⟨Int.le_refl _,hp.1⟩
              · rename_i h0
                have a2:=Ju a0 (i:=i-1) (by rw[hk];omega)
                have:=a2.2.2.2 (by rw[hk];omega)
                rw[show i-1+1=i by omega] at this
                omega
            have q':=q.wide (Int.le_refl lo) a5.2
            rw[if_neg (by omega),Nat.add_sub_cancel]
            unfold Vh
            split
            · obtain⟨b1,b0,r⟩:=Nz l tree fuel d (way++[no]) (Zo ((Ci l no).getD i []):Int) (Xr hi (Vz l no) i).1 (Xr hi (Vz l no) i).2 t a6
              have hh:((way++[no])++[(Zo ((Ci l no).getD i []):Int)]).head? = (way++[no]).head? := by cases way<;>rfl
              rw[hh] at r
              exact⟨_,_,q'.trans r (by omega) hp.2.1⟩
            · rename_i a8
              have r:=Went.note l tree fuel (Xr hi (Vz l no) i).1 (Xr hi (Vz l no) i).2 way no (Xk ((Ci l no).getD i [])) t a8 (by rcases rootE_no ((Ci l no).getD i []) with h|h|h<;>rw[h]<;>decide) rfl
              exact⟨_,_,q'.trans r (by omega) hp.2.1⟩
          · rintro i t a3 a6 ⟨es,fs,q⟩
            have hp:=Ju a0 (i:=i) (by rw[hk];exact a3)
            rw[if_neg (by omega),Nat.add_sub_cancel]
            refine⟨es,fs,q.wide (Int.le_refl _) ?_⟩
            split
            · omega
            · rename_i h0
              have a2:=Ju a0 (i:=i-1) (by rw[hk];omega)
              have:=a2.2.2.2 (by rw[hk];omega)
              rw[show i-1+1=i by omega] at this
              omega
theorem Hg(l:Bl)(tree fuel:Int):∀ (d:Nat) (way:List Int) (no lo hi:Int) (s:WS),s.dry=false →
  (Zn l tree fuel d way no lo hi s).fs.length+(Zn l tree fuel d way no lo hi s).es.length+18*s.looked≤s.fs.length+s.es.length+18*(Zn l tree fuel d way no lo hi s).looked+(if(Zn l tree fuel d way no lo hi s).dry=true then 1 else 0)
 | 0,way,no,lo,hi,s,hs=>by simp[Zn,hs]
 | d+1,way,no,lo,hi,s,hs=>by
  unfold Zn
  split
  ·simp[Yr];omega
  ·split
   ·simp[Yr,hs];omega
   ·rename_i he
    have he:Xu l way no tree lo hi s.deep=0:=Decidable.not_not.1 he
    obtain⟨hn,a3,hc⟩:=Ri he
    split
    ·simp[Uc,hs];omega
    ·have a1:=Gr (V:=Zn l tree fuel d) (l:=l) (way:=way) (no:=no) (hi:=hi) (s:={ s with looked:=s.looked+1,bs:=s.bs++[no] })
      (fun i t=>t.fs.length+t.es.length+18*(s.looked+1)≤s.fs.length+s.es.length+i+18*t.looked+(if t.dry=true then 1 else 0)) (by simp[hs]) (Zr (inB l no)) ?_ ?_
     ·omega
     ·intro i t a2 a0 q
      rw[a0] at q
      unfold Vh
      split
      ·have:=Hg l tree fuel d (way++[no]) (Zo ((Ci l no).getD i []):Int) (Xr hi (Vz l no) i).1 (Xr hi (Vz l no) i).2 t a0
       simp at q
       omega
      ·simp[Yr,a0] at q ⊢;omega
     ·intro i t a2 a0 q;omega
end Go.Proofs.YtegcamkgeacjfaaGreatDoor
namespace Go.Proofs.YtegcamkgeacjfaaGreatDoor
set_option maxHeartbeats 8000000
set_option maxRecDepth 100000
open Go.RowKit Go.Extern.Stop Go.Stop Go.Extern
set_option linter.unusedVariables false
attribute [local irreducible] wpList wpAnyH Code.wp Oper.wp Go
theorem Ey{B bw Bi b:Nat}{pi:O0}{ni ci:Nat}{l:Bl}{tree fuel:Int}(hBb:B≤bw)(hfu:fuel≤1000000):∀ d,Zdz B bw Bi b pi ni ci l tree fuel (d+1)
 | 0=>fun a0 no lo hi s pe pb pf pw ce cb cf cw fv w h1 h2 h3 h4 h5 h6 h7=>Uz B bw Bi b pi ni ci l tree fuel 0 (fun h=>absurd rfl h) a0 no lo hi s pe pb pf pw ce cb cf cw fv w hBb h2 h1 h3 hfu h4 h5 h6 h7
 | d+1=>fun a0 no lo hi s pe pb pf pw ce cb cf cw fv w h1 h2 h3 h4 h5 h6 h7=>Uz B bw Bi b pi ni ci l tree fuel (d+1) (fun _=>Ey hBb hfu d) a0 no lo hi s pe pb pf pw ce cb cf cw fv w hBb h2 h1 h3 hfu h4 h5 h6 h7
def ws0:WS:=⟨[],[],0,0,[],false⟩
def Zd(l:Bl)(root tree fuel:Int):WS:=Zn l tree fuel 17 [] root 0 281474976710656 ws0
theorem Hk(l:Bl)(root tree fuel:Int):∃ es fs,Went l tree fuel (some root) 0 281474976710656 ws0 (Zd l root tree fuel) es fs:=Nz l tree fuel 17 [] root 0 281474976710656 ws0 rfl
theorem Jw(l:Bl)(root tree fuel:Int):(Zd l root tree fuel).looked≤fuel.toNat:=by
 obtain⟨_,_,h⟩:=Hk l root tree fuel
 exact h.look (Nat.zero_le _)
theorem Qz(l:Bl)(root tree fuel:Int)(hf:fuel≤1000):(Zd l root tree fuel).es.length≤1000000∧(Zd l root tree fuel).bs.length≤1000000∧(Zd l root tree fuel).fs.length≤1000000:=by
 have h1:=Hg l tree fuel 17 [] root 0 281474976710656 ws0 rfl
 have h2:=Jw l root tree fuel
 obtain⟨_,_,h3⟩:=Hk l root tree fuel
 have h4:=h3.blks
 simp only[ws0,List.length_nil] at h4
 change (Zd l root tree fuel).fs.length+(Zd l root tree fuel).es.length+18*0≤0+0+18*(Zd l root tree fuel).looked+(if(Zd l root tree fuel).dry=true then 1 else 0) at h1
 have h5:(if(Zd l root tree fuel).dry=true then 1 else 0)≤1:=by split<;>omega
 have h6:fuel.toNat≤1000:=by omega
 generalize (if(Zd l root tree fuel).dry=true then 1 else 0)=q at h1 h5
 omega
def walkC(t:WS)(pe pb pf:O0)(ce cb cf:Nat):List Value:=[.slice pe t.es.length ce,.slice pb t.bs.length cb,V0 t.deep,V0 (t.looked:Int),.slice pf t.fs.length cf]
structure WalkV(B:Nat)(t:WS)(pe pb pf:Option Addr)(ce cb cf:Nat)(fv:List Value)(w:World):Prop where
 ents:w.ownsRow B 123 3 (.slice pe t.es.length ce) t.es.length (t.es.flatMap Hp)
 blks:w.ownsRow B 3 1 (.slice pb t.bs.length cb) t.bs.length (t.bs.map (Value.int .i64))
 flts:w.ownsRow B 29 1 (.slice pf t.fs.length cf) t.fs.length fv
 fltv:Qr w t.fs fv
def ScanP(l:Bl)(root tree fuel:Int)(w:World)(e:Ending)(w':World):Prop :=
 ∃ pe pb pf ce cb cf fv,e=.returned (.agg (walkC (Zd l root tree fuel) pe pb pf ce cb cf).toArray)∧B0 w w'∧WalkV w.heap.size (Zd l root tree fuel) pe pb pf ce cb cf fv w'
theorem Rf(Bi b:Nat)(pi:O0)(ni ci:Nat)(l:Bl)(root tree fuel:Int)(w:World)(hfu:fuel≤1000)(hI:ImgR Bi b pi ni ci l w) :
 C0 108 #[P0 b,V0 root,V0 tree,V0 fuel] w (ScanP l root tree fuel w):=by
 refine zin 23 Tryz.func108 ?_
 refine xa 2 [S0,S0,V0 0,V0 0,S0] 130 fun b1 W1 n1=>?_
 refine xa 8 [S0,S0,V0 0,V0 0,S0,P0 b,V0 tree,V0 fuel,S0,.bool false] 315 fun b2 W2 n2=>?_
 refine xr 7 (args:=#[]) (Tq _) fun W3 a5=>?_
 have a0:=Qz l root tree fuel hfu
 have g2:=n2.ge n1.below
 have hB:=bln (bln n1.below n2.below) a5
 have k2:=n2.blk.below a5
 have a7:=((hI.below n1.below).below n2.below).below a5
 refine xc 0 (args:=#[P0 b2,V0 root,.agg #[V0 0,V0 281474976710656]]) (Ey (B:=w.heap.size) (bw:=b2) (Bi:=Bi) (b:=b) (pi:=pi) (ni:=ni) (ci:=ci) (l:=l) (tree:=tree) (fuel:=fuel) g2 (by omega) 16 [] root 0 281474976710656 ws0 none none none none 0 0 0 0 [] _ rfl hB.size rfl ⟨k2,World.ownsRow_nil _ _ _ _,World.ownsRow_nil _ _ _ _,World.ownsRow_nil _ _ _ _,trivial,World.ownsRow_nil _ _ _ _,Je.nil _,a7⟩ a0.1 a0.2.1 a0.2.2) ?_
 rintro _ W4 ⟨u4,pe,pb,pf,pw,ce,cb,cf,cw,fv,rfl,a9,b3,hR⟩
 change WalkR _ _ _ _ _ _ _ _ _ _ _ (Zd l root tree fuel) _ _ _ _ _ _ _ _ _ _ at hR
 obtain⟨kW,b4,b0,a8,b5,b7,b6,hI⟩:=hR
 refine xlv 7 (kW.rpp 0 5) ?_
 have k1:=((n1.blk.below n2.below).below a5).only b3 (by decide)
 refine xsv 0 k1 [.slice pe ((Zd l root tree fuel).es.length) ce,.slice pb ((Zd l root tree fuel).bs.length) cb,V0 (Zd l root tree fuel).deep,V0 ((Zd l root tree fuel).looked:Int),.slice pf ((Zd l root tree fuel).fs.length) cf] fun W5 u5 k5=>?_
 have g1:=n1.ge (B3 w)
 have a6:=u5.below (hB.trans a9) g1
 have a4:=u5.own2 b4 k1 (by decide)
 have a3:=u5.own2 b0 k1 (by decide)
 have a2:=u5.own2 a8 k1 (by decide)
 have a1:=b5.only (Ze.of_upd (T:=[130]) u5 k1 (by decide)) (by decide)
 exact xec 3 k5 (.agg #[.slice pe ((Zd l root tree fuel).es.length) ce,.slice pb ((Zd l root tree fuel).bs.length) cb,V0 (Zd l root tree fuel).deep,V0 ((Zd l root tree fuel).looked:Int),.slice pf ((Zd l root tree fuel).fs.length) cf]) ⟨_,_,_,_,_,_,_,rfl,a6,⟨a4,a3,a2,a1⟩⟩
theorem Sts.cut{α:Type}{f:α→List Value}{m:Nat}{w:World}{b:O0}{c:Nat}{l:List α}(hm:∀ x,(f x).length=m)(h:Sts f w (.slice b l.length c) l)(k:Nat)(hk:k≤l.length):Sts f w (.slice (Ba b k c m) (l.drop k).length (c-k)) (l.drop k):=by
 have a0:(l.drop k).length=l.length-k:=by simp
 have a1:=Sl.cap h
 by_cases hkn:k=l.length
 ·refine .inl ⟨Ba b k c m,c-k,by rw[show(l.drop k).length=0 by omega],by omega,?_⟩
  rw[List.drop_eq_nil_of_le (by omega)];rfl
 rcases h with ⟨a',c',h1,h2,h3⟩|⟨g,a3,a4,h1,h2,h3,h4⟩
 ·omega
 ·simp only[Value.slice.injEq] at h1
  obtain⟨rfl,_,rfl⟩:=h1
  refine .inr ⟨g,a3+k*m,c-k,?_,by omega,by omega,fun j x hj=>?_⟩
  ·rw[Ba,if_neg (by omega)];simp[Addr.add]
  ·have a2:(l.drop k).flatMap f=(l.flatMap f).drop (k*m):=by
    conv=>rhs;rw[←List.take_append_drop k l,List.flatMap_append]
    rw[List.drop_left' (by rw[Mh hm,List.length_take,Nat.min_eq_left hk])]
   rw[a2,List.getElem?_drop] at hj
   have:=h4 _ _ hj
   rwa [←Nat.add_assoc] at this
theorem ImgR.mono{B B' b:Nat}{p:O0}{n c:Nat}{l:Bl}{w:World}(h:ImgR B b p n c l w)(hB:B'≤B):ImgR B' b p n c l w:=⟨h.blk,Zh h.row hB,h.hn⟩
theorem Zd7(a:O0)(c n m:Nat)(l:Bl)(w:World)(hn:l.length=n)(hm:min (n/256) 14400*256=m)(h:Bys w (.slice a n c) l)(hl:n≤100000000)(hc:n≤c) :
 C0 15 #[.slice a n c] w (Jl (fun w' r=>∃ b p c2,r=P0 b∧w.heap.size≤b∧ImgR w.heap.size b p m c2 (l.take m) w') w):=by
 subst hn hm
 refine(image_Of a c l w h hl hc).mono ?_
 rintro e W ⟨_,rfl,hb,b,p,c2,rfl,h1,h2,h3⟩
 exact⟨_,rfl,hb,b,p,c2,rfl,h1,h2,h3,by omega⟩
theorem Bc(l:Bl)(tree fuel:Int):∀ (d:Nat) (way:List Int) (no lo hi:Int) (s:WS),way.length+d≤20→(∀ f∈s.fs,f.1.length≤40)→∀ f∈(Zn l tree fuel d way no lo hi s).fs,f.1.length≤40
 | 0,_,_,_,_,s,_,h=>h
 | d+1,way,no,lo,hi,s,hw,h=>by
  have a0:∀ (c:Int) (s:WS),(∀ f∈s.fs,f.1.length≤40)→∀ f∈(Yr way [no] c s).fs,f.1.length≤40:=by
   intro c s h f hf
   simp only[Yr,List.mem_append,List.mem_singleton] at hf
   rcases hf with hf|rfl
   ·exact h f hf
   ·simp;omega
  unfold Zn
  split
  ·exact a0 _ _ h
  ·split
   ·exact a0 _ _ h
   ·split
    ·exact h
    ·refine Gr (V:=Zn l tree fuel d) (l:=l) (way:=way) (no:=no) (hi:=hi) (s:={ s with looked:=s.looked+1,bs:=s.bs++[no] }) (fun _ t=>∀ f∈t.fs,f.1.length≤40) h (Zr (inB l no)) ?_ fun _ _ _ _ q=>q
     intro i t _ _ q
     unfold Vh
     split
     ·exact Bc l tree fuel d (way++[no]) _ _ _ t (by simp;omega) q
     ·exact a0 _ _ q
theorem Ks(l:Bl)(root tree fuel:Int):∀ f∈(Zd l root tree fuel).fs,f.1.length≤40:=Bc l tree fuel 17 [] root _ _ ws0 (by decide) (by simp[ws0])
theorem Nf{α:Type}{l:List α}{d:α}{i:Nat}(h:i<l.length):l.getD i d∈l:=by simp[List.getD,h]
theorem Qr.at{w:World}:∀ {fs:List (List Int×Int)} {vs:List Value},Qr w fs vs→∀ {j:Nat},j<fs.length→∃ ty x,vs[j]? = some (.iface ty x)∧Yu w ((fs.getD j ([],0)).1.map some) (some (fs.getD j ([],0)).2) (.iface ty x)
 | f::r,v::q,h,0,_=>by
  obtain⟨ty,x,rfl⟩:=h.1.iface
  exact⟨ty,x,rfl,h.1⟩
 | f::r,v::q,h,j+1,hj=>by
  obtain⟨ty,x,h1,h2⟩:=h.2.at (j:=j) (by simpa using hj)
  exact⟨ty,x,by simpa using h1,by simpa using h2⟩
 | [],_,_,j,hj=>absurd hj (by simp)
 | _::_,[],h,_,_=>h.elim
theorem Sl.elem1{w:World}{b:O0}{n c:Nat}{xs:List Value}(h:Sl w (.slice b n c) n xs){j:Nat}{x:Value}(hj:xs[j]? = some x):b.isSome=true∧w.cell? (Xa b (j*1))=some x:=by rw[Nat.mul_one];exact Sl.elem h hj
theorem Ck(l:List Int):Qe (l.map some)=l:=by unfold Qe;simp[List.filterMap_map]
theorem Vm(l:Bl)(root tree fuel:Int):(Zd l root tree fuel).looked≤fuel.toNat∧(Zd l root tree fuel).bs.length≤(Zd l root tree fuel).looked∧(∀ x∈(Zd l root tree fuel).es,InBlk l tree x) ∧
 (Zd l root tree fuel).es.Pairwise (fun x y=>x.1<y.1)∧∀ f∈(Zd l root tree fuel).fs,f.1≠[]∧f.1.getD 0 0=root:=by
 obtain⟨es,fs,h⟩:=Hk l root tree fuel
 have h1:(Zd l root tree fuel).es=es:=by rw[h.esE];rfl
 have h2:(Zd l root tree fuel).fs=fs:=by rw[h.fsE];rfl
 have h3:=h.blks
 refine⟨Jw _ _ _ _,by simpa [ws0] using h3,fun x hx=>h.inb x (h1▸hx),by rw[h1];exact h.rise.1,fun f hf=>?_⟩
 obtain⟨q1,q2,_⟩:=h.flt f (h2▸hf)
 refine⟨q2,?_⟩
 cases e:f.1 with
 | nil=>exact absurd e q2
 | cons a r=>rw[e] at q1;simpa using q1
theorem Tb(l:List Int)(c:Int):Nh (l.map some) (some c)=c:=by simp[Nh,Ga]
structure WalkS(t:WS)(pe pb pf:Option Addr)(ce cb cf:Nat)(fv:List Value)(w:World):Prop where
 ents:Sts Hp w (.slice pe t.es.length ce) t.es
 blks:Ints w (.slice pb t.bs.length cb) t.bs
 flts:Sl w (.slice pf t.fs.length cf) t.fs.length fv
 fltv:Qr w t.fs fv
theorem WalkS.below{t:WS}{pe pb pf:O0}{ce cb cf:Nat}{fv:List Value}{w W:World}(h:WalkS t pe pb pf ce cb cf fv w)(hb:B0 w W):WalkS t pe pb pf ce cb cf fv W :=
 ⟨Sl.below h.ents hb,Sl.below h.blks hb,Sl.below h.flts hb,h.fltv.below hb⟩
def eL (S:WS):List (Option Int):=if S.fs=[] then [] else(S.fs.getD 0 ([],0)).1.map some
def eT (S:WS):Option Int:=if S.fs=[] then none else some (S.fs.getD 0 ([],0)).2
def Rd(S:WS):WS:=if S.fs=[] then S else ws0
def Qi(S:WS):List Int×Int:=if S.fs=[] then([],0) else S.fs.getD 0 ([],0)
def FirstP(fs:List (List Int×Int))(w:World)(e:Ending)(w':World):Prop :=
 (fs=[]∧e=.returned .nilIface∧B0 w w')∨(fs≠[]∧∃ ty x,e=.returned (.iface ty x)∧B0 w w'∧Yu w' ((fs.getD 0 ([],0)).1.map some) (some (fs.getD 0 ([],0)).2) (.iface ty x))
theorem Wy(p:O0)(n c:Nat)(fv:List Value)(ty:TypeId)(x:Value)(w:World)(hn:0<n)(hS:Sl w (.slice p n c) n fv)(hx:fv[0]? = some (.iface ty x)) :
 C0 126 #[.slice p n c] w (Ret (.iface ty x) w):=by
 refine zin 15 Tryz.func126 ?_
 refine xu 14 1 ?_
 refine xk 6 (show(decide ((0:Int)<(n:Int)):Bool)=true from decide_eq_true (by omega)) ?_
 refine xx 6 _ n 0 1 (Sl.elem1 hS hx).1 ?_
 refine xl 0 ((Sl.elem1 hS hx).2) ?_
 exact xe 22 (.iface ty (x)) ⟨rfl,(B3 w)⟩
theorem Wz(p:O0)(c:Nat)(w:World) :
 C0 126 #[.slice p 0 c] w (Ret .nilIface w):=by
 refine zin 15 Tryz.func126 ?_
 refine xu 14 1 ?_
 exact xe 18 .nilIface ⟨rfl,(B3 w)⟩
theorem El(p:O0)(n c:Nat)(fs:List (List Int×Int))(fv:List Value)(w:World)(hn:fs.length=n)(hS:Sl w (.slice p n c) n fv)(hF:Qr w fs fv):C0 126 #[.slice p n c] w (FirstP fs w):=by
 subst hn
 match fs,hS,hF with
 | [],hS,hF =>
  refine(Wz p c w).mono ?_
  rintro e W ⟨rfl,hb⟩
  exact .inl ⟨rfl,rfl,hb⟩
 | f::r,hS,hF =>
  obtain⟨ty,x,h1,h2⟩:=hF.at (j:=0) (by simp)
  refine(Wy p _ c fv ty x w (by simp) hS h1).mono ?_
  rintro e W ⟨rfl,hb⟩
  exact .inr ⟨by simp,ty,x,rfl,hb,h2.below hb⟩
theorem WalkV.mono{B B':Nat}{t:WS}{pe pb pf:O0}{ce cb cf:Nat}{fv:List Value}{w:World}(h:WalkV B t pe pb pf ce cb cf fv w)(hB:B'≤B):WalkV B' t pe pb pf ce cb cf fv w:=⟨Zh h.ents hB,Zh h.blks hB,Zh h.flts hB,h.fltv⟩
theorem WalkV.below{B:Nat}{t:WS}{pe pb pf:O0}{ce cb cf:Nat}{fv:List Value}{w W:World}(h:WalkV B t pe pb pf ce cb cf fv w)(hb:B0 w W):WalkV B t pe pb pf ce cb cf fv W:=⟨Zb h.ents hb,Zb h.blks hb,Zb h.flts hb,h.fltv.below hb⟩
theorem WalkV.only{B:Nat}{T:List TypeId}{t:WS}{pe pb pf:O0}{ce cb cf:Nat}{fv:List Value}{w W:World}(h:WalkV B t pe pb pf ce cb cf fv w)(hO:Ze T w W)(hT:T.contains 123=false∧T.contains 3=false∧T.contains 29=false∧T.contains 188=false):WalkV B t pe pb pf ce cb cf fv W:=⟨Zf h.ents hO hT.1,Zf h.blks hO hT.2.1,Zf h.flts hO hT.2.2.1,h.fltv.only hO hT.2.2.2⟩
theorem WalkV.s{B:Nat}{t:WS}{pe pb pf:O0}{ce cb cf:Nat}{fv:List Value}{w:World}(h:WalkV B t pe pb pf ce cb cf fv w):WalkS t pe pb pf ce cb cf fv w:=⟨Zi h.ents,Zi h.blks,Zi h.flts,h.fltv⟩
theorem WalkV.zero(B:Nat)(w:World):WalkV B ws0 none none none 0 0 0 [] w:=⟨World.ownsRow_nil _ _ _ _,World.ownsRow_nil _ _ _ _,World.ownsRow_nil _ _ _ _,trivial⟩
theorem Ad{S:WS}(h:S.fs=[]):Rd S=S∧Qi S=([],0)∧eL S=[]∧eT S=none:=by unfold Rd Qi eL eT;simp[h]
theorem Ny{S:WS}(h:S.fs≠[]):Rd S=ws0∧Qi S=S.fs.getD 0 ([],0)∧eL S=(S.fs.getD 0 ([],0)).1.map some∧eT S=some (S.fs.getD 0 ([],0)).2:=by unfold Rd Qi eL eT;simp[h]
def WholeP(S:WS)(w:World)(e:Ending)(w':World):Prop:=∃ t pe pb pf ce cb cf fv v,t=Rd S∧e=.returned (.tuple #[.agg (walkC t pe pb pf ce cb cf).toArray,v])∧B0 w w'∧WalkV w.heap.size t pe pb pf ce cb cf fv w'∧Yu w' (eL S) (eT S) v
theorem Tf(Bi b:Nat)(pi:O0)(ni ci:Nat)(l:Bl)(root tree fuel:Int)(w:World)(hfu:fuel≤1000)(hI:ImgR Bi b pi ni ci l w) :
 C0 59 #[P0 b,V0 root,V0 tree,V0 fuel] w (WholeP (Zd l root tree fuel) w):=by
 refine zin 25 Tryz.func59 ?_
 refine xa 2 [S0,S0,V0 0,V0 0,S0] 130 fun b1 W1 n1=>?_
 have b5:=n1.below.size
 refine xc 9 (args:=#[P0 b,V0 root,V0 tree,V0 fuel]) (Rf Bi b pi ni ci l root tree fuel _ hfu (hI.below n1.below)) ?_
 rintro _ W2 ⟨pe,pb,pf,ce,cb,cf,fv,rfl,b4,b6⟩
 have hW:=b6.mono b5
 refine xa 0 [S0,S0,V0 0,V0 0,S0] 130 fun b3 W3 n3=>?_
 have k1:=n1.blk.below b4
 have a1:=n3.ne k1
 have a2:=bln n1.below b4
 have g3:=n3.ge a2
 refine xsv 0 n3.blk [.slice pe ((Zd l root tree fuel).es.length) ce,.slice pb ((Zd l root tree fuel).bs.length) cb,V0 ((Zd l root tree fuel).deep),V0 (↑(Zd l root tree fuel).looked:Int),.slice pf ((Zd l root tree fuel).fs.length) cf] fun W4 u4 k4=>?_
 refine xb 6 4 k4 ?_
 have a3:=(hW.below n3.below).only (Ze.of_upd (T:=[130]) u4 n3.blk (by decide)) (by decide)
 refine xc 0 (args:=#[.slice pf ((Zd l root tree fuel).fs.length) cf]) (El pf _ cf (Zd l root tree fuel).fs fv _ rfl (Zi a3.flts) a3.fltv) ?_
 rintro e W5 b7
 rcases b7 with ⟨hz,rfl,a4⟩|⟨hz,ty,x,rfl,a4,hv⟩
 ·have a0:=Ad hz
  have a8:=k4.below a4
  refine xlv 14 a8.rp ?_
  have a6:=(u4.blk (k1.below n3.below) (Ne.symm (Ne.symm a1))).below a4
  refine xsv 0 a6 [.slice pe ((Zd l root tree fuel).es.length) ce,.slice pb ((Zd l root tree fuel).bs.length) cb,V0 ((Zd l root tree fuel).deep),V0 (↑(Zd l root tree fuel).looked:Int),.slice pf ((Zd l root tree fuel).fs.length) cf] fun W6 u6 k6=>?_
  have g1:=n1.ge (B3 w)
  have a9:=u6.below (bln (u4.below (bln a2 n3.below) g3) a4) g1
  have b2:=(a3.below a4).only (Ze.of_upd (T:=[130]) u6 a6 (by decide)) (by decide)
  exact xec 4 k6 (.tuple #[.agg #[.slice pe ((Zd l root tree fuel).es.length) ce,.slice pb ((Zd l root tree fuel).bs.length) cb,V0 ((Zd l root tree fuel).deep),V0 (↑(Zd l root tree fuel).looked:Int),.slice pf ((Zd l root tree fuel).fs.length) cf],.nilIface]) ⟨_,pe,pb,pf,ce,cb,cf,fv,_,rfl,by rw[a0.1];rfl,a9,by rw[a0.1];exact b2,by rw[a0.2.2.1,a0.2.2.2];rfl⟩
 have a0:=Ny hz
 have a5:=(u4.blk (k1.below n3.below) (Ne.symm (Ne.symm a1))).below a4
 refine xsv 14 a5 [S0,S0,V0 0,V0 0,S0] fun W7 u7 k7=>?_
 have g1:=n1.ge (B3 w)
 have b0:=u7.below (bln (u4.below (bln a2 n3.below) g3) a4) g1
 have a7:=hv.upd u7 a5 (by decide)
 exact xec 5 k7 (.tuple #[.agg #[S0,S0,V0 0,V0 0,S0],.iface ty (x)]) ⟨_,none,none,none,0,0,0,[],_,rfl,by rw[a0.1];rfl,b0,by rw[a0.1];exact WalkV.zero _ _,by rw[a0.2.2.1,a0.2.2.2];exact a7⟩
def Zaw(x:Ent):Mp:=(x.1,(Ug x.2.1:Int),(Lc x.2.1:Int))
def Dw(data:Int)(es:List Ent)(i:Nat):Prop:=∀ j,j<i→Qn data (es.getD j Zg).2.1=0
theorem Ut{data:Int}{es:List Ent}{i:Nat}(h:Dw data es i)(h2:Qn data (es.getD i Zg).2.1=0):Dw data es (i+1):=fun j hj=>by
 by_cases e:j=i
 ·subst e;exact h2
 ·exact h j (by omega)
def Fm(es:List Ent)(data:Int):List Int×Int×List Mp :=
 match (List.range es.length).find? (fun i=>Qn data (es.getD i Zg).2.1 != 0) with
 | some i=>([(es.getD i Zg).2.2],Qn data (es.getD i Zg).2.1,[])
 | none=>([],0,es.map Zaw)
theorem La{es:List Ent}{data:Int}{i:Nat}(hi:i<es.length)(h:Dw data es i)(hb:Qn data (es.getD i Zg).2.1≠0):Fm es data=([(es.getD i Zg).2.2],Qn data (es.getD i Zg).2.1,[]):=by
 unfold Fm
 rw[show(List.range es.length).find? (fun i=>Qn data (es.getD i Zg).2.1 != 0)=some i from by
  rw[List.find?_range_eq_some]
  exact⟨by simpa using hb,List.mem_range.2 hi,fun m hm=>by simpa using h m hm⟩]
theorem Dl{es:List Ent}{data:Int}(h:Dw data es es.length):Fm es data=([],0,es.map Zaw):=by
 unfold Fm
 rw[show(List.range es.length).find? (fun i=>Qn data (es.getD i Zg).2.1 != 0)=none from by
  rw[List.find?_eq_none]
  intro i hi
  have:=h i (List.mem_range.1 hi)
  simpa using this]
def Zdu(l:Bl)(root data fuel:Int):List Int×Int×List Mp :=
 if(Zd l root 2 fuel).fs≠[] then((Qi (Zd l root 2 fuel)).1,(Qi (Zd l root 2 fuel)).2,[])
 else Fm (Zd l root 2 fuel).es data
theorem Md{l:Bl}{root data fuel:Int}(h:(Zd l root 2 fuel).fs≠[]):Zdu l root data fuel=((Qi (Zd l root 2 fuel)).1,(Qi (Zd l root 2 fuel)).2,[]):=if_pos h
theorem Hm{l:Bl}{root data fuel:Int}(h:(Zd l root 2 fuel).fs=[]):Zdu l root data fuel=Fm (Zd l root 2 fuel).es data:=if_neg (fun q=>q h)
def Qf(l:Bl)(y:Ent)(data fuel:Int):List Int×Int×List Mp:=Zdu l (Zo y.2.1:Int) data fuel
def Pa(l:Bl)(x y:Ent)(data fuel:Int)(sum:Nat):List Int×Int :=
 if 16777215<x.1 then([x.2.2],9)
 else if Xc Vd x.2.1≠0 then([x.2.2],Xc Vd x.2.1)
 else if Xk y.2.1≠0 then([y.2.2],Xk y.2.1)
 else if(Qf l y data fuel).2.1≠0 then(y.2.2::(Qf l y data fuel).1,(Qf l y data fuel).2.1)
 else if(Qf l y data fuel).2.2.length≠Xh x.2.1 0 then([x.2.2],13)
 else if 16384<sum+(Qf l y data fuel).2.2.length then([y.2.2],2)
 else([],0)
def devX(l:Bl)(x y:Ent)(data fuel:Int):Dv:=((x.1,(Xh x.2.1 1:Int),(Xh x.2.1 2:Int),(Xh x.2.1 3:Int)),(Qf l y data fuel).2.2)
def Ie(l:Bl)(T:List Ent)(data fuel:Int):Nat→Nat
 | 0=>0
 | i+1=>Ie l T data fuel i+(Qf l (T.getD i Zg) data fuel).2.2.length
def Zbf(l:Bl)(D T:List Ent)(data fuel:Int)(i:Nat):List Int×Int:=Pa l (D.getD i Zg) (T.getD i Zg) data fuel (Ie l T data fuel i)
def devL(l:Bl)(D T:List Ent)(data fuel:Int)(i:Nat):List Dv:=(List.range i).map fun k=>devX l (D.getD k Zg) (T.getD k Zg) data fuel
theorem As(l:Bl)(D T:List Ent)(data fuel:Int)(i:Nat):(devL l D T data fuel i).length=i:=by simp[devL]
theorem Ue(l:Bl)(D T:List Ent)(data fuel:Int)(i:Nat):devL l D T data fuel (i+1)=devL l D T data fuel i++[devX l (D.getD i Zg) (T.getD i Zg) data fuel]:=by simp[devL,List.range_succ]
def devK(l:Bl)(D T:List Ent)(data fuel:Int)(i:Nat):Prop:=∀ j,j<i→(Zbf l D T data fuel j).2=0
theorem Ml{l:Bl}{D T:List Ent}{data fuel:Int}{i:Nat}(h:devK l D T data fuel i)(h2:(Zbf l D T data fuel i).2=0):devK l D T data fuel (i+1):=fun j hj=>by
 by_cases e:j=i
 ·subst e;exact h2
 ·exact h j (by omega)
def Th(l:Bl)(D T:List Ent)(data fuel:Int):List Int×Int×List Dv :=
 match (List.range D.length).find? (fun i=>(Zbf l D T data fuel i).2 != 0) with
 | some i=>((Zbf l D T data fuel i).1,(Zbf l D T data fuel i).2,[])
 | none=>([],0,devL l D T data fuel D.length)
theorem Mv{l:Bl}{D T:List Ent}{data fuel:Int}{i:Nat}(hi:i<D.length)(h:devK l D T data fuel i)(hb:(Zbf l D T data fuel i).2≠0):Th l D T data fuel=((Zbf l D T data fuel i).1,(Zbf l D T data fuel i).2,[]):=by
 unfold Th
 rw[show(List.range D.length).find? (fun i=>(Zbf l D T data fuel i).2 != 0)=some i from by
  rw[List.find?_range_eq_some]
  exact⟨by simpa using hb,List.mem_range.2 hi,fun m hm=>by simpa using h m hm⟩]
theorem Ar{l:Bl}{D T:List Ent}{data fuel:Int}(h:devK l D T data fuel D.length):Th l D T data fuel=([],0,devL l D T data fuel D.length):=by
 unfold Th
 rw[show(List.range D.length).find? (fun i=>(Zbf l D T data fuel i).2 != 0)=none from by
  rw[List.find?_eq_none]
  intro i hi
  have:=h i (List.mem_range.1 hi)
  simpa using this]
def Vw:List Ent→List Ent→Nat
 | [],[]=>0
 | [],_::_=>1
 | _::_,[]=>2
 | x::a,y::b=>if x.1=y.1 then Vw a b else if x.1<y.1 then 2 else 1
theorem Bg{D T:List Ent}(h:Vw D T=0):D.length=T.length∧∀ i,i<D.length→(D.getD i Zg).1=(T.getD i Zg).1:=by
 induction D generalizing T with
 | nil =>
  cases T with
  | nil=>exact⟨rfl,fun i hi=>absurd hi (by simp)⟩
  | cons y b=>simp[Vw] at h
 | cons x a ih =>
  cases T with
  | nil=>simp[Vw] at h
  | cons y b =>
   by_cases e:x.1=y.1
   ·have h2:Vw a b=0:=by simpa [Vw,e] using h
    obtain⟨h3,h4⟩:=ih h2
    refine⟨by simp[h3],fun i hi=>?_⟩
    cases i with
    | zero=>simpa [List.getD] using e
    | succ i=>simpa [List.getD] using h4 i (by simpa using hi)
   ·by_cases q:x.1<y.1<;>simp[Vw,e,q] at h
def Qp(l:Bl)(top details data fuel:Int):List Int×Int×List Dv :=
 if(Zd l details 3 fuel).fs≠[] then((Qi (Zd l details 3 fuel)).1,(Qi (Zd l details 3 fuel)).2,[])
 else if(Zd l top 1 fuel).fs≠[] then((Qi (Zd l top 1 fuel)).1,(Qi (Zd l top 1 fuel)).2,[])
 else if 4096<(Zd l details 3 fuel).es.length then([details],2,[])
 else if Vw (Zd l details 3 fuel).es (Zd l top 1 fuel).es=1 then([details],18,[])
 else if Vw (Zd l details 3 fuel).es (Zd l top 1 fuel).es=2 then([top],18,[])
 else Th l (Zd l details 3 fuel).es (Zd l top 1 fuel).es data fuel
end Go.Proofs.YtegcamkgeacjfaaGreatDoor
namespace Go.Proofs.YtegcamkgeacjfaaGreatDoor
set_option maxHeartbeats 8000000
set_option maxRecDepth 100000
open Go.RowKit Go.Extern.Stop Go.Stop Go.Extern
set_option linter.unusedVariables false
def dmgV(kind at_ code:Int):Value:=.agg #[V0 kind,V0 at_,V0 code]
theorem Zde{w:World}{B:Nat}{a b c:Int}{t:TypeId}(h:Blk w B [V0 a,V0 b,V0 c] t){fn:Func}{k:Nat}{tmps:Array Value}(hfn:fn.results=#[.cell k 100])(e:tmps.getD k undef=P0 B) :
 (results fn tmps).run Tryz.prog w=.ok (dmgV a b c) w:=by
 have c0:=h.cell (i:=0) rfl
 have c1:=h.cell (i:=1) rfl
 have c2:=h.cell (i:=2) rfl
 have e':tmps[k]?.getD undef=P0 B:=by simpa using e
 simp[results,hfn,go_sem,c0,c1,c2,e',dmgV]
def Ui(l:List Int):Int:=l.getLast?.getD (-1)
theorem Zcy{l:List Int}(h:l.length=0):Ui l = -1:=by rw[List.length_eq_zero_iff.1 h];rfl
theorem Zb7{l:List Int}(h:0<l.length):Ui l=l[l.length-1]:=by
 rw[Ui,List.getLast?_eq_getElem?,List.getElem?_eq_getElem (by omega)];rfl
theorem Ah(kind:Int)(t:Option Int)(l:List (Option Int))(v:Value)(w:World)(hlen:l.length≤1000000)(hg:Dz w)(hv:Yu w l t v) :
 C0 46 #[V0 kind,v] w (Ret (dmgV kind (Ui (Qe l)) (Nh l t)) w):=by
 have hB:=blx w (.cells #[V0 0,V0 0,V0 0] 100)
 have k0:=Blk.new w [V0 0,V0 0,V0 0] 100
 have a3:=Ft t l v _ hlen (hv.below hB)
 have a6:=fun(W:World) (hW:B0 w W)=>Zam t l v W (hg.below hW) (hv.below hW)
 clear hv hg hlen
 generalize Nh l t=c at a6 ⊢
 generalize Qe l=L at a3 ⊢
 obtain⟨q,hq⟩:∃ q,Ui L=q:=⟨_,rfl⟩
 rw[hq]
 have HQ:=Lib.hid hq;clear hq
 go_enter Tryz.func46,Tryz.ntmps46
 go_wp2_with fail
 refine a3.mono ?_
 rintro e w1 ⟨r,rfl,a5,h1⟩
 have a2:=bln hB a5
 have k1:=k0.below a5
 have hs:=Zi h1
 obtain⟨a,m,rfl⟩:=hs.slice
 have hC:=a6 w1 a2
 clear a5 k0 h1 hB a6 a3
 have hL:=hs.len
 by_cases h0:L.length=0
 ·have a4:=Lib.hid (Zcy h0)
  have a7:¬ ((0:Int)<(L.length:Int)):=by omega
  go_wp2_with fail
  refine hC.mono ?_
  rintro e w2 ⟨rfl,a1⟩
  have k2:=k1.below a1
  have d0:=k2.cell (i:=0) rfl
  have d1:=k2.cell (i:=1) rfl
  have d2:=k2.cell (i:=2) rfl
  have f0:=k2.frozen 0
  have f1:=k2.frozen 1
  have f2:=k2.frozen 2
  go_wp2_with fail
  exact bodyPost_ret (Zde (((k2.set 0 _).set 1 _).set 2 _) rfl rfl) rfl ⟨by rw[←HQ.out,a4.out],(((bln a2 a1).setCell (Nat.le_refl _) _).setCell (Nat.le_refl _) _).setCell (Nat.le_refl _) _⟩
 ·have hp:0<L.length:=by omega
  have a4:=Lib.hid (Zb7 hp)
  have a7:(0:Int)<(L.length:Int):=by omega
  rcases Sl.at hs with hn|⟨b,a8,rfl,a0⟩
  ·rw[List.map_eq_nil_iff] at hn;subst hn;exact absurd hp (by simp)
  have ck:=a0 (L.length-1) (V0 L[L.length-1]) (by simp[List.getElem?_eq_getElem (show L.length-1<L.length by omega)])
  have z1:(L.length:Int)-1=((L.length-1:Nat):Int):=by omega
  have i1:(0:Int)≤((L.length-1:Nat):Int):=by omega
  have i2:((L.length-1:Nat):Int)<(L.length:Int):=by omega
  clear a0
  go_wp2_with fail
  refine hC.mono ?_
  rintro e w2 ⟨rfl,a1⟩
  have k2:=k1.below a1
  have d0:=k2.cell (i:=0) rfl
  have d1:=k2.cell (i:=1) rfl
  have d2:=k2.cell (i:=2) rfl
  have f0:=k2.frozen 0
  have f1:=k2.frozen 1
  have f2:=k2.frozen 2
  go_wp2_with fail
  exact bodyPost_ret (Zde (((k2.set 0 _).set 1 _).set 2 _) rfl rfl) rfl ⟨by rw[←HQ.out,a4.out],(((bln a2 a1).setCell (Nat.le_refl _) _).setCell (Nat.le_refl _) _).setCell (Nat.le_refl _) _⟩
end Go.Proofs.YtegcamkgeacjfaaGreatDoor
namespace Go.Proofs.YtegcamkgeacjfaaGreatDoor
set_option maxHeartbeats 8000000
set_option maxRecDepth 100000
open Go.RowKit Go.Extern.Stop Go.Stop Go.Extern
set_option linter.unusedVariables false
attribute [local irreducible] wpList wpAnyH Code.wp Oper.wp
def dmc (d:Int×Int×Int):List Value:=[V0 d.1,V0 d.2.1,V0 d.2.2]
def Kk:List Value:=[V0 0,V0 0,V0 0,V0 0,V0 0,V0 0,V0 0,V0 0,V0 0,V0 0,V0 0]
theorem Lk(b:Nat)(F:Value)(w:World)(h:Blk w b [S0] 95) :
 C0 102 #[P0 b,V0 0,V0 1,F] w (Jl (fun w' r=>∃ y,r=.tuple #[.agg Kk.toArray,y]∧Yu w' [some 0] (some 3) y) w):=by
 refine calls_of_wp Tryz.func102 rfl ?_
 refine g_fr ⟨#[P0 b,V0 0,V0 1,F,undef,undef,undef,undef,undef,undef,undef,undef,undef,undef,undef,undef,undef,undef,undef,undef,undef,undef,undef,undef,undef,undef,undef,undef,undef,undef,undef,undef,undef,undef,undef,undef,undef,undef,undef,undef,undef,undef,undef,undef,undef,undef,undef,undef,undef,undef,undef,undef,undef,undef,undef,undef],[]⟩ (by kernel_rfl) ?_
 refine wp_seq ?_
 refine wp_region_lit ?_
 refine Yb (by kernel_rfl) (Xw [V0 0,V0 0,V0 0,V0 0,V0 0,V0 0,V0 0,V0 0,V0 0,V0 0,V0 0] rfl (by kernel_rfl) ?_)
 intro b1 W1 n1
 have g1:=n1.ge (Below.refl _ _)
 have hB:=n1.below
 have k1:=n1.blk
 refine Qb 1 ⟨#[P0 b,V0 0,V0 1,F,undef,undef,undef,undef,P0 b1,.nilIface,undef,undef,undef,undef,undef,undef,undef,undef,undef,undef,undef,undef,undef,undef,undef,undef,undef,undef,undef,undef,undef,undef,undef,undef,undef,undef,undef,undef,undef,undef,undef,undef,undef,undef,undef,undef,undef,undef,undef,undef,undef,undef,undef,undef,undef,undef],[]⟩ (by kernel_rfl) ?_
 refine wpList_nil ?_
 refine wp_seq ?_
 refine wp_region_lit ?_
 refine Yb (by kernel_rfl) (Xw [V0 0,V0 0,V0 0,V0 0,V0 0,V0 0,V0 0,V0 0,V0 0,V0 0,V0 0] rfl (by kernel_rfl) ?_)
 intro b2 W2 n2
 have d2_b1:=n2.ne k1
 have g2:=n2.ge hB
 replace hB:=bln hB n2.below
 replace k1:=k1.below n2.below
 have k2:=n2.blk
 refine wpList_nil ?_
 refine wp_seq ?_
 refine wp_region_lit ?_
 refine Qb 2 ⟨#[P0 b,V0 0,V0 1,F,undef,undef,undef,undef,P0 b1,.nilIface,P0 b2,undef,undef,undef,undef,undef,P0 b,V0 0,undef,undef,undef,undef,undef,undef,undef,undef,undef,undef,undef,undef,undef,undef,undef,undef,undef,undef,undef,undef,undef,undef,undef,undef,undef,undef,undef,undef,undef,undef,undef,undef,undef,undef,undef,undef,undef,undef],[]⟩ (by kernel_rfl) ?_
 refine Yb (by kernel_rfl) (Yh 26 #[P0 b,V0 0] rfl rfl (fun _ _=>by kernel_rfl) (by kernel_rfl) ((Lj b 0 _ (h.below hB) (by omega)).mono ?_))
 rintro e W3 ⟨rfl,hb3⟩
 refine⟨_,rfl,?_⟩
 replace hB:=bln hB hb3
 replace k1:=k1.below hb3
 replace k2:=k2.below hb3
 refine Qb 5 ⟨#[P0 b,V0 0,V0 1,F,undef,undef,undef,undef,P0 b1,.nilIface,P0 b2,S0,V0 3,undef,undef,.tuple #[S0,V0 3],P0 b,V0 0,.tuple #[S0,V0 3],S0,V0 3,undef,undef,undef,undef,undef,undef,undef,undef,undef,undef,undef,undef,undef,undef,undef,undef,undef,undef,undef,undef,undef,undef,undef,undef,undef,undef,undef,undef,undef,undef,undef,undef,undef,undef,undef],[]⟩ (by kernel_rfl) ?_
 refine wpList_nil ?_
 refine wp_seq ?_
 refine wp_seq ?_
 refine wp_region_lit ?_
 refine Qb 2 ⟨#[P0 b,V0 0,V0 1,F,undef,undef,undef,undef,P0 b1,.nilIface,P0 b2,S0,V0 3,undef,undef,.tuple #[S0,V0 3],P0 b,V0 0,.tuple #[S0,V0 3],S0,V0 3,V0 3,.bool true,undef,undef,undef,undef,undef,undef,undef,undef,undef,undef,undef,undef,undef,undef,undef,undef,undef,undef,undef,undef,undef,undef,undef,undef,undef,undef,undef,undef,undef,undef,undef,undef,undef],[]⟩ (by kernel_rfl) ?_
 refine wpList_nil ?_
 refine wp_cond_true rfl ?_
 refine wp_seq ?_
 replace hB:=bln hB (Za W3)
 replace k1:=k1.below (Za W3)
 replace k2:=k2.below (Za W3)
 refine h_reg (BelowBut (W3.drew) b1) 7 rfl #[false,false,false,false,false,false,false] rfl (by kernel_rfl) ((Below.refl _ _).but _) ?_
 intro hS4
 have kd6_b1:=k1
 have kd6_b2:=k2
 have hBd6:=hB
 refine h_loadv 0 6 rfl [V0 0,V0 0,V0 0,V0 0,V0 0,V0 0,V0 0,V0 0,V0 0,V0 0,V0 0] _ rfl (by kernel_rfl) (by kernel_rfl) (by kernel_rfl) (fun _ _ _ _ _ h=>h) (by kernel_rfl) rfl rfl Tryz.underlying44 rfl (by kernel_rfl) (fun V hV=>(hV.blk kd6_b2 (Ne.symm d2_b1)).range) hS4 ?_
 refine Zby [1,2,3] 3 rfl #[true,true,true,true,false,false,false] ⟨#[P0 b,V0 0,V0 1,F,undef,undef,undef,undef,P0 b1,.nilIface,P0 b2,S0,V0 3,undef,undef,.tuple #[S0,V0 3],P0 b,V0 0,.tuple #[S0,V0 3],S0,V0 3,V0 3,.bool true,.agg #[V0 0,V0 0,V0 0,V0 0,V0 0,V0 0,V0 0,V0 0,V0 0,V0 0,V0 0],V0 0,V0 3,.iface 63 (V0 3),undef,undef,undef,undef,undef,undef,undef,undef,undef,undef,undef,undef,undef,undef,undef,undef,undef,undef,undef,undef,undef,undef,undef,undef,undef,undef,undef,undef,undef],[]⟩ (by kernel_rfl) (fun _ _ _ _ _ h=>h) (by kernel_rfl) hS4 ?_
 refine Ku 4 2 rfl (by kernel_rfl) rfl (by kernel_rfl) (Yh 172 #[V0 0,.iface 63 (V0 3)] rfl rfl (fun _ _=>by kernel_rfl) (by kernel_rfl) ((Qs 0 3 _).mono ?_))
 rintro e W7 ⟨r,rfl,hb7,hr⟩
 refine⟨_,rfl,?_⟩
 replace hB:=bln hB hb7
 replace k1:=k1.below hb7
 replace k2:=k2.below hb7
 have hS8:BelowBut (W3.drew) b1 (W7):=hS4.next hb7
 refine⟨hS8,?_⟩
 refine Ku 5 1 rfl (by kernel_rfl) rfl (by kernel_rfl) (Ya [V0 0,V0 0,V0 0,V0 0,V0 0,V0 0,V0 0,V0 0,V0 0,V0 0,V0 0] rfl rfl rfl (by kernel_rfl) (by decide) k1 (by decide) ?_)
 intro W9 u9 k9
 change Blk _ _ [V0 0,V0 0,V0 0,V0 0,V0 0,V0 0,V0 0,V0 0,V0 0,V0 0,V0 0] _ at k9
 replace hB:=u9.below hB g1
 replace k2:=u9.blk k2 (Ne.symm d2_b1)
 replace hr:=hr.upd u9 k1 (by decide)
 have hS10:BelowBut (W3.drew) b1 (W9):=hS8.upd u9
 refine⟨hS10,?_⟩
 refine Zby [6] 0 rfl #[true,true,true,true,true,true,true] ⟨#[P0 b,V0 0,V0 1,F,undef,undef,undef,undef,P0 b1,r,P0 b2,S0,V0 3,undef,undef,.tuple #[S0,V0 3],P0 b,V0 0,.tuple #[S0,V0 3],S0,V0 3,V0 3,.bool true,.agg #[V0 0,V0 0,V0 0,V0 0,V0 0,V0 0,V0 0,V0 0,V0 0,V0 0,V0 0],V0 0,V0 3,.iface 63 (V0 3),r,undef,undef,undef,undef,undef,undef,undef,undef,undef,undef,undef,undef,undef,undef,undef,undef,undef,undef,undef,undef,undef,undef,undef,undef,undef,undef,undef,undef],[]⟩ (by kernel_rfl) (fun _ _ _ _ _ h=>h) (by kernel_rfl) hS10 ?_
 refine Wf _ (by kernel_rfl) ?_
 refine wp_ret ?_
 show bodyPost _ _ _ .ret _ _
 exact Zcs (.tuple #[.agg #[V0 0,V0 0,V0 0,V0 0,V0 0,V0 0,V0 0,V0 0,V0 0,V0 0,V0 0],r]) rfl (Zdc (d:=_) (cs:=[V0 0,V0 0,V0 0,V0 0,V0 0,V0 0,V0 0,V0 0,V0 0,V0 0,V0 0]) rfl (by kernel_rfl) (by kernel_rfl) k9.range Tryz.underlying44 rfl (by kernel_rfl)) ⟨_,rfl,hB,_,rfl,hr⟩
theorem Ms(b:Nat)(w:World)(h:Blk w b [S0] 95) :
 C0 45 #[P0 b] w (Jl (fun w' r=>∃ y,r=.tuple #[.agg Kk.toArray,y]∧Yu w' [some 0] (some 3) y) w):=by
 refine calls_of_wp Tryz.func45 rfl ?_
 refine g_fr ⟨#[P0 b,undef,undef,undef,undef,undef,undef,undef,undef],[]⟩ (by kernel_rfl) ?_
 refine wp_seq ?_
 refine wp_region_lit ?_
 refine Yb (by kernel_rfl) (Cj [P0 b] rfl (by kernel_rfl) ?_)
 intro b1 W1 n1
 have g1:=n1.ge (Below.refl _ _)
 have hB:=n1.below
 have k1:=n1.blk
 refine Yb (by kernel_rfl) (Xw [V0 0,V0 0,V0 0,V0 0,V0 0,V0 0,V0 0,V0 0,V0 0,V0 0,V0 0] rfl (by kernel_rfl) ?_)
 intro b2 W2 n2
 have a0:=n2.ne k1
 have g2:=n2.ge hB
 replace hB:=bln hB n2.below
 replace k1:=k1.below n2.below
 have k2:=n2.blk
 refine Qb 1 ⟨#[P0 b,P0 b1,P0 b2,.nilIface,undef,undef,undef,undef,undef],[]⟩ (by kernel_rfl) ?_
 refine wpList_nil ?_
 refine wp_seq ?_
 refine wp_region_lit ?_
 refine Yb (by kernel_rfl) (Yc _ (P0 b) rfl rfl (by kernel_rfl) (k1.cell (i:=0) rfl) ?_)
 refine Qb 1 ⟨#[P0 b,P0 b1,P0 b2,.nilIface,P0 b,.func (.func 103) #[] #[P0 b1],undef,undef,undef],[]⟩ (by kernel_rfl) ?_
 refine Yb (by kernel_rfl) (Yh 102 #[P0 b,V0 0,V0 1,.func (.func 103) #[] #[P0 b1]] rfl rfl (fun _ _=>by kernel_rfl) (by kernel_rfl) ((Lk b (.func (.func 103) #[] #[P0 b1]) _ (h.below hB)).mono ?_))
 rintro e W3 ⟨_,rfl,a1,y,rfl,hr⟩
 refine⟨_,rfl,?_⟩
 replace hB:=bln hB a1
 replace k1:=k1.below a1
 replace k2:=k2.below a1
 refine Qb 2 ⟨#[P0 b,P0 b1,P0 b2,.nilIface,P0 b,.func (.func 103) #[] #[P0 b1],.tuple #[.agg Kk.toArray,y],.agg Kk.toArray,y],[]⟩ (by kernel_rfl) ?_
 refine Yb (by kernel_rfl) (Ya Kk rfl rfl rfl (by kernel_rfl) (by decide) k2 (by decide) ?_)
 intro W4 u4 k4
 change Blk _ _ Kk _ at k4
 replace hB:=u4.below hB g2
 replace k1:=u4.blk k1 (Ne.symm (Ne.symm a0))
 replace hr:=hr.upd u4 k2 (by decide)
 refine Qb 1 ⟨#[P0 b,P0 b1,P0 b2,y,P0 b,.func (.func 103) #[] #[P0 b1],.tuple #[.agg Kk.toArray,y],.agg Kk.toArray,y],[]⟩ (by kernel_rfl) ?_
 refine wpList_nil ?_
 refine wp_ret ?_
 show bodyPost _ _ _ .ret _ _
 exact Zcs (.tuple #[.agg Kk.toArray,y]) rfl (Zdc (d:=_) (cs:=Kk) rfl (by kernel_rfl) (by kernel_rfl) k4.range Tryz.underlying44 rfl (by kernel_rfl)) ⟨_,rfl,hB,_,rfl,hr⟩
theorem Px(b:Nat)(w:World)(hg:Dz w)(h:Blk w b [S0] 95) :
 C0 17 #[P0 b] w (Jl (fun w' r=>∃ g,r=.tuple #[.agg Kk.toArray,.slice (S1 g) 1 1]∧Blk w' g [V0 1,V0 0,V0 3] 100) w):=by
 refine calls_of_wp Tryz.func17 rfl ?_
 refine g_fr ⟨#[P0 b,undef,undef,undef,undef,undef,undef,undef,undef,undef,undef,undef,undef,undef,undef,undef,undef,undef],[]⟩ (by kernel_rfl) ?_
 refine wp_seq ?_
 refine wp_region_lit ?_
 refine Yb (by kernel_rfl) (Xw [V0 0,V0 0,V0 0,V0 0,V0 0,V0 0,V0 0,V0 0,V0 0,V0 0,V0 0] rfl (by kernel_rfl) ?_)
 intro b1 W1 n1
 have g1:=n1.ge (Below.refl _ _)
 have hB:=n1.below
 have k1:=n1.blk
 refine Qb 1 ⟨#[P0 b,undef,P0 b1,S0,undef,undef,undef,undef,undef,undef,undef,undef,undef,undef,undef,undef,undef,undef],[]⟩ (by kernel_rfl) ?_
 refine wpList_nil ?_
 refine wp_seq ?_
 refine wp_region_lit ?_
 refine Qb 1 ⟨#[P0 b,undef,P0 b1,S0,undef,undef,undef,P0 b,undef,undef,undef,undef,undef,undef,undef,undef,undef,undef],[]⟩ (by kernel_rfl) ?_
 refine Yb (by kernel_rfl) (Yh 45 #[P0 b] rfl rfl (fun _ _=>by kernel_rfl) (by kernel_rfl) ((Ms b _ (h.below hB)).mono ?_))
 rintro e W2 ⟨_,rfl,a3,y,rfl,hr⟩
 refine⟨_,rfl,?_⟩
 replace hB:=bln hB a3
 replace k1:=k1.below a3
 obtain⟨ty,x,rfl⟩:=(hr.nil_or.resolve_left (fun q=>by cases q.1)).2
 refine Qb 3 ⟨#[P0 b,undef,P0 b1,S0,undef,undef,.tuple #[.agg Kk.toArray,.iface ty (x)],P0 b,.tuple #[.agg Kk.toArray,.iface ty (x)],.agg Kk.toArray,.iface ty (x),undef,undef,undef,undef,undef,undef,undef],[]⟩ (by kernel_rfl) ?_
 refine Yb (by kernel_rfl) (Xw [V0 0,V0 0,V0 0,V0 0,V0 0,V0 0,V0 0,V0 0,V0 0,V0 0,V0 0] rfl (by kernel_rfl) ?_)
 intro b3 W3 n3
 have a0:=n3.ne k1
 have g3:=n3.ge hB
 replace hB:=bln hB n3.below
 replace k1:=k1.below n3.below
 replace hr:=hr.below n3.below
 have k3:=n3.blk
 refine Yb (by kernel_rfl) (Ya Kk rfl rfl rfl (by kernel_rfl) (by decide) k3 (by decide) ?_)
 intro W4 u4 k4
 change Blk _ _ Kk _ at k4
 replace hB:=u4.below hB g3
 replace k1:=u4.blk k1 (Ne.symm (Ne.symm a0))
 replace hr:=hr.upd u4 k3 (by decide)
 refine Qb 1 ⟨#[P0 b,undef,P0 b1,S0,P0 b3,.iface ty (x),.tuple #[.agg Kk.toArray,.iface ty (x)],P0 b,.tuple #[.agg Kk.toArray,.iface ty (x)],.agg Kk.toArray,.iface ty (x),undef,undef,undef,undef,undef,undef,undef],[]⟩ (by kernel_rfl) ?_
 refine wpList_nil ?_
 refine wp_seq ?_
 refine wp_seq ?_
 refine wp_region_lit ?_
 refine Qb 2 ⟨#[P0 b,undef,P0 b1,S0,P0 b3,.iface ty (x),.tuple #[.agg Kk.toArray,.iface ty (x)],P0 b,.tuple #[.agg Kk.toArray,.iface ty (x)],.agg Kk.toArray,.iface ty (x),.iface ty (x),.bool true,undef,undef,undef,undef,undef],[]⟩ (by kernel_rfl) ?_
 refine wpList_nil ?_
 refine wp_cond_true rfl ?_
 refine wp_seq ?_
 refine wp_region_lit ?_
 refine Qb 2 ⟨#[P0 b,undef,P0 b1,S0,P0 b3,.iface ty (x),.tuple #[.agg Kk.toArray,.iface ty (x)],P0 b,.tuple #[.agg Kk.toArray,.iface ty (x)],.agg Kk.toArray,.iface ty (x),.iface ty (x),.bool true,.agg #[V0 0,V0 0,V0 0,V0 0,V0 0,V0 0,V0 0,V0 0,V0 0,V0 0,V0 0],.iface ty (x),undef,undef,undef],[]⟩ (by kernel_rfl) ?_
 refine Yb (by kernel_rfl) (Yh 46 #[V0 1,.iface ty (x)] rfl rfl (fun _ _=>by kernel_rfl) (by kernel_rfl) ((Ah 1 (some 3) [some 0] (.iface ty (x)) _ (by decide) (hg.below hB) hr).mono ?_))
 rintro e W5 ⟨rfl,a2⟩
 refine⟨_,rfl,?_⟩
 replace hB:=bln hB a2
 replace k1:=k1.below a2
 replace k4:=k4.below a2
 replace hr:=hr.below a2
 refine Yb (by kernel_rfl) (Yi 100 [V0 1,V0 0,V0 3] rfl (by kernel_rfl) ?_)
 intro b6 W6 n6
 have a1:=n6.ne k1
 have a4:=n6.ne k4
 have g6:=n6.ge hB
 replace hB:=bln hB n6.below
 replace k1:=k1.below n6.below
 replace k4:=k4.below n6.below
 replace hr:=hr.below n6.below
 have k6:=n6.blk
 refine Yb (by kernel_rfl) (Ya [V0 0,V0 0,V0 0,V0 0,V0 0,V0 0,V0 0,V0 0,V0 0,V0 0,V0 0] rfl rfl rfl (by kernel_rfl) (by decide) k1 (by decide) ?_)
 intro W7 u7 k7
 change Blk _ _ [V0 0,V0 0,V0 0,V0 0,V0 0,V0 0,V0 0,V0 0,V0 0,V0 0,V0 0] _ at k7
 replace hB:=u7.below hB g1
 replace k4:=u7.blk k4 (Ne.symm a0)
 replace k6:=u7.blk k6 (Ne.symm a1)
 replace hr:=hr.upd u7 k1 (by decide)
 refine Qb 1 ⟨#[P0 b,undef,P0 b1,.slice (S1 b6) 1 1,P0 b3,.iface ty (x),.tuple #[.agg Kk.toArray,.iface ty (x)],P0 b,.tuple #[.agg Kk.toArray,.iface ty (x)],.agg Kk.toArray,.iface ty (x),.iface ty (x),.bool true,.agg #[V0 0,V0 0,V0 0,V0 0,V0 0,V0 0,V0 0,V0 0,V0 0,V0 0,V0 0],.iface ty (x),.agg #[V0 1,V0 0,V0 3],.slice (S1 b6) 1 1,undef],[]⟩ (by kernel_rfl) ?_
 refine wpList_nil ?_
 refine wp_ret ?_
 show bodyPost _ _ _ .ret _ _
 exact Zcs (.tuple #[.agg #[V0 0,V0 0,V0 0,V0 0,V0 0,V0 0,V0 0,V0 0,V0 0,V0 0,V0 0],.slice (S1 b6) 1 1]) rfl (Zdc (d:=_) (cs:=[V0 0,V0 0,V0 0,V0 0,V0 0,V0 0,V0 0,V0 0,V0 0,V0 0,V0 0]) rfl (by kernel_rfl) (by kernel_rfl) k7.range Tryz.underlying44 rfl (by kernel_rfl)) ⟨_,rfl,hB,_,rfl,k6⟩
theorem Sq(w:World)(hg:Dz w) :
 C0 14 #[] w (Ret (.bool true) w):=by
 refine calls_of_wp Tryz.func14 rfl ?_
 refine g_fr ⟨#[undef,undef,undef,undef,undef,undef,undef,undef,undef,undef,undef,undef,undef,undef,undef,undef,undef,undef],[]⟩ (by kernel_rfl) ?_
 refine wp_seq ?_
 refine wp_region_lit ?_
 refine Qb 1 ⟨#[.bool false,undef,undef,undef,undef,undef,undef,undef,undef,undef,undef,undef,undef,undef,undef,undef,undef,undef],[]⟩ (by kernel_rfl) ?_
 refine wpList_nil ?_
 refine wp_seq ?_
 refine wp_region_lit ?_
 refine Yb (by kernel_rfl) (Yh 15 #[S0] rfl rfl (fun _ _=>by kernel_rfl) (by kernel_rfl) ((Ex _).mono ?_))
 rintro e W1 ⟨rfl,rfl⟩
 refine⟨_,rfl,?_⟩
 have kI:=Blk.new w [S0] 95
 have a1:=blx w (.cells #[S0] 95)
 have hB:=a1
 refine Yb (by kernel_rfl) (Yh 17 #[.pointer (some ⟨w.heap.size,0,none⟩)] rfl rfl (fun _ _=>by kernel_rfl) (by kernel_rfl) ((Px w.heap.size _ (hg.below hB) kI).mono ?_))
 rintro e W3 ⟨_,rfl,a2,g,rfl,kD⟩
 refine⟨_,rfl,?_⟩
 replace hB:=bln hB a2
 refine Qb 3 ⟨#[.bool false,undef,undef,.tuple #[.agg Kk.toArray,.slice (S1 g) 1 1],.pointer (some ⟨w.heap.size,0,none⟩),.tuple #[.agg Kk.toArray,.slice (S1 g) 1 1],.agg Kk.toArray,.slice (S1 g) 1 1,undef,undef,undef,undef,undef,undef,undef,undef,undef,undef],[]⟩ (by kernel_rfl) ?_
 refine Yb (by kernel_rfl) (Xw [V0 0,V0 0,V0 0,V0 0,V0 0,V0 0,V0 0,V0 0,V0 0,V0 0,V0 0] rfl (by kernel_rfl) ?_)
 intro b4 W4 n4
 have a0:=n4.ne kD
 have g4:=n4.ge hB
 replace hB:=bln hB n4.below
 replace kD:=kD.below n4.below
 have k4:=n4.blk
 refine Yb (by kernel_rfl) (Ya Kk rfl rfl rfl (by kernel_rfl) (by decide) k4 (by decide) ?_)
 intro W5 u5 k5
 change Blk _ _ Kk _ at k5
 replace hB:=u5.below hB g4
 replace kD:=u5.blk kD (Ne.symm (Ne.symm a0))
 refine Qb 1 ⟨#[.bool false,P0 b4,.slice (S1 g) 1 1,.tuple #[.agg Kk.toArray,.slice (S1 g) 1 1],.pointer (some ⟨w.heap.size,0,none⟩),.tuple #[.agg Kk.toArray,.slice (S1 g) 1 1],.agg Kk.toArray,.slice (S1 g) 1 1,undef,undef,undef,undef,undef,undef,undef,undef,undef,undef],[]⟩ (by kernel_rfl) ?_
 refine wpList_nil ?_
 refine wp_seq ?_
 refine wp_region_lit ?_
 refine Qb 6 ⟨#[.bool false,P0 b4,.slice (S1 g) 1 1,.tuple #[.agg Kk.toArray,.slice (S1 g) 1 1],.pointer (some ⟨w.heap.size,0,none⟩),.tuple #[.agg Kk.toArray,.slice (S1 g) 1 1],.agg Kk.toArray,.slice (S1 g) 1 1,.slice (S1 g) 1 1,V0 1,.bool true,.bool true,.slice (S1 g) 1 1,P0 g,undef,undef,undef,undef],[]⟩ (by kernel_rfl) ?_
 refine Yb (by kernel_rfl) (Dc [V0 1,V0 0,V0 3] _ rfl rfl Tryz.underlying100 rfl (by kernel_rfl) kD.range ?_)
 refine Qb 4 ⟨#[.bool true,P0 b4,.slice (S1 g) 1 1,.tuple #[.agg Kk.toArray,.slice (S1 g) 1 1],.pointer (some ⟨w.heap.size,0,none⟩),.tuple #[.agg Kk.toArray,.slice (S1 g) 1 1],.agg Kk.toArray,.slice (S1 g) 1 1,.slice (S1 g) 1 1,V0 1,.bool true,.bool true,.slice (S1 g) 1 1,P0 g,.agg #[V0 1,V0 0,V0 3],.agg #[V0 1,V0 0,V0 3],.bool true,.bool true],[]⟩ (by kernel_rfl) ?_
 refine wpList_nil ?_
 refine wp_ret ?_
 show bodyPost _ _ _ .ret _ _
 exact Zcs (.bool true) rfl (by kernel_rfl) ⟨rfl,hB⟩
end Go.Proofs.YtegcamkgeacjfaaGreatDoor
namespace Go.Proofs.YtegcamkgeacjfaaGreatDoor
set_option maxHeartbeats 8000000
set_option maxRecDepth 100000
open Go.RowKit Go.Extern.Stop Go.Stop Go.Extern
set_option linter.unusedVariables false
attribute [local irreducible] wpList wpAnyH Code.wp Oper.wp Go
structure Sup where
 tx:Int
 time:Int
 unit:Int
 data:Int
 blocks:Int
 top:Int
 details:Int
 dslots:Int
 dover:Int
 mindex:Int
 mover:Int
def supC(s:Sup):List Value:=[V0 s.tx,V0 s.time,V0 s.unit,V0 s.data,V0 s.blocks,V0 s.top,V0 s.details,V0 s.dslots,V0 s.dover,V0 s.mindex,V0 s.mover]
abbrev Dg:=Int×Int×Int
def Qd(k:Int)(f:List Int×Int):Dg:=(k,Ui f.1,f.2)
def Lh(x:Ent):Int:=if 16777215<x.1 then 9 else Xc Vd x.2.1
def Eu(x:Ent):List Dg:=if Lh x=0 then [] else [((2:Int),x.2.2,Lh x)]
def Jm(es:List Ent):List Dg:=es.flatMap Eu
def Dr(data:Int)(x:Ent):List Dg:=if Qn data x.2.1=0 then [] else [((3:Int),x.2.2,Qn data x.2.1)]
def Hu(data:Int)(es:List Ent):List Dg:=es.flatMap (Dr data)
def Rw(data:Int)(x:Ent):List Mp:=if Qn data x.2.1=0 then [Zaw x] else []
def mapM(data:Int)(es:List Ent):List Mp:=es.flatMap (Rw data)
def Fc(l:Bl)(data fuel r:Int):List Dg:=(Zd l r 2 fuel).fs.map (Qd 3)++Hu data (Zd l r 2 fuel).es
def Ji(l:Bl)(data fuel r:Int):List Mp:=mapM data (Zd l r 2 fuel).es
def Pb(seen:List Int)(x:Ent):List Int:=if Xk x.2.1=0∧((Zo x.2.1:Nat):Int)∉seen then seen++[((Zo x.2.1:Nat):Int)] else seen
def Gy(l:Bl)(data fuel:Int)(seen:List Int)(x:Ent):List Dg:=if Xk x.2.1=0 then(if((Zo x.2.1:Nat):Int)∈seen then [] else Fc l data fuel (Zo x.2.1:Nat)) else [((3:Int),x.2.2,Xk x.2.1)]
def Uy(l:Bl)(data fuel:Int):List Ent→List Int→List Dg
 | [],_=>[]
 | x::T,seen=>Gy l data fuel seen x++Uy l data fuel T (Pb seen x)
def Ys(T:List Ent):List Int:=T.foldl Pb []
theorem Hn(T:List Ent)(x:Ent):Ys (T++[x])=Pb (Ys T) x:=by simp[Ys]
theorem Zei(T:List Ent)(r:Int):r∈Ys T↔∃ x∈T,Xk x.2.1=0∧((Zo x.2.1:Nat):Int)=r:=by
 suffices h:∀ (T:List Ent) (s:List Int),r∈T.foldl Pb s↔r∈s∨∃ x∈T,Xk x.2.1=0∧((Zo x.2.1:Nat):Int)=r by
  rw[Ys,h];simp
 intro T
 induction T with
 | nil=>intro s;simp
 | cons x T ih =>
  intro s
  rw[List.foldl_cons,ih]
  unfold Pb
  by_cases h1:Xk x.2.1=0
  ·by_cases h2:((Zo x.2.1:Nat):Int)∈s
   ·rw[if_neg (fun q=>q.2 h2)]
    constructor
    ·rintro(h|⟨y,hy,h⟩)
     ·exact .inl h
     ·exact .inr ⟨y,List.mem_cons_of_mem _ hy,h⟩
    ·rintro(h|⟨y,hy,h3,h4⟩)
     ·exact .inl h
     ·rcases List.mem_cons.1 hy with rfl|hy
      ·exact .inl (h4▸h2)
      ·exact .inr ⟨y,hy,h3,h4⟩
   ·rw[if_pos ⟨h1,h2⟩]
    constructor
    ·rintro(h|⟨y,hy,h⟩)
     ·rcases List.mem_append.1 h with h|h
      ·exact .inl h
      ·exact .inr ⟨x,List.mem_cons_self,h1,(List.mem_singleton.1 h).symm⟩
     ·exact .inr ⟨y,List.mem_cons_of_mem _ hy,h⟩
    ·rintro(h|⟨y,hy,h3,h4⟩)
     ·exact .inl (List.mem_append_left _ h)
     ·rcases List.mem_cons.1 hy with rfl|hy
      ·exact .inl (List.mem_append_right _ (List.mem_singleton.2 h4.symm))
      ·exact .inr ⟨y,hy,h3,h4⟩
  ·rw[if_neg (fun q=>h1 q.1)]
   constructor
   ·rintro(h|⟨y,hy,h⟩)
    ·exact .inl h
    ·exact .inr ⟨y,List.mem_cons_of_mem _ hy,h⟩
   ·rintro(h|⟨y,hy,h3,h4⟩)
    ·exact .inl h
    ·rcases List.mem_cons.1 hy with rfl|hy
     ·exact absurd h3 h1
     ·exact .inr ⟨y,hy,h3,h4⟩
def Xe(l:Bl)(s:Sup)(fuel:Int):List Dg:=(Zd l s.details 3 fuel).fs.map (Qd 2)++Jm (Zd l s.details 3 fuel).es++(Zd l s.top 1 fuel).fs.map (Qd 3)++Uy l s.data fuel (Zd l s.top 1 fuel).es []
def Uj(L:List Ent)(id:Int):Option Ent:=L.find? fun x=>x.1==id
def Tp(l:Bl)(data fuel:Int)(D T:List Ent)(id:Int):List Dg :=
 match Uj D id,Uj T id with
 | some x,some y=>if((Xh x.2.1 0:Nat):Int)=(Ji l data fuel (Zo y.2.1:Nat)).length then [] else [((4:Int),id,(13:Int))]
 | _,_=>[((4:Int),id,(18:Int))]
def Ip(l:Bl)(data fuel:Int)(D T:List Ent)(id:Int):List Dv :=
 match Uj D id,Uj T id with
 | some x,some y=>[((id,((Xh x.2.1 1:Nat):Int),((Xh x.2.1 2:Nat):Int),((Xh x.2.1 3:Nat):Int)),Ji l data fuel (Zo y.2.1:Nat))]
 | _,_=>[]
def Cv(D T:List Ent)(P:List Int):Prop:=P.Pairwise (·<·)∧∀ z,z∈P↔z∈D.map Prod.fst∨z∈T.map Prod.fst
theorem Nq:∀ {P Q:List Int},P.Pairwise (·<·)→Q.Pairwise (·<·)→(∀ z,z∈P↔z∈Q)→P=Q
  | [],[],_,_,_=>rfl
  | [],b::Q,_,_,h=>absurd ((h b).2 List.mem_cons_self) (by simp)
  | a::P,[],_,_,h=>absurd ((h a).1 List.mem_cons_self) (by simp)
  | a::P,b::Q,hp,hq,h=>by
    rw[List.pairwise_cons] at hp hq
    have e:a=b:=by
      rcases List.mem_cons.1 ((h a).1 List.mem_cons_self) with e|m
      · exact e
      · rcases List.mem_cons.1 ((h b).2 List.mem_cons_self) with e|m2
        · exact e.symm
        · have:=hq.1 a m;have:=hp.1 b m2;omega
    subst e
    congr 1
    refine Nq hp.2 hq.2 fun z=>?_
    constructor
    · intro m
      have:=hp.1 z m
      rcases List.mem_cons.1 ((h z).1 (List.mem_cons_of_mem _ m)) with e|m2
      · omega
      · exact m2
    · intro m
      have:=hq.1 z m
      rcases List.mem_cons.1 ((h z).2 (List.mem_cons_of_mem _ m)) with e|m2
      · omega
      · exact m2
theorem Cv.eq{D T:List Ent}{P Q:List Int}(h:Cv D T P)(k:Cv D T Q):P=Q:=Nq h.1 k.1 fun z=>(h.2 z).trans (k.2 z).symm
theorem Dt(D T:List Ent):∃ P,Cv D T P:=by
  have h:∀ L:List Int,∃ P:List Int,P.Pairwise (·<·)∧∀ z,z∈P↔z∈L:=by
    intro L
    induction L with
    | nil=>exact⟨[],.nil,fun z=>Iff.rfl⟩
    | cons a L ih =>
      obtain⟨P,h1,h2⟩:=ih
      refine⟨P.filter (·<a)++a::P.filter (a<·),?_,fun z=>?_⟩
      · rw[List.pairwise_append]
        refine⟨h1.filter _,?_,fun x hx y hy=>?_⟩
        · rw[List.pairwise_cons]
          exact⟨fun y hy=>by simpa using (List.mem_filter.1 hy).2,h1.filter _⟩
        · have:=(List.mem_filter.1 hx).2
          simp only[decide_eq_true_eq] at this
          rcases List.mem_cons.1 hy with rfl|hy
          · exact this
          · have h3:=(List.mem_filter.1 hy).2
            simp only[decide_eq_true_eq] at h3
            omega
      · simp only[List.mem_append,List.mem_filter,List.mem_cons,decide_eq_true_eq,h2]
        constructor
        · rintro(⟨h,_⟩|rfl|⟨h,_⟩)
          · exact .inr h
          · exact .inl rfl
          · exact .inr h
        · rintro(rfl|h)
          · exact .inr (.inl rfl)
          · by_cases e:z=a
            · exact .inr (.inl e)
            · by_cases q:z<a
              · exact .inl ⟨h,q⟩
              · exact .inr (.inr ⟨h,by omega⟩)
  obtain⟨P,h1,h2⟩:=h (D.map Prod.fst++T.map Prod.fst)
  exact⟨P,h1,fun z=>by rw[h2,List.mem_append]⟩
def Vc(l:Bl)(data fuel:Int)(D T:List Ent)(P:List Int):List Dg:=P.flatMap (Tp l data fuel D T)
def Uh(l:Bl)(data fuel:Int)(D T:List Ent)(P:List Int):List Dv:=P.flatMap (Ip l data fuel D T)
def audO(l:Bl)(s:Sup)(fuel:Int)(P:List Int):List Dg×List Dv :=
 if Xe l s fuel≠[] then(Xe l s fuel,[])
 else if Vc l s.data fuel (Zd l s.details 3 fuel).es (Zd l s.top 1 fuel).es P≠[] then(Vc l s.data fuel (Zd l s.details 3 fuel).es (Zd l s.top 1 fuel).es P,[])
 else if 4096<(Uh l s.data fuel (Zd l s.details 3 fuel).es (Zd l s.top 1 fuel).es P).length∨16384<Pn (Uh l s.data fuel (Zd l s.details 3 fuel).es (Zd l s.top 1 fuel).es P) then([((4:Int),(0:Int),(2:Int))],[])
 else([],Uh l s.data fuel (Zd l s.details 3 fuel).es (Zd l s.top 1 fuel).es P)
theorem Zad{l:Bl}{s:Sup}{fuel:Int}{P:List Int}(h:Xe l s fuel≠[]):audO l s fuel P=(Xe l s fuel,[]):=if_pos h
theorem Rg{data:Int}{es:List Ent}{i:Nat}(hi:i<es.length):Hu data (es.take (i+1))=Hu data (es.take i)++Dr data (es.getD i Zg):=by
 unfold Hu
 rw[List.take_succ_eq_append_getElem hi,List.flatMap_append,show es.getD i Zg=es[i] from by simp[List.getD,hi]]
 simp
theorem Ea{data:Int}{es:List Ent}{i:Nat}(hi:i<es.length):mapM data (es.take (i+1))=mapM data (es.take i)++Rw data (es.getD i Zg):=by
 unfold mapM
 rw[List.take_succ_eq_append_getElem hi,List.flatMap_append,show es.getD i Zg=es[i] from by simp[List.getD,hi]]
 simp
theorem Em{es:List Ent}{i:Nat}(hi:i<es.length):Jm (es.take (i+1))=Jm (es.take i)++Eu (es.getD i Zg):=by
 unfold Jm
 rw[List.take_succ_eq_append_getElem hi,List.flatMap_append,show es.getD i Zg=es[i] from by simp[List.getD,hi]]
 simp
theorem Mk{l:Bl}{data fuel:Int}{T:List Ent}{i:Nat}(hi:i<T.length):Uy l data fuel (T.drop i) (Ys (T.take i))=Gy l data fuel (Ys (T.take i)) (T.getD i Zg)++Uy l data fuel (T.drop (i+1)) (Ys (T.take (i+1))):=by
 rw[List.drop_eq_getElem_cons hi,List.take_succ_eq_append_getElem hi,Hn,show T.getD i Zg=T[i] from by simp[List.getD,hi]]
 rfl
theorem Ak(data:Int)(es:List Ent):(Hu data es).length≤es.length:=by
 induction es with
 | nil=>exact Nat.le_refl _
 | cons x es ih =>
  show(Dr data x++Hu data es).length≤_
  rw[List.length_append,List.length_cons]
  have:(Dr data x).length≤1:=by unfold Dr;split<;>simp
  omega
theorem Ib(data:Int)(es:List Ent):(mapM data es).length≤es.length:=by
 induction es with
 | nil=>exact Nat.le_refl _
 | cons x es ih =>
  show(Rw data x++mapM data es).length≤_
  rw[List.length_append,List.length_cons]
  have:(Rw data x).length≤1:=by unfold Rw;split<;>simp
  omega
theorem Cu(es:List Ent):(Jm es).length≤es.length:=by
 induction es with
 | nil=>exact Nat.le_refl _
 | cons x es ih =>
  show(Eu x++Jm es).length≤_
  rw[List.length_append,List.length_cons]
  have:(Eu x).length≤1:=by unfold Eu;split<;>simp
  omega
end Go.Proofs.YtegcamkgeacjfaaGreatDoor
namespace Go.Proofs.YtegcamkgeacjfaaGreatDoor
set_option maxHeartbeats 8000000
set_option maxRecDepth 100000
open Go.RowKit Go.Extern.Stop Go.Stop Go.Extern
set_option linter.unusedVariables false
attribute [local irreducible] wpList wpAnyH Code.wp Oper.wp Go
structure Maps3(B r1 r2 r3:Nat)(kd kr km:List (Int×Value))(w:World):Prop where
 m1:Vf (Value.int .i64) w r1 kd
 m2:Vf (Value.int .i64) w r2 kr
 m3:Vf (Value.int .i64) w r3 km
 n12:r1≠r2
 n13:r1≠r3
 n23:r2≠r3
 g1:B≤r1
 g2:B≤r2
 g3:B≤r3
variable {B r1 r2 r3:Nat} {kd kr km:List (Int×Value)} {w W:World}
theorem Maps3.below(h:Maps3 B r1 r2 r3 kd kr km w)(hb:B0 w W):Maps3 B r1 r2 r3 kd kr km W:=⟨h.m1.below hb,h.m2.below hb,h.m3.below hb,h.n12,h.n13,h.n23,h.g1,h.g2,h.g3⟩
theorem Maps3.updBlk{b:Nat}{cs:List Value}{t:TypeId}(h:Maps3 B r1 r2 r3 kd kr km w)(u:Upd w b W)(k:Blk w b cs t):Maps3 B r1 r2 r3 kd kr km W:=⟨h.m1.updBlk u k,h.m2.updBlk u k,h.m3.updBlk u k,h.n12,h.n13,h.n23,h.g1,h.g2,h.g3⟩
theorem Maps3.grown{base size n:Nat}{e:TypeId}{v:Value}{xs:List Value}(h:Maps3 B r1 r2 r3 kd kr km w)(hg:w.grownBy W v.ownBlock)(k:w.ownsRow base e size v n xs):Maps3 B r1 r2 r3 kd kr km W:=⟨h.m1.grown hg k,h.m2.grown hg k,h.m3.grown hg k,h.n12,h.n13,h.n23,h.g1,h.g2,h.g3⟩
theorem Maps3.put1{kv:List (Int×Value)}(h:Maps3 B r1 r2 r3 kd kr km w)(u:Upd w r1 W)(m:Vf V0 W r1 kv):Maps3 B r1 r2 r3 kv kr km W:=⟨m,h.m2.upd u h.n12.symm,h.m3.upd u h.n13.symm,h.n12,h.n13,h.n23,h.g1,h.g2,h.g3⟩
theorem Maps3.put2{kv:List (Int×Value)}(h:Maps3 B r1 r2 r3 kd kr km w)(u:Upd w r2 W)(m:Vf V0 W r2 kv):Maps3 B r1 r2 r3 kd kv km W:=⟨h.m1.upd u h.n12,m,h.m3.upd u h.n23.symm,h.n12,h.n13,h.n23,h.g1,h.g2,h.g3⟩
theorem Maps3.put3{kv:List (Int×Value)}(h:Maps3 B r1 r2 r3 kd kr km w)(u:Upd w r3 W)(m:Vf V0 W r3 kv):Maps3 B r1 r2 r3 kd kr kv W:=⟨h.m1.upd u h.n13,h.m2.upd u h.n23,m,h.n12,h.n13,h.n23,h.g1,h.g2,h.g3⟩
theorem Maps3.iter{r it:Nat}{kv:List (Int×Value)}{out:List Int}{V:World}(h:Maps3 B r1 r2 r3 kd kr km w)(i:Yz V0 w r it kv out)(hb:B0 w V)(u:Upd V it W):Maps3 B r1 r2 r3 kd kr km W :=
 ⟨(h.m1.below hb).upd u (i.ne_map h.m1),(h.m2.below hb).upd u (i.ne_map h.m2),(h.m3.below hb).upd u (i.ne_map h.m3),h.n12,h.n13,h.n23,h.g1,h.g2,h.g3⟩
def Vj(F:Int→List Mp)(km:List (Int×Value))(W:World):Prop:=∀ p∈km,∃ a c,p.2=.slice a (F p.1).length c∧W.ownsRow 0 164 3 (.slice a (F p.1).length c) (F p.1).length ((F p.1).flatMap Kh)
variable {F:Int→List Mp}
theorem Vj.below(h:Vj F km w)(hb:B0 w W):Vj F km W:=fun p hp=>by
 obtain⟨a,c,h1,h2⟩:=h p hp
 exact⟨a,c,h1,Zb h2 hb⟩
theorem Vj.only{T:List TypeId}(h:Vj F km w)(k:Ze T w W)(hT:T.contains 164=false):Vj F km W:=fun p hp=>by
 obtain⟨a,c,h1,h2⟩:=h p hp
 exact⟨a,c,h1,Zf h2 k hT⟩
theorem Vj.snoc{r:Int}{a:O0}{c:Nat}{base:Nat}(h:Vj F km W)(ho:W.ownsRow base 164 3 (.slice a (F r).length c) (F r).length ((F r).flatMap Kh)):Vj F (km++[(r,.slice a (F r).length c)]) W:=fun p hp=>by
 rcases List.mem_append.1 hp with hp|hp
 ·exact h p hp
 ·obtain rfl:=List.mem_singleton.1 hp
  exact⟨a,c,rfl,Zh ho (Nat.zero_le _)⟩
theorem Vj.nil(W:World):Vj F [] W:=fun _ h=>by cases h
theorem Vj.get{r:Int}(h:Vj F km w)(hr:r∈km.map Prod.fst):∃ a c,Qm km r=some (.slice a (F r).length c)∧w.ownsRow 0 164 3 (.slice a (F r).length c) (F r).length ((F r).flatMap Kh):=by
 obtain⟨v,h1,h2⟩:=Zb1 hr
 obtain⟨a,c,h3,h4⟩:=h _ h2
 exact⟨a,c,h1.trans (congrArg some h3),h4⟩
def Kl(x:Ent):Value:=.agg #[V0 ((Xh x.2.1 0:Nat):Int),V0 ((Xh x.2.1 1:Nat):Int),V0 ((Xh x.2.1 2:Nat):Int),V0 ((Xh x.2.1 3:Nat):Int)]
def Iv(x:Ent):List (Int×Value):=if Lh x=0 then [(x.1,Kl x)] else []
def Rz(es:List Ent):List (Int×Value):=es.flatMap Iv
def Br(x:Ent):List (Int×Value):=if Xk x.2.1=0 then [(x.1,V0 ((Zo x.2.1:Nat):Int))] else []
def Um(es:List Ent):List (Int×Value):=es.flatMap Br
theorem Mj{es:List Ent}{i:Nat}(hi:i<es.length):Rz (es.take (i+1))=Rz (es.take i)++Iv (es.getD i Zg):=by
 unfold Rz
 rw[List.take_succ_eq_append_getElem hi,List.flatMap_append,show es.getD i Zg=es[i] from by simp[List.getD,hi]]
 simp
theorem Cb{es:List Ent}{i:Nat}(hi:i<es.length):Um (es.take (i+1))=Um (es.take i)++Br (es.getD i Zg):=by
 unfold Um
 rw[List.take_succ_eq_append_getElem hi,List.flatMap_append,show es.getD i Zg=es[i] from by simp[List.getD,hi]]
 simp
theorem Zcd{es:List Ent}{i:Nat}(hs:es.Pairwise (fun x y=>x.1<y.1))(hi:i<es.length){kv:List (Int×Value)}(h:∀ p∈kv,∃ x∈es.take i,p.1=x.1):Qm kv (es.getD i Zg).1=none:=by
 refine Uo fun m=>?_
 obtain⟨p,hp,e⟩:=List.mem_map.1 m
 obtain⟨x,hx,e2⟩:=h p hp
 obtain⟨j,hj,rfl⟩:=List.mem_take_iff_getElem.1 hx
 have a0:j<i∧j<es.length:=by omega
 have:=List.pairwise_iff_getElem.1 hs j i (by omega) hi a0.1
 rw[show es.getD i Zg=es[i] from by simp[List.getD,hi]] at e
 omega
theorem Ih{es:List Ent}{i:Nat}(hs:es.Pairwise (fun x y=>x.1<y.1))(hi:i<es.length):Qm (Rz (es.take i)) (es.getD i Zg).1=none:=Zcd hs hi fun p hp=>by
 obtain⟨x,hx,h⟩:=List.mem_flatMap.1 hp
 unfold Iv at h
 split at h
 ·obtain rfl:=List.mem_singleton.1 h;exact⟨x,hx,rfl⟩
 ·cases h
theorem Ed{es:List Ent}{i:Nat}(hs:es.Pairwise (fun x y=>x.1<y.1))(hi:i<es.length):Qm (Um (es.take i)) (es.getD i Zg).1=none:=Zcd hs hi fun p hp=>by
 obtain⟨x,hx,h⟩:=List.mem_flatMap.1 hp
 unfold Br at h
 split at h
 ·obtain rfl:=List.mem_singleton.1 h;exact⟨x,hx,rfl⟩
 ·cases h
theorem Es{x:Ent}(h:Lh x≠0):Iv x=[]:=if_neg h
theorem Ij{x:Ent}(h:Lh x=0):Iv x=[(x.1,Kl x)]:=if_pos h
theorem Zc2{x:Ent}(h:Lh x≠0):Eu x=[((2:Int),x.2.2,Lh x)]:=if_neg h
theorem To{x:Ent}(h:Lh x=0):Eu x=[]:=if_pos h
theorem Zcc{data:Int}{x:Ent}(h:Qn data x.2.1≠0):Dr data x=[((3:Int),x.2.2,Qn data x.2.1)]:=if_neg h
theorem Ia{data:Int}{x:Ent}(h:Qn data x.2.1=0):Dr data x=[]:=if_pos h
theorem Zeg{data:Int}{x:Ent}(h:Qn data x.2.1≠0):Rw data x=[]:=if_neg h
theorem Ae{data:Int}{x:Ent}(h:Qn data x.2.1=0):Rw data x=[Zaw x]:=if_pos h
theorem Zaz{x:Ent}(h:Xk x.2.1≠0):Br x=[]:=if_neg h
theorem Fj{x:Ent}(h:Xk x.2.1=0):Br x=[(x.1,V0 ((Zo x.2.1:Nat):Int))]:=if_pos h
end Go.Proofs.YtegcamkgeacjfaaGreatDoor
namespace Go.Proofs.YtegcamkgeacjfaaGreatDoor
set_option maxHeartbeats 8000000
set_option maxRecDepth 100000
open Go.RowKit Go.Extern.Stop Go.Stop Go.Extern
set_option linter.unusedVariables false
attribute [local irreducible] wpList wpAnyH Code.wp Oper.wp Go
theorem Ew(kind er:Int)(bl:List Int)(v:Value)(w:World)(hl:bl.length≤40)(hg:Dz w)(hv:Yu w (bl.map some) (some er) v):C0 46 #[V0 kind,v] w (Ret (.agg #[V0 kind,V0 (Ui bl),V0 er]) w):=by
 have h:=Ah kind (some er) (bl.map some) v w (by rw[List.length_map];omega) hg hv
 rwa [Ck,Tb] at h
theorem Lq(w:World) :
 C0 260 #[] w (Jl (fun w' r=>∃ b,r=.slice (S1 b) 1 1∧w.heap.size≤b∧Blk w' b [V0 8,V0 0,V0 1099511627775] 377) w):=by
 refine zin 3 Tryz.func260 ?_
 refine xbs 8 1 [V0 8,V0 0,V0 1099511627775] 377 fun b1 W1 n1=>?_
 exact xe 4 (.slice (S1 b1) 1 1) ⟨_,rfl,n1.below,b1,rfl,(n1.ge (B3 w)),n1.blk⟩
theorem map_shr(s:Bl):Int.fdiv (↑((Yp Vy s).getD 0 0):Int) (2 ^ 24)=(Ug s:Int):=by
 show Int.fdiv ((mapN s:Nat):Int) ((16777216:Nat):Int)=_
 rw[Int.fdiv_eq_ediv_of_nonneg _ (by omega)]
 unfold Ug;omega
theorem map_and(s:Bl):IntKind.i64.wrap (↑(BitVec.ofInt 64 (↑((Yp Vy s).getD 0 0):Int) &&& BitVec.ofInt 64 (16777215:Int)).toNat:Int)=(Lc s:Int):=by
 show IntKind.i64.wrap (↑(BitVec.ofInt 64 (mapN s:Int) &&& BitVec.ofInt 64 (16777215:Int)).toNat:Int)=(Lc s:Int)
 have:=mapN_bd s
 rw[show(16777215:Int)=((16777215:Nat):Int) from rfl,BitVec.ofInt_natCast,BitVec.ofInt_natCast,BitVec.toNat_and,BitVec.toNat_ofNat,BitVec.toNat_ofNat,Nat.mod_eq_of_lt (by omega),Nat.mod_eq_of_lt (by omega)]
 rw[show mapN s &&& 16777215=mapN s%16777216 from Nat.and_two_pow_sub_one_eq_mod (mapN s) 24]
 exact Me (by omega)
theorem Ja(s:Bl)(w:World)(hs:s.length≤1000) :
 C0 205 #[.string ⟨s.toArray⟩] w (Ret (.tuple #[V0 (↑(Ug s):Int),V0 (↑(Lc s):Int),V0 (Xc Vy s)]) w):=by
 refine zin 22 Tryz.func205 ?_
 refine xc 9 (args:=#[]) (Lq _) ?_
 rintro _ W1 ⟨_,rfl,a1,gl,rfl,gg,kl⟩
 refine xc 1 (args:=#[.slice (S1 gl) 1 1,.string ⟨s.toArray⟩]) (Nm Vy s (S1 gl) 1 _ mapP_ok (by decide) (by omega) (kl.sl 1 1 (by decide) (by decide))) ?_
 rintro _ W2 ⟨_,rfl,a2,p5,c5,rfl,h5⟩
 refine xd 8 .z ?_
 have a0:=Zb (Zh h5 a1.size) (Za W2)
 refine xx (.e [0] 1) _ 1 0 1 (Zw (l:=Yp Vy s) (Zi a0) (Yk _ _) (k:=0) (by decide)).1 ?_
 refine xl (.e [] 2) ((Zw (l:=Yp Vy s) (Zi a0) (Yk _ _) (k:=0) (by decide)).2) ?_
 refine xq (.e [] 3) (congrArg V0 (show(Int.fdiv (↑((Yp Vy s).getD 0 0):Int) (2 ^ 24):Int)=(↑(Ug s):Int) from map_shr s)) ?_
 refine xx (.e [4] 5) _ 1 0 1 (Zw (l:=Yp Vy s) (Zi a0) (Yk _ _) (k:=0) (by decide)).1 ?_
 refine xl (.e [] 6) ((Zw (l:=Yp Vy s) (Zi a0) (Yk _ _) (k:=0) (by decide)).2) ?_
 refine xq (.e [] 7) (congrArg V0 (show(IntKind.i64.wrap (↑(BitVec.ofInt 64 (↑((Yp Vy s).getD 0 0):Int) &&& BitVec.ofInt 64 (16777215:Int)).toNat:Int):Int)=(↑(Lc s):Int) from map_and s)) ?_
 have hB:=bln (bln a1 a2) (Za W2)
 exact xe (.r [8,9,10,11] 3) (.tuple #[V0 (↑(Ug s):Int),V0 (↑(Lc s):Int),V0 (Xc Vy s)]) ⟨rfl,hB⟩
theorem Lu(w:World) :
 C0 203 #[] w (Jl (fun w' r=>∃ b,r=.slice (S1 b) 4 4∧w.heap.size≤b∧Blk w' b [V0 8,V0 0,V0 16384,V0 8,V0 0,V0 2147483647,V0 4,V0 0,V0 16777215,V0 4,V0 0,V0 16777215] 377) w):=by
 refine zin 6 Tryz.func203 ?_
 refine xbs 11 4 [V0 8,V0 0,V0 16384,V0 8,V0 0,V0 2147483647,V0 4,V0 0,V0 16777215,V0 4,V0 0,V0 16777215] 377 fun b1 W1 n1=>?_
 exact xe 4 (.slice (S1 b1) 4 4) ⟨_,rfl,n1.below,b1,rfl,(n1.ge (B3 w)),n1.blk⟩
theorem Ve(s:Bl)(w:World)(hs:s.length≤1000) :
 C0 110 #[.string ⟨s.toArray⟩] w (Ret (.tuple #[.agg #[V0 (↑(Xh s 0):Int),V0 (↑(Xh s 1):Int),V0 (↑(Xh s 2):Int),V0 (↑(Xh s 3):Int)],V0 (Xc Vd s)]) w):=by
 refine zin 26 Tryz.func110 ?_
 refine xa 2 [V0 0,V0 0,V0 0,V0 0] 202 fun b1 W1 n1=>?_
 refine xc 5 (args:=#[]) (Lu _) ?_
 rintro _ W2 ⟨_,rfl,a1,gl,rfl,gg,kl⟩
 refine xc 1 (args:=#[.slice (S1 gl) 4 4,.string ⟨s.toArray⟩]) (Nm Vd s (S1 gl) 4 _ detP_ok (by decide) (by omega) (kl.sl 4 4 (by decide) (by decide))) ?_
 rintro _ W3 ⟨_,rfl,a2,p5,c5,rfl,h5⟩
 have a3:=(bln n1.below a1).size
 refine xd 8 (.t w.heap.size [202]) ?_
 have a0:=Zb (Zh h5 a3) (Za W3)
 refine xx (.e [0] 1) _ 4 0 1 (Zw (l:=Yp Vd s) (Zi a0) (Yk _ _) (k:=0) (by decide)).1 ?_
 refine xlt (.e [] 2) (.t w.heap.size [202]) (fun V hV=>(Zw (l:=Yp Vd s) (Zi (Zf a0 hV.2 (by decide))) (Yk _ _) (k:=0) (by decide)).2) ?_
 refine xx (.e [3] 4) _ 4 1 1 (Zw (l:=Yp Vd s) (Zi a0) (Yk _ _) (k:=1) (by decide)).1 ?_
 refine xlt (.e [] 5) (.t w.heap.size [202]) (fun V hV=>(Zw (l:=Yp Vd s) (Zi (Zf a0 hV.2 (by decide))) (Yk _ _) (k:=1) (by decide)).2) ?_
 refine xx (.e [6] 7) _ 4 2 1 (Zw (l:=Yp Vd s) (Zi a0) (Yk _ _) (k:=2) (by decide)).1 ?_
 refine xlt (.e [] 8) (.t w.heap.size [202]) (fun V hV=>(Zw (l:=Yp Vd s) (Zi (Zf a0 hV.2 (by decide))) (Yk _ _) (k:=2) (by decide)).2) ?_
 refine xx (.e [9] 10) _ 4 3 1 (Zw (l:=Yp Vd s) (Zi a0) (Yk _ _) (k:=3) (by decide)).1 ?_
 refine xlt (.e [] 11) (.t w.heap.size [202]) (fun V hV=>(Zw (l:=Yp Vd s) (Zi (Zf a0 hV.2 (by decide))) (Yk _ _) (k:=3) (by decide)).2) ?_
 have k1:=((n1.blk.below a1).below a2).below (Za W3)
 have g1:=n1.ge (B3 w)
 refine ysv (.o [12,13] 14) k1 [V0 (↑((Yp Vd s).getD 0 0):Int),V0 (↑((Yp Vd s).getD 1 0):Int),V0 (↑((Yp Vd s).getD 2 0):Int),V0 (↑((Yp Vd s).getD 3 0):Int)] (.t w.heap.size [202]) fun W4 u4 k4=>⟨(Zt u4 k1 g1 (by decide)),?_⟩
 have hB:=u4.below (bln (bln (bln n1.below a1) a2) (Za W3)) g1
 exact xec (.r [15] 3) k4 (.tuple #[.agg #[V0 (↑((Yp Vd s).getD 0 0):Int),V0 (↑((Yp Vd s).getD 1 0):Int),V0 (↑((Yp Vd s).getD 2 0):Int),V0 (↑((Yp Vd s).getD 3 0):Int)],V0 (Xc Vd s)]) ⟨rfl,hB⟩
theorem Xz(l:Bl)(root tree fuel:Int):∀ i,i<(Zd l root tree fuel).es.length→((Zd l root tree fuel).es.getD i Zg).2.1.length≤1000:=fun i hi=>by
 have hx:(Zd l root tree fuel).es.getD i Zg∈(Zd l root tree fuel).es:=by rw[show(Zd l root tree fuel).es.getD i Zg=(Zd l root tree fuel).es[i] from by simp[List.getD,hi]];exact List.getElem_mem hi
 obtain⟨_,_,k,_,_,h,_⟩:=(Vm l root tree fuel).2.2.1 _ hx
 rw[←h]
 exact Na _ _ _
theorem Kx(Bi b:Nat)(pi:O0)(ni ci:Nat)(l:Bl)(root tree fuel:Int)(w:World)(hfu:fuel≤1000)(hI:ImgR Bi b pi ni ci l w) :
 C0 59 #[P0 b,V0 root,V0 tree,V0 fuel] w (fun e w' =>
 ((Zd l root tree fuel).fs≠[]∧∃ pe ce pb cb pf cf ty x,e=.returned (.tuple #[.agg #[.slice pe 0 ce,.slice pb 0 cb,V0 0,V0 0,.slice pf 0 cf],.iface ty x])∧B0 w w'∧Yu w' ((Qi (Zd l root tree fuel)).1.map some) (some (Qi (Zd l root tree fuel)).2) (.iface ty x)) ∨
 ((Zd l root tree fuel).fs=[]∧∃ pe ce pb nb cb dp lk pf cf,e=.returned (.tuple #[.agg #[.slice pe (Zd l root tree fuel).es.length ce,.slice pb nb cb,V0 dp,V0 lk,.slice pf 0 cf],.nilIface])∧B0 w w'∧w'.ownsRow w.heap.size 123 3 (.slice pe (Zd l root tree fuel).es.length ce) (Zd l root tree fuel).es.length ((Zd l root tree fuel).es.flatMap Hp))):=by
 refine(Tf Bi b pi ni ci l root tree fuel w hfu hI).mono ?_
 rintro e W ⟨t,pe,pb,pf,ce,cb,cf,fv,v,ht,rfl,hb,hW,hv⟩
 by_cases h:(Zd l root tree fuel).fs=[]
 ·obtain⟨h1,_,h3,h4⟩:=Ad h
  rw[h1] at ht
  rw[h3,h4] at hv
  subst ht
  have a0:v=.nilIface:=hv
  subst a0
  refine .inr ⟨h,pe,ce,pb,(Zd l root tree fuel).bs.length,cb,(Zd l root tree fuel).deep,((Zd l root tree fuel).looked:Int),pf,cf,?_,hb,hW.ents⟩
  unfold walkC
  rw[h];rfl
 ·obtain⟨h1,h2,h3,h4⟩:=Ny h
  rw[h1] at ht
  rw[h3,h4,←h2] at hv
  subst ht
  rcases hv.nil_or with ⟨hz,_⟩|⟨_,ty,x,rfl⟩
  ·simp[Ga] at hz
  ·exact .inl ⟨h,pe,ce,pb,cb,pf,cf,ty,x,rfl,hb,hv⟩
theorem Fx(no er:Int)(bl:List Int)(v:Value)(w:World)(hv:Yu w (bl.map some) (some er) v) :
 C0 127 #[V0 no,v] w (fun e w'=>∃ ty x,e=.returned (.iface ty x)∧B0 w w'∧Yu w' ((no::bl).map some) (some er) (.iface ty x)):=by
 refine(Yj no (some er) (bl.map some) v w hv).mono ?_
 rintro e W ⟨r,rfl,hb,hr⟩
 rw[show atL no (bl.map some) (some er)=(no::bl).map some from by unfold atL Ga;simp] at hr
 have a1:Yu W (some no::bl.map some) (some er) r:=hr
 obtain⟨a0,v',rfl,h1,h2⟩:=a1
 exact⟨_,_,rfl,hb,a0,v',rfl,h1,h2⟩
theorem Vu{l:Bl}{root tree fuel:Int}(h:(Zd l root tree fuel).fs≠[]):(Qi (Zd l root tree fuel)).2≠0:=by
 obtain⟨es,fs,hw⟩:=Hk l root tree fuel
 have h2:(Zd l root tree fuel).fs=fs:=by rw[hw.fsE];rfl
 rw[(Ny h).2.1]
 rw[h2] at h ⊢
 cases fs with
 | nil=>exact absurd rfl h
 | cons f r=>exact(hw.flt f (by simp)).2.2
def Pw(B bx:Nat)(cs:List Value)(D:List Dg)(ra rb rc:Nat)(kd kr km:List (Int×Value))(w w':World):Prop :=
 ∃ p c,Below B w w'∧Ze [114,100] w w'∧Blk w' bx (.slice p D.length c::cs) 114∧w'.ownsRow B 100 3 (.slice p D.length c) D.length (D.flatMap dmc)∧Maps3 B ra rb rc kd kr km w'
theorem Xj(B bx:Nat)(p:O0)(c:Nat)(D:List Dg)(ra rb rc:Nat)(kd kr km:List (Int×Value))(c1 c2 c3 c4 c5 c6 c7 c8 c9 c10 c11 c12 c13 c14 c15 c16:Value)(kind at_ code:Int)(w:World)(hc:code≠0)(hk:Blk w bx [.slice p D.length c,c1,c2,c3,c4,c5,c6,c7,c8,c9,c10,c11,c12,c13,c14,c15,c16] 114)(ho:w.ownsRow B 100 3 (.slice p D.length c) D.length (D.flatMap dmc))(hM:Maps3 B ra rb rc kd kr km w)(hBb:B≤bx)(hBw:B≤w.heap.size)(hl:D.length≤1000000000) :
 C0 53 #[P0 bx,V0 kind,V0 at_,V0 code] w ((fun e w'=>e=.returned (.bool true)∧Pw B bx [c1,c2,c3,c4,c5,c6,c7,c8,c9,c10,c11,c12,c13,c14,c15,c16] (D++[(kind,at_,code)]) ra rb rc kd kr km w w')):=by
 refine zin 24 Tryz.func53 ?_
 refine xk 12 (show((code==(0:Int)):Bool)=false from beq_false_of_ne hc) ?_
 refine xb 8 0 hk ?_
 refine xbs 4 1 [V0 kind,V0 at_,V0 code] 100 fun b1 W1 n1=>?_
 have a6:=Zz ho n1
 have a1:=Zb ho n1.below
 have hB:=blB (Below.refl B w) hBw n1.below
 refine xbi 0 fun _ _ _ _ zJ zQ zo zx zy zK=>Xq (m:=1) (news:=[V0 kind,V0 at_,V0 code]) (.agg #[V0 0,V0 0,V0 0]) 3 24 ((D++[(kind,at_,code)]).length) (((D++[(kind,at_,code)]).flatMap dmc)) zo Tryz.underlying47 (by kernel_rfl) rfl (by decide) zx a1 zy (n1.blk.sl 1 1 (by decide) (by decide)) rfl (by simp[Value.oneCell']) (by unfold maxLen;omega) (by omega) (Nat.le_trans hBw hB.size) (by simp) (by simp[dmc]) fun a9 a8 W2 o2 a4 a7=>?_
 refine zK _ _ ?_
 have a0:=(hk.below n1.below).grown a4 a1 (by decide)
 refine xs 2 a0 [.slice a9 ((D++[(kind,at_,code)]).length) a8,c1,c2,c3,c4,c5,c6,c7,c8,c9,c10,c11,c12,c13,c14,c15,c16] fun W3 u3 k3=>?_
 have a2:=u3.below (hB.trans a7) hBb
 have hO:=((show Ze [114,100] w _ from(Ze.of_below n1.below)).trans (Ze.of_grown a4 a1 (by decide))).trans (Ze.of_upd u3 a0 (by decide))
 have a3:=u3.own2 o2 a0 (by decide)
 have a5:=((hM.below n1.below).grown a4 a1).updBlk u3 a0
 exact xe 8 (.bool true) ⟨rfl,_,_,a2,hO,k3,a3,a5⟩
theorem Jp(bx:Nat)(kind at_:Int)(w:World) :
 C0 53 #[P0 bx,V0 kind,V0 at_,V0 0] w (Ret (.bool false) w):=by
 refine zin 24 Tryz.func53 ?_
 exact xe 20 (.bool false) ⟨rfl,(B3 w)⟩
theorem Ke(B bx:Nat)(p:O0)(c:Nat)(D:List Dg)(ra rb rc:Nat)(kd kr km:List (Int×Value))(c1 c2 c3 c4 c5 c6 c7 c8 c9 c10 c11 c12 c13 c14 c15 c16:Value)(kind at_ code:Int)(w:World)(hk:Blk w bx [.slice p D.length c,c1,c2,c3,c4,c5,c6,c7,c8,c9,c10,c11,c12,c13,c14,c15,c16] 114)(ho:w.ownsRow B 100 3 (.slice p D.length c) D.length (D.flatMap dmc))(hM:Maps3 B ra rb rc kd kr km w)(hBb:B≤bx)(hBw:B≤w.heap.size)(hl:D.length≤1000000000) :
 C0 53 #[P0 bx,V0 kind,V0 at_,V0 code] w (fun e w'=>(code=0∧e=.returned (.bool false)∧B0 w w')∨(code≠0∧e=.returned (.bool true)∧Pw B bx [c1,c2,c3,c4,c5,c6,c7,c8,c9,c10,c11,c12,c13,c14,c15,c16] (D++[(kind,at_,code)]) ra rb rc kd kr km w w')):=by
 by_cases h:code=0
 ·subst h
  exact(Jp bx kind at_ w).mono fun e W q=>.inl ⟨rfl,q.1,q.2⟩
 ·exact(Xj B bx p c D ra rb rc kd kr km c1 c2 c3 c4 c5 c6 c7 c8 c9 c10 c11 c12 c13 c14 c15 c16 kind at_ code w h hk ho hM hBb hBw hl).mono fun e W q=>.inr ⟨h,q.1,q.2⟩
theorem Sl.elemV{w:World}{pf:O0}{n c:Nat}{fv:List Value}(h:Sl w (.slice pf n c) n fv){k:Nat}{v:Value}(hv:fv[k]? = some v):pf.isSome=true∧w.cell? (Xa pf (k*1))=some v:=by
 rcases h with ⟨a,c,h1,h2,h3⟩|⟨b,a1,a0,h1,h2,h3,h4⟩
 ·subst h3;cases hv
 ·simp only[Value.slice.injEq] at h1
  obtain⟨rfl,_,_⟩:=h1
  exact⟨rfl,by simpa [Xa,Addr.add_mid] using h4 k v hv⟩
theorem Nx(D:List Dg)(kind:Int){fs:List (List Int×Int)}{i:Nat}(hi:i<fs.length):(D++(fs.take (i+1)).map (Qd kind)).flatMap dmc=(D++(fs.take i).map (Qd kind)).flatMap dmc++[V0 kind,V0 (Ui (fs.getD i ([],0)).1),V0 (fs.getD i ([],0)).2]:=by
 rw[List.take_succ_eq_append_getElem hi,List.map_append,←List.append_assoc,List.flatMap_append,show fs.getD i ([],0)=fs[i] from by simp[List.getD,hi]]
 simp[Qd,dmc]
theorem Yl(B bx:Nat)(p:O0)(c:Nat)(D:List Dg)(ra rb rc:Nat)(kd kr km:List (Int×Value))(c1 c2 c3 c4 c5 c6 c7 c8 c9 c10 c11 c12 c13 c14 c15 c16:Value)(kind:Int)(pf:O0)(cf:Nat)(fs:List (List Int×Int))(fv:List Value)(w:World)(hk:Blk w bx [.slice p D.length c,c1,c2,c3,c4,c5,c6,c7,c8,c9,c10,c11,c12,c13,c14,c15,c16] 114)(ho:w.ownsRow B 100 3 (.slice p D.length c) D.length (D.flatMap dmc))(hM:Maps3 B ra rb rc kd kr km w)(hFl:w.ownsRow B 29 1 (.slice pf fs.length cf) fs.length fv)(hFv:Qr w fs fv)(hfl:∀ f∈fs,f.1.length≤40)(hg:∀ W,Below B w W→Dz W)(hBb:B≤bx)(hBw:B≤w.heap.size)(hl:D.length+fs.length≤1000000000) :
 C0 109 #[P0 bx,V0 kind,.slice pf fs.length cf] w ((fun e w'=>(∃ u,e=.returned u)∧Pw B bx [c1,c2,c3,c4,c5,c6,c7,c8,c9,c10,c11,c12,c13,c14,c15,c16] (D++fs.map (Qd kind)) ra rb rc kd kr km w w')):=by
 refine zin 27 Tryz.func109 ?_
 have hB:=Below.refl B w
 refine zl 8 27 (fun zm i3 V=>∃ (i:Nat) (p:O0) (c:Nat),i3=[(0,P0 bx),(1,V0 kind),(8,.slice pf fs.length cf),(9,V0 (fs.length:Int)),(10,V0 (i:Int))]∧zm=fs.length-((i:Int)).toNat∧Below B w V∧Ze [114,100] w V∧Blk V bx ([.slice p (D.length+i) c,c1,c2,c3,c4,c5,c6,c7,c8,c9,c10,c11,c12,c13,c14,c15,c16]) 114∧V.ownsRow B 100 3 (.slice p (D.length+i) c) (D.length+i) ((D++(fs.take i).map (Qd kind)).flatMap dmc)∧V.ownsRow B 29 1 (.slice pf fs.length cf) fs.length fv∧Qr V fs fv∧Maps3 B ra rb rc kd kr km V∧i≤fs.length) ⟨0,p,c,rfl,rfl,hB,(Ze.refl _ _),hk,(by simpa using ho),hFl,hFv,hM,Nat.zero_le _⟩ ?_
 rintro _ _ W1 ⟨i,p,c,rfl,rfl,b7,b3,a6,ho,hFl,hFv,hM,hi⟩ J1 g9 r1
 refine xid 6 ((i:Int)<(fs.length:Int)) (fun i1=>?_) (fun i1=>?_)
 ·obtain⟨ty,v,h4,h3⟩:=hFv.at (j:=i) (by omega)
  have h6:=hfl _ (Nf (l:=fs) (d:=([],0)) (i:=i) (by omega))
  refine xx 6 _ fs.length i 1 (Sl.elemV (Zi hFl) (k:=i) h4).1 ?_
  refine xl 0 ((Sl.elemV (Zi hFl) (k:=i) h4).2) ?_
  refine xd 3 (.t B [114,100]) ?_
  refine xm2 (.b [0,1,2,3,5,6]) 4 7 ?_ ?_
  ·have a8:=a6.below (Za W1)
   refine xb 0 0 a8 ?_
   have d7:=h3.below (Za W1)
   have e8:=blB b7 hBw (Za W1)
   refine xr (.o [] 7) (args:=#[V0 kind,.iface ty (v)]) (Ew kind (fs.getD i ([],0)).2 (fs.getD i ([],0)).1 _ _ h6 (hg _ e8) d7) fun W3 b9=>?_
   refine xbs (.o [] 8) 1 [V0 kind,V0 (Ui (fs.getD i ([],0)).1),V0 ((fs.getD i ([],0)).2)] 100 fun b4 W4 n4=>?_
   have e3:=blB e8 hBw b9
   have g4:=n4.ge0 e3
   have e0:=Zb (Zb ho (Za W1)) b9
   have h1:=Zz e0 n4
   have a4:=Zb e0 n4.below
   have e2:=blB e3 hBw n4.below
   refine ybi (.o [] 9) (.t B [114,100]) fun _ _ _ _ zJ zQ zo zx zy zK=>Xq (m:=1) (news:=[V0 kind,V0 (Ui (fs.getD i ([],0)).1),V0 ((fs.getD i ([],0)).2)]) (.agg #[V0 0,V0 0,V0 0]) 3 24 ((D.length+(i+1))) (((D++(fs.take (i+1)).map (Qd kind)).flatMap dmc)) zo Tryz.underlying47 (by kernel_rfl) rfl (by decide) zx a4 zy (n4.blk.sl 1 1 (by decide) (by decide)) rfl (by simp[Value.oneCell']) (by unfold maxLen;omega) (by omega) (Nat.le_trans hBw e2.size) (by omega) (by rw[Nx D kind (by omega)]) fun h9 i5 W5 o5 d1 h2=>?_
   refine zK _ _ (Ql h2 d1 a4 (by decide)) ?_
   have a0:=((a8.below b9).below n4.below).grown d1 a4 (by decide)
   refine ys (.o [10,11] 12) a0 [.slice h9 (D.length+(i+1)) i5,c1,c2,c3,c4,c5,c6,c7,c8,c9,c10,c11,c12,c13,c14,c15,c16] (.t B [114,100]) fun W6 u6 k6=>⟨(Zt u6 a0 hBb (by decide)),?_⟩
   refine xwm 4 ((i:Int)+1) (↑(i+1):Int) ?_
   have f5:=u6.below (e2.trans h2) hBb
   have f8:=((((b3.trans (Ze.of_below (Za W1))).trans (Ze.of_below b9)).trans (Ze.of_below n4.below)).trans (Ze.of_grown d1 a4 (by decide))).trans (Ze.of_upd u6 a0 (by decide))
   have g1:=u6.own2 o5 a0 (by decide)
   have f1:=u6.own2 (Zp (Zb (Zb (Zb hFl (Za W1)) b9) n4.below) d1 a4 (by decide)) a0 (by decide)
   have d8:=((((hFv.below (Za W1)).below b9).below n4.below).only (Ze.of_grown (T:=[100]) d1 a4 (by decide)) (by decide)).only (Ze.of_upd (T:=[114]) u6 a0 (by decide)) (by decide)
   have g3:=((((hM.below (Za W1)).below b9).below n4.below).grown d1 a4).updBlk u6 a0
   exact ze 2 (g9 _ _ _ ⟨i+1,_,_,rfl,rfl,f5,f8,k6,g1,f1,d8,g3,by omega⟩ (by omega))
  have e1:=h3.below (Za W1)
  have d0:=blB b7 hBw (Za W1)
  refine xr 0 (args:=#[V0 kind,.iface ty (v)]) (Ew kind (fs.getD i ([],0)).2 (fs.getD i ([],0)).1 _ _ h6 (hg _ d0) e1) fun W7 a7=>?_
  refine xm2 0 4 8 ?_ ?_
  ·have b0:=(a6.below (Za W1)).below a7
   refine xb 0 0 b0 ?_
   refine xbs (.o [] 8) 1 [V0 kind,V0 (Ui (fs.getD i ([],0)).1),V0 ((fs.getD i ([],0)).2)] 100 fun b8 W8 n8=>?_
   have d9:=blB d0 hBw a7
   have g8:=n8.ge0 d9
   have d6:=Zb (Zb ho (Za W1)) a7
   have h7:=Zz d6 n8
   have a3:=Zb d6 n8.below
   have e7:=blB d9 hBw n8.below
   refine ybi (.o [] 9) (.t B [114,100]) fun _ _ _ _ zJ zQ zo zx zy zK=>Xq (m:=1) (news:=[V0 kind,V0 (Ui (fs.getD i ([],0)).1),V0 ((fs.getD i ([],0)).2)]) (.agg #[V0 0,V0 0,V0 0]) 3 24 ((D.length+(i+1))) (((D++(fs.take (i+1)).map (Qd kind)).flatMap dmc)) zo Tryz.underlying47 (by kernel_rfl) rfl (by decide) zx a3 zy (n8.blk.sl 1 1 (by decide) (by decide)) rfl (by simp[Value.oneCell']) (by unfold maxLen;omega) (by omega) (Nat.le_trans hBw e7.size) (by omega) (by rw[Nx D kind (by omega)]) fun i7 i4 W9 o9 d2 h5=>?_
   refine zK _ _ (Ql h5 d2 a3 (by decide)) ?_
   have a2:=(b0.below n8.below).grown d2 a3 (by decide)
   refine ys (.o [10,11] 12) a2 [.slice i7 (D.length+(i+1)) i4,c1,c2,c3,c4,c5,c6,c7,c8,c9,c10,c11,c12,c13,c14,c15,c16] (.t B [114,100]) fun j1 c0 i2=>⟨(Zt c0 a2 hBb (by decide)),?_⟩
   refine xwm 4 ((i:Int)+1) (↑(i+1):Int) ?_
   have f4:=c0.below (e7.trans h5) hBb
   have g0:=((((b3.trans (Ze.of_below (Za W1))).trans (Ze.of_below a7)).trans (Ze.of_below n8.below)).trans (Ze.of_grown d2 a3 (by decide))).trans (Ze.of_upd c0 a2 (by decide))
   have g7:=c0.own2 o9 a2 (by decide)
   have d3:=c0.own2 (Zp (Zb (Zb (Zb hFl (Za W1)) a7) n8.below) d2 a3 (by decide)) a2 (by decide)
   have e5:=((((hFv.below (Za W1)).below a7).below n8.below).only (Ze.of_grown (T:=[100]) d2 a3 (by decide)) (by decide)).only (Ze.of_upd (T:=[114]) c0 a2 (by decide)) (by decide)
   have g5:=((((hM.below (Za W1)).below a7).below n8.below).grown d2 a3).updBlk c0 a2
   exact ze 2 (g9 _ _ _ ⟨i+1,_,_,rfl,rfl,f4,g0,i2,g7,d3,e5,g5,by omega⟩ (by omega))
  refine xbs 0 1 [V0 kind,V0 (Ui (fs.getD i ([],0)).1),V0 ((fs.getD i ([],0)).2)] 100 fun j0 i9 b2=>?_
  have f2:=blB d0 hBw a7
  have j3:=b2.ge0 f2
  have e4:=Zb (Zb ho (Za W1)) a7
  have g2:=Zz e4 b2
  have a9:=((a6.below (Za W1)).below a7).below b2.below
  refine xb (.o [] 4) 0 a9 ?_
  have a5:=Zb e4 b2.below
  have b5:=blB f2 hBw b2.below
  refine ybi (.o [] 9) (.t B [114,100]) fun _ _ _ _ zJ zQ zo zx zy zK=>Xq (m:=1) (news:=[V0 kind,V0 (Ui (fs.getD i ([],0)).1),V0 ((fs.getD i ([],0)).2)]) (.agg #[V0 0,V0 0,V0 0]) 3 24 ((D.length+(i+1))) (((D++(fs.take (i+1)).map (Qd kind)).flatMap dmc)) zo Tryz.underlying47 (by kernel_rfl) rfl (by decide) zx a5 zy (b2.blk.sl 1 1 (by decide) (by decide)) rfl (by simp[Value.oneCell']) (by unfold maxLen;omega) (by omega) (Nat.le_trans hBw b5.size) (by omega) (by rw[Nx D kind (by omega)]) fun g6 f9 j2 i6 b1 e6=>?_
  refine zK _ _ (Ql e6 b1 a5 (by decide)) ?_
  have a1:=a9.grown b1 a5 (by decide)
  refine ys (.o [10,11] 12) a1 [.slice g6 (D.length+(i+1)) f9,c1,c2,c3,c4,c5,c6,c7,c8,c9,c10,c11,c12,c13,c14,c15,c16] (.t B [114,100]) fun i8 b6 i0=>⟨(Zt b6 a1 hBb (by decide)),?_⟩
  refine xwm 4 ((i:Int)+1) (↑(i+1):Int) ?_
  have d5:=b6.below (b5.trans e6) hBb
  have f7:=((((b3.trans (Ze.of_below (Za W1))).trans (Ze.of_below a7)).trans (Ze.of_below b2.below)).trans (Ze.of_grown b1 a5 (by decide))).trans (Ze.of_upd b6 a1 (by decide))
  have f0:=b6.own2 i6 a1 (by decide)
  have d4:=b6.own2 (Zp (Zb (Zb (Zb hFl (Za W1)) a7) b2.below) b1 a5 (by decide)) a1 (by decide)
  have f3:=((((hFv.below (Za W1)).below a7).below b2.below).only (Ze.of_grown (T:=[100]) b1 a5 (by decide)) (by decide)).only (Ze.of_upd (T:=[114]) b6 a1 (by decide)) (by decide)
  have f6:=((((hM.below (Za W1)).below a7).below b2.below).grown b1 a5).updBlk b6 a1
  exact ze 2 (g9 _ _ _ ⟨i+1,_,_,rfl,rfl,d5,f7,i0,f0,d4,f3,f6,by omega⟩ (by omega))
 refine xe 4 (.tuple #[]) ?_
 obtain rfl:i=fs.length:=by omega
 have e9:D.length+fs.length=(D++fs.map (Qd kind)).length:=by simp
 have h8:=ho
 have h0:=a6
 rw[List.take_of_length_le (Nat.le_refl _),e9] at h8
 rw[e9] at h0
 exact⟨⟨_,rfl⟩,_,_,b7,b3,h0,h8,hM⟩
end Go.Proofs.YtegcamkgeacjfaaGreatDoor
