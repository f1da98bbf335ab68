/- (*walker).look. -/
import Derived.Test.YtceeiinepijokaaGreatDoorMg3
namespace Go.Proofs.YtceeiinepijokaaGreatDoor
set_option maxHeartbeats 8000000
set_option maxRecDepth 100000
open Go.RowKit Go.Extern.Stop Go.Stop Go.Extern
set_option linter.unusedVariables false
attribute [local irreducible] wpList wpAnyH Code.wp Oper.wp Go
def Qc(l:Bl)(way:List Int)(no tree lo hi deep:Int):Int :=
 if Ki way no=true then 11 else if 16≤way.length then 10 else if Yb l no tree≠0 then Yb l no tree else if Jz lo hi (Hh (inB l no) (Xb (inB l no)))≠0 then 9 else
  if Yj (inB l no)=true∧deep≠0∧deep≠((way.length+1:Nat):Int) then 10 else 0
def LookP(B bw:Nat)(cs:List Value)(l:Bl)(way:List Int)(no tree lo hi deep:Int)(w:World)(e:Ending)(w':World):Prop :=
 Below B w w'∧Ze [306] w w'∧Blk w' bw cs 306 ∧
 ((Qc l way no tree lo hi deep≠0∧∃ a4 b4 k4 n4 c4 v4 m4 d4 ty x,e=.returned (.tuple #[.agg #[V0 a4,.bool b4,.slice k4 n4 c4,.slice v4 m4 d4],.iface ty x])∧Kr w' [some no] (some (Qc l way no tree lo hi deep)) (.iface ty x)) ∨
  (Qc l way no tree lo hi deep=0∧Yb l no tree=0∧∃ kp kc vp vc,e=.returned (.tuple #[.agg #[V0 (Qy (inB l no)),.bool (Yj (inB l no)),.slice kp (Xb (inB l no)) kc,.slice vp (Xb (inB l no)) vc],.nilIface]) ∧
   w'.ownsRow w.heap.size 3 1 (.slice kp (Xb (inB l no)) kc) (Xb (inB l no)) ((Hh (inB l no) (Xb (inB l no))).map V0)∧w'.ownsRow w.heap.size 9 1 (.slice vp (Xb (inB l no)) vc) (Xb (inB l no)) ((Nk (inB l no) (Xb (inB l no))).map sv)))
theorem Zef{w:World}{v:Value}{n:Nat}{l:List Int}(h:Sl w v n (l.map V0))(hl:l.length=n):Ints w v l:=by subst hl;exact h
theorem Zki(B Bi b bw:Nat)(p:O0)(n c:Nat)(l:Bl)(c0 c1 c4 c7 c9:Value)(pw:O0)(cw:Nat)(way:List Int)(no tree lo hi deep looked:Int)(w:World)(hBb:B≤bw)(hBw:B≤w.heap.size)(kW:Blk w bw [c0,c1,V0 deep,V0 looked,c4,P0 b,V0 tree,c7,.slice pw way.length cw,c9] 306)(hway:w.ownsRow B 3 1 (.slice pw way.length cw) way.length (way.map V0))(hI:ImgR Bi b p n c l w)(hwl:way.length≤1000000)(hl0:0≤looked)(hl1:looked<9223372036854775807) :
 C0 232 #[P0 bw,V0 no,.agg #[V0 lo,V0 hi]] w (LookP B bw [c0,c1,V0 deep,V0 (looked+1),c4,P0 b,V0 tree,c7,.slice pw way.length cw,c9] l way no tree lo hi deep w):=by
 refine zin 97 Tryz.func232 ?_
 refine xa 2 [V0 lo,V0 hi] 309 fun b1 W1 n1=>?_
 refine xa 0 [V0 0,.bool false,S0,S0] 181 fun b2 W2 n2=>?_
 have a3:=(kW.below n1.below).below n2.below
 refine xb 9 3 a3 ?_
 refine xw 0 (looked+1) ?_
 refine xs 3 a3 [c0,c1,V0 deep,V0 (looked+1),c4,P0 b,V0 tree,c7,.slice pw way.length cw,c9] fun W3 u3 k3=>?_
 refine xb 8 8 k3 ?_
 have g8:=u3.own2 (Zb (Zb hway n1.below) n2.below) a3 Do
 refine xr 1 (Zsr pw cw way no _ (Zg g8) hwl) fun W4 a9=>?_
 refine xi 2 (Ki way no) (fun v6=>?_) (fun v6=>?_)
 ·refine xc 5 (args:=#[V0 no,.iface 50 (V0 11)]) (Vu no (some 11) [] _ _ rfl) ?_
  rintro _ W6 ⟨r6,rfl,o3,s5⟩
  rw[Ks] at s5
  obtain⟨t6,x6,rfl⟩:=s5.iface
  have k2:=((u3.blkT n2.blk a3 Do).below a9).below o3
  refine xsv 0 k2 [V0 0,.bool false,S0,S0] fun W7 u7 k7=>?_
  have g2:=n2.ge0 (blB (Below.refl B w) hBw n1.below)
  have hB:=u7.below (blB (blB (u3.below (blB (blB (Below.refl B w) hBw n1.below) hBw n2.below) hBb) hBw a9) hBw o3) (N0 hBw g2)
  have hO:=(Ze.upd_new (((((show Ze [306] w _ from(Q0 n1.below)).trans (Q0 n2.below)).trans (Q1 u3 a3 Do)).trans (Q0 a9)).trans (Q0 o3)) u7 g2)
  have r8:=u7.blkT ((k3.below a9).below o3) k2 Do
  have j2:=s5.upd u7 k2 Do
  exact xec 5 k7 (.tuple #[.agg #[V0 0,.bool false,S0,S0],.iface t6 (x6)]) ⟨hB,hO,r8,.inl ⟨by(unfold Qc;(repeat' split)<;>first|rfl|assumption|decide|omega|exact absurd (C5 (D0 ‹Ki _ _=true›) ‹Ki _ _=false›) Do|(rename_i q;exact absurd ⟨by assumption,by assumption,by assumption⟩ q)|(rename_i q;obtain⟨q1,q2,q3⟩:=q;exact absurd (C5 (D0 q1) ‹Yj _=false›) Do)|(rename_i q;obtain⟨q1,q2,q3⟩:=q;omega)),_,_,_,_,_,_,_,_,_,_,rfl,by(unfold Qc;(repeat' split)<;>first|exact j2|(exfalso;omega)|contradiction|exact absurd (C5 (D0 ‹Ki _ _=true›) ‹Ki _ _=false›) Do|(rename_i q;exact absurd ⟨by assumption,by assumption,by assumption⟩ q)|(rename_i q;obtain⟨q1,q2,q3⟩:=q;exact absurd (C5 (D0 q1) ‹Yj _=false›) Do)|(rename_i q;obtain⟨q1,q2,q3⟩:=q;omega))⟩⟩
 have g9:=k3.below a9
 refine xb 8 8 g9 ?_
 refine xid 4 ((way.length:Int)≥(16:Int)) (fun w1=>?_) (fun w1=>?_)
 ·refine xc 5 (args:=#[V0 no,.iface 50 (V0 10)]) (Vu no (some 10) [] _ _ rfl) ?_
  rintro _ W9 ⟨r9,rfl,o5,r1⟩
  rw[Ks] at r1
  obtain⟨t9,x9,rfl⟩:=r1.iface
  have k2:=((u3.blkT n2.blk a3 Do).below a9).below o5
  refine xsv 0 k2 [V0 0,.bool false,S0,S0] fun ah o2 w3=>?_
  have g2:=n2.ge0 (blB (Below.refl B w) hBw n1.below)
  have hB:=o2.below (blB (blB (u3.below (blB (blB (Below.refl B w) hBw n1.below) hBw n2.below) hBb) hBw a9) hBw o5) (N0 hBw g2)
  have hO:=(Ze.upd_new (((((show Ze [306] w _ from(Q0 n1.below)).trans (Q0 n2.below)).trans (Q1 u3 a3 Do)).trans (Q0 a9)).trans (Q0 o5)) o2 g2)
  have p0:=o2.blkT (g9.below o5) k2 Do
  have l2:=r1.upd o2 k2 Do
  exact xec 5 w3 (.tuple #[.agg #[V0 0,.bool false,S0,S0],.iface t9 (x9)]) ⟨hB,hO,p0,.inl ⟨by(unfold Qc;(repeat' split)<;>first|rfl|assumption|decide|omega|exact absurd (C5 (D0 ‹Ki _ _=true›) ‹Ki _ _=false›) Do|(rename_i q;exact absurd ⟨by assumption,by assumption,by assumption⟩ q)|(rename_i q;obtain⟨q1,q2,q3⟩:=q;exact absurd (C5 (D0 q1) ‹Yj _=false›) Do)|(rename_i q;obtain⟨q1,q2,q3⟩:=q;omega)),_,_,_,_,_,_,_,_,_,_,rfl,by(unfold Qc;(repeat' split)<;>first|exact l2|(exfalso;omega)|contradiction|exact absurd (C5 (D0 ‹Ki _ _=true›) ‹Ki _ _=false›) Do|(rename_i q;exact absurd ⟨by assumption,by assumption,by assumption⟩ q)|(rename_i q;obtain⟨q1,q2,q3⟩:=q;exact absurd (C5 (D0 q1) ‹Yj _=false›) Do)|(rename_i q;obtain⟨q1,q2,q3⟩:=q;omega))⟩⟩
 refine xd 3 (.t B [181]) ?_
 have b6:=g9.below (Za W4)
 refine xbt (.e [0,1,2] 3) 5 B [181] b6 ?_
 refine xbt (.e [4,5,6,7] 8) 6 B [181] b6 ?_
 refine xm2 0 9 13 ?_ ?_
 ·have s4:=((((hI.below n1.below).below n2.below).only (Q1 (T:=[306]) u3 a3 Do) Do).below a9).below (Za W4)
  refine yc 0 (.t B [181]) (Sa Bi b p n c l no tree _ s4) ?_
  rintro e ac p3
  rcases p3 with ⟨he,bf,rfl,a7,hv⟩|⟨he,kp,kc,vp,vc,rfl,a7,hk,i0⟩
  ·refine⟨(Q3 _ a7),?_⟩
   refine xa (.o [10,11,12] 13) [V0 0,.bool false,S0,S0] 181 fun x1 y2 e6=>?_
   have k2:=(((u3.blkT n2.blk a3 Do).below a9).below (Za W4)).below a7
   have g1:=e6.ne k2
   have hB:=blB (blB (blB (u3.below (blB (blB (Below.refl B w) hBw n1.below) hBw n2.below) hBb) hBw a9) hBw (Za W4)) hBw a7
   have s1:=e6.ge0 hB
   refine ysv (.o [] 14) e6.blk [V0 0,.bool false,S0,S0] (.t B [181]) fun x8 i2 w6=>⟨(Zt i2 e6.blk (N0 hBw s1) Do),?_⟩
   refine xlv (.r [15] 14) w6.rp ?_
   have h4:=i2.blk (k2.below e6.below) g1
   refine xsv 1 h4 [V0 0,.bool false,S0,S0] fun aj n9 u4=>?_
   have g2:=n2.ge0 (blB (Below.refl B w) hBw n1.below)
   have p1:=n9.below (i2.below (blB hB hBw e6.below) (N0 hBw s1)) (N0 hBw g2)
   have hO:=(Ze.upd_new (Ze.upd_new (((((((show Ze [306] w _ from(Q0 n1.below)).trans (Q0 n2.below)).trans (Q1 u3 a3 Do)).trans (Q0 a9)).trans (Q0 (Za W4))).trans (Q0 a7)).trans (Q0 e6.below)) i2 s1) n9 g2)
   have p6:=n9.blkT (i2.blkT ((b6.below a7).below e6.below) e6.blk Do) h4 Do
   have p2:=((hv.below e6.below).upd i2 e6.blk Do).upd n9 h4 Do
   exact xec 6 u4 (.tuple #[.agg #[V0 0,.bool false,S0,S0],.iface 188 (P0 bf)]) ⟨p1,hO,p6,.inl ⟨by(unfold Qc;(repeat' split)<;>first|rfl|assumption|decide|omega|exact absurd (C5 (D0 ‹Ki _ _=true›) ‹Ki _ _=false›) Do|(rename_i q;exact absurd ⟨by assumption,by assumption,by assumption⟩ q)|(rename_i q;obtain⟨q1,q2,q3⟩:=q;exact absurd (C5 (D0 q1) ‹Yj _=false›) Do)|(rename_i q;obtain⟨q1,q2,q3⟩:=q;omega)),_,_,_,_,_,_,_,_,_,_,rfl,by(unfold Qc;(repeat' split)<;>first|exact p2|(exfalso;omega)|contradiction|exact absurd (C5 (D0 ‹Ki _ _=true›) ‹Ki _ _=false›) Do|(rename_i q;exact absurd ⟨by assumption,by assumption,by assumption⟩ q)|(rename_i q;obtain⟨q1,q2,q3⟩:=q;exact absurd (C5 (D0 q1) ‹Yj _=false›) Do)|(rename_i q;obtain⟨q1,q2,q3⟩:=q;omega))⟩⟩
  have e9:=(blB (blB (u3.below (blB (blB (Below.refl B w) hBw n1.below) hBw n2.below) hBb) hBw a9) hBw (Za W4)).size
  refine⟨(Q3 _ a7),?_⟩
  refine xa (.o [10,11,12] 13) [V0 0,.bool false,S0,S0] 181 fun w9 z5 a6=>?_
  have k2:=(((u3.blkT n2.blk a3 Do).below a9).below (Za W4)).below a7
  have b4:=a6.ne k2
  have hB:=blB (blB (blB (u3.below (blB (blB (Below.refl B w) hBw n1.below) hBw n2.below) hBb) hBw a9) hBw (Za W4)) hBw a7
  have c6:=a6.ge0 hB
  refine ysv (.o [] 14) a6.blk [V0 (Qy (inB l no)),.bool (Yj (inB l no)),.slice kp (Xb (inB l no)) kc,.slice vp (Xb (inB l no)) vc] (.t B [181]) fun w8 b3 o0=>⟨(Zt b3 a6.blk (N0 hBw c6) Do),?_⟩
  have k1:=b3.blkT (((((u3.blkT (n1.blk.below n2.below) a3 Do).below a9).below (Za W4)).below a7).below a6.below) a6.blk Do
  refine xlv (.r [15] 14) k1.rp ?_
  refine xb 1 2 o0 ?_
  have f0:=b3.own2 (Zb (Zf hk e9) a6.below) a6.blk Do
  refine xr 0 (args:=#[.agg #[V0 lo,V0 hi],.slice kp (Xb (inB l no)) kc]) (Zaz lo hi _ (Hh (inB l no) (Xb (inB l no))) _ (Zef (Zg f0) (Lr _ _))) fun a5 a1=>?_
  refine xin 4 (Jz lo hi (Hh (inB l no) (Xb (inB l no)))) (0:Int) (fun p4=>?_) (fun p4=>?_)
  ·refine xd 1 (.t B [181]) ?_
   refine xm2 (.b [1,2]) 0 3 ?_ ?_
   ·have m8:=(o0.below a1).below (Za a5)
    refine xlv 0 m8.rp ?_
    refine yc (.o [] 3) (.t B [181]) (Vu no (some 9) [] _ _ rfl) ?_
    rintro _ y5 ⟨z8,rfl,e0,h1⟩
    refine⟨(Q3 _ e0),?_⟩
    rw[Ks] at h1
    obtain⟨v0,u1,rfl⟩:=h1.iface
    have f5:=(((b3.blk (k2.below a6.below) b4).below a1).below (Za a5)).below e0
    have g2:=n2.ge0 (blB (Below.refl B w) hBw n1.below)
    refine ysv (.o [] 4) f5 [V0 (Qy (inB l no)),.bool (Yj (inB l no)),.slice kp (Xb (inB l no)) kc,.slice vp (Xb (inB l no)) vc] (.t B [181]) fun ab n4 t8=>⟨(Zt n4 f5 (N0 hBw g2) Do),?_⟩
    have p9:=n4.below (blB (blB (blB (b3.below (blB hB hBw a6.below) (N0 hBw c6)) hBw a1) hBw (Za a5)) hBw e0) (N0 hBw g2)
    have hO:=(Ze.upd_new ((((Ze.upd_new (((((((show Ze [306] w _ from(Q0 n1.below)).trans (Q0 n2.below)).trans (Q1 u3 a3 Do)).trans (Q0 a9)).trans (Q0 (Za W4))).trans (Q0 a7)).trans (Q0 a6.below)) b3 c6).trans (Q0 a1)).trans (Q0 (Za a5))).trans (Q0 e0)) n4 g2)
    have r5:=n4.blkT ((((b3.blkT ((b6.below a7).below a6.below) a6.blk Do).below a1).below (Za a5)).below e0) f5 Do
    have h9:=h1.upd n4 f5 Do
    exact xec (.r [5] 5) t8 (.tuple #[.agg #[V0 (Qy (inB l no)),.bool (Yj (inB l no)),.slice kp (Xb (inB l no)) kc,.slice vp (Xb (inB l no)) vc],.iface v0 (u1)]) ⟨p9,hO,r5,.inl ⟨by(unfold Qc;(repeat' split)<;>first|rfl|assumption|decide|omega|exact absurd (C5 (D0 ‹Ki _ _=true›) ‹Ki _ _=false›) Do|(rename_i q;exact absurd ⟨by assumption,by assumption,by assumption⟩ q)|(rename_i q;obtain⟨q1,q2,q3⟩:=q;exact absurd (C5 (D0 q1) ‹Yj _=false›) Do)|(rename_i q;obtain⟨q1,q2,q3⟩:=q;omega)),_,_,_,_,_,_,_,_,_,_,rfl,by(unfold Qc;(repeat' split)<;>first|exact h9|(exfalso;omega)|contradiction|exact absurd (C5 (D0 ‹Ki _ _=true›) ‹Ki _ _=false›) Do|(rename_i q;exact absurd ⟨by assumption,by assumption,by assumption⟩ q)|(rename_i q;obtain⟨q1,q2,q3⟩:=q;exact absurd (C5 (D0 q1) ‹Yj _=false›) Do)|(rename_i q;obtain⟨q1,q2,q3⟩:=q;omega))⟩⟩
   refine yc 0 (.t B [181]) (Vu no (some 9) [] _ _ rfl) ?_
   rintro _ aq ⟨af,rfl,d7,h0⟩
   refine⟨(Q3 _ d7),?_⟩
   rw[Ks] at h0
   obtain⟨s7,s9,rfl⟩:=h0.iface
   have i8:=((o0.below a1).below (Za a5)).below d7
   refine xlv (.o [] 0) i8.rp ?_
   have f2:=(((b3.blk (k2.below a6.below) b4).below a1).below (Za a5)).below d7
   have g2:=n2.ge0 (blB (Below.refl B w) hBw n1.below)
   refine ysv (.o [] 4) f2 [V0 (Qy (inB l no)),.bool (Yj (inB l no)),.slice kp (Xb (inB l no)) kc,.slice vp (Xb (inB l no)) vc] (.t B [181]) fun y7 j3 t7=>⟨(Zt j3 f2 (N0 hBw g2) Do),?_⟩
   have s2:=j3.below (blB (blB (blB (b3.below (blB hB hBw a6.below) (N0 hBw c6)) hBw a1) hBw (Za a5)) hBw d7) (N0 hBw g2)
   have hO:=(Ze.upd_new ((((Ze.upd_new (((((((show Ze [306] w _ from(Q0 n1.below)).trans (Q0 n2.below)).trans (Q1 u3 a3 Do)).trans (Q0 a9)).trans (Q0 (Za W4))).trans (Q0 a7)).trans (Q0 a6.below)) b3 c6).trans (Q0 a1)).trans (Q0 (Za a5))).trans (Q0 d7)) j3 g2)
   have q8:=j3.blkT ((((b3.blkT ((b6.below a7).below a6.below) a6.blk Do).below a1).below (Za a5)).below d7) f2 Do
   have h6:=h0.upd j3 f2 Do
   exact xec (.r [5] 5) t7 (.tuple #[.agg #[V0 (Qy (inB l no)),.bool (Yj (inB l no)),.slice kp (Xb (inB l no)) kc,.slice vp (Xb (inB l no)) vc],.iface s7 (s9)]) ⟨s2,hO,q8,.inl ⟨by(unfold Qc;(repeat' split)<;>first|rfl|assumption|decide|omega|exact absurd (C5 (D0 ‹Ki _ _=true›) ‹Ki _ _=false›) Do|(rename_i q;exact absurd ⟨by assumption,by assumption,by assumption⟩ q)|(rename_i q;obtain⟨q1,q2,q3⟩:=q;exact absurd (C5 (D0 q1) ‹Yj _=false›) Do)|(rename_i q;obtain⟨q1,q2,q3⟩:=q;omega)),_,_,_,_,_,_,_,_,_,_,rfl,by(unfold Qc;(repeat' split)<;>first|exact h6|(exfalso;omega)|contradiction|exact absurd (C5 (D0 ‹Ki _ _=true›) ‹Ki _ _=false›) Do|(rename_i q;exact absurd ⟨by assumption,by assumption,by assumption⟩ q)|(rename_i q;obtain⟨q1,q2,q3⟩:=q;exact absurd (C5 (D0 q1) ‹Yj _=false›) Do)|(rename_i q;obtain⟨q1,q2,q3⟩:=q;omega))⟩⟩
  refine xd 1 .z ?_
  have b8:=(o0.below a1).below (Za a5)
  refine xb (.e [0] 1) 1 b8 ?_
  refine xg (.b [2]) [69,70] (Yj (inB l no)) (fun q5=>?_) (fun q5=>?_)
  ·have c5:=((b3.blkT ((b6.below a7).below a6.below) a6.blk Do).below a1).below (Za a5)
   refine xb (.e [3,4,5,6] 7) 2 c5 ?_
   refine xg (.b [8,9,10]) [76,77,78] (deep != (0:Int)) (fun e5=>?_) (fun e5=>?_)
   ·have e5:=Be e5
    refine xb (.e [11,12,13,14] 15) 2 c5 ?_
    refine xb (.e [16,17,18] 19) 8 c5 ?_
    refine xwm (.e [20] 21) ((way.length:Int)+1) (↑(way.length+1):Int) ?_
    refine xin (.r [22,23,24] 2) deep (↑(way.length+1):Int) (fun o7=>?_) (fun o7=>?_)
    ·refine xd 1 (.t B [181]) ?_
     refine xm2 (.b [1,2]) 0 3 ?_ ?_
     ·have k5:=b8.below (Za a5.drew)
      refine xlv 0 k5.rp ?_
      refine yc (.o [] 3) (.t B [181]) (Vu no (some 10) [] _ _ rfl) ?_
      rintro _ z2 ⟨ae,rfl,e4,f9⟩
      refine⟨(Q3 _ e4),?_⟩
      rw[Ks] at f9
      obtain⟨t3,v9,rfl⟩:=f9.iface
      have e8:=((((b3.blk (k2.below a6.below) b4).below a1).below (Za a5)).below (Za a5.drew)).below e4
      have g2:=n2.ge0 (blB (Below.refl B w) hBw n1.below)
      refine ysv (.o [] 4) e8 [V0 (Qy (inB l no)),.bool (Yj (inB l no)),.slice kp (Xb (inB l no)) kc,.slice vp (Xb (inB l no)) vc] (.t B [181]) fun y9 n8 u6=>⟨(Zt n8 e8 (N0 hBw g2) Do),?_⟩
      have r2:=n8.below (blB (blB (blB (blB (b3.below (blB hB hBw a6.below) (N0 hBw c6)) hBw a1) hBw (Za a5)) hBw (Za a5.drew)) hBw e4) (N0 hBw g2)
      have hO:=(Ze.upd_new (((((Ze.upd_new (((((((show Ze [306] w _ from(Q0 n1.below)).trans (Q0 n2.below)).trans (Q1 u3 a3 Do)).trans (Q0 a9)).trans (Q0 (Za W4))).trans (Q0 a7)).trans (Q0 a6.below)) b3 c6).trans (Q0 a1)).trans (Q0 (Za a5))).trans (Q0 (Za a5.drew))).trans (Q0 e4)) n8 g2)
      have p5:=n8.blkT ((c5.below (Za a5.drew)).below e4) e8 Do
      have g7:=f9.upd n8 e8 Do
      exact xec (.r [5] 5) u6 (.tuple #[.agg #[V0 (Qy (inB l no)),.bool (Yj (inB l no)),.slice kp (Xb (inB l no)) kc,.slice vp (Xb (inB l no)) vc],.iface t3 (v9)]) ⟨r2,hO,p5,.inl ⟨by(unfold Qc;(repeat' split)<;>first|rfl|assumption|decide|omega|exact absurd (C5 (D0 ‹Ki _ _=true›) ‹Ki _ _=false›) Do|(rename_i q;exact absurd ⟨by assumption,by assumption,by assumption⟩ q)|(rename_i q;obtain⟨q1,q2,q3⟩:=q;exact absurd (C5 (D0 q1) ‹Yj _=false›) Do)|(rename_i q;obtain⟨q1,q2,q3⟩:=q;omega)),_,_,_,_,_,_,_,_,_,_,rfl,by(unfold Qc;(repeat' split)<;>first|exact g7|(exfalso;omega)|contradiction|exact absurd (C5 (D0 ‹Ki _ _=true›) ‹Ki _ _=false›) Do|(rename_i q;exact absurd ⟨by assumption,by assumption,by assumption⟩ q)|(rename_i q;obtain⟨q1,q2,q3⟩:=q;exact absurd (C5 (D0 q1) ‹Yj _=false›) Do)|(rename_i q;obtain⟨q1,q2,q3⟩:=q;omega))⟩⟩
     refine yc 0 (.t B [181]) (Vu no (some 10) [] _ _ rfl) ?_
     rintro _ z7 ⟨z1,rfl,d8,g0⟩
     refine⟨(Q3 _ d8),?_⟩
     rw[Ks] at g0
     obtain⟨u2,v1,rfl⟩:=g0.iface
     have n6:=(b8.below (Za a5.drew)).below d8
     refine xlv (.o [] 0) n6.rp ?_
     have e7:=((((b3.blk (k2.below a6.below) b4).below a1).below (Za a5)).below (Za a5.drew)).below d8
     have g2:=n2.ge0 (blB (Below.refl B w) hBw n1.below)
     refine ysv (.o [] 4) e7 [V0 (Qy (inB l no)),.bool (Yj (inB l no)),.slice kp (Xb (inB l no)) kc,.slice vp (Xb (inB l no)) vc] (.t B [181]) fun al l6 t4=>⟨(Zt l6 e7 (N0 hBw g2) Do),?_⟩
     have s0:=l6.below (blB (blB (blB (blB (b3.below (blB hB hBw a6.below) (N0 hBw c6)) hBw a1) hBw (Za a5)) hBw (Za a5.drew)) hBw d8) (N0 hBw g2)
     have hO:=(Ze.upd_new (((((Ze.upd_new (((((((show Ze [306] w _ from(Q0 n1.below)).trans (Q0 n2.below)).trans (Q1 u3 a3 Do)).trans (Q0 a9)).trans (Q0 (Za W4))).trans (Q0 a7)).trans (Q0 a6.below)) b3 c6).trans (Q0 a1)).trans (Q0 (Za a5))).trans (Q0 (Za a5.drew))).trans (Q0 d8)) l6 g2)
     have m9:=l6.blkT ((c5.below (Za a5.drew)).below d8) e7 Do
     have g6:=g0.upd l6 e7 Do
     exact xec (.r [5] 5) t4 (.tuple #[.agg #[V0 (Qy (inB l no)),.bool (Yj (inB l no)),.slice kp (Xb (inB l no)) kc,.slice vp (Xb (inB l no)) vc],.iface u2 (v1)]) ⟨s0,hO,m9,.inl ⟨by(unfold Qc;(repeat' split)<;>first|rfl|assumption|decide|omega|exact absurd (C5 (D0 ‹Ki _ _=true›) ‹Ki _ _=false›) Do|(rename_i q;exact absurd ⟨by assumption,by assumption,by assumption⟩ q)|(rename_i q;obtain⟨q1,q2,q3⟩:=q;exact absurd (C5 (D0 q1) ‹Yj _=false›) Do)|(rename_i q;obtain⟨q1,q2,q3⟩:=q;omega)),_,_,_,_,_,_,_,_,_,_,rfl,by(unfold Qc;(repeat' split)<;>first|exact g6|(exfalso;omega)|contradiction|exact absurd (C5 (D0 ‹Ki _ _=true›) ‹Ki _ _=false›) Do|(rename_i q;exact absurd ⟨by assumption,by assumption,by assumption⟩ q)|(rename_i q;obtain⟨q1,q2,q3⟩:=q;exact absurd (C5 (D0 q1) ‹Yj _=false›) Do)|(rename_i q;obtain⟨q1,q2,q3⟩:=q;omega))⟩⟩
    refine xlv 5 b8.rp ?_
    have f3:=((b3.blk (k2.below a6.below) b4).below a1).below (Za a5)
    refine xsv 0 f3 [V0 (Qy (inB l no)),.bool (Yj (inB l no)),.slice kp (Xb (inB l no)) kc,.slice vp (Xb (inB l no)) vc] fun x7 j7 u8=>?_
    have g2:=n2.ge0 (blB (Below.refl B w) hBw n1.below)
    have p8:=j7.below (blB (blB (b3.below (blB hB hBw a6.below) (N0 hBw c6)) hBw a1) hBw (Za a5)) (N0 hBw g2)
    have hO:=(Ze.upd_new (((Ze.upd_new (((((((show Ze [306] w _ from(Q0 n1.below)).trans (Q0 n2.below)).trans (Q1 u3 a3 Do)).trans (Q0 a9)).trans (Q0 (Za W4))).trans (Q0 a7)).trans (Q0 a6.below)) b3 c6).trans (Q0 a1)).trans (Q0 (Za a5))) j7 g2)
    have m1:=j7.blkT c5 f3 Do
    have p7:=j7.own2 (Zb (Zb f0 a1) (Za a5)) f3 Do
    have i6:=j7.own2 (Zb (Zb (b3.own2 (Zb (Zf i0 e9) a6.below) a6.blk Do) a1) (Za a5)) f3 Do
    exact xec 4 u8 (.tuple #[.agg #[V0 (Qy (inB l no)),.bool (Yj (inB l no)),.slice kp (Xb (inB l no)) kc,.slice vp (Xb (inB l no)) vc],.nilIface]) ⟨p8,hO,m1,.inr ⟨by(unfold Qc;(repeat' split)<;>first|rfl|assumption|decide|omega|exact absurd (C5 (D0 ‹Ki _ _=true›) ‹Ki _ _=false›) Do|(rename_i q;exact absurd ⟨by assumption,by assumption,by assumption⟩ q)|(rename_i q;obtain⟨q1,q2,q3⟩:=q;exact absurd (C5 (D0 q1) ‹Yj _=false›) Do)|(rename_i q;obtain⟨q1,q2,q3⟩:=q;omega)),by assumption,_,_,_,_,rfl,p7,i6⟩⟩
   have e5:=Vj e5
   refine xlv (.r [11,12,13,14,15,16,17,18,19,20,21,22,23,24] 8) b8.rp ?_
   have f7:=((b3.blk (k2.below a6.below) b4).below a1).below (Za a5)
   refine xsv 0 f7 [V0 (Qy (inB l no)),.bool (Yj (inB l no)),.slice kp (Xb (inB l no)) kc,.slice vp (Xb (inB l no)) vc] fun ao j4 v4=>?_
   have g2:=n2.ge0 (blB (Below.refl B w) hBw n1.below)
   have q4:=j4.below (blB (blB (b3.below (blB hB hBw a6.below) (N0 hBw c6)) hBw a1) hBw (Za a5)) (N0 hBw g2)
   have hO:=(Ze.upd_new (((Ze.upd_new (((((((show Ze [306] w _ from(Q0 n1.below)).trans (Q0 n2.below)).trans (Q1 u3 a3 Do)).trans (Q0 a9)).trans (Q0 (Za W4))).trans (Q0 a7)).trans (Q0 a6.below)) b3 c6).trans (Q0 a1)).trans (Q0 (Za a5))) j4 g2)
   have j0:=j4.blkT c5 f7 Do
   have r4:=j4.own2 (Zb (Zb f0 a1) (Za a5)) f7 Do
   have l5:=j4.own2 (Zb (Zb (b3.own2 (Zb (Zf i0 e9) a6.below) a6.blk Do) a1) (Za a5)) f7 Do
   exact xec 4 v4 (.tuple #[.agg #[V0 (Qy (inB l no)),.bool (Yj (inB l no)),.slice kp (Xb (inB l no)) kc,.slice vp (Xb (inB l no)) vc],.nilIface]) ⟨q4,hO,j0,.inr ⟨by(unfold Qc;(repeat' split)<;>first|rfl|assumption|decide|omega|exact absurd (C5 (D0 ‹Ki _ _=true›) ‹Ki _ _=false›) Do|(rename_i q;exact absurd ⟨by assumption,by assumption,by assumption⟩ q)|(rename_i q;obtain⟨q1,q2,q3⟩:=q;exact absurd (C5 (D0 q1) ‹Yj _=false›) Do)|(rename_i q;obtain⟨q1,q2,q3⟩:=q;omega)),by assumption,_,_,_,_,rfl,r4,l5⟩⟩
  refine xlv (.r [3,4,5,6,7,8,9,10,11,12,13,14,15,16,17,18,19,20,21,22,23,24] 8) b8.rp ?_
  have f1:=((b3.blk (k2.below a6.below) b4).below a1).below (Za a5)
  refine xsv 0 f1 [V0 (Qy (inB l no)),.bool (Yj (inB l no)),.slice kp (Xb (inB l no)) kc,.slice vp (Xb (inB l no)) vc] fun y8 l8 t1=>?_
  have g2:=n2.ge0 (blB (Below.refl B w) hBw n1.below)
  have s3:=l8.below (blB (blB (b3.below (blB hB hBw a6.below) (N0 hBw c6)) hBw a1) hBw (Za a5)) (N0 hBw g2)
  have hO:=(Ze.upd_new (((Ze.upd_new (((((((show Ze [306] w _ from(Q0 n1.below)).trans (Q0 n2.below)).trans (Q1 u3 a3 Do)).trans (Q0 a9)).trans (Q0 (Za W4))).trans (Q0 a7)).trans (Q0 a6.below)) b3 c6).trans (Q0 a1)).trans (Q0 (Za a5))) l8 g2)
  have k4:=l8.blkT (((b3.blkT ((b6.below a7).below a6.below) a6.blk Do).below a1).below (Za a5)) f1 Do
  have q0:=l8.own2 (Zb (Zb f0 a1) (Za a5)) f1 Do
  have i9:=l8.own2 (Zb (Zb (b3.own2 (Zb (Zf i0 e9) a6.below) a6.blk Do) a1) (Za a5)) f1 Do
  exact xec 4 t1 (.tuple #[.agg #[V0 (Qy (inB l no)),.bool (Yj (inB l no)),.slice kp (Xb (inB l no)) kc,.slice vp (Xb (inB l no)) vc],.nilIface]) ⟨s3,hO,k4,.inr ⟨by(unfold Qc;(repeat' split)<;>first|rfl|assumption|decide|omega|exact absurd (C5 (D0 ‹Ki _ _=true›) ‹Ki _ _=false›) Do|(rename_i q;exact absurd ⟨by assumption,by assumption,by assumption⟩ q)|(rename_i q;obtain⟨q1,q2,q3⟩:=q;exact absurd (C5 (D0 q1) ‹Yj _=false›) Do)|(rename_i q;obtain⟨q1,q2,q3⟩:=q;omega)),by assumption,_,_,_,_,rfl,q0,i9⟩⟩
 refine xa 0 [V0 0,.bool false,S0,S0] 181 fun ai z3 a8=>?_
 have k2:=((u3.blkT n2.blk a3 Do).below a9).below (Za W4)
 have b0:=a8.ne k2
 have hB:=blB (blB (u3.below (blB (blB (Below.refl B w) hBw n1.below) hBw n2.below) hBb) hBw a9) hBw (Za W4)
 have c2:=a8.ge0 hB
 have o6:=(((((hI.below n1.below).below n2.below).only (Q1 (T:=[306]) u3 a3 Do) Do).below a9).below (Za W4)).below a8.below
 refine yc (.o [] 9) (.t B [181]) (Sa Bi b p n c l no tree _ o6) ?_
 rintro e ak q9
 rcases q9 with ⟨he,bf,rfl,a0,hv⟩|⟨he,kp,kc,vp,vc,rfl,a0,hk,i0⟩
 ·refine⟨(Q3 _ a0),?_⟩
  have c3:=a8.blk.below a0
  refine ysv (.o [10,11,12] 14) c3 [V0 0,.bool false,S0,S0] (.t B [181]) fun x4 i3 w4=>⟨(Zt i3 c3 (N0 hBw c2) Do),?_⟩
  refine xlv (.r [15] 14) w4.rp ?_
  have g3:=i3.blk ((k2.below a8.below).below a0) b0
  refine xsv 1 g3 [V0 0,.bool false,S0,S0] fun x5 o1 u5=>?_
  have g2:=n2.ge0 (blB (Below.refl B w) hBw n1.below)
  have r3:=o1.below (i3.below (blB (blB hB hBw a8.below) hBw a0) (N0 hBw c2)) (N0 hBw g2)
  have hO:=(Ze.upd_new (Ze.upd_new (((((((show Ze [306] w _ from(Q0 n1.below)).trans (Q0 n2.below)).trans (Q1 u3 a3 Do)).trans (Q0 a9)).trans (Q0 (Za W4))).trans (Q0 a8.below)).trans (Q0 a0)) i3 c2) o1 g2)
  have i5:=o1.blkT (i3.blkT ((b6.below a8.below).below a0) c3 Do) g3 Do
  have r7:=(hv.upd i3 c3 Do).upd o1 g3 Do
  exact xec 6 u5 (.tuple #[.agg #[V0 0,.bool false,S0,S0],.iface 188 (P0 bf)]) ⟨r3,hO,i5,.inl ⟨by(unfold Qc;(repeat' split)<;>first|rfl|assumption|decide|omega|exact absurd (C5 (D0 ‹Ki _ _=true›) ‹Ki _ _=false›) Do|(rename_i q;exact absurd ⟨by assumption,by assumption,by assumption⟩ q)|(rename_i q;obtain⟨q1,q2,q3⟩:=q;exact absurd (C5 (D0 q1) ‹Yj _=false›) Do)|(rename_i q;obtain⟨q1,q2,q3⟩:=q;omega)),_,_,_,_,_,_,_,_,_,_,rfl,by(unfold Qc;(repeat' split)<;>first|exact r7|(exfalso;omega)|contradiction|exact absurd (C5 (D0 ‹Ki _ _=true›) ‹Ki _ _=false›) Do|(rename_i q;exact absurd ⟨by assumption,by assumption,by assumption⟩ q)|(rename_i q;obtain⟨q1,q2,q3⟩:=q;exact absurd (C5 (D0 q1) ‹Yj _=false›) Do)|(rename_i q;obtain⟨q1,q2,q3⟩:=q;omega))⟩⟩
 have f4:=(blB hB hBw a8.below).size
 refine⟨(Q3 _ a0),?_⟩
 have c3:=a8.blk.below a0
 refine ysv (.o [10,11,12] 14) c3 [V0 (Qy (inB l no)),.bool (Yj (inB l no)),.slice kp (Xb (inB l no)) kc,.slice vp (Xb (inB l no)) vc] (.t B [181]) fun x2 b5 o4=>⟨(Zt b5 c3 (N0 hBw c2) Do),?_⟩
 have k1:=b5.blkT (((((u3.blkT (n1.blk.below n2.below) a3 Do).below a9).below (Za W4)).below a8.below).below a0) c3 Do
 refine xlv (.r [15] 14) k1.rp ?_
 refine xb 1 2 o4 ?_
 have f6:=b5.own2 (Zf hk f4) c3 Do
 refine xr 0 (args:=#[.agg #[V0 lo,V0 hi],.slice kp (Xb (inB l no)) kc]) (Zaz lo hi _ (Hh (inB l no) (Xb (inB l no))) _ (Zef (Zg f6) (Lr _ _))) fun a4 a2=>?_
 refine xin 4 (Jz lo hi (Hh (inB l no) (Xb (inB l no)))) (0:Int) (fun q7=>?_) (fun q7=>?_)
 ·refine xd 1 (.t B [181]) ?_
  refine xm2 (.b [1,2]) 0 3 ?_ ?_
  ·have i7:=(o4.below a2).below (Za a4)
   refine xlv 0 i7.rp ?_
   refine yc (.o [] 3) (.t B [181]) (Vu no (some 9) [] _ _ rfl) ?_
   rintro _ ag ⟨y4,rfl,e1,h3⟩
   refine⟨(Q3 _ e1),?_⟩
   rw[Ks] at h3
   obtain⟨w7,s8,rfl⟩:=h3.iface
   have d1:=(((b5.blk ((k2.below a8.below).below a0) b0).below a2).below (Za a4)).below e1
   have g2:=n2.ge0 (blB (Below.refl B w) hBw n1.below)
   refine ysv (.o [] 4) d1 [V0 (Qy (inB l no)),.bool (Yj (inB l no)),.slice kp (Xb (inB l no)) kc,.slice vp (Xb (inB l no)) vc] (.t B [181]) fun y0 n5 w2=>⟨(Zt n5 d1 (N0 hBw g2) Do),?_⟩
   have n7:=n5.below (blB (blB (blB (b5.below (blB (blB hB hBw a8.below) hBw a0) (N0 hBw c2)) hBw a2) hBw (Za a4)) hBw e1) (N0 hBw g2)
   have hO:=(Ze.upd_new ((((Ze.upd_new (((((((show Ze [306] w _ from(Q0 n1.below)).trans (Q0 n2.below)).trans (Q1 u3 a3 Do)).trans (Q0 a9)).trans (Q0 (Za W4))).trans (Q0 a8.below)).trans (Q0 a0)) b5 c2).trans (Q0 a2)).trans (Q0 (Za a4))).trans (Q0 e1)) n5 g2)
   have m0:=n5.blkT ((((b5.blkT ((b6.below a8.below).below a0) c3 Do).below a2).below (Za a4)).below e1) d1 Do
   have h8:=h3.upd n5 d1 Do
   exact xec (.r [5] 5) w2 (.tuple #[.agg #[V0 (Qy (inB l no)),.bool (Yj (inB l no)),.slice kp (Xb (inB l no)) kc,.slice vp (Xb (inB l no)) vc],.iface w7 (s8)]) ⟨n7,hO,m0,.inl ⟨by(unfold Qc;(repeat' split)<;>first|rfl|assumption|decide|omega|exact absurd (C5 (D0 ‹Ki _ _=true›) ‹Ki _ _=false›) Do|(rename_i q;exact absurd ⟨by assumption,by assumption,by assumption⟩ q)|(rename_i q;obtain⟨q1,q2,q3⟩:=q;exact absurd (C5 (D0 q1) ‹Yj _=false›) Do)|(rename_i q;obtain⟨q1,q2,q3⟩:=q;omega)),_,_,_,_,_,_,_,_,_,_,rfl,by(unfold Qc;(repeat' split)<;>first|exact h8|(exfalso;omega)|contradiction|exact absurd (C5 (D0 ‹Ki _ _=true›) ‹Ki _ _=false›) Do|(rename_i q;exact absurd ⟨by assumption,by assumption,by assumption⟩ q)|(rename_i q;obtain⟨q1,q2,q3⟩:=q;exact absurd (C5 (D0 q1) ‹Yj _=false›) Do)|(rename_i q;obtain⟨q1,q2,q3⟩:=q;omega))⟩⟩
  refine yc 0 (.t B [181]) (Vu no (some 9) [] _ _ rfl) ?_
  rintro _ y6 ⟨y1,rfl,d9,h2⟩
  refine⟨(Q3 _ d9),?_⟩
  rw[Ks] at h2
  obtain⟨v2,u9,rfl⟩:=h2.iface
  have k6:=((o4.below a2).below (Za a4)).below d9
  refine xlv (.o [] 0) k6.rp ?_
  have d0:=(((b5.blk ((k2.below a8.below).below a0) b0).below a2).below (Za a4)).below d9
  have g2:=n2.ge0 (blB (Below.refl B w) hBw n1.below)
  refine ysv (.o [] 4) d0 [V0 (Qy (inB l no)),.bool (Yj (inB l no)),.slice kp (Xb (inB l no)) kc,.slice vp (Xb (inB l no)) vc] (.t B [181]) fun x3 j6 v5=>⟨(Zt j6 d0 (N0 hBw g2) Do),?_⟩
  have n0:=j6.below (blB (blB (blB (b5.below (blB (blB hB hBw a8.below) hBw a0) (N0 hBw c2)) hBw a2) hBw (Za a4)) hBw d9) (N0 hBw g2)
  have hO:=(Ze.upd_new ((((Ze.upd_new (((((((show Ze [306] w _ from(Q0 n1.below)).trans (Q0 n2.below)).trans (Q1 u3 a3 Do)).trans (Q0 a9)).trans (Q0 (Za W4))).trans (Q0 a8.below)).trans (Q0 a0)) b5 c2).trans (Q0 a2)).trans (Q0 (Za a4))).trans (Q0 d9)) j6 g2)
  have l7:=j6.blkT ((((b5.blkT ((b6.below a8.below).below a0) c3 Do).below a2).below (Za a4)).below d9) d0 Do
  have h7:=h2.upd j6 d0 Do
  exact xec (.r [5] 5) v5 (.tuple #[.agg #[V0 (Qy (inB l no)),.bool (Yj (inB l no)),.slice kp (Xb (inB l no)) kc,.slice vp (Xb (inB l no)) vc],.iface v2 (u9)]) ⟨n0,hO,l7,.inl ⟨by(unfold Qc;(repeat' split)<;>first|rfl|assumption|decide|omega|exact absurd (C5 (D0 ‹Ki _ _=true›) ‹Ki _ _=false›) Do|(rename_i q;exact absurd ⟨by assumption,by assumption,by assumption⟩ q)|(rename_i q;obtain⟨q1,q2,q3⟩:=q;exact absurd (C5 (D0 q1) ‹Yj _=false›) Do)|(rename_i q;obtain⟨q1,q2,q3⟩:=q;omega)),_,_,_,_,_,_,_,_,_,_,rfl,by(unfold Qc;(repeat' split)<;>first|exact h7|(exfalso;omega)|contradiction|exact absurd (C5 (D0 ‹Ki _ _=true›) ‹Ki _ _=false›) Do|(rename_i q;exact absurd ⟨by assumption,by assumption,by assumption⟩ q)|(rename_i q;obtain⟨q1,q2,q3⟩:=q;exact absurd (C5 (D0 q1) ‹Yj _=false›) Do)|(rename_i q;obtain⟨q1,q2,q3⟩:=q;omega))⟩⟩
 refine xd 1 .z ?_
 have b9:=(o4.below a2).below (Za a4)
 refine xb (.e [0] 1) 1 b9 ?_
 refine xg (.b [2]) [69,70] (Yj (inB l no)) (fun q6=>?_) (fun q6=>?_)
 ·have b7:=((b5.blkT ((b6.below a8.below).below a0) c3 Do).below a2).below (Za a4)
  refine xb (.e [3,4,5,6] 7) 2 b7 ?_
  refine xg (.b [8,9,10]) [76,77,78] (deep != (0:Int)) (fun e3=>?_) (fun e3=>?_)
  ·have e3:=Be e3
   refine xb (.e [11,12,13,14] 15) 2 b7 ?_
   refine xb (.e [16,17,18] 19) 8 b7 ?_
   refine xwm (.e [20] 21) ((way.length:Int)+1) (↑(way.length+1):Int) ?_
   refine xin (.r [22,23,24] 2) deep (↑(way.length+1):Int) (fun o9=>?_) (fun o9=>?_)
   ·refine xd 1 (.t B [181]) ?_
    refine xm2 (.b [1,2]) 0 3 ?_ ?_
    ·have j1:=b9.below (Za a4.drew)
     refine xlv 0 j1.rp ?_
     refine yc (.o [] 3) (.t B [181]) (Vu no (some 10) [] _ _ rfl) ?_
     rintro _ y3 ⟨z0,rfl,e2,f8⟩
     refine⟨(Q3 _ e2),?_⟩
     rw[Ks] at f8
     obtain⟨w5,v3,rfl⟩:=f8.iface
     have d2:=((((b5.blk ((k2.below a8.below).below a0) b0).below a2).below (Za a4)).below (Za a4.drew)).below e2
     have g2:=n2.ge0 (blB (Below.refl B w) hBw n1.below)
     refine ysv (.o [] 4) d2 [V0 (Qy (inB l no)),.bool (Yj (inB l no)),.slice kp (Xb (inB l no)) kc,.slice vp (Xb (inB l no)) vc] (.t B [181]) fun z4 m7 w0=>⟨(Zt m7 d2 (N0 hBw g2) Do),?_⟩
     have k0:=m7.below (blB (blB (blB (blB (b5.below (blB (blB hB hBw a8.below) hBw a0) (N0 hBw c2)) hBw a2) hBw (Za a4)) hBw (Za a4.drew)) hBw e2) (N0 hBw g2)
     have hO:=(Ze.upd_new (((((Ze.upd_new (((((((show Ze [306] w _ from(Q0 n1.below)).trans (Q0 n2.below)).trans (Q1 u3 a3 Do)).trans (Q0 a9)).trans (Q0 (Za W4))).trans (Q0 a8.below)).trans (Q0 a0)) b5 c2).trans (Q0 a2)).trans (Q0 (Za a4))).trans (Q0 (Za a4.drew))).trans (Q0 e2)) m7 g2)
     have n3:=m7.blkT ((b7.below (Za a4.drew)).below e2) d2 Do
     have i1:=f8.upd m7 d2 Do
     exact xec (.r [5] 5) w0 (.tuple #[.agg #[V0 (Qy (inB l no)),.bool (Yj (inB l no)),.slice kp (Xb (inB l no)) kc,.slice vp (Xb (inB l no)) vc],.iface w5 (v3)]) ⟨k0,hO,n3,.inl ⟨by(unfold Qc;(repeat' split)<;>first|rfl|assumption|decide|omega|exact absurd (C5 (D0 ‹Ki _ _=true›) ‹Ki _ _=false›) Do|(rename_i q;exact absurd ⟨by assumption,by assumption,by assumption⟩ q)|(rename_i q;obtain⟨q1,q2,q3⟩:=q;exact absurd (C5 (D0 q1) ‹Yj _=false›) Do)|(rename_i q;obtain⟨q1,q2,q3⟩:=q;omega)),_,_,_,_,_,_,_,_,_,_,rfl,by(unfold Qc;(repeat' split)<;>first|exact i1|(exfalso;omega)|contradiction|exact absurd (C5 (D0 ‹Ki _ _=true›) ‹Ki _ _=false›) Do|(rename_i q;exact absurd ⟨by assumption,by assumption,by assumption⟩ q)|(rename_i q;obtain⟨q1,q2,q3⟩:=q;exact absurd (C5 (D0 q1) ‹Yj _=false›) Do)|(rename_i q;obtain⟨q1,q2,q3⟩:=q;omega))⟩⟩
    refine yc 0 (.t B [181]) (Vu no (some 10) [] _ _ rfl) ?_
    rintro _ aa ⟨ad,rfl,d6,h5⟩
    refine⟨(Q3 _ d6),?_⟩
    rw[Ks] at h5
    obtain⟨t2,t0,rfl⟩:=h5.iface
    have l0:=(b9.below (Za a4.drew)).below d6
    refine xlv (.o [] 0) l0.rp ?_
    have d4:=((((b5.blk ((k2.below a8.below).below a0) b0).below a2).below (Za a4)).below (Za a4.drew)).below d6
    have g2:=n2.ge0 (blB (Below.refl B w) hBw n1.below)
    refine ysv (.o [] 4) d4 [V0 (Qy (inB l no)),.bool (Yj (inB l no)),.slice kp (Xb (inB l no)) kc,.slice vp (Xb (inB l no)) vc] (.t B [181]) fun x0 j8 t5=>⟨(Zt j8 d4 (N0 hBw g2) Do),?_⟩
    have m6:=j8.below (blB (blB (blB (blB (b5.below (blB (blB hB hBw a8.below) hBw a0) (N0 hBw c2)) hBw a2) hBw (Za a4)) hBw (Za a4.drew)) hBw d6) (N0 hBw g2)
    have hO:=(Ze.upd_new (((((Ze.upd_new (((((((show Ze [306] w _ from(Q0 n1.below)).trans (Q0 n2.below)).trans (Q1 u3 a3 Do)).trans (Q0 a9)).trans (Q0 (Za W4))).trans (Q0 a8.below)).trans (Q0 a0)) b5 c2).trans (Q0 a2)).trans (Q0 (Za a4))).trans (Q0 (Za a4.drew))).trans (Q0 d6)) j8 g2)
    have l3:=j8.blkT ((b7.below (Za a4.drew)).below d6) d4 Do
    have g5:=h5.upd j8 d4 Do
    exact xec (.r [5] 5) t5 (.tuple #[.agg #[V0 (Qy (inB l no)),.bool (Yj (inB l no)),.slice kp (Xb (inB l no)) kc,.slice vp (Xb (inB l no)) vc],.iface t2 (t0)]) ⟨m6,hO,l3,.inl ⟨by(unfold Qc;(repeat' split)<;>first|rfl|assumption|decide|omega|exact absurd (C5 (D0 ‹Ki _ _=true›) ‹Ki _ _=false›) Do|(rename_i q;exact absurd ⟨by assumption,by assumption,by assumption⟩ q)|(rename_i q;obtain⟨q1,q2,q3⟩:=q;exact absurd (C5 (D0 q1) ‹Yj _=false›) Do)|(rename_i q;obtain⟨q1,q2,q3⟩:=q;omega)),_,_,_,_,_,_,_,_,_,_,rfl,by(unfold Qc;(repeat' split)<;>first|exact g5|(exfalso;omega)|contradiction|exact absurd (C5 (D0 ‹Ki _ _=true›) ‹Ki _ _=false›) Do|(rename_i q;exact absurd ⟨by assumption,by assumption,by assumption⟩ q)|(rename_i q;obtain⟨q1,q2,q3⟩:=q;exact absurd (C5 (D0 q1) ‹Yj _=false›) Do)|(rename_i q;obtain⟨q1,q2,q3⟩:=q;omega))⟩⟩
   refine xlv 5 b9.rp ?_
   have d5:=((b5.blk ((k2.below a8.below).below a0) b0).below a2).below (Za a4)
   refine xsv 0 d5 [V0 (Qy (inB l no)),.bool (Yj (inB l no)),.slice kp (Xb (inB l no)) kc,.slice vp (Xb (inB l no)) vc] fun z6 l1 v8=>?_
   have g2:=n2.ge0 (blB (Below.refl B w) hBw n1.below)
   have m4:=l1.below (blB (blB (b5.below (blB (blB hB hBw a8.below) hBw a0) (N0 hBw c2)) hBw a2) hBw (Za a4)) (N0 hBw g2)
   have hO:=(Ze.upd_new (((Ze.upd_new (((((((show Ze [306] w _ from(Q0 n1.below)).trans (Q0 n2.below)).trans (Q1 u3 a3 Do)).trans (Q0 a9)).trans (Q0 (Za W4))).trans (Q0 a8.below)).trans (Q0 a0)) b5 c2).trans (Q0 a2)).trans (Q0 (Za a4))) l1 g2)
   have m3:=l1.blkT b7 d5 Do
   have o8:=l1.own2 (Zb (Zb f6 a2) (Za a4)) d5 Do
   have k8:=l1.own2 (Zb (Zb (b5.own2 (Zf i0 f4) c3 Do) a2) (Za a4)) d5 Do
   exact xec 4 v8 (.tuple #[.agg #[V0 (Qy (inB l no)),.bool (Yj (inB l no)),.slice kp (Xb (inB l no)) kc,.slice vp (Xb (inB l no)) vc],.nilIface]) ⟨m4,hO,m3,.inr ⟨by(unfold Qc;(repeat' split)<;>first|rfl|assumption|decide|omega|exact absurd (C5 (D0 ‹Ki _ _=true›) ‹Ki _ _=false›) Do|(rename_i q;exact absurd ⟨by assumption,by assumption,by assumption⟩ q)|(rename_i q;obtain⟨q1,q2,q3⟩:=q;exact absurd (C5 (D0 q1) ‹Yj _=false›) Do)|(rename_i q;obtain⟨q1,q2,q3⟩:=q;omega)),by assumption,_,_,_,_,rfl,o8,k8⟩⟩
  have e3:=Vj e3
  refine xlv (.r [11,12,13,14,15,16,17,18,19,20,21,22,23,24] 8) b9.rp ?_
  have c8:=((b5.blk ((k2.below a8.below).below a0) b0).below a2).below (Za a4)
  refine xsv 0 c8 [V0 (Qy (inB l no)),.bool (Yj (inB l no)),.slice kp (Xb (inB l no)) kc,.slice vp (Xb (inB l no)) vc] fun z9 l9 v7=>?_
  have g2:=n2.ge0 (blB (Below.refl B w) hBw n1.below)
  have j9:=l9.below (blB (blB (b5.below (blB (blB hB hBw a8.below) hBw a0) (N0 hBw c2)) hBw a2) hBw (Za a4)) (N0 hBw g2)
  have hO:=(Ze.upd_new (((Ze.upd_new (((((((show Ze [306] w _ from(Q0 n1.below)).trans (Q0 n2.below)).trans (Q1 u3 a3 Do)).trans (Q0 a9)).trans (Q0 (Za W4))).trans (Q0 a8.below)).trans (Q0 a0)) b5 c2).trans (Q0 a2)).trans (Q0 (Za a4))) l9 g2)
  have k9:=l9.blkT b7 c8 Do
  have r0:=l9.own2 (Zb (Zb f6 a2) (Za a4)) c8 Do
  have m5:=l9.own2 (Zb (Zb (b5.own2 (Zf i0 f4) c3 Do) a2) (Za a4)) c8 Do
  exact xec 4 v7 (.tuple #[.agg #[V0 (Qy (inB l no)),.bool (Yj (inB l no)),.slice kp (Xb (inB l no)) kc,.slice vp (Xb (inB l no)) vc],.nilIface]) ⟨j9,hO,k9,.inr ⟨by(unfold Qc;(repeat' split)<;>first|rfl|assumption|decide|omega|exact absurd (C5 (D0 ‹Ki _ _=true›) ‹Ki _ _=false›) Do|(rename_i q;exact absurd ⟨by assumption,by assumption,by assumption⟩ q)|(rename_i q;obtain⟨q1,q2,q3⟩:=q;exact absurd (C5 (D0 q1) ‹Yj _=false›) Do)|(rename_i q;obtain⟨q1,q2,q3⟩:=q;omega)),by assumption,_,_,_,_,rfl,r0,m5⟩⟩
 refine xlv (.r [3,4,5,6,7,8,9,10,11,12,13,14,15,16,17,18,19,20,21,22,23,24] 8) b9.rp ?_
 have d3:=((b5.blk ((k2.below a8.below).below a0) b0).below a2).below (Za a4)
 refine xsv 0 d3 [V0 (Qy (inB l no)),.bool (Yj (inB l no)),.slice kp (Xb (inB l no)) kc,.slice vp (Xb (inB l no)) vc] fun ap l4 u0=>?_
 have g2:=n2.ge0 (blB (Below.refl B w) hBw n1.below)
 have i4:=l4.below (blB (blB (b5.below (blB (blB hB hBw a8.below) hBw a0) (N0 hBw c2)) hBw a2) hBw (Za a4)) (N0 hBw g2)
 have hO:=(Ze.upd_new (((Ze.upd_new (((((((show Ze [306] w _ from(Q0 n1.below)).trans (Q0 n2.below)).trans (Q1 u3 a3 Do)).trans (Q0 a9)).trans (Q0 (Za W4))).trans (Q0 a8.below)).trans (Q0 a0)) b5 c2).trans (Q0 a2)).trans (Q0 (Za a4))) l4 g2)
 have j5:=l4.blkT (((b5.blkT ((b6.below a8.below).below a0) c3 Do).below a2).below (Za a4)) d3 Do
 have s6:=l4.own2 (Zb (Zb f6 a2) (Za a4)) d3 Do
 have m2:=l4.own2 (Zb (Zb (b5.own2 (Zf i0 f4) c3 Do) a2) (Za a4)) d3 Do
 exact xec 4 u0 (.tuple #[.agg #[V0 (Qy (inB l no)),.bool (Yj (inB l no)),.slice kp (Xb (inB l no)) kc,.slice vp (Xb (inB l no)) vc],.nilIface]) ⟨i4,hO,j5,.inr ⟨by(unfold Qc;(repeat' split)<;>first|rfl|assumption|decide|omega|exact absurd (C5 (D0 ‹Ki _ _=true›) ‹Ki _ _=false›) Do|(rename_i q;exact absurd ⟨by assumption,by assumption,by assumption⟩ q)|(rename_i q;obtain⟨q1,q2,q3⟩:=q;exact absurd (C5 (D0 q1) ‹Yj _=false›) Do)|(rename_i q;obtain⟨q1,q2,q3⟩:=q;omega)),by assumption,_,_,_,_,rfl,s6,m2⟩⟩
def Pg(K:List Int)(Vs:List Bl)(no:Int)(k:Nat):List Ent:=(List.range k).map fun j=>(K.getD j 0,Vs.getD j [],no)
theorem Rc(K:List Int)(Vs:List Bl)(no:Int)(k:Nat):(Pg K Vs no k).length=k:=by simp[Pg]
theorem Zpf(K:List Int)(Vs:List Bl)(no:Int)(k:Nat):Pg K Vs no (k+1)=Pg K Vs no k++[(K.getD k 0,Vs.getD k [],no)]:=by simp[Pg,C3]
theorem Zm8(es:List Ent)(K:List Int)(Vs:List Bl)(no:Int)(k:Nat):(es++Pg K Vs no k).flatMap Kd++[V0 (K.getD k 0),.string ⟨(Vs.getD k []).toArray⟩,V0 no]=(es++Pg K Vs no (k+1)).flatMap Kd:=by
 rw[Zpf,←A1,C8 (xs:=es++Pg K Vs no k)]
 rfl
def LeafP(B bw:Nat)(c1 c3 c4 c5 c6 c7:Value)(pw:O0)(cw:Nat)(way:List Int)(c9:Value)(es:List Ent)(K:List Int)(Vs:List Bl)(no:Int)(n:Nat)(w:World)(e:Ending)(w':World):Prop :=
 ∃ u pe ce,e=.returned u∧Below B w w'∧Ze [306,132] w w'∧Blk w' bw [.slice pe (es.length+n) ce,c1,V0 (↑(way.length+1):Int),c3,c4,c5,c6,c7,.slice pw way.length cw,c9] 306∧w'.ownsRow B 132 3 (.slice pe (es.length+n) ce) (es.length+n) ((es++Pg K Vs no n).flatMap Kd)
theorem Zi9(B bw:Nat)(c1 c2 c3 c4 c5 c6 c7 c9:Value)(pe:O0)(ce:Nat)(es:List Ent)(pw:O0)(cw:Nat)(way:List Int)(no:Int)(nt:Int)(nl:Bool)(kp vp:O0)(n kc vc:Nat)(K:List Int)(Vs:List Bl)(w:World)(hBb:B≤bw)(hBw:B≤w.heap.size)(kW:Blk w bw [.slice pe es.length ce,c1,c2,c3,c4,c5,c6,c7,.slice pw way.length cw,c9] 306)(hE:w.ownsRow B 132 3 (.slice pe es.length ce) es.length (es.flatMap Kd))(hKs:∀ W,Below B w W→Ze [306,132] w W→Sl W (.slice kp n kc) n (K.map V0))(hVs:∀ W,Below B w W→Ze [306,132] w W→Sl W (.slice vp n vc) n (Vs.map sv))(hKl:K.length=n)(hVl:Vs.length=n)(hwl:way.length≤100000000)(hn:es.length+n≤100000000) :
 C0 233 #[P0 bw,V0 no,.agg #[V0 nt,.bool nl,.slice kp n kc,.slice vp n vc]] w (LeafP B bw c1 c3 c4 c5 c6 c7 pw cw way c9 es K Vs no n w):=by
 refine zin 46 Tryz.func233 ?_
 refine xa 2 [V0 nt,.bool nl,.slice kp n kc,.slice vp n vc] 181 fun b1 W1 n1=>?_
 have a7:=kW.below n1.below
 refine xb 8 8 a7 ?_
 refine xwm 1 ((way.length:Int)+1) (↑(way.length+1):Int) ?_
 refine xs 3 a7 [.slice pe es.length ce,c1,V0 (↑(way.length+1):Int),c3,c4,c5,c6,c7,.slice pw way.length cw,c9] fun W2 u2 k2=>?_
 have k1:=u2.blkT n1.blk a7 Do
 refine xb 5 2 k1 ?_
 have e0:=u2.own2 (Zb hE n1.below) a7 Do
 have hB:=u2.below (blB (Below.refl B w) hBw n1.below) hBb
 have hO:=(show Ze [306,132] w _ from(Q0 n1.below)).trans (Q1 u2 a7 Do)
 refine zl 5 46 (fun zm f2 V=>∃ (i:Nat) (pe:O0) (ce:Nat),f2=[(0,P0 bw),(1,V0 no),(5,P0 b1),(19,.slice kp n kc),(20,V0 (n:Int)),(21,V0 (i:Int))]∧zm=n-((i:Int)).toNat∧Below B w V∧Ze [306,132] w V∧Blk V bw ([.slice pe (es.length+i) ce,c1,V0 (↑(way.length+1):Int),c3,c4,c5,c6,c7,.slice pw way.length cw,c9]) 306∧Blk V b1 ([V0 nt,.bool nl,.slice kp n kc,.slice vp n vc]) 181∧V.ownsRow B 132 3 (.slice pe (es.length+i) ce) (es.length+i) ((es++Pg K Vs no i).flatMap Kd)∧i≤n) ⟨0,_,_,rfl,rfl,hB,hO,k2,k1,(by simpa [Pg] using e0),A3 _⟩ ?_
 rintro _ _ W3 ⟨i,pe,ce,rfl,rfl,b3,b2,a9,b9,hE,hi⟩ J3 e4 r3
 refine xid 6 ((i:Int)<(n:Int)) (fun e6=>?_) (fun e6=>?_)
 ·refine xx 7 _ n i 1 (IntsN.elem (hKs _ b3 b2) hKl (k:=i) M0).1 ?_
  refine xl 0 ((IntsN.elem (hKs _ b3 b2) hKl (k:=i) M0).2) ?_
  refine xd 4 (.t B [306,132]) ?_
  have a2:=b9.below (Za W3)
  refine xbt (.e [0,1,2,3,4,6,7] 8) 3 B [306,132] a2 ?_
  have a5:=blB b3 hBw (Za W3)
  have b0:=b2.trans (Q0 (Za W3))
  refine xx (.e [9] 10) _ n i 1 (Strs.elem (hVs _ a5 b0) hVl (k:=i) M0).1 ?_
  refine xlt (.e [] 11) (.t B [306,132]) (fun V hV=>(Strs.elem (hVs _ (Zd7 a5 hV hBw) (b0.trans hV.2)) hVl (k:=i) M0).2) ?_
  refine xm2 (.b [12,13]) 5 14 ?_ ?_
  ·have a4:=a9.below (Za W3)
   refine xb 0 0 a4 ?_
   refine xbs (.o [] 14) 1 [V0 (K.getD i 0),.string ⟨(Vs.getD i []).toArray⟩,V0 no] 132 fun b5 W5 n5=>?_
   have g5:=n5.ge0 a5
   have d0:=Zb hE (Za W3)
   have e3:=Zu d0 n5
   have a8:=Zb d0 n5.below
   have b7:=blB a5 hBw n5.below
   refine ybi (.o [] 15) (.t B [306,132]) fun _ _ _ _ zJ zQ zo zx zy zK=>Xi (m:=1) (news:=[V0 (K.getD i 0),.string ⟨(Vs.getD i []).toArray⟩,V0 no]) (.agg #[V0 0,.string ⟨#[]⟩,V0 0]) 3 32 ((es.length+(i+1))) (((es++Pg K Vs no (i+1)).flatMap Kd)) zo Tryz.underlying123 K0 rfl Do zx a8 zy (n5.blk.sl 1 1 Do Do) rfl (by simp[Value.oneCell']) (by unfold maxLen;omega) M0 (N0 hBw b7.size) M0 (Zm8 _ _ _ _ _) fun e8 f1 W6 o6 d3 e1=>?_
   refine zK _ _ (Yk e1 d3 a8 Do) ?_
   have a0:=(a4.below n5.below).grown d3 a8 Do
   refine ys (.o [16,17,18] 19) a0 [.slice e8 (es.length+(i+1)) f1,c1,V0 (↑(way.length+1):Int),c3,c4,c5,c6,c7,.slice pw way.length cw,c9] (.t B [306,132]) fun W7 u7 k7=>⟨(Zt u7 a0 hBb Do),?_⟩
   refine xwm 4 ((i:Int)+1) (↑(i+1):Int) ?_
   have d6:=u7.below (b7.trans e1) hBb
   have d7:=((b0.trans (Q0 n5.below)).trans (Q4 d3 a8 Do)).trans (Q1 u7 a0 Do)
   have b6:=u7.blkT ((a2.below n5.below).grown d3 a8 Do) a0 Do
   have d9:=u7.own2 o6 a0 Do
   exact ze 2 (e4 _ _ _ ⟨i+1,_,_,rfl,rfl,d6,d7,k7,b6,d9,by omega⟩ M0)
  refine xbs 0 1 [V0 (K.getD i 0),.string ⟨(Vs.getD i []).toArray⟩,V0 no] 132 fun b8 W8 n8=>?_
  have g8:=n8.ge0 a5
  have c0:=Zb hE (Za W3)
  have e2:=Zu c0 n8
  have a3:=(a9.below (Za W3)).below n8.below
  refine xb (.o [] 5) 0 a3 ?_
  have a6:=Zb c0 n8.below
  have c8:=blB a5 hBw n8.below
  refine ybi (.o [] 15) (.t B [306,132]) fun _ _ _ _ zJ zQ zo zx zy zK=>Xi (m:=1) (news:=[V0 (K.getD i 0),.string ⟨(Vs.getD i []).toArray⟩,V0 no]) (.agg #[V0 0,.string ⟨#[]⟩,V0 0]) 3 32 ((es.length+(i+1))) (((es++Pg K Vs no (i+1)).flatMap Kd)) zo Tryz.underlying123 K0 rfl Do zx a6 zy (n8.blk.sl 1 1 Do Do) rfl (by simp[Value.oneCell']) (by unfold maxLen;omega) M0 (N0 hBw c8.size) M0 (Zm8 _ _ _ _ _) fun e7 f0 W9 o9 d2 e5=>?_
  refine zK _ _ (Yk e5 d2 a6 Do) ?_
  have a1:=a3.grown d2 a6 Do
  refine ys (.o [16,17,18] 19) a1 [.slice e7 (es.length+(i+1)) f0,c1,V0 (↑(way.length+1):Int),c3,c4,c5,c6,c7,.slice pw way.length cw,c9] (.t B [306,132]) fun f3 d1 e9=>⟨(Zt d1 a1 hBb Do),?_⟩
  refine xwm 4 ((i:Int)+1) (↑(i+1):Int) ?_
  have d5:=d1.below (c8.trans e5) hBb
  have d4:=((b0.trans (Q0 n8.below)).trans (Q4 d2 a6 Do)).trans (Q1 d1 a1 Do)
  have b4:=d1.blkT ((a2.below n8.below).grown d2 a6 Do) a1 Do
  have d8:=d1.own2 o9 a1 Do
  exact ze 2 (e4 _ _ _ ⟨i+1,_,_,rfl,rfl,d5,d4,e9,b4,d8,by omega⟩ M0)
 refine xe 4 (.tuple #[]) ?_
 obtain rfl:i=n:=by omega
 exact⟨_,_,_,rfl,b3,b2,a9,hE⟩
end Go.Proofs.YtceeiinepijokaaGreatDoor
namespace Go.Proofs.YtceeiinepijokaaGreatDoor
set_option maxHeartbeats 8000000
set_option maxRecDepth 100000
open Go.RowKit Go.Extern.Stop Go.Stop Go.Extern
set_option linter.unusedVariables false
def Po(u v:Value):Prop:=∀ j,u.ownBlock=some j→v.ownBlock≠some j
theorem Po.symm{u v:Value}(h:Po u v):Po v u:=fun j h1 h2=>h j h2 h1
theorem Po.grow{w:World}{u v u':Value}{base e size n:Nat}{xs:List Value}(h:Po u v)(k:w.ownsRow base e size v n xs)(hl:u'.ownBlock=u.ownBlock∨u'.ownBlock=some w.heap.size):Po u' v:=by
 rintro j h1 h2
 rcases hl with hl|hl
 ·exact h j (hl▸h1) h2
 ·rw[hl,A0] at h1
  subst h1
  have:=(k.lt _ h2).2
  omega
theorem Po.row{w W:World}{u v:Value}{base e size n:Nat}{xs:List Value}(h:Po u v)(k:w.ownsRow base e size v n xs)(hg:w.grownBy W u.ownBlock):W.ownsRow base e size v n xs:=by
 obtain⟨h1,h2⟩:=k
 refine⟨h1,?_⟩
 rcases h2 with h2|⟨g,a0,a1,rfl,hb,hh,r⟩
 ·exact Or.inl h2
 ·exact Or.inr ⟨g,a0,a1,rfl,hb,(hg.block g (Array.getElem?_eq_some_iff.1 hh).1 (fun q=>h g q.symm rfl)).trans hh,r⟩
theorem Po.of_lt{w W:World}{u v:Value}{base base2 e e2 size size2 n n2:Nat}{xs ys:List Value}(k:w.ownsRow base e size u n xs)(q:W.ownsRow base2 e2 size2 v n2 ys)(h:w.heap.size≤base2):Po u v:=fun j h1 h2=>by
 have:=(k.lt j h1).2
 have:=(q.lt j h2).1
 omega
theorem Po.nil(v:Value):Po (S0) v:=fun j h=>by cases h
theorem own_cut{w:World}{base e n m c:Nat}{p:O0}{xs:List Value}(k:w.ownsRow base e 1 (.slice p n c) n xs)(hm:m≤n)(hp:p.isSome=true):w.ownsRow base e 1 (.slice p m c) m (xs.take m):=by
 obtain⟨h1,h2⟩:=k
 refine⟨by rw[E3];omega,?_⟩
 rcases h2 with ⟨h2,_⟩|⟨g,a4,a0,hv,hb,hh,hc,a3,a2,a1⟩
 ·cases h2;cases hp
 ·simp only[C2] at hv
  obtain⟨rfl,_,rfl⟩:=hv
  refine Or.inr ⟨g,c,a0,rfl,hb,hh,by omega,a3,a2,?_⟩
  rw[←a1,O7]
  congr 1
  omega
theorem Fa{P:Program}{a:Act}{w:World}{K:Act→World→Prop}{Q:Exit→Act→World→Prop}{o:Oper}{s x:Operand}{t e te:TypeId}{base:Nat}{v:Value}{n:Nat}{xs:List Value}{b m c:Nat}{news:List Value}(z:Value)(size bytes n':Nat)(xs':List Value)
 (ho:o.op=.call { callee:=.builtin .append,args:=#[s,x],argTypes:=#[t,t] }) (ht:P.underlying t=some (.slice e)) (hi:(P.info? e).map (fun i=>(i.zero,i.size,i.bytes))=some (some z,size,bytes)) (hzs:z.cells.size=size) (hsz:0<size) (hs:a.eval s=v)
 (hown:w.ownsRow base e size v n xs) (hx:a.eval x=.slice (S1 b) m c) (hnew:Blk w b news te) (hl:news.length=m*size) (h1:∀ u∈news,u.oneCell'=true) (h63:n+m≤maxLen) (hbytes:(n+m)*bytes≤140737488355328) (hbase:base≤w.heap.size) (hn:n+m=n') (hxs:xs++news=xs')
 (h:∀ p c W,W.ownsRow base e size (.slice p n' c) n' xs'→w.grownBy W v.ownBlock→Below base w W→((Value.slice p n' c).ownBlock=v.ownBlock∨(Value.slice p n' c).ownBlock=some w.heap.size)→K (a.put o.dst (.slice p n' c)) W):o.wp P a w K Q:=by
 cases hq:P.info? e with
 | none=>simp[hq] at hi
 | some i =>
  simp only[hq,D5,A0,D8] at hi
  have hc:∀ j u,news[j]? = some u→w.cell? ((⟨b,0,none⟩:Addr).add j)=some u:=fun j u hj=>by
   have hc:=hnew.cell hj
   by_cases h0:j=0
   ·subst h0;simpa [Addr.add] using hc
   ·simpa [Addr.add,h0] using hc
  obtain⟨v',W,hr,h2,h3,_,h5⟩:=run_append_own_at (P:=P) w base t o.type e i z size bytes ht hq hi.1 hi.2.1 hi.2.2 hzs hsz v n xs hown ⟨b,0,none⟩ m c news hl hc h1 h63 hbytes hbase
  subst hn hxs
  obtain⟨p,c2,rfl⟩:=(Zg h2).slice
  unfold Oper.wp execOp
  simp only[ho,resolve,invoke,builtin,C9,H2,E1,L0,D7,H0,hs,hx,hr]
  exact h p c2 W h2 h3 (Gn h3 hown (At _) hbase) h5
end Go.Proofs.YtceeiinepijokaaGreatDoor
namespace Go.Proofs.YtceeiinepijokaaGreatDoor
set_option maxHeartbeats 8000000
set_option maxRecDepth 100000
open Go.RowKit Go.Extern.Stop Go.Stop Go.Extern
set_option linter.unusedVariables false
attribute [local irreducible] wpList wpAnyH Code.wp Oper.wp Go
def rsC (x:Nat×Nat×Nat):List Value:=[V0 (x.1:Int),V0 (x.2.1:Int),V0 (x.2.2:Int)]
theorem Zxp(x:Nat×Nat×Nat):(rsC x).length=3:=rfl
def rsD:Nat×Nat×Nat:=(0,0,0)
def Rs (L:List (List Int))(q n:Nat):List (Nat×Nat×Nat):=(List.range n).map fun i=>(q+i,Yo (L.getD i []),Xl (L.getD i []))
theorem Cb(L:List (List Int))(q n:Nat):(Rs L q n).length=n:=by simp[Rs]
theorem Zxw{L:List (List Int)}{q n i:Nat}(h:i<n):(Rs L q n).getD i rsD=(q+i,Yo (L.getD i []),Xl (L.getD i [])):=by simp[Rs,List.getD,B8 h]
theorem rsL_Rs(L:List (List Int))(q n:Nat):rsL L q n=(Rs L q n).flatMap rsC:=by simp[rsL,Rs,List.flatMap_map];rfl
theorem Rs_sts{L:List (List Int)}{q n c:Nat}{p:O0}{w:World}(h:Sl w (.slice p n c) n (rsL L q n)):Sts rsC w (.slice p (Rs L q n).length c) (Rs L q n):=by unfold Sts;rw[Cb,←rsL_Rs];exact h
theorem Zbs(w:World) :
 C0 236 #[] w (Kc (fun w' r=>∃ b,r=.slice (S1 b) 1 1∧w.heap.size≤b∧Blk w' b [V0 4,V0 3,V0 2147483647] 312) w):=by
 refine zin 3 Tryz.func236 ?_
 refine xbs 8 1 [V0 4,V0 3,V0 2147483647] 312 fun b1 W1 n1=>?_
 have g1:=n1.ge (B4 w)
 exact xe 4 (.slice (S1 b1) 1 1) ⟨_,rfl,n1.below,_,rfl,g1,n1.blk⟩
theorem Oz(gl gn:Nat)(n:Int)(h1:3≤n)(h2:n≤2147483647)(w:World)(hl:Blk w gl [V0 4,V0 3,V0 2147483647] 312)(hn:Blk w gn [V0 n] 3) :
 C0 181 #[.slice (S1 gl) 1 1,.slice (S1 gn) 1 1] w (Ret (.string ⟨(leB n 4).toArray⟩) w):=by
 refine zin 51 Tryz.func181 ?_
 refine xu 19 2 ?_
 refine xlv 15 hl.rp ?_
 refine xa 0 [V0 0,V0 0,V0 0] 312 fun b1 W1 n1=>?_
 have a7:=n1.ne hl
 refine xsv 1 n1.blk [V0 4,V0 3,V0 2147483647] fun W2 u2 k2=>?_
 have g1:=n1.ge (B4 w)
 refine xd 4 .z ?_
 have a1:=(u2.blkT (hn.below n1.below) n1.blk Do).below (Za W2)
 refine xb (.e [0,1,2] 3) 0 a1 ?_
 have a0:=k2.below (Za W2)
 refine xb (.e [4] 5) 1 a0 ?_
 refine xgk (.b [6,7]) [23,24] (show(decide (n<(3:Int)):Bool)=false from decide_eq_false M0) ?_
 refine xb (.e [8,9,10] 11) 0 a1 ?_
 refine xb (.e [12] 13) 2 a0 ?_
 refine xk (.r [14,15] 2) (show(decide (n>(2147483647:Int)):Bool)=false from decide_eq_false M0) ?_
 refine xd 3 .z ?_
 have a4:=a0.below (Za W2.drew)
 refine xb (.e [0] 1) 0 a4 ?_
 have a3:=a1.below (Za W2.drew)
 refine xb (.e [2,3,4] 5) 0 a3 ?_
 refine xbs (.o [6] 7) 1 [V0 4,V0 n] 292 fun b4 W4 n4=>?_
 refine yc (.o [] 8) (args:=#[.slice (S1 b4) 1 1]) .z (Tu b4 n M0 M0 _ n4.blk) ?_
 rintro _ W5 ⟨_,rfl,a8,b0,a9,rfl,a6⟩
 have b3:=(bln (bln (bln (u2.below n1.below g1) (Za W2)) (Za W2.drew)) n4.below).size
 refine⟨a8,?_⟩
 have o6:=A5 W5 w.heap.size 5 1
 have a2:=Zf a6 b3
 have hB:=bln (bln (bln (bln (u2.below n1.below g1) (Za W2)) (Za W2.drew)) n4.below) a8
 refine xbi (.r [9,10,11,12,13] 5) fun _ _ _ _ zJ zQ zo zx zy zK=>Xi (m:=4) (news:=(leB n 4).map bv) (.int .u8 0) 1 1 (4) ((leB n 4).map bv) zo Tryz.underlying22 K0 rfl Do zx o6 zy (Zg a2) (by simp[Zj]) (Vy _) (by unfold maxLen;omega) M0 hB.size (by rfl) (by simp) fun b6 b5 W7 o7 b7 b2=>?_
 refine zK _ _ ?_
 refine xcv0 24 (fun _ _ _ zo zx=>Mx zo zx (Vc (Zg o7) (by simp[Zj])) (by simp[Zj]) Tryz.underlying22 Tryz.underlying5 Tryz.underlying9) ?_
 have a5:=hB.trans b2
 exact xe 4 (.string ⟨(leB n 4).toArray⟩) ⟨rfl,a5⟩
theorem Ziz(n:Int)(h1:3≤n)(h2:n≤2147483647)(w:World) :
 C0 216 #[V0 n] w (Ret (.string ⟨(leB n 4).toArray⟩) w):=by
 refine zin 7 Tryz.func216 ?_
 refine xc 7 (Zbs _) ?_
 rintro _ W1 ⟨_,rfl,a1,gl,rfl,gg,kl⟩
 refine xbs 1 1 [V0 n] 3 fun b2 W2 n2=>?_
 have a0:=kl.below n2.below
 refine xr 0 (Oz gl b2 n h1 h2 _ a0 n2.blk) fun W3 a2=>?_
 have hB:=bln (bln a1 n2.below) a2
 exact xe 4 (.string ⟨(leB n 4).toArray⟩) ⟨rfl,hB⟩
theorem Zdf(w:World) :
 C0 112 #[] w (Kc (fun w' r=>∃ b,r=.slice (S1 b) 3 3∧w.heap.size≤b∧Blk w' b [V0 8,V0 1,V0 14399,V0 4,V0 0,V0 960,V0 4,V0 0,V0 960] 312) w):=by
 refine zin 5 Tryz.func112 ?_
 refine xbs 10 3 [V0 8,V0 1,V0 14399,V0 4,V0 0,V0 960,V0 4,V0 0,V0 960] 312 fun b1 W1 n1=>?_
 have g1:=n1.ge (B4 w)
 exact xe 4 (.slice (S1 b1) 3 3) ⟨_,rfl,n1.below,_,rfl,g1,n1.blk⟩
theorem Dh(gl gn:Nat)(n f g:Int)(h1:1≤n)(h2:n≤14399)(h3:0≤f)(h4:f≤960)(h5:0≤g)(h6:g≤960)(w:World)(hl:Blk w gl [V0 8,V0 1,V0 14399,V0 4,V0 0,V0 960,V0 4,V0 0,V0 960] 312)(hn:Blk w gn [V0 n,V0 f,V0 g] 3) :
 C0 181 #[.slice (S1 gl) 3 3,.slice (S1 gn) 3 3] w (Ret (.string ⟨(leB n 8++leB f 4++leB g 4).toArray⟩) w):=by
 refine zin 51 Tryz.func181 ?_
 refine xu 19 4 ?_
 refine xlv 15 (hl.rpp 0 3) ?_
 refine xa 0 [V0 0,V0 0,V0 0] 312 fun b1 W1 n1=>?_
 have c4:=n1.ne hl
 refine xsv 1 n1.blk [V0 8,V0 1,V0 14399] fun W2 u2 k2=>?_
 have g1:=n1.ge (B4 w)
 refine xd 4 .z ?_
 have b6:=(u2.blkT (hn.below n1.below) n1.blk Do).below (Za W2)
 refine xb (.e [0,1,2] 3) 0 b6 ?_
 have c0:=k2.below (Za W2)
 refine xb (.e [4] 5) 1 c0 ?_
 refine xgk (.b [6,7]) [23,24] (show(decide (n<(1:Int)):Bool)=false from decide_eq_false M0) ?_
 refine xb (.e [8,9,10] 11) 0 b6 ?_
 refine xb (.e [12] 13) 2 c0 ?_
 refine xk (.r [14,15] 2) (show(decide (n>(14399:Int)):Bool)=false from decide_eq_false M0) ?_
 refine xd 3 .z ?_
 have d8:=c0.below (Za W2.drew)
 refine xb (.e [0] 1) 0 d8 ?_
 have d7:=b6.below (Za W2.drew)
 refine xb (.e [2,3,4] 5) 0 d7 ?_
 refine xbs (.o [6] 7) 1 [V0 8,V0 n] 292 fun b4 W4 n4=>?_
 refine yc (.o [] 8) (args:=#[.slice (S1 b4) 1 1]) .z (Zv2 b4 n M0 _ n4.blk) ?_
 rintro _ W5 ⟨_,rfl,c3,i8,i6,rfl,f0⟩
 have h8:=(bln (bln (bln (u2.below n1.below g1) (Za W2)) (Za W2.drew)) n4.below).size
 refine⟨c3,?_⟩
 have o6:=A5 W5 w.heap.size 5 1
 have b9:=Zf f0 h8
 have hB:=bln (bln (bln (bln (u2.below n1.below g1) (Za W2)) (Za W2.drew)) n4.below) c3
 refine xbi (.r [9,10,11,12,13] 5) fun _ _ _ _ zJ zQ zo zx zy zK=>Xi (m:=8) (news:=(leB n 8).map bv) (.int .u8 0) 1 1 (8) ((leB n 8).map bv) zo Tryz.underlying22 K0 rfl Do zx o6 zy (Zg b9) (by simp[Zj]) (Vy _) (by unfold maxLen;omega) M0 hB.size (by rfl) (by simp) fun j4 k0 W7 o7 e3 h0=>?_
 refine zK _ _ ?_
 have a7:=(((((u2.blk (hl.below n1.below) c4).below (Za W2)).below (Za W2.drew)).below n4.below).below c3).grown e3 o6 Do
 refine xlv 24 (a7.rpp 3 3) ?_
 refine xa 0 [V0 0,V0 0,V0 0] 312 fun b8 W8 n8=>?_
 have e0:=n8.ne a7
 have d3:=((d8.below n4.below).below c3).grown e3 o6 Do
 have d5:=n8.ne d3
 have c8:=hB.trans h0
 have g8:=n8.ge c8
 refine xsv 1 n8.blk [V0 4,V0 0,V0 960] fun W9 u9 k9=>?_
 refine xd 4 .z ?_
 have c2:=(u9.blkT ((((d7.below n4.below).below c3).grown e3 o6 Do).below n8.below) n8.blk Do).below (Za W9)
 refine xb (.e [0,1,2] 3) 1 c2 ?_
 have a8:=k9.below (Za W9)
 refine xb (.e [4] 5) 1 a8 ?_
 refine xgk (.b [6,7]) [23,24] (show(decide (f<(0:Int)):Bool)=false from decide_eq_false M0) ?_
 refine xb (.e [8,9,10] 11) 1 c2 ?_
 refine xb (.e [12] 13) 2 a8 ?_
 refine xk (.r [14,15] 2) (show(decide (f>(960:Int)):Bool)=false from decide_eq_false M0) ?_
 refine xd 3 .z ?_
 have c6:=a8.below (Za W9.drew)
 refine xb (.e [0] 1) 0 c6 ?_
 have d9:=c2.below (Za W9.drew)
 refine xb (.e [2,3,4] 5) 1 d9 ?_
 refine xbs (.o [6] 7) 1 [V0 4,V0 f] 292 fun g2 j6 a5=>?_
 have c5:=((u9.blkT (((n4.blk.below c3).grown e3 o6 Do).below n8.below) n8.blk Do).below (Za W9)).below (Za W9.drew)
 have g0:=a5.ne c5
 have b2:=bln (bln (u9.below (bln c8 n8.below) g8) (Za W9)) (Za W9.drew)
 have j3:=a5.ge b2
 refine yc (.o [] 8) (args:=#[.slice (S1 g2) 1 1]) .z (Tu g2 f M0 M0 _ a5.blk) ?_
 rintro _ j1 ⟨_,rfl,a0,i0,i4,rfl,f3⟩
 have f9:=(bln b2 a5.below).size
 refine⟨a0,?_⟩
 have a1:=Zb (Zb (Zb (Zb (u9.own2 (Zb o7 n8.below) n8.blk Do) (Za W9)) (Za W9.drew)) a5.below) a0
 have b5:=Zf f3 f9
 have e1:=bln (bln b2 a5.below) a0
 refine xbi (.r [9,10,11,12,13] 5) fun _ _ _ _ zJ zQ zo zx zy zK=>Xi (m:=4) (news:=(leB f 4).map bv) (.int .u8 0) 1 1 (12) ((leB n 8++leB f 4).map bv) zo Tryz.underlying22 K0 rfl Do zx a1 zy (Zg b5) (by simp[Zj]) (Vy _) (by unfold maxLen;omega) M0 e1.size (by rfl) (by simp) fun i1 g9 j0 i3 a3 f2=>?_
 refine zK _ _ ?_
 have d2:=(((((u9.blk (a7.below n8.below) e0).below (Za W9)).below (Za W9.drew)).below a5.below).below a0).grown a3 a1 Do
 refine xlv 24 (d2.rpp 6 3) ?_
 refine xa 0 [V0 0,V0 0,V0 0] 312 fun j7 j9 a2=>?_
 have e6:=a2.ne d2
 have e7:=(((((u9.blk (d3.below n8.below) d5).below (Za W9)).below (Za W9.drew)).below a5.below).below a0).grown a3 a1 Do
 have f6:=a2.ne e7
 have f7:=((c6.below a5.below).below a0).grown a3 a1 Do
 have e8:=a2.ne f7
 have d6:=e1.trans f2
 have i2:=a2.ge d6
 refine xsv 1 a2.blk [V0 4,V0 0,V0 960] fun a4 d0 g6=>?_
 refine xd 4 .z ?_
 have b0:=(d0.blkT ((((d9.below a5.below).below a0).grown a3 a1 Do).below a2.below) a2.blk Do).below (Za a4)
 refine xb (.e [0,1,2] 3) 2 b0 ?_
 have a6:=g6.below (Za a4)
 refine xb (.e [4] 5) 1 a6 ?_
 refine xgk (.b [6,7]) [23,24] (show(decide (g<(0:Int)):Bool)=false from decide_eq_false M0) ?_
 refine xb (.e [8,9,10] 11) 2 b0 ?_
 refine xb (.e [12] 13) 2 a6 ?_
 refine xk (.r [14,15] 2) (show(decide (g>(960:Int)):Bool)=false from decide_eq_false M0) ?_
 refine xd 3 .z ?_
 have c7:=a6.below (Za a4.drew)
 refine xb (.e [0] 1) 0 c7 ?_
 have f4:=b0.below (Za a4.drew)
 refine xb (.e [2,3,4] 5) 2 f4 ?_
 refine xbs (.o [6] 7) 1 [V0 4,V0 g] 292 fun g3 j8 a9=>?_
 have f1:=((d0.blkT ((((c5.below a5.below).below a0).grown a3 a1 Do).below a2.below) a2.blk Do).below (Za a4)).below (Za a4.drew)
 have e4:=a9.ne f1
 have c9:=((d0.blkT (((a5.blk.below a0).grown a3 a1 Do).below a2.below) a2.blk Do).below (Za a4)).below (Za a4.drew)
 have e2:=a9.ne c9
 have c1:=bln (bln (d0.below (bln d6 a2.below) i2) (Za a4)) (Za a4.drew)
 have j5:=a9.ge c1
 refine yc (.o [] 8) (args:=#[.slice (S1 g3) 1 1]) .z (Tu g3 g M0 M0 _ a9.blk) ?_
 rintro _ i9 ⟨_,rfl,b3,h7,g7,rfl,f8⟩
 have f5:=(bln c1 a9.below).size
 refine⟨b3,?_⟩
 have d4:=Zb (Zb (Zb (Zb (d0.own2 (Zb i3 a2.below) a2.blk Do) (Za a4)) (Za a4.drew)) a9.below) b3
 have b7:=Zf f8 f5
 have d1:=bln (bln c1 a9.below) b3
 refine xbi (.r [9,10,11,12,13] 5) fun _ _ _ _ zJ zQ zo zx zy zK=>Xi (m:=4) (news:=(leB g 4).map bv) (.int .u8 0) 1 1 (16) ((leB n 8++leB f 4++leB g 4).map bv) zo Tryz.underlying22 K0 rfl Do zx d4 zy (Zg b7) (by simp[Zj]) (Vy _) (by unfold maxLen;omega) M0 d1.size (by rfl) (by simp) fun h9 i7 j2 g5 i5 e5=>?_
 refine zK _ _ ?_
 refine xcv0 24 (fun _ _ _ zo zx=>Mx zo zx (Vc (Zg g5) (by simp[Zj])) (by simp[Zj]) Tryz.underlying22 Tryz.underlying5 Tryz.underlying9) ?_
 have e9:=d1.trans e5
 exact xe 4 (.string ⟨(leB n 8++leB f 4++leB g 4).toArray⟩) ⟨rfl,e9⟩
theorem Wf(n f g:Int)(h1:1≤n)(h2:n≤14399)(h3:0≤f)(h4:f≤960)(h5:0≤g)(h6:g≤960)(w:World) :
 C0 160 #[.agg #[V0 n,V0 f,V0 g]] w (Ret (.string ⟨(leB n 8++leB f 4++leB g 4).toArray⟩) w):=by
 refine zin 12 Tryz.func160 ?_
 refine xa 2 [V0 n,V0 f,V0 g] 134 fun b1 W1 n1=>?_
 refine xd 4 .z ?_
 have k1:=n1.blk.below (Za W1)
 refine xb (.e [1] 2) 0 k1 ?_
 refine xb (.e [3] 4) 1 k1 ?_
 refine xb (.e [5] 6) 2 k1 ?_
 refine xm2 0 0 7 ?_ ?_
 ·refine yc 0 (args:=#[]) .z (Zdf _) ?_
  rintro _ W2 ⟨_,rfl,a2,gl,rfl,gg,kl⟩
  refine⟨a2,?_⟩
  refine xbs (.o [] 7) 3 [V0 n,V0 f,V0 g] 3 fun b3 W3 n3=>?_
  have a1:=kl.below n3.below
  refine xr (.o [] 8) (Dh gl b3 n f g h1 h2 h3 h4 h5 h6 _ a1 n3.blk) fun W4 a3=>?_
  have hB:=bln (bln (bln (bln n1.below (Za W1)) a2) n3.below) a3
  exact xe (.r [9] 3) (.string ⟨(leB n 8++leB f 4++leB g 4).toArray⟩) ⟨rfl,hB⟩
 refine xbs 0 3 [V0 n,V0 f,V0 g] 3 fun b5 W5 n5=>?_
 refine yc (.o [] 0) (args:=#[]) .z (Zdf _) ?_
 rintro _ W6 ⟨_,rfl,a0,gl,rfl,gg,kl⟩
 refine⟨a0,?_⟩
 have k5:=n5.blk.below a0
 refine xr (.o [] 8) (Dh gl b5 n f g h1 h2 h3 h4 h5 h6 _ kl k5) fun W7 a4=>?_
 have hB:=bln (bln (bln (bln n1.below (Za W1)) n5.below) a0) a4
 exact xe (.r [9] 3) (.string ⟨(leB n 8++leB f 4++leB g 4).toArray⟩) ⟨rfl,hB⟩
def slB (x:Nat×Nat×Nat):Bl:=leB (x.1:Int) 8++leB (x.2.1:Int) 4++leB (x.2.2:Int) 4
theorem Zkj(x:Nat×Nat×Nat):(slB x).length=16:=by simp[slB,Zj]
def Zq9(S:List (Nat×Nat×Nat))(i:Nat):Bl:=leB (S.length:Int) 4++(List.range i).flatMap fun j=>slB (S.getD j rsD)
theorem Fp(S:List (Nat×Nat×Nat))(i:Nat):Zq9 S (i+1)=Zq9 S i++slB (S.getD i rsD):=by simp[Zq9,C3]
theorem Av(S:List (Nat×Nat×Nat)):∀ i,(Zq9 S i).length=4+i*16
 | 0=>by simp[Zq9,Zj]
 | i+1=>by rw[Fp,A8,Av S i,Zkj];omega
def Ei(S:List (Nat×Nat×Nat)):Bl:=Zq9 S S.length++List.replicate (244-(4+S.length*16)) 0
theorem Mu{S:List (Nat×Nat×Nat)}(h:S.length≤15):(Ei S).length=244:=by unfold Ei;rw[A8,Av,B6];omega
def Rk(S:List (Nat×Nat×Nat)):Prop:=S.length≤14∧∀ i,i<S.length→1≤(S.getD i rsD).1∧(S.getD i rsD).1≤14399∧(S.getD i rsD).2.1≤960∧(S.getD i rsD).2.2≤960
theorem slB_ne(x:Nat×Nat×Nat):((⟨(leB (x.1:Int) 8++leB (x.2.1:Int) 4++leB (x.2.2:Int) 4).toArray⟩:ByteArray).toList==(⟨#[]⟩:ByteArray).toList)=false:=by
 rw[show(⟨#[]⟩:ByteArray)=⟨([]:Bl).toArray⟩ from rfl,Zth]
 apply beq_false_of_ne
 intro q
 have h1:=congrArg List.length q
 simp[Zj] at h1
theorem Zwq(a:O0)(c:Nat)(S:List (Nat×Nat×Nat))(w:World)(hS:Rk S)(h:Sts rsC w (.slice a S.length c) S) :
 C0 164 #[.slice a S.length c] w (Kc (fun w' r=>∃ p c,r=.tuple #[.slice p 244 c,V0 0]∧w'.ownsRow w.heap.size 5 1 (.slice p 244 c) 244 ((Ei S).map bv)) w):=by
 have c3:=hS.1
 refine zin 39 Tryz.func164 ?_
 refine xk 14 (show(decide ((S.length:Int)>(15:Int)):Bool)=false from decide_eq_false M0) ?_
 refine xbs 7 1 [V0 4,V0 (S.length:Int)] 292 fun b1 W1 n1=>?_
 refine xc 0 (Tu b1 (S.length:Int) M0 M0 _ n1.blk) ?_
 rintro _ W2 ⟨_,rfl,b0,p2,c2,rfl,h2⟩
 have a8:=Zf h2 n1.below.size
 have hB:=bln n1.below b0
 have a5:=n1.blk.below b0
 refine zl 16 39 (fun zm b9 V=>∃ (i:Nat) (p4:O0) (c4:Nat),b9=[(4,.slice p4 (4+i*16) c4),(20,.slice a S.length c),(21,V0 (S.length:Int)),(22,V0 (i:Int))]∧zm=S.length-((i:Int)).toNat∧B3 w V∧Blk V b1 ([V0 4,V0 (S.length:Int)]) 292∧V.ownsRow w.heap.size 5 1 (.slice p4 (4+i*16) c4) (4+i*16) ((Zq9 S i).map bv)∧i≤S.length) ⟨0,p2,c2,rfl,rfl,hB,a5,(by simpa [Zq9] using a8),A3 _⟩ ?_
 rintro _ _ W3 ⟨i,p4,c4,rfl,rfl,a0,a3,ho,hi⟩ J3 b8 r3
 refine xid 6 ((i:Int)<(S.length:Int)) (fun b3=>?_) (fun b3=>?_)
 ·refine xx 6 _ S.length i 3 (Sts.cell h Zxp rsD (k:=i) (i:=0) M0 rfl).1 ?_
  refine xlv 0 (Sts.rp (k:=i) (h.below a0) Zxp rsD M0 Do) ?_
  refine xa 0 [V0 0,V0 0,V0 0] 134 fun b5 W5 n5=>?_
  have g5:=n5.ge a0
  refine xsv 0 n5.blk [V0 (↑(S.getD i rsD).1:Int),V0 (↑(S.getD i rsD).2.1:Int),V0 (↑(S.getD i rsD).2.2:Int)] fun W6 u6 k6=>?_
  refine xlv 4 k6.rp ?_
  refine xr 0 (Wf (↑(S.getD i rsD).1:Int) (↑(S.getD i rsD).2.1:Int) (↑(S.getD i rsD).2.2:Int) (by have:=hS.2 i M0;omega) (by have:=hS.2 i M0;omega) M0 (by have:=hS.2 i M0;omega) M0 (by have:=hS.2 i M0;omega) _) fun W7 a9=>?_
  refine xk 10 (show(((⟨(leB (↑(S.getD i rsD).1:Int) 8++leB (↑(S.getD i rsD).2.1:Int) 4++leB (↑(S.getD i rsD).2.2:Int) 4).toArray⟩:ByteArray).toList==(⟨#[]⟩:ByteArray).toList):Bool)=false from slB_ne _) ?_
  have a2:=Zb (u6.own2 (Zb ho n5.below) n5.blk Do) a9
  have a4:=bln (u6.below (bln a0 n5.below) g5) a9
  refine xbi 5 (t2:=9) fun _ _ _ _ zJ zQ zo zx zy zK=>op_appS (leB (↑(S.getD i rsD).1:Int) 8++leB (↑(S.getD i rsD).2.1:Int) 4++leB (↑(S.getD i rsD).2.2:Int) 4) ((4+(i+1)*16)) ((Zq9 S (i+1)).map bv) zo Tryz.underlying22 Tryz.underlying9 K0 zx a2 zy (by simp[Zj];omega) a4.size (by simp[Zj];omega) (by simp[Fp,slB]) fun c1 c5 W8 o8 b2 b7=>?_
  refine zK _ _ ?_
  refine xwm 5 ((i:Int)+1) (↑(i+1):Int) ?_
  have a6:=a4.trans b7
  have a1:=((u6.blkT (a3.below n5.below) n5.blk Do).below a9).grown b2 a2 Do
  exact ze 2 (b8 _ _ _ ⟨i+1,_,_,rfl,rfl,a6,a1,o8,by omega⟩ M0)
 refine xwm 10 (244-(↑(4+i*16):Int)) (↑(244-(4+i*16)):Int) ?_
 refine xbi 0 (t2:=3) fun _ _ _ _ zJ zQ zo zx zy zK=>op_appZo (kq:=.i64) (244-(4+i*16)) (244) ((Ei S).map bv) zo Tryz.underlying22 Tryz.underlying3 K0 zx ho zy M0 M0 a0.size M0 (by rw[show i=S.length by omega];unfold Ei;rw[B5,O5];rfl) fun b4 b6 W9 o9 c6 c0=>?_
 refine zK _ _ ?_
 have a7:=a0.trans c0
 exact xe 5 (.tuple #[.slice b4 244 b6,V0 0]) ⟨_,rfl,a7,_,_,rfl,o9⟩
def Qx(l:List Int)(f n:Nat):List Int:=(List.range l.length).map fun i=>l.getD i 0+(if f≤i∧i<f+n then 1 else 0)
theorem Qa(l:List Int)(f n:Nat):(Qx l f n).length=l.length:=by simp[Qx]
theorem Ff{l:List Int}{f n i:Nat}(h:i<l.length):(Qx l f n).getD i 0=l.getD i 0+(if f≤i∧i<f+n then 1 else 0):=by simp[Qx,List.getD,B8 h]
theorem Zn9(l:List Int)(f:Nat):Qx l f 0=l:=by
 apply F4 (by simp[Qx])
 intro i h1 h2
 simp[Qx,List.getD,h2]
 omega
theorem Zso{l:List Int}{f j:Nat}(h:f+j<l.length):((Qx l f j).map V0).set (f+j) (V0 (l.getD (f+j) 0+1))=(Qx l f (j+1)).map V0:=by
 apply If
 intro i
 by_cases hi:i<l.length
 ·by_cases e:f+j=i
  ·subst e
   rw[I5 (by simp[Qa];exact h)]
   simp[Qx,B8 h]
  ·rw[G7 e]
   have hc:(f≤i∧i<f+j)↔(f≤i∧i<f+(j+1)):=by omega
   simp only[Qx,C4,B8 hi,D5]
   by_cases q:f≤i∧i<f+j
   ·rw[if_pos q,if_pos (hc.1 q)]
   ·rw[if_neg q,if_neg (fun z=>q (hc.2 z))]
 ·rw[C6 (by simp[Qa];omega),C6 (by simp[Qa];omega)]
def Zcv(l:List Int)(f:Int):Prop:=∀ i,i<l.length→(f≤(i:Int)→l.getD i 0=0)∧l.getD i 0≤1073741824
theorem Ig{l:List Int}{f n:Nat}(h:Zcv l (f:Int))(hc:∀ k,k<l.length→Wn (l.getD k 0)):∀ k,k<(Qx l f n).length→Wn ((Qx l f n).getD k 0):=by
 intro k hk
 rw[Qa] at hk
 rw[Ff hk]
 have h1:=(h k hk).2
 have h2:=hc k hk
 unfold Wn at h2 ⊢
 split<;>omega
def Yf(l:List Int):Nat:=Xk 5 (Zp l l.length).length+bmN l.length+1
theorem Zdz{w:World}{b:O0}{n c f N k i:Nat}(h:Sl w (.slice b n c) n ((((Zdg f N).drop k).take n).map V0))(hn:k+n≤N)(hi:i<n):b.isSome=true∧w.cell? (Zx b (i*1))=some (V0 ((f+k+i:Nat):Int)):=by
 have a0:(((Zdg f N).drop k).take n).length=n:=by simp[Zdg];omega
 have h1:=IntsN.elem h a0 hi
 have e:(((Zdg f N).drop k).take n).getD i 0=((f+k+i:Nat):Int):=by
  have h2:=Zmj (f:=f) (N:=N) (k:=k+i) M0
  rw[←E9] at h2
  rw[←h2]
  simp only[List.getD,G9,F7,if_pos hi]
 rwa [e] at h1
def Vo(l:List Int)(f k0:Nat)(bs:Bl):Int×Int×Bl:=(((f+k0+(Xk 5 (Zp l l.length).length)+(bmN (Qx l (f+k0) (Yf l)).length)):Nat),(Zz 5 (Zp l l.length) (f+k0) bs).1,Qh (Xy (Xa (Zl (Qx l (f+k0) (Yf l))) (bmN (Qx l (f+k0) (Yf l)).length)) (f+k0+(Xk 5 (Zp l l.length).length)) (Zz 5 (Zp l l.length) (f+k0) bs).2 (bmN (Qx l (f+k0) (Yf l)).length)) ((f+k0+(Xk 5 (Zp l l.length).length)+(bmN (Qx l (f+k0) (Yf l)).length))*256) (Xu 4 (((f+k0+(Xk 5 (Zp l l.length).length)+(bmN (Qx l (f+k0) (Yf l)).length)):Nat):Int) (Ei (Rs (Xa (Zl (Qx l (f+k0) (Yf l))) (bmN (Qx l (f+k0) (Yf l)).length)) (f+k0+(Xk 5 (Zp l l.length).length)) (bmN (Qx l (f+k0) (Yf l)).length)))))
theorem Zm4(l:List Int)(q n:Nat):bmN (Qx l q n).length=bmN l.length:=by rw[Qa]
theorem Zaj{w:World}{b:O0}{n c q i:Nat}{l:List Int}(h:Sl w (.slice b n c) n ((Qx l q i).map V0))(hn:l.length=n)(hi:q+i<n):b.isSome=true∧w.cell? (Zx b ((q+i)*1))=some (V0 (l.getD (q+i) 0)):=by
 have h1:=IntsN.elem h (by rw[Qa];exact hn) hi
 rw[Ff M0,if_neg M0,Int.add_zero] at h1
 exact h1
end Go.Proofs.YtceeiinepijokaaGreatDoor
namespace Go.Proofs.YtceeiinepijokaaGreatDoor
set_option maxHeartbeats 8000000
set_option maxRecDepth 100000
open Go.RowKit Go.Extern.Stop Go.Stop Go.Extern
set_option linter.unusedVariables false
attribute [local irreducible] wpList wpAnyH Code.wp Oper.wp Go
section
variable {P:Program} {a:Act}
theorem shl_bd{n:Int}(h:0≤n∧n≤3){s:Nat}(hs:s≤6):0≤n*2 ^ s∧n*2 ^ s≤192:=by
 obtain rfl|rfl|rfl|rfl:n=0∨n=1∨n=2∨n=3:=by omega
 all_goals obtain rfl|rfl|rfl|rfl|rfl|rfl|rfl:s=0∨s=1∨s=2∨s=3∨s=4∨s=5∨s=6:=by omega
 all_goals decide
theorem run_shlS{o:Oper}{t t2:TypeId}{x y:Operand}{n:Int}{s:Nat}{j:Int}{kj:IntKind}(ho:o.op=.binOp .shl t x y t2)(hx:a.eval x=V0 n)(hy:a.eval y=.int kj j)(hj:j=(s:Int))(hn:0≤n∧n≤3)(hs:s≤6)(w:World):(execOp a.eval o).run P w=.ok (.value (V0 (n*2 ^ s))) w:=by
 subst hj
 have e:=shift_shl .i64 kj n (s:Int) (K1 s) (by show(s:Int)≤64;omega)
 rw[show((s:Int)).toNat=s from by omega] at e
 have hb:=shl_bd hn hs
 rw[IntWalk.i64_in _ M0] at e
 simp only[execOp,ho,hx,hy,eqGuard_shl,binOp_shl,e]
 simp
end
section
variable {P:Program} {fn:Func} {R:Ending→World→Prop} {w:World} {s:Zs}
theorem xbot(q:Zq){b:BinOp}{t t2:TypeId}{u1 u2 v:Value}(hv:∀ (a:Act) (o:Oper) (x y:Operand),o.op=.binOp b t x y t2→a.eval x=u1→a.eval y=u2→∀ V,True→(execOp a.eval o).run P V=.ok (.value v) V)(g:Go P fn R (znx (zq P q s) v) w)(h:zk (zq P q s)=some (.bn b t t2 u1 u2):=by kernel_rfl):Go P fn R s w:=by
 refine Zw q s ?_
 obtain⟨o,ho,h⟩:=Vq h
 exact Zgl ho (fun V _=>by
  obtain⟨x,y,h1,h2,h3⟩:=By h
  exact hv _ o x y h1 h2 h3 V trivial) g
end
theorem u8_shl{n:Int}(h:0≤n∧n≤3){s:Nat}(hs:s≤6):IntKind.u8.wrap (n*2 ^ s)=n*2 ^ s:=by
 have hb:=shl_bd h hs
 generalize n*2 ^ s=m at *
 simp[IntKind.wrap,IntKind.bits,IntKind.signed];omega
theorem Zl2(l:List Int)(i:Nat){k:Nat}(hk:k<240):(Dr l i).getD (4+k) 0=g4B l i k:=by
 unfold Dr
 rw[List.getD,Le (by rw[Zj];omega),Zj,Nat.add_sub_cancel_left]
 simp[hk]
theorem bits_or{l:List Int}(h:Ui l){i:Nat}(hi:i<960):IntKind.u8.wrap (↑(BitVec.ofInt 8 (↑((Dr l i).getD (4+(i/4)) 0).toNat:Int) ||| BitVec.ofInt 8 (l.getD i 0*2 ^ ((i%4)*2))).toNat:Int)=((g4B l (i+1) (i/4)).toNat:Int):=by
 rw[Zl2 l i M0]
 obtain⟨h1,h2⟩:=g4B_at h (i:=i)
 rw[h1]
 obtain⟨n,hn⟩:∃ n:Nat,l.getD i 0=n:=⟨(l.getD i 0).toNat,by have:=(Gi h i).1;omega⟩
 have hb:=Gi h i
 rw[hn] at hb ⊢
 generalize (g4B l i (i/4)).toNat=o at *
 have hr:i%4<4:=by omega
 generalize i%4=r at *
 have ho:o<64:=D4 h2 (by
  obtain rfl|rfl|rfl|rfl:r=0∨r=1∨r=2∨r=3:=by omega
  all_goals decide)
 have hs:=or_step ⟨r,hr⟩ ⟨n,by omega⟩ ⟨o,ho⟩ h2
 simp only at hs
 have e4:(4:Nat) ^ r=2 ^ (r*2):=by rw[N1,Nat.pow_mul]
 have e:((n:Int)*2 ^ (r*2))=((n*4 ^ r:Nat):Int):=by rw[e4];simp
 have e':((n:Int)*4 ^ r)=((n*4 ^ r:Nat):Int):=by simp
 have hm:n*4 ^ r≤192:=by
   have h3:4 ^ r≤64:=by
    obtain rfl|rfl|rfl|rfl:r=0∨r=1∨r=2∨r=3:=by omega
    all_goals decide
   calc n*4 ^ r≤3*64:=Nat.mul_le_mul M0 h3
     _=192:=rfl
 rw[e,e',E4,E4,BitVec.toNat_or,E6,E6,E2 M0,E2 M0,hs]
 generalize n*4 ^ r=m at *
 simp[IntKind.wrap,IntKind.bits,IntKind.signed];omega
theorem bits_set{l:List Int}{i:Nat}(hi:i<960):((Dr l i).map bv).set (4+(i/4)) (.int .u8 ((g4B l (i+1) (i/4)).toNat:Int))=(Dr l (i+1)).map bv:=by
 rw[show Value.int .u8 ((g4B l (i+1) (i/4)).toNat:Int)=bv (g4B l (i+1) (i/4)) from rfl,←List.map_set]
 congr 1
 unfold Dr
 rw[List.set_append_right _ _ (by rw[Zj];omega),Zj,Nat.add_sub_cancel_left]
 congr 1
 apply F4
 ·simp
 ·intro k h1 h2
  rw[List.getElem_set]
  split
  ·rename_i e;subst e;simp
  ·rename_i e;simp only[List.getElem_map,List.getElem_range];unfold g4B;rw[g4_ne M0]
theorem bits0(l:List Int):((List.replicate 244 (0:UInt8)).map bv).take 0++(leB (l.length:Int) 4).map bv++((List.replicate 244 (0:UInt8)).map bv).drop (0+4)=(Dr l 0).map bv:=by
 unfold Dr
 rw[B5,N4,Gt]
 congr 1
theorem BysN.elem{w:World}{b:O0}{n c:Nat}{l:Bl}(h:Sl w (.slice b n c) n (l.map bv))(hl:l.length=n){k:Nat}(hk:k<n):b.isSome=true∧w.cell? (Zx b (k*1))=some (.int .u8 ((l.getD k 0).toNat:Int)):=by
 subst hl;exact Bys.elem (Vc h rfl) hk
theorem Zvj(n:Int)(w:World)(h0:0≤n)(h3:n≤3) :
 C0 258 #[V0 n] w (Ret (.bool false) w):=by
 refine zin 9 Tryz.func258 ?_
 refine xgk 10 [4,5] (show(decide (n<(0:Int)):Bool)=false from decide_eq_false M0) ?_
 refine xe 7 (.bool (decide (n>(3:Int)))) ?_
 rw[show decide (n>(3:Int))=false from decide_eq_false M0];exact⟨rfl,(B4 w)⟩
theorem Zo5(a:O0)(c:Nat)(l:List Int)(w:World)(hS:Ui l)(hl:l.length≤960)(h:Sl w (.slice a l.length c) l.length (l.map V0)) :
 C0 150 #[.slice a l.length c,.func (.func 258) #[] #[]] w (Ret (V0 (-1)) w):=by
 refine zin 19 Tryz.func150 ?_
 have hB:=Below.refl w.heap.size w
 refine zl 14 19 (fun zm a5 V=>∃ (i:Nat),a5=[(0,.slice a l.length c),(1,.func (.func 258) #[] #[]),(7,V0 (l.length:Int)),(8,V0 (i:Int))]∧zm=l.length-((i:Int)).toNat∧B3 w V∧i≤l.length) ⟨0,rfl,rfl,hB,A3 _⟩ ?_
 rintro _ _ W1 ⟨i,rfl,rfl,a0,hi⟩ J1 a2 r1
 refine xid 6 ((i:Int)<(l.length:Int)) (fun a3=>?_) (fun a3=>?_)
 ·refine xx 15 _ l.length i 1 (Ints.elem h (k:=i) M0).1 ?_
  refine xl 0 ((Ints.elem (h.below a0) (k:=i) M0).2) ?_
  refine xr 0 (Zvj (l.getD i 0) _ (Gi hS i).1 (Gi hS i).2) fun W3 a4=>?_
  refine xwm 7 ((i:Int)+1) (↑(i+1):Int) ?_
  have a1:=bln a0 a4
  exact ze 2 (a2 _ _ _ ⟨i+1,rfl,rfl,a1,by omega⟩ M0)
 exact xe 11 (V0 (-1)) ⟨rfl,a0⟩
theorem Zft(a:O0)(c:Nat)(l:List Int)(w:World)(hS:Ui l)(hl:l.length≤960)(h:Sl w (.slice a l.length c) l.length (l.map V0)) :
 C0 93 #[.slice a l.length c,.func (.func 258) #[] #[]] w (Ret (.bool false) w):=by
 refine zin 9 Tryz.func93 ?_
 refine xr 9 (Zo5 a c l _ hS hl (h.below (B4 w))) fun W1 a0=>?_
 exact xe 5 (.bool false) ⟨rfl,a0⟩
theorem Zam(a:O0)(c:Nat)(l:List Int)(w:World)(hl:l.length≤960)(h:Sl w (.slice a l.length c) l.length (l.map V0)) :
 C0 182 #[.slice a l.length c] w (Ret (.tuple #[V0 (↑(Yo l):Int),V0 (↑(Xl l):Int)]) w):=by
 refine zin 27 Tryz.func182 ?_
 have hB:=Below.refl w.heap.size w
 refine zl 23 27 (fun zm a7 V=>∃ (i f g:Nat),a7=[(2,V0 0),(3,V0 0),(4,V0 (f:Int)),(5,V0 (g:Int)),(10,.slice a l.length c),(11,V0 (l.length:Int)),(12,V0 (i:Int))]∧zm=l.length-((i:Int)).toNat∧B3 w V∧i≤l.length∧f=Zn7 l i∧((f=0∧g=l.length∧∀ j,j<i→l.getD j 0≠0)∨(0<f∧g=Xl l))) ⟨0,0,l.length,rfl,rfl,hB,A3 _,rfl,?_⟩ ?_
 ·exact .inl ⟨rfl,rfl,fun j hj=>absurd hj M0⟩
 rintro _ _ W1 ⟨i,f,g,rfl,rfl,a0,hi,hf,hg⟩ J1 a2 r1
 have a3:=fun(q:i<l.length)=>Zrm q
 have a8:=Pw l i
 refine xid 6 ((i:Int)<(l.length:Int)) (fun a5=>?_) (fun a5=>?_)
 ·refine xx 7 _ l.length i 1 (Ints.elem h (k:=i) M0).1 ?_
  refine xl 0 ((Ints.elem (h.below a0) (k:=i) M0).2) ?_
  refine xin 11 (l.getD i 0) (0:Int) (fun a6=>?_) (fun a6=>?_)
  ·refine xwm 5 ((i:Int)+1) (↑(i+1):Int) ?_
   exact ze 2 (a2 _ _ _ ⟨i+1,f,g,rfl,rfl,a0,by omega,by rw[a3 M0,if_neg (by assumption)];exact hf,hg.elim (fun⟨h1,h2,h3⟩=>.inl ⟨h1,h2,fun j hj=>(G2 j i).elim (fun q=>h3 j q) (fun q=>by obtain rfl:j=i:=M0;assumption)⟩) .inr⟩ M0)
  refine xie 9 (f:Int) (0:Int) (fun a4=>?_) (fun a4=>?_)
  ·refine xwm 7 ((f:Int)+1) (↑(f+1):Int) ?_
   refine xwm 5 ((i:Int)+1) (↑(i+1):Int) ?_
   exact ze 2 (a2 _ _ _ ⟨i+1,f+1,i,rfl,rfl,a0,by omega,by rw[a3 M0,if_pos (by assumption),hf],.inr ⟨by omega,hg.elim (fun⟨_,_,h3⟩=>(Zw3 M0 (by assumption) h3).symm) (fun q=>absurd q.1 M0)⟩⟩ M0)
  refine xwm 4 ((f:Int)+1) (↑(f+1):Int) ?_
  refine xwm 5 ((i:Int)+1) (↑(i+1):Int) ?_
  exact ze 2 (a2 _ _ _ ⟨i+1,f+1,g,rfl,rfl,a0,by omega,by rw[a3 M0,if_pos (by assumption),hf],.inr ⟨by omega,hg.elim (fun⟨h1,_,_⟩=>absurd h1 M0) (fun q=>q.2)⟩⟩ M0)
 refine xe 14 (.tuple #[V0 (f:Int),V0 (g:Int)]) ?_
 obtain rfl:i=l.length:=by omega
 have a1:f=Yo l:=hf
 rcases hg with ⟨h1,h2,h3⟩|⟨h1,h2⟩
 ·exact⟨by rw[a1,h2,Zkv h3],a0⟩
 ·exact⟨by rw[a1,h2],a0⟩
theorem Zmt(a:O0)(c:Nat)(l:List Int)(w:World)(hS:Ui l)(hl:l.length≤960)(h:Sl w (.slice a l.length c) l.length (l.map V0)) :
 C0 219 #[.slice a l.length c] w (Kc (fun w' r=>∃ g,r=.tuple #[.slice (S1 g) 244 244,V0 0]∧w'.ownsRow w.heap.size 5 1 (.slice (S1 g) 244 244) 244 ((Kt l).map bv)) w):=by
 refine zin 51 Tryz.func219 ?_
 refine xgk 13 [11,12] (show(decide ((l.length:Int)>(960:Int)):Bool)=false from decide_eq_false M0) ?_
 refine xr 1 (Zft a c l _ hS hl (h.below (B4 w))) fun W2 a7=>?_
 refine xbs 11 1 [V0 4,V0 (l.length:Int)] 292 fun b3 W3 n3=>?_
 refine xc 0 (Tu b3 (l.length:Int) M0 M0 _ n3.blk) ?_
 rintro _ W4 ⟨_,rfl,b0,p2,c2,rfl,h2⟩
 have b7:=(bln a7 n3.below).size
 refine xmk 9 fun _ _ _ _ zJ zQ zo zx zy zK=>Gl 244 (.int .u8 0) 1 1 ((List.replicate 244 (0:UInt8)).map bv) zo zx zy Tryz.underlying22 K0 rfl M0 M0 (Zg5 244) fun b5 W5 n5=>?_
 have a4:=Zf h2 b7
 have b2:=Zu a4 n5
 refine zK _ _ ?_
 have o5:=Yd (size:=1) (n:=244) n5.blk (n5.ge (bln (bln a7 n3.below) b0)) (by rw[A6,B6]) (by unfold maxLen;omega)
 have a8:=Zb a4 n5.below
 have hB:=bln (bln (bln a7 n3.below) b0) n5.below
 refine xbi 7 (t2:=22) fun _ _ _ _ zJ zQ zo zx zy zK=>Bv (dLen:=244) (dCap:=244) (off:=0) 4 ((leB (l.length:Int) 4).map bv) ((Dr l 0).map bv) zo Tryz.underlying22 K0 zx zy (Zg a8) o5 (by simp[Zj]) M0 M0 (Vy _) hB.size (bits0 l) fun W6 o6 b8 b4=>?_
 refine zK _ _ ?_
 have b1:=hB.trans b4
 have a6:=((n3.blk.below b0).below n5.below).grown b8 o5 Do
 refine zl 11 51 (fun zm c0 V=>∃ (i:Nat),c0=[(2,S0),(3,V0 0),(6,.slice (S1 b5) 244 244),(28,.slice a l.length c),(29,V0 (l.length:Int)),(30,V0 (i:Int))]∧zm=l.length-((i:Int)).toNat∧B3 w V∧Blk V b3 ([V0 4,V0 (l.length:Int)]) 292∧V.ownsRow w.heap.size 5 1 (.slice (S1 b5) 244 244) 244 ((Dr l i).map bv)∧i≤l.length) ⟨0,rfl,rfl,b1,a6,o6,A3 _⟩ ?_
 rintro _ _ W7 ⟨i,rfl,rfl,a3,a5,ho,hi⟩ J7 b9 r7
 refine xid 6 ((i:Int)<(l.length:Int)) (fun b6=>?_) (fun b6=>?_)
 ·refine xx 7 _ l.length i 1 (Ints.elem h (k:=i) M0).1 ?_
  refine xl 0 ((Ints.elem (h.below a3) (k:=i) M0).2) ?_
  refine xd 4 (.t w.heap.size [5]) ?_
  refine xq (.e [0,1] 2) (congrArg V0 (show(IntKind.i64.wrap (Int.tdiv (i:Int) 4):Int)=(↑(i/4):Int) from Ak i 4 M0 Do)) ?_
  refine xwm (.e [] 3) (4+(↑(i/4):Int)) (↑(4+(i/4)):Int) ?_
  refine xx (.e [] 4) _ 244 (4+(i/4)) 1 (show(some (⟨b5,0,none⟩:Addr)).isSome=true from rfl) ?_
  refine xq (.e [6,7] 8) (congrArg V0 (show(Int.tmod (i:Int) 4:Int)=(↑(i%4):Int) from Zhn i 4)) ?_
  refine xwm (.e [] 9) ((↑(i%4):Int)*2) (↑((i%4)*2):Int) ?_
  refine xbot (.e [] 10) (t:=3) (t2:=3) (fun _ _ _ _ zo zx zy V hV=>run_shlS (n:=(l.getD i 0)) (s:=((i%4)*2)) (kj:=.i64) (j:=(↑((i%4)*2):Int)) zo zx zy rfl (Gi hS i) M0 V) ?_
  refine xq (.e [] 11) (congrArg (Value.int .u8) (show(IntKind.u8.wrap (l.getD i 0*2 ^ ((i%4)*2)):Int)=l.getD i 0*2 ^ ((i%4)*2) from u8_shl (Gi hS i) M0)) ?_
  have a1:=Zb ho (Za W7)
  refine xl (.o [] 5) ((BysN.elem (Zg a1) (Vb l i) (k:=(4+(i/4))) M0).2) ?_
  refine xq (.e [] 12) (congrArg (Value.int .u8) (show(IntKind.u8.wrap (↑(BitVec.ofInt 8 (↑((Dr l i).getD (4+(i/4)) 0).toNat:Int) ||| BitVec.ofInt 8 (l.getD i 0*2 ^ ((i%4)*2))).toNat:Int):Int)=(↑(g4B l (i+1) (i/4)).toNat:Int) from bits_or hS M0)) ?_
  refine xx (.e [] 13) _ 244 (4+(i/4)) 1 (show(some (⟨b5,0,none⟩:Addr)).isSome=true from rfl) ?_
  refine yst (.o [] 14) (.t w.heap.size [5]) fun _ _ _ _ zJ zQ zo zx zy zK=>Gd (t:=5) (k:=(4+(i/4))) (v:=.int .u8 (↑(g4B l (i+1) (i/4)).toNat:Int)) zo zx zy K0 rfl a1 M0 fun W9 u9 o9=>?_
  rw[bits_set (l:=l) (i:=i) M0] at o9
  have a0:=a5.below (Za W7)
  refine zK _ _ (Ux (T:=[5]) (u9.below (Below.refl _ _) (De a1)) (Ze.of_updRow u9 a1 Do)) ?_
  refine xwm 4 ((i:Int)+1) (↑(i+1):Int) ?_
  have a9:=u9.below (bln a3 (Za W7)) (De a1)
  have a2:=u9.blk a0 (Me a0 a1 Do)
  exact ze 2 (b9 _ _ _ ⟨i+1,rfl,rfl,a9,a2,o9,by omega⟩ M0)
 refine xe 13 (.tuple #[.slice (S1 b5) 244 244,V0 0]) ?_
 obtain rfl:i=l.length:=by omega
 exact⟨_,rfl,a3,_,rfl,ho⟩
theorem Ex(p:Addr)(N c:Nat)(xs:List Value)(w:World)(h:Sl w (.slice (some p) N c) N xs)(hl:xs.length=N)(h1:∀ u∈xs,u.oneCell'=true)(hn:N≤1000000) :
 C0 118 #[.slice (some p) N c] w (Kc (fun w' r=>∃ q c2,r=.slice q N c2∧w'.ownsRow w.heap.size 3 1 (.slice q N c2) N xs) w):=by
 refine zin 8 Tryz.func118 ?_
 refine xb0 17 3 fun b1 W1 n1=>?_
 have o1:=Yd (size:=1) (n:=0) n1.blk (n1.ge (B4 w)) rfl Do
 refine xbi 1 fun _ _ _ _ zJ zQ zo zx zy zK=>Xi (m:=N) (news:=xs) (V0 0) 1 8 (N) (xs) zo Tryz.underlying34 K0 rfl Do zx o1 zy (h.below n1.below) (by rw[hl,G4]) h1 (by unfold maxLen;omega) M0 n1.below.size M0 (by rfl) fun a2 a1 W2 o2 a4 a3=>?_
 refine zK _ _ ?_
 have a0:=n1.below.trans a3
 exact xe 4 (.slice a2 N a1) ⟨_,rfl,a0,_,_,rfl,o2⟩
end Go.Proofs.YtceeiinepijokaaGreatDoor
namespace Go.Proofs.YtceeiinepijokaaGreatDoor
set_option maxHeartbeats 8000000
set_option maxRecDepth 100000
open Go.RowKit Go.Extern.Stop Go.Stop Go.Extern
set_option linter.unusedVariables false
attribute [local irreducible] wpList wpAnyH Code.wp Oper.wp Go
def ClosP(B Bx bl:Nat)(L:List (List Int))(q i:Nat)(w:World)(e:Ending)(w':World):Prop :=
 ∃ u p c,e=.returned u∧Below B w w'∧Ze [123,132] w w'∧Blk w' bl [.slice p (i+1) c] 123∧w'.ownsRow Bx 132 3 (.slice p (i+1) c) (i+1) ((Xm L q (i+1)).flatMap Kd)∧FrB Bx [bl] w w'
theorem Ue(L:List (List Int))(q i:Nat):(Xm L q i).flatMap Kd++[V0 (i:Int),.string ⟨(leB ((q+i:Nat):Int) 8++leB (Yo (L.getD i []):Int) 4++leB (Xl (L.getD i []):Int) 4).toArray⟩,V0 0]=(Xm L q (i+1)).flatMap Kd:=by
 rw[Zjc];simp[Kd,Ze5,slotB]
structure FrZ(Bx:Nat)(S:List Nat)(a w:World):Prop where
 fr:FrB Bx S a w
 le:Bx≤a.heap.size
theorem FrZ.refl{Bx:Nat}{S:List Nat}{w:World}(h:Bx≤w.heap.size):FrZ Bx S w w:=⟨⟨At _,fun _ _ _=>rfl⟩,h⟩
theorem FrZ.below{Bx:Nat}{S:List Nat}{a w W:World}(h:FrZ Bx S a w)(hb:B3 w W):FrZ Bx S a W:=⟨⟨N0 h.fr.1 hb.size,fun k hk hn=>(hb.block k (by have:=h.fr.1;have:=h.le;omega)).trans (h.fr.2 k hk hn)⟩,h.le⟩
theorem FrZ.upd{Bx b:Nat}{S:List Nat}{a w W:World}(h:FrZ Bx S a w)(u:Upd w b W)(hb:b∈S):FrZ Bx S a W:=⟨⟨N0 h.fr.1 (M8 u.size.symm),fun k hk hn=>(u.block k fun e=>hn (e▸hb)).trans (h.fr.2 k hk hn)⟩,h.le⟩
theorem FrZ.grown{Bx:Nat}{S:List Nat}{a w W:World}{size n:Nat}{e:TypeId}{v:Value}{xs:List Value}(h:FrZ Bx S a w)(hg:w.grownBy W v.ownBlock)(hown:w.ownsRow Bx e size v n xs):FrZ Bx S a W:=⟨⟨N0 h.fr.1 hg.size,fun k hk hn=>(hg.block k (by have:=h.fr.1;have:=h.le;omega) (fun e=>by have:=(hown.lt k e.symm).1;omega)).trans (h.fr.2 k hk hn)⟩,h.le⟩
theorem Zn5(B Bx bl:Nat)(p:O0)(c:Nat)(L:List (List Int))(q i:Nat)(w:World)(hBm:B≤Bx)(hBx:Bx≤w.heap.size)(hBw:B≤w.heap.size)(hBl:B≤bl)(kl:Blk w bl [.slice p i c] 123)(hup:w.ownsRow Bx 132 3 (.slice p i c) i ((Xm L q i).flatMap Kd))(hq:1≤q+i)(hq2:q+i≤14399)(hi:i≤100000)(hf:Yo (L.getD i [])≤960)(hg:Xl (L.getD i [])≤960) :
 C0 159 #[.agg #[V0 (↑(q+i):Int),V0 (↑(Yo (L.getD i [])):Int),V0 (↑(Xl (L.getD i [])):Int)],P0 bl] w (ClosP B Bx bl L q i w):=by
 have hZ:FrZ Bx [bl] w w:=FrZ.refl hBx
 refine zin 11 Tryz.func159 ?_
 refine xa 2 [V0 (↑(q+i):Int),V0 (↑(Yo (L.getD i [])):Int),V0 (↑(Xl (L.getD i [])):Int)] 134 fun b1 W1 n1=>?_
 refine xd 2 (.t B [123,132]) ?_
 have k1:=n1.blk.below (Za W1)
 refine Zun (.e [] 3) (.t B [123,132]) (fun V hV=>(k1.only hV.2 Do).rp) ?_
 refine xm3 0 0 1 4 ?_ ?_ ?_
 ·have d1:=(kl.below n1.below).below (Za W1)
  refine xb 0 0 d1 ?_
  refine xm2 0 1 4 ?_ ?_
  ·refine xb 0 0 d1 ?_
   refine xr (.o [2] 4) (Wf (↑(q+i):Int) (↑(Yo (L.getD i [])):Int) (↑(Xl (L.getD i [])):Int) M0 M0 M0 M0 M0 M0 _) fun W2 e8=>?_
   refine xbs (.o [5] 6) 1 [V0 (i:Int),.string ⟨(leB (↑(q+i):Int) 8++leB (↑(Yo (L.getD i [])):Int) 4++leB (↑(Xl (L.getD i [])):Int) 4).toArray⟩,V0 0] 132 fun b3 W3 n3=>?_
   have e0:=Zb (Zb (Zb hup n1.below) (Za W1)) e8
   have i5:=Zu e0 n3
   have a8:=Zb e0 n3.below
   have hB:=blB (blB (blB (blB (Below.refl B w) hBw n1.below) hBw (Za W1)) hBw e8) hBw n3.below
   refine ybi (.o [] 7) (.t B [123,132]) fun _ _ _ _ zJ zQ zo zx zy zK=>Xi (m:=1) (news:=[V0 (i:Int),.string ⟨(leB (↑(q+i):Int) 8++leB (↑(Yo (L.getD i [])):Int) 4++leB (↑(Xl (L.getD i [])):Int) 4).toArray⟩,V0 0]) (.agg #[V0 0,.string ⟨#[]⟩,V0 0]) 3 32 (i+1) ((Xm L q (i+1)).flatMap Kd) zo Tryz.underlying123 K0 rfl Do zx a8 zy (n3.blk.sl 1 1 Do Do) rfl (by simp[Value.oneCell']) (by unfold maxLen;omega) M0 (N0 hBx hB.size) (by rfl) (Ue L q i) fun m2 n0 W4 o4 h4 l5=>?_
   refine zK _ _ (Yk (l5.mono hBm) h4 a8 Do) ?_
   have c4:=((d1.below e8).below n3.below).grown h4 a8 Do
   refine ys (.o [] 8) c4 [.slice m2 (i+1) n0] (.t B [123,132]) fun W5 u5 k5=>⟨(Zt u5 c4 hBl Do),?_⟩
   have i3:=u5.below (hB.trans (l5.mono hBm)) hBl
   have hO:=(((((show Ze [123,132] w _ from(Q0 n1.below)).trans (Q0 (Za W1))).trans (Q0 e8)).trans (Q0 n3.below)).trans (Q4 h4 a8 Do)).trans (Q1 u5 c4 Do)
   have k8:=u5.own2 o4 c4 Do
   have i7:=(((((hZ.below n1.below).below (Za W1)).below e8).below n3.below).grown h4 a8).upd u5 (by simp)
   exact xe 1 (.tuple #[]) ⟨_,_,_,rfl,i3,hO,k5,k8,i7.fr⟩
  refine xr 0 (Wf (↑(q+i):Int) (↑(Yo (L.getD i [])):Int) (↑(Xl (L.getD i [])):Int) M0 M0 M0 M0 M0 M0 _) fun W6 f9=>?_
  have f3:=d1.below f9
  refine xb (.o [] 1) 0 f3 ?_
  refine xbs (.o [2,5] 6) 1 [V0 (i:Int),.string ⟨(leB (↑(q+i):Int) 8++leB (↑(Yo (L.getD i [])):Int) 4++leB (↑(Xl (L.getD i [])):Int) 4).toArray⟩,V0 0] 132 fun b7 W7 n7=>?_
  have d5:=Zb (Zb (Zb hup n1.below) (Za W1)) f9
  have j5:=Zu d5 n7
  have a6:=Zb d5 n7.below
  have hB:=blB (blB (blB (blB (Below.refl B w) hBw n1.below) hBw (Za W1)) hBw f9) hBw n7.below
  refine ybi (.o [] 7) (.t B [123,132]) fun _ _ _ _ zJ zQ zo zx zy zK=>Xi (m:=1) (news:=[V0 (i:Int),.string ⟨(leB (↑(q+i):Int) 8++leB (↑(Yo (L.getD i [])):Int) 4++leB (↑(Xl (L.getD i [])):Int) 4).toArray⟩,V0 0]) (.agg #[V0 0,.string ⟨#[]⟩,V0 0]) 3 32 (i+1) ((Xm L q (i+1)).flatMap Kd) zo Tryz.underlying123 K0 rfl Do zx a6 zy (n7.blk.sl 1 1 Do Do) rfl (by simp[Value.oneCell']) (by unfold maxLen;omega) M0 (N0 hBx hB.size) (by rfl) (Ue L q i) fun m6 m1 W8 o8 h7 l4=>?_
  refine zK _ _ (Yk (l4.mono hBm) h7 a6 Do) ?_
  have d2:=(f3.below n7.below).grown h7 a6 Do
  refine ys (.o [] 8) d2 [.slice m6 (i+1) m1] (.t B [123,132]) fun W9 u9 k9=>⟨(Zt u9 d2 hBl Do),?_⟩
  have j2:=u9.below (hB.trans (l4.mono hBm)) hBl
  have hO:=(((((show Ze [123,132] w _ from(Q0 n1.below)).trans (Q0 (Za W1))).trans (Q0 f9)).trans (Q0 n7.below)).trans (Q4 h7 a6 Do)).trans (Q1 u9 d2 Do)
  have i6:=u9.own2 o8 d2 Do
  have k4:=(((((hZ.below n1.below).below (Za W1)).below f9).below n7.below).grown h7 a6).upd u9 (by simp)
  exact xe 1 (.tuple #[]) ⟨_,_,_,rfl,j2,hO,k9,i6,k4.fr⟩
 ·have c3:=(kl.below n1.below).below (Za W1)
  refine xb 0 0 c3 ?_
  refine xm2 (.b [2]) 0 4 ?_ ?_
  ·refine xb 0 0 c3 ?_
   refine xr (.o [] 4) (Wf (↑(q+i):Int) (↑(Yo (L.getD i [])):Int) (↑(Xl (L.getD i [])):Int) M0 M0 M0 M0 M0 M0 _) fun p6 b8=>?_
   refine xbs (.o [5] 6) 1 [V0 (i:Int),.string ⟨(leB (↑(q+i):Int) 8++leB (↑(Yo (L.getD i [])):Int) 4++leB (↑(Xl (L.getD i [])):Int) 4).toArray⟩,V0 0] 132 fun p5 p4 e5=>?_
   have d8:=Zb (Zb (Zb hup n1.below) (Za W1)) b8
   have h8:=Zu d8 e5
   have a7:=Zb d8 e5.below
   have hB:=blB (blB (blB (blB (Below.refl B w) hBw n1.below) hBw (Za W1)) hBw b8) hBw e5.below
   refine ybi (.o [] 7) (.t B [123,132]) fun _ _ _ _ zJ zQ zo zx zy zK=>Xi (m:=1) (news:=[V0 (i:Int),.string ⟨(leB (↑(q+i):Int) 8++leB (↑(Yo (L.getD i [])):Int) 4++leB (↑(Xl (L.getD i [])):Int) 4).toArray⟩,V0 0]) (.agg #[V0 0,.string ⟨#[]⟩,V0 0]) 3 32 (i+1) ((Xm L q (i+1)).flatMap Kd) zo Tryz.underlying123 K0 rfl Do zx a7 zy (e5.blk.sl 1 1 Do Do) rfl (by simp[Value.oneCell']) (by unfold maxLen;omega) M0 (N0 hBx hB.size) (by rfl) (Ue L q i) fun i4 l3 o2 m5 c8 f7=>?_
   refine zK _ _ (Yk (f7.mono hBm) c8 a7 Do) ?_
   have c7:=((c3.below b8).below e5.below).grown c8 a7 Do
   refine ys (.o [] 8) c7 [.slice i4 (i+1) l3] (.t B [123,132]) fun n9 g6 n2=>⟨(Zt g6 c7 hBl Do),?_⟩
   have k7:=g6.below (hB.trans (f7.mono hBm)) hBl
   have hO:=(((((show Ze [123,132] w _ from(Q0 n1.below)).trans (Q0 (Za W1))).trans (Q0 b8)).trans (Q0 e5.below)).trans (Q4 c8 a7 Do)).trans (Q1 g6 c7 Do)
   have g3:=g6.own2 m5 c7 Do
   have h9:=(((((hZ.below n1.below).below (Za W1)).below b8).below e5.below).grown c8 a7).upd g6 (by simp)
   exact xe 1 (.tuple #[]) ⟨_,_,_,rfl,k7,hO,n2,g3,h9.fr⟩
  refine xr 0 (Wf (↑(q+i):Int) (↑(Yo (L.getD i [])):Int) (↑(Xl (L.getD i [])):Int) M0 M0 M0 M0 M0 M0 _) fun p9 a5=>?_
  refine xm2 (.b [5]) 0 6 ?_ ?_
  ·have f2:=c3.below a5
   refine xb 0 0 f2 ?_
   refine xbs (.o [] 6) 1 [V0 (i:Int),.string ⟨(leB (↑(q+i):Int) 8++leB (↑(Yo (L.getD i [])):Int) 4++leB (↑(Xl (L.getD i [])):Int) 4).toArray⟩,V0 0] 132 fun n5 p0 e2=>?_
   have d6:=Zb (Zb (Zb hup n1.below) (Za W1)) a5
   have h1:=Zu d6 e2
   have a9:=Zb d6 e2.below
   have hB:=blB (blB (blB (blB (Below.refl B w) hBw n1.below) hBw (Za W1)) hBw a5) hBw e2.below
   refine ybi (.o [] 7) (.t B [123,132]) fun _ _ _ _ zJ zQ zo zx zy zK=>Xi (m:=1) (news:=[V0 (i:Int),.string ⟨(leB (↑(q+i):Int) 8++leB (↑(Yo (L.getD i [])):Int) 4++leB (↑(Xl (L.getD i [])):Int) 4).toArray⟩,V0 0]) (.agg #[V0 0,.string ⟨#[]⟩,V0 0]) 3 32 (i+1) ((Xm L q (i+1)).flatMap Kd) zo Tryz.underlying123 K0 rfl Do zx a9 zy (e2.blk.sl 1 1 Do Do) rfl (by simp[Value.oneCell']) (by unfold maxLen;omega) M0 (N0 hBx hB.size) (by rfl) (Ue L q i) fun i2 i1 n4 m8 c6 g5=>?_
   refine zK _ _ (Yk (g5.mono hBm) c6 a9 Do) ?_
   have c5:=(f2.below e2.below).grown c6 a9 Do
   refine ys (.o [] 8) c5 [.slice i2 (i+1) i1] (.t B [123,132]) fun p8 f0 m7=>⟨(Zt f0 c5 hBl Do),?_⟩
   have j9:=f0.below (hB.trans (g5.mono hBm)) hBl
   have hO:=(((((show Ze [123,132] w _ from(Q0 n1.below)).trans (Q0 (Za W1))).trans (Q0 a5)).trans (Q0 e2.below)).trans (Q4 c6 a9 Do)).trans (Q1 f0 c5 Do)
   have f6:=f0.own2 m8 c5 Do
   have i0:=(((((hZ.below n1.below).below (Za W1)).below a5).below e2.below).grown c6 a9).upd f0 (by simp)
   exact xe 1 (.tuple #[]) ⟨_,_,_,rfl,j9,hO,m7,f6,i0.fr⟩
  refine xbs 0 1 [V0 (i:Int),.string ⟨(leB (↑(q+i):Int) 8++leB (↑(Yo (L.getD i [])):Int) 4++leB (↑(Xl (L.getD i [])):Int) 4).toArray⟩,V0 0] 132 fun p2 n6 e3=>?_
  have d9:=Zb (Zb (Zb hup n1.below) (Za W1)) a5
  have h5:=Zu d9 e3
  have g2:=(c3.below a5).below e3.below
  refine xb (.o [] 0) 0 g2 ?_
  have a1:=Zb d9 e3.below
  have hB:=blB (blB (blB (blB (Below.refl B w) hBw n1.below) hBw (Za W1)) hBw a5) hBw e3.below
  refine ybi (.o [] 7) (.t B [123,132]) fun _ _ _ _ zJ zQ zo zx zy zK=>Xi (m:=1) (news:=[V0 (i:Int),.string ⟨(leB (↑(q+i):Int) 8++leB (↑(Yo (L.getD i [])):Int) 4++leB (↑(Xl (L.getD i [])):Int) 4).toArray⟩,V0 0]) (.agg #[V0 0,.string ⟨#[]⟩,V0 0]) 3 32 (i+1) ((Xm L q (i+1)).flatMap Kd) zo Tryz.underlying123 K0 rfl Do zx a1 zy (e3.blk.sl 1 1 Do Do) rfl (by simp[Value.oneCell']) (by unfold maxLen;omega) M0 (N0 hBx hB.size) (by rfl) (Ue L q i) fun j8 l2 o3 l7 d3 e7=>?_
  refine zK _ _ (Yk (e7.mono hBm) d3 a1 Do) ?_
  have b6:=g2.grown d3 a1 Do
  refine ys (.o [] 8) b6 [.slice j8 (i+1) l2] (.t B [123,132]) fun p3 g8 l8=>⟨(Zt g8 b6 hBl Do),?_⟩
  have k6:=g8.below (hB.trans (e7.mono hBm)) hBl
  have hO:=(((((show Ze [123,132] w _ from(Q0 n1.below)).trans (Q0 (Za W1))).trans (Q0 a5)).trans (Q0 e3.below)).trans (Q4 d3 a1 Do)).trans (Q1 g8 b6 Do)
  have f5:=g8.own2 l7 b6 Do
  have l1:=(((((hZ.below n1.below).below (Za W1)).below a5).below e3.below).grown d3 a1).upd g8 (by simp)
  exact xe 1 (.tuple #[]) ⟨_,_,_,rfl,k6,hO,l8,f5,l1.fr⟩
 refine xr 0 (Wf (↑(q+i):Int) (↑(Yo (L.getD i [])):Int) (↑(Xl (L.getD i [])):Int) M0 M0 M0 M0 M0 M0 _) fun q3 a0=>?_
 refine xm2 0 0 1 ?_ ?_
 ·have c0:=((kl.below n1.below).below (Za W1)).below a0
  refine xb 0 0 c0 ?_
  refine xb (.o [] 1) 0 c0 ?_
  refine xbs (.o [2,5] 6) 1 [V0 (i:Int),.string ⟨(leB (↑(q+i):Int) 8++leB (↑(Yo (L.getD i [])):Int) 4++leB (↑(Xl (L.getD i [])):Int) 4).toArray⟩,V0 0] 132 fun p7 o5 e6=>?_
  have c2:=Zb (Zb (Zb hup n1.below) (Za W1)) a0
  have h2:=Zu c2 e6
  have a4:=Zb c2 e6.below
  have hB:=blB (blB (blB (blB (Below.refl B w) hBw n1.below) hBw (Za W1)) hBw a0) hBw e6.below
  refine ybi (.o [] 7) (.t B [123,132]) fun _ _ _ _ zJ zQ zo zx zy zK=>Xi (m:=1) (news:=[V0 (i:Int),.string ⟨(leB (↑(q+i):Int) 8++leB (↑(Yo (L.getD i [])):Int) 4++leB (↑(Xl (L.getD i [])):Int) 4).toArray⟩,V0 0]) (.agg #[V0 0,.string ⟨#[]⟩,V0 0]) 3 32 (i+1) ((Xm L q (i+1)).flatMap Kd) zo Tryz.underlying123 K0 rfl Do zx a4 zy (e6.blk.sl 1 1 Do Do) rfl (by simp[Value.oneCell']) (by unfold maxLen;omega) M0 (N0 hBx hB.size) (by rfl) (Ue L q i) fun j3 j4 o1 m9 d4 g7=>?_
  refine zK _ _ (Yk (g7.mono hBm) d4 a4 Do) ?_
  have b4:=(c0.below e6.below).grown d4 a4 Do
  refine ys (.o [] 8) b4 [.slice j3 (i+1) j4] (.t B [123,132]) fun q2 f8 m4=>⟨(Zt f8 b4 hBl Do),?_⟩
  have i8:=f8.below (hB.trans (g7.mono hBm)) hBl
  have hO:=(((((show Ze [123,132] w _ from(Q0 n1.below)).trans (Q0 (Za W1))).trans (Q0 a0)).trans (Q0 e6.below)).trans (Q4 d4 a4 Do)).trans (Q1 f8 b4 Do)
  have g0:=f8.own2 m9 b4 Do
  have k0:=(((((hZ.below n1.below).below (Za W1)).below a0).below e6.below).grown d4 a4).upd f8 (by simp)
  exact xe 1 (.tuple #[]) ⟨_,_,_,rfl,i8,hO,m4,g0,k0.fr⟩
 have b0:=((kl.below n1.below).below (Za W1)).below a0
 refine xb 0 0 b0 ?_
 refine xm2 (.b [2,5]) 0 6 ?_ ?_
 ·refine xb 0 0 b0 ?_
  refine xbs (.o [] 6) 1 [V0 (i:Int),.string ⟨(leB (↑(q+i):Int) 8++leB (↑(Yo (L.getD i [])):Int) 4++leB (↑(Xl (L.getD i [])):Int) 4).toArray⟩,V0 0] 132 fun o6 q1 e1=>?_
  have c1:=Zb (Zb (Zb hup n1.below) (Za W1)) a0
  have h6:=Zu c1 e1
  have a3:=Zb c1 e1.below
  have hB:=blB (blB (blB (blB (Below.refl B w) hBw n1.below) hBw (Za W1)) hBw a0) hBw e1.below
  refine ybi (.o [] 7) (.t B [123,132]) fun _ _ _ _ zJ zQ zo zx zy zK=>Xi (m:=1) (news:=[V0 (i:Int),.string ⟨(leB (↑(q+i):Int) 8++leB (↑(Yo (L.getD i [])):Int) 4++leB (↑(Xl (L.getD i [])):Int) 4).toArray⟩,V0 0]) (.agg #[V0 0,.string ⟨#[]⟩,V0 0]) 3 32 (i+1) ((Xm L q (i+1)).flatMap Kd) zo Tryz.underlying123 K0 rfl Do zx a3 zy (e1.blk.sl 1 1 Do Do) rfl (by simp[Value.oneCell']) (by unfold maxLen;omega) M0 (N0 hBx hB.size) (by rfl) (Ue L q i) fun j0 k2 o9 l6 d0 g1=>?_
  refine zK _ _ (Yk (g1.mono hBm) d0 a3 Do) ?_
  have b2:=(b0.below e1.below).grown d0 a3 Do
  refine ys (.o [] 8) b2 [.slice j0 (i+1) k2] (.t B [123,132]) fun o7 h0 m0=>⟨(Zt h0 b2 hBl Do),?_⟩
  have j6:=h0.below (hB.trans (g1.mono hBm)) hBl
  have hO:=(((((show Ze [123,132] w _ from(Q0 n1.below)).trans (Q0 (Za W1))).trans (Q0 a0)).trans (Q0 e1.below)).trans (Q4 d0 a3 Do)).trans (Q1 h0 b2 Do)
  have g9:=h0.own2 l6 b2 Do
  have i9:=(((((hZ.below n1.below).below (Za W1)).below a0).below e1.below).grown d0 a3).upd h0 (by simp)
  exact xe 1 (.tuple #[]) ⟨_,_,_,rfl,j6,hO,m0,g9,i9.fr⟩
 refine xbs 0 1 [V0 (i:Int),.string ⟨(leB (↑(q+i):Int) 8++leB (↑(Yo (L.getD i [])):Int) 4++leB (↑(Xl (L.getD i [])):Int) 4).toArray⟩,V0 0] 132 fun o0 p1 e4=>?_
 have b9:=Zb (Zb (Zb hup n1.below) (Za W1)) a0
 have h3:=Zu b9 e4
 have d7:=b0.below e4.below
 refine xb (.o [] 0) 0 d7 ?_
 have a2:=Zb b9 e4.below
 have hB:=blB (blB (blB (blB (Below.refl B w) hBw n1.below) hBw (Za W1)) hBw a0) hBw e4.below
 refine ybi (.o [] 7) (.t B [123,132]) fun _ _ _ _ zJ zQ zo zx zy zK=>Xi (m:=1) (news:=[V0 (i:Int),.string ⟨(leB (↑(q+i):Int) 8++leB (↑(Yo (L.getD i [])):Int) 4++leB (↑(Xl (L.getD i [])):Int) 4).toArray⟩,V0 0]) (.agg #[V0 0,.string ⟨#[]⟩,V0 0]) 3 32 (i+1) ((Xm L q (i+1)).flatMap Kd) zo Tryz.underlying123 K0 rfl Do zx a2 zy (e4.blk.sl 1 1 Do Do) rfl (by simp[Value.oneCell']) (by unfold maxLen;omega) M0 (N0 hBx hB.size) (by rfl) (Ue L q i) fun j7 j1 q0 l9 c9 f1=>?_
 refine zK _ _ (Yk (f1.mono hBm) c9 a2 Do) ?_
 have b5:=d7.grown c9 a2 Do
 refine ys (.o [] 8) b5 [.slice j7 (i+1) j1] (.t B [123,132]) fun n8 f4 m3=>⟨(Zt f4 b5 hBl Do),?_⟩
 have l0:=f4.below (hB.trans (f1.mono hBm)) hBl
 have hO:=(((((show Ze [123,132] w _ from(Q0 n1.below)).trans (Q0 (Za W1))).trans (Q0 a0)).trans (Q0 e4.below)).trans (Q4 c9 a2 Do)).trans (Q1 f4 b5 Do)
 have e9:=f4.own2 l9 b5 Do
 have k3:=(((((hZ.below n1.below).below (Za W1)).below a0).below e4.below).grown c9 a2).upd f4 (by simp)
 exact xe 1 (.tuple #[]) ⟨_,_,_,rfl,l0,hO,m3,e9,k3.fr⟩
def ClosM(B Bx bl:Nat)(L:List (List Int))(q i:Nat)(w:World)(e:Ending)(w':World):Prop :=
 ∃ u p c,e=.returned u∧Below B w w'∧Ze [140,134] w w'∧Blk w' bl [.slice p (i+1) c] 140∧w'.ownsRow Bx 134 3 (.slice p (i+1) c) (i+1) (rsL L q (i+1))∧FrB Bx [bl] w w'
theorem Zok(B Bx bl:Nat)(p:O0)(c:Nat)(L:List (List Int))(q i:Nat)(w:World)(hBm:B≤Bx)(hBx:Bx≤w.heap.size)(hBw:B≤w.heap.size)(hBl:B≤bl)(kl:Blk w bl [.slice p i c] 140)(hup:w.ownsRow Bx 134 3 (.slice p i c) i (rsL L q i))(hi:i≤100000) :
 C0 163 #[.agg #[V0 (↑(q+i):Int),V0 (↑(Yo (L.getD i [])):Int),V0 (↑(Xl (L.getD i [])):Int)],P0 bl] w (ClosM B Bx bl L q i w):=by
 have hZ:FrZ Bx [bl] w w:=FrZ.refl hBx
 refine zin 7 Tryz.func163 ?_
 refine xa 2 [V0 (↑(q+i):Int),V0 (↑(Yo (L.getD i [])):Int),V0 (↑(Xl (L.getD i [])):Int)] 134 fun b1 W1 n1=>?_
 have a9:=Zu hup n1
 have a3:=kl.below n1.below
 refine xb 3 0 a3 ?_
 refine xlv 0 n1.blk.rp ?_
 refine xbs 0 1 [V0 (↑(q+i):Int),V0 (↑(Yo (L.getD i [])):Int),V0 (↑(Xl (L.getD i [])):Int)] 134 fun b2 W2 n2=>?_
 have b0:=n2.ne n1.blk
 have a1:=Zb hup n1.below
 have a8:=Zu a1 n2
 have a0:=Zb a1 n2.below
 have hB:=blB (blB (Below.refl B w) hBw n1.below) hBw n2.below
 refine xbi 0 fun _ _ _ _ zJ zQ zo zx zy zK=>Xi (m:=1) (news:=[V0 (↑(q+i):Int),V0 (↑(Yo (L.getD i [])):Int),V0 (↑(Xl (L.getD i [])):Int)]) (.agg #[V0 0,V0 0,V0 0]) 3 24 (i+1) ((rsL L q (i+1))) zo Tryz.underlying140 K0 rfl Do zx a0 zy (n2.blk.sl 1 1 Do Do) rfl (by simp[Value.oneCell']) (by unfold maxLen;omega) M0 (N0 hBx hB.size) (by rfl) (by rw[rsL_succ];rfl) fun b3 b5 W3 o3 a7 b4=>?_
 refine zK _ _ ?_
 have a2:=(a3.below n2.below).grown a7 a0 Do
 refine xs 0 a2 [.slice b3 (i+1) b5] fun W4 u4 k4=>?_
 have a6:=u4.below (hB.trans (b4.mono hBm)) hBl
 have hO:=(((show Ze [140,134] w _ from(Q0 n1.below)).trans (Q0 n2.below)).trans (Q4 a7 a0 Do)).trans (Q1 u4 a2 Do)
 have a5:=u4.own2 o3 a2 Do
 have a4:=(((hZ.below n1.below).below n2.below).grown a7 a0).upd u4 (by simp)
 exact xe 1 (.tuple #[]) ⟨_,_,_,rfl,a6,hO,k4,a5,a4.fr⟩
def LayPostM(B ba b g nn cc:Nat)(pa:O0)(ca f N k0:Nat)(bs:Bl)(bl:Nat)(L:List (List Int))(w:World)(e:Ending)(w':World):Prop :=
 ∃ p c,e=.returned .nilIface∧Below B w w'∧Ze [200,5,140,134] w w'∧Fr [ba,g,bl] w w'∧Al B ba b g nn cc pa ca f N (k0+L.length) (Xy L (f+k0) bs L.length) w'∧Blk w' bl [.slice p L.length c] 140∧w'.ownsRow w.heap.size 134 3 (.slice p L.length c) L.length (rsL L (f+k0) L.length)
theorem Zuo(B ba b g nn cc:Nat)(pa:O0)(ca f N k0:Nat)(bs:Bl)(bl B2:Nat)(pl:O0)(cl:Nat)(gs:List (Nat×Nat))(L:List (List Int))(w:World)(hC:AlC B ba nn cc ca f N)(hA:Al B ba b g nn cc pa ca f N k0 bs w)(hL:Lists w B2 (.slice pl L.length cl) gs L)(hS:∀ i,i<L.length→Ui (L.getD i [])∧(L.getD i []).length≤960)(hf1:1≤f)(hk:k0+L.length≤N)(kl:Blk w bl [S0] 140)(hBl:B≤bl)(hBw:B≤w.heap.size) :
 C0 158 #[P0 ba,.slice pl L.length cl,.func (.func 163) #[] #[P0 bl]] w (LayPostM B ba b g nn cc pa ca f N k0 bs bl L w):=by
 have d2:=hC.hf
 have d3:=hC.hn
 refine zin 51 Tryz.func158 ?_
 have hB:=Below.refl B w
 refine zl 14 51 (fun zm d0 V=>∃ (i:Nat) (p:O0) (c:Nat),d0=[(0,P0 ba),(2,.func (.func 163) #[] #[P0 bl]),(15,.slice pl L.length cl),(16,V0 (L.length:Int)),(17,V0 (i:Int))]∧zm=L.length-((i:Int)).toNat∧Below B w V∧Fr [ba,g,bl] w V∧Ze [200,5,140,134] w V∧Blk V bl ([.slice p i c]) 140∧Al B ba b g nn cc pa ca f N (k0+i) (Xy L (f+k0) bs i) V∧Lists V B2 (.slice pl L.length cl) gs L∧V.ownsRow w.heap.size 134 3 (.slice p i c) i (rsL L (f+k0) i)∧i≤L.length) ⟨0,none,0,rfl,rfl,hB,(Fr.refl _ _),(Ze.refl _ _),kl,hA,hL,A5 _ _ _ _,A3 _⟩ ?_
 rintro _ _ W1 ⟨i,p,c,rfl,rfl,a3,b1,a9,a1,hA,hL,b2,hi⟩ J1 c2 r1
 refine xid 6 ((i:Int)<(L.length:Int)) (fun c4=>?_) (fun c4=>?_)
 ·refine xx 6 _ L.length i 1 (Lists.elem hL rfl (k:=i) M0).1 ?_
  refine xl 0 ((Lists.elem hL rfl (k:=i) M0).2) ?_
  refine xc 6 (args:=#[.slice (some ⟨(gs.getD i (0,0)).1,0,none⟩) ((L.getD i []).length) ((gs.getD i (0,0)).2)]) (Zmt _ _ (L.getD i []) _ (hS i M0).1 (hS i M0).2 (Zg (hL.each i M0))) ?_
  rintro _ W3 ⟨_,rfl,a5,g6,rfl,h6⟩
  have c1:=hA.below a5
  have a2:=a9.trans (Q0 a5)
  have b6:=Zf h6 a3.size
  have b0:=blB a3 hBw a5
  refine xc 21 (args:=#[P0 ba,V0 3,.slice (S1 g6) 244 244]) (Cs B ba b g nn cc pa ca f N (k0+i) (Xy L (f+k0) bs i) 3 (S1 g6) 244 (Kt (L.getD i [])) (f+k0+i) 244 _ (E9 _ _ _).symm (Vb _ _) hC c1 M0 Do Do (fun W _ a2=>Vc (Zg (Zi b6 a2 Do)) (Vb _ _)) Do (N0 hBw b0.size)) ?_
  rintro _ W4 ⟨rfl,c6,b3,c8,hA⟩
  have a8:=(hL.below a5).only b3 Do
  refine xr 20 (args:=#[.slice (some ⟨(gs.getD i (0,0)).1,0,none⟩) ((L.getD i []).length) ((gs.getD i (0,0)).2)]) (Zam _ _ (L.getD i []) _ (hS i M0).2 (Zg (a8.each i M0))) fun W5 a6=>?_
  have d1:Yo (L.getD i [])≤960:=N0 (Pw _ _) (hS i M0).2
  have d4:Xl (L.getD i [])≤960:=N0 (Ph _) (hS i M0).2
  have a4:=blB (b0.trans c6) hBw a6
  have a0:=((a1.below a5).only b3 Do).below a6
  have a7:=Zb (Zi (Zb b2 a5) b3 Do) a6
  refine xc 13 (Zok B w.heap.size bl p c L (f+k0) i _ hBw a4.size (N0 hBw a4.size) hBl a0 a7 M0) ?_
  rintro _ W6 ⟨_,p9,c9,rfl,c3,b8,c7,b2,c5⟩
  refine xwm 4 ((i:Int)+1) (↑(i+1):Int) ?_
  have b7:=(hA.below a6).only b8 Do
  have b5:=(a8.below a6).only b8 Do
  have b9:=a4.trans c3
  have b4:=(Fr.trans_B (((b1.trans (Q2 a5)).trans (c8.mono (by simp))).trans (Q2 a6)) c5 (by simp))
  have c0:=((a2.trans (b3.wide)).trans (Q0 a6)).trans (b8.wide)
  exact ze 2 (c2 _ _ _ ⟨i+1,_,_,rfl,rfl,b9,b4,c0,c7,b7,b5,b2,by omega⟩ M0)
 refine xe 11 .nilIface ?_
 obtain rfl:i=L.length:=by omega
 exact⟨_,_,rfl,a3,a9,b1,hA,a1,b2⟩
end Go.Proofs.YtceeiinepijokaaGreatDoor
namespace Go.Proofs.YtceeiinepijokaaGreatDoor
set_option maxHeartbeats 8000000
set_option maxRecDepth 100000
open Go.RowKit Go.Extern.Stop Go.Stop Go.Extern
set_option linter.unusedVariables false
attribute [local irreducible] wpList wpAnyH Code.wp Oper.wp Go
def SplitP(l:List Int)(w:World)(e:Ending)(w':World):Prop :=
 (Jr l≠0∧e=.returned (.tuple #[S0,S0,V0 2])∧B3 w w') ∨
 (Jr l=0∧∃ pb cb gs po co,e=.returned (.tuple #[.slice pb (bmN l.length) cb,.slice po (Zp l l.length).length co,V0 0])∧B3 w w'∧Lists w' w.heap.size (.slice pb (bmN l.length) cb) gs (Xa (Zl l) (bmN l.length))∧w'.ownsRow w.heap.size 132 3 (.slice po (Zp l l.length).length co) (Zp l l.length).length ((Zp l l.length).flatMap Kd))
theorem Zde{l:List Int}{i:Nat}(hl:l.length≤65536)(hi:i<l.length)(h:¬ Wn (l.getD i 0)):Jr l≠0:=fun q=>h ((Pe q).2 i hi)
theorem Zi3{l:List Int}(hl:l.length≤65536)(h:∀ k,k<l.length→Wn (l.getD k 0)):Jr l=0:=by
 unfold Jr;rw[if_neg M0,if_pos h]
attribute [local go_sem] Oper.semAt_some
theorem g_retM{P:Program}{fn:Func}{R:Ending→World→Prop}{a:Act}{w:World}(v:Value)(hd:a.defers=[])(hr:(results fn a.tmps).run P w=.ok v w)(h:R (.returned v) w):bodyPostM Fence.wide 4 P fn R .ret a w:=by
 show LeavesInM _ _ _ _ a.tmps R a.defers .returning w
 rw[hd]
 exact⟨v,hr,h⟩
theorem Lists.put{W U:World}{D base:Nat}{v:Value}{gs:List (Nat×Nat)}{L:List (List Int)}(h:Lists W base v gs L)(u:Upd W D U)(hK:Dfr D W):Lists U base v gs L:=⟨u.own3 h.row (hK.row h.row),fun i hi=>u.own3 (h.each i hi) (hK.row (h.each i hi))⟩
theorem mn3_if(n:Int):(if 3<n then 3 else n)=mn3 n:=by unfold mn3;split<;>split<;>omega
def Nw(s:List Int){n:Nat}(pre:List (Fin n)):List (List Int):=pre.map fun j=>Yy s j.val
theorem Md(s:List Int){n:Nat}(pre:List (Fin n))(x:Fin n):Nw s (pre++[x])=Nw s pre++[Yy s x.val]:=by simp[Nw]
theorem preC_all(s:List Int)(n:Nat):Nw s (List.finRange n)=Xa s n:=by
 unfold Nw Xa
 apply F4
 ·simp
 ·intro i h1 h2;simp
theorem Zjh(a:O0)(c:Nat)(l:List Int)(w:World)(h:Sl w (.slice a l.length c) l.length (l.map V0))(hl:l.length≤65536) :
 C0 156 #[.slice a l.length c] w (SplitP l w):=by
 refine Jf Tryz.func156 rfl ?_
 refine Zls ⟨#[.slice a l.length c,undef,undef,undef,undef,undef,undef,undef,undef,undef,undef,undef,undef,undef,undef,undef,undef,undef,undef,undef,undef,undef,undef,undef,undef,undef,undef,undef,undef,undef,undef,undef,undef,undef,undef,undef,undef,undef,undef,undef,undef,undef,undef,undef,undef,undef,undef,undef,undef,undef,undef,undef],[]⟩ K0 ?_
 refine wp_seq ?_
 refine wp_region_lit ?_
 refine Vn 3 [(2,S0),(3,S0),(4,V0 0)] K0 ?_
 refine wpList_nil ?_
 refine wp_seq ?_
 refine wp_seq ?_
 refine wp_region_lit ?_
 refine Vn 3 [(11,.slice a l.length c),(12,V0 (l.length:Int)),(13,.bool (decide ((l.length:Int)>(65536:Int))))] K0 ?_
 refine wpList_nil ?_
 refine wp_cond_split (t:=decide ((l.length:Int)>(65536:Int))) K0 (fun hh=>absurd (hh.symm.trans (show(decide ((l.length:Int)>(65536:Int)):Bool)=false from decide_eq_false M0)) Do) (fun _=>?_)
 refine wp_skip ?_
 refine wp_seq ?_
 refine wp_region_lit ?_
 refine Vn 1 [(5,S0)] K0 ?_
 refine wpList_nil ?_
 refine wp_seq ?_
 refine wp_region_lit ?_
 refine Vn 1 [(6,S0)] K0 ?_
 refine wpList_nil ?_
 refine wp_seq ?_
 refine wp_seq ?_
 refine wp_region_lit ?_
 refine Vn 3 [(14,.slice a l.length c),(15,V0 (l.length:Int)),(16,V0 0)] K0 ?_
 refine wpList_nil ?_
 refine wp_block ?_
 refine Zls ⟨#[.slice a l.length c,undef,S0,S0,V0 0,S0,S0,undef,undef,undef,undef,.slice a l.length c,V0 (l.length:Int),.bool (decide ((l.length:Int)>(65536:Int))),.slice a l.length c,V0 (l.length:Int),V0 0,undef,undef,undef,undef,undef,undef,undef,undef,undef,undef,undef,undef,undef,undef,undef,undef,undef,undef,undef,undef,undef,undef,undef,undef,undef,undef,undef,undef,undef,undef,undef,undef,undef,undef,undef],[]⟩ K0 ?_
 have hB:=Below.refl w.heap.size w
 refine wp_loop (fun i2 V=>∃ (i:Nat) (ps:O0) (cs:Nat) (po:O0) (co:Nat) (x2:Nat→Value),i2=⟨#[.slice a l.length c,undef,(x2 0),(x2 1),(x2 2),.slice ps i cs,.slice po ((Zp l i).length) co,(x2 3),(x2 4),undef,undef,.slice a l.length c,V0 (l.length:Int),.bool (decide ((l.length:Int)>(65536:Int))),.slice a l.length c,V0 (l.length:Int),V0 (i:Int),(x2 5),(x2 6),(x2 7),(x2 8),(x2 9),(x2 10),(x2 11),(x2 12),(x2 13),(x2 14),(x2 15),(x2 16),(x2 17),(x2 18),(x2 19),(x2 20),(x2 21),(x2 22),(x2 23),(x2 24),(x2 25),(x2 26),(x2 27),(x2 28),(x2 29),undef,undef,undef,undef,undef,undef,undef,undef,undef,undef],[]⟩∧B3 w V∧V.ownsRow w.heap.size 3 1 (.slice ps i cs) i ((Zl (l.take i)).map V0)∧V.ownsRow w.heap.size 132 3 (.slice po (Zp l i).length co) (Zp l i).length ((Zp l i).flatMap Kd)∧i≤l.length∧((∀ j,j<i→Wn (l.getD j 0)))) (fun i2 V=>l.length-((intOf (i2.tmps.getD 16 undef))).toNat) ⟨0,none,0,none,0,(pk [S0,S0,V0 0,undef,undef,undef,undef,undef,undef,undef,undef,undef,undef,undef,undef,undef,undef,undef,undef,undef,undef,undef,undef,undef,undef,undef,undef,undef,undef,undef]),rfl,hB,A5 _ _ _ _,A5 _ _ _ _,A3 _,?_⟩ ?_
 ·exact fun j hj=>absurd hj M0
 rintro _ W2 ⟨i,ps,cs,po,co,x2,rfl,hB,hs,ho,hi,hz⟩
 refine wp_seq ?_
 refine wp_region_lit ?_
 refine Vn 1 [(17,.bool (decide ((i:Int)<(l.length:Int))))] K0 ?_
 refine wpList_nil ?_
 refine wp_seq ?_
 refine wp_cond_split (t:=decide ((i:Int)<(l.length:Int))) K0 (fun e8=>?_) (fun e8=>?_)
 ·have e8:=of_decide_eq_true e8
  refine wp_skip ?_
  refine wp_seq ?_
  refine wp_block ?_
  refine wp_seq ?_
  refine wp_region_lit ?_
  refine Vn 1 [(18,V0 (i:Int))] K0 ?_
  refine Yx K0 (Wo (Zdh (size:=1) (k:=i) (b:=a) (n:=l.length) (c:=c) (i:=(i:Int)) (ki:=.i64) rfl K0 K0 rfl M0 (Ints.elem h (k:=i) M0).1 Tryz.underlying34 K0 W2) ?_)
  refine Yx K0 (Ys (Zx a (i*1)) (V0 (l.getD i 0)) rfl K0 K0 (Ints.elem (h.below hB) (k:=i) M0).2 ?_)
  refine Vn 2 [(7,V0 (i:Int)),(8,V0 (l.getD i 0))] K0 ?_
  refine wpList_nil ?_
  refine wp_seq ?_
  refine wp_seq ?_
  refine wp_region_lit ?_
  refine Vn 3 [(21,V0 (l.getD i 0)),(22,.bool (decide ((l.getD i 0)<(0:Int)))),(23,.bool (decide ((l.getD i 0)<(0:Int))))] K0 ?_
  rcases Bool.eq_false_or_eq_true (decide ((l.getD i 0)<(0:Int))) with d6|d6
  ·refine g_b [22,23] _ _ d6 K0 ?_
   have d6:=of_decide_eq_true d6
   refine Vn 3 [(24,undef),(25,undef),(26,.bool true)] K0 ?_
   refine wpList_nil ?_
   refine wp_cond_true K0 ?_
   refine wp_seq ?_
   refine wp_region_lit ?_
   refine Vn 3 [(2,S0),(3,S0),(4,V0 2)] K0 ?_
   refine wpList_nil ?_
   refine wp_ret (Gs (Mv (Gs (Gs (Mv (Gs ?_))))))
   exact g_retM (.tuple #[S0,S0,V0 2]) K0 K0 (.inl ⟨Zde (i:=i) hl M0 (fun q=>by unfold Wn at q;omega),rfl,hB⟩)
  ·refine g_b [22,23] _ _ d6 K0 ?_
   have d6:=of_decide_eq_false d6
   refine Vn 3 [(24,V0 (l.getD i 0)),(25,.bool (decide ((l.getD i 0)>(2147483647:Int)))),(26,.bool (decide ((l.getD i 0)>(2147483647:Int))))] K0 ?_
   refine wpList_nil ?_
   refine wp_cond_split (t:=decide ((l.getD i 0)>(2147483647:Int))) K0 (fun f2=>?_) (fun f2=>?_)
   ·have f2:=of_decide_eq_true f2
    refine wp_seq ?_
    refine wp_region_lit ?_
    refine Vn 3 [(2,S0),(3,S0),(4,V0 2)] K0 ?_
    refine wpList_nil ?_
    refine wp_ret (Gs (Mv (Gs (Gs (Mv (Gs ?_))))))
    exact g_retM (.tuple #[S0,S0,V0 2]) K0 K0 (.inl ⟨Zde (i:=i) hl M0 (fun q=>by unfold Wn at q;omega),rfl,hB⟩)
   ·have f2:=of_decide_eq_false f2
    refine wp_skip ?_
    refine wp_seq ?_
    refine wp_region_lit ?_
    refine Vn 3 [(27,.slice ps i cs),(28,V0 (l.getD i 0)),(29,V0 (if(3:Int)<(l.getD i 0) then(3:Int) else(l.getD i 0)))] K0 ?_
    refine Yx K0 (Yq 3 [V0 (if(3:Int)<(l.getD i 0) then(3:Int) else(l.getD i 0))] rfl K0 ?_)
    intro b6 W6 n6
    have g6:=n6.ge hB
    have k2:=Zu hs n6
    replace hB:=bln hB n6.below
    replace hs:=Zb hs n6.below
    replace ho:=Zb ho n6.below
    have k6:=n6.blk
    refine Yx K0 (Xi (e:=3) (n:=i) (xs:=(Zl (l.take i)).map V0) (m:=1) (news:=[V0 (if(3:Int)<(l.getD i 0) then(3:Int) else(l.getD i 0))]) (V0 0) 1 8 (i+1) ((Zl (l.take (i+1))).map V0) rfl Tryz.underlying34 K0 rfl Do K0 hs K0 (k6.sl 1 1 Do Do) rfl (by simp[Value.oneCell']) (by unfold maxLen;omega) M0 hB.size (by rfl) (by rw[mn3_if,Zp5 M0,B5];rfl) ?_)
    intro p7 c7 W7 o7 m8 m0
    replace ho:=Xe ho m8 hs Do
    replace hB:=hB.trans m0
    refine Vn 1 [(5,.slice p7 (i+1) c7)] K0 ?_
    refine wpList_nil ?_
    refine wp_seq ?_
    refine wp_region_lit ?_
    refine Vn 2 [(32,V0 (l.getD i 0)),(33,.bool (decide ((l.getD i 0)≥(3:Int))))] K0 ?_
    refine wpList_nil ?_
    refine wp_cond_split (t:=decide ((l.getD i 0)≥(3:Int))) K0 (fun f3=>?_) (fun f3=>?_)
    ·have f3:=of_decide_eq_true f3
     refine wp_region_lit ?_
     refine Vn 3 [(34,.slice po ((Zp l i).length) co),(35,V0 (i:Int)),(36,V0 (l.getD i 0))] K0 ?_
     refine Yx K0 (Yu (lb:=#[]) 216 #[V0 (l.getD i 0)] rfl K0 (fun _ _=>by kernel_rfl) K0 ((Ziz (l.getD i 0) M0 M0 _).mono ?_))
     rintro e W9 ⟨rfl,c0⟩
     refine⟨_,rfl,?_⟩
     replace hB:=bln hB c0
     replace ho:=Zb ho c0
     replace o7:=Zb o7 c0
     refine Vn 1 [(38,.agg #[V0 (i:Int),.string ⟨(leB (l.getD i 0) 4).toArray⟩,V0 0])] K0 ?_
     refine Yx K0 (Yq 132 [V0 (i:Int),.string ⟨(leB (l.getD i 0) 4).toArray⟩,V0 0] rfl K0 ?_)
     intro j7 o3 e4
     have o2:=e4.ge hB
     have h3:=Zu ho e4
     replace hB:=bln hB e4.below
     replace ho:=Zb ho e4.below
     replace o7:=Zb o7 e4.below
     have m6:=e4.blk
     refine Yx K0 (Xi (e:=132) (n:=(Zp l i).length) (xs:=(Zp l i).flatMap Kd) (m:=1) (news:=[V0 (i:Int),.string ⟨(leB (l.getD i 0) 4).toArray⟩,V0 0]) (.agg #[V0 0,.string ⟨#[]⟩,V0 0]) 3 32 ((Zp l (i+1)).length) ((Zp l (i+1)).flatMap Kd) rfl Tryz.underlying123 K0 rfl Do K0 ho K0 (m6.sl 1 1 Do Do) rfl (by simp[Value.oneCell']) (by have:=Pf l i;unfold maxLen;omega) (by have:=Pf l i;omega) hB.size (by rw[Bc M0];simp) (by rw[Bc M0];simp[Kd]) ?_)
     intro f6 g5 o1 n2 i9 i7
     replace o7:=Xe o7 i9 ho Do
     replace hB:=hB.trans i7
     refine Vn 1 [(6,.slice f6 ((Zp l (i+1)).length) g5)] K0 ?_
     refine wpList_nil ?_
     refine wp_region_lit ?_
     refine Yx K0 (Zsn .i64 ((i:Int)+1) (↑(i+1):Int) K0 ((show IntKind.i64.wrap ((i:Int)+1)=((i:Int)+1) from by first|exact IntWalk.i64_in _ M0|(simp only[IntKind.wrap];omega)).trans M0) ?_)
     refine Vn 1 [(16,V0 (↑(i+1):Int))] K0 ?_
     refine wpList_nil ?_
     refine g_nfr ⟨#[.slice a l.length c,undef,(x2 0),(x2 1),(x2 2),.slice p7 (i+1) c7,.slice f6 ((Zp l (i+1)).length) g5,V0 (i:Int),V0 (l.getD i 0),undef,undef,.slice a l.length c,V0 (l.length:Int),.bool (decide ((l.length:Int)>(65536:Int))),.slice a l.length c,V0 (l.length:Int),V0 (↑(i+1):Int),.bool (decide ((i:Int)<(l.length:Int))),V0 (i:Int),.pointer (some (Zx a (i*1))),V0 (l.getD i 0),V0 (l.getD i 0),.bool false,.bool false,V0 (l.getD i 0),.bool (decide ((l.getD i 0)>(2147483647:Int))),.bool (decide ((l.getD i 0)>(2147483647:Int))),.slice ps i cs,V0 (l.getD i 0),V0 (if(3:Int)<(l.getD i 0) then(3:Int) else(l.getD i 0)),.slice (S1 b6) 1 1,.slice p7 (i+1) c7,V0 (l.getD i 0),.bool (decide ((l.getD i 0)≥(3:Int))),.slice po ((Zp l i).length) co,V0 (i:Int),V0 (l.getD i 0),.string ⟨(leB (l.getD i 0) 4).toArray⟩,.agg #[V0 (i:Int),.string ⟨(leB (l.getD i 0) 4).toArray⟩,V0 0],.slice (S1 j7) 1 1,.slice f6 ((Zp l (i+1)).length) g5,V0 (↑(i+1):Int),undef,undef,undef,undef,undef,undef,undef,undef,undef,undef],[]⟩ K0 ?_
     refine⟨⟨i+1,_,_,_,_,(pk [(x2 0),(x2 1),(x2 2),V0 (i:Int),V0 (l.getD i 0),.bool (decide ((i:Int)<(l.length:Int))),V0 (i:Int),.pointer (some (Zx a (i*1))),V0 (l.getD i 0),V0 (l.getD i 0),.bool false,.bool false,V0 (l.getD i 0),.bool (decide ((l.getD i 0)>(2147483647:Int))),.bool (decide ((l.getD i 0)>(2147483647:Int))),.slice ps i cs,V0 (l.getD i 0),V0 (if(3:Int)<(l.getD i 0) then(3:Int) else(l.getD i 0)),.slice (S1 b6) 1 1,.slice p7 (i+1) c7,V0 (l.getD i 0),.bool (decide ((l.getD i 0)≥(3:Int))),.slice po ((Zp l i).length) co,V0 (i:Int),V0 (l.getD i 0),.string ⟨(leB (l.getD i 0) 4).toArray⟩,.agg #[V0 (i:Int),.string ⟨(leB (l.getD i 0) 4).toArray⟩,V0 0],.slice (S1 j7) 1 1,.slice f6 ((Zp l (i+1)).length) g5,V0 (↑(i+1):Int)]),rfl,hB,o7,n2,by omega,fun j hj=>(G2 j i).elim (hz j) (fun q=>by obtain rfl:j=i:=M0;exact⟨by omega,by omega⟩)⟩,?_⟩
     show l.length-((↑(i+1):Int)).toNat<l.length-((i:Int)).toNat
     omega
    ·have f3:=of_decide_eq_false f3
     refine wp_skip ?_
     refine wp_region_lit ?_
     refine Yx K0 (Zsn .i64 ((i:Int)+1) (↑(i+1):Int) K0 ((show IntKind.i64.wrap ((i:Int)+1)=((i:Int)+1) from by first|exact IntWalk.i64_in _ M0|(simp only[IntKind.wrap];omega)).trans M0) ?_)
     refine Vn 1 [(16,V0 (↑(i+1):Int))] K0 ?_
     refine wpList_nil ?_
     refine g_nfr ⟨#[.slice a l.length c,undef,(x2 0),(x2 1),(x2 2),.slice p7 (i+1) c7,.slice po ((Zp l i).length) co,V0 (i:Int),V0 (l.getD i 0),undef,undef,.slice a l.length c,V0 (l.length:Int),.bool (decide ((l.length:Int)>(65536:Int))),.slice a l.length c,V0 (l.length:Int),V0 (↑(i+1):Int),.bool (decide ((i:Int)<(l.length:Int))),V0 (i:Int),.pointer (some (Zx a (i*1))),V0 (l.getD i 0),V0 (l.getD i 0),.bool false,.bool false,V0 (l.getD i 0),.bool (decide ((l.getD i 0)>(2147483647:Int))),.bool (decide ((l.getD i 0)>(2147483647:Int))),.slice ps i cs,V0 (l.getD i 0),V0 (if(3:Int)<(l.getD i 0) then(3:Int) else(l.getD i 0)),.slice (S1 b6) 1 1,.slice p7 (i+1) c7,V0 (l.getD i 0),.bool (decide ((l.getD i 0)≥(3:Int))),(x2 22),(x2 23),(x2 24),(x2 25),(x2 26),(x2 27),(x2 28),V0 (↑(i+1):Int),undef,undef,undef,undef,undef,undef,undef,undef,undef,undef],[]⟩ K0 ?_
     refine g_nfr ⟨#[.slice a l.length c,undef,(x2 0),(x2 1),(x2 2),.slice p7 (i+1) c7,.slice po ((Zp l (i+1)).length) co,V0 (i:Int),V0 (l.getD i 0),undef,undef,.slice a l.length c,V0 (l.length:Int),.bool (decide ((l.length:Int)>(65536:Int))),.slice a l.length c,V0 (l.length:Int),V0 (↑(i+1):Int),.bool (decide ((i:Int)<(l.length:Int))),V0 (i:Int),.pointer (some (Zx a (i*1))),V0 (l.getD i 0),V0 (l.getD i 0),.bool false,.bool false,V0 (l.getD i 0),.bool (decide ((l.getD i 0)>(2147483647:Int))),.bool (decide ((l.getD i 0)>(2147483647:Int))),.slice ps i cs,V0 (l.getD i 0),V0 (if(3:Int)<(l.getD i 0) then(3:Int) else(l.getD i 0)),.slice (S1 b6) 1 1,.slice p7 (i+1) c7,V0 (l.getD i 0),.bool (decide ((l.getD i 0)≥(3:Int))),(x2 22),(x2 23),(x2 24),(x2 25),(x2 26),(x2 27),(x2 28),V0 (↑(i+1):Int),undef,undef,undef,undef,undef,undef,undef,undef,undef,undef],[]⟩ (by rw[Cv M0]) ?_
     refine⟨⟨i+1,_,_,_,_,(pk [(x2 0),(x2 1),(x2 2),V0 (i:Int),V0 (l.getD i 0),.bool (decide ((i:Int)<(l.length:Int))),V0 (i:Int),.pointer (some (Zx a (i*1))),V0 (l.getD i 0),V0 (l.getD i 0),.bool false,.bool false,V0 (l.getD i 0),.bool (decide ((l.getD i 0)>(2147483647:Int))),.bool (decide ((l.getD i 0)>(2147483647:Int))),.slice ps i cs,V0 (l.getD i 0),V0 (if(3:Int)<(l.getD i 0) then(3:Int) else(l.getD i 0)),.slice (S1 b6) 1 1,.slice p7 (i+1) c7,V0 (l.getD i 0),.bool (decide ((l.getD i 0)≥(3:Int))),(x2 22),(x2 23),(x2 24),(x2 25),(x2 26),(x2 27),(x2 28),V0 (↑(i+1):Int)]),rfl,hB,o7,(by rw[Cv M0];exact ho),by omega,fun j hj=>(G2 j i).elim (hz j) (fun q=>by obtain rfl:j=i:=M0;exact⟨by omega,by omega⟩)⟩,?_⟩
     show l.length-((↑(i+1):Int)).toNat<l.length-((i:Int)).toNat
     omega
 ·have e8:=of_decide_eq_false e8
  refine wp_exit ?_
  refine Zga ?_
  refine Zga ?_
  refine Zja ?_
  refine wp_seq ?_
  refine wp_region_lit ?_
  refine Yx K0 (Qt [S0] rfl K0 ?_)
  intro b4 n5 f5
  have l3:=f5.ge hB
  replace hB:=bln hB f5.below
  replace hs:=Zb hs f5.below
  replace ho:=Zb ho f5.below
  have c3:=f5.blk
  refine wpList_nil ?_
  refine wp_seq ?_
  refine wp_seq ?_
  refine wp_region_lit ?_
  refine Vn 1 [(42,.slice ps i cs)] K0 ?_
  refine Yx K0 (Yu (lb:=#[]) 217 #[.slice ps i cs,V0 960] rfl K0 (fun _ _=>by kernel_rfl) K0 ((Zh9 ps i cs _).mono ?_))
  rintro e c8 ⟨b1,b2,rfl,c4,n9,n8,m1,d3,d7⟩
  refine⟨_,rfl,?_⟩
  replace hB:=bln hB c4
  replace c3:=c3.below c4
  replace hs:=Zb hs c4
  replace ho:=Zb ho c4
  refine wpList_nil ?_
  refine wp_block ?_
  have j6:i=l.length:=by omega
  obtain⟨g,hv⟩:=row_or hs
  have m2:=Zj8 b1 b2 (fun b=>b<c8.heap.size∧b≠b4) g 0 i cs (.slice ps i cs) c8 (fun b h=>h.1) ⟨d3.lt,(by rintro rfl;exact absurd (d3.ty c3) Do)⟩ ⟨d7.lt,(by rintro rfl;exact absurd (d7.ty c3) Do)⟩ M0 hv (d3.cell (i:=0) rfl) (d7.cell (i:=0) rfl)
  refine Zls ⟨#[.slice a l.length c,undef,(x2 0),(x2 1),(x2 2),.slice ps i cs,.slice po ((Zp l i).length) co,(x2 3),(x2 4),P0 b4,undef,.slice a l.length c,V0 (l.length:Int),.bool (decide ((l.length:Int)>(65536:Int))),.slice a l.length c,V0 (l.length:Int),V0 (i:Int),.bool (decide ((i:Int)<(l.length:Int))),(x2 6),(x2 7),(x2 8),(x2 9),(x2 10),(x2 11),(x2 12),(x2 13),(x2 14),(x2 15),(x2 16),(x2 17),(x2 18),(x2 19),(x2 20),(x2 21),(x2 22),(x2 23),(x2 24),(x2 25),(x2 26),(x2 27),(x2 28),(x2 29),.slice ps i cs,.func (.func 257) #[] #[P0 b1,P0 b2],undef,undef,undef,undef,undef,undef,undef,undef],[]⟩ K0 ?_
  refine Zeo (g:=.tmp 43) (gf:=257) (lb:=#[P0 b1,P0 b2]) rfl (enters_of Tryz.func257 K0 rfl) _ (fun b h=>h.1) m2 (fun _=>rfl)
   (fun a0 W=>(∃ pb cb gs,gs.length=a0.length∧Blk W b4 [.slice pb (Nw (Zl (l.take i)) a0).length cb] 227∧Lists W c8.heap.size (.slice pb (Nw (Zl (l.take i)) a0).length cb) gs (Nw (Zl (l.take i)) a0))∧BelowBut c8 b4 W)
   (fun _ _ _=>False) ?own (fun _ _ _ _ _ h _ _=>h) ⟨⟨none,0,[],rfl,c3,⟨A5 _ _ _ _,fun i hi=>absurd hi (Nat.not_lt_zero _)⟩⟩,(Below.refl _ _).but _⟩
   (fun x a' _=>a'={ tmps:=#[.slice a l.length c,undef,(x2 0),(x2 1),(x2 2),.slice ps i cs,.slice po ((Zp l i).length) co,(x2 3),(x2 4),P0 b4,.slice (some ⟨g,0+x.val*960,none⟩) (min 960 (i-x.val*960)) (min 960 (i-x.val*960)),.slice a l.length c,V0 (l.length:Int),.bool (decide ((l.length:Int)>(65536:Int))),.slice a l.length c,V0 (l.length:Int),V0 (i:Int),.bool (decide ((i:Int)<(l.length:Int))),(x2 6),(x2 7),(x2 8),(x2 9),(x2 10),(x2 11),(x2 12),(x2 13),(x2 14),(x2 15),(x2 16),(x2 17),(x2 18),(x2 19),(x2 20),(x2 21),(x2 22),(x2 23),(x2 24),(x2 25),(x2 26),(x2 27),(x2 28),(x2 29),.slice ps i cs,.func (.func 257) #[] #[P0 b1,P0 b2],.slice (some ⟨g,0+x.val*960,none⟩) (min 960 (i-x.val*960)) (min 960 (i-x.val*960)),undef,undef,undef,undef,undef,undef,undef],defers:=[] }) (fun _ _ _ _ _ _ h _ _=>h) ?assign ?body ?done (fun _ _ _ _ _ _ h _=>h.elim)
  case own=>exact OwnFrom.and (Own.from (fun s A B n3 hs hg hr=>by obtain⟨pb,cb,gs,h0,h1,h2⟩:=hs;exact⟨pb,cb,gs,h0,h1.turn hg hr,h2.turn hg hr⟩) _) (Zaw (At _))
  case assign =>
   rintro lr a0 x W K hI hK
   unfold encK
   gi_wp2
   refine hK _ _ (KeepsFrom.refl _ _) (Keeps.refl _ _) hI ?_
   simp only[j6,F3,decide_eq_false (show ¬ ((l.length:Int)>65536) by omega),Int.lt_irrefl,decide_false]
  case body =>
   rintro lr a0 x a' W o6 ⟨⟨pb,cb,gs,d4,m9,hL⟩,e5⟩ rfl n4
   have hx:=bmN_lt x.isLt
   have n0:=hv.resolve_left (fun q=>by omega)
   have a2:=e5.own2 hs c3 Do
   rw[n0.1] at a2
   obtain⟨m,hm⟩:∃ m,min 960 (i-x.val*960)=m:=⟨_,rfl⟩
   rw[hm]
   have e6:0<m:=by omega
   have l1:x.val*960+m≤i:=by omega
   have f8:(Zl (l.take i)).length=i:=by simp[Zl];omega
   have c9:(Yy (Zl (l.take i)) x.val).length=m:=by rw[Nx,f8];exact hm
   have j9:(((Zl (l.take i)).map V0).drop (x.val*960)).take m=(Yy (Zl (l.take i)) x.val).map V0:=by rw[←Lt,←I4];unfold Yy;rw[show((Zl (l.take i)).drop (x.val*960)).take m=((Zl (l.take i)).drop (x.val*960)).take 960 from by rw[P4,K9,f8];omega]
   have h8:(Nw (Zl (l.take i)) a0).length=a0.length:=by simp[Nw]
   have o4:a0.length≤69:=by have:bmN i≤69:=(by unfold bmN;omega);omega
   have a1:=hL.row
   have hE:Zry W c8.heap.size gs (Nw (Zl (l.take i)) a0):=hL.each
   have hZ:RdZ c8 b4 W W:=RdZ.refl e5
   have a5:c8.heap.size≤W.heap.size:=e5.size
   have a3:w.heap.size≤c8.heap.size:=hB.size
   have c0:=l3
   refine wpIn_block ?_
   have hB:=blB (Below.refl w.heap.size W) (N0 a3 a5) (Za W)
   replace m9:=m9.below (Za W)
   replace a2:=Zb a2 (Za W)
   replace a1:=Zb a1 (Za W)
   replace hE:=hE.below (Za W)
   replace hZ:=hZ.below (Za W)
   refine Zst (fun V=>Below w.heap.size (W.drew) V∧Ze [227,34] (W.drew) V) 6 rfl #[false,false,false,false,false,false] rfl K0 (fun⟨_,_,q⟩=>q) (by simp) ⟨Below.refl _ _,Ze.refl _ _⟩ ?_
   intro c1
   have a8:=hB
   have f4:=m9
   have h6:=a1
   refine Ztr [1] 5 rfl #[false,true,false,false,false,false] [(46,.slice (some ⟨g,0+x.val*960,none⟩) m m)] K0 (fun _ _ _ _ _ h=>h) K0 c1 ?_
   refine Ztg 0 2 4 rfl K0 rfl rfl K0 K0 ?_ ?_
   ·refine Ys ⟨b4,0,none⟩ (.slice pb ((Nw (Zl (l.take i)) a0).length) cb) rfl K0 K0 (m9.cell (i:=0) rfl) ?_
    have e1:Below w.heap.size (W.drew) (W.drew)∧Ze [227,34] (W.drew) (W.drew):=c1
    refine⟨e1,?_⟩
    have i5:W.heap.size≤(W.drew).heap.size:=hB.size
    refine Ur 2 3 rfl K0 rfl K0 (Yu (lb:=#[]) 118 #[.slice (some ⟨g,0+x.val*960,none⟩) m m] rfl K0 (fun _ _=>by kernel_rfl) K0 ((Ex ⟨g,0+x.val*960,none⟩ m m ((Yy (Zl (l.take i)) x.val).map V0) _ (j9▸Sl.midI (Zg a2) (by rw[A6];exact f8) (x.val*960) m e6 l1) (by rw[A6];exact c9) (fun u hu=>by obtain⟨y,_,rfl⟩:=List.mem_map.1 hu;rfl) M0).mono ?_))
    rintro e j2 ⟨_,rfl,a6,q,c2,rfl,hq⟩
    refine⟨_,rfl,?_⟩
    replace hB:=blB hB (N0 a3 a5) a6
    replace m9:=m9.below a6
    replace a2:=Zb a2 a6
    replace a1:=Zb a1 a6
    replace hE:=hE.below a6
    replace hZ:=hZ.below a6
    replace hq:=Zf hq i5
    have c5:Below w.heap.size (W.drew) (j2)∧Ze [227,34] (W.drew) (j2):=⟨blB e1.1 (N0 (N0 a3 a5) a8.size) a6,e1.2.trans (Q0 a6)⟩
    refine⟨c5,?_⟩
    refine Ur 3 2 rfl K0 rfl K0 (Yq 34 [.slice q m c2] rfl K0 ?_)
    intro m7 k4 b3
    have g8:=b3.ne m9
    have o0:=b3.ge0 hB
    have g1:=Zu a1 b3
    have i3:(W.drew).heap.size≤m7:=by have:=c5.1.size;have:=b3.at_;omega
    replace hB:=blB hB (N0 a3 a5) b3.below
    replace m9:=m9.below b3.below
    replace a2:=Zb a2 b3.below
    replace a1:=Zb a1 b3.below
    replace hE:=hE.below b3.below
    replace hZ:=hZ.below b3.below
    replace hq:=Zb hq b3.below
    have l9:=b3.blk
    have d9:Below w.heap.size (W.drew) (k4)∧Ze [227,34] (W.drew) (k4):=⟨blB c5.1 (N0 (N0 a3 a5) a8.size) b3.below,c5.2.trans (Q0 b3.below)⟩
    refine⟨d9,?_⟩
    refine Ur 4 1 rfl K0 rfl K0 (Xi (e:=34) (n:=(Nw (Zl (l.take i)) a0).length) (xs:=(List.range (Nw (Zl (l.take i)) a0).length).map (Of gs (Nw (Zl (l.take i)) a0))) (m:=1) (news:=[.slice q m c2]) (S0) 1 24 ((Nw (Zl (l.take i)) a0).length+1) ((List.range (Nw (Zl (l.take i)) a0).length).map (Of gs (Nw (Zl (l.take i)) a0))++[.slice q m c2]) rfl Tryz.underlying227 K0 rfl Do K0 a1 K0 (l9.sl 1 1 Do Do) rfl (by simp[Value.oneCell']) (by unfold maxLen;omega) M0 (N0 a5 hZ.le) (by simp) (by simp) ?_)
    intro j0 k8 j5 h4 b8 f1
    replace m9:=m9.grown b8 a1 Do
    replace a2:=Xe a2 b8 a1 Do
    replace hE:=hE.only (Q4 (T:=[34]) b8 a1 Do) Do
    replace hZ:=hZ.grown b8 a1
    replace hq:=Xe hq b8 a1 Do
    replace hB:=hB.trans (f1.mono a3)
    have e2:Below w.heap.size (W.drew) (j5)∧Ze [227,34] (W.drew) (j5):=⟨d9.1.trans (f1.mono a3),d9.2.trans (Q4 b8 a1 Do)⟩
    refine⟨e2,?_⟩
    refine Ur 5 0 rfl K0 rfl K0 (Yr (v:=.slice j0 ((Nw (Zl (l.take i)) a0).length+1) k8) (b:=b4) (off:=0) rfl K0 K0 K0 rfl m9 (by first|decide|simp) ?_)
    intro l6 d0 k1
    change Blk _ _ [.slice j0 ((Nw (Zl (l.take i)) a0).length+1) k8] _ at k1
    replace hB:=d0.below hB c0
    replace a2:=d0.own2 a2 m9 Do
    replace hE:=hE.only (Q1 (T:=[227]) d0 m9 Do) Do
    replace hZ:=hZ.upd d0 m9
    replace hq:=d0.own2 hq m9 Do
    replace h4:=d0.own2 h4 m9 Do
    have i6:Below w.heap.size (W.drew) (l6)∧Ze [227,34] (W.drew) (l6):=⟨d0.below e2.1 c0,e2.2.trans (Q1 d0 m9 Do)⟩
    refine⟨i6,?_⟩
    refine Th _ K0 ?_
    obtain⟨g2,rfl,k3⟩:=Mb hq e6
    rw[←c9] at hq
    have a4:=h4
    rw[←c9] at a4
    have hS:=Lists.snoc (n:=(Nw (Zl (l.take i)) a0).length+1) rfl a4 hE (Zf hq a5) (by rw[d4,h8])
    exact⟨hZ.ko.from _,⟨hZ.le,fun b hb=>hZ.fr b hb.1 hb.2⟩,⟨_,_,gs++[(g2,_)],by simp[d4],by rw[Md,A8];exact k1,by rw[Md,A8];exact hS⟩,hZ.bb⟩
   ·have h9:W.heap.size≤(W.drew).heap.size:=hB.size
    refine Yu (lb:=#[]) 118 #[.slice (some ⟨g,0+x.val*960,none⟩) m m] rfl K0 (fun _ _=>by kernel_rfl) K0 ((Ex ⟨g,0+x.val*960,none⟩ m m ((Yy (Zl (l.take i)) x.val).map V0) _ (j9▸Sl.midI (Zg a2) (by rw[A6];exact f8) (x.val*960) m e6 l1) (by rw[A6];exact c9) (fun u hu=>by obtain⟨y,_,rfl⟩:=List.mem_map.1 hu;rfl) M0).mono ?_)
    rintro e f9 ⟨_,rfl,a7,q,c2,rfl,hq⟩
    refine⟨_,rfl,?_⟩
    replace hB:=blB hB (N0 a3 a5) a7
    replace m9:=m9.below a7
    replace a2:=Zb a2 a7
    replace a1:=Zb a1 a7
    replace hE:=hE.below a7
    replace hZ:=hZ.below a7
    replace hq:=Zf hq h9
    have b9:Below w.heap.size (W.drew) (f9)∧Ze [227,34] (W.drew) (f9):=⟨blB c1.1 (N0 (N0 a3 a5) a8.size) a7,c1.2.trans (Q0 a7)⟩
    refine⟨b9,?_⟩
    refine Ztg 0 3 3 rfl K0 rfl rfl K0 K0 ?_ ?_
    ·refine Ys ⟨b4,0,none⟩ (.slice pb ((Nw (Zl (l.take i)) a0).length) cb) rfl K0 K0 (m9.cell (i:=0) rfl) ?_
     have c6:Below w.heap.size (W.drew) (f9)∧Ze [227,34] (W.drew) (f9):=b9
     refine⟨c6,?_⟩
     refine Ur 3 2 rfl K0 rfl K0 (Yq 34 [.slice q m c2] rfl K0 ?_)
     intro m3 l4 b0
     have g3:=b0.ne m9
     have n7:=b0.ge0 hB
     have g9:=Zu a1 b0
     have h5:(W.drew).heap.size≤m3:=by have:=c6.1.size;have:=b0.at_;omega
     replace hB:=blB hB (N0 a3 a5) b0.below
     replace m9:=m9.below b0.below
     replace a2:=Zb a2 b0.below
     replace a1:=Zb a1 b0.below
     replace hE:=hE.below b0.below
     replace hZ:=hZ.below b0.below
     replace hq:=Zb hq b0.below
     have l8:=b0.blk
     have e0:Below w.heap.size (W.drew) (l4)∧Ze [227,34] (W.drew) (l4):=⟨blB c6.1 (N0 (N0 a3 a5) a8.size) b0.below,c6.2.trans (Q0 b0.below)⟩
     refine⟨e0,?_⟩
     refine Ur 4 1 rfl K0 rfl K0 (Xi (e:=34) (n:=(Nw (Zl (l.take i)) a0).length) (xs:=(List.range (Nw (Zl (l.take i)) a0).length).map (Of gs (Nw (Zl (l.take i)) a0))) (m:=1) (news:=[.slice q m c2]) (S0) 1 24 ((Nw (Zl (l.take i)) a0).length+1) ((List.range (Nw (Zl (l.take i)) a0).length).map (Of gs (Nw (Zl (l.take i)) a0))++[.slice q m c2]) rfl Tryz.underlying227 K0 rfl Do K0 a1 K0 (l8.sl 1 1 Do Do) rfl (by simp[Value.oneCell']) (by unfold maxLen;omega) M0 (N0 a5 hZ.le) (by simp) (by simp) ?_)
     intro j1 k7 l7 i0 b7 f0
     replace m9:=m9.grown b7 a1 Do
     replace a2:=Xe a2 b7 a1 Do
     replace hE:=hE.only (Q4 (T:=[34]) b7 a1 Do) Do
     replace hZ:=hZ.grown b7 a1
     replace hq:=Xe hq b7 a1 Do
     replace hB:=hB.trans (f0.mono a3)
     have e3:Below w.heap.size (W.drew) (l7)∧Ze [227,34] (W.drew) (l7):=⟨e0.1.trans (f0.mono a3),e0.2.trans (Q4 b7 a1 Do)⟩
     refine⟨e3,?_⟩
     refine Ur 5 0 rfl K0 rfl K0 (Yr (v:=.slice j1 ((Nw (Zl (l.take i)) a0).length+1) k7) (b:=b4) (off:=0) rfl K0 K0 K0 rfl m9 (by first|decide|simp) ?_)
     intro k0 d1 l2
     change Blk _ _ [.slice j1 ((Nw (Zl (l.take i)) a0).length+1) k7] _ at l2
     replace hB:=d1.below hB c0
     replace a2:=d1.own2 a2 m9 Do
     replace hE:=hE.only (Q1 (T:=[227]) d1 m9 Do) Do
     replace hZ:=hZ.upd d1 m9
     replace hq:=d1.own2 hq m9 Do
     replace i0:=d1.own2 i0 m9 Do
     have h7:Below w.heap.size (W.drew) (k0)∧Ze [227,34] (W.drew) (k0):=⟨d1.below e3.1 c0,e3.2.trans (Q1 d1 m9 Do)⟩
     refine⟨h7,?_⟩
     refine Th _ K0 ?_
     obtain⟨g2,rfl,k3⟩:=Mb hq e6
     rw[←c9] at hq
     have a4:=i0
     rw[←c9] at a4
     have hS:=Lists.snoc (n:=(Nw (Zl (l.take i)) a0).length+1) rfl a4 hE (Zf hq a5) (by rw[d4,h8])
     exact⟨hZ.ko.from _,⟨hZ.le,fun b hb=>hZ.fr b hb.1 hb.2⟩,⟨_,_,gs++[(g2,_)],by simp[d4],by rw[Md,A8];exact l2,by rw[Md,A8];exact hS⟩,hZ.bb⟩
    ·refine Yq 34 [.slice q m c2] rfl K0 ?_
     intro m5 f7 a9
     have g7:=a9.ne m9
     have o5:=a9.ge0 hB
     have g0:=Zu a1 a9
     have i4:(W.drew).heap.size≤m5:=by have:=b9.1.size;have:=a9.at_;omega
     replace hB:=blB hB (N0 a3 a5) a9.below
     replace m9:=m9.below a9.below
     replace a2:=Zb a2 a9.below
     replace a1:=Zb a1 a9.below
     replace hE:=hE.below a9.below
     replace hZ:=hZ.below a9.below
     replace hq:=Zb hq a9.below
     have n1:=a9.blk
     have e9:Below w.heap.size (W.drew) (f7)∧Ze [227,34] (W.drew) (f7):=⟨blB b9.1 (N0 (N0 a3 a5) a8.size) a9.below,b9.2.trans (Q0 a9.below)⟩
     refine⟨e9,?_⟩
     refine Ur 0 2 rfl K0 rfl K0 (Ys ⟨b4,0,none⟩ (.slice pb ((Nw (Zl (l.take i)) a0).length) cb) rfl K0 K0 (m9.cell (i:=0) rfl) ?_)
     have d8:Below w.heap.size (W.drew) (f7)∧Ze [227,34] (W.drew) (f7):=e9
     refine⟨d8,?_⟩
     refine Ur 4 1 rfl K0 rfl K0 (Xi (e:=34) (n:=(Nw (Zl (l.take i)) a0).length) (xs:=(List.range (Nw (Zl (l.take i)) a0).length).map (Of gs (Nw (Zl (l.take i)) a0))) (m:=1) (news:=[.slice q m c2]) (S0) 1 24 ((Nw (Zl (l.take i)) a0).length+1) ((List.range (Nw (Zl (l.take i)) a0).length).map (Of gs (Nw (Zl (l.take i)) a0))++[.slice q m c2]) rfl Tryz.underlying227 K0 rfl Do K0 a1 K0 (n1.sl 1 1 Do Do) rfl (by simp[Value.oneCell']) (by unfold maxLen;omega) M0 (N0 a5 hZ.le) (by simp) (by simp) ?_)
     intro l0 j8 k5 i8 b5 e7
     replace m9:=m9.grown b5 a1 Do
     replace a2:=Xe a2 b5 a1 Do
     replace hE:=hE.only (Q4 (T:=[34]) b5 a1 Do) Do
     replace hZ:=hZ.grown b5 a1
     replace hq:=Xe hq b5 a1 Do
     replace hB:=hB.trans (e7.mono a3)
     have d5:Below w.heap.size (W.drew) (k5)∧Ze [227,34] (W.drew) (k5):=⟨d8.1.trans (e7.mono a3),d8.2.trans (Q4 b5 a1 Do)⟩
     refine⟨d5,?_⟩
     refine Ur 5 0 rfl K0 rfl K0 (Yr (v:=.slice l0 ((Nw (Zl (l.take i)) a0).length+1) j8) (b:=b4) (off:=0) rfl K0 K0 K0 rfl m9 (by first|decide|simp) ?_)
     intro k9 d2 l5
     change Blk _ _ [.slice l0 ((Nw (Zl (l.take i)) a0).length+1) j8] _ at l5
     replace hB:=d2.below hB c0
     replace a2:=d2.own2 a2 m9 Do
     replace hE:=hE.only (Q1 (T:=[227]) d2 m9 Do) Do
     replace hZ:=hZ.upd d2 m9
     replace hq:=d2.own2 hq m9 Do
     replace i8:=d2.own2 i8 m9 Do
     have i1:Below w.heap.size (W.drew) (k9)∧Ze [227,34] (W.drew) (k9):=⟨d2.below d5.1 c0,d5.2.trans (Q1 d2 m9 Do)⟩
     refine⟨i1,?_⟩
     refine Th _ K0 ?_
     obtain⟨g2,rfl,k3⟩:=Mb hq e6
     rw[←c9] at hq
     have a4:=i8
     rw[←c9] at a4
     have hS:=Lists.snoc (n:=(Nw (Zl (l.take i)) a0).length+1) rfl a4 hE (Zf hq a5) (by rw[d4,h8])
     exact⟨hZ.ko.from _,⟨hZ.le,fun b hb=>hZ.fr b hb.1 hb.2⟩,⟨_,_,gs++[(g2,_)],by simp[d4],by rw[Md,A8];exact l5,by rw[Md,A8];exact hS⟩,hZ.bb⟩
  case done =>
   rintro D xs W hD rfl ⟨⟨pb,cb,gs,d4,m9,hL⟩,e5⟩ j3
   rw[preC_all] at m9 hL
   have hK:Dfr D W:=j3;clear j3
   subst j6
   rw[K2] at m9 hL
   rw[Wq] at m9 hL
   refine Zk5 ?_
   have m4:=hB
   replace hB:=e5.below hB l3 hB.size
   have j4:=e5.own2 ho c3 Do
   have a3:=m4.size
   replace c3:=m9
   refine wp_seq ?_
   refine wp_region_lit ?_
   refine Yx K0 (Ys ⟨b4,0,none⟩ (.slice pb (bmN l.length) cb) rfl K0 K0 (c3.cell (i:=0) rfl) ?_)
   refine Vn 4 [(51,.slice po ((Zp l l.length).length) co),(2,.slice pb (bmN l.length) cb),(3,.slice po ((Zp l l.length).length) co),(4,V0 0)] K0 ?_
   refine wpList_nil ?_
   refine wp_ret ?_
   exact Zhq hK (.tuple #[.slice pb (bmN l.length) cb,.slice po ((Zp l l.length).length) co,V0 0]) K0 K0 (.inr ⟨Zi3 hl (fun k hk=>hz k M0),_,_,gs,_,_,rfl,(Upd.of_put _ _ _).below hB (N0 a3 hD),(hL.mono a3).put (Upd.of_put _ _ _) hK,(Upd.of_put _ _ _).own3 j4 (hK.row j4)⟩)
end Go.Proofs.YtceeiinepijokaaGreatDoor
namespace Go.Proofs.YtceeiinepijokaaGreatDoor
set_option maxHeartbeats 8000000
set_option maxRecDepth 100000
open Go.RowKit Go.Extern.Stop Go.Stop Go.Extern
set_option linter.unusedVariables false
attribute [local irreducible] wpList wpAnyH Code.wp Oper.wp Go
def LayPost(B ba b g nn cc:Nat)(pa:O0)(ca f N k0:Nat)(bs:Bl)(bl:Nat)(L:List (List Int))(w:World)(e:Ending)(w':World):Prop :=
 ∃ p c,e=.returned .nilIface∧Below B w w'∧Ze [200,5,123,132] w w'∧Fr [ba,g,bl] w w'∧Al B ba b g nn cc pa ca f N (k0+L.length) (Xy L (f+k0) bs L.length) w'∧Blk w' bl [.slice p L.length c] 123∧w'.ownsRow w.heap.size 132 3 (.slice p L.length c) L.length ((Xm L (f+k0) L.length).flatMap Kd)
theorem Zut(B ba b g nn cc:Nat)(pa:O0)(ca f N k0:Nat)(bs:Bl)(bl B2:Nat)(pl:O0)(cl:Nat)(gs:List (Nat×Nat))(L:List (List Int))(w:World)(hC:AlC B ba nn cc ca f N)(hA:Al B ba b g nn cc pa ca f N k0 bs w)(hL:Lists w B2 (.slice pl L.length cl) gs L)(hS:∀ i,i<L.length→Ui (L.getD i [])∧(L.getD i []).length≤960)(hf1:1≤f)(hk:k0+L.length≤N)(kl:Blk w bl [S0] 123)(hBl:B≤bl)(hBw:B≤w.heap.size) :
 C0 158 #[P0 ba,.slice pl L.length cl,.func (.func 159) #[] #[P0 bl]] w (LayPost B ba b g nn cc pa ca f N k0 bs bl L w):=by
 have d3:=hC.hf
 have d4:=hC.hn
 refine zin 51 Tryz.func158 ?_
 have hB:=Below.refl B w
 refine zl 14 51 (fun zm d2 V=>∃ (i:Nat) (p:O0) (c:Nat),d2=[(0,P0 ba),(2,.func (.func 159) #[] #[P0 bl]),(15,.slice pl L.length cl),(16,V0 (L.length:Int)),(17,V0 (i:Int))]∧zm=L.length-((i:Int)).toNat∧Below B w V∧Fr [ba,g,bl] w V∧Ze [200,5,123,132] w V∧Blk V bl ([.slice p i c]) 123∧Al B ba b g nn cc pa ca f N (k0+i) (Xy L (f+k0) bs i) V∧Lists V B2 (.slice pl L.length cl) gs L∧V.ownsRow w.heap.size 132 3 (.slice p i c) i ((Xm L (f+k0) i).flatMap Kd)∧i≤L.length) ⟨0,none,0,rfl,rfl,hB,(Fr.refl _ _),(Ze.refl _ _),kl,hA,hL,A5 _ _ _ _,A3 _⟩ ?_
 rintro _ _ W1 ⟨i,p,c,rfl,rfl,a3,b1,a9,a1,hA,hL,b2,hi⟩ J1 c3 r1
 refine xid 6 ((i:Int)<(L.length:Int)) (fun c5=>?_) (fun c5=>?_)
 ·refine xx 6 _ L.length i 1 (Lists.elem hL rfl (k:=i) M0).1 ?_
  refine xl 0 ((Lists.elem hL rfl (k:=i) M0).2) ?_
  refine xc 6 (args:=#[.slice (some ⟨(gs.getD i (0,0)).1,0,none⟩) ((L.getD i []).length) ((gs.getD i (0,0)).2)]) (Zmt _ _ (L.getD i []) _ (hS i M0).1 (hS i M0).2 (Zg (hL.each i M0))) ?_
  rintro _ W3 ⟨_,rfl,a5,g6,rfl,h6⟩
  have c1:=hA.below a5
  have a2:=a9.trans (Q0 a5)
  have b6:=Zf h6 a3.size
  have b0:=blB a3 hBw a5
  refine xc 21 (args:=#[P0 ba,V0 3,.slice (S1 g6) 244 244]) (Cs B ba b g nn cc pa ca f N (k0+i) (Xy L (f+k0) bs i) 3 (S1 g6) 244 (Kt (L.getD i [])) (f+k0+i) 244 _ (E9 _ _ _).symm (Vb _ _) hC c1 M0 Do Do (fun W _ a2=>Vc (Zg (Zi b6 a2 Do)) (Vb _ _)) Do (N0 hBw b0.size)) ?_
  rintro _ W4 ⟨rfl,c7,b3,d1,hA⟩
  have a8:=(hL.below a5).only b3 Do
  refine xr 20 (args:=#[.slice (some ⟨(gs.getD i (0,0)).1,0,none⟩) ((L.getD i []).length) ((gs.getD i (0,0)).2)]) (Zam _ _ (L.getD i []) _ (hS i M0).2 (Zg (a8.each i M0))) fun W5 a6=>?_
  have c2:Yo (L.getD i [])≤960:=N0 (Pw _ _) (hS i M0).2
  have c8:Xl (L.getD i [])≤960:=N0 (Ph _) (hS i M0).2
  have a4:=blB (b0.trans c7) hBw a6
  have a0:=((a1.below a5).only b3 Do).below a6
  have a7:=Zb (Zi (Zb b2 a5) b3 Do) a6
  refine xc 13 (Zn5 B w.heap.size bl p c L (f+k0) i _ hBw a4.size (N0 hBw a4.size) hBl a0 a7 M0 M0 M0 c2 c8) ?_
  rintro _ W6 ⟨_,p9,c9,rfl,c4,b8,d0,b2,c6⟩
  refine xwm 4 ((i:Int)+1) (↑(i+1):Int) ?_
  have b7:=(hA.below a6).only b8 Do
  have b5:=(a8.below a6).only b8 Do
  have b9:=a4.trans c4
  have b4:=(Fr.trans_B (((b1.trans (Q2 a5)).trans (d1.mono (by simp))).trans (Q2 a6)) c6 (by simp))
  have c0:=((a2.trans (b3.wide)).trans (Q0 a6)).trans (b8.wide)
  exact ze 2 (c3 _ _ _ ⟨i+1,_,_,rfl,rfl,b9,b4,c0,d0,b7,b5,b2,by omega⟩ M0)
 refine xe 11 .nilIface ?_
 obtain rfl:i=L.length:=by omega
 exact⟨_,_,rfl,a3,a9,b1,hA,a1,b2⟩
theorem Al.mono{B B' ba b g n c:Nat}{pa:O0}{ca f N k:Nat}{l:Bl}{w:World}(h:Al B' ba b g n c pa ca f N k l w)(hB:B≤B'):Al B ba b g n c pa ca f N k l w:=⟨h.blkA,h.blkI,Zf h.data hB,Zf h.nums hB⟩
theorem AlC.mono{B B' ba n c ca f N:Nat}(h:AlC B' ba n c ca f N)(hB:B≤B'):AlC B ba n c ca f N:=⟨h.hn,h.hc,h.hca,h.hf,N0 hB h.hB⟩
theorem row_at{w:World}{base g n c size:Nat}{e:TypeId}{xs:List Value}(h:w.ownsRow base e size (.slice (S1 g) n c) n xs):∃ cur,w.heap[g]? = some (.cells cur e (0,0)):=by
 rcases h.2 with ⟨hv,_⟩|⟨g2,a0,cur,hv,_,hh,_⟩
 ·cases hv
 ·simp only[C2,A0,Addr.mk.injEq] at hv
  obtain⟨⟨rfl,_,_⟩,_⟩:=hv
  exact⟨cur,hh⟩
theorem Al.ne{B ba b g n c:Nat}{pa:O0}{ca f N k:Nat}{l:Bl}{B2 ba2 b2 g2 n2 c2:Nat}{pa2:O0}{ca2 f2 N2 k2:Nat}{l2:Bl}{w:World}(h:Al B ba b g n c pa ca f N k l w)(h2:Al B2 ba2 b2 g2 n2 c2 pa2 ca2 f2 N2 k2 l2 w):b2≠ba∧b2≠g:=by
 constructor
 ·rintro rfl
  exact absurd (h.blkA.ty h2.blkI) Do
 ·rintro rfl
  obtain⟨a0,hh⟩:=row_at h.data
  have h3:w.heap[b2]? = some (.cells [.slice (S1 g2) n2 c2].toArray 80 (0,0)):=h2.blkI
  rw[hh] at h3
  simp only[A0,Obj.cells.injEq] at h3
  exact absurd h3.2.1 Do
theorem Al.apart{B2 ba2 b2 g2 n2 c2:Nat}{pa2:O0}{ca2 f2 N2 k2:Nat}{l2:Bl}{w W:World}{ba g:Nat}(h:Al B2 ba2 b2 g2 n2 c2 pa2 ca2 f2 N2 k2 l2 w)(hC:AlC B2 ba2 n2 c2 ca2 f2 N2)(h1:ba<B2)(h2:g<B2)(hne:b2≠ba∧b2≠g)(hX:Fr [ba,g] w W):Al B2 ba2 b2 g2 n2 c2 pa2 ca2 f2 N2 k2 l2 W:=by
 have hB:=hC.hB
 refine⟨h.blkA.fr hX (by simp;omega),h.blkI.fr hX (by simp;exact hne),Za8 h.data hX fun k hk=>?_,Za8 h.nums hX fun k hk=>?_⟩
 ·have:=(h.data.lt k hk).1;simp;omega
 ·have:=(h.nums.lt k hk).1;simp;omega
theorem Mq(B ba b g nn cc:Nat)(pa:O0)(ca f N k0:Nat)(bs:Bl)(t:Int)(a:O0)(c:Nat)(l:List Ent)(n:Nat)(w:World)(hl:l.length=n)(hC:AlC B ba nn cc ca f N)(hA:Al B ba b g nn cc pa ca f N k0 bs w)(ht1:1≤t)(ht2:t≤5)(E:EntsOk (Jd t true) l)(hn:n≤32768)(hf1:1≤f)(hkN:k0≤N)(hk:k0+Xk t n≤N)(hin:∀ W,Below B w W→Ze [200,5,28] w W→Sts Kd W (.slice a l.length c) l)(hBw:B≤w.heap.size) :
 C0 161 #[P0 ba,V0 t,.slice a n c] w (Zli B ba b g nn cc pa ca f N k0 bs t l w):=by
 subst hl;exact Znx B ba b g nn cc pa ca f N k0 bs t a c l w hC hA ht1 ht2 E hn hf1 hkN hk hin hBw
theorem Cp{t:Int}{l:List Ent}{q:Nat}{bs:Bl}(hq:1≤q):(Zz t l q bs).1=((q+Xk t l.length-1:Nat):Int):=by
 have hp:=Qp l.length (Kh t true)
 have hg:=Kl (ovN l.length (Kh t true))
 unfold Zz
 rw[Zas (by rw[Xr];exact hp) (by rw[Xr,Jp M0];simp only[upX];congr 1;omega) M0,Xr]
 unfold Xk Uh
 congr 1;omega
theorem Dl(a:O0)(c:Nat)(l:List Int)(w:World)(h:Sl w (.slice a l.length c) l.length (l.map V0))(hl:l.length≤65536)(hs:Jr l=0):C0 156 #[.slice a l.length c] w (fun e w'=>∃ pb cb gs po co,e=.returned (.tuple #[.slice pb (bmN l.length) cb,.slice po (Zp l l.length).length co,V0 0])∧B3 w w'∧Lists w' w.heap.size (.slice pb (bmN l.length) cb) gs (Xa (Zl l) (bmN l.length))∧w'.ownsRow w.heap.size 132 3 (.slice po (Zp l l.length).length co) (Zp l l.length).length ((Zp l l.length).flatMap Kd)) :=
 (Zjh a c l w h hl).mono fun e w' q=>(q.resolve_left fun z=>z.1 hs).2
theorem Zn2(B ba b g nn cc:Nat)(pa:O0)(ca f N k0:Nat)(bs:Bl)(bl B2:Nat)(pl:O0)(cl:Nat)(gs:List (Nat×Nat))(L:List (List Int))(n:Nat)(hn:L.length=n)(w:World)(hC:AlC B ba nn cc ca f N)(hA:Al B ba b g nn cc pa ca f N k0 bs w)(hL:Lists w B2 (.slice pl n cl) gs L)(hS:∀ i,i<L.length→Ui (L.getD i [])∧(L.getD i []).length≤960)(hf1:1≤f)(hk:k0+n≤N)(kl:Blk w bl [S0] 123)(hBl:B≤bl)(hBw:B≤w.heap.size) :
 C0 158 #[P0 ba,.slice pl n cl,.func (.func 159) #[] #[P0 bl]] w (fun e w'=>∃ p c,e=.returned .nilIface∧Below B w w'∧Ze [200,5,123,132] w w'∧Fr ([ba,g]++[bl]) w w'∧Al B ba b g nn cc pa ca f N (k0+n) (Xy L (f+k0) bs n) w'∧Blk w' bl [.slice p n c] 123∧w'.ownsRow w.heap.size 132 3 (.slice p n c) n ((Xm L (f+k0) n).flatMap Kd)):=by
 subst hn;exact Zut B ba b g nn cc pa ca f N k0 bs bl B2 pl cl gs L w hC hA hL hS hf1 hk kl hBl hBw
theorem Tc{l:List Int}(h:∀ k,k<l.length→Wn (l.getD k 0))(n:Nat):∀ i,i<(Xa (Zl l) n).length→Ui ((Xa (Zl l) n).getD i [])∧((Xa (Zl l) n).getD i []).length≤960:=fun i hi=>by
 rw[Wq] at hi
 rw[Kq hi]
 exact⟨Iu (Zlc h) i,by rw[Nx];omega⟩
theorem own_keep{w W:World}{B ba b g nn cc:Nat}{pa:O0}{ca f N k0 bl:Nat}{bs:Bl}{cs:List Value}{base n:Nat}{v:Value}{xs:List Value}(k:w.ownsRow base 132 3 v n xs)(hA:Al B ba b g nn cc pa ca f N k0 bs w)(kl:Blk w bl cs 123)(hX:Fr ([ba,g]++[bl]) w W):W.ownsRow base 132 3 v n xs:=Za8 k hX fun j hj hm=>by
 obtain⟨a0,kb⟩:=Za4 hA.data
 simp only[F5,Gt,A9,B7,or_false] at hm
 rcases hm with h|h|h
 ·exact Xo k hA.blkA Do _ hj h
 ·exact Xo k kb Do _ hj h
 ·exact Xo k kl Do _ hj h
def DataP(B ba b g nn cc:Nat)(pa:O0)(ca f N k0:Nat)(bs:Bl)(l:List Int)(w:World)(e:Ending)(w':World):Prop :=
 e=.returned (.tuple #[V0 (Vk l (f+k0) bs).1,V0 (Vk l (f+k0) bs).2.1,.nilIface])∧Below B w w'∧Ze [200,5,123,132,28] w w'∧Fr [ba,g] w w'∧Al B ba b g nn cc pa ca f N (k0+Qr l) (Vk l (f+k0) bs).2.2 w'
theorem Ca(n:Nat)(w:World)(hn:n≤65536) :
 C0 27 #[V0 (n:Int)] w (Ret (V0 (↑(bmN n):Int)) w):=by
 refine zin 9 Tryz.func27 ?_
 refine xid 12 ((n:Int)<(1:Int)) (fun a0=>?_) (fun a0=>?_)
 ·exact xe 7 (V0 0) ⟨by rw[show bmN n=0 from by unfold bmN;omega];rfl,(B4 w)⟩
 refine xwm 5 ((n:Int)-1) (↑(n-1):Int) ?_
 refine xq 0 (congrArg V0 (show(IntKind.i64.wrap (Int.tdiv (↑(n-1):Int) 960):Int)=(↑((n-1)/960):Int) from Ak (n-1) 960 M0 Do)) ?_
 refine xw 0 ((↑((n-1)/960):Int)+1) ?_
 exact xe 4 (V0 ((↑((n-1)/960):Int)+1)) ⟨by rw[show bmN n=(n-1)/960+1 from by unfold bmN;omega,Int.natCast_add];rfl,(B4 w)⟩
structure Sin(w W:World):Prop where
 b:Below w.heap.size w W
theorem Sin.below{w W V:World}(h:Sin w W)(hb:B3 W V):Sin w V:=⟨bln h.b hb⟩
theorem Sin.trans{w W V:World}(h:Sin w W)(hb:Below w.heap.size W V):Sin w V:=⟨h.b.trans hb⟩
theorem Sin.upd{w W V:World}{b:Nat}(h:Sin w W)(u:Upd W b V)(hb:w.heap.size≤b):Sin w V:=⟨u.below h.b hb⟩
theorem rs_ok{L:List (List Int)}{q n:Nat}(hS:∀ i,i<L.length→Ui (L.getD i [])∧(L.getD i []).length≤960)(hn:L.length=n)(h1:1≤q)(h2:q+n≤14400)(h3:n≤14):Rk (Rs L q n):=by
 refine⟨by rw[Cb];exact h3,fun i hi=>?_⟩
 rw[Cb] at hi
 rw[Zxw hi]
 have hc:=(hS i M0).2
 exact⟨by show 1≤q+i;omega,by show q+i≤14399;omega,N0 (Pw _ _) hc,N0 (Ph _) hc⟩
theorem Zio(j:Nat)(B ba b g nn cc:Nat)(pa:O0)(ca f N k0:Nat)(bs:Bl)(w:World)(hC:AlC B ba nn cc ca f N)(hA:Al B ba b g nn cc pa ca f N k0 bs w)(hk:k0≤N)(hN:N≤1000000)(hj:j≤1000000)(hjn:j≤N-k0) :
 C0 162 #[P0 ba,V0 (j:Int)] w (Kc (fun w' r=>∃ q c2,r=.slice q j c2∧w'.ownsRow w.heap.size 3 1 (.slice q j c2) j ((((Zdg f N).drop k0).take j).map V0)) w):=by
 have h:=Zjf B ba b pa N ca k0 j (Zdg f N) w ⟨hA.blkA,hA.nums,Zm5 _ _,hC.hB,hN,hk⟩ hj
 rwa [H3 hjn] at h
theorem Sw(n:Nat)(a:O0)(c:Nat)(l:List Int)(w:World)(hn:l.length=n)(h:Sl w (.slice a n c) n (l.map V0))(hl:n≤65536)(hs:Jr l=0):C0 156 #[.slice a n c] w (fun e w'=>∃ pb cb gs po co,e=.returned (.tuple #[.slice pb (bmN n) cb,.slice po (Zp l n).length co,V0 0])∧B3 w w'∧Lists w' w.heap.size (.slice pb (bmN n) cb) gs (Xa (Zl l) (bmN n))∧w'.ownsRow w.heap.size 132 3 (.slice po (Zp l n).length co) (Zp l n).length ((Zp l n).flatMap Kd)):=by
 subst hn;exact Dl a c l w h hl hs
theorem Zqk(n:Nat)(a:O0)(c:Nat)(S:List (Nat×Nat×Nat))(w:World)(hn:S.length=n)(hS:Rk S)(h:Sts rsC w (.slice a S.length c) S):C0 164 #[.slice a n c] w (Kc (fun w' r=>∃ p c,r=.tuple #[.slice p 244 c,V0 0]∧w'.ownsRow w.heap.size 5 1 (.slice p 244 c) 244 ((Ei S).map bv)) w):=by
 subst hn;exact Zwq a c S w hS h
theorem leB_get{n w i:Nat}(h:i<w):(leB (n:Int) w).getD i 0=UInt8.ofNat (n/256 ^ i):=by simp[leB,Xh,List.getD,B8 h]
theorem Cf{a b:Bl}{m w:Nat}(hm:m<256 ^ w):Zn (a++(leB (m:Int) w++b)) a.length w=m:=by
 rw[Nq w a.length m (fun i hi=>?_),E2 hm]
 rw[List.getD,Le M0,Ge (by rw[Zj];omega),show a.length+i-a.length=i by omega]
 exact leB_get hi
theorem Zmd{x:Nat×Nat×Nat}(h1:x.1≤14399)(h2:x.2.1≤960)(h3:x.2.2≤960):Mc Ya (slB x)=[x.1,x.2.1,x.2.2]:=by
 have e0:Zn (slB x) 0 8=x.1:=by
  have h:=Cf (a:=[]) (b:=leB (x.2.1:Int) 4++leB (x.2.2:Int) 4) (m:=x.1) (w:=8) M0
  simpa [slB,A1] using h
 have e1:Zn (slB x) 8 4=x.2.1:=by
  have h:=Cf (a:=leB (x.1:Int) 8) (b:=leB (x.2.2:Int) 4) (m:=x.2.1) (w:=4) M0
  rw[Zj] at h
  simpa [slB,A1] using h
 have e2:Zn (slB x) 12 4=x.2.2:=by
  have h:=Cf (a:=leB (x.1:Int) 8++leB (x.2.1:Int) 4) (b:=[]) (m:=x.2.2) (w:=4) M0
  rw[A8,Zj,Zj] at h
  simpa [slB,A1] using h
 show Nu (slB x) 0 [8,4,4]=_
 simp only[Nu]
 rw[e0,e1,e2]
theorem Zlt{x:Nat×Nat×Nat}(h0:1≤x.1)(h1:x.1≤14399)(h2:x.2.1≤960)(h3:x.2.2≤960):Xn Ya (slB x)=0:=by
 have hr:Pu Ya (slB x)=true:=by
  unfold Pu
  rw[Zmd h1 h2 h3,show Ya.length=3 from rfl]
  unfold Us
  rw[show List.range 3=[0,1,2] from rfl]
  simp[inP,Ya]
  omega
 unfold Xn
 rw[if_pos (by rw[Zkj];rfl),if_pos hr]
theorem Zkn{x:Nat×Nat×Nat}(h0:1≤x.1)(h1:x.1≤14399)(h2:x.2.1≤960)(h3:x.2.2≤960):Xs Ya (slB x)=[x.1,x.2.1,x.2.2]:=by
 unfold Xs
 rw[if_pos (Zlt h0 h1 h2 h3),Zmd h1 h2 h3]
theorem Ze0(S:List (Nat×Nat×Nat))(i:Nat):∀ k,∃ t,Zq9 S (i+k)=Zq9 S i++t
 | 0=>⟨[],by simp⟩
 | k+1=>by
  obtain⟨t,h⟩:=Ze0 S i k
  exact⟨t++slB (S.getD (i+k) rsD),by rw[←E9,Fp,h,A1]⟩
theorem Zgo{S:List (Nat×Nat×Nat)}{i:Nat}(hi:i<S.length):Pj (Ei S) i=slB (S.getD i rsD):=by
 obtain⟨t,h⟩:=Ze0 S (i+1) (S.length-(i+1))
 rw[show i+1+(S.length-(i+1))=S.length by omega,Fp] at h
 unfold Pj Ei
 rw[h,A1,A1,L7 (Av S i),L6 (Zkj _)]
theorem Zen{S:List (Nat×Nat×Nat)}(h:S.length≤15):Zn (Ei S) 0 4=S.length:=by
 obtain⟨t,ht⟩:=Ze0 S 0 S.length
 rw[F3] at ht
 have h2:=Cf (a:=[]) (b:=t++List.replicate (244-(4+S.length*16)) 0) (m:=S.length) (w:=4) M0
 unfold Ei
 rw[ht,show Zq9 S 0=leB (S.length:Int) 4 from by simp[Zq9],A1]
 simpa using h2
theorem Ft{S:List (Nat×Nat×Nat)}(h:Rk S):Zf5 (Ei S)=0∧Sk (Ei S) S.length=S:=by
 have a0:=h.1
 have hv:∀ i,i<S.length→Xn Ya (Pj (Ei S) i)=0∧sltX (Ei S) i=S.getD i rsD:=fun i hi=>by
  obtain⟨h0,h1,h2,h3⟩:=h.2 i hi
  constructor
  ·rw[Zgo hi];exact Zlt h0 h1 h2 h3
  ·unfold sltX Pn
   rw[Zgo hi,Zkn h0 h1 h2 h3]
   rfl
 have hz:Hf ((Ei S).drop (4+S.length*16))=true:=by
  unfold Ei
  rw[L7 (Av _ _)]
  exact Zdo fun j _=>Fc _ j
 have hs:∀ n,n≤S.length→Da (Ei S) n=0:=by
  intro n
  induction n with
  | zero=>intro _;rfl
  | succ n ih=>intro hn;exact Zcr (ih M0) (hv n M0).1
 constructor
 ·unfold Zf5 Ze4
  rw[Zen M0,hz,decide_eq_true M0]
  exact hs _ (At _)
 ·apply F4 (by rw[Zhy])
  intro i h1 h2
  have:=(hv i h2).2
  rw[show S.getD i rsD=S[i] from by simp[List.getD,h2]] at this
  simp[Sk,this]
theorem Zbx{l:List Int}(h:l.length≤960):Zn (Kt l) 0 4=l.length:=by
 have h2:=Cf (a:=[]) (b:=(List.range 240).map (g4B l l.length)) (m:=l.length) (w:=4) M0
 simpa [Kt,Dr] using h2
theorem Zfc(l:List Int)(j:Nat):atI l l.length j=l.getD j 0:=by
 unfold atI
 split
 ·rfl
 ·simp[List.getD,N6 (by assumption)]
theorem Zmm{l:List Int}(h:Ui l){i:Nat}(hi:i<960):(Zrt (Kt l) i:Int)=l.getD i 0:=by
 unfold Zrt
 rw[show(Kt l).getD (4+i/4) 0=g4B l l.length (i/4) from Zl2 l l.length M0]
 have b0:=Gi h (4*(i/4))
 have b1:=Gi h (4*(i/4)+1)
 have b2:=Gi h (4*(i/4)+2)
 have b3:=Gi h (4*(i/4)+3)
 unfold g4B g4
 rw[Zfc,Zfc,Zfc,Zfc,UInt8.toNat_ofNat']
 obtain e|e|e|e:i%4=0∨i%4=1∨i%4=2∨i%4=3:=by omega
 ·rw[show l.getD i 0=l.getD (4*(i/4)) 0 by rw[show 4*(i/4)=i by omega],e,show 2 ^ (0*2)=1 from rfl];omega
 ·rw[show l.getD i 0=l.getD (4*(i/4)+1) 0 by rw[show 4*(i/4)+1=i by omega],e,show 2 ^ (1*2)=4 from rfl];omega
 ·rw[show l.getD i 0=l.getD (4*(i/4)+2) 0 by rw[show 4*(i/4)+2=i by omega],e,show 2 ^ (2*2)=16 from rfl];omega
 ·rw[show l.getD i 0=l.getD (4*(i/4)+3) 0 by rw[show 4*(i/4)+3=i by omega],e,show 2 ^ (3*2)=64 from rfl];omega
theorem bitsB_ok{l:List Int}(h:Ui l)(hl:l.length≤960):Zaq (Kt l)=true:=by
 rw[Ld]
 refine⟨Vb _ _,by rw[Zbx hl];exact hl,fun i hi hc=>?_⟩
 rw[Zbx hl] at hc
 have:=Zmm h hi
 rw[show l.getD i 0=0 from by simp[List.getD,hc]] at this
 omega
theorem Zwd(l x:Bl)(k:Nat):l.length≤(Qh l k x).length:=by simp[Qh];omega
theorem Zm3(L:List (List Int))(q:Nat)(bs:Bl):∀ i,bs.length≤(Xy L q bs i).length
 | 0=>At _
 | i+1=>N0 (Zm3 L q bs i) (Zwd _ _ _)
theorem Cd{L:List (List Int)}{q m:Nat}{bs:Bl}:∀ {n i:Nat},(Xy L q bs n).length/256=m→bs.length/256=m→q+n≤m→i<n→Vv (Xy L q bs n) (q+i)=Xu 3 ((q+i:Nat):Int) (Kt (L.getD i []))
 | 0,i,_,_,_,hi=>absurd hi M0
 | n+1,i,h,hb,hm,hi=>by
  have h1:=Zm3 L q bs n
  have h2:=Zwd (Xy L q bs n) (Xu 3 ((q+n:Nat):Int) (Kt (L.getD n []))) ((q+n)*256)
  have h0:(Xy L q bs n).length/256=m:=by
   have h3:(Qh (Xy L q bs n) ((q+n)*256) (Xu 3 ((q+n:Nat):Int) (Kt (L.getD n [])))).length/256=m:=h
   have h4:=Nat.div_le_div_right (c:=256) h1
   have h5:=Nat.div_le_div_right (c:=256) h2
   omega
  have hx:(Xu 3 ((q+n:Nat):Int) (Kt (L.getD n []))).length=256:=Yn (by unfold Kt;rw[Vb];decide)
  show Vv (Qh (Xy L q bs n) ((q+n)*256) (Xu 3 ((q+n:Nat):Int) (Kt (L.getD n [])))) (q+i)=_
  by_cases e:i=n
  ·subst e;exact Ci hx M0
  ·rw[Yv hx M0 M0 M0]
   exact Cd h0 hb M0 M0
theorem Zey{l:Bl}{kind:Int}{k:Nat}{li:Bl}(h1:1≤kind)(h2:kind≤4)(hk:k<l.length/256)(h4:k<14400)(hli:li.length=244)(hb:Vv l k=Xu kind (k:Int) li):inE l kind (k:Int)=0∧inB l (k:Int)=li:=by
 constructor
 ·rw[Zc8 rfl rfl hk,hb];exact Zak h1 h2 M0 M0 M0
 ·rw[Zdy rfl,hb,Zv9 M0];unfold Zhv;rw[hli,Nat.sub_self];simp
def Xt(u n:Nat):List Int:=(List.range n).map fun i=>if i<u then 1 else 0
theorem Zr(u n:Nat):(Xt u n).length=n:=by simp[Xt]
theorem Hs{u n i:Nat}(h:i<n):(Xt u n).getD i 0=if i<u then 1 else 0:=by simp[Xt,List.getD,B8 h]
theorem Zmb(u n i:Nat):0≤(Xt u n).getD i 0∧(Xt u n).getD i 0≤1:=by
 by_cases h:i<n
 ·rw[Hs h];split<;>omega
 ·rw[show(Xt u n).getD i 0=0 from by simp[Xt,List.getD,N6 h]];omega
theorem Wa(u n k:Nat):Zp (Xt u n) k=[]:=by
 induction k with
 | zero=>rfl
 | succ k ih=>rw[Cv (by have:=Zmb u n k;omega),ih]
theorem Wz{u n:Nat}(h:n≤65536):Jr (Xt u n)=0:=by
 unfold Jr
 rw[if_neg (by rw[Zr];omega),if_pos fun k _=>by have:=Zmb u n k;unfold Wn;omega]
theorem Nv{u n:Nat}:Zcv (Xt u n) (u:Int):=fun i hi=>by
 rw[Zr] at hi
 rw[Hs hi]
 constructor
 ·intro h;rw[if_neg M0]
 ·split<;>omega
theorem Ob:Xk 5 0=1:=by
 unfold Xk Uh
 rw[show ovN 0 (Kh 5 true)=1 from by decide,Jm Do]
 rfl
theorem Rv(u n:Nat):Yf (Xt u n)=2+bmN n:=by
 unfold Yf
 rw[Wa,D6,Ob,Zr];omega
theorem Zu9(n:Nat):Hz (Value.int .i64 0).cells.toList n=(Xt 0 n).map V0:=by
 rw[show Hz (Value.int .i64 0).cells.toList n=List.replicate n (V0 0) from by
  rw[show(Value.int .i64 0).cells.toList=[Value.int .i64 0] from rfl,Hz]
  induction n with
  | zero=>rfl
  | succ n ih=>rw[K4,P1,ih];rfl]
 apply F4 (by simp[Xt])
 intro i h1 h2
 simp[Xt]
theorem self_set{i n:Nat}(h:i<n):((Xt i n).map V0).set i (V0 1)=(Xt (i+1) n).map V0:=by
 apply If
 intro j
 by_cases hj:j<n
 ·by_cases e:i=j
  ·subst e
   rw[I5 (by simp[Xt];exact h)]
   simp[Xt,B8 h]
  ·rw[G7 e]
   simp only[Xt,C4,B8 hj,D5]
   by_cases q:j<i
   ·rw[if_pos q,if_pos M0]
   ·rw[if_neg q,if_neg M0]
 ·rw[C6 (by simp[Xt];omega),C6 (by simp[Xt];omega)]
end Go.Proofs.YtceeiinepijokaaGreatDoor
namespace Go.Proofs.YtceeiinepijokaaGreatDoor
set_option maxHeartbeats 8000000
set_option maxRecDepth 100000
open Go.RowKit Go.Extern.Stop Go.Stop Go.Extern
set_option linter.unusedVariables false
structure WS where
 es:List Ent
 bs:List Int
 deep:Int
 looked:Nat
 fs:List (List Int×Int)
 dry:Bool
def Jb(way bs:List Int)(c:Int)(s:WS):WS:={ s with fs:=s.fs++[(way++bs,c)] }
def Um(V:List Int→Int→Int→Int→WS→WS)(way:List Int)(no:Int)(val:Bl)(p:Int×Int)(s:WS):WS :=
 if Qn val=0 then V (way++[no]) (Hv val:Int) p.1 p.2 s else Jb way [no] (Qn val) s
def Ha(l:Bl)(no:Int):List Int:=Hh (inB l no) (Xb (inB l no))
def Uf(l:Bl)(no:Int):List Bl:=Nk (inB l no) (Xb (inB l no))
def Ek(V:List Int→Int→Int→Int→WS→WS)(l:Bl)(way:List Int)(no hi:Int)(s:WS)(i:Nat):WS :=
 if s.dry=true then s else Um V way no ((Uf l no).getD i []) (Ye hi (Ha l no) i) s
def Qm(V:List Int→Int→Int→Int→WS→WS)(l:Bl)(way:List Int)(no hi:Int)(k:Nat)(s:WS):WS:=(List.range k).foldl (Ek V l way no hi) s
def Xd(l:Bl)(tree fuel:Int):Nat→List Int→Int→Int→Int→WS→WS
 | 0,_,_,_,_,s=>s
 | d+1,way,no,lo,hi,s =>
  if fuel≤s.looked then { Jb way [no] 12 s with dry:=true }
  else if Qc l way no tree lo hi s.deep≠0 then Jb way [no] (Qc l way no tree lo hi s.deep) { s with looked:=s.looked+1 }
  else if Yj (inB l no)=true then { s with looked:=s.looked+1,bs:=s.bs++[no],deep:=((way.length+1:Nat):Int),es:=s.es++Pg (Ha l no) (Uf l no) no (Xb (inB l no)) }
  else Qm (Xd l tree fuel d) l way no hi (Xb (inB l no)) { s with looked:=s.looked+1,bs:=s.bs++[no] }
theorem Nr(V:List Int→Int→Int→Int→WS→WS)(l:Bl)(way:List Int)(no hi:Int)(k:Nat)(s:WS):Qm V l way no hi (k+1) s=Ek V l way no hi (Qm V l way no hi k s) k:=by
 simp[Qm,C3]
theorem Zro(V:List Int→Int→Int→Int→WS→WS)(l:Bl)(way:List Int)(no hi:Int)(s:WS)(i:Nat)(h:s.dry=true):Ek V l way no hi s i=s:=by simp[Ek,h]
theorem Zt7(V:List Int→Int→Int→Int→WS→WS)(l:Bl)(way:List Int)(no hi:Int)(s:WS){k n:Nat}(hk:k≤n)(h:(Qm V l way no hi k s).dry=true):Qm V l way no hi n s=Qm V l way no hi k s:=by
 induction n with
 | zero =>
  obtain rfl:k=0:=by omega
  rfl
 | succ n ih =>
   rcases G2 n k with q|q
   ·obtain rfl:k=n+1:=by omega
    rfl
   ·rw[Nr,ih q,Zro _ _ _ _ _ _ _ h]
def Uq(w:World):List (List Int×Int)→List Value→Prop
 | [],[]=>True
 | f::r,v::q=>Kr w (f.1.map some) (some f.2) v∧Uq w r q
 | _,_=>False
theorem Uq.kept{w W:World}(hb:∀ blk cs,Blk w blk cs 191→Blk W blk cs 191):∀ {fs:List (List Int×Int)} {vs:List Value},Uq w fs vs→Uq W fs vs
 | [],[],h=>h
 | _::_,_::_,h=>⟨h.1.kept hb,Uq.kept hb h.2⟩
 | [],_::_,h=>h.elim
 | _::_,[],h=>h.elim
theorem Uq.only{T:List TypeId}{w W:World}{fs:List (List Int×Int)}{vs:List Value}(h:Uq w fs vs)(k:Ze T w W)(hT:T.contains 191=false):Uq W fs vs:=h.kept fun _ _ q=>q.only k hT
theorem Uq.below{w W:World}{fs:List (List Int×Int)}{vs:List Value}(h:Uq w fs vs)(hb:B3 w W):Uq W fs vs:=h.kept fun _ _ q=>q.below hb
theorem Uq.snoc{w:World}{f:List Int×Int}{v:Value}(hv:Kr w (f.1.map some) (some f.2) v):∀ {fs:List (List Int×Int)} {vs:List Value},Uq w fs vs→Uq w (fs++[f]) (vs++[v])
 | [],[],_=>⟨hv,trivial⟩
 | _::_,_::_,h=>⟨h.1,Uq.snoc hv h.2⟩
 | [],_::_,h=>h.elim
 | _::_,[],h=>h.elim
structure WalkR(B bw Bi b:Nat)(pi:Option Addr)(ni ci:Nat)(l:List UInt8)(tree fuel:Int)(way:List Int)(s:WS)(pe pb pf pw:Option Addr)(ce cb cf cw:Nat)(fv:List Value)(w:World):Prop where
 blk:Blk w bw [.slice pe s.es.length ce,.slice pb s.bs.length cb,.int .i64 s.deep,.int .i64 (s.looked:Int),.slice pf s.fs.length cf,.pointer (some ⟨b,0,none⟩),.int .i64 tree,.int .i64 fuel,.slice pw way.length cw,.bool s.dry] 306
 ents:w.ownsRow B 132 3 (.slice pe s.es.length ce) s.es.length (s.es.flatMap Kd)
 blks:w.ownsRow B 3 1 (.slice pb s.bs.length cb) s.bs.length (s.bs.map (Value.int .i64))
 flts:w.ownsRow B 28 1 (.slice pf s.fs.length cf) s.fs.length fv
 fltv:Uq w s.fs fv
 ways:w.ownsRow B 3 1 (.slice pw way.length cw) way.length (way.map (Value.int .i64))
 apart:Po (.slice pb s.bs.length cb) (.slice pw way.length cw)
 img:ImgR Bi b pi ni ci l w
def Zs1(B bw Bi b:Nat)(pi:O0)(ni ci:Nat)(l:Bl)(tree fuel:Int)(way:List Int)(t:WS)(w:World)(e:Ending)(w':World):Prop :=
 ∃ u pe pb pf pw ce cb cf cw fv,e=.returned u∧Below B w w'∧Ze [306,132,3,28] w w'∧WalkR B bw Bi b pi ni ci l tree fuel way t pe pb pf pw ce cb cf cw fv w'
end Go.Proofs.YtceeiinepijokaaGreatDoor
namespace Go.Proofs.YtceeiinepijokaaGreatDoor
set_option maxHeartbeats 8000000
set_option maxRecDepth 100000
open Go.RowKit Go.Extern.Stop Go.Stop Go.Extern
set_option linter.unusedVariables false
attribute [local irreducible] wpList wpAnyH Code.wp Oper.wp Go
theorem Ew{w:World}{base e n c:Nat}{p:O0}{xs:List Value}(k:w.ownsRow base e 1 (.slice p n c) n xs)(hn:0<n):p.isSome=true∧n≤c:=by
 rcases k.2 with ⟨h,_⟩|⟨g,a0,a1,hv,_,_,hc,_⟩
 ·simp only[C2] at h;omega
 ·simp only[C2] at hv
  obtain⟨rfl,_,rfl⟩:=hv
  exact⟨rfl,hc⟩
theorem Zbf{w:World}{base e c:Nat}{p:O0}{way:List Int}{no:Int}(k:w.ownsRow base e 1 (.slice p (way++[no]).length c) (way++[no]).length ((way++[no]).map V0)):w.ownsRow base e 1 (.slice p way.length c) way.length (way.map V0):=by
 have h:=own_cut (m:=way.length) k (by simp) (Ew k (by simp)).1
 rwa [B5,L6 (by simp)] at h
theorem Zjj{w w':World}(h:Ze [306,28] w w'):Ze [306,132,3,28] w w':=h.mono fun t ht=>by
 simp only[List.contains_cons,List.contains_nil,K7] at ht ⊢
 exact⟨ht.1,ht.2.2.2⟩
def Zt9(B bw Bi b:Nat)(pi:O0)(ni ci:Nat)(l:Bl)(tree fuel:Int)(d:Nat):Prop :=
 ∀ (way:List Int) (no lo hi:Int) (s:WS) (pe pb pf pw:O0) (ce cb cf cw:Nat) (fv:List Value) (w:World),way.length+d=17→B≤w.heap.size→s.dry=false→WalkR B bw Bi b pi ni ci l tree fuel way s pe pb pf pw ce cb cf cw fv w →
  (Xd l tree fuel d way no lo hi s).es.length≤100000000→(Xd l tree fuel d way no lo hi s).bs.length≤100000000→(Xd l tree fuel d way no lo hi s).fs.length≤100000000 →
  C0 178 #[P0 bw,V0 no,.agg #[V0 lo,V0 hi]] w (Zs1 B bw Bi b pi ni ci l tree fuel way (Xd l tree fuel d way no lo hi s) w)
theorem Zg7(B bw Bi b:Nat)(pi:O0)(ni ci:Nat)(l:Bl)(tree fuel:Int)(d:Nat)(hV:Zt9 B bw Bi b pi ni ci l tree fuel d)(way:List Int)(no lo hi:Int)(val:Bl)(s:WS)(pe pb pf pw:O0)(ce cb cf cw:Nat)(fv:List Value)(w:World)(hBb:B≤bw)(hBw:B≤w.heap.size)(hwd:way.length+1+d=17)(hdry:s.dry=false)(hvl:val.length≤1000)(hR:WalkR B bw Bi b pi ni ci l tree fuel (way++[no]) s pe pb pf pw ce cb cf cw fv w)(he:(Um (Xd l tree fuel d) way no val (lo,hi) s).es.length≤100000000)(hb_:(Um (Xd l tree fuel d) way no val (lo,hi) s).bs.length≤100000000)(hf:(Um (Xd l tree fuel d) way no val (lo,hi) s).fs.length≤100000000) :
 C0 235 #[P0 bw,V0 no,.string ⟨val.toArray⟩,.agg #[V0 lo,V0 hi]] w (Zs1 B bw Bi b pi ni ci l tree fuel (way++[no]) (Um (Xd l tree fuel d) way no val (lo,hi) s) w):=by
 obtain⟨kW,d0,d1,d2,d3,c8,d4,hI⟩:=hR
 have e1:=(Ew c8 (by simp)).2
 have e6:(way++[no]).length=way.length+1:=by simp
 refine zin 44 Tryz.func235 ?_
 refine xa 2 [V0 lo,V0 hi] 309 fun b1 W1 n1=>?_
 refine xr 5 (Gr val _ hvl) fun W2 a1=>?_
 refine xie 14 (Qn val) (0:Int) (fun e0=>?_) (fun e0=>?_)
 ·have k1:=n1.blk.below a1
  refine xlv 4 k1.rp ?_
  have a4:Um (Xd l tree fuel d) way no val (lo,hi) s=Xd l tree fuel d (way++[no]) (Hv val:Int) lo hi s:=by unfold Um;rw[if_pos (by assumption)]
  have hB:=blB (blB (Below.refl B w) hBw n1.below) hBw a1
  have c2:=(kW.below n1.below).below a1
  have b8:=Zb (Zb d0 n1.below) a1
  have b4:=Zb (Zb d1 n1.below) a1
  have b9:=Zb (Zb d2 n1.below) a1
  have b5:=(d3.below n1.below).below a1
  have a8:=Zb (Zb c8 n1.below) a1
  have c6:=(hI.below n1.below).below a1
  refine xc 0 (hV (way++[no]) (Hv val:Int) lo hi s pe pb pf pw ce cb cf cw fv _ (by simp;omega) (N0 hBw hB.size) hdry ⟨c2,b8,b4,b9,b5,a8,d4,c6⟩ (by have q:=he;rw[a4] at q;exact q) (by have q:=hb_;rw[a4] at q;exact q) (by have q:=hf;rw[a4] at q;exact q)) ?_
  rintro _ W4 ⟨u4,e2,e9,c1,e8,e7,e4,c3,e5,e3,rfl,d7,d6,d8⟩
  have c5:=hB.trans d7
  have hO:=((show Ze [306,132,3,28] w _ from(Q0 n1.below)).trans (Q0 a1)).trans d6
  refine xe 4 (.tuple #[]) ?_
  rw[a4]
  exact⟨_,_,_,_,_,_,_,_,_,_,rfl,c5,hO,d8⟩
 have a0:=(kW.below n1.below).below a1
 refine xb 7 8 a0 ?_
 refine xwm 9 ((↑((way++[no]).length):Int)-1) (↑(((way++[no]).length)-1):Int) ?_
 refine xsH 0 (fun _ _ _ _ zo zx zy V=>Kb (k:=(((way++[no]).length)-1)) (b:=pw) (n:=(way++[no]).length) (c:=cw) (i:=(↑(((way++[no]).length)-1):Int)) (ki:=.i64) zo zx zy rfl M0 Tryz.underlying34 K0 V) ?_
 refine xs 2 a0 [.slice pe s.es.length ce,.slice pb s.bs.length cb,V0 s.deep,V0 (s.looked:Int),.slice pf s.fs.length cf,P0 b,V0 tree,V0 fuel,.slice pw (((way++[no]).length)-1) cw,.bool s.dry] fun W5 u5 k5=>?_
 refine xc 8 (args:=#[V0 no,.iface 50 (V0 (Qn val))]) (Vu no (some (Qn val)) [] _ _ rfl) ?_
 rintro _ W6 ⟨r6,rfl,a2,c7⟩
 rw[Ks] at c7
 obtain⟨t6,x6,rfl⟩:=c7.iface
 have b3:=k5.below a2
 have a4:Um (Xd l tree fuel d) way no val (lo,hi) s=Jb way [no] (Qn val) s:=by unfold Um;rw[if_neg (by assumption)]
 rw[show(way++[no]).length-1=way.length by omega] at b3
 have hB:=blB (u5.below (blB (blB (Below.refl B w) hBw n1.below) hBw a1) hBb) hBw a2
 have b2:=Zb (u5.own2 (Zb (Zb d2 n1.below) a1) a0 Do) a2
 have a3:=Zb (u5.own2 (Zb (Zb c8 n1.below) a1) a0 Do) a2
 refine xc 0 (args:=#[P0 bw,.iface t6 (x6)]) (Dw B bw _ _ _ _ _ _ _ _ pf _ cf fv pw cw way [no] (Qn val) _ _ _ hBb (N0 hBw hB.size) b3 b2 (Zbf a3) c7 M0 (by have:=hf;rw[a4] at this;simp[Jb] at this;omega)) ?_
 rintro _ W7 ⟨u7,c1,c3,t2,x2,rfl,d9,a6,kN,c9,d5⟩
 refine xs 7 kN [.slice pe s.es.length ce,.slice pb s.bs.length cb,V0 s.deep,V0 (s.looked:Int),.slice c1 (s.fs.length+1) c3,P0 b,V0 tree,V0 fuel,.slice pw ((way++[no]).length) cw,.bool s.dry] fun W8 u8 k8=>?_
 have c4:=u8.below (hB.trans d9) hBb
 have hO:=(((((show Ze [306,132,3,28] w _ from(Q0 n1.below)).trans (Q0 a1)).trans (Q1 u5 a0 Do)).trans (Q0 a2)).trans (Zjj a6)).trans (Q1 u8 kN Do)
 have b7:=u8.own2 (Zi (Zb (u5.own2 (Zb (Zb d0 n1.below) a1) a0 Do) a2) a6 Do) kN Do
 have b6:=u8.own2 (Zi (Zb (u5.own2 (Zb (Zb d1 n1.below) a1) a0 Do) a2) a6 Do) kN Do
 have a5:=u8.own2 c9 kN Do
 have a7:=d5.upd u8 kN Do
 have b0:=(((((d3.below n1.below).below a1).only (Q1 (T:=[306]) u5 a0 Do) Do).below a2).only a6 Do).only (Q1 (T:=[306]) u8 kN Do) Do
 have a9:=u8.own2 (Zi a3 a6 Do) kN Do
 have c0:=(((((hI.below n1.below).below a1).only (Q1 (T:=[306]) u5 a0 Do) Do).below a2).only a6 Do).only (Q1 (T:=[306]) u8 kN Do) Do
 refine xe 1 (.tuple #[]) ?_
 rw[a4]
 exact⟨_,pe,pb,c1,pw,ce,cb,c3,cw,_,rfl,c4,hO,by simpa [Jb] using k8,b7,b6,by simpa [Jb] using a5,Uq.snoc a7 b0,a9,d4,c0⟩
end Go.Proofs.YtceeiinepijokaaGreatDoor
namespace Go.Proofs.YtceeiinepijokaaGreatDoor
set_option maxHeartbeats 8000000
set_option maxRecDepth 100000
open Go.RowKit Go.Extern.Stop Go.Stop Go.Extern
set_option linter.unusedVariables false
def Zeb(s t:WS):Prop:=s.es.length≤t.es.length∧s.bs.length≤t.bs.length∧s.fs.length≤t.fs.length
theorem Zeb.refl(s:WS):Zeb s s:=⟨At _,At _,At _⟩
theorem Zeb.trans{s t u:WS}(h:Zeb s t)(k:Zeb t u):Zeb s u:=⟨N0 h.1 k.1,N0 h.2.1 k.2.1,N0 h.2.2 k.2.2⟩
theorem Znv(way bs:List Int)(c:Int)(s:WS):Zeb s (Jb way bs c s):=⟨At _,At _,by simp[Jb]⟩
theorem Zjv{V:List Int→Int→Int→Int→WS→WS}(hV:∀ way no lo hi s,Zeb s (V way no lo hi s))(way:List Int)(no:Int)(val:Bl)(p:Int×Int)(s:WS):Zeb s (Um V way no val p s):=by
 unfold Um
 split
 ·exact hV _ _ _ _ _
 ·exact Znv _ _ _ _
theorem Zjl{V:List Int→Int→Int→Int→WS→WS}(hV:∀ way no lo hi s,Zeb s (V way no lo hi s))(l:Bl)(way:List Int)(no hi:Int)(s:WS)(i:Nat):Zeb s (Ek V l way no hi s i):=by
 unfold Ek
 split
 ·exact Zeb.refl _
 ·exact Zjv hV _ _ _ _ _
theorem Zdc{V:List Int→Int→Int→Int→WS→WS}(hV:∀ way no lo hi s,Zeb s (V way no lo hi s))(l:Bl)(way:List Int)(no hi:Int)(s:WS){k n:Nat}(hk:k≤n):Zeb (Qm V l way no hi k s) (Qm V l way no hi n s):=by
 induction n with
 | zero =>
  obtain rfl:k=0:=by omega
  exact Zeb.refl _
 | succ n ih =>
   rcases G2 n k with q|q
   ·obtain rfl:k=n+1:=by omega
    exact Zeb.refl _
   ·rw[Nr]
    exact(ih q).trans (Zjl hV _ _ _ _ _ _)
theorem Zpr(V:List Int→Int→Int→Int→WS→WS)(l:Bl)(way:List Int)(no hi:Int)(s:WS):Qm V l way no hi 0 s=s:=rfl
theorem Dx(l:Bl)(tree fuel:Int):∀ (d:Nat) (way:List Int) (no lo hi:Int) (s:WS),Zeb s (Xd l tree fuel d way no lo hi s)
 | 0,_,_,_,_,s=>Zeb.refl s
 | d+1,way,no,lo,hi,s=>by
  unfold Xd
  split
  ·exact⟨At _,At _,by simp[Jb]⟩
  ·split
   ·exact⟨At _,At _,by simp[Jb]⟩
   ·split
    ·exact⟨by simp,by simp,At _⟩
    ·refine Zeb.trans ⟨?_,?_,?_⟩ (Zdc (Dx l tree fuel d) l way no hi _ (A3 _))
     ·exact At _
     ·simp[Zpr]
     ·exact At _
section
variable {B bw Bi b:Nat} {pi:Option Addr} {ni ci:Nat} {l:List UInt8} {tree fuel:Int} {way:List Int} {s:WS} {pe pb pf pw:Option Addr} {ce cb cf cw:Nat} {fv:List Value} {w W:World}
theorem WalkR.below(h:WalkR B bw Bi b pi ni ci l tree fuel way s pe pb pf pw ce cb cf cw fv w)(hb:B3 w W):WalkR B bw Bi b pi ni ci l tree fuel way s pe pb pf pw ce cb cf cw fv W :=
 ⟨h.blk.below hb,Zb h.ents hb,Zb h.blks hb,Zb h.flts hb,h.fltv.below hb,Zb h.ways hb,h.apart,h.img.below hb⟩
theorem WalkR.only{T:List TypeId}(h:WalkR B bw Bi b pi ni ci l tree fuel way s pe pb pf pw ce cb cf cw fv w)(hO:Ze T w W)
 (hT:T.contains 306=false∧T.contains 132=false∧T.contains 3=false∧T.contains 28=false∧T.contains 191=false∧T.contains 80=false∧T.contains 5=false):WalkR B bw Bi b pi ni ci l tree fuel way s pe pb pf pw ce cb cf cw fv W :=
 ⟨h.blk.only hO hT.1,Zi h.ents hO hT.2.1,Zi h.blks hO hT.2.2.1,Zi h.flts hO hT.2.2.2.1,h.fltv.only hO hT.2.2.2.2.1,Zi h.ways hO hT.2.2.1,h.apart,h.img.only hO ⟨hT.2.2.2.2.2.1,hT.2.2.2.2.2.2⟩⟩
end
end Go.Proofs.YtceeiinepijokaaGreatDoor
