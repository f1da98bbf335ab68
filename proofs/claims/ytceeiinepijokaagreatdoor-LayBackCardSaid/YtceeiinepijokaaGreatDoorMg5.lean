/- (*walker).visit, given what a visit one deeper does. -/
import Derived.Laws.StructEq
import Derived.Test.YtceeiinepijokaaGreatDoorMg4
namespace Go.Proofs.YtceeiinepijokaaGreatDoor
set_option maxHeartbeats 8000000
set_option maxRecDepth 100000
open Go.RowKit Go.Extern.Stop Go.Stop Go.Extern
set_option linter.unusedVariables false
attribute [local irreducible] wpList wpAnyH Code.wp Oper.wp Go
theorem LookP.or{B bw:Nat}{cs:List Value}{l:Bl}{way:List Int}{no tree lo hi deep:Int}{w:World}{e:Ending}{w':World}(h:LookP B bw cs l way no tree lo hi deep w e w') :
 (Qc l way no tree lo hi deep≠0∧∃ a4 b4 k4 n4 c4 v4 m4 d4 ty x,e=.returned (.tuple #[.agg #[V0 a4,.bool b4,.slice k4 n4 c4,.slice v4 m4 d4],.iface ty x])∧Below B w w'∧Ze [306] w w'∧Blk w' bw cs 306∧Kr w' [some no] (some (Qc l way no tree lo hi deep)) (.iface ty x)) ∨
 (Qc l way no tree lo hi deep=0∧∃ kp kc vp vc,e=.returned (.tuple #[.agg #[V0 (Qy (inB l no)),.bool (Yj (inB l no)),.slice kp (Xb (inB l no)) kc,.slice vp (Xb (inB l no)) vc],.nilIface])∧Below B w w'∧Ze [306] w w'∧Blk w' bw cs 306 ∧
 w'.ownsRow w.heap.size 3 1 (.slice kp (Xb (inB l no)) kc) (Xb (inB l no)) ((Ha l no).map V0)∧w'.ownsRow w.heap.size 9 1 (.slice vp (Xb (inB l no)) vc) (Xb (inB l no)) ((Uf l no).map sv)):=by
 obtain⟨h1,h2,h3,⟨h4,a4,b4,k4,n4,c4,v4,m4,d4,ty,x,h5,h6⟩|⟨h4,_,kp,kc,vp,vc,h5,h6,h7⟩⟩:=h
 ·exact .inl ⟨h4,a4,b4,k4,n4,c4,v4,m4,d4,ty,x,h5,h1,h2,h3,h6⟩
 ·exact .inr ⟨h4,kp,kc,vp,vc,h5,h1,h2,h3,h6,h7⟩
theorem widG_24(t:Int)(b:Bool):widG t b≤24:=by
 unfold widG Jd
 repeat' split
 all_goals omega
theorem Ea(l:Bl)(n i:Nat):((Nk l n).getD i []).length≤1000:=by
 by_cases h:i<n
 ·rw[Zic l h]
  unfold Zpp
  rw[E3]
  have:=widG_24 (Qy l) (Yj l)
  unfold Je
  omega
 ·simp[List.getD,C6 (show(Nk l n).length≤i by rw[Lv];omega)]
theorem Tq(p:O0)(n c n2 c2:Nat):(Value.slice p n c).ownBlock=(Value.slice p n2 c2).ownBlock:=by
 cases p<;>rfl
theorem Po.len{p q:O0}{n c m d:Nat}(h:Po (.slice p n c) (.slice q m d))(n2 c2 m2 d2:Nat):Po (.slice p n2 c2) (.slice q m2 d2):=fun j h1 h2 =>
 h j ((Tq _ _ _ _ _).trans h1) ((Tq _ _ _ _ _).trans h2)
def prC (p:Int×Int):List Value:=[V0 p.1,V0 p.2]
theorem Zxc(p:Int×Int):(prC p).length=2:=rfl
theorem Zw9(l:List (Int×Int)):Cc l=l.flatMap prC:=by
 induction l with
 | nil=>rfl
 | cons x l ih=>simp only[Cc,E5,prC];rfl
theorem Zti{l:Bl}{way:List Int}{no tree lo hi deep:Int}(h:Qc l way no tree lo hi deep=0):Jz lo hi (Ha l no)=0∧way.length<16:=by
 unfold Qc at h
 by_cases h1:Ki way no=true
 ·rw[if_pos h1] at h;cases h
 rw[if_neg h1] at h
 by_cases h2:16≤way.length
 ·rw[if_pos h2] at h;cases h
 rw[if_neg h2] at h
 by_cases h3:Yb l no tree≠0
 ·rw[if_pos h3] at h;exact absurd h h3
 rw[if_neg h3] at h
 by_cases h4:Jz lo hi (Hh (inB l no) (Xb (inB l no)))≠0
 ·rw[if_pos h4] at h;cases h
 exact⟨Decidable.not_not.1 h4,by omega⟩
theorem Zph(hi:Int)(l:List Int){i:Nat}(h:i<l.length):(Kg hi l).getD i (0,0)=Ye hi l i:=by simp[Kg,h]
theorem sts_sp{w:World}{p:O0}{n c:Nat}{L:List (Int×Int)}(h:Sl w (.slice p n c) n (Cc L))(hL:L.length=n):Sts prC w (.slice p L.length c) L:=by
 subst hL;rw[Zw9] at h;exact h
theorem Zd0(hi:Int)(l:List Int):(Kg hi l).length=l.length:=by simp[Kg]
theorem only_le{w w':World}(h:Ze [306,132] w w'):Ze [306,132,3,28] w w':=h.mono fun t ht=>by
 simp only[List.contains_cons,List.contains_nil,K7] at ht ⊢
 exact⟨ht.1,ht.2.1,trivial⟩
theorem Zxz{w w':World}(h:Ze [306] w w'):Ze [306,132,3,28] w w':=h.mono fun t ht=>by
 simp only[List.contains_cons,List.contains_nil,K7] at ht ⊢
 exact⟨ht.1,trivial⟩
theorem Tw(B bw Bi b:Nat)(pi:O0)(ni ci:Nat)(l:Bl)(tree fuel:Int)(d:Nat)(hV:d≠0→Zt9 B bw Bi b pi ni ci l tree fuel d)(way:List Int)(no lo hi:Int)(s:WS)(pe pb pf pw:O0)(ce cb cf cw:Nat)(fv:List Value)(w:World)(hBb:B≤bw)(hBw:B≤w.heap.size)(hwd:way.length+(d+1)=17)(hdry:s.dry=false)(hfu:fuel≤1000000)(hR:WalkR B bw Bi b pi ni ci l tree fuel way s pe pb pf pw ce cb cf cw fv w)(he:(Xd l tree fuel (d+1) way no lo hi s).es.length≤100000000)(hb_:(Xd l tree fuel (d+1) way no lo hi s).bs.length≤100000000)(hf:(Xd l tree fuel (d+1) way no lo hi s).fs.length≤100000000) :
 C0 178 #[P0 bw,V0 no,.agg #[V0 lo,V0 hi]] w (Zs1 B bw Bi b pi ni ci l tree fuel way (Xd l tree fuel (d+1) way no lo hi s) w):=by
 obtain⟨kW,e8,f0,f1,e9,e7,d0,hI⟩:=hR
 have z9:=f0
 have x8:=e7
 have bl:=Dx l tree fuel (d+1) way no lo hi s
 have ca:=N0 bl.2.1 hb_
 refine zin 106 Tryz.func178 ?_
 refine xa 2 [V0 lo,V0 hi] 309 fun b1 W1 n1=>?_
 refine xd 4 .z ?_
 have f6:=(kW.below n1.below).below (Za W1)
 refine xb (.e [0,1,2,3] 4) 3 f6 ?_
 refine xb (.e [5,6,7] 8) 7 f6 ?_
 refine xid (.r [9] 2) ((s.looked:Int)≥fuel) (fun bc=>?_) (fun bc=>?_)
 ·refine xc 5 (args:=#[V0 no,.iface 50 (V0 12)]) (Vu no (some 12) [] _ _ rfl) ?_
  rintro _ W3 ⟨r3,rfl,f8,w4⟩
  rw[Ks] at w4
  obtain⟨t3,x3,rfl⟩:=w4.iface
  have d2:(Xd l tree fuel (d+1) way no lo hi s)={ Jb way [no] 12 s with dry:=true }:=by unfold Xd;rw[if_pos M0]
  have hB:=blB (blB (blB (Below.refl B w) hBw n1.below) hBw (Za W1)) hBw f8
  have z1:=f6.below f8
  have n2:=Zb (Zb (Zb f1 n1.below) (Za W1)) f8
  have g8:=Zb (Zb (Zb e7 n1.below) (Za W1)) f8
  refine xc 0 (args:=#[P0 bw,.iface t3 (x3)]) (Dw B bw _ _ _ _ _ _ _ _ pf _ cf fv pw cw way [no] 12 _ _ _ hBb (N0 hBw hB.size) z1 n2 g8 w4 M0 (by have:=hf;rw[d2] at this;simp[Jb] at this;omega)) ?_
  rintro _ W4 ⟨u4,v2,u7,t2,x2,rfl,bi,k9,kN,j3,z3⟩
  refine xs 7 kN [.slice pe s.es.length ce,.slice pb s.bs.length cb,V0 s.deep,V0 (s.looked:Int),.slice v2 (s.fs.length+1) u7,P0 b,V0 tree,V0 fuel,.slice pw way.length cw,.bool true] fun W5 u5 k5=>?_
  have w1:=u5.below (hB.trans bi) hBb
  have hO:=((((show Ze [306,132,3,28] w _ from(Q0 n1.below)).trans (Q0 (Za W1))).trans (Q0 f8)).trans (Zjj k9)).trans (Q1 u5 kN Do)
  have m9:=u5.own2 (Zi (Zb (Zb (Zb e8 n1.below) (Za W1)) f8) k9 Do) kN Do
  have r0:=u5.own2 (Zi (Zb (Zb (Zb f0 n1.below) (Za W1)) f8) k9 Do) kN Do
  have i8:=u5.own2 j3 kN Do
  have n6:=z3.upd u5 kN Do
  have m7:=((((e9.below n1.below).below (Za W1)).below f8).only k9 Do).only (Q1 (T:=[306]) u5 kN Do) Do
  have m0:=u5.own2 (Zi g8 k9 Do) kN Do
  have z7:=((((hI.below n1.below).below (Za W1)).below f8).only k9 Do).only (Q1 (T:=[306]) u5 kN Do) Do
  refine xe 4 (.tuple #[]) ?_
  rw[d2]
  exact⟨_,pe,pb,v2,pw,ce,cb,u7,cw,_,rfl,w1,hO,by simpa [Jb] using k5,m9,r0,by simpa [Jb] using i8,Uq.snoc n6 m7,m0,d0,z7⟩
 have k1:=n1.blk.below (Za W1)
 refine xlv 6 k1.rp ?_
 have hB:=blB (blB (Below.refl B w) hBw n1.below) hBw (Za W1)
 have e1:=Zb (Zb e7 n1.below) (Za W1)
 have f2:=(hI.below n1.below).below (Za W1)
 refine xc 0 (args:=#[P0 bw,V0 no,.agg #[V0 lo,V0 hi]]) ((Zki B Bi b bw pi ni ci l _ _ _ _ _ pw cw way no tree lo hi s.deep (s.looked:Int) _ hBb (N0 hBw hB.size) f6 e1 f2 M0 M0 M0).mono (fun _ _ h=>LookP.or h)) ?_
 rintro e W6 bb
 rcases bb with ⟨hz,a4,b4,k4,n4,c4,v4,m4,d4,ty,x,rfl,y1,c3,x0,bm⟩|⟨hz,kp,kc,vp,vc,rfl,y1,c3,x0,hk,v7⟩
 ·refine xa 3 [V0 0,.bool false,S0,S0] 181 fun b7 W7 n7=>?_
  have o7:=hB.trans y1
  have g7:=n7.ge0 o7
  refine xsv 0 n7.blk [V0 a4,.bool b4,.slice k4 n4 c4,.slice v4 m4 d4] fun W8 u8 k8=>?_
  have d2:(Xd l tree fuel (d+1) way no lo hi s)=Jb way [no] (Qc l way no tree lo hi s.deep) { s with looked:=s.looked+1 }:=by unfold Xd;rw[if_neg M0,if_pos hz]
  have s6:=u8.below (blB o7 hBw n7.below) (N0 hBw g7)
  have q6:=u8.blkT (x0.below n7.below) n7.blk Do
  have s7:=u8.own2 (Zb (Zi (Zb (Zb f1 n1.below) (Za W1)) c3 Do) n7.below) n7.blk Do
  have h4:=u8.own2 (Zb (Zi e1 c3 Do) n7.below) n7.blk Do
  have o0:=(bm.below n7.below).upd u8 n7.blk Do
  refine xc 15 (args:=#[P0 bw,.iface ty (x)]) (Dw B bw _ _ _ _ _ _ _ _ pf _ cf fv pw cw way [no] (Qc l way no tree lo hi s.deep) _ _ _ hBb (N0 hBw s6.size) q6 s7 h4 o0 M0 (by have:=hf;rw[d2] at this;simp[Jb] at this;omega)) ?_
  rintro _ W9 ⟨u9,v2,u7,t2,x2,rfl,bk,l4,kN,j3,z3⟩
  have y9:=s6.trans bk
  have hO:=(Ze.upd_new ((((show Ze [306,132,3,28] w _ from(Q0 n1.below)).trans (Q0 (Za W1))).trans (Zxz c3)).trans (Q0 n7.below)) u8 g7).trans (Zjj l4)
  have r2:=Zi (u8.own2 (Zb (Zi (Zb (Zb e8 n1.below) (Za W1)) c3 Do) n7.below) n7.blk Do) l4 Do
  have m8:=Zi (u8.own2 (Zb (Zi (Zb (Zb f0 n1.below) (Za W1)) c3 Do) n7.below) n7.blk Do) l4 Do
  have q5:=(((((e9.below n1.below).below (Za W1)).only c3 Do).below n7.below).only (Q1 (T:=[181]) u8 n7.blk Do) Do).only l4 Do
  have m2:=Zi h4 l4 Do
  have aa:=(((f2.only c3 Do).below n7.below).only (Q1 (T:=[181]) u8 n7.blk Do) Do).only l4 Do
  refine xe 4 (.tuple #[]) ?_
  rw[d2]
  exact⟨_,pe,pb,v2,pw,ce,cb,u7,cw,_,rfl,y9,hO,by simpa [Jb] using kN,r2,m8,by simpa [Jb] using j3,Uq.snoc z3 q5,m2,d0,aa⟩
 have y2:=(blB (blB (Below.refl B w) hBw n1.below) hBw (Za W1)).size
 have i6:=Zf hk y2
 have i7:=Po.of_lt z9 i6 (At _)
 have j5:=Po.of_lt x8 i6 (At _)
 refine xa 3 [V0 0,.bool false,S0,S0] 181 fun ai cp a7=>?_
 have s5:=hB.trans y1
 have y6:=a7.ge0 s5
 refine xsv 0 a7.blk [V0 (Qy (inB l no)),.bool (Yj (inB l no)),.slice kp (Xb (inB l no)) kc,.slice vp (Xb (inB l no)) vc] fun cj c8 au=>?_
 have h8:=c8.blkT (x0.below a7.below) a7.blk Do
 refine xb 20 1 h8 ?_
 refine xbs 1 1 [V0 no] 3 fun ap bx b8=>?_
 have o3:=c8.below (blB s5 hBw a7.below) (N0 hBw y6)
 have cs:=b8.ge0 o3
 have h6:=c8.own2 (Zb (Zi (Zb (Zb f0 n1.below) (Za W1)) c3 Do) a7.below) a7.blk Do
 have v5:=Zu h6 b8
 have h7:=c8.own2 (Zb (Zi e1 c3 Do) a7.below) a7.blk Do
 have v1:=Zu h7 b8
 have o2:=c8.own2 (Zb i6 a7.below) a7.blk Do
 have x4:=Zu o2 b8
 have a1:=Zb h6 b8.below
 have j2:=blB o3 hBw b8.below
 refine xbi 0 fun _ _ _ _ zJ zQ zo zx zy zK=>Fa (b:=ap) (c:=1) (m:=1) (news:=[V0 no]) (V0 0) 1 8 ((s.bs++[no]).length) (((s.bs++[no]).map V0)) zo Tryz.underlying34 K0 rfl Do zx a1 zy b8.blk rfl (by simp[Value.oneCell']) (by unfold maxLen;omega) M0 (N0 hBw j2.size) (by simp) (by simp) fun s0 n0 bu al a6 p6 o6=>?_
 have i0:=Zb h7 b8.below
 have g0:=d0.row i0 a6
 replace d0:=(d0.grow i0 o6)
 have r1:=Zb o2 b8.below
 have i9:=i7.row r1 a6
 replace i7:=(i7.grow r1 o6)
 have e5:=g0
 have h0:=i9
 refine zK _ _ ?_
 have a0:=(h8.below b8.below).grown a6 a1 Do
 refine xs 3 a0 [.slice pe s.es.length ce,.slice s0 ((s.bs++[no]).length) n0,V0 s.deep,V0 ((s.looked:Int)+1),.slice pf s.fs.length cf,P0 b,V0 tree,V0 fuel,.slice pw way.length cw,.bool s.dry] fun cr c0 w3=>?_
 have e3:=c0.blkT ((au.below b8.below).grown a6 a1 Do) a0 Do
 refine xb 6 1 e3 ?_
 refine xi 2 (Yj (inB l no)) (fun y8=>?_) (fun y8=>?_)
 ·refine xlv 4 e3.rp ?_
  have d2:(Xd l tree fuel (d+1) way no lo hi s)={ s with looked:=s.looked+1,bs:=s.bs++[no],deep:=((way.length+1:Nat):Int),es:=s.es++Pg (Ha l no) (Uf l no) no (Xb (inB l no)) }:=by unfold Xd;rw[if_neg M0,if_neg M0,if_pos (by assumption)]
  have s8:=c0.below (j2.trans p6) hBb
  have q9:=c0.own2 (Xe (Zb (c8.own2 (Zb (Zi (Zb (Zb e8 n1.below) (Za W1)) c3 Do) a7.below) a7.blk Do) b8.below) a6 a1 Do) a0 Do
  have x5:=c0.own2 h0 a0 Do
  have m5:=c0.own2 (Xe (Zb (c8.own2 (Zb (Zf v7 y2) a7.below) a7.blk Do) b8.below) a6 a1 Do) a0 Do
  refine xc 0 (args:=#[P0 bw,V0 no,.agg #[V0 (Qy (inB l no)),.bool (Yj (inB l no)),.slice kp (Xb (inB l no)) kc,.slice vp (Xb (inB l no)) vc]]) (Zi9 B bw _ _ _ _ _ _ _ _ pe ce s.es pw cw way no _ _ kp vp _ kc vc (Ha l no) (Uf l no) _ hBb (N0 hBw s8.size) w3 q9 (fun W _ q=>Zg (Zi x5 q Do)) (fun W _ q=>Zg (Zi m5 q Do)) (by simp[Ha,Hh]) (by simp[Uf,Nk]) M0 (by have:=he;rw[d2] at this;simp[Rc] at this;omega)) ?_
  rintro _ bo ⟨br,bf,bn,rfl,z2,d6,kE,ax⟩
  have z0:=s8.trans z2
  have hO:=((((Ze.upd_new ((((show Ze [306,132,3,28] w _ from(Q0 n1.below)).trans (Q0 (Za W1))).trans (Zxz c3)).trans (Q0 a7.below)) c8 y6).trans (Q0 b8.below)).trans (Q4 a6 a1 Do)).trans (Q1 c0 a0 Do)).trans (only_le d6)
  have q1:=Zi (c0.own2 al a0 Do) d6 Do
  have t4:=Zi (c0.own2 (Xe (Zb (c8.own2 (Zb (Zi (Zb (Zb f1 n1.below) (Za W1)) c3 Do) a7.below) a7.blk Do) b8.below) a6 a1 Do) a0 Do) d6 Do
  have m3:=((((((((e9.below n1.below).below (Za W1)).only c3 Do).below a7.below).only (Q1 (T:=[181]) c8 a7.blk Do) Do).below b8.below).only (Q4 (T:=[3]) a6 a1 Do) Do).only (Q1 (T:=[306]) c0 a0 Do) Do).only d6 Do
  have p7:=Zi (c0.own2 e5 a0 Do) d6 Do
  have w0:=((((((f2.only c3 Do).below a7.below).only (Q1 (T:=[181]) c8 a7.blk Do) Do).below b8.below).only (Q4 (T:=[3]) a6 a1 Do) Do).only (Q1 (T:=[306]) c0 a0 Do) Do).only d6 Do
  refine xe 4 (.tuple #[]) ?_
  rw[d2]
  exact⟨_,bf,_,pf,pw,bn,_,cf,cw,fv,rfl,z0,hO,by simpa [Rc] using kE,by simpa [Rc] using ax,by simpa using q1,t4,m3,p7,by simpa using d0,w0⟩
 refine xb 8 8 w3 ?_
 refine xbs 1 1 [V0 no] 3 fun bg cq c7=>?_
 have i1:=c0.below (j2.trans p6) hBb
 have ch:=c7.ge0 i1
 have h2:=c0.own2 e5 a0 Do
 have u1:=Zu h2 c7
 have s4:=c0.own2 h0 a0 Do
 have x1:=Zu s4 c7
 have g9:=c0.own2 al a0 Do
 have u2:=Zu g9 c7
 have a2:=Zb h2 c7.below
 have h9:=blB i1 hBw c7.below
 refine xbi 0 fun _ _ _ _ zJ zQ zo zx zy zK=>Fa (b:=bg) (c:=1) (m:=1) (news:=[V0 no]) (V0 0) 1 8 ((way++[no]).length) (((way++[no]).map V0)) zo Tryz.underlying34 K0 rfl Do zx a2 zy c7.blk rfl (by simp[Value.oneCell']) (by unfold maxLen;omega) M0 (N0 hBw h9.size) (by simp) (by simp) fun w2 v8 bp aq b9 x9 m6=>?_
 have h3:=Zb g9 c7.below
 have g1:=d0.symm.row h3 b9
 replace d0:=(d0.symm.grow h3 m6).symm
 have l9:=Zb s4 c7.below
 have j0:=j5.row l9 b9
 replace j5:=(j5.grow l9 m6)
 have j4:=g1
 have p3:=j0
 refine zK _ _ ?_
 have a3:=(w3.below c7.below).grown b9 a2 Do
 refine xs 2 a3 [.slice pe s.es.length ce,.slice s0 ((s.bs++[no]).length) n0,V0 s.deep,V0 ((s.looked:Int)+1),.slice pf s.fs.length cf,P0 b,V0 tree,V0 fuel,.slice w2 ((way++[no]).length) v8,.bool s.dry] fun bz d9 av=>?_
 have r9:=d9.blkT (((c0.blkT (((c8.blkT ((k1.only c3 Do).below a7.below) a7.blk Do).below b8.below).grown a6 a1 Do) a0 Do).below c7.below).grown b9 a2 Do) a3 Do
 refine xlv 5 r9.rp ?_
 have h5:=d9.blkT ((e3.below c7.below).grown b9 a2 Do) a3 Do
 refine xb 1 2 h5 ?_
 have h1:=d9.below (h9.trans x9) hBb
 have x7:=h1.size
 obtain⟨z6,aw⟩:=Zti hz
 have t7:(Ha l no).length=Xb (inB l no):=by simp[Ha,Hh]
 have cm:Xb (inB l no)<65536:=On _ 2 2
 have y7:=d9.own2 p3 a3 Do
 refine xc 0 (args:=#[.agg #[V0 lo,V0 hi],.slice kp (Xb (inB l no)) kc]) (Zi1 lo hi _ (Ha l no) _ (by rw[t7];omega) (Zef (Zg y7) t7)) ?_
 rintro _ bd ⟨co,rfl,b6,_,v9⟩
 obtain⟨gs,rfl,ar,kS⟩:=v9 z6
 rw[t7]
 have l3:=Yd (size:=2) (n:=Xb (inB l no)) kS (N0 x7 ar) (by rw[Ab,Zd0,t7]) (by unfold maxLen;omega)
 have d2:(Xd l tree fuel (d+1) way no lo hi s)=(Qm (Xd l tree fuel d) l way no hi (Xb (inB l no)) { s with looked:=s.looked+1,bs:=s.bs++[no] }):=by unfold Xd;rw[if_neg M0,if_neg M0,if_neg (by simp;assumption)]
 have p8:(Kg hi (Ha l no)).length=(Xb (inB l no)):=by rw[Zd0,t7]
 have ad:(Uf l no).length=(Xb (inB l no)):=by simp[Uf,Nk]
 have r4:=av.below b6
 have l5:=Zb (d9.own2 (Xe (Zb (c0.own2 (Xe (Zb (c8.own2 (Zb (Zi (Zb (Zb e8 n1.below) (Za W1)) c3 Do) a7.below) a7.blk Do) b8.below) a6 a1 Do) a0 Do) c7.below) b9 a2 Do) a3 Do) b6
 have n8:=Zb (d9.own2 j4 a3 Do) b6
 have l7:=Zb (d9.own2 (Xe (Zb (c0.own2 (Xe (Zb (c8.own2 (Zb (Zi (Zb (Zb f1 n1.below) (Za W1)) c3 Do) a7.below) a7.blk Do) b8.below) a6 a1 Do) a0 Do) c7.below) b9 a2 Do) a3 Do) b6
 have r7:=(((((((((((e9.below n1.below).below (Za W1)).only c3 Do).below a7.below).only (Q1 (T:=[181]) c8 a7.blk Do) Do).below b8.below).only (Q4 (T:=[3]) a6 a1 Do) Do).only (Q1 (T:=[306]) c0 a0 Do) Do).below c7.below).only (Q4 (T:=[3]) b9 a2 Do) Do).only (Q1 (T:=[306]) d9 a3 Do) Do).below b6
 have t5:=Zb (d9.own2 aq a3 Do) b6
 have ab:=(((((((((f2.only c3 Do).below a7.below).only (Q1 (T:=[181]) c8 a7.blk Do) Do).below b8.below).only (Q4 (T:=[3]) a6 a1 Do) Do).only (Q1 (T:=[306]) c0 a0 Do) Do).below c7.below).only (Q4 (T:=[3]) b9 a2 Do) Do).only (Q1 (T:=[306]) d9 a3 Do) Do).below b6
 have hR:WalkR B bw Bi b pi ni ci l tree fuel (way++[no]) (Qm (Xd l tree fuel d) l way no hi 0 { s with looked:=s.looked+1,bs:=s.bs++[no] }) pe _ pf _ ce _ cf _ fv bd:=⟨r4,l5,n8,l7,r7,t5,d0,ab⟩
 have q2:=Zb (d9.own2 (Xe (Zb (c0.own2 (Xe (Zb (c8.own2 (Zb (Zf v7 y2) a7.below) a7.blk Do) b8.below) a6 a1 Do) a0 Do) c7.below) b9 a2 Do) a3 Do) b6
 have r5:=blB h1 hBw b6
 have hO:=(((((((Ze.upd_new ((((show Ze [306,132,3,28] w _ from(Q0 n1.below)).trans (Q0 (Za W1))).trans (Zxz c3)).trans (Q0 a7.below)) c8 y6).trans (Q0 b8.below)).trans (Q4 a6 a1 Do)).trans (Q1 c0 a0 Do)).trans (Q0 c7.below)).trans (Q4 b9 a2 Do)).trans (Q1 d9 a3 Do)).trans (Q0 b6)
 have w5:=r9.below b6
 have n3:=h5.below b6
 refine zl 5 106 (fun zm az V=>∃ (i:Nat) (k2 i3 i5 f4:O0) (i2 j1 j9 f5:Nat) (o9:List Value),az=[(0,P0 bw),(1,V0 no),(6,P0 ai),(71,.slice (S1 gs) (Xb (inB l no)) (Xb (inB l no))),(72,V0 (↑(Xb (inB l no)):Int)),(73,V0 (i:Int))]∧zm=(Xb (inB l no))-((i:Int)).toNat∧Below B w V∧Ze [306,132,3,28] w V∧Blk V b1 ([V0 lo,V0 hi]) 309∧Blk V ai ([V0 (Qy (inB l no)),.bool (Yj (inB l no)),.slice kp (Xb (inB l no)) kc,.slice vp (Xb (inB l no)) vc]) 181∧WalkR B bw Bi b pi ni ci l tree fuel (way++[no]) (Qm (Xd l tree fuel d) l way no hi i { s with looked:=s.looked+1,bs:=s.bs++[no] }) k2 i3 i5 f4 i2 j1 j9 f5 o9 V∧V.ownsRow w.heap.size 9 1 (.slice vp (Xb (inB l no)) vc) (Xb (inB l no)) ((Uf l no).map sv)∧V.ownsRow w.heap.size 309 2 (.slice (S1 gs) (Xb (inB l no)) (Xb (inB l no))) (Xb (inB l no)) (Cc (Kg hi (Ha l no)))∧i≤(Xb (inB l no))∧(Qm (Xd l tree fuel d) l way no hi i { s with looked:=s.looked+1,bs:=s.bs++[no] }).dry=false) ⟨0,_,_,_,_,_,_,_,_,_,rfl,rfl,r5,hO,w5,n3,hR,q2,l3,A3 _,hdry⟩ ?_
 rintro _ _ c2 ⟨i,k2,i3,i5,f4,i2,j1,j9,f5,o9,rfl,rfl,d5,c9,b3,c6,hR,v7,l3,cc,ak⟩ ck z5 cn
 have j7:=hR.blk
 refine xid 6 ((i:Int)<(↑(Xb (inB l no)):Int)) (fun x6=>?_) (fun x6=>?_)
 ·refine xx 7 _ (Xb (inB l no)) i 2 (Sts.cell (sts_sp (Zg l3) p8) Zxc (0,0) (k:=i) (i:=0) (show i<(Kg hi (Ha l no)).length by omega) rfl).1 ?_
  refine xlv 0 (Sts.rp (k:=i) (sts_sp (Zg l3) p8) Zxc (0,0) M0 Do) ?_
  refine xa 0 [V0 0,V0 0] 309 fun cu bt c5=>?_
  have d1:=c5.ne b3
  have v3:=c5.ge0 d5
  have f3:=Zu l3 c5
  refine xsv 1 c5.blk [V0 (((Kg hi (Ha l no)).getD i (0,0)).1),V0 (((Kg hi (Ha l no)).getD i (0,0)).2)] fun d8 e0 ay=>?_
  refine xd 3 (.t B [306,132,3,28]) ?_
  have b2:=(e0.blkT (c6.below c5.below) c5.blk Do).below (Za d8)
  refine xbt (.e [0,1,2] 3) 3 B [306,132,3,28] b2 ?_
  have e2:=Zb (e0.own2 (Zb v7 c5.below) c5.blk Do) (Za d8)
  refine xx (.e [4] 5) _ (Xb (inB l no)) i 1 (Strs.elem (Zg e2) ad (k:=i) M0).1 ?_
  refine xlt (.e [] 6) (.t B [306,132,3,28]) (fun V hV=>(Strs.elem (Zg (Zi e2 hV.2 Do)) ad (k:=i) M0).2) ?_
  have s3:=ay.below (Za d8)
  refine Zun (.e [] 7) (.t B [306,132,3,28]) (fun V hV=>(s3.only hV.2 Do).rp) ?_
  have bh:=Zph hi (Ha l no) (i:=i) M0
  have g3:Um (Xd l tree fuel d) way no ((Uf l no).getD i []) (((Kg hi (Ha l no)).getD i (0,0)).1,((Kg hi (Ha l no)).getD i (0,0)).2) (Qm (Xd l tree fuel d) l way no hi i { s with looked:=s.looked+1,bs:=s.bs++[no] })=(Qm (Xd l tree fuel d) l way no hi (i+1) { s with looked:=s.looked+1,bs:=s.bs++[no] }):=by rw[Nr];unfold Ek;rw[if_neg (by rw[ak];decide),bh]
  have z8:=Zdc (Dx l tree fuel d) l way no hi { s with looked:=s.looked+1,bs:=s.bs++[no] } (show i+1≤(Xb (inB l no)) by omega)
  rw[d2] at he hb_ hf
  have d3:=blB (e0.below (blB d5 hBw c5.below) (N0 hBw v3)) hBw (Za d8)
  have w6:=((hR.below c5.below).only (Q1 (T:=[309]) e0 c5.blk Do) Do).below (Za d8)
  refine yc (.o [] 8) (.t B [306,132,3,28]) (Zg7 B bw Bi b pi ni ci l tree fuel d (hV M0) way no _ _ ((Uf l no).getD i []) _ k2 i3 i5 f4 i2 j1 j9 f5 o9 _ hBb (N0 hBw d3.size) M0 ak (Ea _ _ _) w6 (by rw[g3];exact N0 z8.1 he) (by rw[g3];exact N0 z8.2.1 hb_) (by rw[g3];exact N0 z8.2.2 hf)) ?_
  rintro _ c1 ⟨cl,u6,v6,u0,l2,v0,t8,u3,k6,af,rfl,g5,b5,t9⟩
  have ao:=(e0.blkT (j7.below c5.below) c5.blk Do).below (Za d8)
  refine⟨(Ux g5 b5),?_⟩
  rw[g3] at t9
  have j7:=t9.blk
  refine xb 7 9 j7 ?_
  refine xi 2 ((Qm (Xd l tree fuel d) l way no hi (i+1) { s with looked:=s.looked+1,bs:=s.bs++[no] }).dry) (fun q0=>?_) (fun q0=>?_)
  ·obtain⟨_,e8,f0,f1,e9,e7,d0,hI⟩:=t9
   have ba:=(Ew e7 (by simp)).2
   have bj:(way++[no]).length=way.length+1:=by simp
   have e4:(Qm (Xd l tree fuel d) l way no hi (Xb (inB l no)) { s with looked:=s.looked+1,bs:=s.bs++[no] })=(Qm (Xd l tree fuel d) l way no hi (i+1) { s with looked:=s.looked+1,bs:=s.bs++[no] }):=Zt7 _ _ _ _ _ _ M0 q0
   refine xd 6 (.t B [306]) ?_
   refine xm2 (.b [0,1,2,3,5,6,7]) 4 8 ?_ ?_
   ·have a8:=j7.below (Za c1)
    refine xb 0 8 a8 ?_
    refine xb (.o [] 8) 8 a8 ?_
    refine xwm (.e [9] 10) ((↑((way++[no]).length):Int)-1) (↑(((way++[no]).length)-1):Int) ?_
    refine xsH (.e [] 11) (fun _ _ _ _ zo zx zy V=>Kb (k:=(((way++[no]).length)-1)) (b:=l2) (n:=(way++[no]).length) (c:=k6) (i:=(↑(((way++[no]).length)-1):Int)) (ki:=.i64) zo zx zy rfl M0 Tryz.underlying34 K0 V) ?_
    refine ys (.o [12,13] 14) a8 [.slice u6 ((Qm (Xd l tree fuel d) l way no hi (i+1) { s with looked:=s.looked+1,bs:=s.bs++[no] }).es.length) v0,.slice v6 ((Qm (Xd l tree fuel d) l way no hi (i+1) { s with looked:=s.looked+1,bs:=s.bs++[no] }).bs.length) t8,V0 (Qm (Xd l tree fuel d) l way no hi (i+1) { s with looked:=s.looked+1,bs:=s.bs++[no] }).deep,V0 ((Qm (Xd l tree fuel d) l way no hi (i+1) { s with looked:=s.looked+1,bs:=s.bs++[no] }).looked:Int),.slice u0 ((Qm (Xd l tree fuel d) l way no hi (i+1) { s with looked:=s.looked+1,bs:=s.bs++[no] }).fs.length) u3,P0 b,V0 tree,V0 fuel,.slice l2 (((way++[no]).length)-1) k6,.bool ((Qm (Xd l tree fuel d) l way no hi (i+1) { s with looked:=s.looked+1,bs:=s.bs++[no] }).dry)] (.t B [306]) fun cd g6 ag=>⟨(Zt g6 a8 hBb Do),?_⟩
    have o1:=(((e0.blk (b3.below c5.below) d1).below (Za d8)).only b5 Do).below (Za c1)
    have l0:=(b2.only b5 Do).below (Za c1)
    have o8:=g6.below (blB (d3.trans g5) hBw (Za c1)) hBb
    have y0:=((((Ze.upd_new (c9.trans (Q0 c5.below)) e0 v3).trans (Q0 (Za d8))).trans b5).trans (Q0 (Za c1))).trans (Q1 g6 a8 Do)
    have p2:=g6.own2 (Zb e8 (Za c1)) a8 Do
    have t0:=g6.own2 (Zb f0 (Za c1)) a8 Do
    have s1:=g6.own2 (Zb f1 (Za c1)) a8 Do
    have q4:=(e9.below (Za c1)).only (Q1 (T:=[306]) g6 a8 Do) Do
    have j8:=g6.own2 (Zb e7 (Za c1)) a8 Do
    have w8:=(hI.below (Za c1)).only (Q1 (T:=[306]) g6 a8 Do) Do
    refine xe 1 (.tuple #[]) ?_
    rw[d2,e4]
    rw[show(way++[no]).length-1=way.length by simp] at ag
    exact⟨_,u6,v6,u0,l2,v0,t8,u3,k6,af,rfl,o8,y0,ag,p2,t0,s1,q4,Zbf j8,d0.len _ _ _ _,w8⟩
   have a5:=j7.below (Za c1)
   refine xb 0 8 a5 ?_
   refine xwm (.e [9] 10) ((↑((way++[no]).length):Int)-1) (↑(((way++[no]).length)-1):Int) ?_
   refine xb (.o [] 4) 8 a5 ?_
   refine xsH (.e [] 11) (fun _ _ _ _ zo zx zy V=>Kb (k:=(((way++[no]).length)-1)) (b:=l2) (n:=(way++[no]).length) (c:=k6) (i:=(↑(((way++[no]).length)-1):Int)) (ki:=.i64) zo zx zy rfl M0 Tryz.underlying34 K0 V) ?_
   refine ys (.o [12,13] 14) a5 [.slice u6 ((Qm (Xd l tree fuel d) l way no hi (i+1) { s with looked:=s.looked+1,bs:=s.bs++[no] }).es.length) v0,.slice v6 ((Qm (Xd l tree fuel d) l way no hi (i+1) { s with looked:=s.looked+1,bs:=s.bs++[no] }).bs.length) t8,V0 (Qm (Xd l tree fuel d) l way no hi (i+1) { s with looked:=s.looked+1,bs:=s.bs++[no] }).deep,V0 ((Qm (Xd l tree fuel d) l way no hi (i+1) { s with looked:=s.looked+1,bs:=s.bs++[no] }).looked:Int),.slice u0 ((Qm (Xd l tree fuel d) l way no hi (i+1) { s with looked:=s.looked+1,bs:=s.bs++[no] }).fs.length) u3,P0 b,V0 tree,V0 fuel,.slice l2 (((way++[no]).length)-1) k6,.bool ((Qm (Xd l tree fuel d) l way no hi (i+1) { s with looked:=s.looked+1,bs:=s.bs++[no] }).dry)] (.t B [306]) fun cg g2 ah=>⟨(Zt g2 a5 hBb Do),?_⟩
   have r8:=(((e0.blk (b3.below c5.below) d1).below (Za d8)).only b5 Do).below (Za c1)
   have k3:=(b2.only b5 Do).below (Za c1)
   have l8:=g2.below (blB (d3.trans g5) hBw (Za c1)) hBb
   have z4:=((((Ze.upd_new (c9.trans (Q0 c5.below)) e0 v3).trans (Q0 (Za d8))).trans b5).trans (Q0 (Za c1))).trans (Q1 g2 a5 Do)
   have m1:=g2.own2 (Zb e8 (Za c1)) a5 Do
   have q3:=g2.own2 (Zb f0 (Za c1)) a5 Do
   have s2:=g2.own2 (Zb f1 (Za c1)) a5 Do
   have t6:=(e9.below (Za c1)).only (Q1 (T:=[306]) g2 a5 Do) Do
   have k0:=g2.own2 (Zb e7 (Za c1)) a5 Do
   have y4:=(hI.below (Za c1)).only (Q1 (T:=[306]) g2 a5 Do) Do
   refine xe 1 (.tuple #[]) ?_
   rw[d2,e4]
   rw[show(way++[no]).length-1=way.length by simp] at ah
   exact⟨_,u6,v6,u0,l2,v0,t8,u3,k6,af,rfl,l8,z4,ah,m1,q3,s2,t6,Zbf k0,d0.len _ _ _ _,y4⟩
  refine xwm 4 ((i:Int)+1) (↑(i+1):Int) ?_
  have q8:=d3.trans g5
  have y3:=((Ze.upd_new (c9.trans (Q0 c5.below)) e0 v3).trans (Q0 (Za d8))).trans b5
  have e6:=((e0.blk (b3.below c5.below) d1).below (Za d8)).only b5 Do
  have d7:=b2.only b5 Do
  have p0:=Zi e2 b5 Do
  have p4:=Zi (Zb (e0.own3 (Zb l3 c5.below) f3) (Za d8)) b5 Do
  exact ze 2 (z5 _ _ _ ⟨i+1,_,_,_,_,_,_,_,_,_,rfl,rfl,q8,y3,e6,d7,t9,p0,p4,by omega,by assumption⟩ M0)
 obtain⟨_,e8,f0,f1,e9,e7,d0,hI⟩:=hR
 have ba:=(Ew e7 (by simp)).2
 have bj:(way++[no]).length=way.length+1:=by simp
 have e4:(Qm (Xd l tree fuel d) l way no hi (Xb (inB l no)) { s with looked:=s.looked+1,bs:=s.bs++[no] })=(Qm (Xd l tree fuel d) l way no hi i { s with looked:=s.looked+1,bs:=s.bs++[no] }):=by rw[show i=(Xb (inB l no)) by omega]
 refine xd 5 (.t B [306]) ?_
 refine xm2 (.b [0,1,2,3,5,6,7]) 4 8 ?_ ?_
 ·have a9:=j7.below (Za c2)
  refine xb 0 8 a9 ?_
  refine xb (.o [] 8) 8 a9 ?_
  refine xwm (.e [9] 10) ((↑((way++[no]).length):Int)-1) (↑(((way++[no]).length)-1):Int) ?_
  refine xsH (.e [] 11) (fun _ _ _ _ zo zx zy V=>Kb (k:=(((way++[no]).length)-1)) (b:=f4) (n:=(way++[no]).length) (c:=f5) (i:=(↑(((way++[no]).length)-1):Int)) (ki:=.i64) zo zx zy rfl M0 Tryz.underlying34 K0 V) ?_
  refine ys (.o [12,13] 14) a9 [.slice k2 ((Qm (Xd l tree fuel d) l way no hi i { s with looked:=s.looked+1,bs:=s.bs++[no] }).es.length) i2,.slice i3 ((Qm (Xd l tree fuel d) l way no hi i { s with looked:=s.looked+1,bs:=s.bs++[no] }).bs.length) j1,V0 (Qm (Xd l tree fuel d) l way no hi i { s with looked:=s.looked+1,bs:=s.bs++[no] }).deep,V0 ((Qm (Xd l tree fuel d) l way no hi i { s with looked:=s.looked+1,bs:=s.bs++[no] }).looked:Int),.slice i5 ((Qm (Xd l tree fuel d) l way no hi i { s with looked:=s.looked+1,bs:=s.bs++[no] }).fs.length) j9,P0 b,V0 tree,V0 fuel,.slice f4 (((way++[no]).length)-1) f5,.bool ((Qm (Xd l tree fuel d) l way no hi i { s with looked:=s.looked+1,bs:=s.bs++[no] }).dry)] (.t B [306]) fun ct f9 ae=>⟨(Zt f9 a9 hBb Do),?_⟩
  have n5:=b3.below (Za c2)
  have k7:=c6.below (Za c2)
  have p5:=f9.below (blB d5 hBw (Za c2)) hBb
  have w7:=(c9.trans (Q0 (Za c2))).trans (Q1 f9 a9 Do)
  have l6:=f9.own2 (Zb e8 (Za c2)) a9 Do
  have s9:=f9.own2 (Zb f0 (Za c2)) a9 Do
  have p1:=f9.own2 (Zb f1 (Za c2)) a9 Do
  have n9:=(e9.below (Za c2)).only (Q1 (T:=[306]) f9 a9 Do) Do
  have j6:=f9.own2 (Zb e7 (Za c2)) a9 Do
  have w9:=(hI.below (Za c2)).only (Q1 (T:=[306]) f9 a9 Do) Do
  refine xe 1 (.tuple #[]) ?_
  rw[d2,e4]
  rw[show(way++[no]).length-1=way.length by simp] at ae
  exact⟨_,k2,i3,i5,f4,i2,j1,j9,f5,o9,rfl,p5,w7,ae,l6,s9,p1,n9,Zbf j6,d0.len _ _ _ _,w9⟩
 have b0:=j7.below (Za c2)
 refine xb 0 8 b0 ?_
 refine xwm (.e [9] 10) ((↑((way++[no]).length):Int)-1) (↑(((way++[no]).length)-1):Int) ?_
 refine xb (.o [] 4) 8 b0 ?_
 refine xsH (.e [] 11) (fun _ _ _ _ zo zx zy V=>Kb (k:=(((way++[no]).length)-1)) (b:=f4) (n:=(way++[no]).length) (c:=f5) (i:=(↑(((way++[no]).length)-1):Int)) (ki:=.i64) zo zx zy rfl M0 Tryz.underlying34 K0 V) ?_
 refine ys (.o [12,13] 14) b0 [.slice k2 ((Qm (Xd l tree fuel d) l way no hi i { s with looked:=s.looked+1,bs:=s.bs++[no] }).es.length) i2,.slice i3 ((Qm (Xd l tree fuel d) l way no hi i { s with looked:=s.looked+1,bs:=s.bs++[no] }).bs.length) j1,V0 (Qm (Xd l tree fuel d) l way no hi i { s with looked:=s.looked+1,bs:=s.bs++[no] }).deep,V0 ((Qm (Xd l tree fuel d) l way no hi i { s with looked:=s.looked+1,bs:=s.bs++[no] }).looked:Int),.slice i5 ((Qm (Xd l tree fuel d) l way no hi i { s with looked:=s.looked+1,bs:=s.bs++[no] }).fs.length) j9,P0 b,V0 tree,V0 fuel,.slice f4 (((way++[no]).length)-1) f5,.bool ((Qm (Xd l tree fuel d) l way no hi i { s with looked:=s.looked+1,bs:=s.bs++[no] }).dry)] (.t B [306]) fun bq f7 aj=>⟨(Zt f7 b0 hBb Do),?_⟩
 have r6:=b3.below (Za c2)
 have l1:=c6.below (Za c2)
 have o5:=f7.below (blB d5 hBw (Za c2)) hBb
 have ac:=(c9.trans (Q0 (Za c2))).trans (Q1 f7 b0 Do)
 have p9:=f7.own2 (Zb e8 (Za c2)) b0 Do
 have q7:=f7.own2 (Zb f0 (Za c2)) b0 Do
 have o4:=f7.own2 (Zb f1 (Za c2)) b0 Do
 have t1:=(e9.below (Za c2)).only (Q1 (T:=[306]) f7 b0 Do) Do
 have i4:=f7.own2 (Zb e7 (Za c2)) b0 Do
 have y5:=(hI.below (Za c2)).only (Q1 (T:=[306]) f7 b0 Do) Do
 refine xe 1 (.tuple #[]) ?_
 rw[d2,e4]
 rw[show(way++[no]).length-1=way.length by simp] at aj
 exact⟨_,k2,i3,i5,f4,i2,j1,j9,f5,o9,rfl,o5,ac,aj,p9,q7,o4,t1,Zbf i4,d0.len _ _ _ _,y5⟩
end Go.Proofs.YtceeiinepijokaaGreatDoor
namespace Go.Proofs.YtceeiinepijokaaGreatDoor
set_option maxHeartbeats 8000000
set_option maxRecDepth 100000
open Go.RowKit Go.Extern.Stop Go.Stop Go.Extern
set_option linter.unusedVariables false
theorem Oh{V:List Int→Int→Int→Int→WS→WS}{l:Bl}{way:List Int}{no hi:Int}{s:WS}(P:Nat→WS→Prop)(h0:P 0 s) :
  ∀ n,(∀ i t,i<n→t.dry=false→P i t→P (i+1) (Um V way no ((Uf l no).getD i []) (Ye hi (Ha l no) i) t))→(∀ i t,i<n→t.dry=true→P i t→P (i+1) t)→P n (Qm V l way no hi n s)
 | 0,_,_=>h0
 | n+1,hs,hd=>by
  have ih:=Oh P h0 n (fun i t hi=>hs i t M0) (fun i t hi=>hd i t M0)
  rw[Nr]
  unfold Ek
  split
  ·rename_i h;exact hd n _ M0 h ih
  ·rename_i h;exact hs n _ M0 (by simpa using h) ih
theorem rootE_no(v:Bl):Qn v=0∨Qn v=2∨Qn v=7:=by
 unfold Qn;split
 ·split<;>simp
 ·simp
theorem Zdq(l:Bl):∀ n,Vg l n=0∨Vg l n=2∨Vg l n=8
 | 0=>.inl rfl
 | n+1=>by
  rw[Vg]
  split
  ·exact Zdq l n
  ·unfold Zfw;split
   ·simp
   ·split<;>simp
theorem Zrb(l:Bl)(no tree:Int):Yb l no tree≠12:=by
 unfold Yb
 split
 ·unfold Kk
  split
  ·split<;>decide
  ·unfold Uv
   split
   ·split
    ·rcases Zdq (inB l no) (Xb (inB l no)) with h|h|h<;>rw[h]<;>decide
    ·decide
   ·decide
 ·unfold inE
  split
  ·unfold Qv
   repeat' split
   all_goals decide
  ·decide
theorem lookE_no(l:Bl)(way:List Int)(no tree lo hi deep:Int):Qc l way no tree lo hi deep≠12:=by
 unfold Qc
 split
 ·decide
 ·split
  ·decide
  ·split
   ·exact Zrb _ _ _
   ·split
    ·decide
    ·split<;>decide
theorem Zxb(t:Int)(b:Bool):Zv6 t b≤18:=by
 unfold Zv6 Kh
 repeat' split
 all_goals omega
theorem Zav{l:Bl}(h:Uv l=0):Ot l=true:=by
 unfold Uv at h
 split at h
 ·assumption
 ·cases h
theorem Ee{l:Bl}{tree:Int}(h:Kk l tree=0):Uv l=0:=by
 unfold Kk at h
 split at h
 ·assumption
 ·assumption
theorem Rz{l:Bl}{no tree:Int}(h:Yb l no tree=0):inE l 2 no=0∧Kk (inB l no) tree=0:=by
 unfold Yb at h
 split at h
 ·exact⟨by assumption,h⟩
 ·rename_i q;exact absurd h q
theorem Zip{l:Bl}{way:List Int}{no tree lo hi deep:Int}(h:Qc l way no tree lo hi deep=0):Yb l no tree=0∧Jz lo hi (Ha l no)=0∧Xb (inB l no)≤18:=by
 unfold Qc at h
 split at h
 ·cases h
 ·split at h
  ·cases h
  ·split at h
   ·rename_i q;exact absurd h q
   ·rename_i q
    split at h
    ·cases h
    ·rename_i q2
     have q1:Yb l no tree=0:=Decidable.not_not.1 q
     exact⟨q1,Decidable.not_not.1 q2,N0 (Dq (Zav (Ee (Rz q1).2))) (Zxb _ _)⟩
theorem Fn{lo hi:Int}{L:List Int}(h:Jz lo hi L=0):Wx lo hi=true∧Ul L∧∀ k∈L,lo≤k∧k<hi:=by
 unfold Jz at h
 split at h
 ·split at h
  ·split at h
   ·exact⟨by assumption,by assumption,by assumption⟩
   ·cases h
  ·cases h
 ·cases h
def InBlk(l:Bl)(tree:Int)(x:Ent):Prop :=
 Yb l x.2.2 tree=0∧Yj (inB l x.2.2)=true∧∃ k,k<Xb (inB l x.2.2)∧(Ha l x.2.2).getD k 0=x.1∧(Uf l x.2.2).getD k []=x.2.1∧∀ j,j<k→(Ha l x.2.2).getD j 0≠x.1
def Ztd(lo hi:Int)(es:List Ent):Prop:=es.Pairwise (fun x y=>x.1<y.1)∧∀ x∈es,lo≤x.1∧x.1<hi
theorem Ztd.nil(lo hi:Int):Ztd lo hi []:=⟨.nil,fun _ h=>by cases h⟩
theorem Ztd.app{lo mi hi:Int}{a b:List Ent}(h:Ztd lo mi a)(k:Ztd mi hi b)(h1:lo≤mi)(h2:mi≤hi):Ztd lo hi (a++b):=by
 refine⟨List.pairwise_append.2 ⟨h.1,k.1,fun x hx y hy=>?_⟩,fun x hx=>?_⟩
 ·have:=(h.2 x hx).2;have:=(k.2 y hy).1;omega
 ·rcases List.mem_append.1 hx with q|q
  ·have:=h.2 x q;omega
  ·have:=k.2 x q;omega
structure Went(l:List UInt8)(tree fuel:Int)(hd:Option Int)(lo hi:Int)(s t:WS)(es:List Ent)(fs:List (List Int×Int)):Prop where
 esE:t.es=s.es++es
 fsE:t.fs=s.fs++fs
 rise:Ztd lo hi es
 inb:∀ x∈es,InBlk l tree x
 flt:∀ f∈fs,f.1.head? = hd∧f.1≠[]∧f.2≠0
 dry:t.dry=true↔s.dry=true∨∃ f∈fs,f.2=12
 fuelE:t.dry=true→s.dry=true∨fuel≤t.looked
 look:s.looked≤fuel.toNat→t.looked≤fuel.toNat
 more:s.looked≤t.looked
 blks:t.bs.length+s.looked≤s.bs.length+t.looked
theorem Went.refl(l:Bl)(tree fuel:Int)(hd:Option Int)(lo hi:Int)(s:WS):Went l tree fuel hd lo hi s s [] [] :=
 ⟨by simp,by simp,Ztd.nil _ _,by simp,by simp,by simp,fun h=>.inl h,fun h=>h,At _,At _⟩
theorem Went.trans{l:Bl}{tree fuel:Int}{hd:Option Int}{lo mi hi:Int}{s t u:WS}{es es2:List Ent}{fs fs2:List (List Int×Int)}(h:Went l tree fuel hd lo mi s t es fs)(k:Went l tree fuel hd mi hi t u es2 fs2)(h1:lo≤mi)(h2:mi≤hi) :
  Went l tree fuel hd lo hi s u (es++es2) (fs++fs2) where
 esE:=by rw[k.esE,h.esE,A1]
 fsE:=by rw[k.fsE,h.fsE,A1]
 rise:=h.rise.app k.rise h1 h2
 inb x hx:=by
  rcases List.mem_append.1 hx with q|q
  ·exact h.inb x q
  ·exact k.inb x q
 flt f hf:=by
  rcases List.mem_append.1 hf with q|q
  ·exact h.flt f q
  ·exact k.flt f q
 dry:=by
  rw[k.dry,h.dry]
  constructor
  ·rintro((q|⟨f,q1,q2⟩)|⟨f,q1,q2⟩)
   ·exact .inl q
   ·exact .inr ⟨f,Q6 _ q1,q2⟩
   ·exact .inr ⟨f,List.mem_append_right _ q1,q2⟩
  ·rintro(q|⟨f,q1,q2⟩)
   ·exact .inl (.inl q)
   ·rcases List.mem_append.1 q1 with q|q
    ·exact .inl (.inr ⟨f,q,q2⟩)
    ·exact .inr ⟨f,q,q2⟩
 fuelE h0:=by
  rcases k.fuelE h0 with q|q
  ·rcases h.fuelE q with q|q
   ·exact .inl q
   ·exact .inr (by have:=k.more;omega)
  ·exact .inr q
 look h0:=k.look (h.look h0)
 more:=N0 h.more k.more
 blks:=by have:=h.blks;have:=k.blks;omega
theorem Went.wide{l:Bl}{tree fuel:Int}{hd:Option Int}{lo hi lo2 hi2:Int}{s t:WS}{es:List Ent}{fs:List (List Int×Int)}(h:Went l tree fuel hd lo hi s t es fs)(h1:lo2≤lo)(h2:hi≤hi2):Went l tree fuel hd lo2 hi2 s t es fs :=
 { h with rise:=⟨h.rise.1,fun x hx=>by have:=h.rise.2 x hx;omega⟩ }
theorem Went.note(l:Bl)(tree fuel:Int){hd:Option Int}(lo hi:Int)(way:List Int)(no c:Int)(s:WS)(hc:c≠0)(hc2:c≠12)(hh:(way++[no]).head? = hd):Went l tree fuel hd lo hi s (Jb way [no] c s) [] [(way++[no],c)] :=
 ⟨by simp[Jb],by simp[Jb],Ztd.nil _ _,by simp,(fun f hf=>by rw[D3.1 hf];exact⟨hh,by simp,hc⟩),by simp[Jb,hc2],fun h=>.inl (by simpa [Jb] using h),fun h=>by simpa [Jb] using h,At _,At _⟩
theorem Lz{lo hi:Int}{L:List Int}(hf:Jz lo hi L=0){i:Nat}(h:i<L.length):lo≤(Ye hi L i).1∧(Ye hi L i).1≤(Ye hi L i).2∧(Ye hi L i).2≤hi∧(i+1<L.length→(Ye hi L i).2=(Ye hi L (i+1)).1):=by
 obtain⟨h1,h2,h3⟩:=Fn hf
 have h4:=h3 L[i] (G6 _)
 unfold Ye
 simp only[A4 h,J0]
 by_cases hn:i+1<L.length
 ·have h5:=h3 L[i+1] (G6 _)
  have h6:=Ul.lt h2 (i+1) i M0 hn
  simp only[A4 h,A4 hn,J0] at h6 ⊢
  exact⟨h4.1,by omega,by omega,fun _=>trivial⟩
 ·rw[C6 M0]
  simp only[Option.getD_none]
  exact⟨h4.1,by omega,M5 _,fun h=>absurd h hn⟩
theorem Zxn{lo hi:Int}{l:Bl}{no:Int}(hf:Jz lo hi (Ha l no)=0)(Vs:List Bl):Ztd lo hi (Pg (Ha l no) Vs no (Xb (inB l no))):=by
 obtain⟨h1,h2,h3⟩:=Fn hf
 have hl:(Ha l no).length=Xb (inB l no):=by simp[Ha,Hh]
 refine⟨?_,?_⟩
 ·unfold Pg
  rw[List.pairwise_map]
  refine List.Pairwise.imp_of_mem (R:=fun a b=>a<b) ?_ List.pairwise_lt_range
  intro a b ha hb a0
  have:=Ul.lt h2 b a a0 (by rw[hl];simpa using hb)
  simpa [List.getD] using this
 ·intro x hx
  unfold Pg at hx
  obtain⟨j,hj,rfl⟩:=List.mem_map.1 hx
  have hj:j<(Ha l no).length:=by rw[hl];simpa using hj
  have:=h3 (Ha l no)[j] (G6 _)
  simpa [List.getD,hj] using this
theorem leaf_inb{lo hi:Int}{l:Bl}{no tree:Int}(hn:Yb l no tree=0)(hl:Yj (inB l no)=true)(hf:Jz lo hi (Ha l no)=0):∀ x∈Pg (Ha l no) (Uf l no) no (Xb (inB l no)),InBlk l tree x:=by
 intro x hx
 obtain⟨h1,h2,h3⟩:=Fn hf
 have hk:(Ha l no).length=Xb (inB l no):=by simp[Ha,Hh]
 unfold Pg at hx
 obtain⟨j,hj,rfl⟩:=List.mem_map.1 hx
 have hj:j<Xb (inB l no):=by simpa using hj
 refine⟨hn,hl,j,hj,rfl,rfl,fun i hi=>?_⟩
 have:=Ul.lt h2 j i hi (by rw[hk];exact hj)
 simp only[List.getD]
 omega
theorem Ou(l:Bl)(tree fuel:Int):∀ (d:Nat) (way:List Int) (no lo hi:Int) (s:WS),s.dry=false→∃ es fs,Went l tree fuel (way++[no]).head? lo hi s (Xd l tree fuel d way no lo hi s) es fs
  | 0,way,no,lo,hi,s,_=>⟨[],[],Went.refl _ _ _ _ _ _ _⟩
  | d + 1, way, no, lo, hi, s, hs => by
    unfold Xd
    split
    · rename_i hf
      exact⟨[],[(way++[no],12)],by simp[Jb],by simp[Jb],Ztd.nil _ _,by simp,by simp,by simp,fun _=>.inr hf,fun h=>h,At _,At _⟩
    · rename_i hf
      have a3:s.looked+1≤fuel.toNat:=by omega
      split
      · rename_i he
        have:=Went.note l tree fuel lo hi way no _ { s with looked:=s.looked+1 } he (lookE_no _ _ _ _ _ _ _) rfl
        exact⟨_,_,this.esE,this.fsE,this.rise,this.inb,this.flt,this.dry,fun h=>by simp[Jb,hs] at h,fun _=>a3,by simp[Jb],by simp[Jb]⟩
      · rename_i he
        have he:Qc l way no tree lo hi s.deep=0:=Decidable.not_not.1 he
        obtain⟨hn,a0,hc⟩:=Zip he
        split
        · rename_i hl
          exact⟨_,[],rfl,by simp,Zxn a0 _,leaf_inb hn hl a0,by simp,by simp[hs],fun h=>by simp[hs] at h,fun _=>a3,by simp,by simp;omega⟩
        · have hk:(Ha l no).length=Xb (inB l no):=by simp[Ha,Hh]
          have a8:=Fn a0
          have b0:lo≤hi:=by have:=a8.1;unfold Wx at this;simp at this;omega
          have a1:=Oh (V:=Xd l tree fuel d) (l:=l) (way:=way) (no:=no) (hi:=hi) (s:={ s with looked:=s.looked+1,bs:=s.bs++[no] })
            (fun i t=>∃ es fs,Went l tree fuel (way++[no]).head? lo (if i=0 then lo else(Ye hi (Ha l no) (i-1)).2) { s with looked:=s.looked+1,bs:=s.bs++[no] } t es fs)
            ⟨[],[],Went.refl _ _ _ _ _ _ _⟩ (Xb (inB l no)) ?_ ?_
          · obtain⟨es,fs,q⟩:=a1
            refine⟨es,fs,q.esE,q.fsE,?_,q.inb,q.flt,q.dry,fun h=>?_,fun _=>q.look a3,by have:=q.more;simp only at this;omega,by have:=q.blks;simp at this;omega⟩
            · refine⟨q.rise.1,fun x hx=>?_⟩
              have:=q.rise.2 x hx
              split at this
              · omega
              · rename_i h0
                have:=(Lz a0 (i:=Xb (inB l no)-1) (by rw[hk];omega)).2.2.1
                omega
            · rcases q.fuelE h with q2|q2
              · exact .inl q2
              · exact .inr q2
          · rintro i t a4 a6 ⟨es,fs,q⟩
            have hp:=Lz a0 (i:=i) (by rw[hk];exact a4)
            have a2:lo≤(if i=0 then lo else(Ye hi (Ha l no) (i-1)).2)∧(if i=0 then lo else(Ye hi (Ha l no) (i-1)).2)≤(Ye hi (Ha l no) i).1:=by
              split
              · exact⟨M5 _,hp.1⟩
              · rename_i h0
                have a5:=Lz a0 (i:=i-1) (by rw[hk];omega)
                have:=a5.2.2.2 (by rw[hk];omega)
                rw[show i-1+1=i by omega] at this
                omega
            have q':=q.wide (M5 lo) a2.2
            rw[if_neg M0,M2]
            unfold Um
            split
            · obtain⟨a9,b1,r⟩:=Ou l tree fuel d (way++[no]) (Hv ((Uf l no).getD i []):Int) (Ye hi (Ha l no) i).1 (Ye hi (Ha l no) i).2 t a6
              have hh:((way++[no])++[(Hv ((Uf l no).getD i []):Int)]).head? = (way++[no]).head? := by cases way<;>rfl
              rw[hh] at r
              exact⟨_,_,q'.trans r M0 hp.2.1⟩
            · rename_i a7
              have r:=Went.note l tree fuel (Ye hi (Ha l no) i).1 (Ye hi (Ha l no) i).2 way no (Qn ((Uf l no).getD i [])) t a7 (by rcases rootE_no ((Uf l no).getD i []) with h|h|h<;>rw[h]<;>decide) rfl
              exact⟨_,_,q'.trans r M0 hp.2.1⟩
          · rintro i t a4 a6 ⟨es,fs,q⟩
            have hp:=Lz a0 (i:=i) (by rw[hk];exact a4)
            rw[if_neg M0,M2]
            refine⟨es,fs,q.wide (M5 _) ?_⟩
            split
            · omega
            · rename_i h0
              have a5:=Lz a0 (i:=i-1) (by rw[hk];omega)
              have:=a5.2.2.2 (by rw[hk];omega)
              rw[show i-1+1=i by omega] at this
              omega
theorem Tr(l:Bl)(tree fuel:Int):∀ (d:Nat) (way:List Int) (no lo hi:Int) (s:WS),s.dry=false →
  (Xd l tree fuel d way no lo hi s).fs.length+(Xd l tree fuel d way no lo hi s).es.length+18*s.looked≤s.fs.length+s.es.length+18*(Xd l tree fuel d way no lo hi s).looked+(if(Xd l tree fuel d way no lo hi s).dry=true then 1 else 0)
 | 0,way,no,lo,hi,s,hs=>by simp[Xd,hs]
 | d+1,way,no,lo,hi,s,hs=>by
  unfold Xd
  split
  ·simp[Jb];omega
  ·split
   ·simp[Jb,hs];omega
   ·rename_i he
    have he:Qc l way no tree lo hi s.deep=0:=Decidable.not_not.1 he
    obtain⟨hn,a3,hc⟩:=Zip he
    split
    ·simp[Rc,hs];omega
    ·have a1:=Oh (V:=Xd l tree fuel d) (l:=l) (way:=way) (no:=no) (hi:=hi) (s:={ s with looked:=s.looked+1,bs:=s.bs++[no] })
      (fun i t=>t.fs.length+t.es.length+18*(s.looked+1)≤s.fs.length+s.es.length+i+18*t.looked+(if t.dry=true then 1 else 0)) (by simp[hs]) (Xb (inB l no)) ?_ ?_
     ·omega
     ·intro i t a2 a0 q
      rw[a0] at q
      unfold Um
      split
      ·have:=Tr l tree fuel d (way++[no]) (Hv ((Uf l no).getD i []):Int) (Ye hi (Ha l no) i).1 (Ye hi (Ha l no) i).2 t a0
       simp at q
       omega
      ·simp[Jb,a0] at q ⊢;omega
     ·intro i t a2 a0 q;omega
end Go.Proofs.YtceeiinepijokaaGreatDoor
namespace Go.Proofs.YtceeiinepijokaaGreatDoor
set_option maxHeartbeats 8000000
set_option maxRecDepth 100000
open Go.RowKit Go.Extern.Stop Go.Stop Go.Extern
set_option linter.unusedVariables false
attribute [local irreducible] wpList wpAnyH Code.wp Oper.wp Go
theorem Zhz{B bw Bi b:Nat}{pi:O0}{ni ci:Nat}{l:Bl}{tree fuel:Int}(hBb:B≤bw)(hfu:fuel≤1000000):∀ d,Zt9 B bw Bi b pi ni ci l tree fuel (d+1)
 | 0=>fun a0 no lo hi s pe pb pf pw ce cb cf cw fv w h1 h2 h3 h4 h5 h6 h7=>Tw B bw Bi b pi ni ci l tree fuel 0 (fun h=>absurd rfl h) a0 no lo hi s pe pb pf pw ce cb cf cw fv w hBb h2 h1 h3 hfu h4 h5 h6 h7
 | d+1=>fun a0 no lo hi s pe pb pf pw ce cb cf cw fv w h1 h2 h3 h4 h5 h6 h7=>Tw B bw Bi b pi ni ci l tree fuel (d+1) (fun _=>Zhz hBb hfu d) a0 no lo hi s pe pb pf pw ce cb cf cw fv w hBb h2 h1 h3 hfu h4 h5 h6 h7
def ws0:WS:=⟨[],[],0,0,[],false⟩
def Zd(l:Bl)(root tree fuel:Int):WS:=Xd l tree fuel 17 [] root 0 281474976710656 ws0
theorem Nm(l:Bl)(root tree fuel:Int):∃ es fs,Went l tree fuel (some root) 0 281474976710656 ws0 (Zd l root tree fuel) es fs:=Ou l tree fuel 17 [] root 0 281474976710656 ws0 rfl
theorem Tg(l:Bl)(root tree fuel:Int):(Zd l root tree fuel).looked≤fuel.toNat:=by
 obtain⟨_,_,h⟩:=Nm l root tree fuel
 exact h.look (A3 _)
theorem Nt(l:Bl)(root tree fuel:Int)(hf:fuel≤1000000):(Zd l root tree fuel).es.length≤100000000∧(Zd l root tree fuel).bs.length≤100000000∧(Zd l root tree fuel).fs.length≤100000000:=by
 have h1:=Tr l tree fuel 17 [] root 0 281474976710656 ws0 rfl
 have h2:=Tg l root tree fuel
 obtain⟨_,_,h3⟩:=Nm l root tree fuel
 have h4:=h3.blks
 simp only[ws0,D6] at h4
 change (Zd l root tree fuel).fs.length+(Zd l root tree fuel).es.length+18*0≤0+0+18*(Zd l root tree fuel).looked+(if(Zd l root tree fuel).dry=true then 1 else 0) at h1
 have h5:(if(Zd l root tree fuel).dry=true then 1 else 0)≤1:=by split<;>omega
 have h6:fuel.toNat≤1000000:=by omega
 generalize (if(Zd l root tree fuel).dry=true then 1 else 0)=q at h1 h5
 omega
def walkC(t:WS)(pe pb pf:O0)(ce cb cf:Nat):List Value:=[.slice pe t.es.length ce,.slice pb t.bs.length cb,V0 t.deep,V0 (t.looked:Int),.slice pf t.fs.length cf]
structure WalkV(B:Nat)(t:WS)(pe pb pf:Option Addr)(ce cb cf:Nat)(fv:List Value)(w:World):Prop where
 ents:w.ownsRow B 132 3 (.slice pe t.es.length ce) t.es.length (t.es.flatMap Kd)
 blks:w.ownsRow B 3 1 (.slice pb t.bs.length cb) t.bs.length (t.bs.map (Value.int .i64))
 flts:w.ownsRow B 28 1 (.slice pf t.fs.length cf) t.fs.length fv
 fltv:Uq w t.fs fv
def ScanP(l:Bl)(root tree fuel:Int)(w:World)(e:Ending)(w':World):Prop :=
 ∃ pe pb pf ce cb cf fv,e=.returned (.agg (walkC (Zd l root tree fuel) pe pb pf ce cb cf).toArray)∧B3 w w'∧WalkV w.heap.size (Zd l root tree fuel) pe pb pf ce cb cf fv w'
theorem Zu5(Bi b:Nat)(pi:O0)(ni ci:Nat)(l:Bl)(root tree fuel:Int)(w:World)(hfu:fuel≤1000000)(hI:ImgR Bi b pi ni ci l w) :
 C0 109 #[P0 b,V0 root,V0 tree,V0 fuel] w (ScanP l root tree fuel w):=by
 refine zin 23 Tryz.func109 ?_
 refine xa 2 [S0,S0,V0 0,V0 0,S0] 126 fun b1 W1 n1=>?_
 refine xa 8 [S0,S0,V0 0,V0 0,S0,P0 b,V0 tree,V0 fuel,S0,.bool false] 306 fun b2 W2 n2=>?_
 refine xr 7 (Zmy _) fun W3 a5=>?_
 have a0:=Nt l root tree fuel hfu
 have g2:=n2.ge n1.below
 have hB:=bln (bln n1.below n2.below) a5
 have k2:=n2.blk.below a5
 have a7:=((hI.below n1.below).below n2.below).below a5
 refine xc 0 (args:=#[P0 b2,V0 root,.agg #[V0 0,V0 281474976710656]]) (Zhz (B:=w.heap.size) (bw:=b2) (Bi:=Bi) (b:=b) (pi:=pi) (ni:=ni) (ci:=ci) (l:=l) (tree:=tree) (fuel:=fuel) g2 M0 16 [] root 0 281474976710656 ws0 none none none none 0 0 0 0 [] _ rfl hB.size rfl ⟨k2,A5 _ _ _ _,A5 _ _ _ _,A5 _ _ _ _,trivial,A5 _ _ _ _,Po.nil _,a7⟩ a0.1 a0.2.1 a0.2.2) ?_
 rintro _ W4 ⟨u4,pe,pb,pf,pw,ce,cb,cf,cw,fv,rfl,b0,a8,hR⟩
 change WalkR _ _ _ _ _ _ _ _ _ _ _ (Zd l root tree fuel) _ _ _ _ _ _ _ _ _ _ at hR
 obtain⟨kW,b3,b5,a9,b4,b6,b7,hI⟩:=hR
 refine xlv 7 (kW.rpp 0 5) ?_
 have k1:=((n1.blk.below n2.below).below a5).only a8 Do
 refine xsv 0 k1 [.slice pe ((Zd l root tree fuel).es.length) ce,.slice pb ((Zd l root tree fuel).bs.length) cb,V0 (Zd l root tree fuel).deep,V0 ((Zd l root tree fuel).looked:Int),.slice pf ((Zd l root tree fuel).fs.length) cf] fun W5 u5 k5=>?_
 have g1:=n1.ge (B4 w)
 have a6:=u5.below (hB.trans b0) g1
 have a1:=u5.own2 b3 k1 Do
 have a3:=u5.own2 b5 k1 Do
 have a2:=u5.own2 a9 k1 Do
 have a4:=b4.only (Q1 (T:=[126]) u5 k1 Do) Do
 exact xec 3 k5 (.agg #[.slice pe ((Zd l root tree fuel).es.length) ce,.slice pb ((Zd l root tree fuel).bs.length) cb,V0 (Zd l root tree fuel).deep,V0 ((Zd l root tree fuel).looked:Int),.slice pf ((Zd l root tree fuel).fs.length) cf]) ⟨_,_,_,_,_,_,_,rfl,a6,⟨a1,a3,a2,a4⟩⟩
theorem getD_app{P Q:Bl}{k i:Nat}(hk:P.length=k):(P++Q).getD (k+i) 0=Q.getD i 0:=by
 subst hk
 simp[List.getD,Le]
theorem getD_hd{P Q:Bl}{i:Nat}(hi:i<P.length):(P++Q).getD i 0=P.getD i 0:=by
 simp[List.getD,Ge hi]
theorem Gv{P Q:Bl}{k w:Nat}{x:Int}(hk:P.length=k)(h0:0≤x)(hb:x.toNat<256 ^ w):(Zn (P++(leB x w++Q)) k w:Int)=x:=by
 rw[Nq w k x.toNat,E2 hb]
 ·omega
 ·intro i hi
  rw[getD_app hk,getD_hd (by rw[Zj];exact hi)]
  simp[leB,Xh,List.getD,B8 hi]
theorem Ze9{P Q:Bl}{k:Nat}(hk:P.length=k):(P++Q).drop k=Q:=L7 hk
theorem Zhl(n m:Nat):Hf ((List.replicate n (0:UInt8)).take m)=true:=by
 unfold Hf;rw[H7]
 intro x hx
 have:=Q5 hx
 rw[(List.mem_replicate.1 this).2];rfl
theorem Ik(K:List Int)(n j:Nat):∀ d,∃ X,Vp K n (j+d)=Vp K n j++X
 | 0=>⟨[],by simp⟩
 | d+1=>by
  obtain⟨X,hX⟩:=Ik K n j d
  exact⟨_,by rw[←E9,Jn,hX,A1]⟩
theorem Zad(Vs:List Bl)(j:Nat):∀ d,∃ X,Ja Vs (j+d)=Ja Vs j++X
 | 0=>⟨[],by simp⟩
 | d+1=>by
  obtain⟨X,hX⟩:=Zad Vs j d
  exact⟨_,by rw[←E9,Mh,hX,A1]⟩
theorem Tn{l:Bl}:∀ {n:Nat},(∀ i,i<n→Zfw l i=0)→Vg l n=0
 | 0,_=>rfl
 | n+1,h=>Bn (Tn fun i hi=>h i M0) (h n M0)
theorem getD_ext{l l':List Int}(h:l.length=l'.length)(h2:∀ j,j<l.length→l.getD j 0=l'.getD j 0):l=l':=by
 apply F4 h
 intro j h3 h4
 have:=h2 j h3
 simpa [List.getD,h3,h4] using this
theorem Ztu{l l':List Bl}(h:l.length=l'.length)(h2:∀ j,j<l.length→l.getD j []=l'.getD j []):l=l':=by
 apply F4 h
 intro j h3 h4
 have:=h2 j h3
 simpa [List.getD,h3,h4] using this
structure NodBack(b:List UInt8)(t:Int)(leaf:Bool)(n m v:Nat)(K:List Int)(Vs:List (List UInt8)):Prop where
 len:b.length=244
 e:Uv b=0
 t:Qy b=t
 l:Yj b=leaf
 c:Xb b=n
 k:Hh b n=K
 v:Nk b n=Vs
theorem Az{t:Int}{leaf:Bool}{n m v:Nat}{K:List Int}{Vs:List Bl}(N:NodeOk t leaf n m v K Vs):NodBack (Pi m v (Hu t leaf n m v) K Vs n) t leaf n m v K Vs:=by
 have b0:=Qi t leaf
 rw[N.hm] at b0
 have b1:=Om t leaf
 rw[N.hv] at b1
 have a1:=fitN t leaf
 rw[N.hm,N.hv] at a1
 have a8:=N.ht1
 have a7:=N.ht2
 have a4:=N.hn
 have a0:=Zc6 (H:=Hu t leaf n m v) (K:=K) (Vs:=Vs) (Hl _ _ _ _ _) a1 a4 (fun j hj=>N.hw j hj)
 have a3:=It (H:=Hu t leaf n m v) (K:=K) (Vs:=Vs) (Hl _ _ _ _ _) a1 a4 (fun j hj=>N.hw j hj)
 generalize Pi m v (Hu t leaf n m v) K Vs n=b at a0 a3
 obtain⟨R,hR⟩:∃ R,b=Hu t leaf n m v++R:=⟨_,by rw[a0,A1,A1]⟩
 have a9:=Zfm leaf
 have r0:(Zn b 0 1:Int)=Mt leaf:=by
  rw[hR,Hu];simp only[A1]
  exact Gv (P:=[]) (k:=0) (w:=1) (x:=Mt leaf) rfl a9.1 (I1 (show(Mt leaf).toNat≤255 by omega) Do)
 have r1:(Zn b 1 1:Int)=t:=by
  rw[hR,Hu];simp only[A1]
  exact Gv (P:=leB (Mt leaf) 1) (by rw[Zj]) M0 M0
 have r2:(Zn b 2 2:Int)=(n:Int):=by
  rw[hR,Hu];simp only[A1]
  rw[←A1]
  exact Gv (P:=leB (Mt leaf) 1++leB t 1) (by simp[Zj]) M0 M0
 have r4:(Zn b 4 2:Int)=(v:Int):=by
  rw[hR,Hu];simp only[A1]
  rw[←A1,←A1]
  exact Gv (P:=leB (Mt leaf) 1++leB t 1++leB (n:Int) 2) (by simp[Zj]) M0 M0
 have r6:(Zn b 6 2:Int)=(m:Int):=by
  rw[hR,Hu];simp only[A1]
  rw[←A1,←A1,←A1]
  exact Gv (P:=leB (Mt leaf) 1++leB t 1++leB (n:Int) 2++leB (v:Int) 2) (by simp[Zj]) M0 M0
 have r8:(Zn b 8 4:Int)=0:=by
  rw[hR,Hu];simp only[A1]
  rw[←A1,←A1,←A1,←A1]
  exact Gv (P:=leB (Mt leaf) 1++leB t 1++leB (n:Int) 2++leB (v:Int) 2++leB (m:Int) 2) (by simp[Zj]) M0 Do
 have eT:Qy b=t:=r1
 have eL:Yj b=leaf:=by
  unfold Yj;rw[r0];cases leaf<;>rfl
 have eC:Xb b=n:=by unfold Xb;omega
 have eW:Je b=v:=by unfold Je;rw[eT,eL,widG,if_pos ⟨a8,a7⟩];exact N.hv
 have eM:Gc b=m:=by unfold Gc;rw[eT,eL,Zv6,if_pos ⟨a8,a7⟩];exact N.hm
 have a2:∀ i,i<n→(Zfy b i:Int)=K.getD i 0:=by
  intro i hi
  obtain⟨X,hX⟩:=Ik K n (i+1) (m-(i+1))
  rw[show i+1+(m-(i+1))=m by omega,Jn,if_pos hi] at hX
  unfold Zfy
  rw[a0,hX]
  have hk:=N.hk0 i hi
  have:=Gv (P:=Hu t leaf n m v++Vp K n i) (Q:=X++(Ja Vs n++List.replicate (232-m*8-n*v) 0)) (k:=12+i*8) (w:=8) (x:=K.getD i 0) (by rw[A8,Hl,Wd]) hk.1 (I1 (show(K.getD i 0).toNat≤281474976710655 by omega) Do)
  simp only[A1] at this ⊢
  exact this
 have a6:∀ i,i<n→Zpp b i=Vs.getD i []:=by
  intro i hi
  obtain⟨X,hX⟩:=Zad Vs (i+1) (n-(i+1))
  rw[show i+1+(n-(i+1))=n by omega,Mh] at hX
  have a5:(Ja Vs i).length=i*v:=Cl fun j hj=>N.hw j M0
  unfold Zpp
  rw[eM,eW,a0,hX]
  have:=Ze9 (P:=Hu t leaf n m v++Vp K n m++Ja Vs i) (Q:=Vs.getD i []++(X++List.replicate (232-m*8-n*v) 0)) (k:=12+m*8+i*v) (by rw[A8,A8,Hl,Wd,a5])
  simp only[A1] at this ⊢
  rw[this]
  exact L6 (N.hw i hi)
 have b2:n*v≤m*v:=E7 v a4
 refine⟨a3,?_,eT,eL,eC,?_,?_⟩
 ·have hs:Ot b=true:=by
   unfold Ot
   rw[eW,eM]
   refine decide_eq_true ⟨?_,by omega,by omega,by omega,by omega,by omega,?_⟩
   ·cases leaf<;>simp only[Mt] at r0<;>simp at r0<;>omega
   ·cases leaf with
    | true=>left;simp only[Mt] at r0;simp at r0;omega
    | false=>right;have:=N.hl rfl;omega
  have hz:Zkt b=true:=by
   unfold Zkt Zfb Zqr Zfr
   rw[eC,eM,eW,D9]
   constructor
   ·have hk:=Wj K n (m-n)
    rw[show n+(m-n)=m by omega] at hk
    have:=Ze9 (P:=Hu t leaf n m v++Vp K n n) (Q:=List.replicate ((m-n)*8) 0++(Ja Vs n++List.replicate (232-m*8-n*v) 0)) (k:=12+n*8) (by rw[A8,Hl,Wd])
    rw[a0,hk]
    simp only[A1] at this ⊢
    rw[this,List.take_append_of_le_length (by rw[B6];omega)]
    exact Zhl _ _
   ·have a5:(Ja Vs n).length=n*v:=Cl fun j hj=>N.hw j hj
    have:=Ze9 (P:=Hu t leaf n m v++Vp K n m++Ja Vs n) (Q:=List.replicate (232-m*8-n*v) 0) (k:=12+m*8+n*v) (by rw[A8,A8,Hl,Wd,a5])
    rw[a0,this]
    exact Zhl _ _
  unfold Uv
  rw[if_pos hs,if_pos hz,eC]
  refine Tn fun i hi=>?_
  have h1:=a2 i hi
  have h2:=N.hk0 i hi
  unfold Zfw
  rw[if_neg M0,if_neg ?_]
  rintro⟨h3,h4⟩
  have h5:=a2 (i-1) M0
  have h6:=N.hk1 (i-1) M0
  rw[show i-1+1=i by omega] at h6
  omega
 ·exact getD_ext (by rw[Lr,N.hK]) fun j hj=>by rw[Lr] at hj;rw[Zg3 b hj];exact a2 j hj
 ·exact Ztu (by rw[Lv,N.hV]) fun j hj=>by rw[Lv] at hj;rw[Zic b hj];exact a6 j hj
theorem Zd9{t:Int}{leaf:Bool}{n m v:Nat}{K:List Int}{Vs:List Bl}(N:NodeOk t leaf n m v K Vs){l:Bl}{j len:Nat}(hl:l.length=len)(hj:j<len/256)(h4:j<14400)(hb:Vv l j=Xu 2 (j:Int) (Pi m v (Hu t leaf n m v) K Vs n))(tree:Int)(ht:tree=0∨t=tree) :
 Yb l (j:Int) tree=0∧inB l (j:Int)=Pi m v (Hu t leaf n m v) K Vs n:=by
 have B:=Az N
 have a0:inB l (j:Int)=Pi m v (Hu t leaf n m v) K Vs n:=by
  rw[Zdy (no:=(j:Int)) (j:=j) rfl,hb,Zv9 (by rw[B.len];decide)]
  unfold Zhv;rw[B.len];simp
 refine⟨?_,a0⟩
 unfold Yb
 rw[Zc8 (no:=(j:Int)) (j:=j) hl rfl hj,hb,if_pos (Zak Do Do M0 M0 (by rw[B.len];decide)),a0]
 unfold Kk
 rw[if_pos B.e,if_pos (by rw[B.t];exact ht)]
theorem Ar{q:Nat}(h1:1≤q)(h2:q≤14399):Qn (leB (q:Int) 4)=0∧(Hv (leB (q:Int) 4):Int)=(q:Int):=by
 have hr:(Zn (leB (q:Int) 4) 0 4:Int)=(q:Int):=by
  have:=Gv (P:=[]) (Q:=[]) (k:=0) (w:=4) (x:=(q:Int)) rfl M0 (I1 (show(q:Int).toNat≤14399 by omega) Do)
  simpa using this
 have he:Qn (leB (q:Int) 4)=0:=by
  unfold Qn;rw[if_pos (Zj _ _),if_pos M0]
 exact⟨he,by unfold Hv;rw[if_pos he];exact hr⟩
def kvE (x:Ent):Int×Bl:=(x.1,x.2.1)
def LaidF(F:Bl)(t:Int)(leaf:Bool)(m v:Nat)(u:List Ent)(q:Nat):Prop :=
 ∀ i,i<ovN u.length m→Vv F (q+i)=Xu 2 ((q+i:Nat):Int) (Zoq t leaf m v (Zy u m i))
theorem Bq{t:Int}{leaf:Bool}{m v:Nat}{l:List Ent}{q:Nat}{bs:Bl}(j:Nat):Mg t leaf m v l q bs (j+1)=Qh (Mg t leaf m v l q bs j) ((q+j)*256) (Xu 2 ((q+j:Nat):Int) (Zoq t leaf m v (Zy l m j))):=rfl
theorem Vw{t:Int}{leaf:Bool}{m v:Nat}{l:List Ent}{q:Nat}{bs:Bl}(E:EntsOk v l)(h1:1≤t)(h2:t≤5)(hm:Kh t leaf=m)(hv:Jd t leaf=v)(hl:leaf=false→1≤l.length)(j:Nat) :
 j≤ovN l.length m→(q+j)*256≤bs.length→(Mg t leaf m v l q bs j).length=bs.length∧(∀ i,i<j→Vv (Mg t leaf m v l q bs j) (q+i)=Xu 2 ((q+i:Nat):Int) (Zoq t leaf m v (Zy l m i)))∧(∀ x,x<q→Vv (Mg t leaf m v l q bs j) x=Vv bs x):=by
 induction j with
 | zero=>exact fun _ _=>⟨rfl,fun i hi=>absurd hi (Nat.not_lt_zero i),fun x _=>rfl⟩
 | succ j ih =>
  intro hj hq
  obtain⟨a1,a2,a3⟩:=ih M0 M0
  have a4:=Re (Pv E h1 h2 hm hv hl (show j<ovN l.length m by omega))
  have a0:(Xu 2 ((q+j:Nat):Int) (Zoq t leaf m v (Zy l m j))).length=256:=Yn (by rw[a4];decide)
  rw[Bq]
  generalize Mg t leaf m v l q bs j=y at a1 a2 a3 ⊢
  generalize hx:Xu 2 ((q+j:Nat):Int) (Zoq t leaf m v (Zy l m j))=x at a0 ⊢
  have hk:q+j<y.length/256:=by rw[a1];omega
  refine⟨?_,fun i hi=>?_,fun z hz=>?_⟩
  ·rw[Yg (by rw[a0,a1];omega),a1]
  ·by_cases e:i=j
   ·subst e;rw[hx];exact Ci a0 hk
   ·rw[Yv a0 hk M0 M0];exact a2 i M0
  ·rw[Yv a0 hk M0 M0];exact a3 z hz
theorem Wu{t:Int}(h1:1≤t)(h2:t≤5)(n:Nat):∀ (u:List Ent) (q:Nat) (bs:Bl),u.length=n→1≤n→EntsOk 4 u→(q+((Jy n).sum-n))*256≤bs.length→(Vi t u q bs).2.length=bs.length∧∀ x,x<q→Vv (Vi t u q bs).2 x=Vv bs x:=by
 induction n using Nat.strongRecOn with
 | _ n ih =>
  intro u q bs hn a0 E hq
  subst hn
  by_cases h:u.length≤1
  ·rw[Vz h];exact⟨rfl,fun _ _=>rfl⟩
  ·have a5:=Zru (x:=u.length) M0
   have hp:=Qp u.length 18
   have a4:(Jy u.length).sum=u.length+(Jy (ovN u.length 18)).sum:=by rw[Vx h];rfl
   have hg:=Kl (ovN u.length 18)
   rw[Vd h]
   obtain⟨a1,a2,a3⟩:=Vw (t:=t) (leaf:=false) (m:=18) (v:=4) (l:=u) (q:=q) (bs:=bs) E h1 h2 rfl rfl (fun _=>by omega) (ovN u.length 18) (At _) M0
   obtain⟨b1,b2⟩:=ih (ovN u.length 18) M0 (upE u 18 q (ovN u.length 18)) (q+ovN u.length 18) (Mg t false 18 4 u q bs (ovN u.length 18)) (Xr _ _ _ _) hp (Cy E Do) (by rw[a1];omega)
   exact⟨by rw[b1,a1],fun x hx=>by rw[b2 x M0,a3 x hx]⟩
theorem Oa{t:Int}{leaf:Bool}{n m v:Nat}{K:List Int}{Vs:List Bl}(N:NodeOk t leaf n m v K Vs):Ul K:=by
 intro k hk a0
 rw[N.hK] at hk
 have:=N.hk1 (k-1) M0
 rw[show k-1+1=k by omega] at this
 simpa [List.getD] using this
theorem Zw8{F:Bl}{way:List Int}{no t lo hi deep:Int}(hw:way.length<16)(hway:∀ y∈way,no≠y)(he:Yb F no t=0)(hr:Wx lo hi=true)(hs:Ul (Ha F no))(hk:∀ x∈Ha F no,lo≤x∧x<hi)
 (hd:Yj (inB F no)=true→deep=0∨deep=((way.length+1:Nat):Int)):Qc F way no t lo hi deep=0:=by
 have hf:Jz lo hi (Ha F no)=0:=by unfold Jz;rw[if_pos hr,if_pos hs,if_pos hk]
 have hh:Ki way no=false:=by
  unfold Ki;rw[List.any_eq_false]
  intro y hy
  simpa using hway y hy
 unfold Qc
 rw[if_neg (by rw[hh];simp),if_neg M0,if_neg (by rw[he];simp)]
 unfold Ha at hf
 rw[if_neg (by rw[hf];simp),if_neg (by rintro⟨a,b,c⟩;rcases hd a with h|h;exact b h;exact c h)]
structure Lev(F:List UInt8)(t fuel:Int)(h n base:Nat)(X:Nat→List (Int×List UInt8))(C:Nat→Nat):Prop where
 one:∀ i,i<n→1≤C i
 go:∀ i,i<n→∀ (d:Nat) (way:List Int) (lo hi:Int) (s:WS),h+1≤d→way.length+h+1≤16→(∀ y∈way,((base+n:Nat):Int)≤y)→Wx lo hi=true→(∀ x∈X i,lo≤x.1∧x.1<hi)→s.dry=false→((s.looked+C i:Nat):Int)≤fuel→(s.deep=0∨s.deep=((way.length+h+1:Nat):Int)) →
  ∃ (es:List Ent) (bl:List Int),es.map kvE=X i∧bl.length=C i∧Xd F t fuel d way ((base+i:Nat):Int) lo hi s={ s with es:=s.es++es,bs:=s.bs++bl,deep:=((way.length+h+1:Nat):Int),looked:=s.looked+C i }
theorem leaf_kv{c:List Ent}{no:Int}:(Pg (Vr c) (Jq c) no c.length).map kvE=c.map kvE:=by
 unfold Pg
 apply If
 intro j
 by_cases h:j<c.length
 ·simp[Vr,Jq,kvE,List.getD,h]
 ·rw[C6 (by simp;omega),C6 (by simp;omega)]
theorem lev_leaf{F:Bl}{t fuel:Int}{l:List Ent}{base len m v:Nat}(hm:Kh t true=m)(hv:Jd t true=v)(E:EntsOk v l)(h1:1≤t)(h2:t≤5)(hF:LaidF F t true m v l base)(hl:F.length=len)(hb:(base+ovN l.length m)*256≤len)(h4:base+ovN l.length m≤14400) :
  Lev F t fuel 0 (ovN l.length m) base (fun i=>(Zy l m i).map kvE) (fun _=>1) where
 one _ _:=At _
 go i hi d way lo hi' s hd hw hway hr hX hdry hfu hdeep:=by
  obtain⟨d',rfl⟩:∃ d',d=d'+1:=⟨d-1,by omega⟩
  have N:=Pv E h1 h2 hm hv (fun h=>by cases h) hi
  have B:=Az N
  obtain⟨he,a1⟩:=Zd9 N hl M0 M0 (hF i hi) t (.inr rfl)
  have hC:Xb (inB F ((base+i:Nat):Int))=(Zy l m i).length:=by rw[a1];exact B.c
  have hK:Ha F ((base+i:Nat):Int)=Vr (Zy l m i):=by unfold Ha;rw[hC,a1];exact B.k
  have hV:Uf F ((base+i:Nat):Int)=Jq (Zy l m i):=by unfold Uf;rw[hC,a1];exact B.v
  have hL:Yj (inB F ((base+i:Nat):Int))=true:=by rw[a1];exact B.l
  have hk:∀ x∈Vr (Zy l m i),lo≤x∧x<hi':=by
   intro x hx
   obtain⟨y,hy,rfl⟩:=List.mem_map.1 hx
   exact hX (kvE y) (List.mem_map.2 ⟨y,hy,rfl⟩)
  have a0:Qc F way ((base+i:Nat):Int) t lo hi' s.deep=0:=Zw8 M0 (fun y hy=>by have:=hway y hy;omega) he hr (by rw[hK];exact Oa N) (by rw[hK];exact hk) fun _=>hdeep
  refine⟨Pg (Vr (Zy l m i)) (Jq (Zy l m i)) ((base+i:Nat):Int) (Zy l m i).length,[((base+i:Nat):Int)],leaf_kv,rfl,?_⟩
  unfold Xd
  rw[if_neg M0,if_neg (by rw[a0];simp),if_pos hL,hC,hK,hV]
theorem Znp{f:Nat→Nat}{a b:Nat}(h:a≤b):((List.range a).map f).sum≤((List.range b).map f).sum:=by
 obtain⟨d,rfl⟩:∃ d,b=a+d:=⟨b-a,by omega⟩
 rw[O6,B5,F0];omega
theorem part_snd{hi:Int}{K:List Int}{k:Nat}(hk:k<K.length):(k+1<K.length∧(Ye hi K k).2=K.getD (k+1) 0)∨(k+1=K.length∧(Ye hi K k).2=hi):=by
 by_cases q:k+1<K.length
 ·left;exact⟨q,by simp[Ye,List.getD,q]⟩
 ·right;exact⟨by omega,by simp only[Ye];rw[C6 M0];rfl⟩
theorem lev_loop{F:Bl}{t fuel:Int}{h n base:Nat}{X:Nat→List (Int×Bl)}{C:Nat→Nat}(L:Lev F t fuel h n base X C){way:List Int}{no hi':Int}{s0:WS}{z a d':Nat}(K:List Int)(hK:Ha F no=K)(hKl:K.length=z)(hidx:a+z≤n)
  (hval:∀ k,k<z→(Uf F no).getD k []=leB ((base+(a+k):Nat):Int) 4) (hkk:∀ k,k<z→∃ v r,X (a+k)=(K.getD k 0,v)::r) (hs:∀ a b,a<b→b<n→∀ x∈X a,∀ y∈X b,x.1<y.1) (hs1:∀ a,a<n→(X a).Pairwise fun x y=>x.1<y.1)
  (hk0:∀ k,k<z→0≤K.getD k 0∧K.getD k 0<hi') (hk1:∀ k,k+1<z→K.getD k 0<K.getD (k+1) 0) (hX2:∀ k,k<z→∀ x∈X (a+k),x.1<hi') (hhi:hi'≤281474976710656) (hb1:1≤base) (h4:base+n≤14400) (hd:h+1≤d') (hw:way.length+1+h+1≤16) (hway:∀ y∈way,((base+n:Nat):Int)≤y) (hno:((base+n:Nat):Int)≤no)
  (hdry:s0.dry=false) (hdeep:s0.deep=0∨s0.deep=((way.length+(h+1)+1:Nat):Int)) (hfu:((s0.looked+((List.range z).map fun j=>C (a+j)).sum:Nat):Int)≤fuel) (k:Nat) :
  k≤z→∃ (es:List Ent) (bl:List Int),es.map kvE=((List.range k).flatMap fun j=>X (a+j))∧bl.length=((List.range k).map fun j=>C (a+j)).sum ∧
    Qm (Xd F t fuel d') F way no hi' k s0={ s0 with es:=s0.es++es,bs:=s0.bs++bl,deep:=if k=0 then s0.deep else((way.length+(h+1)+1:Nat):Int),looked:=s0.looked+((List.range k).map fun j=>C (a+j)).sum }:=by
 induction k with
 | zero=>exact fun _=>⟨[],[],rfl,rfl,by simp[Qm]⟩
 | succ k ih =>
  intro a4
  obtain⟨es,bl,e1,e2,e3⟩:=ih M0
  have a1:k<z:=by omega
  obtain⟨r1,r2⟩:=Ar (q:=base+(a+k)) M0 M0
  have a6:(Ye hi' (Ha F no) k).1=K.getD k 0:=by rw[hK];rfl
  have a5:=part_snd (hi:=hi') (K:=K) (k:=k) M0
  rw[←hK] at a5
  have a9:∀ x∈X (a+k),K.getD k 0≤x.1:=by
   intro x hx
   obtain⟨v,r,hv⟩:=hkk k a1
   have a7:=hs1 (a+k) M0
   rw[hv] at hx a7
   rcases A9.1 hx with rfl|hx
   ·exact M5 _
   ·exact Int.le_of_lt ((List.pairwise_cons.1 a7).1 x hx)
  have b3:∀ x∈X (a+k),x.1<(Ye hi' (Ha F no) k).2:=by
   intro x hx
   rcases a5 with ⟨q1,q2⟩|⟨q1,q2⟩
   ·rw[hK] at q1
    obtain⟨v,r,hv⟩:=hkk (k+1) M0
    rw[q2,hK]
    exact hs (a+k) (a+(k+1)) M0 M0 x hx (K.getD (k+1) 0,v) (by rw[hv];exact F8)
   ·rw[q2];exact hX2 k a1 x hx
  have b1:Wx (Ye hi' (Ha F no) k).1 (Ye hi' (Ha F no) k).2=true:=by
   have g0:=hk0 k a1
   refine decide_eq_true ?_
   rw[a6]
   rcases a5 with ⟨q1,q2⟩|⟨q1,q2⟩
   ·rw[hK] at q1
    rw[q2,hK]
    have g1:=hk1 k M0
    have g2:=hk0 (k+1) M0
    omega
   ·rw[q2];omega
  have a3:=Znp (f:=fun j=>C (a+j)) (show k+1≤z from a4)
  have a0:((List.range (k+1)).map fun j=>C (a+j)).sum=((List.range k).map fun j=>C (a+j)).sum+C (a+k):=by rw[C3,B5,F0];simp
  rw[a0] at a3
  have a8:((s0.looked+((List.range k).map fun j=>C (a+j)).sum+C (a+k):Nat):Int)≤fuel:=by omega
  have a2:(way++[no]).length=way.length+1:=by simp
  obtain⟨b0,b2,g1,g2,g3⟩:=L.go (a+k) M0 d' (way++[no]) (Ye hi' (Ha F no) k).1 (Ye hi' (Ha F no) k).2 { s0 with es:=s0.es++es,bs:=s0.bs++bl,deep:=if k=0 then s0.deep else((way.length+(h+1)+1:Nat):Int),looked:=s0.looked+((List.range k).map fun j=>C (a+j)).sum } hd (by rw[a2];omega) (by
    intro y hy
    rcases List.mem_append.1 hy with q|q
    ·exact hway y q
    ·rw[D3.1 q];exact hno) b1 (fun x hx=>⟨by rw[a6];exact a9 x hx,b3 x hx⟩) hdry a8 (by
    rw[a2,show way.length+1+h+1=way.length+(h+1)+1 by omega]
    by_cases q:k=0
    ·rcases hdeep with d|d
     ·exact .inl (by show(if k=0 then s0.deep else _)=0;rw[if_pos q];exact d)
     ·exact .inr (by show(if k=0 then s0.deep else _)=_;rw[if_pos q];exact d)
    ·exact .inr (by show(if k=0 then s0.deep else _)=_;rw[if_neg q]))
  refine⟨es++b0,bl++b2,?_,?_,?_⟩
  ·rw[B5,e1,g1,C3,C8];simp
  ·rw[A8,e2,g2,a0]
  ·rw[Nr,e3]
   unfold Ek
   rw[if_neg (by rw[hdry];simp)]
   unfold Um
   rw[hval k a1,if_pos r1,r2,g3,a0,if_neg (Nat.succ_ne_zero k),a2,show way.length+1+h+1=way.length+(h+1)+1 by omega,A1,A1]
   simp only[WS.mk.injEq,true_and,and_true]
   omega
theorem Zuk{F:Bl}{t fuel:Int}{h n base len:Nat}{X:Nat→List (Int×Bl)}{C:Nat→Nat}{u:List Ent}(L:Lev F t fuel h n base X C)(hn:u.length=n)(hu:∀ k,k<n→(u.getD k Zo).2.1=leB ((base+k:Nat):Int) 4)(hh:∀ k,k<n→∃ v r,X k=((u.getD k Zo).1,v)::r)
  (hs:∀ a b,a<b→b<n→∀ x∈X a,∀ y∈X b,x.1<y.1) (hs1:∀ a,a<n→(X a).Pairwise fun x y=>x.1<y.1) (E:EntsOk 4 u) (h1:1≤t) (h2:t≤5) (hn1:1≤n) (hb1:1≤base) (hF:LaidF F t false 18 4 u (base+n)) (hl:F.length=len) (hb:(base+n+ovN n 18)*256≤len) (h4:base+n+ovN n 18≤14400) :
  Lev F t fuel (h+1) (ovN n 18) (base+n) (fun i=>(List.range (Qj n 18 i)).flatMap fun j=>X (i*18+j)) (fun i=>1+((List.range (Qj n 18 i)).map fun j=>C (i*18+j)).sum) where
 one _ _:=L4 _ _
 go i hi d way lo hi' s hd hw hway hr hX hdry hfu hdeep:=by
  subst hn
  obtain⟨d',rfl⟩:∃ d',d=d'+1:=⟨d-1,by omega⟩
  have N:=Pv E h1 h2 (leaf:=false) (m:=18) (v:=4) rfl rfl (fun _=>hn1) hi
  have B:=Az N
  obtain⟨he,a5⟩:=Zd9 N hl M0 M0 (hF i hi) t (.inr rfl)
  have b4:=Zmi (m:=18) Do hn1 hi
  have a1:=Hr u 18 i
  have a3:∀ j,j<Qj u.length 18 i→(Zy u 18 i).getD j Zo=u.getD (i*18+j) Zo:=fun j hj=>Hp hj
  have b6:1≤Qj u.length 18 i:=by unfold Qj;omega
  have a9:i*18+Qj u.length 18 i≤u.length:=by unfold Qj;omega
  replace hX:∀ x∈(List.range (Qj u.length 18 i)).flatMap (fun j=>X (i*18+j)),lo≤x.1∧x.1<hi':=hX
  replace hfu:((s.looked+(1+((List.range (Qj u.length 18 i)).map fun j=>C (i*18+j)).sum):Nat):Int)≤fuel:=hfu
  show ∃ (es:List Ent) (bl:List Int),es.map kvE=(List.range (Qj u.length 18 i)).flatMap (fun j=>X (i*18+j))∧bl.length=1+((List.range (Qj u.length 18 i)).map fun j=>C (i*18+j)).sum∧Xd F t fuel (d'+1) way ((base+u.length+i:Nat):Int) lo hi' s={ s with es:=s.es++es,bs:=s.bs++bl,deep:=((way.length+(h+1)+1:Nat):Int),looked:=s.looked+(1+((List.range (Qj u.length 18 i)).map fun j=>C (i*18+j)).sum) }
  generalize Qj u.length 18 i=z at a1 a3 b6 a9 hX hfu ⊢
  obtain⟨no,b5⟩:∃ no:Int,no=((base+u.length+i:Nat):Int):=⟨_,rfl⟩
  rw[←b5] at he a5 ⊢
  have hC:Xb (inB F no)=(Zy u 18 i).length:=by rw[a5];exact B.c
  have hK:Ha F no=Vr (Zy u 18 i):=by unfold Ha;rw[hC,a5];exact B.k
  have hV:Uf F no=Jq (Zy u 18 i):=by unfold Uf;rw[hC,a5];exact B.v
  have hL:Yj (inB F no)=false:=by rw[a5];exact B.l
  have b1:(Vr (Zy u 18 i)).length=z:=by rw[Bj,a1]
  have b7:(Jq (Zy u 18 i)).length=z:=by rw[Bu,a1]
  have b3:∀ j,j<z→(Vr (Zy u 18 i)).getD j 0=(u.getD (i*18+j) Zo).1:=fun j hj=>by rw[Zay (by rw[a1];exact hj),a3 j hj]
  have a7:∀ j,j<z→(Jq (Zy u 18 i)).getD j []=(u.getD (i*18+j) Zo).2.1:=fun j hj=>by rw[Zac (by rw[a1];exact hj),a3 j hj]
  have a8:∀ j,j<z→0≤(Vr (Zy u 18 i)).getD j 0∧(Vr (Zy u 18 i)).getD j 0≤281474976710655:=fun j hj=>N.hk0 j (by rw[a1];exact hj)
  have a6:∀ j,j+1<z→(Vr (Zy u 18 i)).getD j 0<(Vr (Zy u 18 i)).getD (j+1) 0:=fun j hj=>N.hk1 j (by rw[a1];exact hj)
  have a2:=Oa N
  have b9:(Zy u 18 i).length=z:=a1
  generalize Vr (Zy u 18 i)=K at hK b1 b3 a8 a6 a2
  generalize Jq (Zy u 18 i)=Vs at hV b7 a7
  rw[b9] at hC
  have b0:∀ j,j<z→∀ x∈X (i*18+j),lo≤x.1∧x.1<hi':=fun j hj x hx=>hX x (List.mem_flatMap.2 ⟨j,B9.2 hj,hx⟩)
  have a0:∀ j,j<z→∃ v r,X (i*18+j)=(K.getD j 0,v)::r:=fun j hj=>by rw[b3 j hj];exact hh _ M0
  have b2:∀ j,j<z→lo≤K.getD j 0∧K.getD j 0<hi':=by
   intro j hj
   obtain⟨v,r,hv⟩:=a0 j hj
   exact b0 j hj (K.getD j 0,v) (by rw[hv];exact F8)
  have hk:∀ x∈K,lo≤x∧x<hi':=by
   intro x hx
   obtain⟨j,hj,rfl⟩:=List.mem_iff_getElem.1 hx
   have:=b2 j M0
   simpa [List.getD,hj] using this
  have b8:=of_decide_eq_true hr
  have a4:Qc F way no t lo hi' s.deep=0:=Zw8 M0 (fun y hy=>by have:=hway y hy;omega) he hr (by rw[hK];exact a2) (by rw[hK];exact hk) fun q=>by rw[hL] at q;cases q
  obtain⟨es,bl,e1,e2,e3⟩:=lev_loop L (way:=way) (no:=no) (hi':=hi') (s0:={ s with looked:=s.looked+1,bs:=s.bs++[no] }) (z:=z) (a:=i*18) (d':=d') K hK b1 a9
   (fun k hk=>by rw[hV,a7 k hk];exact hu _ M0) a0 hs hs1 (fun k hk=>⟨(a8 k hk).1,(b2 k hk).2⟩) a6 (fun k hk x hx=>(b0 k hk x hx).2) b8.2.2 hb1 M0 M0 M0 (fun y hy=>by have:=hway y hy;omega) M0 hdry (by rw[show way.length+(h+1)+1=way.length+(h+1)+1 from rfl];exact hdeep) (by simp only;omega) z (At _)
  refine⟨es,no::bl,e1,by rw[C7,e2];omega,?_⟩
  unfold Xd
  rw[if_neg M0,if_neg (by rw[a4];simp),if_neg (by rw[hL];simp),hC,e3,if_neg M0]
  simp only[WS.mk.injEq,A1,List.singleton_append,true_and,and_true]
  omega
theorem Zcs{n m:Nat}(hm:1≤m)(C:Nat→Nat):∀ j,j≤ovN n m→((List.range j).map fun i=>1+((List.range (Qj n m i)).map fun k=>C (i*m+k)).sum).sum=j+((List.range (min (j*m) n)).map C).sum
 | 0,_=>by simp
 | j+1,hj=>by
  have a0:=Zil hm (show j<ovN n m by omega)
  have e:min ((j+1)*m) n=j*m+Qj n m j:=by unfold Qj;rw[G8,I6];omega
  rw[C3,B5,F0,Zcs hm C j M0,e,O6,B5,F0,H3 a0]
  simp only[D7,H0,G5,N3,M7]
  have:((List.range (Qj n m j)).map fun k=>C (j*m+k))=(List.range (Qj n m j)).map (C ∘ fun x=>j*m+x):=rfl
  rw[this];omega
theorem Ms{α:Type}{n m:Nat}(hm:1≤m)(X:Nat→List α):∀ j,j≤ovN n m→((List.range j).flatMap fun i=>(List.range (Qj n m i)).flatMap fun k=>X (i*m+k))=(List.range (min (j*m) n)).flatMap X
 | 0,_=>by simp
 | j+1,hj=>by
  have a0:=Zil hm (show j<ovN n m by omega)
  have e:min ((j+1)*m) n=j*m+Qj n m j:=by unfold Qj;rw[G8,I6];omega
  rw[C3,C8,Ms hm X j M0,e,O6,C8,H3 a0]
  simp[List.flatMap_map]
theorem Zh8{n m:Nat}(hm:1≤m):min (ovN n m*m) n=n:=by
 have h:=Nat.div_add_mod (n+m-1) m
 have h2:=Nat.mod_lt (n+m-1) (show 0<m by omega)
 have h3:(n+m-1)/m*m≤ovN n m*m:=E7 m (by unfold ovN;omega)
 rw[N1] at h
 omega
def Zmz(X:List (Int×Bl))(total deep:Nat)(w:WS):Prop:=∃ (es:List Ent) (bl:List Int),es.map kvE=X∧bl.length=total∧w=⟨es,bl,(deep:Int),total,[],false⟩
theorem Zi7{t fuel:Int}(h1:1≤t)(h2:t≤5)(n:Nat):∀ (u:List Ent) (h base:Nat) (bs F:Bl) (X:Nat→List (Int×Bl)) (C:Nat→Nat),u.length=n→1≤n→EntsOk 4 u→(∀ k,k<n→(u.getD k Zo).2.1=leB ((base+k:Nat):Int) 4∧(u.getD k Zo).2.2=((base+k:Nat):Int)) →
 (2≤n→∀ k,k<n→∃ v r,X k=((u.getD k Zo).1,v)::r)→(∀ a b,a<b→b<n→∀ x∈X a,∀ y∈X b,x.1<y.1)→(∀ a,a<n→(X a).Pairwise fun x y=>x.1<y.1)→F=(Vi t u (base+n) bs).2→1≤base→(base+n+((Jy n).sum-n))*256≤bs.length→base+n+((Jy n).sum-n)≤14400→Lev F t fuel h n base X C→h+(Jy n).length≤16 →
 (∀ k,k<n→∀ x∈X k,0≤x.1∧x.1<281474976710656)→((((List.range n).map C).sum+((Jy n).sum-n):Nat):Int)≤fuel →
 Zmz ((List.range n).flatMap X) (((List.range n).map C).sum+((Jy n).sum-n)) (h+(Jy n).length) (Zd F (Vi t u (base+n) bs).1 t fuel):=by
 induction n using Nat.strongRecOn with
 | _ n ih =>
  intro u h base bs F X C hn b3 E hu hh hs b7 hF c2 b8 h4 L a0 hX a7
  subst hn
  by_cases h9:u.length≤1
  ·have c0:u.length=1:=by omega
   have c4:Jy u.length=[1]:=by rw[Jm h9,c0]
   rw[c4] at a0 a7 ⊢
   rw[c0] at a7 ⊢
   simp only[C7,D6,G5,N3,List.range_one,D7,H0,E5,N7,G0,Nat.sub_self,G3] at a0 a7 ⊢
   rw[Vz h9,(hu 0 M0).2]
   obtain⟨es,bl,e1,e2,e3⟩:=L.go 0 M0 17 [] 0 281474976710656 ws0 M0 (by simp;omega) (fun y hy=>by cases hy) Do (fun x hx=>hX 0 M0 x hx) rfl (by simp only[ws0];omega) (.inl rfl)
   refine⟨es,bl,e1,e2,?_⟩
   unfold Zd
   rw[e3]
   simp[ws0]
  ·have c5:=Zru (x:=u.length) M0
   have hp:=Qp u.length 18
   have c1:Jy u.length=u.length::Jy (ovN u.length 18):=Vx h9
   have hg:=Kl (ovN u.length 18)
   rw[c1] at b8 h4 a0 a7
   simp only[G5,C7] at b8 h4 a0 a7
   obtain⟨a1,a2,a3⟩:=Vw (t:=t) (leaf:=false) (m:=18) (v:=4) (l:=u) (q:=base+u.length) (bs:=bs) E h1 h2 rfl rfl (fun _=>by omega) (ovN u.length 18) (At _) M0
   obtain⟨b1,b2⟩:=Wu (t:=t) h1 h2 (ovN u.length 18) (upE u 18 (base+u.length) (ovN u.length 18)) (base+u.length+ovN u.length 18) (Mg t false 18 4 u (base+u.length) bs (ovN u.length 18)) (Xr _ _ _ _) hp (Cy E Do) (by rw[a1];omega)
   have b0:F=(Vi t (upE u 18 (base+u.length) (ovN u.length 18)) (base+u.length+ovN u.length 18) (Mg t false 18 4 u (base+u.length) bs (ovN u.length 18))).2:=by rw[hF,Vd h9]
   have b5:F.length=bs.length:=by rw[b0,b1,a1]
   have a8:LaidF F t false 18 4 u (base+u.length):=by
    intro i hi
    rw[b0,b2 _ M0];exact a2 i hi
   have L2:=Zuk L rfl (fun k hk=>(hu k hk).1) (hh M0) hs b7 E h1 h2 b3 c2 a8 b5 M0 M0
   have a9:∀ i,Qj u.length 18 i=min 18 (u.length-i*18):=fun i=>rfl
   have b9:∀ i,i<ovN u.length 18→i*18<u.length:=fun i hi=>Zmi Do b3 hi
   have b4:=Zh8 (n:=u.length) (m:=18) Do
   have a5:=Zcs (n:=u.length) (m:=18) Do C (ovN u.length 18) (At _)
   have a4:=Ms (n:=u.length) (m:=18) Do X (ovN u.length 18) (At _)
   rw[b4] at a5 a4
   have b6:=ih (ovN u.length 18) M0 (upE u 18 (base+u.length) (ovN u.length 18)) (h+1) (base+u.length) (Mg t false 18 4 u (base+u.length) bs (ovN u.length 18)) F (fun i=>(List.range (Qj u.length 18 i)).flatMap fun j=>X (i*18+j)) (fun i=>1+((List.range (Qj u.length 18 i)).map fun j=>C (i*18+j)).sum) (Xr _ _ _ _) hp (Cy E Do) (fun k hk=>by rw[Jp hk];exact⟨rfl,rfl⟩)
    (fun _ k hk=>by
     obtain⟨v,r,hv⟩:=hh M0 (k*18) (b9 k hk)
     obtain⟨z,hz⟩:∃ z,Qj u.length 18 k=z+1:=⟨Qj u.length 18 k-1,by have:=b9 k hk;rw[a9];omega⟩
     refine⟨v,r++(List.range z).flatMap fun j=>X (k*18+(j+1)),?_⟩
     show(List.range (Qj u.length 18 k)).flatMap _=_
     rw[hz,List.range_succ_eq_map,E5,G3,hv,Jp hk,(Zgp (v:=4) Do b3 hk).1,List.flatMap_map]
     rfl)
    (fun a b c3 hb x hx y hy=>by
     obtain⟨j,hj,hx⟩:=List.mem_flatMap.1 hx
     obtain⟨j2,a6,hy⟩:=List.mem_flatMap.1 hy
     have hj:=B9.1 hj
     have a6:=B9.1 a6
     rw[a9] at hj a6
     have:(a+1)*18≤b*18:=E7 18 c3
     exact hs (a*18+j) (b*18+j2) M0 M0 x hx y hy)
    (fun a ha=>by
     refine List.pairwise_flatMap.2 ⟨fun j hj=>?_,?_⟩
     ·have hj:=B9.1 hj
      rw[a9] at hj
      exact b7 _ M0
     ·refine List.Pairwise.imp_of_mem ?_ (List.pairwise_lt_range)
      intro j j2 hj a6 c6 x hx y hy
      have a6:=B9.1 a6
      rw[a9] at a6
      exact hs (a*18+j) (a*18+j2) M0 M0 x hx y hy)
    b0 M0 (by rw[a1];omega) M0 L2 M0
    (fun k hk x hx=>by
     obtain⟨j,hj,hx⟩:=List.mem_flatMap.1 hx
     have hj:=B9.1 hj
     rw[a9] at hj
     exact hX _ M0 x hx)
    (by rw[a5];omega)
   rw[a5,a4] at b6
   rw[Vd h9,c1,G5,C7]
   have e1:ovN u.length 18+((List.range u.length).map C).sum+((Jy (ovN u.length 18)).sum-ovN u.length 18)=((List.range u.length).map C).sum+(u.length+(Jy (ovN u.length 18)).sum-u.length):=by omega
   have e2:h+1+(Jy (ovN u.length 18)).length=h+((Jy (ovN u.length 18)).length+1):=by omega
   rw[e1,e2] at b6
   exact b6
theorem Zdu:∀ (k x:Nat),x≤18 ^ k→(Jy x).length≤k+1
 | 0,x,h=>by rw[Jm (by simpa using h)];simp
 | k+1,x,h=>by
  by_cases h1:x≤1
  ·rw[Jm h1];simp
  ·rw[Vx h1,C7]
   have:ovN x 18≤18 ^ k:=by
    rw[L3] at h
    have hp:0<18 ^ k:=Nat.pow_pos Do
    unfold ovN
    have:(x+18-1)/18≤18 ^ k:=by
     rw[L9 Do];omega
    omega
   have:=Zdu k _ this
   omega
theorem Zdk{l:List Ent}{m:Nat}:∀ j,((List.range j).flatMap fun i=>(Zy l m i).map kvE)=(l.take (j*m)).map kvE
 | 0=>by simp
 | j+1=>by
  rw[C3,C8,Zdk j,G8,I6,List.take_add,B5]
  simp[Zy]
theorem Zsh(n:Nat):((List.range n).map fun _=>1).sum=n:=by
 induction n with
 | zero=>rfl
 | succ n ih=>rw[C3,B5,F0,ih];simp
theorem Cg{t fuel:Int}{l:List Ent}{q:Nat}{bs:Bl}(h1:1≤t)(h2:t≤5)(E:EntsOk (Jd t true) l)(hn:l.length≤32768)(hq:1≤q)(hbs:(q+Xk t l.length)*256≤bs.length)(h4:q+Xk t l.length≤14400)(hfu:(Xk t l.length:Int)≤fuel) :
 Zmz (l.map kvE) (Xk t l.length) (Uh t l.length).length (Zd (Zz t l q bs).2 (Zz t l q bs).1 t fuel):=by
 obtain⟨m,hm⟩:∃ m,Kh t true=m:=⟨_,rfl⟩
 obtain⟨v,hv⟩:∃ v,Jd t true=v:=⟨_,rfl⟩
 have a6:=Qi t true
 have h6:6≤Kh t true:=by
  unfold Kh;repeat' split
  all_goals first|decide|simp_all
 have b0:=Qp l.length m
 have hg:=Kl (ovN l.length m)
 have hN:Xk t l.length=(Jy (ovN l.length m)).sum:=by unfold Xk Uh;rw[hm]
 have hT:Zz t l q bs=Vi t (upE l m q (ovN l.length m)) (q+ovN l.length m) (Mg t true m v l q bs (ovN l.length m)):=by unfold Zz;rw[hm,hv]
 have hD:(Uh t l.length).length=0+(Jy (ovN l.length m)).length:=by unfold Uh;rw[hm,F3]
 rw[hv] at E
 rw[hm] at a6 h6
 rw[hN] at hbs h4 hfu ⊢
 rw[hD,hT]
 obtain⟨a1,a2,a3⟩:=Vw (t:=t) (leaf:=true) (m:=m) (v:=v) (l:=l) (q:=q) (bs:=bs) E h1 h2 hm hv (fun h=>by cases h) (ovN l.length m) (At _) M0
 obtain⟨b1,b2⟩:=Wu (t:=t) h1 h2 (ovN l.length m) (upE l m q (ovN l.length m)) (q+ovN l.length m) (Mg t true m v l q bs (ovN l.length m)) (Xr _ _ _ _) b0 (Cy E a6.1) (by rw[a1];omega)
 have a9:(Vi t (upE l m q (ovN l.length m)) (q+ovN l.length m) (Mg t true m v l q bs (ovN l.length m))).2.length=bs.length:=by rw[b1,a1]
 have a7:LaidF (Vi t (upE l m q (ovN l.length m)) (q+ovN l.length m) (Mg t true m v l q bs (ovN l.length m))).2 t true m v l q:=by
   intro i hi
   rw[b2 _ M0];exact a2 i hi
 have L:=lev_leaf (fuel:=fuel) hm hv E h1 h2 a7 a9 M0 M0
 have b3:ovN l.length m≤5833:=by
   unfold ovN
   have:(l.length+m-1)/m≤5833:=by
    rw[L9 M0]
    have:=E7 5833 h6
    omega
   omega
 have b4:=Zdu 4 (ovN l.length m) (N0 b3 Do)
 have a4:∀ {i j:Nat},j<Qj l.length m i→i*m+j<l.length:=fun {i j} hj=>by unfold Qj at hj;omega
 have a5:∀ {i:Nat} {x:Int×Bl},x∈(Zy l m i).map kvE→∃ j,j<Qj l.length m i∧x=kvE (l.getD (i*m+j) Zo):=by
   intro i x hx
   obtain⟨y,hy,rfl⟩:=List.mem_map.1 hx
   obtain⟨j,hj,rfl⟩:=List.mem_iff_getElem.1 hy
   have a0:j<Qj l.length m i:=by rw[←Hr];exact hj
   refine⟨j,a0,?_⟩
   rw[←Hp a0];simp[List.getD,hj]
 have a8:=Zi7 (fuel:=fuel) h1 h2 (ovN l.length m) (upE l m q (ovN l.length m)) 0 q (Mg t true m v l q bs (ovN l.length m)) _ (fun i=>(Zy l m i).map kvE) (fun _=>1) (Xr _ _ _ _) b0 (Cy E a6.1) (fun k hk=>by rw[Jp hk];exact⟨rfl,rfl⟩)
   (fun b8 k hk=>by
    have b6:1≤l.length:=by
     rcases M1 l.length with q0|q0
     ·rw[q0] at b8
      have:ovN 0 m=1:=by unfold ovN;rw[Nat.div_eq_of_lt M0];rfl
      omega
     ·exact q0
    obtain⟨k1,k2⟩:=Zgp (v:=v) (q:=q) a6.1 b6 hk
    have hz:0<Qj l.length m k:=by unfold Qj;omega
    rw[Jp hk,k1]
    have hc:=Hr l m k
    cases hcc:Zy l m k with
    | nil=>rw[hcc] at hc;simp at hc;omega
    | cons y r =>
     refine⟨y.2.1,r.map kvE,?_⟩
     have h0:=Hp (l:=l) (m:=m) (i:=k) (j:=0) hz
     rw[hcc,G3] at h0
     simp only[D7]
     have e0:y=l.getD (k*m) Zo:=by simpa [List.getD] using h0
     rw[e0];rfl)
   (fun a b b7 hb x hx y hy=>by
    obtain⟨j,hj,rfl⟩:=a5 hx
    obtain⟨j2,a0,rfl⟩:=a5 hy
    have:(a+1)*m≤b*m:=E7 m b7
    rw[G8,I6] at this
    have b9:j<m:=by unfold Qj at hj;omega
    exact E.mono (a:=a*m+j) (b:=b*m+j2) M0 (a4 a0))
   (fun a ha=>by
    rw[List.pairwise_map]
    refine List.pairwise_iff_getElem.2 fun i j hi hj c0=>?_
    have a0:j<Qj l.length m a:=by rw[←Hr];exact hj
    have e1:=Hp (l:=l) (m:=m) (i:=a) (j:=i) M0
    have e2:=Hp (l:=l) (m:=m) (i:=a) (j:=j) a0
    simp only[List.getD,A4 hi,A4 hj,J0] at e1 e2
    show(Zy l m a)[i].1<(Zy l m a)[j].1
    rw[e1,e2]
    exact E.mono (a:=a*m+i) (b:=a*m+j) M0 (a4 a0))
   rfl hq (by rw[a1];omega) M0 L M0
   (fun k hk x hx=>by
    obtain⟨j,hj,rfl⟩:=a5 hx
    have:=E.hk _ (a4 hj)
    exact⟨this.1,by have:=this.2;simp only[kvE];omega⟩)
   (by rw[Zsh];omega)
 rw[Zsh,Zdk] at a8
 rw[show ovN l.length m+((Jy (ovN l.length m)).sum-ovN l.length m)=(Jy (ovN l.length m)).sum by omega] at a8
 have b5:=Zh8 (n:=l.length) (m:=m) a6.1
 rw[C1 M0] at a8
 exact a8
theorem Za1{l x y:Bl}{a b:Nat}(ha:a+x.length≤l.length)(hb:b+y.length≤l.length)(hd:a+x.length≤b∨b+y.length≤a):Qh (Qh l a x) b y=Qh (Qh l b y) a x:=by
 have e1:=Yg ha
 have e2:=Yg hb
 apply Am
 ·rw[Yg (by rw[e1];exact hb),e1,Yg (by rw[e2];exact ha),e2]
 ·intro j hj
  rw[Jk (by rw[e1];exact hb),Jk ha,Jk (by rw[e2];exact ha),Jk hb]
  by_cases p:a≤j∧j<a+x.length
  ·rw[if_neg M0,if_pos p,if_pos p]
  ·rw[if_neg p,if_neg p]
theorem Zmr{t:Int}{leaf:Bool}{m v:Nat}{l:List Ent}{q k:Nat}{bs x:Bl}(E:EntsOk v l)(h1:1≤t)(h2:t≤5)(hm:Kh t leaf=m)(hv:Jd t leaf=v)(hl:leaf=false→1≤l.length)(hx:x.length=256)(hk:(k+1)*256≤bs.length)(j:Nat) :
 j≤ovN l.length m→(q+j)*256≤bs.length→(k<q∨q+j≤k)→Qh (Mg t leaf m v l q bs j) (k*256) x=Mg t leaf m v l q (Qh bs (k*256) x) j:=by
 induction j with
 | zero=>exact fun _ _ _=>by simp only[Mg]
 | succ j ih =>
  intro hj hq hd
  have ih:=ih M0 M0 M0
  have a1:=(Vw (t:=t) (leaf:=leaf) (m:=m) (v:=v) (l:=l) (q:=q) (bs:=bs) E h1 h2 hm hv hl j M0 M0).1
  have a0:=Re (Pv E h1 h2 hm hv hl (show j<ovN l.length m by omega))
  have a2:(Xu 2 ((q+j:Nat):Int) (Zoq t leaf m v (Zy l m j))).length=256:=Yn (by rw[a0];decide)
  rw[Bq,Bq,←ih]
  exact Za1 (by rw[a2,a1];omega) (by rw[hx,a1];omega) (by rw[a2,hx];omega)
theorem Zqd{t:Int}(h1:1≤t)(h2:t≤5){k:Nat}{x:Bl}(hx:x.length=256)(n:Nat):∀ (u:List Ent) (q:Nat) (bs:Bl),u.length=n→1≤n→EntsOk 4 u→(q+((Jy n).sum-n))*256≤bs.length→(k+1)*256≤bs.length→(k<q∨q+((Jy n).sum-n)≤k) →
 Vi t u q (Qh bs (k*256) x)=((Vi t u q bs).1,Qh (Vi t u q bs).2 (k*256) x):=by
 induction n using Nat.strongRecOn with
 | _ n ih =>
  intro u q bs hn a0 E hq hk hd
  subst hn
  by_cases h:u.length≤1
  ·rw[Vz h,Vz h]
  ·have a5:=Zru (x:=u.length) M0
   have hp:=Qp u.length 18
   have a4:(Jy u.length).sum=u.length+(Jy (ovN u.length 18)).sum:=by rw[Vx h];rfl
   have hg:=Kl (ovN u.length 18)
   rw[Vd h,Vd h]
   obtain⟨a1,a2,a3⟩:=Vw (t:=t) (leaf:=false) (m:=18) (v:=4) (l:=u) (q:=q) (bs:=bs) E h1 h2 rfl rfl (fun _=>by omega) (ovN u.length 18) (At _) M0
   rw[←Zmr (leaf:=false) (m:=18) (v:=4) E h1 h2 rfl rfl (fun _=>by omega) hx hk (ovN u.length 18) (At _) M0 M0]
   exact ih (ovN u.length 18) M0 (upE u 18 q (ovN u.length 18)) (q+ovN u.length 18) _ (Xr _ _ _ _) hp (Cy E Do) (by rw[a1];omega) (by rw[a1];exact hk) M0
theorem Hg{t:Int}{l:List Ent}{q k:Nat}{bs x:Bl}(h1:1≤t)(h2:t≤5)(E:EntsOk (Jd t true) l)(hx:x.length=256)(hq:(q+Xk t l.length)*256≤bs.length)(hk:(k+1)*256≤bs.length)(hd:k<q∨q+Xk t l.length≤k) :
 Zz t l q (Qh bs (k*256) x)=((Zz t l q bs).1,Qh (Zz t l q bs).2 (k*256) x):=by
 obtain⟨m,hm⟩:∃ m,Kh t true=m:=⟨_,rfl⟩
 have a0:=Qi t true
 have a4:=Qp l.length m
 have hg:=Kl (ovN l.length m)
 have hN:Xk t l.length=(Jy (ovN l.length m)).sum:=by unfold Xk Uh;rw[hm]
 rw[hm] at a0
 rw[hN] at hq hd
 unfold Zz
 rw[hm]
 obtain⟨a1,a2,a3⟩:=Vw (t:=t) (leaf:=true) (m:=m) (v:=Jd t true) (l:=l) (q:=q) (bs:=bs) E h1 h2 hm rfl (fun h=>by cases h) (ovN l.length m) (At _) M0
 rw[←Zmr E h1 h2 hm rfl (fun h=>by cases h) hx hk (ovN l.length m) (At _) M0 M0]
 exact Zqd h1 h2 hx (ovN l.length m) (upE l m q (ovN l.length m)) (q+ovN l.length m) _ (Xr _ _ _ _) a4 (Cy E a0.1) (by rw[a1];omega) (by rw[a1];exact hk) M0
theorem Qf{t:Int}{l:List Ent}{q:Nat}{bs:Bl}(h1:1≤t)(h2:t≤5)(E:EntsOk (Jd t true) l)(hq:(q+Xk t l.length)*256≤bs.length):(Zz t l q bs).2.length=bs.length∧∀ x,x<q→Vv (Zz t l q bs).2 x=Vv bs x:=by
 obtain⟨m,hm⟩:∃ m,Kh t true=m:=⟨_,rfl⟩
 have a0:=Qi t true
 have a4:=Qp l.length m
 have hg:=Kl (ovN l.length m)
 have hN:Xk t l.length=(Jy (ovN l.length m)).sum:=by unfold Xk Uh;rw[hm]
 rw[hm] at a0
 rw[hN] at hq
 unfold Zz
 rw[hm]
 obtain⟨a1,a2,a3⟩:=Vw (t:=t) (leaf:=true) (m:=m) (v:=Jd t true) (l:=l) (q:=q) (bs:=bs) E h1 h2 hm rfl (fun h=>by cases h) (ovN l.length m) (At _) M0
 obtain⟨b1,b2⟩:=Wu (t:=t) h1 h2 (ovN l.length m) (upE l m q (ovN l.length m)) (q+ovN l.length m) (Mg t true m (Jd t true) l q bs (ovN l.length m)) (Xr _ _ _ _) a4 (Cy E a0.1) (by rw[a1];omega)
 exact⟨by rw[b1,a1],fun x hx=>by rw[b2 x M0,a3 x hx]⟩
theorem Zgk{t s:Int}{leaf:Bool}{m v:Nat}{l e:List Ent}{q p:Nat}{bs:Bl}(E:EntsOk v l)(h1:1≤t)(h2:t≤5)(hm:Kh t leaf=m)(hv:Jd t leaf=v)(hl:leaf=false→1≤l.length)(s1:1≤s)(s2:s≤5)(Es:EntsOk (Jd s true) e)(hp:(p+Xk s e.length)*256≤bs.length)(j:Nat) :
 j≤ovN l.length m→(q+j)*256≤bs.length→p+Xk s e.length≤q→Zz s e p (Mg t leaf m v l q bs j)=((Zz s e p bs).1,Mg t leaf m v l q (Zz s e p bs).2 j):=by
 induction j with
 | zero=>exact fun _ _ _=>by simp only[Mg]
 | succ j ih =>
  intro hj hq hd
  have ih:=ih M0 M0 hd
  have a1:=(Vw (t:=t) (leaf:=leaf) (m:=m) (v:=v) (l:=l) (q:=q) (bs:=bs) E h1 h2 hm hv hl j M0 M0).1
  have a0:=Re (Pv E h1 h2 hm hv hl (show j<ovN l.length m by omega))
  have a2:(Xu 2 ((q+j:Nat):Int) (Zoq t leaf m v (Zy l m j))).length=256:=Yn (by rw[a0];decide)
  rw[Bq,Bq,Hg s1 s2 Es a2 (by rw[a1];exact hp) (by rw[a1];omega) M0,ih]
theorem Zj2{t s:Int}{e:List Ent}{p:Nat}(h1:1≤t)(h2:t≤5)(s1:1≤s)(s2:s≤5)(Es:EntsOk (Jd s true) e)(n:Nat):∀ (u:List Ent) (q:Nat) (bs:Bl),u.length=n→1≤n→EntsOk 4 u→(q+((Jy n).sum-n))*256≤bs.length→(p+Xk s e.length)*256≤bs.length→p+Xk s e.length≤q →
 Zz s e p (Vi t u q bs).2=((Zz s e p bs).1,(Vi t u q (Zz s e p bs).2).2):=by
 induction n using Nat.strongRecOn with
 | _ n ih =>
  intro u q bs hn a4 E hq hp hd
  subst hn
  by_cases h:u.length≤1
  ·rw[Vz h,Vz h]
  ·have a6:=Zru (x:=u.length) M0
   have a0:=Qp u.length 18
   have a5:(Jy u.length).sum=u.length+(Jy (ovN u.length 18)).sum:=by rw[Vx h];rfl
   have hg:=Kl (ovN u.length 18)
   obtain⟨a1,a2,a3⟩:=Vw (t:=t) (leaf:=false) (m:=18) (v:=4) (l:=u) (q:=q) (bs:=bs) E h1 h2 rfl rfl (fun _=>by omega) (ovN u.length 18) (At _) M0
   have hl:=Zgk (leaf:=false) (m:=18) (v:=4) (p:=p) E h1 h2 rfl rfl (fun _=>by omega) s1 s2 Es hp (ovN u.length 18) (At _) M0 hd
   rw[Vd h,Vd h,ih (ovN u.length 18) M0 (upE u 18 q (ovN u.length 18)) (q+ovN u.length 18) _ (Xr _ _ _ _) a0 (Cy E Do) (by rw[a1];omega) (by rw[a1];exact hp) M0,hl]
theorem Wc{t s:Int}{l e:List Ent}{q p:Nat}{bs:Bl}(h1:1≤t)(h2:t≤5)(E:EntsOk (Jd t true) l)(s1:1≤s)(s2:s≤5)(Es:EntsOk (Jd s true) e)(hq:(q+Xk t l.length)*256≤bs.length)(hd:p+Xk s e.length≤q) :
 Zz s e p (Zz t l q bs).2=((Zz s e p bs).1,(Zz t l q (Zz s e p bs).2).2):=by
 obtain⟨m,hm⟩:∃ m,Kh t true=m:=⟨_,rfl⟩
 have a0:=Qi t true
 have a5:=Qp l.length m
 have hg:=Kl (ovN l.length m)
 have hN:Xk t l.length=(Jy (ovN l.length m)).sum:=by unfold Xk Uh;rw[hm]
 rw[hm] at a0
 rw[hN] at hq
 have a4:(p+Xk s e.length)*256≤bs.length:=by omega
 obtain⟨a1,a2,a3⟩:=Vw (t:=t) (leaf:=true) (m:=m) (v:=Jd t true) (l:=l) (q:=q) (bs:=bs) E h1 h2 hm rfl (fun h=>by cases h) (ovN l.length m) (At _) M0
 have hl:=Zgk (p:=p) E h1 h2 hm rfl (fun h=>by cases h) s1 s2 Es a4 (ovN l.length m) (At _) M0 hd
 have hu:=Zj2 (p:=p) h1 h2 s1 s2 Es (ovN l.length m) (upE l m q (ovN l.length m)) (q+ovN l.length m) (Mg t true m (Jd t true) l q bs (ovN l.length m)) (Xr _ _ _ _) a5 (Cy E a0.1) (by rw[a1];omega) (by rw[a1];exact a4) M0
 rw[show(Zz t l q bs)=Vi t (upE l m q (ovN l.length m)) (q+ovN l.length m) (Mg t true m (Jd t true) l q bs (ovN l.length m)) from by unfold Zz;rw[hm],hu,hl]
 rw[show(Zz t l q (Zz s e p bs).2)=Vi t (upE l m q (ovN l.length m)) (q+ovN l.length m) (Mg t true m (Jd t true) l q (Zz s e p bs).2 (ovN l.length m)) from by unfold Zz;rw[hm]]
def As:List Ln:=[(4,3,2147483647)]
theorem cntP_ok:Gj As:=by
 refine⟨by decide,fun i hi=>?_⟩
 have a0:i<1:=hi
 obtain rfl:i=0:=by omega
 simp[As,List.getD]
def Hx(F:List Int):List Int:=((List.range F.length).filter fun k=>F.getD k 0==3).map fun k:Nat=>(k:Int)
theorem Zbk(F:List Int)(n:Int):Hx (F++[n])=Hx F++(if n=3 then [(F.length:Int)] else []):=by
 unfold Hx
 rw[A8,List.length_singleton,C3,List.filter_append,B5]
 congr 1
 ·congr 1
  apply List.filter_congr
  intro k hk
  have a0:=B9.1 hk
  simp[List.getD,Ge a0]
 ·by_cases h:n=3
  ·simp[List.getD,h]
  ·simp[List.getD,h]
theorem Zdl{F:List Int}{k:Int}:k∈Hx F↔0≤k∧F.getD k.toNat 0=3:=by
 unfold Hx
 simp only[List.mem_map,List.mem_filter,B9,beq_iff_eq]
 constructor
 ·rintro⟨j,⟨_,h⟩,rfl⟩;exact⟨by omega,by simpa using h⟩
 ·rintro⟨h0,h⟩
  refine⟨k.toNat,⟨?_,h⟩,by omega⟩
  apply Nat.lt_of_not_le
  intro q
  rw[show F.getD k.toNat 0=0 from by simp[List.getD,q]] at h
  omega
theorem Zgs(F:List Int):(Hx F).Nodup:=by
 unfold Hx
 refine List.Pairwise.map _ (R:=fun a b=>a≠b) (fun a b h=>by omega) ?_
 exact List.Pairwise.filter _ (List.nodup_range)
def Ht(E:List Ent)(i:Nat):Int:=(E.getD i Zo).1
def Nh(E:List Ent)(i:Nat):Int:=if i=0 then -1 else Ht E (i-1)
def jVal(E:List Ent)(i:Nat):Int:=((Xs As (E.getD i Zo).2.1).getD 0 0:Nat)
def Ziv(F:List Int)(E:List Ent)(i:Nat):Int :=
 if Ht E i≤Nh E i then 8 else if F.getD (Ht E i).toNat 0≠3 then 13 else Xn As (E.getD i Zo).2.1
def jOk (F:List Int)(E:List Ent)(i:Nat):Prop:=∀ j,j<i→Ziv F E j=0
theorem jOk_next{F:List Int}{E:List Ent}{i:Nat}(h:jOk F E i)(h2:Ziv F E i=0):jOk F E (i+1):=fun j hj=>by
 by_cases e:j=i
 ·subst e;exact h2
 ·exact h j M0
theorem Zk6{F:List Int}{E:List Ent}{i:Nat}(h:Ziv F E i=0):Nh E i<Ht E i∧F.getD (Ht E i).toNat 0=3∧Xn As (E.getD i Zo).2.1=0:=by
 unfold Ziv at h
 by_cases h1:Ht E i≤Nh E i
 ·rw[if_pos h1] at h;omega
 ·rw[if_neg h1] at h
  by_cases h2:F.getD (Ht E i).toNat 0=3
  ·rw[if_neg (fun q=>q h2)] at h;exact⟨by omega,h2,h⟩
  ·rw[if_pos h2] at h;omega
theorem Ep{F:List Int}{E:List Ent}{i:Nat}(h:jOk F E i) : -1≤Nh E i∧∀ j,j<i→0≤Ht E j∧Ht E j≤Nh E i∧F.getD (Ht E j).toNat 0=3:=by
 induction i with
 | zero=>exact⟨by unfold Nh;rw[if_pos rfl];exact M5 _,fun j hj=>absurd hj M0⟩
 | succ i ih =>
  obtain⟨h1,h2⟩:=ih fun j hj=>h j M0
  have hb:=Zk6 (h i M0)
  have e:Nh E (i+1)=Ht E i:=by unfold Nh;rw[if_neg M0,M2]
  rw[e]
  refine⟨by omega,fun j hj=>?_⟩
  by_cases q:j=i
  ·subst q;exact⟨by omega,M5 _,hb.2.1⟩
  ·have:=h2 j M0;exact⟨this.1,by omega,this.2.2⟩
theorem Zwu{F:List Int}{E:List Ent}{i:Nat}(h:jOk F E i):∀ a b,a<b→b<i→Ht E a<Ht E b:=fun a b a0 hb=>by
 have h1:=(Ep (i:=b) fun j hj=>h j M0).2 a a0
 have h2:=Zk6 (h b hb)
 omega
def Ma(F:List Int)(E:List Ent)(i:Nat):List Int:=(Hx F).filter fun k=>(List.range i).all fun j=>Ht E j != k
theorem Zoa(F:List Int)(E:List Ent):Ma F E 0=Hx F:=by simp[Ma]
theorem Zkb(F:List Int)(E:List Ent)(i:Nat):(Ma F E i).Nodup:=List.Pairwise.filter _ (Zgs F)
theorem Zg9{F:List Int}{E:List Ent}{i:Nat}{k:Int}:k∈Ma F E i↔(0≤k∧F.getD k.toNat 0=3)∧∀ j,j<i→Ht E j≠k:=by
 unfold Ma
 rw[List.mem_filter,Zdl]
 simp
theorem Zla{F:List Int}{E:List Ent}{i:Nat}(h:jOk F E i)(hk:Nh E i<Ht E i):Ht E i∈Ma F E i↔F.getD (Ht E i).toNat 0=3:=by
 have hl:=Ep h
 rw[Zg9]
 constructor
 ·exact fun q=>q.1.2
 ·exact fun q=>⟨⟨by omega,q⟩,fun j hj e=>by have:=hl.2 j hj;omega⟩
theorem Ztw(F:List Int)(E:List Ent)(i:Nat):(Ma F E i).erase (Ht E i)=Ma F E (i+1):=by
 rw[(Zkb F E i).erase_eq_filter]
 unfold Ma
 rw[List.filter_filter]
 apply List.filter_congr
 intro k _
 have e:([i].all fun j=>Ht E j != k)=(k != Ht E i):=by
  show(Ht E i != k&&true)=_
  rw[Bool.and_true,bne_comm]
 rw[C3,List.all_append,e]
 exact Bool.and_comm _ _
def Zjk(E:List Ent)(i k:Nat):Option Nat:=(List.range i).find? fun j=>Ht E j==(k:Int)
theorem Zn0{E:List Ent}{i k:Nat}(h:∀ j,j<i→Ht E j≠(k:Int)):Zjk E i k=none:=by
 unfold Zjk
 rw[M3]
 intro j hj
 have:=h j (B9.1 hj)
 simpa using this
theorem Zc4{E:List Ent}{i k j:Nat}(hj:j<i)(hk:Ht E j=(k:Int))(hn:∀ m,m<j→Ht E m≠(k:Int)):Zjk E i k=some j:=by
 unfold Zjk
 rw[K8]
 exact⟨by simpa using hk,B9.2 hj,fun m hm=>by simpa using hn m hm⟩
def Zvh(F:List Int)(E:List Ent)(i k:Nat):Int:=match Zjk E i k with|some j=>jVal E j|none=>F.getD k 0
def Zfx(F:List Int)(E:List Ent)(i:Nat):List Int:=(List.range F.length).map (Zvh F E i)
theorem Hj(F:List Int)(E:List Ent)(i:Nat):(Zfx F E i).length=F.length:=by simp[Zfx]
theorem Zmn{F:List Int}{E:List Ent}{i k:Nat}(h:k<F.length):(Zfx F E i).getD k 0=Zvh F E i k:=by simp[Zfx,List.getD,B8 h]
theorem Zse(F:List Int)(E:List Ent):Zfx F E 0=F:=by
 apply F4 (by rw[Hj])
 intro k h1 h2
 simp[Zfx,Zvh,Zjk,List.getD,h2]
theorem Zwc{F:List Int}{E:List Ent}{i:Nat}(h:F.getD (Ht E i).toNat 0=3):(Ht E i).toNat<F.length:=by
 apply Nat.lt_of_not_le
 intro q
 rw[show F.getD (Ht E i).toNat 0=0 from by simp[List.getD,q]] at h
 omega
theorem Zs5{F:List Int}{E:List Ent}{i k:Nat}(h:jOk F E (i+1)):Zvh F E (i+1) k=if Ht E i=(k:Int) then jVal E i else Zvh F E i k:=by
 have a0:=Zwu h
 by_cases e:Ht E i=(k:Int)
 ·rw[if_pos e]
  unfold Zvh
  rw[Zc4 M0 e fun m hm=>by have:=a0 m i hm M0;omega]
 ·rw[if_neg e]
  unfold Zvh Zjk
  rw[C3,List.find?_append]
  have:List.find? (fun j=>Ht E j==(k:Int)) [i]=none:=by simp[e]
  rw[this]
  simp
theorem outL_set{F:List Int}{E:List Ent}{i:Nat}(h:jOk F E (i+1)):((Zfx F E i).map V0).set (Ht E i).toNat (V0 (jVal E i))=(Zfx F E (i+1)).map V0:=by
 have hb:=Zk6 (h i M0)
 have hl:=(Ep (i:=i) fun j hj=>h j M0).1
 have hk:=Zwc hb.2.1
 have r:∀ (m k:Nat),k<F.length→((Zfx F E m).map V0)[k]? = some (V0 (Zvh F E m k)):=fun m k a0=>by
  have g2:=Zmn (E:=E) (i:=m) a0
  rw[show(Zfx F E m).getD k 0=(Zfx F E m)[k]'(by rw[Hj];exact a0) from by simp[List.getD,Hj,a0]] at g2
  rw[C4,A4 (by rw[Hj];exact a0),D5,g2]
 apply If
 intro k
 by_cases a0:k<F.length
 ·rw[r _ _ a0,Zs5 h]
  by_cases e:(Ht E i).toNat=k
  ·subst e
   rw[I5 (by simp[Hj];exact hk),if_pos M0]
  ·rw[G7 e,r _ _ a0,if_neg M0]
 ·rw[C6 (by simp[Hj];omega),C6 (by simp[Hj];omega)]
def Pp(F:List Int)(E:List Ent):Int×List Int :=
 match (List.range E.length).find? (fun i=>Ziv F E i != 0) with
 | some i=>(Ziv F E i,[])
 | none=>if Ma F E E.length=[] then(0,Zfx F E E.length) else(13,[])
theorem Oc{F:List Int}{E:List Ent}{i:Nat}(hi:i<E.length)(h:jOk F E i)(hb:Ziv F E i≠0):Pp F E=(Ziv F E i,[]):=by
 unfold Pp
 rw[show(List.range E.length).find? (fun i=>Ziv F E i != 0)=some i from by
  rw[K8]
  exact⟨by simpa using hb,B9.2 hi,fun m hm=>by simpa using h m hm⟩]
theorem Zbg{F:List Int}{E:List Ent}(h:jOk F E E.length):Pp F E=if Ma F E E.length=[] then(0,Zfx F E E.length) else(13,[]):=by
 unfold Pp
 rw[show(List.range E.length).find? (fun i=>Ziv F E i != 0)=none from by
  rw[M3]
  intro i hi
  have:=h i (B9.1 hi)
  simp[this]]
structure FormOk(L:List (List Int)):Prop where
 len:∀ i,i<L.length→1≤(L.getD i []).length∧(L.getD i []).length≤960∧(i+1<L.length→(L.getD i []).length=960)
 small:∀ i,i<L.length→Ui (L.getD i [])
def Gy(L:List (List Int))(i:Nat):List Int:=(L.take i).flatten
theorem Zds{L:List (List Int)}{i:Nat}(h:i<L.length):Gy L (i+1)=Gy L i++L.getD i []:=by
 unfold Gy
 rw[A7 h,List.flatten_append]
 simp[List.getD,h]
theorem Zgg{L:List (List Int)}(h:FormOk L):∀ i,i≤L.length→(Gy L i).length≤i*960
 | 0,_=>by simp[Gy]
 | i+1,hi=>by
  rw[Zds M0,A8]
  have:=Zgg h i M0
  have:=(h.len i M0).2.1
  omega
theorem jOut_not{F:List Int}{E:List Ent}{n k:Nat}(h:jOk F E n)(hk:F.getD k 0≠3):Zvh F E n k=F.getD k 0:=by
 unfold Zvh
 rw[Zn0]
 intro j hj e
 have:=(Ep h).2 j hj
 rw[e] at this
 exact hk (by simpa using this.2.2)
theorem open_nil{F:List Int}{E:List Ent}{n:Nat}(h:∀ k,k<F.length→F.getD k 0=3→∃ j,j<n∧Ht E j=(k:Int)):Ma F E n=[]:=by
 rw[List.eq_nil_iff_forall_not_mem]
 intro k hk
 obtain⟨⟨h0,h3⟩,hn⟩:=Zg9.1 hk
 have hl:k.toNat<F.length:=by
  apply Nat.lt_of_not_le
  intro q
  rw[show F.getD k.toNat 0=0 from by simp[List.getD,q]] at h3
  omega
 obtain⟨j,hj,e⟩:=h k.toNat hl h3
 exact hn j hj M0
end Go.Proofs.YtceeiinepijokaaGreatDoor
namespace Go.Proofs.YtceeiinepijokaaGreatDoor
set_option maxHeartbeats 8000000
set_option maxRecDepth 100000
open Go.RowKit Go.Extern.Stop Go.Stop Go.Extern
set_option linter.unusedVariables false
section
variable {P:Program} {fn:Func} {R:Ending→World→Prop} {w:World} {s:Zs}
def Zw4(w:World):List (Nat×List Value)→Prop
 | []=>True
 | p::r=>(∃ t,Blk w p.1 p.2 t)∧Zw4 w r
noncomputable def zrlm (P:Program) (n:Nat) (kv:List (Nat×Value)) (l:List ResultVar):List (List Value)→Option (List Nat×List Value):=List.rec (motive:=fun _=>List (List Value)→Option (List Nat×List Value)) (fun _=>some ([],[])) (fun r _ ih css=>match r with
 | .tmp t=>match ih css with
  | some r=>some (r.1,zget n kv t::r.2)
  | none=>none
 | .cell k t=>match css with
  | []=>none
  | p::css'=>match zget n kv k with
   | .pointer (some ⟨b,off,sp⟩)=>match sp with
    | none=>match Nat.beq off 0&&(zrow P t&&zsz P t p.length) with
     | true=>match ih css' with
      | some r=>some (b::r.1,.agg p.toArray::r.2)
      | none=>none
     | false=>none
    | some _=>none
   | _=>none) l
theorem Zfp(n:Nat)(kv:List (Nat×Value))(w:World):∀ (l:List ResultVar) (css:List (Nat×List Value)) (vs:List Value),Zw4 w css→zrlm P n kv l (css.map Prod.snd)=some (css.map Prod.fst,vs)→(l.mapM (zrf (zact n kv).tmps)).run P w=.ok vs w
  | [],css,vs,_,h=>by
    have h':some (([]:List Nat),([]:List Value))=some (css.map Prod.fst,vs):=h
    simp only[A0,D8] at h'
    rw[←h'.2];rfl
  | r :: l, css, vs, hb, h => by
    rw[List.mapM_cons]
    cases r with
    | tmp t =>
      have h':(match zrlm P n kv l (css.map Prod.snd) with|some r=>some (r.1,zget n kv t::r.2)|none=>none)=some (css.map Prod.fst,vs):=h
      split at h'
      · rename_i r' hv
        simp only[A0,D8] at h'
        obtain⟨h1,rfl⟩:=h'
        have a1:zrlm P n kv l (css.map Prod.snd)=some (css.map Prod.fst,r'.2):=by rw[hv,←h1]
        simp only[zrf,C9,H2,E1,Zfp n kv w l css r'.2 hb a1,Nn]
      · cases h'
    | cell k t' =>
      cases css with
      | nil=>cases h
      | cons p css =>
      have h':(match zget n kv k with
      | .pointer (some ⟨b,a0,sp⟩)=>match sp with
        | none=>match Nat.beq a0 0&&(zrow P t'&&zsz P t' p.2.length) with
          | true=>match zrlm P n kv l (css.map Prod.snd) with
            | some r=>some (b::r.1,.agg p.2.toArray::r.2)
            | none=>none
          | false=>none
        | some _=>none
      | _=>none)=some (p.1::css.map Prod.fst,vs):=h
      split at h'
      · rename_i b' a0 sp a2
        cases sp with
        | some _=>cases h'
        | none =>
          dsimp only at h'
          split at h'
          · rename_i hc
            simp only[D9] at hc
            split at h'
            · rename_i r' hv
              simp only[A0,D8,I8] at h'
              obtain⟨⟨rfl,h1⟩,rfl⟩:=h'
              obtain⟨⟨t,kb⟩,a3⟩:=hb
              have a1:zrlm P n kv l (css.map Prod.snd)=some (css.map Prod.fst,r'.2):=by rw[hv,←h1]
              obtain rfl:a0=0:=I9 hc.1
              have hu:=hc.2.1
              unfold zrow at hu
              split at hu
              · rename_i d hd
                have hl:=run_loadVar_mid (P:=P) w p.1 0 t' p.2 d kb.whole hd hu (Zik hc.2.2)
                have e:(zact n kv).tmps.getD k undef=.pointer (some ⟨p.1,0,none⟩):=by rw[Nn];exact a2
                simp only[zrf,e,asAddr,C9,H2,E1,hl,Zfp n kv w l css r'.2 a3 a1]
              · cases hu
            · cases h'
          · cases h'
      · cases h'
noncomputable def zresm (P:Program) (s:Zs) (fn:Func) (css:List (List Value)):Option (List Nat×Value):=match zfin s with
 | true=>match zrlm P s.n s.kv fn.results.toList css with
  | some r=>some (r.1,zvs r.2)
  | none=>none
 | false=>none
theorem xecm(q:Zq)(css:List (Nat×List Value))(hb:Zw4 w css)(v:Value)(hR:R (.returned v) w)(h:zresm P (zq P q s) fn (css.map Prod.snd)=some (css.map Prod.fst,v):=by kernel_rfl):Go P fn R s w:=by
 refine Zw q s ?_
 unfold zresm at h
 split at h
 ·rename_i hf
  split at h
  ·rename_i r hv
   simp only[A0,D8] at h
   obtain⟨h1,rfl⟩:=h
   have hv:zrlm P (zq P q s).n (zq P q s).kv fn.results.toList (css.map Prod.snd)=some (css.map Prod.fst,r.2):=by rw[hv,←h1]
   exact Zjw hf (Ef (Zfp _ _ _ _ _ _ hb hv)) hR
  ·cases h
 ·cases h
end
end Go.Proofs.YtceeiinepijokaaGreatDoor
namespace Go.Proofs.YtceeiinepijokaaGreatDoor
set_option maxHeartbeats 8000000
set_option maxRecDepth 100000
open Go.RowKit Go.Extern.Stop Go.Stop Go.Extern
set_option linter.unusedVariables false
attribute [local irreducible] wpList wpAnyH Code.wp Oper.wp Go
theorem Uq.at{w:World}:∀ {fs:List (List Int×Int)} {vs:List Value},Uq w fs vs→∀ {j:Nat},j<fs.length→∃ ty x,vs[j]? = some (.iface ty x)∧Kr w ((fs.getD j ([],0)).1.map some) (some (fs.getD j ([],0)).2) (.iface ty x)
 | f::r,v::q,h,0,_=>by
  obtain⟨ty,x,rfl⟩:=h.1.iface
  exact⟨ty,x,rfl,h.1⟩
 | f::r,v::q,h,j+1,hj=>by
  obtain⟨ty,x,h1,h2⟩:=h.2.at (j:=j) (by simpa using hj)
  exact⟨ty,x,by simpa using h1,by simpa using h2⟩
 | [],_,_,j,hj=>absurd hj (by simp)
 | _::_,[],h,_,_=>h.elim
theorem Sl.elem1{w:World}{b:O0}{n c:Nat}{xs:List Value}(h:Sl w (.slice b n c) n xs){j:Nat}{x:Value}(hj:xs[j]? = some x):b.isSome=true∧w.cell? (Zx b (j*1))=some x:=by rw[G4];exact Sl.elem h hj
theorem scan_law(l:Bl)(root tree fuel:Int):(Zd l root tree fuel).looked≤fuel.toNat∧(Zd l root tree fuel).bs.length≤(Zd l root tree fuel).looked∧(∀ x∈(Zd l root tree fuel).es,InBlk l tree x) ∧
 (Zd l root tree fuel).es.Pairwise (fun x y=>x.1<y.1)∧∀ f∈(Zd l root tree fuel).fs,f.1≠[]∧f.1.getD 0 0=root:=by
 obtain⟨es,fs,h⟩:=Nm l root tree fuel
 have h1:(Zd l root tree fuel).es=es:=by rw[h.esE];rfl
 have h2:(Zd l root tree fuel).fs=fs:=by rw[h.fsE];rfl
 have h3:=h.blks
 refine⟨Tg _ _ _ _,by simpa [ws0] using h3,fun x hx=>h.inb x (h1▸hx),by rw[h1];exact h.rise.1,fun f hf=>?_⟩
 obtain⟨q1,q2,_⟩:=h.flt f (h2▸hf)
 refine⟨q2,?_⟩
 cases e:f.1 with
 | nil=>exact absurd e q2
 | cons a r=>rw[e] at q1;simpa using q1
structure WalkS(t:WS)(pe pb pf:Option Addr)(ce cb cf:Nat)(fv:List Value)(w:World):Prop where
 ents:Sts Kd w (.slice pe t.es.length ce) t.es
 blks:Ints w (.slice pb t.bs.length cb) t.bs
 flts:Sl w (.slice pf t.fs.length cf) t.fs.length fv
 fltv:Uq w t.fs fv
theorem WalkS.below{t:WS}{pe pb pf:O0}{ce cb cf:Nat}{fv:List Value}{w W:World}(h:WalkS t pe pb pf ce cb cf fv w)(hb:B3 w W):WalkS t pe pb pf ce cb cf fv W :=
 ⟨Sl.below h.ents hb,Sl.below h.blks hb,Sl.below h.flts hb,h.fltv.below hb⟩
def eL (S:WS):List (Option Int):=if S.fs=[] then [] else(S.fs.getD 0 ([],0)).1.map some
def eT (S:WS):Option Int:=if S.fs=[] then none else some (S.fs.getD 0 ([],0)).2
def Zgv(S:WS):WS:=if S.fs=[] then S else ws0
def Ke(S:WS):List Int×Int:=if S.fs=[] then([],0) else S.fs.getD 0 ([],0)
def FirstP(fs:List (List Int×Int))(w:World)(e:Ending)(w':World):Prop :=
 (fs=[]∧e=.returned .nilIface∧B3 w w')∨(fs≠[]∧∃ ty x,e=.returned (.iface ty x)∧B3 w w'∧Kr w' ((fs.getD 0 ([],0)).1.map some) (some (fs.getD 0 ([],0)).2) (.iface ty x))
theorem Ah(p:O0)(n c:Nat)(fv:List Value)(ty:TypeId)(x:Value)(w:World)(hn:0<n)(hS:Sl w (.slice p n c) n fv)(hx:fv[0]? = some (.iface ty x)) :
 C0 110 #[.slice p n c] w (Ret (.iface ty x) w):=by
 refine zin 15 Tryz.func110 ?_
 refine xu 14 1 ?_
 refine xk 6 (show(decide ((0:Int)<(n:Int)):Bool)=true from decide_eq_true M0) ?_
 refine xx 6 _ n 0 1 (Sl.elem1 hS hx).1 ?_
 refine xl 0 ((Sl.elem1 hS hx).2) ?_
 exact xe 22 (.iface ty (x)) ⟨rfl,(B4 w)⟩
theorem Ac(p:O0)(c:Nat)(w:World) :
 C0 110 #[.slice p 0 c] w (Ret .nilIface w):=by
 refine zin 15 Tryz.func110 ?_
 refine xu 14 1 ?_
 exact xe 18 .nilIface ⟨rfl,(B4 w)⟩
theorem Zge(p:O0)(n c:Nat)(fs:List (List Int×Int))(fv:List Value)(w:World)(hn:fs.length=n)(hS:Sl w (.slice p n c) n fv)(hF:Uq w fs fv):C0 110 #[.slice p n c] w (FirstP fs w):=by
 subst hn
 match fs,hS,hF with
 | [],hS,hF =>
  refine(Ac p c w).mono ?_
  rintro e W ⟨rfl,hb⟩
  exact .inl ⟨rfl,rfl,hb⟩
 | f::r,hS,hF =>
  obtain⟨ty,x,h1,h2⟩:=hF.at (j:=0) (by simp)
  refine(Ah p _ c fv ty x w (by simp) hS h1).mono ?_
  rintro e W ⟨rfl,hb⟩
  exact .inr ⟨by simp,ty,x,rfl,hb,h2.below hb⟩
theorem WalkV.mono{B B':Nat}{t:WS}{pe pb pf:O0}{ce cb cf:Nat}{fv:List Value}{w:World}(h:WalkV B t pe pb pf ce cb cf fv w)(hB:B'≤B):WalkV B' t pe pb pf ce cb cf fv w:=⟨Zf h.ents hB,Zf h.blks hB,Zf h.flts hB,h.fltv⟩
theorem WalkV.below{B:Nat}{t:WS}{pe pb pf:O0}{ce cb cf:Nat}{fv:List Value}{w W:World}(h:WalkV B t pe pb pf ce cb cf fv w)(hb:B3 w W):WalkV B t pe pb pf ce cb cf fv W:=⟨Zb h.ents hb,Zb h.blks hb,Zb h.flts hb,h.fltv.below hb⟩
theorem WalkV.only{B:Nat}{T:List TypeId}{t:WS}{pe pb pf:O0}{ce cb cf:Nat}{fv:List Value}{w W:World}(h:WalkV B t pe pb pf ce cb cf fv w)(hO:Ze T w W)(hT:T.contains 132=false∧T.contains 3=false∧T.contains 28=false∧T.contains 191=false):WalkV B t pe pb pf ce cb cf fv W:=⟨Zi h.ents hO hT.1,Zi h.blks hO hT.2.1,Zi h.flts hO hT.2.2.1,h.fltv.only hO hT.2.2.2⟩
theorem WalkV.s{B:Nat}{t:WS}{pe pb pf:O0}{ce cb cf:Nat}{fv:List Value}{w:World}(h:WalkV B t pe pb pf ce cb cf fv w):WalkS t pe pb pf ce cb cf fv w:=⟨Zg h.ents,Zg h.blks,Zg h.flts,h.fltv⟩
theorem WalkV.zero(B:Nat)(w:World):WalkV B ws0 none none none 0 0 0 [] w:=⟨A5 _ _ _ _,A5 _ _ _ _,A5 _ _ _ _,trivial⟩
theorem Znj{S:WS}(h:S.fs=[]):Zgv S=S∧Ke S=([],0)∧eL S=[]∧eT S=none:=by unfold Zgv Ke eL eT;simp[h]
theorem Ra{S:WS}(h:S.fs≠[]):Zgv S=ws0∧Ke S=S.fs.getD 0 ([],0)∧eL S=(S.fs.getD 0 ([],0)).1.map some∧eT S=some (S.fs.getD 0 ([],0)).2:=by unfold Zgv Ke eL eT;simp[h]
def WholeP(S:WS)(w:World)(e:Ending)(w':World):Prop:=∃ t pe pb pf ce cb cf fv v,t=Zgv S∧e=.returned (.tuple #[.agg (walkC t pe pb pf ce cb cf).toArray,v])∧B3 w w'∧WalkV w.heap.size t pe pb pf ce cb cf fv w'∧Kr w' (eL S) (eT S) v
theorem Zi8(Bi b:Nat)(pi:O0)(ni ci:Nat)(l:Bl)(root tree fuel:Int)(w:World)(hfu:fuel≤1000000)(hI:ImgR Bi b pi ni ci l w) :
 C0 60 #[P0 b,V0 root,V0 tree,V0 fuel] w (WholeP (Zd l root tree fuel) w):=by
 refine zin 25 Tryz.func60 ?_
 refine xa 2 [S0,S0,V0 0,V0 0,S0] 126 fun b1 W1 n1=>?_
 have b7:=n1.below.size
 refine xc 9 (Zu5 Bi b pi ni ci l root tree fuel _ hfu (hI.below n1.below)) ?_
 rintro _ W2 ⟨pe,pb,pf,ce,cb,cf,fv,rfl,b4,b6⟩
 have hW:=b6.mono b7
 refine xa 0 [S0,S0,V0 0,V0 0,S0] 126 fun b3 W3 n3=>?_
 have k1:=n1.blk.below b4
 have a1:=n3.ne k1
 have a2:=bln n1.below b4
 have g3:=n3.ge a2
 refine xsv 0 n3.blk [.slice pe ((Zd l root tree fuel).es.length) ce,.slice pb ((Zd l root tree fuel).bs.length) cb,V0 ((Zd l root tree fuel).deep),V0 (↑(Zd l root tree fuel).looked:Int),.slice pf ((Zd l root tree fuel).fs.length) cf] fun W4 u4 k4=>?_
 refine xb 6 4 k4 ?_
 have a4:=(hW.below n3.below).only (Q1 (T:=[126]) u4 n3.blk Do) Do
 refine xc 0 (args:=#[.slice pf ((Zd l root tree fuel).fs.length) cf]) (Zge pf _ cf (Zd l root tree fuel).fs fv _ rfl (Zg a4.flts) a4.fltv) ?_
 rintro e W5 b5
 rcases b5 with ⟨hz,rfl,a3⟩|⟨hz,ty,x,rfl,a3,hv⟩
 ·have a0:=Znj hz
  have a7:=k4.below a3
  refine xlv 14 a7.rp ?_
  have a5:=(u4.blk (k1.below n3.below) a1).below a3
  refine xsv 0 a5 [.slice pe ((Zd l root tree fuel).es.length) ce,.slice pb ((Zd l root tree fuel).bs.length) cb,V0 ((Zd l root tree fuel).deep),V0 (↑(Zd l root tree fuel).looked:Int),.slice pf ((Zd l root tree fuel).fs.length) cf] fun W6 u6 k6=>?_
  have g1:=n1.ge (B4 w)
  have b0:=u6.below (bln (u4.below (bln a2 n3.below) g3) a3) g1
  have a8:=(a4.below a3).only (Q1 (T:=[126]) u6 a5 Do) Do
  exact xec 4 k6 (.tuple #[.agg #[.slice pe ((Zd l root tree fuel).es.length) ce,.slice pb ((Zd l root tree fuel).bs.length) cb,V0 ((Zd l root tree fuel).deep),V0 (↑(Zd l root tree fuel).looked:Int),.slice pf ((Zd l root tree fuel).fs.length) cf],.nilIface]) ⟨_,pe,pb,pf,ce,cb,cf,fv,_,rfl,by rw[a0.1];rfl,b0,by rw[a0.1];exact a8,by rw[a0.2.2.1,a0.2.2.2];rfl⟩
 have a0:=Ra hz
 have a6:=(u4.blk (k1.below n3.below) a1).below a3
 refine xsv 14 a6 [S0,S0,V0 0,V0 0,S0] fun W7 u7 k7=>?_
 have g1:=n1.ge (B4 w)
 have b2:=u7.below (bln (u4.below (bln a2 n3.below) g3) a3) g1
 have a9:=hv.upd u7 a6 Do
 exact xec 5 k7 (.tuple #[.agg #[S0,S0,V0 0,V0 0,S0],.iface ty (x)]) ⟨_,none,none,none,0,0,0,[],_,rfl,by rw[a0.1];rfl,b2,by rw[a0.1];exact WalkV.zero _ _,by rw[a0.2.2.1,a0.2.2.2];exact a9⟩
def bitI(l:Bl)(n:Nat):List Int:=(Zbi l n).map fun x:Nat=>(x:Int)
theorem Zl7(l:Bl)(n:Nat):(bitI l n).length=n:=by simp[bitI,Zbi]
theorem bitN_lt(l:Bl)(i:Nat):Zrt l i<4:=Nat.mod_lt _ Do
theorem Zns(l:Bl)(n:Nat):Ui (bitI l n):=by
 intro x hx
 obtain⟨y,hy,rfl⟩:=List.mem_map.1 hx
 obtain⟨i,_,rfl⟩:=List.mem_map.1 hy
 have:=bitN_lt l i
 omega
structure Sup where
 tx:Int
 time:Int
 unit:Int
 data:Int
 blocks:Int
 top:Int
 details:Int
 dslots:Int
 dover:Int
 mindex:Int
 mover:Int
def supC(s:Sup):List Value:=[V0 s.tx,V0 s.time,V0 s.unit,V0 s.data,V0 s.blocks,V0 s.top,V0 s.details,V0 s.dslots,V0 s.dover,V0 s.mindex,V0 s.mover]
def Zcy(s:Sup):List Int:=[s.tx,s.time,s.unit,s.data,s.blocks,s.top,s.details,s.dslots,s.dover,s.mindex,s.mover]
def Qg(s:Sup):Bool:=(((((((((((true&&decide ((0:Int)≤s.tx∧s.tx≤2147483647))&&decide ((0:Int)≤s.time∧s.time≤16777215))&&decide ((1:Int)≤s.unit∧s.unit≤65536))&&decide ((0:Int)≤s.data∧s.data≤65536))&&decide ((2:Int)≤s.blocks∧s.blocks≤14400))&&decide ((1:Int)≤s.top∧s.top≤(s.blocks-1)))&&decide ((1:Int)≤s.details∧s.details≤(s.blocks-1)))&&decide ((1:Int)≤s.dslots∧s.dslots≤(s.blocks-1)))&&decide ((1:Int)≤s.dover∧s.dover≤(s.blocks-1)))&&decide ((1:Int)≤s.mindex∧s.mindex≤(s.blocks-1)))&&decide ((1:Int)≤s.mover∧s.mover≤(s.blocks-1)))
def Zh(l:Bl):Sup:=⟨(Zn l 12 4:Int),(Zn l 16 4:Int),(Zn l 20 4:Int),(Zn l 24 4:Int),(Zn l 28 4:Int),(Zn l 32 4:Int),(Zn l 36 4:Int),(Zn l 40 4:Int),(Zn l 44 4:Int),(Zn l 48 4:Int),(Zn l 52 4:Int)⟩
def Lj:Bl:=[83,67,65,78,84,76,73,78]
def Wl(N:List Int):Bl:=N.flatMap fun n=>leB n 4
theorem Zan(N:List Int):(Wl N).length=N.length*4:=by
 unfold Wl
 induction N with
 | nil=>rfl
 | cons n N ih=>rw[E5,A8,Zj,ih,C7];omega
def Py(s:Sup):Bl:=Lj++Wl (1::Zcy s)++List.replicate 188 0
theorem Kx(s:Sup):(Py s).length=244:=by
 unfold Py;rw[A8,A8,Zan,B6];rfl
def Zxs(l:Bl):Bool:=(l.take 8==Lj)&&decide (Zn l 8 4=1)&&Hf (l.drop 56)&&Qg (Zh l)
def Zcm(n:Int):List Value:=[V0 4,V0 n]
theorem Zk7(n:Int):(Zcm n).length=2:=rfl
theorem Ai{l:Bl}{k:Nat}(h:k+4≤l.length):l.drop k=leB (Zn l k 4:Int) 4++l.drop (k+4):=by
 rw[leB_raw h,←M9,F9]
theorem drop8{l:Bl}(hl:l.length=244):l.drop 8=Wl ((Zn l 8 4:Int)::Zcy (Zh l))++l.drop 56:=by
 rw[Ai (k:=8) M0,Ai (k:=12) M0,Ai (k:=16) M0,Ai (k:=20) M0,Ai (k:=24) M0,Ai (k:=28) M0,Ai (k:=32) M0,Ai (k:=36) M0,Ai (k:=40) M0,Ai (k:=44) M0,Ai (k:=48) M0,Ai (k:=52) M0]
 simp[Wl,Zcy,Zh]
theorem Zvo(l:Bl):Hf l=true↔l=List.replicate l.length 0:=by
 unfold Hf
 rw[H7]
 constructor
 ·intro h;exact List.eq_replicate_iff.2 ⟨rfl,fun x hx=>by simpa using h x hx⟩
 ·intro h x hx;rw[h] at hx;rw[(List.mem_replicate.1 hx).2];rfl
theorem supB_eq{l:Bl}(hl:l.length=244):(Py (Zh l)==l)=((l.take 8==Lj)&&decide (Zn l 8 4=1)&&Hf (l.drop 56)):=by
 have e1:l=l.take 8++(Wl ((Zn l 8 4:Int)::Zcy (Zh l))++l.drop 56):=by rw[←drop8 hl,F9]
 have h8:(l.take 8).length=Lj.length:=by simp[Lj];omega
 have hn:∀ x:Int,(Wl (x::Zcy (Zh l))).length=48:=fun x=>by rw[Zan];rfl
 have hr:=Kv l 8 4 Do
 have a0:(l.drop 56).length=188:=by simp;omega
 rw[Bool.eq_iff_iff,beq_iff_eq,D9,D9,beq_iff_eq,decide_eq_true_iff,Zvo,a0]
 constructor
 ·intro h
  have e2:=h.trans e1
  rw[Py,A1] at e2
  obtain⟨a1,a2⟩:=List.append_inj e2 h8.symm
  obtain⟨a3,a4⟩:=List.append_inj a2 (by rw[hn,hn])
  have a5:leB (1:Int) 4=leB (Zn l 8 4:Int) 4:=by
   unfold Wl at a3
   rw[E5,E5] at a3
   exact(List.append_inj a3 (by rw[Zj,Zj])).1
  have a6:=leB_inj (m:=1) (n:=Zn l 8 4) (w:=4) Do M0 a5
  exact⟨⟨a1.symm,a6.symm⟩,a4.symm⟩
 ·rintro⟨⟨a1,a2⟩,a3⟩
  conv=>rhs;rw[e1]
  rw[a1,a2,a3,Py,A1];rfl
theorem Ko(B bs bl bat off k:Nat)(cs:List Value)(a:O0)(c:Nat)(l:Bl)(lo hi:Value)(w:World)(hBw:B≤w.heap.size)(hBs:B≤bs)(hBa:B≤bat)(ks:Blk w bs cs 24)(ho:off<cs.length)(kl:Blk w bl [.slice a 244 c] 22)(ka:Blk w bat [V0 (k:Int)] 3)(hl:l.length=244)(h:Bys w (.slice a 244 c) l)(hk:k+4≤244) :
 C0 172 #[.pointer (some ⟨bs,off,none⟩),lo,hi,P0 bl,P0 bat] w ((fun e w'=>∃ u,e=.returned u∧Below B w w'∧Ze [24,3] w w'∧Blk w' bs (cs.set off (V0 (Zn l k 4:Int))) 24∧Blk w' bat [V0 (↑(k+4):Int)] 3)):=by
 refine zin 18 Tryz.func172 ?_
 refine xb 3 0 kl ?_
 refine xb 0 0 ka ?_
 refine xr 0 (Zkg a 244 c k 4 (k:Int) 4 l _ hl rfl rfl Do hk Do h) fun W1 a2=>?_
 have a1:=ks.below a2
 refine xsg 4 a1 off (V0 (↑(Zn l k 4):Int)) (ho) fun W2 u2 k2=>?_
 replace k2:Blk W2 bs (cs.set off (V0 (Zn l k 4:Int))) 24:=by rw[←(Eq.refl (cs.set off (V0 (Zn l k 4:Int))))];exact k2
 have a0:=u2.blkT (ka.below a2) a1 Do
 refine xb 3 0 a0 ?_
 refine xwm 0 ((k:Int)+4) (↑(k+4):Int) ?_
 refine xs 0 a0 [V0 (↑(k+4):Int)] fun W3 u3 k3=>?_
 have hB:=u3.below (u2.below (blB (Below.refl B w) hBw a2) hBs) hBa
 have hO:=((show Ze [24,3] w _ from(Q0 a2)).trans (Q1 u2 a1 Do)).trans (Q1 u3 a0 Do)
 have a3:=u3.blkT k2 a0 Do
 exact xe 1 (.tuple #[]) ⟨_,rfl,hB,hO,a3,k3⟩
theorem Xv(B bs bo off:Nat)(cs:List Value)(n lo hi:Int)(b:Bool)(w:World)(hBw:B≤w.heap.size)(hBo:B≤bo)(ks:Blk w bs cs 24)(hn:cs[off]? = some (V0 n))(ko:Blk w bo [.bool b] 4) :
 C0 78 #[.pointer (some ⟨bs,off,none⟩),V0 lo,V0 hi,P0 bo] w ((fun e w'=>∃ u,e=.returned u∧Below B w w'∧Ze [4] w w'∧Blk w' bo [.bool (b&&decide ((lo:Int)≤n∧n≤hi))] 4)):=by
 refine zin 22 Tryz.func78 ?_
 refine xb 1 0 ko ?_
 refine xg 1 [7,8] b (fun a1=>?_) (fun a1=>?_)
 ·refine xl 2 (ks.cell (i:=off) hn) ?_
  refine xg 4 [13,14,15] (decide (n≥lo)) (fun a0=>?_) (fun a0=>?_)
  ·have a0:=of_decide_eq_true a0
   refine xl 2 (ks.cell (i:=off) hn) ?_
   refine xs 3 ko [.bool (decide (n≤hi))] fun W3 u3 k3=>?_
   have hB:=u3.below (Below.refl B w) hBo
   have hO:=(show Ze [4] w _ from(Q1 u3 ko Do))
   exact xe 1 (.tuple #[]) ⟨_,rfl,hB,hO,by rw[show(b&&decide ((lo:Int)≤n∧n≤hi))=decide (n≤hi) from by first|(rw[show decide ((lo:Int)≤n∧n≤hi)=false from decide_eq_false M0,O8];done)|(simp_all;done)|(simp_all;omega)];exact k3⟩
  have a0:=of_decide_eq_false a0
  refine xs 6 ko [.bool false] fun W4 u4 k4=>?_
  have hB:=u4.below (Below.refl B w) hBo
  have hO:=(show Ze [4] w _ from(Q1 u4 ko Do))
  exact xe 1 (.tuple #[]) ⟨_,rfl,hB,hO,by rw[show(b&&decide ((lo:Int)≤n∧n≤hi))=false from by first|(rw[show decide ((lo:Int)≤n∧n≤hi)=false from decide_eq_false M0,O8];done)|(simp_all;done)|(simp_all;omega)];exact k4⟩
 refine xs 13 ko [.bool false] fun W5 u5 k5=>?_
 have hB:=u5.below (Below.refl B w) hBo
 have hO:=(show Ze [4] w _ from(Q1 u5 ko Do))
 exact xe 1 (.tuple #[]) ⟨_,rfl,hB,hO,by rw[show(b&&decide ((lo:Int)≤n∧n≤hi))=false from by first|(rw[show decide ((lo:Int)≤n∧n≤hi)=false from decide_eq_false M0,O8];done)|(simp_all;done)|(simp_all;omega)];exact k5⟩
theorem Zem(B bs bl bat:Nat)(a:O0)(c:Nat)(l:Bl)(w:World)(hBw:B≤w.heap.size)(hBs:B≤bs)(hBa:B≤bat)(ks:Blk w bs [V0 0,V0 0,V0 0,V0 0,V0 0,V0 0,V0 0,V0 0,V0 0,V0 0,V0 0] 24)(kl:Blk w bl [.slice a 244 c] 22)(ka:Blk w bat [V0 (↑(12:Nat):Int)] 3)(hl:l.length=244)(hin:∀ W,Below B w W→Bys W (.slice a 244 c) l) :
 C0 77 #[P0 bs,.func (.func 172) #[] #[P0 bl,P0 bat]] w ((fun e w'=>∃ u,e=.returned u∧Below B w w'∧Ze [24,3] w w'∧Blk w' bs (supC (Zh l)) 24)):=by
 have g2:=Kv l 28 4 Do
 refine zin 64 Tryz.func77 ?_
 refine xc 6 (args:=#[P0 bs,V0 0,V0 2147483647,P0 bl,P0 bat]) (Ko B bs bl bat 0 12 _ a c l _ _ _ (N0 hBw (Below.refl B _).size) hBs hBa ks (by simp) kl ka hl (hin _ (Below.refl B _)) Do) ?_
 rintro _ W1 ⟨u1,rfl,e3,f9,f0,f7⟩
 change Blk _ _ [V0 (↑(Zn l 12 4):Int),V0 0,V0 0,V0 0,V0 0,V0 0,V0 0,V0 0,V0 0,V0 0,V0 0] _ at f0
 change Blk _ _ [V0 (↑(16:Nat):Int)] _ at f7
 have c6:=kl.only f9 Do
 refine xc 8 (args:=#[.pointer (some ⟨bs,1,none⟩),V0 0,V0 16777215,P0 bl,P0 bat]) (Ko B bs bl bat 1 16 _ a c l _ _ _ (N0 hBw e3.size) hBs hBa f0 (by simp) c6 f7 hl (hin _ e3) Do) ?_
 rintro _ W2 ⟨u2,rfl,g9,g8,g5,g3⟩
 change Blk _ _ [V0 (↑(Zn l 12 4):Int),V0 (↑(Zn l 16 4):Int),V0 0,V0 0,V0 0,V0 0,V0 0,V0 0,V0 0,V0 0,V0 0] _ at g5
 change Blk _ _ [V0 (↑(20:Nat):Int)] _ at g3
 have a3:=e3.trans g9
 have b7:=c6.only g8 Do
 refine xc 8 (args:=#[.pointer (some ⟨bs,2,none⟩),V0 1,V0 65536,P0 bl,P0 bat]) (Ko B bs bl bat 2 20 _ a c l _ _ _ (N0 hBw a3.size) hBs hBa g5 (by simp) b7 g3 hl (hin _ a3) Do) ?_
 rintro _ W3 ⟨u3,rfl,h1,f1,f6,g0⟩
 change Blk _ _ [V0 (↑(Zn l 12 4):Int),V0 (↑(Zn l 16 4):Int),V0 (↑(Zn l 20 4):Int),V0 0,V0 0,V0 0,V0 0,V0 0,V0 0,V0 0,V0 0] _ at f6
 change Blk _ _ [V0 (↑(24:Nat):Int)] _ at g0
 have a6:=a3.trans h1
 have b9:=b7.only f1 Do
 refine xc 8 (args:=#[.pointer (some ⟨bs,3,none⟩),V0 0,V0 65536,P0 bl,P0 bat]) (Ko B bs bl bat 3 24 _ a c l _ _ _ (N0 hBw a6.size) hBs hBa f6 (by simp) b9 g0 hl (hin _ a6) Do) ?_
 rintro _ W4 ⟨u4,rfl,g2,g1,f4,e9⟩
 change Blk _ _ [V0 (↑(Zn l 12 4):Int),V0 (↑(Zn l 16 4):Int),V0 (↑(Zn l 20 4):Int),V0 (↑(Zn l 24 4):Int),V0 0,V0 0,V0 0,V0 0,V0 0,V0 0,V0 0] _ at f4
 change Blk _ _ [V0 (↑(28:Nat):Int)] _ at e9
 have b1:=a6.trans g2
 have d0:=b9.only g1 Do
 refine xc 8 (args:=#[.pointer (some ⟨bs,4,none⟩),V0 2,V0 14400,P0 bl,P0 bat]) (Ko B bs bl bat 4 28 _ a c l _ _ _ (N0 hBw b1.size) hBs hBa f4 (by simp) d0 e9 hl (hin _ b1) Do) ?_
 rintro _ W5 ⟨u5,rfl,h3,f2,f8,g7⟩
 change Blk _ _ [V0 (↑(Zn l 12 4):Int),V0 (↑(Zn l 16 4):Int),V0 (↑(Zn l 20 4):Int),V0 (↑(Zn l 24 4):Int),V0 (↑(Zn l 28 4):Int),V0 0,V0 0,V0 0,V0 0,V0 0,V0 0] _ at f8
 change Blk _ _ [V0 (↑(32:Nat):Int)] _ at g7
 refine xd 3 .z ?_
 refine xbs (.o [0,1,2,3,4,5,6,7,8,9,10,11,12,13,14,15,16,17,20] 18) 6 [.pointer (some ⟨bs,5,none⟩),.pointer (some ⟨bs,6,none⟩),.pointer (some ⟨bs,7,none⟩),.pointer (some ⟨bs,8,none⟩),.pointer (some ⟨bs,9,none⟩),.pointer (some ⟨bs,10,none⟩)] 171 fun b6 W6 n6=>?_
 have c2:=blB (b1.trans h3) hBw (Za W5)
 have g6:=n6.ge0 c2
 refine xu (.r [19] 3) 7 ?_
 refine xb 14 0 n6.blk ?_
 have a1:=(f8.below (Za W5)).below n6.below
 refine xb 9 4 a1 ?_
 refine xw 0 ((↑(Zn l 28 4):Int)-1) ?_
 have b0:=blB c2 hBw n6.below
 have d3:=((d0.only f2 Do).below (Za W5)).below n6.below
 have c5:=(g7.below (Za W5)).below n6.below
 refine xc 0 (args:=#[.pointer (some ⟨bs,5,none⟩),V0 1,V0 ((↑(Zn l 28 4):Int)-1),P0 bl,P0 bat]) (Ko B bs bl bat 5 32 _ a c l _ _ _ (N0 hBw b0.size) hBs hBa a1 (by simp) d3 c5 hl (hin _ b0) Do) ?_
 rintro _ W7 ⟨u7,rfl,h0,d5,d8,f5⟩
 change Blk _ _ [V0 (↑(Zn l 12 4):Int),V0 (↑(Zn l 16 4):Int),V0 (↑(Zn l 20 4):Int),V0 (↑(Zn l 24 4):Int),V0 (↑(Zn l 28 4):Int),V0 (↑(Zn l 32 4):Int),V0 0,V0 0,V0 0,V0 0,V0 0] _ at d8
 change Blk _ _ [V0 (↑(36:Nat):Int)] _ at f5
 have c7:=n6.blk.only d5 Do
 refine xb 22 1 c7 ?_
 refine xb 9 4 d8 ?_
 refine xw 0 ((↑(Zn l 28 4):Int)-1) ?_
 have a5:=b0.trans h0
 have c0:=d3.only d5 Do
 refine xc 0 (args:=#[.pointer (some ⟨bs,6,none⟩),V0 1,V0 ((↑(Zn l 28 4):Int)-1),P0 bl,P0 bat]) (Ko B bs bl bat 6 36 _ a c l _ _ _ (N0 hBw a5.size) hBs hBa d8 (by simp) c0 f5 hl (hin _ a5) Do) ?_
 rintro _ W8 ⟨u8,rfl,h2,e0,e5,e8⟩
 change Blk _ _ [V0 (↑(Zn l 12 4):Int),V0 (↑(Zn l 16 4):Int),V0 (↑(Zn l 20 4):Int),V0 (↑(Zn l 24 4):Int),V0 (↑(Zn l 28 4):Int),V0 (↑(Zn l 32 4):Int),V0 (↑(Zn l 36 4):Int),V0 0,V0 0,V0 0,V0 0] _ at e5
 change Blk _ _ [V0 (↑(40:Nat):Int)] _ at e8
 have b5:=c7.only e0 Do
 refine xb 22 2 b5 ?_
 refine xb 9 4 e5 ?_
 refine xw 0 ((↑(Zn l 28 4):Int)-1) ?_
 have a7:=a5.trans h2
 have b4:=c0.only e0 Do
 refine xc 0 (args:=#[.pointer (some ⟨bs,7,none⟩),V0 1,V0 ((↑(Zn l 28 4):Int)-1),P0 bl,P0 bat]) (Ko B bs bl bat 7 40 _ a c l _ _ _ (N0 hBw a7.size) hBs hBa e5 (by simp) b4 e8 hl (hin _ a7) Do) ?_
 rintro _ W9 ⟨u9,rfl,h4,e7,d7,f3⟩
 change Blk _ _ [V0 (↑(Zn l 12 4):Int),V0 (↑(Zn l 16 4):Int),V0 (↑(Zn l 20 4):Int),V0 (↑(Zn l 24 4):Int),V0 (↑(Zn l 28 4):Int),V0 (↑(Zn l 32 4):Int),V0 (↑(Zn l 36 4):Int),V0 (↑(Zn l 40 4):Int),V0 0,V0 0,V0 0] _ at d7
 change Blk _ _ [V0 (↑(44:Nat):Int)] _ at f3
 have d1:=b5.only e7 Do
 refine xb 22 3 d1 ?_
 refine xb 9 4 d7 ?_
 refine xw 0 ((↑(Zn l 28 4):Int)-1) ?_
 have b2:=a7.trans h4
 have b8:=b4.only e7 Do
 refine xc 0 (args:=#[.pointer (some ⟨bs,8,none⟩),V0 1,V0 ((↑(Zn l 28 4):Int)-1),P0 bl,P0 bat]) (Ko B bs bl bat 8 44 _ a c l _ _ _ (N0 hBw b2.size) hBs hBa d7 (by simp) b8 f3 hl (hin _ b2) Do) ?_
 rintro _ i0 ⟨h6,rfl,d6,a8,a4,d4⟩
 change Blk _ _ [V0 (↑(Zn l 12 4):Int),V0 (↑(Zn l 16 4):Int),V0 (↑(Zn l 20 4):Int),V0 (↑(Zn l 24 4):Int),V0 (↑(Zn l 28 4):Int),V0 (↑(Zn l 32 4):Int),V0 (↑(Zn l 36 4):Int),V0 (↑(Zn l 40 4):Int),V0 (↑(Zn l 44 4):Int),V0 0,V0 0] _ at a4
 change Blk _ _ [V0 (↑(48:Nat):Int)] _ at d4
 have c8:=d1.only a8 Do
 refine xb 22 4 c8 ?_
 refine xb 9 4 a4 ?_
 refine xw 0 ((↑(Zn l 28 4):Int)-1) ?_
 have a9:=b2.trans d6
 have c3:=b8.only a8 Do
 refine xc 0 (args:=#[.pointer (some ⟨bs,9,none⟩),V0 1,V0 ((↑(Zn l 28 4):Int)-1),P0 bl,P0 bat]) (Ko B bs bl bat 9 48 _ a c l _ _ _ (N0 hBw a9.size) hBs hBa a4 (by simp) c3 d4 hl (hin _ a9) Do) ?_
 rintro _ h8 ⟨h9,rfl,e4,a2,b3,c4⟩
 change Blk _ _ [V0 (↑(Zn l 12 4):Int),V0 (↑(Zn l 16 4):Int),V0 (↑(Zn l 20 4):Int),V0 (↑(Zn l 24 4):Int),V0 (↑(Zn l 28 4):Int),V0 (↑(Zn l 32 4):Int),V0 (↑(Zn l 36 4):Int),V0 (↑(Zn l 40 4):Int),V0 (↑(Zn l 44 4):Int),V0 (↑(Zn l 48 4):Int),V0 0] _ at b3
 change Blk _ _ [V0 (↑(52:Nat):Int)] _ at c4
 have e2:=c8.only a2 Do
 refine xb 22 5 e2 ?_
 refine xb 9 4 b3 ?_
 refine xw 0 ((↑(Zn l 28 4):Int)-1) ?_
 have a0:=a9.trans e4
 have d2:=c3.only a2 Do
 refine xc 0 (args:=#[.pointer (some ⟨bs,10,none⟩),V0 1,V0 ((↑(Zn l 28 4):Int)-1),P0 bl,P0 bat]) (Ko B bs bl bat 10 52 _ a c l _ _ _ (N0 hBw a0.size) hBs hBa b3 (by simp) d2 c4 hl (hin _ a0) Do) ?_
 rintro _ h7 ⟨h5,rfl,d9,e6,c1,e1⟩
 change Blk _ _ [V0 (↑(Zn l 12 4):Int),V0 (↑(Zn l 16 4):Int),V0 (↑(Zn l 20 4):Int),V0 (↑(Zn l 24 4):Int),V0 (↑(Zn l 28 4):Int),V0 (↑(Zn l 32 4):Int),V0 (↑(Zn l 36 4):Int),V0 (↑(Zn l 40 4):Int),V0 (↑(Zn l 44 4):Int),V0 (↑(Zn l 48 4):Int),V0 (↑(Zn l 52 4):Int)] _ at c1
 change Blk _ _ [V0 (↑(56:Nat):Int)] _ at e1
 have c9:=a0.trans d9
 have hO:=((((((((((((show Ze [24,3] w _ from f9).trans g8).trans f1).trans g1).trans f2).trans (Q0 (Za W5))).trans (Q0 n6.below)).trans d5).trans e0).trans e7).trans a8).trans a2).trans e6
 exact xe 19 (.tuple #[]) ⟨_,rfl,c9,hO,c1⟩
theorem Zcd(B bs bo:Nat)(s:Sup)(w:World)(hBw:B≤w.heap.size)(hBo:B≤bo)(hb0:0≤s.blocks)(hb1:s.blocks<9223372036854775808)(ks:Blk w bs [V0 s.tx,V0 s.time,V0 s.unit,V0 s.data,V0 s.blocks,V0 s.top,V0 s.details,V0 s.dslots,V0 s.dover,V0 s.mindex,V0 s.mover] 24)(ko:Blk w bo [.bool true] 4) :
 C0 77 #[P0 bs,.func (.func 78) #[] #[P0 bo]] w ((fun e w'=>∃ u,e=.returned u∧Below B w w'∧Ze [4] w w'∧Blk w' bo [.bool (Qg s)] 4)):=by
 refine zin 64 Tryz.func77 ?_
 refine xc 6 (args:=#[P0 bs,V0 0,V0 2147483647,P0 bo]) (Xv B bs bo 0 _ s.tx 0 2147483647 true _ (N0 hBw (Below.refl B _).size) hBo ks rfl ko) ?_
 rintro _ W1 ⟨u1,rfl,hb1,e3,e6⟩
 have b7:=ks.only e3 Do
 refine xc 8 (args:=#[.pointer (some ⟨bs,1,none⟩),V0 0,V0 16777215,P0 bo]) (Xv B bs bo 1 _ s.time 0 16777215 (true&&decide ((0:Int)≤s.tx∧s.tx≤2147483647)) _ (N0 hBw hb1.size) hBo b7 rfl e6) ?_
 rintro _ W2 ⟨u2,rfl,e5,e4,f4⟩
 have c2:=hb1.trans e5
 have c7:=b7.only e4 Do
 refine xc 8 (args:=#[.pointer (some ⟨bs,2,none⟩),V0 1,V0 65536,P0 bo]) (Xv B bs bo 2 _ s.unit 1 65536 ((true&&decide ((0:Int)≤s.tx∧s.tx≤2147483647))&&decide ((0:Int)≤s.time∧s.time≤16777215)) _ (N0 hBw c2.size) hBo c7 rfl f4) ?_
 rintro _ W3 ⟨u3,rfl,f3,e0,f0⟩
 have b8:=c2.trans f3
 have a9:=c7.only e0 Do
 refine xc 8 (args:=#[.pointer (some ⟨bs,3,none⟩),V0 0,V0 65536,P0 bo]) (Xv B bs bo 3 _ s.data 0 65536 (((true&&decide ((0:Int)≤s.tx∧s.tx≤2147483647))&&decide ((0:Int)≤s.time∧s.time≤16777215))&&decide ((1:Int)≤s.unit∧s.unit≤65536)) _ (N0 hBw b8.size) hBo a9 rfl f0) ?_
 rintro _ W4 ⟨u4,rfl,e9,e1,e8⟩
 have b9:=b8.trans e9
 have b1:=a9.only e1 Do
 refine xc 8 (args:=#[.pointer (some ⟨bs,4,none⟩),V0 2,V0 14400,P0 bo]) (Xv B bs bo 4 _ s.blocks 2 14400 ((((true&&decide ((0:Int)≤s.tx∧s.tx≤2147483647))&&decide ((0:Int)≤s.time∧s.time≤16777215))&&decide ((1:Int)≤s.unit∧s.unit≤65536))&&decide ((0:Int)≤s.data∧s.data≤65536)) _ (N0 hBw b9.size) hBo b1 rfl e8) ?_
 rintro _ W5 ⟨u5,rfl,f6,e2,f2⟩
 refine xd 3 .z ?_
 refine xbs (.o [0,1,2,3,4,5,6,7,8,9,10,11,12,13,14,15,16,17,20] 18) 6 [.pointer (some ⟨bs,5,none⟩),.pointer (some ⟨bs,6,none⟩),.pointer (some ⟨bs,7,none⟩),.pointer (some ⟨bs,8,none⟩),.pointer (some ⟨bs,9,none⟩),.pointer (some ⟨bs,10,none⟩)] 171 fun b6 W6 n6=>?_
 have c3:=blB (b9.trans f6) hBw (Za W5)
 have g6:=n6.ge0 c3
 refine xu (.r [19] 3) 7 ?_
 refine xb 14 0 n6.blk ?_
 have a5:=((b1.only e2 Do).below (Za W5)).below n6.below
 refine xb 9 4 a5 ?_
 refine xw 0 (s.blocks-1) ?_
 have b5:=blB c3 hBw n6.below
 have b3:=(f2.below (Za W5)).below n6.below
 refine xc 0 (args:=#[.pointer (some ⟨bs,5,none⟩),V0 1,V0 (s.blocks-1),P0 bo]) (Xv B bs bo 5 _ s.top 1 (s.blocks-1) (((((true&&decide ((0:Int)≤s.tx∧s.tx≤2147483647))&&decide ((0:Int)≤s.time∧s.time≤16777215))&&decide ((1:Int)≤s.unit∧s.unit≤65536))&&decide ((0:Int)≤s.data∧s.data≤65536))&&decide ((2:Int)≤s.blocks∧s.blocks≤14400)) _ (N0 hBw b5.size) hBo a5 rfl b3) ?_
 rintro _ W7 ⟨u7,rfl,f7,d1,e7⟩
 have c8:=n6.blk.only d1 Do
 refine xb 22 1 c8 ?_
 have a8:=a5.only d1 Do
 refine xb 9 4 a8 ?_
 refine xw 0 (s.blocks-1) ?_
 have b2:=b5.trans f7
 refine xc 0 (args:=#[.pointer (some ⟨bs,6,none⟩),V0 1,V0 (s.blocks-1),P0 bo]) (Xv B bs bo 6 _ s.details 1 (s.blocks-1) ((((((true&&decide ((0:Int)≤s.tx∧s.tx≤2147483647))&&decide ((0:Int)≤s.time∧s.time≤16777215))&&decide ((1:Int)≤s.unit∧s.unit≤65536))&&decide ((0:Int)≤s.data∧s.data≤65536))&&decide ((2:Int)≤s.blocks∧s.blocks≤14400))&&decide ((1:Int)≤s.top∧s.top≤(s.blocks-1))) _ (N0 hBw b2.size) hBo a8 rfl e7) ?_
 rintro _ W8 ⟨u8,rfl,f5,d0,f1⟩
 have c6:=c8.only d0 Do
 refine xb 22 2 c6 ?_
 have a7:=a8.only d0 Do
 refine xb 9 4 a7 ?_
 refine xw 0 (s.blocks-1) ?_
 have c5:=b2.trans f5
 refine xc 0 (args:=#[.pointer (some ⟨bs,7,none⟩),V0 1,V0 (s.blocks-1),P0 bo]) (Xv B bs bo 7 _ s.dslots 1 (s.blocks-1) (((((((true&&decide ((0:Int)≤s.tx∧s.tx≤2147483647))&&decide ((0:Int)≤s.time∧s.time≤16777215))&&decide ((1:Int)≤s.unit∧s.unit≤65536))&&decide ((0:Int)≤s.data∧s.data≤65536))&&decide ((2:Int)≤s.blocks∧s.blocks≤14400))&&decide ((1:Int)≤s.top∧s.top≤(s.blocks-1)))&&decide ((1:Int)≤s.details∧s.details≤(s.blocks-1))) _ (N0 hBw c5.size) hBo a7 rfl f1) ?_
 rintro _ W9 ⟨u9,rfl,f9,d9,f8⟩
 have c0:=c6.only d9 Do
 refine xb 22 3 c0 ?_
 have a4:=a7.only d9 Do
 refine xb 9 4 a4 ?_
 refine xw 0 (s.blocks-1) ?_
 have c1:=c5.trans f9
 refine xc 0 (args:=#[.pointer (some ⟨bs,8,none⟩),V0 1,V0 (s.blocks-1),P0 bo]) (Xv B bs bo 8 _ s.dover 1 (s.blocks-1) ((((((((true&&decide ((0:Int)≤s.tx∧s.tx≤2147483647))&&decide ((0:Int)≤s.time∧s.time≤16777215))&&decide ((1:Int)≤s.unit∧s.unit≤65536))&&decide ((0:Int)≤s.data∧s.data≤65536))&&decide ((2:Int)≤s.blocks∧s.blocks≤14400))&&decide ((1:Int)≤s.top∧s.top≤(s.blocks-1)))&&decide ((1:Int)≤s.details∧s.details≤(s.blocks-1)))&&decide ((1:Int)≤s.dslots∧s.dslots≤(s.blocks-1))) _ (N0 hBw c1.size) hBo a4 rfl f8) ?_
 rintro _ g7 ⟨g5,rfl,d5,a6,d4⟩
 have b0:=c0.only a6 Do
 refine xb 22 4 b0 ?_
 have a3:=a4.only a6 Do
 refine xb 9 4 a3 ?_
 refine xw 0 (s.blocks-1) ?_
 have c4:=c1.trans d5
 refine xc 0 (args:=#[.pointer (some ⟨bs,9,none⟩),V0 1,V0 (s.blocks-1),P0 bo]) (Xv B bs bo 9 _ s.mindex 1 (s.blocks-1) (((((((((true&&decide ((0:Int)≤s.tx∧s.tx≤2147483647))&&decide ((0:Int)≤s.time∧s.time≤16777215))&&decide ((1:Int)≤s.unit∧s.unit≤65536))&&decide ((0:Int)≤s.data∧s.data≤65536))&&decide ((2:Int)≤s.blocks∧s.blocks≤14400))&&decide ((1:Int)≤s.top∧s.top≤(s.blocks-1)))&&decide ((1:Int)≤s.details∧s.details≤(s.blocks-1)))&&decide ((1:Int)≤s.dslots∧s.dslots≤(s.blocks-1)))&&decide ((1:Int)≤s.dover∧s.dover≤(s.blocks-1))) _ (N0 hBw c4.size) hBo a3 rfl d4) ?_
 rintro _ g0 ⟨g2,rfl,d3,a2,d6⟩
 have d7:=b0.only a2 Do
 refine xb 22 5 d7 ?_
 have a0:=a3.only a2 Do
 refine xb 9 4 a0 ?_
 refine xw 0 (s.blocks-1) ?_
 have a1:=c4.trans d3
 refine xc 0 (args:=#[.pointer (some ⟨bs,10,none⟩),V0 1,V0 (s.blocks-1),P0 bo]) (Xv B bs bo 10 _ s.mover 1 (s.blocks-1) ((((((((((true&&decide ((0:Int)≤s.tx∧s.tx≤2147483647))&&decide ((0:Int)≤s.time∧s.time≤16777215))&&decide ((1:Int)≤s.unit∧s.unit≤65536))&&decide ((0:Int)≤s.data∧s.data≤65536))&&decide ((2:Int)≤s.blocks∧s.blocks≤14400))&&decide ((1:Int)≤s.top∧s.top≤(s.blocks-1)))&&decide ((1:Int)≤s.details∧s.details≤(s.blocks-1)))&&decide ((1:Int)≤s.dslots∧s.dslots≤(s.blocks-1)))&&decide ((1:Int)≤s.dover∧s.dover≤(s.blocks-1)))&&decide ((1:Int)≤s.mindex∧s.mindex≤(s.blocks-1))) _ (N0 hBw a1.size) hBo a0 rfl d6) ?_
 rintro _ g1 ⟨g3,rfl,c9,d8,d2⟩
 have b4:=a1.trans c9
 have hO:=((((((((((((show Ze [4] w _ from e3).trans e4).trans e0).trans e1).trans e2).trans (Q0 (Za W5))).trans (Q0 n6.below)).trans d1).trans d0).trans d9).trans a6).trans a2).trans d8
 exact xe 19 (.tuple #[]) ⟨_,rfl,b4,hO,d2⟩
theorem Zhk(s:Sup)(w:World)(hb0:0≤s.blocks)(hb1:s.blocks<9223372036854775808) :
 C0 34 #[.agg #[V0 s.tx,V0 s.time,V0 s.unit,V0 s.data,V0 s.blocks,V0 s.top,V0 s.details,V0 s.dslots,V0 s.dover,V0 s.mindex,V0 s.mover]] w (Ret (.bool (Qg s)) w):=by
 refine zin 7 Tryz.func34 ?_
 refine xa 2 [V0 s.tx,V0 s.time,V0 s.unit,V0 s.data,V0 s.blocks,V0 s.top,V0 s.details,V0 s.dslots,V0 s.dover,V0 s.mindex,V0 s.mover] 24 fun b1 W1 n1=>?_
 refine xa 5 [.bool false] 4 fun b2 W2 n2=>?_
 refine xs 0 n2.blk [.bool true] fun W3 u3 k3=>?_
 have g2:=n2.ge n1.below
 have hB:=u3.below (bln n1.below n2.below) g2
 have k1:=u3.blkT (n1.blk.below n2.below) n2.blk Do
 refine xc 5 (Zcd w.heap.size b1 b2 s _ hB.size g2 hb0 hb1 k1 k3) ?_
 rintro _ W4 ⟨u4,rfl,a1,a3,a2⟩
 refine xb 4 0 a2 ?_
 have a0:=hB.trans a1
 exact xe 4 (.bool (Qg s)) ⟨rfl,a0⟩
theorem He(B Bx bs bl off n:Nat)(cs:List Value)(x:Int)(lo hi:Value)(p:O0)(c:Nat)(N:List Int)(w:World)(hBm:B≤Bx)(hBx:Bx≤w.heap.size)(hBw:B≤w.heap.size)(hBl:B≤bl)(ks:Blk w bs cs 24)(hn:cs[off]? = some (V0 x))(kl:Blk w bl [.slice p n c] 293)(hup:w.ownsRow Bx 292 2 (.slice p n c) n (N.flatMap Zcm))(hnn:n≤1000) :
 C0 167 #[.pointer (some ⟨bs,off,none⟩),lo,hi,P0 bl] w ((fun e w'=>∃ u p' c',e=.returned u∧Below B w w'∧Ze [293,292] w w'∧Blk w' bl [.slice p' (n+1) c'] 293∧w'.ownsRow Bx 292 2 (.slice p' (n+1) c') (n+1) ((N++[x]).flatMap Zcm))):=by
 refine zin 14 Tryz.func167 ?_
 refine xd 0 (.t B [293,292]) ?_
 have b0:=ks.below (Za w)
 refine xlt (.e [1,2] 3) (.t B [293,292]) (fun V hV=>(b0.only hV.2 Do).cell (i:=off) hn) ?_
 refine xm2 (.b [4]) 0 5 ?_ ?_
 ·have a7:=kl.below (Za w)
  refine xb 0 0 a7 ?_
  refine xbs (.o [] 5) 1 [V0 4,V0 x] 292 fun b1 W1 n1=>?_
  have a4:=Zb hup (Za w)
  have b6:=Zu a4 n1
  have a0:=Zb a4 n1.below
  have hB:=blB (blB (Below.refl B w) hBw (Za w)) hBw n1.below
  refine ybi (.o [] 6) (.t B [293,292]) fun _ _ _ _ zJ zQ zo zx zy zK=>Xi (m:=1) (news:=[V0 4,V0 x]) (.agg #[V0 0,V0 0]) 2 16 (n+1) (((N++[x]).flatMap Zcm)) zo Tryz.underlying293 K0 rfl Do zx a0 zy (n1.blk.sl 1 1 Do Do) rfl (by simp[Value.oneCell']) (by unfold maxLen;omega) M0 (N0 hBx hB.size) (by rfl) (by rw[C8];rfl) fun c4 c1 W2 o2 b5 b9=>?_
  refine zK _ _ (Yk (b9.mono hBm) b5 a0 Do) ?_
  have a2:=(a7.below n1.below).grown b5 a0 Do
  refine ys (.o [] 7) a2 [.slice c4 (n+1) c1] (.t B [293,292]) fun W3 u3 k3=>⟨(Zt u3 a2 hBl Do),?_⟩
  have b3:=u3.below (hB.trans (b9.mono hBm)) hBl
  have hO:=(((show Ze [293,292] w _ from(Q0 (Za w))).trans (Q0 n1.below)).trans (Q4 b5 a0 Do)).trans (Q1 u3 a2 Do)
  have b7:=u3.own2 o2 a2 Do
  exact xe 1 (.tuple #[]) ⟨_,_,_,rfl,b3,hO,k3,b7⟩
 refine xbs 0 1 [V0 4,V0 x] 292 fun b4 W4 n4=>?_
 have a5:=Zb hup (Za w)
 have b8:=Zu a5 n4
 have a6:=(kl.below (Za w)).below n4.below
 refine xb (.o [] 0) 0 a6 ?_
 have a1:=Zb a5 n4.below
 have hB:=blB (blB (Below.refl B w) hBw (Za w)) hBw n4.below
 refine ybi (.o [] 6) (.t B [293,292]) fun _ _ _ _ zJ zQ zo zx zy zK=>Xi (m:=1) (news:=[V0 4,V0 x]) (.agg #[V0 0,V0 0]) 2 16 (n+1) (((N++[x]).flatMap Zcm)) zo Tryz.underlying293 K0 rfl Do zx a1 zy (n4.blk.sl 1 1 Do Do) rfl (by simp[Value.oneCell']) (by unfold maxLen;omega) M0 (N0 hBx hB.size) (by rfl) (by rw[C8];rfl) fun c2 c3 W5 o5 a8 c0=>?_
 refine zK _ _ (Yk (c0.mono hBm) a8 a1 Do) ?_
 have a3:=a6.grown a8 a1 Do
 refine ys (.o [] 7) a3 [.slice c2 (n+1) c3] (.t B [293,292]) fun W6 u6 k6=>⟨(Zt u6 a3 hBl Do),?_⟩
 have b2:=u6.below (hB.trans (c0.mono hBm)) hBl
 have hO:=(((show Ze [293,292] w _ from(Q0 (Za w))).trans (Q0 n4.below)).trans (Q4 a8 a1 Do)).trans (Q1 u6 a3 Do)
 have a9:=u6.own2 o5 a3 Do
 exact xe 1 (.tuple #[]) ⟨_,_,_,rfl,b2,hO,k6,a9⟩
theorem Zh7(B Bx bs bl:Nat)(s:Sup)(p0:O0)(c0:Nat)(w:World)(hBm:B≤Bx)(hBx:Bx≤w.heap.size)(hBw:B≤w.heap.size)(hBl:B≤bl)(hb0:0≤s.blocks)(hb1:s.blocks<9223372036854775808)(ks:Blk w bs [V0 s.tx,V0 s.time,V0 s.unit,V0 s.data,V0 s.blocks,V0 s.top,V0 s.details,V0 s.dslots,V0 s.dover,V0 s.mindex,V0 s.mover] 24)(kl:Blk w bl [.slice p0 1 c0] 293)(hr0:w.ownsRow Bx 292 2 (.slice p0 1 c0) 1 ([1].flatMap Zcm)) :
 C0 77 #[P0 bs,.func (.func 167) #[] #[P0 bl]] w ((fun e w'=>∃ u p c,e=.returned u∧Below B w w'∧Ze [293,292] w w'∧Blk w' bl [.slice p 12 c] 293∧w'.ownsRow Bx 292 2 (.slice p 12 c) 12 ((1::Zcy s).flatMap Zcm))):=by
 refine zin 64 Tryz.func77 ?_
 refine xc 6 (args:=#[P0 bs,V0 0,V0 2147483647,P0 bl]) (He B Bx bs bl 0 1 _ s.tx _ _ p0 c0 [1] _ hBm (N0 hBx (Below.refl B _).size) (N0 hBw (Below.refl B _).size) hBl ks rfl kl hr0 Do) ?_
 rintro _ W1 ⟨u1,p1,c1,rfl,hb1,h9,f3,j1⟩
 have f5:World.ownsRow _ _ _ _ (.slice p1 2 c1) 2 ([1,s.tx].flatMap Zcm):=j1
 replace f3:Blk _ _ [.slice p1 2 c1] _:=f3
 have d3:=ks.only h9 Do
 refine xc 8 (args:=#[.pointer (some ⟨bs,1,none⟩),V0 0,V0 16777215,P0 bl]) (He B Bx bs bl 1 2 _ s.time _ _ p1 c1 [1,s.tx] _ hBm (N0 hBx hb1.size) (N0 hBw hb1.size) hBl d3 rfl f3 f5 Do) ?_
 rintro _ W2 ⟨u2,p2,c2,rfl,i3,i2,f2,i8⟩
 have f7:World.ownsRow _ _ _ _ (.slice p2 3 c2) 3 ([1,s.tx,s.time].flatMap Zcm):=i8
 replace f2:Blk _ _ [.slice p2 3 c2] _:=f2
 have a7:=hb1.trans i3
 have d7:=d3.only i2 Do
 refine xc 8 (args:=#[.pointer (some ⟨bs,2,none⟩),V0 1,V0 65536,P0 bl]) (He B Bx bs bl 2 3 _ s.unit _ _ p2 c2 [1,s.tx,s.time] _ hBm (N0 hBx a7.size) (N0 hBw a7.size) hBl d7 rfl f2 f7 Do) ?_
 rintro _ W3 ⟨u3,p3,c3,rfl,i9,h6,h5,i6⟩
 have e5:World.ownsRow _ _ _ _ (.slice p3 4 c3) 4 ([1,s.tx,s.time,s.unit].flatMap Zcm):=i6
 replace h5:Blk _ _ [.slice p3 4 c3] _:=h5
 have b0:=a7.trans i9
 have e0:=d7.only h6 Do
 refine xc 8 (args:=#[.pointer (some ⟨bs,3,none⟩),V0 0,V0 65536,P0 bl]) (He B Bx bs bl 3 4 _ s.data _ _ p3 c3 [1,s.tx,s.time,s.unit] _ hBm (N0 hBx b0.size) (N0 hBw b0.size) hBl e0 rfl h5 e5 Do) ?_
 rintro _ W4 ⟨u4,p4,c4,rfl,j3,i0,f4,j2⟩
 have h1:World.ownsRow _ _ _ _ (.slice p4 5 c4) 5 ([1,s.tx,s.time,s.unit,s.data].flatMap Zcm):=j2
 replace f4:Blk _ _ [.slice p4 5 c4] _:=f4
 have b9:=b0.trans j3
 have d2:=e0.only i0 Do
 refine xc 8 (args:=#[.pointer (some ⟨bs,4,none⟩),V0 2,V0 14400,P0 bl]) (He B Bx bs bl 4 5 _ s.blocks _ _ p4 c4 [1,s.tx,s.time,s.unit,s.data] _ hBm (N0 hBx b9.size) (N0 hBw b9.size) hBl d2 rfl f4 h1 Do) ?_
 rintro _ W5 ⟨u5,p5,c5,rfl,j5,h8,e6,i7⟩
 have g2:World.ownsRow _ _ _ _ (.slice p5 6 c5) 6 ([1,s.tx,s.time,s.unit,s.data,s.blocks].flatMap Zcm):=i7
 replace e6:Blk _ _ [.slice p5 6 c5] _:=e6
 refine xd 3 .z ?_
 refine xbs (.o [0,1,2,3,4,5,6,7,8,9,10,11,12,13,14,15,16,17,20] 18) 6 [.pointer (some ⟨bs,5,none⟩),.pointer (some ⟨bs,6,none⟩),.pointer (some ⟨bs,7,none⟩),.pointer (some ⟨bs,8,none⟩),.pointer (some ⟨bs,9,none⟩),.pointer (some ⟨bs,10,none⟩)] 171 fun b6 W6 n6=>?_
 have d8:=blB (b9.trans j5) hBw (Za W5)
 have g6:=n6.ge0 d8
 refine xu (.r [19] 3) 7 ?_
 refine xb 14 0 n6.blk ?_
 have a9:=((d2.only h8 Do).below (Za W5)).below n6.below
 refine xb 9 4 a9 ?_
 refine xw 0 (s.blocks-1) ?_
 have b8:=blB d8 hBw n6.below
 have d6:=(e6.below (Za W5)).below n6.below
 have a4:=Zb (Zb g2 (Za W5)) n6.below
 refine xc 0 (args:=#[.pointer (some ⟨bs,5,none⟩),V0 1,V0 (s.blocks-1),P0 bl]) (He B Bx bs bl 5 6 _ s.top _ _ p5 c5 [1,s.tx,s.time,s.unit,s.data,s.blocks] _ hBm (N0 hBx b8.size) (N0 hBw b8.size) hBl a9 rfl d6 a4 Do) ?_
 rintro _ W7 ⟨u7,p6,c6,rfl,i5,e7,f1,j8⟩
 have e8:World.ownsRow _ _ _ _ (.slice p6 7 c6) 7 ([1,s.tx,s.time,s.unit,s.data,s.blocks,s.top].flatMap Zcm):=j8
 replace f1:Blk _ _ [.slice p6 7 c6] _:=f1
 have d9:=n6.blk.only e7 Do
 refine xb 22 1 d9 ?_
 have b1:=a9.only e7 Do
 refine xb 9 4 b1 ?_
 refine xw 0 (s.blocks-1) ?_
 have a8:=b8.trans i5
 refine xc 0 (args:=#[.pointer (some ⟨bs,6,none⟩),V0 1,V0 (s.blocks-1),P0 bl]) (He B Bx bs bl 6 7 _ s.details _ _ p6 c6 [1,s.tx,s.time,s.unit,s.data,s.blocks,s.top] _ hBm (N0 hBx a8.size) (N0 hBw a8.size) hBl b1 rfl f1 e8 Do) ?_
 rintro _ W8 ⟨u8,p7,c7,rfl,j0,g1,g8,i4⟩
 have e9:World.ownsRow _ _ _ _ (.slice p7 8 c7) 8 ([1,s.tx,s.time,s.unit,s.data,s.blocks,s.top,s.details].flatMap Zcm):=i4
 replace g8:Blk _ _ [.slice p7 8 c7] _:=g8
 have d5:=d9.only g1 Do
 refine xb 22 2 d5 ?_
 have b5:=b1.only g1 Do
 refine xb 9 4 b5 ?_
 refine xw 0 (s.blocks-1) ?_
 have b2:=a8.trans j0
 refine xc 0 (args:=#[.pointer (some ⟨bs,7,none⟩),V0 1,V0 (s.blocks-1),P0 bl]) (He B Bx bs bl 7 8 _ s.dslots _ _ p7 c7 [1,s.tx,s.time,s.unit,s.data,s.blocks,s.top,s.details] _ hBm (N0 hBx b2.size) (N0 hBw b2.size) hBl b5 rfl g8 e9 Do) ?_
 rintro _ W9 ⟨u9,p8,c8,rfl,j6,h3,g0,j4⟩
 have g9:World.ownsRow _ _ _ _ (.slice p8 9 c8) 9 ([1,s.tx,s.time,s.unit,s.data,s.blocks,s.top,s.details,s.dslots].flatMap Zcm):=j4
 replace g0:Blk _ _ [.slice p8 9 c8] _:=g0
 have e3:=d5.only h3 Do
 refine xb 22 3 e3 ?_
 have a3:=b5.only h3 Do
 refine xb 9 4 a3 ?_
 refine xw 0 (s.blocks-1) ?_
 have d0:=b2.trans j6
 refine xc 0 (args:=#[.pointer (some ⟨bs,8,none⟩),V0 1,V0 (s.blocks-1),P0 bl]) (He B Bx bs bl 8 9 _ s.dover _ _ p8 c8 [1,s.tx,s.time,s.unit,s.data,s.blocks,s.top,s.details,s.dslots] _ hBm (N0 hBx d0.size) (N0 hBw d0.size) hBl a3 rfl g0 g9 Do) ?_
 rintro _ k4 ⟨k0,p9,c9,rfl,f0,b4,d1,j7⟩
 have f8:World.ownsRow _ _ _ _ (.slice p9 10 c9) 10 ([1,s.tx,s.time,s.unit,s.data,s.blocks,s.top,s.details,s.dslots,s.dover].flatMap Zcm):=j7
 replace d1:Blk _ _ [.slice p9 10 c9] _:=d1
 have e1:=e3.only b4 Do
 refine xb 22 4 e1 ?_
 have a5:=a3.only b4 Do
 refine xb 9 4 a5 ?_
 refine xw 0 (s.blocks-1) ?_
 have b7:=d0.trans f0
 refine xc 0 (args:=#[.pointer (some ⟨bs,9,none⟩),V0 1,V0 (s.blocks-1),P0 bl]) (He B Bx bs bl 9 10 _ s.mindex _ _ p9 c9 [1,s.tx,s.time,s.unit,s.data,s.blocks,s.top,s.details,s.dslots,s.dover] _ hBm (N0 hBx b7.size) (N0 hBw b7.size) hBl a5 rfl d1 f8 Do) ?_
 rintro _ k2 ⟨k3,g3,f6,rfl,h0,a2,b3,h4⟩
 have d4:World.ownsRow _ _ _ _ (.slice g3 11 f6) 11 ([1,s.tx,s.time,s.unit,s.data,s.blocks,s.top,s.details,s.dslots,s.dover,s.mindex].flatMap Zcm):=h4
 replace b3:Blk _ _ [.slice g3 11 f6] _:=b3
 have g7:=e1.only a2 Do
 refine xb 22 5 g7 ?_
 have a1:=a5.only a2 Do
 refine xb 9 4 a1 ?_
 refine xw 0 (s.blocks-1) ?_
 have a0:=b7.trans h0
 refine xc 0 (args:=#[.pointer (some ⟨bs,10,none⟩),V0 1,V0 (s.blocks-1),P0 bl]) (He B Bx bs bl 10 11 _ s.mover _ _ g3 f6 [1,s.tx,s.time,s.unit,s.data,s.blocks,s.top,s.details,s.dslots,s.dover,s.mindex] _ hBm (N0 hBx a0.size) (N0 hBw a0.size) hBl a1 rfl b3 d4 Do) ?_
 rintro _ k1 ⟨j9,h7,i1,rfl,f9,h2,a6,g5⟩
 have e4:World.ownsRow _ _ _ _ (.slice h7 12 i1) 12 ([1,s.tx,s.time,s.unit,s.data,s.blocks,s.top,s.details,s.dslots,s.dover,s.mindex,s.mover].flatMap Zcm):=g5
 replace a6:Blk _ _ [.slice h7 12 i1] _:=a6
 have e2:=a0.trans f9
 have hO:=((((((((((((show Ze [293,292] w _ from h9).trans i2).trans h6).trans i0).trans h8).trans (Q0 (Za W5))).trans (Q0 n6.below)).trans e7).trans g1).trans h3).trans b4).trans a2).trans h2
 exact xe 19 (.tuple #[]) ⟨_,_,_,rfl,e2,hO,a6,e4⟩
theorem Zp4{N:List Int}{i:Nat}(h:i<N.length):Wl (N.take (i+1))=Wl (N.take i)++leB (N.getD i 0) 4:=by
 unfold Wl
 rw[A7 h,C8]
 simp[List.getD,h]
theorem byte_inj{x y:UInt8}(h:(x.toNat:Int)=(y.toNat:Int)):x=y:=UInt8.toNat_inj.1 M0
theorem bytes_ne{a b:Bl}{i:Nat}(hi:i<a.length)(hl:a.length=b.length)(h:((a.getD i 0).toNat:Int)≠((b.getD i 0).toNat:Int)):(a==b)=false:=by
 apply beq_false_of_ne
 rintro rfl
 exact h rfl
theorem bytes_eq{a b:Bl}(hl:a.length=b.length)(h:∀ j,j<a.length→a.getD j 0=b.getD j 0):(a==b)=true:=by
 rw[beq_iff_eq]
 apply F4 hl
 intro j h1 h2
 have:=h j h1
 simpa [List.getD,h1,h2] using this
theorem Zfn(p q:O0)(c d:Nat)(a b:Bl)(w:World)(hl:a.length≤100000000)(h:Bys w (.slice p a.length c) a)(h2:Bys w (.slice q b.length d) b) :
 C0 173 #[.slice p a.length c,.slice q b.length d] w (Ret (.bool (a==b)) w):=by
 refine zin 26 Tryz.func173 ?_
 refine xin 15 (a.length:Int) (b.length:Int) (fun a3=>?_) (fun a3=>?_)
 ·refine xe 7 (.bool false) ?_
  rw[show(a==b)=false from beq_false_of_ne (fun q=>by subst q;simp at *)];exact⟨rfl,(B4 w)⟩
 have hB:=Below.refl w.heap.size w
 refine zl 11 26 (fun zm a5 V=>∃ (i:Nat),a5=[(0,.slice p a.length c),(1,.slice q b.length d),(12,V0 (a.length:Int)),(13,V0 (i:Int))]∧zm=a.length-((i:Int)).toNat∧B3 w V∧i≤a.length∧(∀ j,j<i→a.getD j 0=b.getD j 0)) ⟨0,rfl,rfl,hB,A3 _,?_⟩ ?_
 ·exact fun j hj=>absurd hj M0
 rintro _ _ W2 ⟨i,rfl,rfl,a1,hi,hz⟩ J2 a6 r2
 refine xid 6 ((i:Int)<(a.length:Int)) (fun a4=>?_) (fun a4=>?_)
 ·refine xd 11 .z ?_
  refine xx (.e [0,1] 2) _ a.length i 1 (Bys.elem h (k:=i) M0).1 ?_
  have a0:=bln a1 (Za W2)
  refine xl (.e [] 3) ((Bys.elem (h.below a0) (k:=i) M0).2) ?_
  refine xx (.e [4,5] 6) _ b.length i 1 (Bys.elem h2 (k:=i) M0).1 ?_
  refine xl (.e [] 7) ((Bys.elem (h2.below a0) (k:=i) M0).2) ?_
  refine xin (.r [8] 2) (↑(a.getD i 0).toNat:Int) (↑(b.getD i 0).toNat:Int) (fun a2=>?_) (fun a2=>?_)
  ·refine xe 11 (.bool false) ?_
   rw[bytes_ne (i:=i) M0 M0 (by assumption)];exact⟨rfl,a0⟩
  refine xwm 4 ((i:Int)+1) (↑(i+1):Int) ?_
  exact ze 2 (a6 _ _ _ ⟨i+1,rfl,rfl,a0,by omega,fun j hj=>(G2 j i).elim (hz j) (fun q=>by obtain rfl:j=i:=M0;exact byte_inj (by assumption))⟩ M0)
 refine xe 11 (.bool true) ?_
 rw[bytes_eq M0 (fun j hj=>hz j M0)];exact⟨rfl,a1⟩
theorem Zb2(p q:O0)(c d m n:Nat)(a b:Bl)(w:World)(hm:a.length=m)(hn:b.length=n)(hl:m≤100000000)(h:Bys w (.slice p m c) a)(h2:Bys w (.slice q n d) b):C0 173 #[.slice p m c,.slice q n d] w (Ret (.bool (a==b)) w):=by
 subst hm hn;exact Zfn p q c d a b w hl h h2
theorem Pack_4s(p:O0)(c:Nat)(N:List Int)(w:World)(hn2:N.length≤1000)(hN:∀ i,i<N.length→0≤N.getD i 0∧N.getD i 0<4294967296)(hF:Sts Zcm w (.slice p N.length c) N) :
 C0 168 #[.slice p N.length c] w (Kc (fun w' r=>∃ q d,r=.tuple #[.slice q (N.length*4) d,V0 0]∧w'.ownsRow w.heap.size 5 1 (.slice q (N.length*4) d) (N.length*4) ((Wl N).map bv)) w):=by
 refine zin 32 Tryz.func168 ?_
 have hB:=Below.refl w.heap.size w
 refine zl 20 32 (fun zm b4 V=>∃ (i m:Nat) (q:O0) (d:Nat),b4=[(4,.slice q m d),(7,.slice p N.length c),(8,V0 (N.length:Int)),(9,V0 (i:Int))]∧zm=N.length-((i:Int)).toNat∧B3 w V∧V.ownsRow w.heap.size 5 1 (.slice q m d) m ((Wl (N.take i)).map bv)∧i≤N.length∧m=i*4) ⟨0,0,_,_,rfl,rfl,hB,A5 _ _ _ _,A3 _,rfl⟩ ?_
 rintro _ _ W1 ⟨i,m,q,d,rfl,rfl,a0,ho,hi,hm⟩ J1 b1 r1
 refine xid 6 ((i:Int)<(N.length:Int)) (fun b2=>?_) (fun b2=>?_)
 ·refine xx 6 _ N.length i 2 (Sts.cell hF Zk7 0 (k:=i) (i:=0) M0 rfl).1 ?_
  refine xlv 0 (Sts.rp (k:=i) (hF.below a0) Zk7 0 M0 Do) ?_
  refine xa 0 [V0 0,V0 0] 292 fun b3 W3 n3=>?_
  have g3:=n3.ge a0
  refine xsv 0 n3.blk [V0 4,V0 (N.getD i 0)] fun W4 u4 k4=>?_
  refine xb 6 0 k4 ?_
  refine xr 0 (Zfl _) fun W5 a5=>?_
  have a2:=k4.below a5
  refine xb 10 1 a2 ?_
  refine xb 1 0 a2 ?_
  refine xr 0 (Zm1 (N.getD i 0) (hN i M0).1 (hN i M0).2 _) fun W6 a6=>?_
  have a4:=a2.below a6
  refine xb 9 1 a4 ?_
  refine xb 1 0 a4 ?_
  refine xc 0 (Zev (N.getD i 0) (hN i M0).1 _) ?_
  rintro _ W7 ⟨_,rfl,a9,h2⟩
  have b0:=(bln (bln (u4.below (bln a0 n3.below) g3) a5) a6).size
  have a1:=Zf h2 b0
  unfold Du at a1
  rw[Zj] at a1
  obtain⟨p2,c2,rfl⟩:=(Zg a1).slice
  have a8:=Zb (Zb (Zb (u4.own2 (Zb ho n3.below) n3.blk Do) a5) a6) a9
  have a3:=bln (bln (bln (u4.below (bln a0 n3.below) g3) a5) a6) a9
  refine xbi 0 fun _ _ _ _ zJ zQ zo zx zy zK=>Xi (m:=4) (news:=(leB (N.getD i 0) 4).map bv) (.int .u8 0) 1 1 (m+4) (((Wl (N.take (i+1))).map bv)) zo Tryz.underlying22 K0 rfl Do zx a8 zy (Zg a1) (by simp[Zj]) (Vy _) (by unfold maxLen;omega) M0 a3.size (by rfl) (by rw[Zp4 M0,B5]) fun b7 b8 W8 o8 b6 b5=>?_
  refine zK _ _ ?_
  refine xwm 5 ((i:Int)+1) (↑(i+1):Int) ?_
  have a7:=a3.trans b5
  exact ze 2 (b1 _ _ _ ⟨i+1,_,_,_,rfl,rfl,a7,o8,by omega,by omega⟩ M0)
 refine xe 13 (.tuple #[.slice q m d,V0 0]) ?_
 obtain rfl:i=N.length:=by omega
 rw[K2] at ho
 subst hm
 exact⟨_,rfl,a0,_,_,rfl,ho⟩
theorem sup_put3(s:Sup):((Lj++List.replicate 236 (0:UInt8)).map bv).take 8++(Wl (1::Zcy s)).map bv++((Lj++List.replicate 236 (0:UInt8)).map bv).drop (8+48)=(Py s).map bv:=by
 unfold Py
 rw[B5 (l₁:=Lj++Wl (1::Zcy s)),B5 (l₁:=Lj) (l₂:=Wl (1::Zcy s))]
 congr 1
theorem supN_bd{s:Sup}(h:Qg s=true):∀ i,i<(1::Zcy s).length→0≤(1::Zcy s).getD i 0∧(1::Zcy s).getD i 0<4294967296:=by
 unfold Qg at h
 simp only[D9,decide_eq_true_iff,Bool.true_and] at h
 intro i hi
 have a0:i<12:=hi
 obtain rfl|rfl|rfl|rfl|rfl|rfl|rfl|rfl|rfl|rfl|rfl|rfl:i=0∨i=1∨i=2∨i=3∨i=4∨i=5∨i=6∨i=7∨i=8∨i=9∨i=10∨i=11:=by omega
 all_goals simp[Zcy,List.getD]
 all_goals omega
theorem Zjd(s:Sup)(w:World)(hb0:0≤s.blocks)(hb1:s.blocks<9223372036854775808)(hr:Qg s=false) :
 C0 100 #[.agg #[V0 s.tx,V0 s.time,V0 s.unit,V0 s.data,V0 s.blocks,V0 s.top,V0 s.details,V0 s.dslots,V0 s.dover,V0 s.mindex,V0 s.mover]] w (Ret (.tuple #[S0,V0 1]) w):=by
 refine zin 28 Tryz.func100 ?_
 refine xa 2 [V0 s.tx,V0 s.time,V0 s.unit,V0 s.data,V0 s.blocks,V0 s.top,V0 s.details,V0 s.dslots,V0 s.dover,V0 s.mindex,V0 s.mover] 24 fun b1 W1 n1=>?_
 refine xlv 7 n1.blk.rp ?_
 refine xr 0 (Zhk s _ hb0 hb1) fun W2 a0=>?_
 refine xk 3 (show(!(Qg s):Bool)=true from by rw[hr];rfl) ?_
 have hB:=bln n1.below a0
 exact xe 8 (.tuple #[S0,V0 1]) ⟨rfl,hB⟩
theorem Zpz(s:Sup)(w:World)(hb0:0≤s.blocks)(hb1:s.blocks<9223372036854775808)(hr:Qg s=true) :
 C0 100 #[.agg #[V0 s.tx,V0 s.time,V0 s.unit,V0 s.data,V0 s.blocks,V0 s.top,V0 s.details,V0 s.dslots,V0 s.dover,V0 s.mindex,V0 s.mover]] w (Kc (fun w' r=>∃ p c,r=.tuple #[.slice p 244 c,V0 0]∧w'.ownsRow w.heap.size 5 1 (.slice p 244 c) 244 ((Py s).map bv)) w):=by
 have hN:=supN_bd hr
 refine zin 28 Tryz.func100 ?_
 refine xa 2 [V0 s.tx,V0 s.time,V0 s.unit,V0 s.data,V0 s.blocks,V0 s.top,V0 s.details,V0 s.dslots,V0 s.dover,V0 s.mindex,V0 s.mover] 24 fun b1 W1 n1=>?_
 refine xlv 7 n1.blk.rp ?_
 refine xr 0 (Zhk s _ hb0 hb1) fun W2 a3=>?_
 refine xk 3 (show(!(Qg s):Bool)=false from by rw[hr];rfl) ?_
 refine xbs 5 1 [V0 4,V0 1] 292 fun b3 W3 n3=>?_
 refine xa 0 [S0] 293 fun b4 W4 n4=>?_
 refine xs 0 n4.blk [.slice (S1 b3) 1 1] fun W5 u5 k5=>?_
 have g4:=n4.ge (bln (bln n1.below a3) n3.below)
 have k3:=u5.blkT (n3.blk.below n4.below) n4.blk Do
 have g3:=n3.ge (bln n1.below a3)
 have a5:World.ownsRow W5 w.heap.size 292 2 (.slice (S1 b3) 1 1) 1 (([1]:List Int).flatMap Zcm):=Yd (size:=2) (n:=1) k3 g3 rfl Do
 have hB:=u5.below (bln (bln (bln n1.below a3) n3.below) n4.below) g4
 have a4:=u5.blkT (((n1.blk.below a3).below n3.below).below n4.below) n4.blk Do
 refine xc 5 (args:=#[P0 b1,.func (.func 167) #[] #[P0 b4]]) (Zh7 w.heap.size w.heap.size b1 b4 s _ 1 _ (At _) hB.size hB.size g4 hb0 hb1 a4 k5 a5) ?_
 rintro _ W6 ⟨u6,c0,c1,rfl,b7,d0,c4,a6⟩
 refine xb 4 0 c4 ?_
 refine xc 0 (Pack_4s c0 c1 (1::Zcy s) _ (show 12≤1000 by decide) hN (Zg a6)) ?_
 rintro _ W7 ⟨_,rfl,c7,q2,d2,rfl,h2⟩
 have c2:=(hB.trans b7).size
 have b2:=Zf h2 c2
 replace h2:World.ownsRow _ _ _ _ (.slice q2 48 d2) 48 ((Wl (1::Zcy s)).map bv):=b2
 have b5:=bln (hB.trans b7) c7
 have b8:=b5
 refine xmk 9 fun _ _ _ _ zJ zQ zo zx zy zK=>Gl 244 (.int .u8 0) 1 1 ((List.replicate 244 (0:UInt8)).map bv) zo zx zy Tryz.underlying22 K0 rfl M0 M0 (Zg5 244) fun b9 W9 n9=>?_
 refine zK _ _ ?_
 have o9:=Yd (size:=1) (n:=244) n9.blk (n9.ge (B4 W7)) (by rw[A6,B6]) (by unfold maxLen;omega)
 refine xbi 7 (t2:=9) fun _ _ _ _ zJ zQ zo zx zy zK=>Zk9 (dLen:=244) (dCap:=244) (off:=0) ([83,67,65,78,84,76,73,78]) (((Lj++List.replicate 236 (0:UInt8)).map bv)) zo Tryz.underlying22 K0 zx zy o9 Do Do n9.below.size (by rfl) fun d1 c3 c8 a9=>?_
 refine zK _ _ ?_
 have a1:=Zg h2
 have a0:=n9.below.trans a9
 refine xbi 2 (t2:=22) fun _ _ _ _ zJ zQ zo zx zy zK=>Bv (dLen:=236) (dCap:=236) (off:=8) 48 ((Wl (1::Zcy s)).map bv) (((Py s).map bv)) zo Tryz.underlying22 K0 zx zy (a1.below a0) c3 (by rw[A6,Zan];rfl) Do Do (Vy _) a0.size (sup_put3 s) fun c5 c6 c9 a8=>?_
 refine zK _ _ ?_
 have b0:=a0.trans a8
 have b6:B3 W7 c5:=b0
 have a7:w.heap.size≤W7.heap.size:=b8.size
 have hB:=bln b8 b6
 have a2:=Zf c6 a7
 exact xe 10 (.tuple #[.slice (S1 b9) 244 244,V0 0]) ⟨_,rfl,hB,_,_,rfl,a2⟩
theorem readS_bd(l:Bl):0≤(Zh l).blocks∧(Zh l).blocks<9223372036854775808:=by
 have:=Kv l 28 4 Do
 show 0≤(Zn l 28 4:Int)∧(Zn l 28 4:Int)<9223372036854775808
 omega
theorem Zl9(s:Sup)(w:World)(hb:0≤s.blocks∧s.blocks<9223372036854775808):C0 100 #[.agg #[V0 s.tx,V0 s.time,V0 s.unit,V0 s.data,V0 s.blocks,V0 s.top,V0 s.details,V0 s.dslots,V0 s.dover,V0 s.mindex,V0 s.mover]] w (fun e w' =>
 (Qg s=false∧e=.returned (.tuple #[S0,V0 1])∧B3 w w') ∨
 (Qg s=true∧∃ p c,e=.returned (.tuple #[.slice p 244 c,V0 0])∧B3 w w'∧w'.ownsRow w.heap.size 5 1 (.slice p 244 c) 244 ((Py s).map bv))):=by
 cases hr:Qg s with
 | false =>
  refine(Zjd s w hb.1 hb.2 hr).mono ?_
  rintro e W ⟨rfl,h⟩
  exact .inl ⟨rfl,rfl,h⟩
 | true =>
  refine(Zpz s w hb.1 hb.2 hr).mono ?_
  rintro e W ⟨_,rfl,h,p,c,rfl,ho⟩
  exact .inr ⟨rfl,p,c,rfl,h,ho⟩
def SupP(l:Bl)(w:World)(e:Ending)(w':World):Prop :=
 (Zxs l=false∧e=.returned (.tuple #[.agg #[V0 0,V0 0,V0 0,V0 0,V0 0,V0 0,V0 0,V0 0,V0 0,V0 0,V0 0],V0 7])∧B3 w w')∨(Zxs l=true∧e=.returned (.tuple #[.agg #[V0 ((Zh l).tx),V0 ((Zh l).time),V0 ((Zh l).unit),V0 ((Zh l).data),V0 ((Zh l).blocks),V0 ((Zh l).top),V0 ((Zh l).details),V0 ((Zh l).dslots),V0 ((Zh l).dover),V0 ((Zh l).mindex),V0 ((Zh l).mover)],V0 0])∧B3 w w')
theorem An{l:Bl}(hl:l.length=244):Zxs l=((Py (Zh l)==l)&&Qg (Zh l)):=by rw[supB_eq hl];rfl
theorem sup_Read(a:O0)(c:Nat)(l:Bl)(w:World)(hl:l.length=244)(h:Bys w (.slice a 244 c) l) :
 C0 104 #[.slice a 244 c] w (SupP l w):=by
 refine zin 29 Tryz.func104 ?_
 refine xa 2 [.slice a 244 c] 22 fun b1 W1 n1=>?_
 refine xa 0 [V0 0,V0 0,V0 0,V0 0,V0 0,V0 0,V0 0,V0 0,V0 0,V0 0,V0 0] 24 fun b2 W2 n2=>?_
 refine xa 5 [V0 0,V0 0,V0 0,V0 0,V0 0,V0 0,V0 0,V0 0,V0 0,V0 0,V0 0] 24 fun b3 W3 n3=>?_
 have c5:=n3.ne n2.blk
 have k1:=(n1.blk.below n2.below).below n3.below
 refine xb 5 0 k1 ?_
 refine xa 9 [V0 0] 3 fun b4 W4 n4=>?_
 refine xs 0 n4.blk [V0 12] fun W5 u5 k5=>?_
 have g4:=n4.ge (bln (bln n1.below n2.below) n3.below)
 have b5:=u5.blkT ((n2.blk.below n3.below).below n4.below) n4.blk Do
 have c9:=b5
 have hB:=u5.below (bln (bln (bln n1.below n2.below) n3.below) n4.below) g4
 have k3:=u5.blkT (n3.blk.below n4.below) n4.blk Do
 have a3:=u5.blkT (k1.below n4.below) n4.blk Do
 have g3:=n3.ge (bln n1.below n2.below)
 refine xc 5 (args:=#[P0 b3,.func (.func 172) #[] #[P0 b1,P0 b4]]) (Zem b3 b3 b1 b4 a c l _ (by have:=n3.at_;have:=hB.size;have q:=(k3).lt;omega) (At _) (by have q1:=n3.at_;have q2:=n3.size;have q3:=n4.at_;omega) k3 a3 k5 hl (fun W q=>h.below (hB.trans (q.mono g3)))) ?_
 rintro _ W6 ⟨u6,rfl,a9,d0,b0⟩
 have b8:=c9.below' a9 (by have q1:=n2.at_;have q2:=n2.size;have q3:=n3.at_;omega)
 replace b0:Blk _ _ [V0 ((Zh l).tx),V0 ((Zh l).time),V0 ((Zh l).unit),V0 ((Zh l).data),V0 ((Zh l).blocks),V0 ((Zh l).top),V0 ((Zh l).details),V0 ((Zh l).dslots),V0 ((Zh l).dover),V0 ((Zh l).mindex),V0 ((Zh l).mover)] _:=b0
 refine xlv 5 b0.rp ?_
 refine xc 0 (Zl9 (Zh l) _ (readS_bd l)) ?_
 rintro e W7 c7
 rcases c7 with ⟨c0,rfl,a0⟩|⟨c0,p4,c4,rfl,a0,h4⟩
 ·have a6:=b8.below a0
  refine xsv 23 a6 [V0 0,V0 0,V0 0,V0 0,V0 0,V0 0,V0 0,V0 0,V0 0,V0 0,V0 0] fun W8 u8 k8=>?_
  have g2:=n2.ge n1.below
  have b9:=u8.below (bln (hB.trans (a9.mono g3)) a0) g2
  exact xec 5 k8 (.tuple #[.agg #[V0 0,V0 0,V0 0,V0 0,V0 0,V0 0,V0 0,V0 0,V0 0,V0 0,V0 0],V0 7]) (.inl ⟨by rw[An hl,c0];exact O8 _,rfl,b9⟩)
 have c6:=(hB.trans (a9.mono g3)).size
 have c3:=(a3.only d0 Do).below a0
 refine xb 13 0 c3 ?_
 have b6:=Zf h4 c6
 have a1:=bln (hB.trans (a9.mono g3)) a0
 refine xr 0 (args:=#[.slice p4 244 c4,.slice a 244 c]) (Zb2 p4 a c4 c 244 244 (Py (Zh l)) l _ (Kx _) hl Do (Vc (Zg b6) (Kx _)) (h.below a1)) fun W9 a8=>?_
 refine xi 4 (!(Py (Zh l)==l)) (fun a2=>?_) (fun a2=>?_)
 ·have c2:(Py (Zh l)==l)=false:=by simpa using a2
  have a4:=(b8.below a0).below a8
  refine xsv 3 a4 [V0 0,V0 0,V0 0,V0 0,V0 0,V0 0,V0 0,V0 0,V0 0,V0 0,V0 0] fun d4 d1 c8=>?_
  have g2:=n2.ge n1.below
  have b7:=d1.below (bln a1 a8) g2
  exact xec 5 c8 (.tuple #[.agg #[V0 0,V0 0,V0 0,V0 0,V0 0,V0 0,V0 0,V0 0,V0 0,V0 0,V0 0],V0 7]) (.inl ⟨by rw[An hl,c2];rfl,rfl,b7⟩)
 have c2:(Py (Zh l)==l)=true:=by simpa using a2
 have a5:=(b0.below a0).below a8
 refine xlv 4 a5.rp ?_
 have a7:=(b8.below a0).below a8
 refine xsv 0 a7 [V0 ((Zh l).tx),V0 ((Zh l).time),V0 ((Zh l).unit),V0 ((Zh l).data),V0 ((Zh l).blocks),V0 ((Zh l).top),V0 ((Zh l).details),V0 ((Zh l).dslots),V0 ((Zh l).dover),V0 ((Zh l).mindex),V0 ((Zh l).mover)] fun d5 d2 d3=>?_
 have g2:=n2.ge n1.below
 have c1:=d2.below (bln a1 a8) g2
 exact xec 4 d3 (.tuple #[.agg #[V0 ((Zh l).tx),V0 ((Zh l).time),V0 ((Zh l).unit),V0 ((Zh l).data),V0 ((Zh l).blocks),V0 ((Zh l).top),V0 ((Zh l).details),V0 ((Zh l).dslots),V0 ((Zh l).dover),V0 ((Zh l).mindex),V0 ((Zh l).mover)],V0 0]) (.inr ⟨by rw[An hl,c2,c0];rfl,rfl,c1⟩)
def Bo(l:Bl)(n:Nat):Int:=if Zxs l then(if(n:Int)<(Zh l).blocks then 2 else 0) else 7
def Yw(l:Bl):Int:=if inE l 1 0=0 then Bo (inB l 0) (l.length/256) else inE l 1 0
def Sup1P(l:Bl)(n:Nat)(w:World)(e:Ending)(w':World):Prop :=
 (Bo l n≠0∧∃ s:Sup,e=.returned (.tuple #[.agg #[V0 s.tx,V0 s.time,V0 s.unit,V0 s.data,V0 s.blocks,V0 s.top,V0 s.details,V0 s.dslots,V0 s.dover,V0 s.mindex,V0 s.mover],V0 (Bo l n)])∧B3 w w')∨(Bo l n=0∧e=.returned (.tuple #[.agg #[V0 ((Zh l).tx),V0 ((Zh l).time),V0 ((Zh l).unit),V0 ((Zh l).data),V0 ((Zh l).blocks),V0 ((Zh l).top),V0 ((Zh l).details),V0 ((Zh l).dslots),V0 ((Zh l).dover),V0 ((Zh l).mindex),V0 ((Zh l).mover)],V0 0])∧B3 w w')
def Zsq(l:Bl)(w:World)(e:Ending)(w':World):Prop :=
 (Yw l≠0∧∃ b,e=.returned (.tuple #[.agg #[V0 0,V0 0,V0 0,V0 0,V0 0,V0 0,V0 0,V0 0,V0 0,V0 0,V0 0],.iface 188 (P0 b)])∧B3 w w'∧Kr w' [some 0] (some (Yw l)) (.iface 188 (P0 b))) ∨
 (Yw l=0∧e=.returned (.tuple #[.agg #[V0 ((Zh (inB l 0)).tx),V0 ((Zh (inB l 0)).time),V0 ((Zh (inB l 0)).unit),V0 ((Zh (inB l 0)).data),V0 ((Zh (inB l 0)).blocks),V0 ((Zh (inB l 0)).top),V0 ((Zh (inB l 0)).details),V0 ((Zh (inB l 0)).dslots),V0 ((Zh (inB l 0)).dover),V0 ((Zh (inB l 0)).mindex),V0 ((Zh (inB l 0)).mover)],.nilIface])∧B3 w w')
def supZ:Sup:=⟨0,0,0,0,0,0,0,0,0,0,0⟩
theorem super_1(B b bm:Nat)(pi:O0)(ni ci:Nat)(li:Bl)(a:O0)(c:Nat)(l:Bl)(w:World)(hI:ImgR B b pi ni ci li w)(km:Blk w bm [P0 b] 31)(hl:l.length=244)(h:Bys w (.slice a 244 c) l) :
 C0 103 #[.slice a 244 c,P0 bm] w (Sup1P l (ni/256) w):=by
 have c9:=hI.hn
 refine zin 24 Tryz.func103 ?_
 refine xa 2 [V0 0,V0 0,V0 0,V0 0,V0 0,V0 0,V0 0,V0 0,V0 0,V0 0,V0 0] 24 fun b1 W1 n1=>?_
 refine xc 6 (sup_Read a c l _ hl (h.below n1.below)) ?_
 rintro e W2 c6
 rcases c6 with ⟨a5,rfl,a3⟩|⟨a5,rfl,a3⟩
 ·refine xa 3 [V0 0,V0 0,V0 0,V0 0,V0 0,V0 0,V0 0,V0 0,V0 0,V0 0,V0 0] 24 fun b3 W3 n3=>?_
  have k1:=n1.blk.below a3
  have a6:=n3.ne k1
  have a8:=bln n1.below a3
  have g3:=n3.ge a8
  refine xsv 0 n3.blk [V0 0,V0 0,V0 0,V0 0,V0 0,V0 0,V0 0,V0 0,V0 0,V0 0,V0 0] fun W4 u4 k4=>?_
  refine xd 5 .z ?_
  have a9:=k4.below (Za W4)
  refine xlv (.r [0,1,2,3,4,5,6,7,8] 7) a9.rp ?_
  have b0:=(u4.blk (k1.below n3.below) a6).below (Za W4)
  refine xsv 1 b0 [V0 0,V0 0,V0 0,V0 0,V0 0,V0 0,V0 0,V0 0,V0 0,V0 0,V0 0] fun W5 u5 k5=>?_
  have g1:=n1.ge (B4 w)
  have b9:=u5.below (bln (u4.below (bln a8 n3.below) g3) (Za W4)) g1
  exact xec 4 k5 (.tuple #[.agg #[V0 0,V0 0,V0 0,V0 0,V0 0,V0 0,V0 0,V0 0,V0 0,V0 0,V0 0],V0 7]) (.inl ⟨by unfold Bo;rw[a5,if_neg Do];decide,supZ,by unfold Bo;rw[a5,if_neg Do];rfl,b9⟩)
 refine xa 3 [V0 0,V0 0,V0 0,V0 0,V0 0,V0 0,V0 0,V0 0,V0 0,V0 0,V0 0] 24 fun b6 W6 n6=>?_
 have k1:=n1.blk.below a3
 have a0:=n6.ne k1
 have a7:=bln n1.below a3
 have g6:=n6.ge a7
 refine xsv 0 n6.blk [V0 ((Zh l).tx),V0 ((Zh l).time),V0 ((Zh l).unit),V0 ((Zh l).data),V0 ((Zh l).blocks),V0 ((Zh l).top),V0 ((Zh l).details),V0 ((Zh l).dslots),V0 ((Zh l).dover),V0 ((Zh l).mindex),V0 ((Zh l).mover)] fun W7 u7 k7=>?_
 refine xd 5 .z ?_
 have a1:=k7.below (Za W7)
 refine xb (.e [0,1,2,3] 4) 4 a1 ?_
 have b8:=(u7.blkT (((km.below n1.below).below a3).below n6.below) n6.blk Do).below (Za W7)
 refine xb (.e [] 5) 0 b8 ?_
 have a2:=bln (u7.below (bln a7 n6.below) g6) (Za W7)
 refine xr (.o [] 6) (args:=#[P0 b]) (Yz b _ ni ci _ (hI.below a2).blk M0) fun W8 a4=>?_
 refine xid (.r [7,8] 2) ((Zh l).blocks>(↑(ni/256):Int)) (fun c2=>?_) (fun c2=>?_)
 ·have c0:=a1.below a4
  refine xlv 2 c0.rp ?_
  have c1:=((u7.blk (k1.below n6.below) a0).below (Za W7)).below a4
  refine xsv 0 c1 [V0 ((Zh l).tx),V0 ((Zh l).time),V0 ((Zh l).unit),V0 ((Zh l).data),V0 ((Zh l).blocks),V0 ((Zh l).top),V0 ((Zh l).details),V0 ((Zh l).dslots),V0 ((Zh l).dover),V0 ((Zh l).mindex),V0 ((Zh l).mover)] fun d0 c7 c4=>?_
  have g1:=n1.ge (B4 w)
  have b7:=c7.below (bln a2 a4) g1
  exact xec 5 c4 (.tuple #[.agg #[V0 ((Zh l).tx),V0 ((Zh l).time),V0 ((Zh l).unit),V0 ((Zh l).data),V0 ((Zh l).blocks),V0 ((Zh l).top),V0 ((Zh l).details),V0 ((Zh l).dslots),V0 ((Zh l).dover),V0 ((Zh l).mindex),V0 ((Zh l).mover)],V0 2]) (.inl ⟨by unfold Bo;rw[if_pos a5,if_pos M0];decide,Zh l,by unfold Bo;rw[if_pos a5,if_pos M0],b7⟩)
 have b2:=a1.below a4
 refine xlv 4 b2.rp ?_
 have b4:=((u7.blk (k1.below n6.below) a0).below (Za W7)).below a4
 refine xsv 1 b4 [V0 ((Zh l).tx),V0 ((Zh l).time),V0 ((Zh l).unit),V0 ((Zh l).data),V0 ((Zh l).blocks),V0 ((Zh l).top),V0 ((Zh l).details),V0 ((Zh l).dslots),V0 ((Zh l).dover),V0 ((Zh l).mindex),V0 ((Zh l).mover)] fun c8 c5 c3=>?_
 have g1:=n1.ge (B4 w)
 have b5:=c5.below (bln a2 a4) g1
 exact xec 4 c3 (.tuple #[.agg #[V0 ((Zh l).tx),V0 ((Zh l).time),V0 ((Zh l).unit),V0 ((Zh l).data),V0 ((Zh l).blocks),V0 ((Zh l).top),V0 ((Zh l).details),V0 ((Zh l).dslots),V0 ((Zh l).dover),V0 ((Zh l).mindex),V0 ((Zh l).mover)],V0 0]) (.inr ⟨by unfold Bo;rw[if_pos a5,if_neg M0],rfl,b5⟩)
theorem Zty(B b:Nat)(p:O0)(n c:Nat)(l:Bl)(w:World)(hI:ImgR B b p n c l w)(bt:Nat)(kt:Blk w bt [P0 b] 31) :
 C0 102 #[P0 b,V0 0,V0 1,.func (.func 103) #[] #[P0 bt]] w (Zsq l w):=by
 refine zin 56 Tryz.func102 ?_
 refine xa 2 [V0 0,V0 0,V0 0,V0 0,V0 0,V0 0,V0 0,V0 0,V0 0,V0 0,V0 0] 24 fun b1 W1 n1=>?_
 refine xa 5 [V0 0,V0 0,V0 0,V0 0,V0 0,V0 0,V0 0,V0 0,V0 0,V0 0,V0 0] 24 fun b2 W2 n2=>?_
 have h5:=n2.ne n1.blk
 have hB:=bln n1.below n2.below
 refine xc 6 (Co B b p n c l 0 _ (hI.below hB)) ?_
 rintro e W3 i7
 rcases i7 with ⟨ho,vr,rfl,a0⟩|⟨j,hk,hj,p2,c2,rfl,a0,ho⟩
 ·refine xd 16 (.t w.heap.size [24]) ?_
  refine xm2 (.b [1,2,3]) 0 4 ?_ ?_
  ·have k2:=(n2.blk.below a0).below (Za W3)
   refine xlv 0 k2.rp ?_
   refine yc (.o [] 4) (.t w.heap.size [24]) (Yc 0 3 _) ?_
   rintro _ W4 ⟨_,rfl,f6,g0⟩
   refine⟨(Q3 _ f6),?_⟩
   rw[if_neg Do,if_neg Do] at g0
   have h9:=g0
   obtain⟨i3,k1,rfl,_,_⟩:=h9
   have c1:=(((n1.blk.below n2.below).below a0).below (Za W3)).below f6
   have g1:=n1.ge (B4 w)
   refine ysv (.o [] 5) c1 [V0 0,V0 0,V0 0,V0 0,V0 0,V0 0,V0 0,V0 0,V0 0,V0 0,V0 0] (.t w.heap.size [24]) fun W5 u5 k5=>⟨(Zt u5 c1 g1 Do),?_⟩
   have e4:=u5.below (bln (bln (bln hB a0) (Za W3)) f6) g1
   have d3:=g0.upd u5 c1 Do
   refine xec (.r [6] 4) k5 (.tuple #[.agg #[V0 0,V0 0,V0 0,V0 0,V0 0,V0 0,V0 0,V0 0,V0 0,V0 0,V0 0],.iface 188 (P0 i3)]) ?_
   have he:Yw l=3:=by unfold Yw;rw[Rq hI.len ho];rfl
   exact .inl ⟨by rw[he];decide,_,rfl,e4,by rw[he];exact d3⟩
  refine yc 0 (.t w.heap.size [24]) (Yc 0 3 _) ?_
  rintro _ W6 ⟨_,rfl,e0,g8⟩
  refine⟨(Q3 _ e0),?_⟩
  rw[if_neg Do,if_neg Do] at g8
  have i9:=g8
  obtain⟨j4,l2,rfl,_,_⟩:=i9
  have k2:=((n2.blk.below a0).below (Za W3)).below e0
  refine xlv (.o [] 0) k2.rp ?_
  have b3:=(((n1.blk.below n2.below).below a0).below (Za W3)).below e0
  have g1:=n1.ge (B4 w)
  refine ysv (.o [] 5) b3 [V0 0,V0 0,V0 0,V0 0,V0 0,V0 0,V0 0,V0 0,V0 0,V0 0,V0 0] (.t w.heap.size [24]) fun W7 u7 k7=>⟨(Zt u7 b3 g1 Do),?_⟩
  have f0:=u7.below (bln (bln (bln hB a0) (Za W3)) e0) g1
  have d5:=g8.upd u7 b3 Do
  refine xec (.r [6] 4) k7 (.tuple #[.agg #[V0 0,V0 0,V0 0,V0 0,V0 0,V0 0,V0 0,V0 0,V0 0,V0 0,V0 0],.iface 188 (P0 j4)]) ?_
  have he:Yw l=3:=by unfold Yw;rw[Rq hI.len ho];rfl
  exact .inl ⟨by rw[he];decide,_,rfl,f0,by rw[he];exact d5⟩
 have j7:=(bln n1.below n2.below).size
 have j1:j<l.length/256:=by rw[hI.len];exact hj
 have h1:=Jj j1
 have d6:=Zc8 (l:=l) (kind:=1) hI.len hk hj
 have e8:=Zf ho j7
 refine xc 22 (Se 1 0 p2 256 c2 (Vv l j) _ h1 (Vc (Zg e8) h1)) ?_
 rintro e W8 j2
 rcases j2 with ⟨hs,rfl,a2⟩|⟨hs,p3,c3,rfl,a2,h3⟩
 ·refine xk 14 (show(((Qv 1 0 (Vv l j)) != (0:Int)):Bool)=true from bne_iff_ne.2 hs) ?_
  refine xd 1 (.t w.heap.size [24]) ?_
  refine xm2 (.b [1,2,3]) 0 4 ?_ ?_
  ·have k2:=((n2.blk.below a0).below a2).below (Za W8)
   refine xlv 0 k2.rp ?_
   refine yc (.o [] 4) (.t w.heap.size [24]) (Yc 0 (Qv 1 0 (Vv l j)) _) ?_
   rintro _ W9 ⟨_,rfl,g2,f9⟩
   refine⟨(Q3 _ g2),?_⟩
   rw[if_neg hs,if_neg hs] at f9
   have i6:=f9
   obtain⟨j8,l8,rfl,_,_⟩:=i6
   have b4:=((((n1.blk.below n2.below).below a0).below a2).below (Za W8)).below g2
   have g1:=n1.ge (B4 w)
   refine ysv (.o [] 5) b4 [V0 0,V0 0,V0 0,V0 0,V0 0,V0 0,V0 0,V0 0,V0 0,V0 0,V0 0] (.t w.heap.size [24]) fun l3 e6 j5=>⟨(Zt e6 b4 g1 Do),?_⟩
   have g6:=e6.below (bln (bln (bln (bln hB a0) a2) (Za W8)) g2) g1
   have d7:=f9.upd e6 b4 Do
   refine xec (.r [6] 4) j5 (.tuple #[.agg #[V0 0,V0 0,V0 0,V0 0,V0 0,V0 0,V0 0,V0 0,V0 0,V0 0,V0 0],.iface 188 (P0 j8)]) ?_
   have he:Yw l=Qv 1 0 (Vv l j):=by unfold Yw;rw[d6,if_neg hs]
   exact .inl ⟨by rw[he];exact hs,_,rfl,g6,by rw[he];exact d7⟩
  refine yc 0 (.t w.heap.size [24]) (Yc 0 (Qv 1 0 (Vv l j)) _) ?_
  rintro _ l1 ⟨_,rfl,a8,c0⟩
  refine⟨(Q3 _ a8),?_⟩
  rw[if_neg hs,if_neg hs] at c0
  have e7:=c0
  obtain⟨f2,h7,rfl,_,_⟩:=e7
  have k2:=(((n2.blk.below a0).below a2).below (Za W8)).below a8
  refine xlv (.o [] 0) k2.rp ?_
  have b8:=((((n1.blk.below n2.below).below a0).below a2).below (Za W8)).below a8
  have g1:=n1.ge (B4 w)
  refine ysv (.o [] 5) b8 [V0 0,V0 0,V0 0,V0 0,V0 0,V0 0,V0 0,V0 0,V0 0,V0 0,V0 0] (.t w.heap.size [24]) fun k6 e5 i8=>⟨(Zt e5 b8 g1 Do),?_⟩
  have f8:=e5.below (bln (bln (bln (bln hB a0) a2) (Za W8)) a8) g1
  have b0:=c0.upd e5 b8 Do
  refine xec (.r [6] 4) i8 (.tuple #[.agg #[V0 0,V0 0,V0 0,V0 0,V0 0,V0 0,V0 0,V0 0,V0 0,V0 0,V0 0],.iface 188 (P0 f2)]) ?_
  have he:Yw l=Qv 1 0 (Vv l j):=by unfold Yw;rw[d6,if_neg hs]
  exact .inl ⟨by rw[he];exact hs,_,rfl,f8,by rw[he];exact b0⟩
 have j3:=(bln hB a0).size
 have d2:=Zf h3 j3
 have i1:((Vv l j).drop 8).take 244=inB l 0:=(Zdy hk).symm
 have h0:=Zfq hI.len hk hj
 rw[i1] at d2
 have a7:=bln (bln hB a0) a2
 refine xc 21 (super_1 B b bt p n c l p3 c3 (inB l 0) _ (hI.below a7) (kt.below a7) h0 (Vc (Zg d2) h0)) ?_
 rintro e k4 g9
 rcases g9 with ⟨hz,s9,rfl,a1⟩|⟨hz,rfl,a1⟩
 ·refine xa 3 [V0 0,V0 0,V0 0,V0 0,V0 0,V0 0,V0 0,V0 0,V0 0,V0 0,V0 0] 24 fun l4 l6 a5=>?_
  have b7:=(((n1.blk.below n2.below).below a0).below a2).below a1
  have a4:=a5.ne b7
  have k2:=((n2.blk.below a0).below a2).below a1
  have a3:=a5.ne k2
  have b6:=bln a7 a1
  have h4:=a5.ge b6
  refine xsv 0 a5.blk [V0 s9.tx,V0 s9.time,V0 s9.unit,V0 s9.data,V0 s9.blocks,V0 s9.top,V0 s9.details,V0 s9.dslots,V0 s9.dover,V0 s9.mindex,V0 s9.mover] fun d1 c9 k3=>?_
  refine xk 10 (show(((Bo (inB l 0) (n/256)) != (0:Int)):Bool)=true from bne_iff_ne.2 hz) ?_
  refine xd 1 (.t w.heap.size [24]) ?_
  refine xm2 (.b [1,2,3]) 0 4 ?_ ?_
  ·have g5:=(c9.blk (k2.below a5.below) a3).below (Za d1)
   refine xlv 0 g5.rp ?_
   refine yc (.o [] 4) (.t w.heap.size [24]) (Yc 0 (Bo (inB l 0) (n/256)) _) ?_
   rintro _ j9 ⟨_,rfl,c6,c4⟩
   refine⟨(Q3 _ c6),?_⟩
   rw[if_neg hz,if_neg hz] at c4
   have e2:=c4
   obtain⟨f4,i4,rfl,_,_⟩:=e2
   have b9:=((c9.blk (b7.below a5.below) a4).below (Za d1)).below c6
   have g1:=n1.ge (B4 w)
   refine ysv (.o [] 5) b9 [V0 0,V0 0,V0 0,V0 0,V0 0,V0 0,V0 0,V0 0,V0 0,V0 0,V0 0] (.t w.heap.size [24]) fun l5 e3 j6=>⟨(Zt e3 b9 g1 Do),?_⟩
   have f3:=e3.below (bln (bln (c9.below (bln b6 a5.below) h4) (Za d1)) c6) g1
   have c5:=c4.upd e3 b9 Do
   refine xec (.r [6] 4) j6 (.tuple #[.agg #[V0 0,V0 0,V0 0,V0 0,V0 0,V0 0,V0 0,V0 0,V0 0,V0 0,V0 0],.iface 188 (P0 f4)]) ?_
   have he:Yw l=Bo (inB l 0) (n/256):=by unfold Yw;rw[d6,if_pos hs,hI.len]
   exact .inl ⟨by rw[he];exact hz,_,rfl,f3,by rw[he];exact c5⟩
  refine yc 0 (.t w.heap.size [24]) (Yc 0 (Bo (inB l 0) (n/256)) _) ?_
  rintro _ k0 ⟨_,rfl,a6,a9⟩
  refine⟨(Q3 _ a6),?_⟩
  rw[if_neg hz,if_neg hz] at a9
  have f1:=a9
  obtain⟨f7,h6,rfl,_,_⟩:=f1
  have g3:=((c9.blk (k2.below a5.below) a3).below (Za d1)).below a6
  refine xlv (.o [] 0) g3.rp ?_
  have c7:=((c9.blk (b7.below a5.below) a4).below (Za d1)).below a6
  have g1:=n1.ge (B4 w)
  refine ysv (.o [] 5) c7 [V0 0,V0 0,V0 0,V0 0,V0 0,V0 0,V0 0,V0 0,V0 0,V0 0,V0 0] (.t w.heap.size [24]) fun k8 e9 i2=>⟨(Zt e9 c7 g1 Do),?_⟩
  have g7:=e9.below (bln (bln (c9.below (bln b6 a5.below) h4) (Za d1)) a6) g1
  have c8:=a9.upd e9 c7 Do
  refine xec (.r [6] 4) i2 (.tuple #[.agg #[V0 0,V0 0,V0 0,V0 0,V0 0,V0 0,V0 0,V0 0,V0 0,V0 0,V0 0],.iface 188 (P0 f7)]) ?_
  have he:Yw l=Bo (inB l 0) (n/256):=by unfold Yw;rw[d6,if_pos hs,hI.len]
  exact .inl ⟨by rw[he];exact hz,_,rfl,g7,by rw[he];exact c8⟩
 refine xa 3 [V0 0,V0 0,V0 0,V0 0,V0 0,V0 0,V0 0,V0 0,V0 0,V0 0,V0 0] 24 fun l7 l0 d0=>?_
 have d4:=(((n1.blk.below n2.below).below a0).below a2).below a1
 have b5:=d0.ne d4
 have k2:=((n2.blk.below a0).below a2).below a1
 have e1:=d0.ne k2
 have d8:=bln a7 a1
 have j0:=d0.ge d8
 refine xsv 0 d0.blk [V0 ((Zh (inB l 0)).tx),V0 ((Zh (inB l 0)).time),V0 ((Zh (inB l 0)).unit),V0 ((Zh (inB l 0)).data),V0 ((Zh (inB l 0)).blocks),V0 ((Zh (inB l 0)).top),V0 ((Zh (inB l 0)).details),V0 ((Zh (inB l 0)).dslots),V0 ((Zh (inB l 0)).dover),V0 ((Zh (inB l 0)).mindex),V0 ((Zh (inB l 0)).mover)] fun l9 h2 i5=>?_
 refine xlv 15 i5.rp ?_
 have f5:=h2.blk (d4.below d0.below) b5
 refine xsv 0 f5 [V0 ((Zh (inB l 0)).tx),V0 ((Zh (inB l 0)).time),V0 ((Zh (inB l 0)).unit),V0 ((Zh (inB l 0)).data),V0 ((Zh (inB l 0)).blocks),V0 ((Zh (inB l 0)).top),V0 ((Zh (inB l 0)).details),V0 ((Zh (inB l 0)).dslots),V0 ((Zh (inB l 0)).dover),V0 ((Zh (inB l 0)).mindex),V0 ((Zh (inB l 0)).mover)] fun k9 i0 h8=>?_
 have g1:=n1.ge (B4 w)
 have d9:=i0.below (h2.below (bln d8 d0.below) j0) g1
 exact xec 4 h8 (.tuple #[.agg #[V0 ((Zh (inB l 0)).tx),V0 ((Zh (inB l 0)).time),V0 ((Zh (inB l 0)).unit),V0 ((Zh (inB l 0)).data),V0 ((Zh (inB l 0)).blocks),V0 ((Zh (inB l 0)).top),V0 ((Zh (inB l 0)).details),V0 ((Zh (inB l 0)).dslots),V0 ((Zh (inB l 0)).dover),V0 ((Zh (inB l 0)).mindex),V0 ((Zh (inB l 0)).mover)],.nilIface]) (.inr ⟨by unfold Yw;rw[d6,if_pos hs,hI.len,hz],rfl,d9⟩)
theorem Zkz(B b:Nat)(p:O0)(n c:Nat)(l:Bl)(w:World)(hI:ImgR B b p n c l w) :
 C0 56 #[P0 b] w (Zsq l w):=by
 refine zin 9 Tryz.func56 ?_
 refine xa 2 [P0 b] 31 fun b1 W1 n1=>?_
 refine xa 0 [V0 0,V0 0,V0 0,V0 0,V0 0,V0 0,V0 0,V0 0,V0 0,V0 0,V0 0] 24 fun b2 W2 n2=>?_
 have k1:=n1.blk.below n2.below
 refine xb 5 0 k1 ?_
 have hB:=bln n1.below n2.below
 refine xc 1 (Zty B b p n c l _ (hI.below hB) b1 k1) ?_
 rintro e W3 a4
 rcases a4 with ⟨he,bf,rfl,a0,hv⟩|⟨he,rfl,a0⟩
 ·have k2:=n2.blk.below a0
  refine xsv 2 k2 [V0 0,V0 0,V0 0,V0 0,V0 0,V0 0,V0 0,V0 0,V0 0,V0 0,V0 0] fun W4 u4 k4=>?_
  have g2:=n2.ge n1.below
  have a1:=u4.below (bln hB a0) g2
  have a2:=hv.upd u4 k2 Do
  exact xec 4 k4 (.tuple #[.agg #[V0 0,V0 0,V0 0,V0 0,V0 0,V0 0,V0 0,V0 0,V0 0,V0 0,V0 0],.iface 188 (P0 bf)]) (.inl ⟨he,_,rfl,a1,a2⟩)
 have k2:=n2.blk.below a0
 refine xsv 2 k2 [V0 ((Zh (inB l 0)).tx),V0 ((Zh (inB l 0)).time),V0 ((Zh (inB l 0)).unit),V0 ((Zh (inB l 0)).data),V0 ((Zh (inB l 0)).blocks),V0 ((Zh (inB l 0)).top),V0 ((Zh (inB l 0)).details),V0 ((Zh (inB l 0)).dslots),V0 ((Zh (inB l 0)).dover),V0 ((Zh (inB l 0)).mindex),V0 ((Zh (inB l 0)).mover)] fun W5 u5 k5=>?_
 have g2:=n2.ge n1.below
 have a3:=u5.below (bln hB a0) g2
 exact xec 4 k5 (.tuple #[.agg #[V0 ((Zh (inB l 0)).tx),V0 ((Zh (inB l 0)).time),V0 ((Zh (inB l 0)).unit),V0 ((Zh (inB l 0)).data),V0 ((Zh (inB l 0)).blocks),V0 ((Zh (inB l 0)).top),V0 ((Zh (inB l 0)).details),V0 ((Zh (inB l 0)).dslots),V0 ((Zh (inB l 0)).dover),V0 ((Zh (inB l 0)).mindex),V0 ((Zh (inB l 0)).mover)],.nilIface]) (.inr ⟨he,rfl,a3⟩)
def Uo(l:Bl)(no:Int):List Int:=if Yi l no=0 then bitI (inB l no) (Zn (inB l no) 0 4) else []
def We(l:Bl)(no:Int):List (Nat×Nat×Nat):=if Qw l no=0 then Sk (inB l no) (Zn (inB l no) 0 4) else []
theorem Zff{l:Bl}{no:Int}(h:Yi l no=0):Uo l no=bitI (inB l no) (Zn (inB l no) 0 4)∧(Uo l no).length=Zn (inB l no) 0 4:=by unfold Uo;rw[if_pos h];exact⟨rfl,Zl7 _ _⟩
theorem bitR_bad{l:Bl}{no:Int}(h:Yi l no≠0):Uo l no=[]:=if_neg h
theorem Rt{l:Bl}{no:Int}(h:Qw l no=0):We l no=Sk (inB l no) (Zn (inB l no) 0 4)∧(We l no).length=Zn (inB l no) 0 4:=by unfold We;rw[if_pos h];exact⟨rfl,Zhy _ _⟩
theorem idxR_bad{l:Bl}{no:Int}(h:Qw l no≠0):We l no=[]:=if_neg h
theorem bitI_map(l:Bl)(n:Nat):(bitI l n).map V0=(Zbi l n).map nv:=by simp[bitI,nv]
def bmI (n:Int):Nat:=bmN n.toNat
abbrev Plc:=(Nat×Nat×Nat)×Int×Int
def Nj:Plc:=((0,0,0),0,0)
def Zn1(x:Plc):List Value:=[V0 (x.1.1:Int),V0 (x.1.2.1:Int),V0 (x.1.2.2:Int),V0 x.2.1,V0 x.2.2]
theorem Zne(x:Plc):(Zn1 x).length=5:=rfl
def Zn4(l:Bl)(x:Plc)(want:Int):List Int×Int×List Int :=
 if x.2.2≠0 then([x.2.1],x.2.2,[])
 else if Yi l (x.1.1:Int)≠0 then([x.2.1,(x.1.1:Int)],Yi l (x.1.1:Int),[])
 else if((Uo l (x.1.1:Int)).length:Int)≠want then([x.2.1],7,[])
 else if Yo (Uo l (x.1.1:Int))=x.1.2.1∧Xl (Uo l (x.1.1:Int))=x.1.2.2 then([],0,Uo l (x.1.1:Int))
 else([x.2.1],13,[])
theorem Zvd{l:Bl}{x:Plc}{want:Int}(h:(Zn4 l x want).2.1=0):Zn4 l x want=([],0,Uo l (x.1.1:Int))∧((Uo l (x.1.1:Int)).length:Int)=want:=by
 unfold Zn4 at h ⊢
 by_cases h1:x.2.2=0
 ·rw[if_neg (fun q=>q h1)] at h ⊢
  by_cases h2:Yi l (x.1.1:Int)=0
  ·rw[if_neg (fun q=>q h2)] at h ⊢
   by_cases h3:((Uo l (x.1.1:Int)).length:Int)=want
   ·rw[if_neg (fun q=>q h3)] at h ⊢
    by_cases h4:Yo (Uo l (x.1.1:Int))=x.1.2.1∧Xl (Uo l (x.1.1:Int))=x.1.2.2
    ·rw[if_pos h4];exact⟨rfl,h3⟩
    ·rw[if_neg h4] at h;simp at h
   ·rw[if_pos h3] at h;simp at h
  ·rw[if_pos h2] at h;exact absurd h h2
 ·rw[if_pos h1] at h;exact absurd h h1
def Uj(n:Int)(i:Nat):Int:=if n-960*i<960 then n-960*i else 960
def Zf1(l:Bl)(X:List Plc)(n:Int)(i:Nat):List Int×Int×List Int:=Zn4 l (X.getD i Nj) (Uj n i)
def Lp(l:Bl)(X:List Plc)(n:Int)(i:Nat):List (List Int):=(List.range i).map fun j=>Uo l ((X.getD j Nj).1.1:Int)
theorem Kf(l:Bl)(X:List Plc)(n:Int)(i:Nat):(Lp l X n i).length=i:=by simp[Lp]
theorem Zmc{l:Bl}{X:List Plc}{n:Int}{i j:Nat}(h:j<i):(Lp l X n i).getD j []=Uo l ((X.getD j Nj).1.1:Int):=by simp[Lp,List.getD,B8 h]
theorem Zha(l:Bl)(X:List Plc)(n:Int)(i:Nat):Lp l X n (i+1)=Lp l X n i++[Uo l ((X.getD i Nj).1.1:Int)]:=by simp[Lp,C3]
def allK(l:Bl)(X:List Plc)(n:Int)(i:Nat):Prop:=∀ j,j<i→(Zf1 l X n j).2.1=0
theorem Zsy{l:Bl}{X:List Plc}{n:Int}{i:Nat}(h:allK l X n i)(h2:(Zf1 l X n i).2.1=0):allK l X n (i+1):=fun j hj=>by
 by_cases e:j=i
 ·subst e;exact h2
 ·exact h j M0
theorem Zqx(l:Bl)(no:Int):Ui (Uo l no):=by
 unfold Uo;split
 ·exact Zns _ _
 ·intro n hn;cases hn
theorem Zs8{l:Bl}{X:List Plc}{n:Int}(h:allK l X n X.length)(hX:X.length=bmI n):FormOk (Lp l X n X.length):=by
 have hw:∀ i,i<X.length→((Uo l ((X.getD i Nj).1.1:Int)).length:Int)=Uj n i:=fun i hi=>(Zvd (h i hi)).2
 constructor
 ·intro i hi
  rw[Kf] at hi ⊢
  rw[Zmc hi]
  have h1:=hw i hi
  unfold Uj at h1
  unfold bmI bmN at hX
  split at h1<;>refine⟨by omega,by omega,fun h2=>by omega⟩
 ·intro i hi
  rw[Kf] at hi
  rw[Zmc hi]
  exact Zqx _ _
def Zka(l:Bl)(L:List (List Int))(over fuel:Int):List Int×Int×List Int :=
 if(Zd l over 5 fuel).fs≠[] then((Ke (Zd l over 5 fuel)).1,(Ke (Zd l over 5 fuel)).2,[])
 else if(Pp L.flatten (Zd l over 5 fuel).es).1≠0 then([over],(Pp L.flatten (Zd l over 5 fuel).es).1,[])
 else([],0,(Pp L.flatten (Zd l over 5 fuel).es).2)
theorem Zus{l:Bl}{L:List (List Int)}{over fuel:Int}(h:(Zd l over 5 fuel).fs≠[]):Zka l L over fuel=((Ke (Zd l over 5 fuel)).1,(Ke (Zd l over 5 fuel)).2,[]):=if_pos h
theorem Zqo{l:Bl}{L:List (List Int)}{over fuel:Int}(h:(Zd l over 5 fuel).fs=[])(h2:(Pp L.flatten (Zd l over 5 fuel).es).1≠0):Zka l L over fuel=([over],(Pp L.flatten (Zd l over 5 fuel).es).1,[]):=by
 unfold Zka;rw[if_neg (fun q=>q h),if_pos h2]
theorem Zfa{l:Bl}{L:List (List Int)}{over fuel:Int}(h:(Zd l over 5 fuel).fs=[])(h2:(Pp L.flatten (Zd l over 5 fuel).es).1=0):Zka l L over fuel=([],0,(Pp L.flatten (Zd l over 5 fuel).es).2):=by
 unfold Zka;rw[if_neg (fun q=>q h),if_neg (fun q=>q h2)]
def Zrx(l:Bl)(X:List Plc)(over n fuel:Int):List Int×Int×List Int :=
 match (List.range X.length).find? (fun i=>(Zf1 l X n i).2.1 != 0) with
 | some i=>((Zf1 l X n i).1,(Zf1 l X n i).2.1,[])
 | none=>Zka l (Lp l X n X.length) over fuel
theorem allO_bad{l:Bl}{X:List Plc}{over n fuel:Int}{i:Nat}(hi:i<X.length)(h:allK l X n i)(hb:(Zf1 l X n i).2.1≠0):Zrx l X over n fuel=((Zf1 l X n i).1,(Zf1 l X n i).2.1,[]):=by
 unfold Zrx
 rw[show(List.range X.length).find? (fun i=>(Zf1 l X n i).2.1 != 0)=some i from by
  rw[K8]
  exact⟨by simpa using hb,B9.2 hi,fun m hm=>by simpa using h m hm⟩]
theorem Za6{l:Bl}{X:List Plc}{over n fuel:Int}(h:allK l X n X.length):Zrx l X over n fuel=Zka l (Lp l X n X.length) over fuel:=by
 unfold Zrx
 rw[show(List.range X.length).find? (fun i=>(Zf1 l X n i).2.1 != 0)=none from by
  rw[M3]
  intro i hi
  have:=h i (B9.1 hi)
  simp[this]]
def slotT(v:Bl):Nat×Nat×Nat:=((Xs Ya v).getD 0 0,(Xs Ya v).getD 1 0,(Xs Ya v).getD 2 0)
def Ziu(x:Ent):Plc:=(slotT x.2.1,x.2.2,Xn Ya x.2.1)
def Zmk(index:Int)(x:Nat×Nat×Nat):Plc:=(x,index,0)
def Zc3(es:List Ent):Bool:=(List.range es.length).all fun i=>(es.getD i Zo).1==(i:Int)
def Af(l:Bl)(index over n fuel:Int):List Int×Int×List Int :=
 if(Zd l index 4 fuel).fs≠[] then((Ke (Zd l index 4 fuel)).1,(Ke (Zd l index 4 fuel)).2,[])
 else if(Zd l index 4 fuel).es.length≠bmI n then([index],7,[])
 else if Zc3 (Zd l index 4 fuel).es=false then([index],7,[])
 else Zrx l ((Zd l index 4 fuel).es.map Ziu) over n fuel
def Zcj(l:Bl)(index over n fuel:Int):List Int×Int×List Int :=
 if Qw l index≠0 then([index],Qw l index,[])
 else if(We l index).length≠bmI n then([index],7,[])
 else Zrx l ((We l index).map (Zmk index)) over n fuel
theorem Zos{es:List Ent}{i:Nat}(hi:i<es.length)(h:(es.getD i Zo).1≠(i:Int)):Zc3 es=false:=by
 unfold Zc3
 rw[List.all_eq_false]
 exact⟨i,B9.2 hi,by simpa using h⟩
theorem Zia{es:List Ent}(h:∀ i,i<es.length→(es.getD i Zo).1=(i:Int)):Zc3 es=true:=by
 unfold Zc3
 rw[H7]
 intro i hi
 simpa using h i (B9.1 hi)
theorem Zgi{l:Bl}{root tree fuel:Int}(h:(Zd l root tree fuel).fs≠[]):(Ke (Zd l root tree fuel)).2≠0:=by
 obtain⟨es,fs,hw⟩:=Nm l root tree fuel
 have h2:(Zd l root tree fuel).fs=fs:=by rw[hw.fsE];rfl
 rw[(Ra h).2.1]
 rw[h2] at h ⊢
 cases fs with
 | nil=>exact absurd rfl h
 | cons f r=>exact(hw.flt f (by simp)).2.2
theorem Zg1{l:List Int}{k:Nat}{x:Ent}:x∈Zp l k↔∃ j:Nat,j<k∧3≤l.getD j 0∧x=((j:Int),leB (l.getD j 0) 4,0):=by
 unfold Zp
 simp only[List.mem_flatMap,B9]
 constructor
 ·rintro⟨j,hj,hx⟩
  unfold ovX at hx
  split at hx
  ·rename_i h3
   exact⟨j,hj,h3,D3.1 hx⟩
  ·cases hx
 ·rintro⟨j,hj,h3,rfl⟩
  exact⟨j,hj,by unfold ovX;rw[if_pos h3];exact D3.2 rfl⟩
theorem cnt_val{n:Int}(h0:3≤n)(h:n≤2147483647):Xn As (leB n 4)=0∧Xs As (leB n 4)=[n.toNat]:=by
 obtain⟨m,rfl⟩:∃ m:Nat,n=(m:Int):=⟨n.toNat,by omega⟩
 have e:Zn (leB (m:Int) 4) 0 4=m:=by
  have h:=Cf (a:=[]) (b:=[]) (m:=m) (w:=4) M0
  simpa using h
 have hr:Mc As (leB (m:Int) 4)=[m]:=by
  show Nu (leB (m:Int) 4) 0 [4]=_
  simp only[Nu]
  rw[e]
 have h1:Xn As (leB (m:Int) 4)=0:=by
  have hk:Pu As (leB (m:Int) 4)=true:=by
   unfold Pu
   rw[hr,show As.length=1 from rfl]
   unfold Us
   rw[show List.range 1=[0] from rfl]
   simp[inP,As]
   omega
  unfold Xn
  rw[if_pos (by rw[Zj];rfl),if_pos hk]
 exact⟨h1,by unfold Xs;rw[if_pos h1,hr];simp⟩
theorem Zxe{n:Int}:mn3 n=3↔3≤n:=by unfold mn3;split<;>omega
theorem mn3_lt{n:Int}(h:n<3):mn3 n=n:=if_pos h
theorem Cm(l:List Int)(k:Nat):(Zl l).getD k 0=mn3 (l.getD k 0):=by
 by_cases h:k<l.length
 ·simp[Zl,List.getD,h]
 ·simp[Zl,List.getD,N6 h,mn3]
theorem kv_get{E O:List Ent}(hE:E.map kvE=O.map kvE):E.length=O.length∧∀ i,i<O.length→(E.getD i Zo).1=(O.getD i Zo).1∧(E.getD i Zo).2.1=(O.getD i Zo).2.1:=by
 have hl:E.length=O.length:=by simpa using congrArg List.length hE
 refine⟨hl,fun i hi=>?_⟩
 have h:=congrArg (fun x=>x[i]?) hE
 simp only[C4,A4 hi,A4 (show i<E.length by omega),D5,A0] at h
 rw[Hn hi,Hn M0]
 have h2:(E[i].1,E[i].2.1)=(O[i].1,O[i].2.1):=h
 exact⟨(Prod.mk.inj h2).1,(Prod.mk.inj h2).2⟩
theorem Zg6{l:List Int}{E:List Ent}(hc:∀ k,k<l.length→Wn (l.getD k 0))(hE:E.map kvE=(Zp l l.length).map kvE):Pp (Zl l) E=(0,l):=by
 obtain⟨hl,hg⟩:=kv_get hE
 have hO:=Zmx l l.length
 have hm:∀ i,i<E.length→∃ k:Nat,k<l.length∧3≤l.getD k 0∧Ht E i=(k:Int)∧(E.getD i Zo).2.1=leB (l.getD k 0) 4:=fun i hi=>by
  rw[hl] at hi
  obtain⟨k,hk,h3,e⟩:=Zg1.1 (G6 hi)
  have:=hg i hi
  rw[Hn (l:=Zp l l.length) hi,e] at this
  exact⟨k,hk,h3,this.1,this.2⟩
 have hv:∀ i,i<E.length→∀ k:Nat,Ht E i=(k:Int)→jVal E i=l.getD k 0∧3≤l.getD k 0∧Xn As (E.getD i Zo).2.1=0:=fun i hi k hk=>by
  obtain⟨k2,h1,h2,h3,h4⟩:=hm i hi
  obtain rfl:k=k2:=by omega
  have hb:=hc k h1
  unfold Wn at hb
  have hv:=cnt_val h2 hb.2
  unfold jVal
  rw[h4,hv.2]
  refine⟨?_,h2,hv.1⟩
  show(((l.getD k 0).toNat:Nat):Int)=_
  omega
 have a0:jOk (Zl l) E E.length:=fun i hi=>by
  obtain⟨k,h1,h2,h3,h4⟩:=hm i hi
  have a1:Nh E i<Ht E i:=by
   unfold Nh
   split
   ·omega
   ·rename_i h0
    have hp:=List.pairwise_iff_getElem.1 hO.1 (i-1) i M0 M0 M0
    have a:=(hg i M0).1
    have b:=(hg (i-1) M0).1
    rw[Hn (l:=Zp l l.length) M0] at a b
    unfold Ht
    rw[a,b];exact hp
  unfold Ziv
  rw[if_neg M0,if_neg (fun q=>q (by rw[h3,G1,Cm];exact Zxe.2 h2))]
  exact(hv i hi k h3).2.2
 have a3:∀ k:Nat,k<l.length→(Zl l).getD k 0=3→∃ j,j<E.length∧Ht E j=(k:Int):=fun k hk h3=>by
  rw[Cm] at h3
  obtain⟨j,hj,e⟩:=O1 (Zg1.2 ⟨k,hk,Zxe.1 h3,rfl⟩)
  have a:=(hg j hj).1
  rw[Hn (l:=Zp l l.length) hj,e] at a
  exact⟨j,by omega,a⟩
 rw[Zbg a0,if_pos (open_nil fun k hk h3=>a3 k (by rwa [Wh] at hk) h3)]
 congr 1
 apply F4 (by rw[Hj,Wh])
 intro k h1 h2
 have e:=Zmn (E:=E) (i:=E.length) (show k<(Zl l).length by rwa [Hj] at h1)
 rw[show(Zfx (Zl l) E E.length).getD k 0=(Zfx (Zl l) E E.length)[k] from by simp[List.getD,h1]] at e
 rw[e,show l[k]=l.getD k 0 from by simp[List.getD,h2]]
 by_cases h3:(Zl l).getD k 0=3
 ·obtain⟨j,hj,a2⟩:=a3 k h2 h3
  unfold Zvh
  rw[Zc4 hj a2 fun m a4=>by have:=Zwu a0 m j a4 hj;omega]
  exact(hv j hj k a2).1
 ·rw[jOut_not a0 h3,Cm]
  rw[Cm,Zxe] at h3
  exact mn3_lt M0
theorem Sy(l:List Int):∀ j,(Xa l j).flatten=l.take (j*960)
 | 0=>by simp[Xa]
 | j+1=>by
  rw[Zhp,List.flatten_append,Sy l j,G8,I6,List.take_add]
  simp[Yy]
theorem Ip(l:List Int):(Xa l (bmN l.length)).flatten=l:=by
 rw[Sy,C1 (by unfold bmN;omega)]
theorem Yh{L:List (List Int)}{q:Nat}{bs:Bl}:∀ n,(q+n)*256≤bs.length→(Xy L q bs n).length=bs.length
 | 0,_=>rfl
 | n+1,h=>by
  have ih:=Yh (L:=L) (q:=q) (bs:=bs) n M0
  have hx:(Xu 3 ((q+n:Nat):Int) (Kt (L.getD n []))).length=256:=Yn (by unfold Kt;rw[Vb];decide)
  show(Qh (Xy L q bs n) ((q+n)*256) (Xu 3 ((q+n:Nat):Int) (Kt (L.getD n [])))).length=_
  rw[Yg (by rw[hx,ih];omega),ih]
theorem Gh{l:List Int}(hc:∀ k,k<l.length→Wn (l.getD k 0))(i:Nat):Ui (Yy (Zl l) i)∧(Yy (Zl l) i).length≤960:=⟨Iu (Zlc hc) i,by rw[Nx];exact K3 _ _⟩
theorem bitsB_I{l:List Int}(h:Ui l)(hl:l.length≤960):bitI (Kt l) l.length=l:=by
 apply F4 (by rw[Zl7])
 intro i h1 h2
 have e:=Zmm h (i:=i) M0
 rw[show l.getD i 0=l[i] from by simp[List.getD,h2]] at e
 simp[bitI,Zbi,e]
theorem Rd{F:Bl}{k:Nat}{c:List Int}(hk:k<F.length/256)(h4:k<14400)(hb:Vv F k=Xu 3 (k:Int) (Kt c))(hs:Ui c)(hl:c.length≤960):Yi F (k:Int)=0∧Uo F (k:Int)=c:=by
 have h:=Zey (kind:=3) Do Do hk h4 (by unfold Kt;rw[Vb]) hb
 have he:Yi F (k:Int)=0:=by unfold Yi;rw[if_pos h.1,h.2,if_pos (bitsB_ok hs hl)]
 refine⟨he,?_⟩
 unfold Uo
 rw[if_pos he,h.2,Zbx hl,bitsB_I hs hl]
theorem Zu2{L:List (List Int)}{q i:Nat}{e:Ent}(h0:1≤q)(h1:q+i≤14399)(hL:(L.getD i []).length≤960)(he:e.2.1=(Ze5 L q i).2.1):Ziu e=((q+i,Yo (L.getD i []),Xl (L.getD i [])),e.2.2,0):=by
 have h2:Yo (L.getD i [])≤960:=N0 (Pw _ _) hL
 have h3:Xl (L.getD i [])≤960:=N0 (Ph _) hL
 have e2:(Ze5 L q i).2.1=slB (q+i,Yo (L.getD i []),Xl (L.getD i [])):=rfl
 unfold Ziu slotT
 rw[he,e2,Zlt (x:=(q+i,Yo (L.getD i []),Xl (L.getD i []))) (by simp only;omega) h1 h2 h3,Zkn (x:=(q+i,Yo (L.getD i []),Xl (L.getD i []))) (by simp only;omega) h1 h2 h3]
 rfl
end Go.Proofs.YtceeiinepijokaaGreatDoor
