/- (*walker).visit, given what a visit one deeper does. -/
import Derived.StillTailTactics
import Derived.Test.YtegcamkgeacjfaaGreatDoorMg3
namespace Go.Proofs.YtegcamkgeacjfaaGreatDoor
set_option maxHeartbeats 8000000
set_option maxRecDepth 100000
open Go.RowKit Go.Extern.Stop Go.Stop Go.Extern
set_option linter.unusedVariables false
attribute [local irreducible] wpList wpAnyH Code.wp Oper.wp Go
theorem LookP.or{B bw:Nat}{cs:List Value}{l:Bl}{way:List Int}{no tree lo hi deep:Int}{w:World}{e:Ending}{w':World}(h:LookP B bw cs l way no tree lo hi deep w e w') :
 (Xa l way no tree lo hi deep≠0∧∃ a4 b4 k4 n4 c4 v4 m4 d4 ty x,e=.returned (.tuple #[.agg #[V0 a4,.bool b4,.slice k4 n4 c4,.slice v4 m4 d4],.iface ty x])∧Below B w w'∧Ze [315] w w'∧Blk w' bw cs 315∧Kl w' [some no] (some (Xa l way no tree lo hi deep)) (.iface ty x)) ∨
 (Xa l way no tree lo hi deep=0∧∃ kp kc vp vc,e=.returned (.tuple #[.agg #[V0 (Xv (inB l no)),.bool (Xr (inB l no)),.slice kp (Zt (inB l no)) kc,.slice vp (Zt (inB l no)) vc],.nilIface])∧Below B w w'∧Ze [315] w w'∧Blk w' bw cs 315 ∧
 w'.ownsRow w.heap.size 3 1 (.slice kp (Zt (inB l no)) kc) (Zt (inB l no)) ((Ya l no).map V0)∧w'.ownsRow w.heap.size 9 1 (.slice vp (Zt (inB l no)) vc) (Zt (inB l no)) ((Qy l no).map sv)):=by
 obtain⟨h1,h2,h3,⟨h4,a4,b4,k4,n4,c4,v4,m4,d4,ty,x,h5,h6⟩|⟨h4,_,kp,kc,vp,vc,h5,h6,h7⟩⟩:=h
 ·exact .inl ⟨h4,a4,b4,k4,n4,c4,v4,m4,d4,ty,x,h5,h1,h2,h3,h6⟩
 ·exact .inr ⟨h4,kp,kc,vp,vc,h5,h1,h2,h3,h6,h7⟩
theorem widG_24(t:Int)(b:Bool):Zg1 t b≤24:=by
 unfold Zg1 widN
 repeat' split
 all_goals omega
theorem Je(l:Bl)(n i:Nat):((Vw l n).getD i []).length≤1000:=by
 by_cases h:i<n
 ·rw[Zgx l h]
  unfold Dr
  rw[List.length_take]
  have:=widG_24 (Xv l) (Xr l)
  unfold Xm
  omega
 ·simp[List.getD,List.getElem?_eq_none (show(Vw l n).length≤i by rw[Vo];omega)]
theorem Ms(p:O0)(n c n2 c2:Nat):(Value.slice p n c).ownBlock=(Value.slice p n2 c2).ownBlock:=by
 cases p<;>rfl
theorem Vg.len{p q:O0}{n c m d:Nat}(h:Vg (.slice p n c) (.slice q m d))(n2 c2 m2 d2:Nat):Vg (.slice p n2 c2) (.slice q m2 d2):=fun j h1 h2 =>
 h j ((Ms _ _ _ _ _).trans h1) ((Ms _ _ _ _ _).trans h2)
def prC (p:Int×Int):List Value:=[V0 p.1,V0 p.2]
theorem prC_len(p:Int×Int):(prC p).length=2:=rfl
theorem Zfj(l:List (Int×Int)):Ul l=l.flatMap prC:=by
 induction l with
 | nil=>rfl
 | cons x l ih=>simp only[Ul,List.flatMap_cons,prC];rfl
theorem look_fits{l:Bl}{way:List Int}{no tree lo hi deep:Int}(h:Xa l way no tree lo hi deep=0):Yw lo hi (Ya l no)=0∧way.length<16:=by
 unfold Xa at h
 by_cases h1:Qt way no=true
 ·rw[if_pos h1] at h;cases h
 rw[if_neg h1] at h
 by_cases h2:16≤way.length
 ·rw[if_pos h2] at h;cases h
 rw[if_neg h2] at h
 by_cases h3:Xe l no tree≠0
 ·rw[if_pos h3] at h;exact absurd h h3
 rw[if_neg h3] at h
 by_cases h4:Yw lo hi (Yx (inB l no) (Zt (inB l no)))≠0
 ·rw[if_pos h4] at h;cases h
 exact⟨Decidable.not_not.1 h4,by omega⟩
theorem Zc8(hi:Int)(l:List Int){i:Nat}(h:i<l.length):(Qq hi l).getD i (0,0)=Xg hi l i:=by simp[Qq,h]
theorem sts_sp{w:World}{p:O0}{n c:Nat}{L:List (Int×Int)}(h:Sl w (.slice p n c) n (Ul L))(hL:L.length=n):Sts prC w (.slice p L.length c) L:=by
 subst hL;rw[Zfj] at h;exact h
theorem Fq(hi:Int)(l:List Int):(Qq hi l).length=l.length:=by simp[Qq]
theorem only_le{w w':World}(h:Ze [315,123] w w'):Ze [315,123,3,29] w w':=h.mono fun t ht=>by
 simp only[List.contains_cons,List.contains_nil,Bool.or_eq_false_iff] at ht ⊢
 exact⟨ht.1,ht.2.1,trivial⟩
theorem Zf8{w w':World}(h:Ze [315] w w'):Ze [315,123,3,29] w w':=h.mono fun t ht=>by
 simp only[List.contains_cons,List.contains_nil,Bool.or_eq_false_iff] at ht ⊢
 exact⟨ht.1,trivial⟩
theorem Mk(B bw Bi b:Nat)(pi:O0)(ni ci:Nat)(l:Bl)(tree fuel:Int)(d:Nat)(hV:d≠0→Zf0 B bw Bi b pi ni ci l tree fuel d)(way:List Int)(no lo hi:Int)(s:WS)(pe pb pf pw:O0)(ce cb cf cw:Nat)(fv:List Value)(w:World)(hBb:B≤bw)(hBw:B≤w.heap.size)(hwd:way.length+(d+1)=17)(hdry:s.dry=false)(hfu:fuel≤1000000)(hR:WalkR B bw Bi b pi ni ci l tree fuel way s pe pb pf pw ce cb cf cw fv w)(he:(Xb l tree fuel (d+1) way no lo hi s).es.length≤1000000)(hb_:(Xb l tree fuel (d+1) way no lo hi s).bs.length≤1000000)(hf:(Xb l tree fuel (d+1) way no lo hi s).fs.length≤1000000) :
 C0 200 #[P0 bw,V0 no,.agg #[V0 lo,V0 hi]] w (Zgv B bw Bi b pi ni ci l tree fuel way (Xb l tree fuel (d+1) way no lo hi s) w):=by
 obtain⟨kW,e9,f1,e8,f0,e7,d0,hI⟩:=hR
 have w3:=f1
 have w8:=e7
 have bh:=Hv l tree fuel (d+1) way no lo hi s
 have co:=Nat.le_trans bh.2.1 hb_
 refine zin 106 Tryz.func200 ?_
 refine xa 2 [V0 lo,V0 hi] 214 fun b1 W1 n1=>?_
 refine xd 4 .z ?_
 have g2:=(kW.below n1.below).below (Za W1)
 refine xb (.e [0,1,2,3] 4) 3 g2 ?_
 refine xb (.e [5,6,7] 8) 7 g2 ?_
 refine xid (.r [9] 2) ((s.looked:Int)≥fuel) (fun bj=>?_) (fun bj=>?_)
 ·refine xc 5 (args:=#[V0 no,.iface 63 (V0 12)]) (Qs no (some 12) [] _ _ rfl) ?_
  rintro _ W3 ⟨r3,rfl,f8,v8⟩
  rw[Vb] at v8
  obtain⟨t3,x3,rfl⟩:=v8.iface
  have d3:(Xb l tree fuel (d+1) way no lo hi s)={ Yn way [no] 12 s with dry:=true }:=by unfold Xb;rw[if_pos (by omega)]
  have hB:=blB (blB (blB (Below.refl B w) hBw n1.below) hBw (Za W1)) hBw f8
  have ab:=g2.below f8
  have p7:=Zb (Zb (Zb e8 n1.below) (Za W1)) f8
  have h9:=Zb (Zb (Zb e7 n1.below) (Za W1)) f8
  refine xc 0 (args:=#[P0 bw,.iface t3 (x3)]) (Wx B bw _ _ _ _ _ _ _ _ pf _ cf fv pw cw way [no] 12 _ _ _ hBb (Nat.le_trans hBw hB.size) ab p7 h9 v8 (by omega) (by have:=hf;rw[d3] at this;simp[Yn] at this;omega)) ?_
  rintro _ W4 ⟨u4,t8,v1,t2,x2,rfl,ax,k9,kN,i9,y6⟩
  refine xs 7 kN [.slice pe s.es.length ce,.slice pb s.bs.length cb,V0 s.deep,V0 (s.looked:Int),.slice t8 (s.fs.length+1) v1,P0 b,V0 tree,V0 fuel,.slice pw way.length cw,.bool true] fun W5 u5 k5=>?_
  have y9:=u5.below (hB.trans ax) hBb
  have hO:=((((show Ze [315,123,3,29] w _ from(Ze.of_below n1.below)).trans (Ze.of_below (Za W1))).trans (Ze.of_below f8)).trans (Zaw k9)).trans (Ze.of_upd u5 kN (by decide))
  have m5:=u5.own2 (Zn (Zb (Zb (Zb e9 n1.below) (Za W1)) f8) k9 (by decide)) kN (by decide)
  have o4:=u5.own2 (Zn (Zb (Zb (Zb f1 n1.below) (Za W1)) f8) k9 (by decide)) kN (by decide)
  have j2:=u5.own2 i9 kN (by decide)
  have o2:=y6.upd u5 kN (by decide)
  have q3:=((((f0.below n1.below).below (Za W1)).below f8).only k9 (by decide)).only (Ze.of_upd (T:=[315]) u5 kN (by decide)) (by decide)
  have o0:=u5.own2 (Zn h9 k9 (by decide)) kN (by decide)
  have x0:=((((hI.below n1.below).below (Za W1)).below f8).only k9 (by decide)).only (Ze.of_upd (T:=[315]) u5 kN (by decide)) (by decide)
  refine xe 4 (.tuple #[]) ?_
  rw[d3]
  exact⟨_,pe,pb,t8,pw,ce,cb,v1,cw,_,rfl,y9,hO,by simpa [Yn] using k5,m5,o4,by simpa [Yn] using j2,Kh.snoc o2 q3,o0,d0,x0⟩
 have k1:=n1.blk.below (Za W1)
 refine xlv 6 k1.rp ?_
 have hB:=blB (blB (Below.refl B w) hBw n1.below) hBw (Za W1)
 have e4:=Zb (Zb e7 n1.below) (Za W1)
 have g4:=(hI.below n1.below).below (Za W1)
 refine xc 0 (args:=#[P0 bw,V0 no,.agg #[V0 lo,V0 hi]]) ((Oh B Bi b bw pi ni ci l _ _ _ _ _ pw cw way no tree lo hi s.deep (s.looked:Int) _ hBb (Nat.le_trans hBw hB.size) g2 e4 g4 (by omega) (by omega) (by omega)).mono (fun _ _ h=>LookP.or h)) ?_
 rintro e W6 aw
 rcases aw with ⟨hz,a4,b4,k4,n4,c4,v4,m4,d4,ty,x,rfl,x7,c3,x4,bb⟩|⟨hz,kp,kc,vp,vc,rfl,x7,c3,x4,hk,u6⟩
 ·refine xa 3 [V0 0,.bool false,S0,S0] 173 fun b7 W7 n7=>?_
  have m7:=hB.trans x7
  have g7:=n7.ge0 m7
  refine xsv 0 n7.blk [V0 a4,.bool b4,.slice k4 n4 c4,.slice v4 m4 d4] fun W8 u8 k8=>?_
  have d3:(Xb l tree fuel (d+1) way no lo hi s)=Yn way [no] (Xa l way no tree lo hi s.deep) { s with looked:=s.looked+1 }:=by unfold Xb;rw[if_neg (by omega),if_pos hz]
  have o9:=u8.below (blB m7 hBw n7.below) (Nat.le_trans hBw g7)
  have m0:=u8.blkT (x4.below n7.below) n7.blk (by decide)
  have m9:=u8.own2 (Zb (Zn (Zb (Zb e8 n1.below) (Za W1)) c3 (by decide)) n7.below) n7.blk (by decide)
  have h7:=u8.own2 (Zb (Zn e4 c3 (by decide)) n7.below) n7.blk (by decide)
  have l7:=(bb.below n7.below).upd u8 n7.blk (by decide)
  refine xc 15 (args:=#[P0 bw,.iface ty (x)]) (Wx B bw _ _ _ _ _ _ _ _ pf _ cf fv pw cw way [no] (Xa l way no tree lo hi s.deep) _ _ _ hBb (Nat.le_trans hBw o9.size) m0 m9 h7 l7 (by omega) (by have:=hf;rw[d3] at this;simp[Yn] at this;omega)) ?_
  rintro _ W9 ⟨u9,t8,v1,t2,x2,rfl,av,k6,kN,i9,y6⟩
  have z3:=o9.trans av
  have hO:=(Ze.upd_new ((((show Ze [315,123,3,29] w _ from(Ze.of_below n1.below)).trans (Ze.of_below (Za W1))).trans (Zf8 c3)).trans (Ze.of_below n7.below)) u8 g7).trans (Zaw k6)
  have s9:=Zn (u8.own2 (Zb (Zn (Zb (Zb e9 n1.below) (Za W1)) c3 (by decide)) n7.below) n7.blk (by decide)) k6 (by decide)
  have s2:=Zn (u8.own2 (Zb (Zn (Zb (Zb f1 n1.below) (Za W1)) c3 (by decide)) n7.below) n7.blk (by decide)) k6 (by decide)
  have p6:=(((((f0.below n1.below).below (Za W1)).only c3 (by decide)).below n7.below).only (Ze.of_upd (T:=[173]) u8 n7.blk (by decide)) (by decide)).only k6 (by decide)
  have l8:=Zn h7 k6 (by decide)
  have y1:=(((g4.only c3 (by decide)).below n7.below).only (Ze.of_upd (T:=[173]) u8 n7.blk (by decide)) (by decide)).only k6 (by decide)
  refine xe 4 (.tuple #[]) ?_
  rw[d3]
  exact⟨_,pe,pb,t8,pw,ce,cb,v1,cw,_,rfl,z3,hO,by simpa [Yn] using kN,s9,s2,by simpa [Yn] using i9,Kh.snoc y6 p6,l8,d0,y1⟩
 have y0:=(blB (blB (Below.refl B w) hBw n1.below) hBw (Za W1)).size
 have j1:=Zg hk y0
 have i8:=Vg.of_lt w3 j1 (Nat.le_refl _)
 have j6:=Vg.of_lt w8 j1 (Nat.le_refl _)
 refine xa 3 [V0 0,.bool false,S0,S0] 173 fun aj ct a5=>?_
 have n9:=hB.trans x7
 have z1:=a5.ge0 n9
 refine xsv 0 a5.blk [V0 (Xv (inB l no)),.bool (Xr (inB l no)),.slice kp (Zt (inB l no)) kc,.slice vp (Zt (inB l no)) vc] fun ch c7 ao=>?_
 have h0:=c7.blkT (x4.below a5.below) a5.blk (by decide)
 refine xb 20 1 h0 ?_
 refine xbs 1 1 [V0 no] 3 fun bg bz b8=>?_
 have q7:=c7.below (blB n9 hBw a5.below) (Nat.le_trans hBw z1)
 have ck:=b8.ge0 q7
 have h8:=c7.own2 (Zb (Zn (Zb (Zb f1 n1.below) (Za W1)) c3 (by decide)) a5.below) a5.blk (by decide)
 have t7:=Zx h8 b8
 have h5:=c7.own2 (Zb (Zn e4 c3 (by decide)) a5.below) a5.blk (by decide)
 have u0:=Zx h5 b8
 have s8:=c7.own2 (Zb j1 a5.below) a5.blk (by decide)
 have z2:=Zx s8 b8
 have a1:=Zb h8 b8.below
 have i3:=blB q7 hBw b8.below
 refine xbi 0 fun _ _ _ _ zJ zQ zo zx zy zK=>Cg (b:=bg) (c:=1) (m:=1) (news:=[V0 no]) (V0 0) 1 8 ((s.bs++[no]).length) (((s.bs++[no]).map V0)) zo Tryz.underlying33 (by kernel_rfl) rfl (by decide) zx a1 zy b8.blk rfl (by simp[Value.oneCell']) (by unfold maxLen;omega) (by omega) (Nat.le_trans hBw i3.size) (by simp) (by simp) fun t4 o6 cj ad a7 s6 p1=>?_
 have h2:=Zb h5 b8.below
 have g0:=d0.row h2 a7
 replace d0:=(d0.grow h2 p1)
 have r4:=Zb s8 b8.below
 have j7:=i8.row r4 a7
 replace i8:=(i8.grow r4 p1)
 have e2:=g0
 have h1:=j7
 refine zK _ _ ?_
 have a0:=(h0.below b8.below).grown a7 a1 (by decide)
 refine xs 3 a0 [.slice pe s.es.length ce,.slice t4 ((s.bs++[no]).length) o6,V0 s.deep,V0 ((s.looked:Int)+1),.slice pf s.fs.length cf,P0 b,V0 tree,V0 fuel,.slice pw way.length cw,.bool s.dry] fun bo c2 aa=>?_
 have e6:=c2.blkT ((ao.below b8.below).grown a7 a1 (by decide)) a0 (by decide)
 refine xb 6 1 e6 ?_
 refine xi 2 (Xr (inB l no)) (fun y2=>?_) (fun y2=>?_)
 ·refine xlv 4 e6.rp ?_
  have d3:(Xb l tree fuel (d+1) way no lo hi s)={ s with looked:=s.looked+1,bs:=s.bs++[no],deep:=((way.length+1:Nat):Int),es:=s.es++Vy (Ya l no) (Qy l no) no (Zt (inB l no)) }:=by unfold Xb;rw[if_neg (by omega),if_neg (by omega),if_pos (by assumption)]
  have n6:=c2.below (i3.trans s6) hBb
  have r5:=c2.own2 (Zf (Zb (c7.own2 (Zb (Zn (Zb (Zb e9 n1.below) (Za W1)) c3 (by decide)) a5.below) a5.blk (by decide)) b8.below) a7 a1 (by decide)) a0 (by decide)
  have x8:=c2.own2 h1 a0 (by decide)
  have l5:=c2.own2 (Zf (Zb (c7.own2 (Zb (Zg u6 y0) a5.below) a5.blk (by decide)) b8.below) a7 a1 (by decide)) a0 (by decide)
  refine xc 0 (args:=#[P0 bw,V0 no,.agg #[V0 (Xv (inB l no)),.bool (Xr (inB l no)),.slice kp (Zt (inB l no)) kc,.slice vp (Zt (inB l no)) vc]]) (Oj B bw _ _ _ _ _ _ _ _ pe ce s.es pw cw way no _ _ kp vp _ kc vc (Ya l no) (Qy l no) _ hBb (Nat.le_trans hBw n6.size) aa r5 (fun W _ q=>Zh (Zn x8 q (by decide))) (fun W _ q=>Zh (Zn l5 q (by decide))) (by simp[Ya,Yx]) (by simp[Qy,Vw]) (by omega) (by have:=he;rw[d3] at this;simp[Jh] at this;omega)) ?_
  rintro _ br ⟨bn,bc,bd,rfl,x9,d7,kE,au⟩
  have w2:=n6.trans x9
  have hO:=((((Ze.upd_new ((((show Ze [315,123,3,29] w _ from(Ze.of_below n1.below)).trans (Ze.of_below (Za W1))).trans (Zf8 c3)).trans (Ze.of_below a5.below)) c7 z1).trans (Ze.of_below b8.below)).trans (Ze.of_grown a7 a1 (by decide))).trans (Ze.of_upd c2 a0 (by decide))).trans (only_le d7)
  have s4:=Zn (c2.own2 ad a0 (by decide)) d7 (by decide)
  have m6:=Zn (c2.own2 (Zf (Zb (c7.own2 (Zb (Zn (Zb (Zb e8 n1.below) (Za W1)) c3 (by decide)) a5.below) a5.blk (by decide)) b8.below) a7 a1 (by decide)) a0 (by decide)) d7 (by decide)
  have n8:=((((((((f0.below n1.below).below (Za W1)).only c3 (by decide)).below a5.below).only (Ze.of_upd (T:=[173]) c7 a5.blk (by decide)) (by decide)).below b8.below).only (Ze.of_grown (T:=[3]) a7 a1 (by decide)) (by decide)).only (Ze.of_upd (T:=[315]) c2 a0 (by decide)) (by decide)).only d7 (by decide)
  have r1:=Zn (c2.own2 e2 a0 (by decide)) d7 (by decide)
  have y8:=((((((g4.only c3 (by decide)).below a5.below).only (Ze.of_upd (T:=[173]) c7 a5.blk (by decide)) (by decide)).below b8.below).only (Ze.of_grown (T:=[3]) a7 a1 (by decide)) (by decide)).only (Ze.of_upd (T:=[315]) c2 a0 (by decide)) (by decide)).only d7 (by decide)
  refine xe 4 (.tuple #[]) ?_
  rw[d3]
  exact⟨_,bc,_,pf,pw,bd,_,cf,cw,fv,rfl,w2,hO,by simpa [Jh] using kE,by simpa [Jh] using au,by simpa using s4,m6,n8,r1,by simpa using d0,y8⟩
 refine xb 8 8 aa ?_
 refine xbs 1 1 [V0 no] 3 fun bm cm c8=>?_
 have g8:=c2.below (i3.trans s6) hBb
 have cd:=c8.ge0 g8
 have h3:=c2.own2 e2 a0 (by decide)
 have u7:=Zx h3 c8
 have n0:=c2.own2 h1 a0 (by decide)
 have z5:=Zx n0 c8
 have g6:=c2.own2 ad a0 (by decide)
 have v3:=Zx g6 c8
 have a2:=Zb h3 c8.below
 have h4:=blB g8 hBw c8.below
 refine xbi 0 fun _ _ _ _ zJ zQ zo zx zy zK=>Cg (b:=bm) (c:=1) (m:=1) (news:=[V0 no]) (V0 0) 1 8 ((way++[no]).length) (((way++[no]).map V0)) zo Tryz.underlying33 (by kernel_rfl) rfl (by decide) zx a2 zy c8.blk rfl (by simp[Value.oneCell']) (by unfold maxLen;omega) (by omega) (Nat.le_trans hBw h4.size) (by simp) (by simp) fun w4 w9 cq aq b9 y5 m3=>?_
 have h6:=Zb g6 c8.below
 have f7:=d0.symm.row h6 b9
 replace d0:=(d0.symm.grow h6 m3).symm
 have l4:=Zb n0 c8.below
 have j5:=j6.row l4 b9
 replace j6:=(j6.grow l4 m3)
 have j3:=f7
 have t5:=j5
 refine zK _ _ ?_
 have a3:=(aa.below c8.below).grown b9 a2 (by decide)
 refine xs 2 a3 [.slice pe s.es.length ce,.slice t4 ((s.bs++[no]).length) o6,V0 s.deep,V0 ((s.looked:Int)+1),.slice pf s.fs.length cf,P0 b,V0 tree,V0 fuel,.slice w4 ((way++[no]).length) w9,.bool s.dry] fun cr e0 ap=>?_
 have q5:=e0.blkT (((c2.blkT (((c7.blkT ((k1.only c3 (by decide)).below a5.below) a5.blk (by decide)).below b8.below).grown a7 a1 (by decide)) a0 (by decide)).below c8.below).grown b9 a2 (by decide)) a3 (by decide)
 refine xlv 5 q5.rp ?_
 have g9:=e0.blkT ((e6.below c8.below).grown b9 a2 (by decide)) a3 (by decide)
 refine xb 1 2 g9 ?_
 have i0:=e0.below (h4.trans y5) hBb
 have w1:=i0.size
 obtain⟨z8,az⟩:=look_fits hz
 have m1:(Ya l no).length=Zt (inB l no):=by simp[Ya,Yx]
 have cp:Zt (inB l no)<65536:=Nt _ 2 2
 have y4:=e0.own2 t5 a3 (by decide)
 refine xc 0 (args:=#[.agg #[V0 lo,V0 hi],.slice kp (Zt (inB l no)) kc]) (Zao lo hi _ (Ya l no) _ (by rw[m1];omega) (Uz (Zh y4) m1)) ?_
 rintro _ bl ⟨cl,rfl,b5,_,w0⟩
 obtain⟨gs,rfl,bk,kS⟩:=w0 z8
 rw[m1]
 have k3:=Xc (size:=2) (n:=Zt (inB l no)) kS (Nat.le_trans w1 bk) (by rw[Mv,Fq,m1]) (by unfold maxLen;omega)
 have d3:(Xb l tree fuel (d+1) way no lo hi s)=(Ys (Xb l tree fuel d) l way no hi (Zt (inB l no)) { s with looked:=s.looked+1,bs:=s.bs++[no] }):=by unfold Xb;rw[if_neg (by omega),if_neg (by omega),if_neg (by simp;assumption)]
 have r9:(Qq hi (Ya l no)).length=(Zt (inB l no)):=by rw[Fq,m1]
 have ai:(Qy l no).length=(Zt (inB l no)):=by simp[Qy,Vw]
 have p5:=ap.below b5
 have r2:=Zb (e0.own2 (Zf (Zb (c2.own2 (Zf (Zb (c7.own2 (Zb (Zn (Zb (Zb e9 n1.below) (Za W1)) c3 (by decide)) a5.below) a5.blk (by decide)) b8.below) a7 a1 (by decide)) a0 (by decide)) c8.below) b9 a2 (by decide)) a3 (by decide)) b5
 have p0:=Zb (e0.own2 j3 a3 (by decide)) b5
 have s7:=Zb (e0.own2 (Zf (Zb (c2.own2 (Zf (Zb (c7.own2 (Zb (Zn (Zb (Zb e8 n1.below) (Za W1)) c3 (by decide)) a5.below) a5.blk (by decide)) b8.below) a7 a1 (by decide)) a0 (by decide)) c8.below) b9 a2 (by decide)) a3 (by decide)) b5
 have s1:=(((((((((((f0.below n1.below).below (Za W1)).only c3 (by decide)).below a5.below).only (Ze.of_upd (T:=[173]) c7 a5.blk (by decide)) (by decide)).below b8.below).only (Ze.of_grown (T:=[3]) a7 a1 (by decide)) (by decide)).only (Ze.of_upd (T:=[315]) c2 a0 (by decide)) (by decide)).below c8.below).only (Ze.of_grown (T:=[3]) b9 a2 (by decide)) (by decide)).only (Ze.of_upd (T:=[315]) e0 a3 (by decide)) (by decide)).below b5
 have n5:=Zb (e0.own2 aq a3 (by decide)) b5
 have y7:=(((((((((g4.only c3 (by decide)).below a5.below).only (Ze.of_upd (T:=[173]) c7 a5.blk (by decide)) (by decide)).below b8.below).only (Ze.of_grown (T:=[3]) a7 a1 (by decide)) (by decide)).only (Ze.of_upd (T:=[315]) c2 a0 (by decide)) (by decide)).below c8.below).only (Ze.of_grown (T:=[3]) b9 a2 (by decide)) (by decide)).only (Ze.of_upd (T:=[315]) e0 a3 (by decide)) (by decide)).below b5
 have hR:WalkR B bw Bi b pi ni ci l tree fuel (way++[no]) (Ys (Xb l tree fuel d) l way no hi 0 { s with looked:=s.looked+1,bs:=s.bs++[no] }) pe _ pf _ ce _ cf _ fv bl:=⟨p5,r2,p0,s7,s1,n5,d0,y7⟩
 have p4:=Zb (e0.own2 (Zf (Zb (c2.own2 (Zf (Zb (c7.own2 (Zb (Zg u6 y0) a5.below) a5.blk (by decide)) b8.below) a7 a1 (by decide)) a0 (by decide)) c8.below) b9 a2 (by decide)) a3 (by decide)) b5
 have l6:=blB i0 hBw b5
 have hO:=(((((((Ze.upd_new ((((show Ze [315,123,3,29] w _ from(Ze.of_below n1.below)).trans (Ze.of_below (Za W1))).trans (Zf8 c3)).trans (Ze.of_below a5.below)) c7 z1).trans (Ze.of_below b8.below)).trans (Ze.of_grown a7 a1 (by decide))).trans (Ze.of_upd c2 a0 (by decide))).trans (Ze.of_below c8.below)).trans (Ze.of_grown b9 a2 (by decide))).trans (Ze.of_upd e0 a3 (by decide))).trans (Ze.of_below b5)
 have z4:=q5.below b5
 have s5:=g9.below b5
 refine zl 5 106 (fun zm ay V=>∃ (i:Nat) (k0 j0 j8 f5:O0) (i5 i6 j9 g1:Nat) (t6:List Value),ay=[(0,P0 bw),(1,V0 no),(6,P0 aj),(71,.slice (S1 gs) (Zt (inB l no)) (Zt (inB l no))),(72,V0 (↑(Zt (inB l no)):Int)),(73,V0 (i:Int))]∧zm=(Zt (inB l no))-((i:Int)).toNat∧Below B w V∧Ze [315,123,3,29] w V∧Blk V b1 ([V0 lo,V0 hi]) 214∧Blk V aj ([V0 (Xv (inB l no)),.bool (Xr (inB l no)),.slice kp (Zt (inB l no)) kc,.slice vp (Zt (inB l no)) vc]) 173∧WalkR B bw Bi b pi ni ci l tree fuel (way++[no]) (Ys (Xb l tree fuel d) l way no hi i { s with looked:=s.looked+1,bs:=s.bs++[no] }) k0 j0 j8 f5 i5 i6 j9 g1 t6 V∧V.ownsRow w.heap.size 9 1 (.slice vp (Zt (inB l no)) vc) (Zt (inB l no)) ((Qy l no).map sv)∧V.ownsRow w.heap.size 214 2 (.slice (S1 gs) (Zt (inB l no)) (Zt (inB l no))) (Zt (inB l no)) (Ul (Qq hi (Ya l no)))∧i≤(Zt (inB l no))∧(Ys (Xb l tree fuel d) l way no hi i { s with looked:=s.looked+1,bs:=s.bs++[no] }).dry=false) ⟨0,_,_,_,_,_,_,_,_,_,rfl,rfl,l6,hO,z4,s5,hR,p4,k3,Nat.zero_le _,hdry⟩ ?_
 rintro _ _ c0 ⟨i,k0,j0,j8,f5,i5,i6,j9,g1,t6,rfl,rfl,d2,c9,b3,c6,hR,u6,k3,bx,ae⟩ bt z9 cs
 have i7:=hR.blk
 refine xid 6 ((i:Int)<(↑(Zt (inB l no)):Int)) (fun z7=>?_) (fun z7=>?_)
 ·refine xx 7 _ (Zt (inB l no)) i 2 (Sts.cell (sts_sp (Zh k3) r9) prC_len (0,0) (k:=i) (i:=0) (show i<(Qq hi (Ya l no)).length by omega) rfl).1 ?_
  refine xlv 0 (Sts.rp (k:=i) (sts_sp (Zh k3) r9) prC_len (0,0) (by omega) (by decide)) ?_
  refine xa 0 [V0 0,V0 0] 214 fun bu cn c5=>?_
  have d1:=c5.ne b3
  have t9:=c5.ge0 d2
  have f2:=Zx k3 c5
  refine xsv 1 c5.blk [V0 (((Qq hi (Ya l no)).getD i (0,0)).1),V0 (((Qq hi (Ya l no)).getD i (0,0)).2)] fun d6 d9 bf=>?_
  refine xd 3 (.t B [315,123,3,29]) ?_
  have b2:=(d9.blkT (c6.below c5.below) c5.blk (by decide)).below (Za d6)
  refine xbt (.e [0,1,2] 3) 3 B [315,123,3,29] b2 ?_
  have e1:=Zb (d9.own2 (Zb u6 c5.below) c5.blk (by decide)) (Za d6)
  refine xx (.e [4] 5) _ (Zt (inB l no)) i 1 (Strs.elem (Zh e1) ai (k:=i) (by omega)).1 ?_
  refine xlt (.e [] 6) (.t B [315,123,3,29]) (fun V hV=>(Strs.elem (Zh (Zn e1 hV.2 (by decide))) ai (k:=i) (by omega)).2) ?_
  have m2:=bf.below (Za d6)
  refine xlvt (.e [] 7) (.t B [315,123,3,29]) (fun V hV=>(m2.only hV.2 (by decide)).rp) ?_
  have bi:=Zc8 hi (Ya l no) (i:=i) (by omega)
  have g3:Kd (Xb l tree fuel d) way no ((Qy l no).getD i []) (((Qq hi (Ya l no)).getD i (0,0)).1,((Qq hi (Ya l no)).getD i (0,0)).2) (Ys (Xb l tree fuel d) l way no hi i { s with looked:=s.looked+1,bs:=s.bs++[no] })=(Ys (Xb l tree fuel d) l way no hi (i+1) { s with looked:=s.looked+1,bs:=s.bs++[no] }):=by rw[Uu];unfold Pc;rw[if_neg (by rw[ae];decide),bi]
  have w6:=Ri (Hv l tree fuel d) l way no hi { s with looked:=s.looked+1,bs:=s.bs++[no] } (show i+1≤(Zt (inB l no)) by omega)
  rw[d3] at he hb_ hf
  have d5:=blB (d9.below (blB d2 hBw c5.below) (Nat.le_trans hBw t9)) hBw (Za d6)
  have w5:=((hR.below c5.below).only (Ze.of_upd (T:=[214]) d9 c5.blk (by decide)) (by decide)).below (Za d6)
  refine yc (.o [] 8) (args:=#[P0 bw,V0 no,.string ⟨((Qy l no).getD i []).toArray⟩,.agg #[V0 (((Qq hi (Ya l no)).getD i (0,0)).1),V0 (((Qq hi (Ya l no)).getD i (0,0)).2)]]) (.t B [315,123,3,29]) (Ta B bw Bi b pi ni ci l tree fuel d (hV (by omega)) way no _ _ ((Qy l no).getD i []) _ k0 j0 j8 f5 i5 i6 j9 g1 t6 _ hBb (Nat.le_trans hBw d5.size) (by omega) ae (Je _ _ _) w5 (by rw[g3];exact Nat.le_trans w6.1 he) (by rw[g3];exact Nat.le_trans w6.2.1 hb_) (by rw[g3];exact Nat.le_trans w6.2.2 hf)) ?_
  rintro _ c1 ⟨bp,v5,v0,u1,l2,v2,v6,u2,l3,ak,rfl,g5,b6,u3⟩
  have ah:=(d9.blkT (i7.below c5.below) c5.blk (by decide)).below (Za d6)
  refine⟨(Yh g5 b6),?_⟩
  rw[g3] at u3
  have i7:=u3.blk
  refine xb 7 9 i7 ?_
  refine xi 2 ((Ys (Xb l tree fuel d) l way no hi (i+1) { s with looked:=s.looked+1,bs:=s.bs++[no] }).dry) (fun p3=>?_) (fun p3=>?_)
  ·obtain⟨_,e9,f1,e8,f0,e7,d0,hI⟩:=u3
   have ar:=(Bo e7 (by simp)).2
   have ba:(way++[no]).length=way.length+1:=by simp
   have e5:(Ys (Xb l tree fuel d) l way no hi (Zt (inB l no)) { s with looked:=s.looked+1,bs:=s.bs++[no] })=(Ys (Xb l tree fuel d) l way no hi (i+1) { s with looked:=s.looked+1,bs:=s.bs++[no] }):=Zfo _ _ _ _ _ _ (by omega) p3
   refine xd 6 (.t B [315]) ?_
   refine xm2 (.b [0,1,2,3,5,6,7]) 4 8 ?_ ?_
   ·have a8:=i7.below (Za c1)
    refine xb 0 8 a8 ?_
    refine xb (.o [] 8) 8 a8 ?_
    refine xwm (.e [9] 10) ((↑((way++[no]).length):Int)-1) (↑(((way++[no]).length)-1):Int) ?_
    refine xsH (.e [] 11) (fun _ _ _ _ zo zx zy V=>Qo (k:=(((way++[no]).length)-1)) (b:=l2) (n:=(way++[no]).length) (c:=l3) (i:=(↑(((way++[no]).length)-1):Int)) (ki:=.i64) zo zx zy rfl (by omega) Tryz.underlying33 (by kernel_rfl) V) ?_
    refine ys (.o [12,13] 14) a8 [.slice v5 ((Ys (Xb l tree fuel d) l way no hi (i+1) { s with looked:=s.looked+1,bs:=s.bs++[no] }).es.length) v2,.slice v0 ((Ys (Xb l tree fuel d) l way no hi (i+1) { s with looked:=s.looked+1,bs:=s.bs++[no] }).bs.length) v6,V0 (Ys (Xb l tree fuel d) l way no hi (i+1) { s with looked:=s.looked+1,bs:=s.bs++[no] }).deep,V0 ((Ys (Xb l tree fuel d) l way no hi (i+1) { s with looked:=s.looked+1,bs:=s.bs++[no] }).looked:Int),.slice u1 ((Ys (Xb l tree fuel d) l way no hi (i+1) { s with looked:=s.looked+1,bs:=s.bs++[no] }).fs.length) u2,P0 b,V0 tree,V0 fuel,.slice l2 (((way++[no]).length)-1) l3,.bool ((Ys (Xb l tree fuel d) l way no hi (i+1) { s with looked:=s.looked+1,bs:=s.bs++[no] }).dry)] (.t B [315]) fun cc f3 af=>⟨(Zp f3 a8 hBb (by decide)),?_⟩
    have p9:=(((d9.blk (b3.below c5.below) (Ne.symm (Ne.symm d1))).below (Za d6)).only b6 (by decide)).below (Za c1)
    have k7:=(b2.only b6 (by decide)).below (Za c1)
    have m8:=f3.below (blB (d5.trans g5) hBw (Za c1)) hBb
    have z0:=((((Ze.upd_new (c9.trans (Ze.of_below c5.below)) d9 t9).trans (Ze.of_below (Za d6))).trans b6).trans (Ze.of_below (Za c1))).trans (Ze.of_upd f3 a8 (by decide))
    have o3:=f3.own2 (Zb e9 (Za c1)) a8 (by decide)
    have q8:=f3.own2 (Zb f1 (Za c1)) a8 (by decide)
    have p2:=f3.own2 (Zb e8 (Za c1)) a8 (by decide)
    have q1:=(f0.below (Za c1)).only (Ze.of_upd (T:=[315]) f3 a8 (by decide)) (by decide)
    have i2:=f3.own2 (Zb e7 (Za c1)) a8 (by decide)
    have x6:=(hI.below (Za c1)).only (Ze.of_upd (T:=[315]) f3 a8 (by decide)) (by decide)
    refine xe 1 (.tuple #[]) ?_
    rw[d3,e5]
    rw[show(way++[no]).length-1=way.length by simp] at af
    exact⟨_,v5,v0,u1,l2,v2,v6,u2,l3,ak,rfl,m8,z0,af,o3,q8,p2,q1,Df i2,d0.len _ _ _ _,x6⟩
   have b0:=i7.below (Za c1)
   refine xb 0 8 b0 ?_
   refine xwm (.e [9] 10) ((↑((way++[no]).length):Int)-1) (↑(((way++[no]).length)-1):Int) ?_
   refine xb (.o [] 4) 8 b0 ?_
   refine xsH (.e [] 11) (fun _ _ _ _ zo zx zy V=>Qo (k:=(((way++[no]).length)-1)) (b:=l2) (n:=(way++[no]).length) (c:=l3) (i:=(↑(((way++[no]).length)-1):Int)) (ki:=.i64) zo zx zy rfl (by omega) Tryz.underlying33 (by kernel_rfl) V) ?_
   refine ys (.o [12,13] 14) b0 [.slice v5 ((Ys (Xb l tree fuel d) l way no hi (i+1) { s with looked:=s.looked+1,bs:=s.bs++[no] }).es.length) v2,.slice v0 ((Ys (Xb l tree fuel d) l way no hi (i+1) { s with looked:=s.looked+1,bs:=s.bs++[no] }).bs.length) v6,V0 (Ys (Xb l tree fuel d) l way no hi (i+1) { s with looked:=s.looked+1,bs:=s.bs++[no] }).deep,V0 ((Ys (Xb l tree fuel d) l way no hi (i+1) { s with looked:=s.looked+1,bs:=s.bs++[no] }).looked:Int),.slice u1 ((Ys (Xb l tree fuel d) l way no hi (i+1) { s with looked:=s.looked+1,bs:=s.bs++[no] }).fs.length) u2,P0 b,V0 tree,V0 fuel,.slice l2 (((way++[no]).length)-1) l3,.bool ((Ys (Xb l tree fuel d) l way no hi (i+1) { s with looked:=s.looked+1,bs:=s.bs++[no] }).dry)] (.t B [315]) fun bq f9 ac=>⟨(Zp f9 b0 hBb (by decide)),?_⟩
   have t0:=(((d9.blk (b3.below c5.below) (Ne.symm (Ne.symm d1))).below (Za d6)).only b6 (by decide)).below (Za c1)
   have k2:=(b2.only b6 (by decide)).below (Za c1)
   have r6:=f9.below (blB (d5.trans g5) hBw (Za c1)) hBb
   have v9:=((((Ze.upd_new (c9.trans (Ze.of_below c5.below)) d9 t9).trans (Ze.of_below (Za d6))).trans b6).trans (Ze.of_below (Za c1))).trans (Ze.of_upd f9 b0 (by decide))
   have o5:=f9.own2 (Zb e9 (Za c1)) b0 (by decide)
   have o7:=f9.own2 (Zb f1 (Za c1)) b0 (by decide)
   have r8:=f9.own2 (Zb e8 (Za c1)) b0 (by decide)
   have s0:=(f0.below (Za c1)).only (Ze.of_upd (T:=[315]) f9 b0 (by decide)) (by decide)
   have i4:=f9.own2 (Zb e7 (Za c1)) b0 (by decide)
   have w7:=(hI.below (Za c1)).only (Ze.of_upd (T:=[315]) f9 b0 (by decide)) (by decide)
   refine xe 1 (.tuple #[]) ?_
   rw[d3,e5]
   rw[show(way++[no]).length-1=way.length by simp] at ac
   exact⟨_,v5,v0,u1,l2,v2,v6,u2,l3,ak,rfl,r6,v9,ac,o5,o7,r8,s0,Df i4,d0.len _ _ _ _,w7⟩
  refine xwm 4 ((i:Int)+1) (↑(i+1):Int) ?_
  have n2:=d5.trans g5
  have x5:=((Ze.upd_new (c9.trans (Ze.of_below c5.below)) d9 t9).trans (Ze.of_below (Za d6))).trans b6
  have e3:=((d9.blk (b3.below c5.below) (Ne.symm (Ne.symm d1))).below (Za d6)).only b6 (by decide)
  have d8:=b2.only b6 (by decide)
  have o8:=Zn e1 b6 (by decide)
  have q6:=Zn (Zb (d9.own3 (Zb k3 c5.below) f2) (Za d6)) b6 (by decide)
  exact ze 2 (z9 _ _ _ ⟨i+1,_,_,_,_,_,_,_,_,_,rfl,rfl,n2,x5,e3,d8,u3,o8,q6,by omega,by assumption⟩ (by omega))
 obtain⟨_,e9,f1,e8,f0,e7,d0,hI⟩:=hR
 have ar:=(Bo e7 (by simp)).2
 have ba:(way++[no]).length=way.length+1:=by simp
 have e5:(Ys (Xb l tree fuel d) l way no hi (Zt (inB l no)) { s with looked:=s.looked+1,bs:=s.bs++[no] })=(Ys (Xb l tree fuel d) l way no hi i { s with looked:=s.looked+1,bs:=s.bs++[no] }):=by rw[show i=(Zt (inB l no)) by omega]
 refine xd 5 (.t B [315]) ?_
 refine xm2 (.b [0,1,2,3,5,6,7]) 4 8 ?_ ?_
 ·have a6:=i7.below (Za c0)
  refine xb 0 8 a6 ?_
  refine xb (.o [] 8) 8 a6 ?_
  refine xwm (.e [9] 10) ((↑((way++[no]).length):Int)-1) (↑(((way++[no]).length)-1):Int) ?_
  refine xsH (.e [] 11) (fun _ _ _ _ zo zx zy V=>Qo (k:=(((way++[no]).length)-1)) (b:=f5) (n:=(way++[no]).length) (c:=g1) (i:=(↑(((way++[no]).length)-1):Int)) (ki:=.i64) zo zx zy rfl (by omega) Tryz.underlying33 (by kernel_rfl) V) ?_
  refine ys (.o [12,13] 14) a6 [.slice k0 ((Ys (Xb l tree fuel d) l way no hi i { s with looked:=s.looked+1,bs:=s.bs++[no] }).es.length) i5,.slice j0 ((Ys (Xb l tree fuel d) l way no hi i { s with looked:=s.looked+1,bs:=s.bs++[no] }).bs.length) i6,V0 (Ys (Xb l tree fuel d) l way no hi i { s with looked:=s.looked+1,bs:=s.bs++[no] }).deep,V0 ((Ys (Xb l tree fuel d) l way no hi i { s with looked:=s.looked+1,bs:=s.bs++[no] }).looked:Int),.slice j8 ((Ys (Xb l tree fuel d) l way no hi i { s with looked:=s.looked+1,bs:=s.bs++[no] }).fs.length) j9,P0 b,V0 tree,V0 fuel,.slice f5 (((way++[no]).length)-1) g1,.bool ((Ys (Xb l tree fuel d) l way no hi i { s with looked:=s.looked+1,bs:=s.bs++[no] }).dry)] (.t B [315]) fun cg f4 ag=>⟨(Zp f4 a6 hBb (by decide)),?_⟩
  have s3:=b3.below (Za c0)
  have l0:=c6.below (Za c0)
  have n3:=f4.below (blB d2 hBw (Za c0)) hBb
  have y3:=(c9.trans (Ze.of_below (Za c0))).trans (Ze.of_upd f4 a6 (by decide))
  have p8:=f4.own2 (Zb e9 (Za c0)) a6 (by decide)
  have q9:=f4.own2 (Zb f1 (Za c0)) a6 (by decide)
  have r7:=f4.own2 (Zb e8 (Za c0)) a6 (by decide)
  have r0:=(f0.below (Za c0)).only (Ze.of_upd (T:=[315]) f4 a6 (by decide)) (by decide)
  have i1:=f4.own2 (Zb e7 (Za c0)) a6 (by decide)
  have v7:=(hI.below (Za c0)).only (Ze.of_upd (T:=[315]) f4 a6 (by decide)) (by decide)
  refine xe 1 (.tuple #[]) ?_
  rw[d3,e5]
  rw[show(way++[no]).length-1=way.length by simp] at ag
  exact⟨_,k0,j0,j8,f5,i5,i6,j9,g1,t6,rfl,n3,y3,ag,p8,q9,r7,r0,Df i1,d0.len _ _ _ _,v7⟩
 have a9:=i7.below (Za c0)
 refine xb 0 8 a9 ?_
 refine xwm (.e [9] 10) ((↑((way++[no]).length):Int)-1) (↑(((way++[no]).length)-1):Int) ?_
 refine xb (.o [] 4) 8 a9 ?_
 refine xsH (.e [] 11) (fun _ _ _ _ zo zx zy V=>Qo (k:=(((way++[no]).length)-1)) (b:=f5) (n:=(way++[no]).length) (c:=g1) (i:=(↑(((way++[no]).length)-1):Int)) (ki:=.i64) zo zx zy rfl (by omega) Tryz.underlying33 (by kernel_rfl) V) ?_
 refine ys (.o [12,13] 14) a9 [.slice k0 ((Ys (Xb l tree fuel d) l way no hi i { s with looked:=s.looked+1,bs:=s.bs++[no] }).es.length) i5,.slice j0 ((Ys (Xb l tree fuel d) l way no hi i { s with looked:=s.looked+1,bs:=s.bs++[no] }).bs.length) i6,V0 (Ys (Xb l tree fuel d) l way no hi i { s with looked:=s.looked+1,bs:=s.bs++[no] }).deep,V0 ((Ys (Xb l tree fuel d) l way no hi i { s with looked:=s.looked+1,bs:=s.bs++[no] }).looked:Int),.slice j8 ((Ys (Xb l tree fuel d) l way no hi i { s with looked:=s.looked+1,bs:=s.bs++[no] }).fs.length) j9,P0 b,V0 tree,V0 fuel,.slice f5 (((way++[no]).length)-1) g1,.bool ((Ys (Xb l tree fuel d) l way no hi i { s with looked:=s.looked+1,bs:=s.bs++[no] }).dry)] (.t B [315]) fun ca f6 al=>⟨(Zp f6 a9 hBb (by decide)),?_⟩
 have q4:=b3.below (Za c0)
 have l1:=c6.below (Za c0)
 have q2:=f6.below (blB d2 hBw (Za c0)) hBb
 have z6:=(c9.trans (Ze.of_below (Za c0))).trans (Ze.of_upd f6 a9 (by decide))
 have o1:=f6.own2 (Zb e9 (Za c0)) a9 (by decide)
 have l9:=f6.own2 (Zb f1 (Za c0)) a9 (by decide)
 have q0:=f6.own2 (Zb e8 (Za c0)) a9 (by decide)
 have t1:=(f0.below (Za c0)).only (Ze.of_upd (T:=[315]) f6 a9 (by decide)) (by decide)
 have j4:=f6.own2 (Zb e7 (Za c0)) a9 (by decide)
 have x1:=(hI.below (Za c0)).only (Ze.of_upd (T:=[315]) f6 a9 (by decide)) (by decide)
 refine xe 1 (.tuple #[]) ?_
 rw[d3,e5]
 rw[show(way++[no]).length-1=way.length by simp] at al
 exact⟨_,k0,j0,j8,f5,i5,i6,j9,g1,t6,rfl,q2,z6,al,o1,l9,q0,t1,Df j4,d0.len _ _ _ _,x1⟩
end Go.Proofs.YtegcamkgeacjfaaGreatDoor
namespace Go.Proofs.YtegcamkgeacjfaaGreatDoor
set_option maxHeartbeats 8000000
set_option maxRecDepth 100000
open Go.RowKit Go.Extern.Stop Go.Stop Go.Extern
set_option linter.unusedVariables false
theorem Pt{V:List Int→Int→Int→Int→WS→WS}{l:Bl}{way:List Int}{no hi:Int}{s:WS}(P:Nat→WS→Prop)(h0:P 0 s) :
  ∀ n,(∀ i t,i<n→t.dry=false→P i t→P (i+1) (Kd V way no ((Qy l no).getD i []) (Xg hi (Ya l no) i) t))→(∀ i t,i<n→t.dry=true→P i t→P (i+1) t)→P n (Ys V l way no hi n s)
 | 0,_,_=>h0
 | n+1,hs,hd=>by
  have ih:=Pt P h0 n (fun i t hi=>hs i t (by omega)) (fun i t hi=>hd i t (by omega))
  rw[Uu]
  unfold Pc
  split
  ·rename_i h;exact hd n _ (by omega) h ih
  ·rename_i h;exact hs n _ (by omega) (by simpa using h) ih
theorem rootE_no(v:Bl):Xo v=0∨Xo v=2∨Xo v=7:=by
 unfold Xo;split
 ·split<;>simp
 ·simp
theorem Rk(l:Bl):∀ n,Yi l n=0∨Yi l n=2∨Yi l n=8
 | 0=>.inl rfl
 | n+1=>by
  rw[Yi]
  split
  ·exact Rk l n
  ·unfold Pb;split
   ·simp
   ·split<;>simp
theorem Zd7(l:Bl)(no tree:Int):Xe l no tree≠12:=by
 unfold Xe
 split
 ·unfold Qj
  split
  ·split<;>decide
  ·unfold Yz
   split
   ·split
    ·rcases Rk (inB l no) (Zt (inB l no)) with h|h|h<;>rw[h]<;>decide
    ·decide
   ·decide
 ·unfold inE
  split
  ·unfold Yk
   repeat' split
   all_goals decide
  ·decide
theorem lookE_no(l:Bl)(way:List Int)(no tree lo hi deep:Int):Xa l way no tree lo hi deep≠12:=by
 unfold Xa
 split
 ·decide
 ·split
  ·decide
  ·split
   ·exact Zd7 _ _ _
   ·split
    ·decide
    ·split<;>decide
theorem Zg5(t:Int)(b:Bool):Zfa t b≤18:=by
 unfold Zfa maxN
 repeat' split
 all_goals omega
theorem Cb{l:Bl}(h:Yz l=0):Vu l=true:=by
 unfold Yz at h
 split at h
 ·assumption
 ·cases h
theorem Wr{l:Bl}{tree:Int}(h:Qj l tree=0):Yz l=0:=by
 unfold Qj at h
 split at h
 ·assumption
 ·assumption
theorem Nc{l:Bl}{no tree:Int}(h:Xe l no tree=0):inE l 2 no=0∧Qj (inB l no) tree=0:=by
 unfold Xe at h
 split at h
 ·exact⟨by assumption,h⟩
 ·rename_i q;exact absurd h q
theorem Jg{l:Bl}{way:List Int}{no tree lo hi deep:Int}(h:Xa l way no tree lo hi deep=0):Xe l no tree=0∧Yw lo hi (Ya l no)=0∧Zt (inB l no)≤18:=by
 unfold Xa at h
 split at h
 ·cases h
 ·split at h
  ·cases h
  ·split at h
   ·rename_i q;exact absurd h q
   ·rename_i q
    split at h
    ·cases h
    ·rename_i q2
     have q1:Xe l no tree=0:=Decidable.not_not.1 q
     exact⟨q1,Decidable.not_not.1 q2,Nat.le_trans (Jk (Cb (Wr (Nc q1).2))) (Zg5 _ _)⟩
theorem Hi{lo hi:Int}{L:List Int}(h:Yw lo hi L=0):Qw lo hi=true∧Vv L∧∀ k∈L,lo≤k∧k<hi:=by
 unfold Yw at h
 split at h
 ·split at h
  ·split at h
   ·exact⟨by assumption,by assumption,by assumption⟩
   ·cases h
  ·cases h
 ·cases h
def InBlk(l:Bl)(tree:Int)(x:Ent):Prop :=
 Xe l x.2.2 tree=0∧Xr (inB l x.2.2)=true∧∃ k,k<Zt (inB l x.2.2)∧(Ya l x.2.2).getD k 0=x.1∧(Qy l x.2.2).getD k []=x.2.1∧∀ j,j<k→(Ya l x.2.2).getD j 0≠x.1
def Zfp(lo hi:Int)(es:List Ent):Prop:=es.Pairwise (fun x y=>x.1<y.1)∧∀ x∈es,lo≤x.1∧x.1<hi
theorem Zfp.nil(lo hi:Int):Zfp lo hi []:=⟨.nil,fun _ h=>by cases h⟩
theorem Zfp.app{lo mi hi:Int}{a b:List Ent}(h:Zfp lo mi a)(k:Zfp mi hi b)(h1:lo≤mi)(h2:mi≤hi):Zfp lo hi (a++b):=by
 refine⟨List.pairwise_append.2 ⟨h.1,k.1,fun x hx y hy=>?_⟩,fun x hx=>?_⟩
 ·have:=(h.2 x hx).2;have:=(k.2 y hy).1;omega
 ·rcases List.mem_append.1 hx with q|q
  ·have:=h.2 x q;omega
  ·have:=k.2 x q;omega
structure Went(l:List UInt8)(tree fuel:Int)(hd:Option Int)(lo hi:Int)(s t:WS)(es:List Ent)(fs:List (List Int×Int)):Prop where
 esE:t.es=s.es++es
 fsE:t.fs=s.fs++fs
 rise:Zfp lo hi es
 inb:∀ x∈es,InBlk l tree x
 flt:∀ f∈fs,f.1.head? = hd∧f.1≠[]∧f.2≠0
 dry:t.dry=true↔s.dry=true∨∃ f∈fs,f.2=12
 fuelE:t.dry=true→s.dry=true∨fuel≤t.looked
 look:s.looked≤fuel.toNat→t.looked≤fuel.toNat
 more:s.looked≤t.looked
 blks:t.bs.length+s.looked≤s.bs.length+t.looked
theorem Went.refl(l:Bl)(tree fuel:Int)(hd:Option Int)(lo hi:Int)(s:WS):Went l tree fuel hd lo hi s s [] [] :=
 ⟨by simp,by simp,Zfp.nil _ _,by simp,by simp,by simp,fun h=>.inl h,fun h=>h,Nat.le_refl _,Nat.le_refl _⟩
theorem Went.trans{l:Bl}{tree fuel:Int}{hd:Option Int}{lo mi hi:Int}{s t u:WS}{es es2:List Ent}{fs fs2:List (List Int×Int)}(h:Went l tree fuel hd lo mi s t es fs)(k:Went l tree fuel hd mi hi t u es2 fs2)(h1:lo≤mi)(h2:mi≤hi) :
  Went l tree fuel hd lo hi s u (es++es2) (fs++fs2) where
 esE:=by rw[k.esE,h.esE,List.append_assoc]
 fsE:=by rw[k.fsE,h.fsE,List.append_assoc]
 rise:=h.rise.app k.rise h1 h2
 inb x hx:=by
  rcases List.mem_append.1 hx with q|q
  ·exact h.inb x q
  ·exact k.inb x q
 flt f hf:=by
  rcases List.mem_append.1 hf with q|q
  ·exact h.flt f q
  ·exact k.flt f q
 dry:=by
  rw[k.dry,h.dry]
  constructor
  ·rintro((q|⟨f,q1,q2⟩)|⟨f,q1,q2⟩)
   ·exact .inl q
   ·exact .inr ⟨f,List.mem_append_left _ q1,q2⟩
   ·exact .inr ⟨f,List.mem_append_right _ q1,q2⟩
  ·rintro(q|⟨f,q1,q2⟩)
   ·exact .inl (.inl q)
   ·rcases List.mem_append.1 q1 with q|q
    ·exact .inl (.inr ⟨f,q,q2⟩)
    ·exact .inr ⟨f,q,q2⟩
 fuelE h0:=by
  rcases k.fuelE h0 with q|q
  ·rcases h.fuelE q with q|q
   ·exact .inl q
   ·exact .inr (by have:=k.more;omega)
  ·exact .inr q
 look h0:=k.look (h.look h0)
 more:=Nat.le_trans h.more k.more
 blks:=by have:=h.blks;have:=k.blks;omega
theorem Went.wide{l:Bl}{tree fuel:Int}{hd:Option Int}{lo hi lo2 hi2:Int}{s t:WS}{es:List Ent}{fs:List (List Int×Int)}(h:Went l tree fuel hd lo hi s t es fs)(h1:lo2≤lo)(h2:hi≤hi2):Went l tree fuel hd lo2 hi2 s t es fs :=
 { h with rise:=⟨h.rise.1,fun x hx=>by have:=h.rise.2 x hx;omega⟩ }
theorem Went.note(l:Bl)(tree fuel:Int){hd:Option Int}(lo hi:Int)(way:List Int)(no c:Int)(s:WS)(hc:c≠0)(hc2:c≠12)(hh:(way++[no]).head? = hd):Went l tree fuel hd lo hi s (Yn way [no] c s) [] [(way++[no],c)] :=
 ⟨by simp[Yn],by simp[Yn],Zfp.nil _ _,by simp,(fun f hf=>by rw[List.mem_singleton.1 hf];exact⟨hh,by simp,hc⟩),by simp[Yn,hc2],fun h=>.inl (by simpa [Yn] using h),fun h=>by simpa [Yn] using h,Nat.le_refl _,Nat.le_refl _⟩
theorem Ho{lo hi:Int}{L:List Int}(hf:Yw lo hi L=0){i:Nat}(h:i<L.length):lo≤(Xg hi L i).1∧(Xg hi L i).1≤(Xg hi L i).2∧(Xg hi L i).2≤hi∧(i+1<L.length→(Xg hi L i).2=(Xg hi L (i+1)).1):=by
 obtain⟨h1,h2,h3⟩:=Hi hf
 have h4:=h3 L[i] (List.getElem_mem _)
 unfold Xg
 simp only[List.getElem?_eq_getElem h,Option.getD_some]
 by_cases hn:i+1<L.length
 ·have h5:=h3 L[i+1] (List.getElem_mem _)
  have h6:=Vv.lt h2 (i+1) i (by omega) hn
  simp only[List.getElem?_eq_getElem h,List.getElem?_eq_getElem hn,Option.getD_some] at h6 ⊢
  exact⟨h4.1,by omega,by omega,fun _=>trivial⟩
 ·rw[List.getElem?_eq_none (by omega)]
  simp only[Option.getD_none]
  exact⟨h4.1,by omega,Int.le_refl _,fun h=>absurd h hn⟩
theorem Zgn{lo hi:Int}{l:Bl}{no:Int}(hf:Yw lo hi (Ya l no)=0)(Vs:List Bl):Zfp lo hi (Vy (Ya l no) Vs no (Zt (inB l no))):=by
 obtain⟨h1,h2,h3⟩:=Hi hf
 have hl:(Ya l no).length=Zt (inB l no):=by simp[Ya,Yx]
 refine⟨?_,?_⟩
 ·unfold Vy
  rw[List.pairwise_map]
  refine List.Pairwise.imp_of_mem (R:=fun a b=>a<b) ?_ List.pairwise_lt_range
  intro a b ha hb a0
  have:=Vv.lt h2 b a a0 (by rw[hl];simpa using hb)
  simpa [List.getD] using this
 ·intro x hx
  unfold Vy at hx
  obtain⟨j,hj,rfl⟩:=List.mem_map.1 hx
  have hj:j<(Ya l no).length:=by rw[hl];simpa using hj
  have:=h3 (Ya l no)[j] (List.getElem_mem _)
  simpa [List.getD,hj] using this
theorem leaf_inb{lo hi:Int}{l:Bl}{no tree:Int}(hn:Xe l no tree=0)(hl:Xr (inB l no)=true)(hf:Yw lo hi (Ya l no)=0):∀ x∈Vy (Ya l no) (Qy l no) no (Zt (inB l no)),InBlk l tree x:=by
 intro x hx
 obtain⟨h1,h2,h3⟩:=Hi hf
 have hk:(Ya l no).length=Zt (inB l no):=by simp[Ya,Yx]
 unfold Vy at hx
 obtain⟨j,hj,rfl⟩:=List.mem_map.1 hx
 have hj:j<Zt (inB l no):=by simpa using hj
 refine⟨hn,hl,j,hj,rfl,rfl,fun i hi=>?_⟩
 have:=Vv.lt h2 j i hi (by rw[hk];exact hj)
 simp only[List.getD]
 omega
theorem Dp(l:Bl)(tree fuel:Int):∀ (d:Nat) (way:List Int) (no lo hi:Int) (s:WS),s.dry=false→∃ es fs,Went l tree fuel (way++[no]).head? lo hi s (Xb l tree fuel d way no lo hi s) es fs
  | 0,way,no,lo,hi,s,_=>⟨[],[],Went.refl _ _ _ _ _ _ _⟩
  | d + 1, way, no, lo, hi, s, hs => by
    unfold Xb
    split
    · rename_i hf
      exact⟨[],[(way++[no],12)],by simp[Yn],by simp[Yn],Zfp.nil _ _,by simp,by simp,by simp,fun _=>.inr hf,fun h=>h,Nat.le_refl _,Nat.le_refl _⟩
    · rename_i hf
      have a2:s.looked+1≤fuel.toNat:=by omega
      split
      · rename_i he
        have:=Went.note l tree fuel lo hi way no _ { s with looked:=s.looked+1 } he (lookE_no _ _ _ _ _ _ _) rfl
        exact⟨_,_,this.esE,this.fsE,this.rise,this.inb,this.flt,this.dry,fun h=>by simp[Yn,hs] at h,fun _=>a2,by simp[Yn],by simp[Yn]⟩
      · rename_i he
        have he:Xa l way no tree lo hi s.deep=0:=Decidable.not_not.1 he
        obtain⟨hn,a0,hc⟩:=Jg he
        split
        · rename_i hl
          exact⟨_,[],rfl,by simp,Zgn a0 _,leaf_inb hn hl a0,by simp,by simp[hs],fun h=>by simp[hs] at h,fun _=>a2,by simp,by simp;omega⟩
        · have hk:(Ya l no).length=Zt (inB l no):=by simp[Ya,Yx]
          have a8:=Hi a0
          have b0:lo≤hi:=by have:=a8.1;unfold Qw at this;simp at this;omega
          have a1:=Pt (V:=Xb l tree fuel d) (l:=l) (way:=way) (no:=no) (hi:=hi) (s:={ s with looked:=s.looked+1,bs:=s.bs++[no] })
            (fun i t=>∃ es fs,Went l tree fuel (way++[no]).head? lo (if i=0 then lo else(Xg hi (Ya l no) (i-1)).2) { s with looked:=s.looked+1,bs:=s.bs++[no] } t es fs)
            ⟨[],[],Went.refl _ _ _ _ _ _ _⟩ (Zt (inB l no)) ?_ ?_
          · obtain⟨es,fs,q⟩:=a1
            refine⟨es,fs,q.esE,q.fsE,?_,q.inb,q.flt,q.dry,fun h=>?_,fun _=>q.look a2,by have:=q.more;simp only at this;omega,by have:=q.blks;simp at this;omega⟩
            · refine⟨q.rise.1,fun x hx=>?_⟩
              have:=q.rise.2 x hx
              split at this
              · omega
              · rename_i h0
                have:=(Ho a0 (i:=Zt (inB l no)-1) (by rw[hk];omega)).2.2.1
                omega
            · rcases q.fuelE h with q2|q2
              · exact .inl q2
              · exact .inr q2
          · rintro i t a4 a6 ⟨es,fs,q⟩
            have hp:=Ho a0 (i:=i) (by rw[hk];exact a4)
            have a5:lo≤(if i=0 then lo else(Xg hi (Ya l no) (i-1)).2)∧(if i=0 then lo else(Xg hi (Ya l no) (i-1)).2)≤(Xg hi (Ya l no) i).1:=by
              split
              · exact⟨Int.le_refl _,hp.1⟩
              · rename_i h0
                have a3:=Ho a0 (i:=i-1) (by rw[hk];omega)
                have:=a3.2.2.2 (by rw[hk];omega)
                rw[show i-1+1=i by omega] at this
                omega
            have q':=q.wide (Int.le_refl lo) a5.2
            rw[if_neg (by omega),Nat.add_sub_cancel]
            unfold Kd
            split
            · obtain⟨b1,a9,r⟩:=Dp l tree fuel d (way++[no]) (Zo ((Qy l no).getD i []):Int) (Xg hi (Ya l no) i).1 (Xg hi (Ya l no) i).2 t a6
              have hh:((way++[no])++[(Zo ((Qy l no).getD i []):Int)]).head? = (way++[no]).head? := by cases way<;>rfl
              rw[hh] at r
              exact⟨_,_,q'.trans r (by omega) hp.2.1⟩
            · rename_i a7
              have r:=Went.note l tree fuel (Xg hi (Ya l no) i).1 (Xg hi (Ya l no) i).2 way no (Xo ((Qy l no).getD i [])) t a7 (by rcases rootE_no ((Qy l no).getD i []) with h|h|h<;>rw[h]<;>decide) rfl
              exact⟨_,_,q'.trans r (by omega) hp.2.1⟩
          · rintro i t a4 a6 ⟨es,fs,q⟩
            have hp:=Ho a0 (i:=i) (by rw[hk];exact a4)
            rw[if_neg (by omega),Nat.add_sub_cancel]
            refine⟨es,fs,q.wide (Int.le_refl _) ?_⟩
            split
            · omega
            · rename_i h0
              have a3:=Ho a0 (i:=i-1) (by rw[hk];omega)
              have:=a3.2.2.2 (by rw[hk];omega)
              rw[show i-1+1=i by omega] at this
              omega
theorem Uc(l:Bl)(tree fuel:Int):∀ (d:Nat) (way:List Int) (no lo hi:Int) (s:WS),s.dry=false →
  (Xb l tree fuel d way no lo hi s).fs.length+(Xb l tree fuel d way no lo hi s).es.length+18*s.looked≤s.fs.length+s.es.length+18*(Xb l tree fuel d way no lo hi s).looked+(if(Xb l tree fuel d way no lo hi s).dry=true then 1 else 0)
 | 0,way,no,lo,hi,s,hs=>by simp[Xb,hs]
 | d+1,way,no,lo,hi,s,hs=>by
  unfold Xb
  split
  ·simp[Yn];omega
  ·split
   ·simp[Yn,hs];omega
   ·rename_i he
    have he:Xa l way no tree lo hi s.deep=0:=Decidable.not_not.1 he
    obtain⟨hn,a3,hc⟩:=Jg he
    split
    ·simp[Jh,hs];omega
    ·have a1:=Pt (V:=Xb l tree fuel d) (l:=l) (way:=way) (no:=no) (hi:=hi) (s:={ s with looked:=s.looked+1,bs:=s.bs++[no] })
      (fun i t=>t.fs.length+t.es.length+18*(s.looked+1)≤s.fs.length+s.es.length+i+18*t.looked+(if t.dry=true then 1 else 0)) (by simp[hs]) (Zt (inB l no)) ?_ ?_
     ·omega
     ·intro i t a2 a0 q
      rw[a0] at q
      unfold Kd
      split
      ·have:=Uc l tree fuel d (way++[no]) (Zo ((Qy l no).getD i []):Int) (Xg hi (Ya l no) i).1 (Xg hi (Ya l no) i).2 t a0
       simp at q
       omega
      ·simp[Yn,a0] at q ⊢;omega
     ·intro i t a2 a0 q;omega
end Go.Proofs.YtegcamkgeacjfaaGreatDoor
namespace Go.Proofs.YtegcamkgeacjfaaGreatDoor
set_option maxHeartbeats 8000000
set_option maxRecDepth 100000
open Go.RowKit Go.Extern.Stop Go.Stop Go.Extern
set_option linter.unusedVariables false
attribute [local irreducible] wpList wpAnyH Code.wp Oper.wp Go
theorem Ik{B bw Bi b:Nat}{pi:O0}{ni ci:Nat}{l:Bl}{tree fuel:Int}(hBb:B≤bw)(hfu:fuel≤1000000):∀ d,Zf0 B bw Bi b pi ni ci l tree fuel (d+1)
 | 0=>fun a0 no lo hi s pe pb pf pw ce cb cf cw fv w h1 h2 h3 h4 h5 h6 h7=>Mk B bw Bi b pi ni ci l tree fuel 0 (fun h=>absurd rfl h) a0 no lo hi s pe pb pf pw ce cb cf cw fv w hBb h2 h1 h3 hfu h4 h5 h6 h7
 | d+1=>fun a0 no lo hi s pe pb pf pw ce cb cf cw fv w h1 h2 h3 h4 h5 h6 h7=>Mk B bw Bi b pi ni ci l tree fuel (d+1) (fun _=>Ik hBb hfu d) a0 no lo hi s pe pb pf pw ce cb cf cw fv w hBb h2 h1 h3 hfu h4 h5 h6 h7
def ws0:WS:=⟨[],[],0,0,[],false⟩
def Zd(l:Bl)(root tree fuel:Int):WS:=Xb l tree fuel 17 [] root 0 281474976710656 ws0
theorem Nd(l:Bl)(root tree fuel:Int):∃ es fs,Went l tree fuel (some root) 0 281474976710656 ws0 (Zd l root tree fuel) es fs:=Dp l tree fuel 17 [] root 0 281474976710656 ws0 rfl
theorem Ui(l:Bl)(root tree fuel:Int):(Zd l root tree fuel).looked≤fuel.toNat:=by
 obtain⟨_,_,h⟩:=Nd l root tree fuel
 exact h.look (Nat.zero_le _)
theorem Gw(l:Bl)(root tree fuel:Int)(hf:fuel≤1000):(Zd l root tree fuel).es.length≤1000000∧(Zd l root tree fuel).bs.length≤1000000∧(Zd l root tree fuel).fs.length≤1000000:=by
 have h1:=Uc l tree fuel 17 [] root 0 281474976710656 ws0 rfl
 have h2:=Ui l root tree fuel
 obtain⟨_,_,h3⟩:=Nd l root tree fuel
 have h4:=h3.blks
 simp only[ws0,List.length_nil] at h4
 change (Zd l root tree fuel).fs.length+(Zd l root tree fuel).es.length+18*0≤0+0+18*(Zd l root tree fuel).looked+(if(Zd l root tree fuel).dry=true then 1 else 0) at h1
 have h5:(if(Zd l root tree fuel).dry=true then 1 else 0)≤1:=by split<;>omega
 have h6:fuel.toNat≤1000:=by omega
 generalize (if(Zd l root tree fuel).dry=true then 1 else 0)=q at h1 h5
 omega
def walkC(t:WS)(pe pb pf:O0)(ce cb cf:Nat):List Value:=[.slice pe t.es.length ce,.slice pb t.bs.length cb,V0 t.deep,V0 (t.looked:Int),.slice pf t.fs.length cf]
structure WalkV(B:Nat)(t:WS)(pe pb pf:Option Addr)(ce cb cf:Nat)(fv:List Value)(w:World):Prop where
 ents:w.ownsRow B 123 3 (.slice pe t.es.length ce) t.es.length (t.es.flatMap Vt)
 blks:w.ownsRow B 3 1 (.slice pb t.bs.length cb) t.bs.length (t.bs.map (Value.int .i64))
 flts:w.ownsRow B 29 1 (.slice pf t.fs.length cf) t.fs.length fv
 fltv:Kh w t.fs fv
def ScanP(l:Bl)(root tree fuel:Int)(w:World)(e:Ending)(w':World):Prop :=
 ∃ pe pb pf ce cb cf fv,e=.returned (.agg (walkC (Zd l root tree fuel) pe pb pf ce cb cf).toArray)∧B0 w w'∧WalkV w.heap.size (Zd l root tree fuel) pe pb pf ce cb cf fv w'
theorem Zg0(Bi b:Nat)(pi:O0)(ni ci:Nat)(l:Bl)(root tree fuel:Int)(w:World)(hfu:fuel≤1000)(hI:ImgR Bi b pi ni ci l w) :
 C0 108 #[P0 b,V0 root,V0 tree,V0 fuel] w (ScanP l root tree fuel w):=by
 refine zin 23 Tryz.func108 ?_
 refine xa 2 [S0,S0,V0 0,V0 0,S0] 130 fun b1 W1 n1=>?_
 refine xa 8 [S0,S0,V0 0,V0 0,S0,P0 b,V0 tree,V0 fuel,S0,.bool false] 315 fun b2 W2 n2=>?_
 refine xr 7 (args:=#[]) (Zbp _) fun W3 a5=>?_
 have a0:=Gw l root tree fuel hfu
 have g2:=n2.ge n1.below
 have hB:=bln (bln n1.below n2.below) a5
 have k2:=n2.blk.below a5
 have a7:=((hI.below n1.below).below n2.below).below a5
 refine xc 0 (args:=#[P0 b2,V0 root,.agg #[V0 0,V0 281474976710656]]) (Ik (B:=w.heap.size) (bw:=b2) (Bi:=Bi) (b:=b) (pi:=pi) (ni:=ni) (ci:=ci) (l:=l) (tree:=tree) (fuel:=fuel) g2 (by omega) 16 [] root 0 281474976710656 ws0 none none none none 0 0 0 0 [] _ rfl hB.size rfl ⟨k2,World.ownsRow_nil _ _ _ _,World.ownsRow_nil _ _ _ _,World.ownsRow_nil _ _ _ _,trivial,World.ownsRow_nil _ _ _ _,Vg.nil _,a7⟩ a0.1 a0.2.1 a0.2.2) ?_
 rintro _ W4 ⟨u4,pe,pb,pf,pw,ce,cb,cf,cw,fv,rfl,a9,b5,hR⟩
 change WalkR _ _ _ _ _ _ _ _ _ _ _ (Zd l root tree fuel) _ _ _ _ _ _ _ _ _ _ at hR
 obtain⟨kW,b0,a8,b4,b3,b7,b6,hI⟩:=hR
 refine xlv 7 (kW.rpp 0 5) ?_
 have k1:=((n1.blk.below n2.below).below a5).only b5 (by decide)
 refine xsv 0 k1 [.slice pe ((Zd l root tree fuel).es.length) ce,.slice pb ((Zd l root tree fuel).bs.length) cb,V0 (Zd l root tree fuel).deep,V0 ((Zd l root tree fuel).looked:Int),.slice pf ((Zd l root tree fuel).fs.length) cf] fun W5 u5 k5=>?_
 have g1:=n1.ge (B1 w)
 have a6:=u5.below (hB.trans a9) g1
 have a4:=u5.own2 b0 k1 (by decide)
 have a2:=u5.own2 a8 k1 (by decide)
 have a1:=u5.own2 b4 k1 (by decide)
 have a3:=b3.only (Ze.of_upd (T:=[130]) u5 k1 (by decide)) (by decide)
 exact xec 3 k5 (.agg #[.slice pe ((Zd l root tree fuel).es.length) ce,.slice pb ((Zd l root tree fuel).bs.length) cb,V0 (Zd l root tree fuel).deep,V0 ((Zd l root tree fuel).looked:Int),.slice pf ((Zd l root tree fuel).fs.length) cf]) ⟨_,_,_,_,_,_,_,rfl,a6,⟨a4,a2,a1,a3⟩⟩
end Go.Proofs.YtegcamkgeacjfaaGreatDoor
namespace Go.Proofs.YtegcamkgeacjfaaGreatDoor
set_option maxHeartbeats 8000000
set_option maxRecDepth 100000
open Go.RowKit Go.Extern.Stop Go.Stop Go.Extern
set_option linter.unusedVariables false
structure Wt where
 no:Int
 lo:Int
 hi:Int
 way:List Int
 ft:Int
 wa:Option Addr
 wc:Nat
def Zbu(l:Bl)(tree fuel:Int)(s:WS)(t:Wt):WS :=
 if s.dry=true then s else if t.ft≠0 then Yn t.way [t.no] t.ft s else Xb l tree fuel (17-t.way.length) t.way t.no t.lo t.hi s
def Ci(l:Bl)(tree fuel:Int)(ts:List Wt)(s:WS):WS:=ts.foldl (Zbu l tree fuel) s
theorem Zfl(l:Bl)(tree fuel:Int)(s:WS):Ci l tree fuel [] s=s:=rfl
theorem Nv(l:Bl)(tree fuel:Int)(t:Wt)(ts:List Wt)(s:WS):Ci l tree fuel (t::ts) s=Ci l tree fuel ts (Zbu l tree fuel s t):=rfl
theorem Zgs(l:Bl)(tree fuel:Int)(bs ts:List Wt)(s:WS):Ci l tree fuel (bs++ts) s=Ci l tree fuel ts (Ci l tree fuel bs s):=List.foldl_append
theorem Io(l:Bl)(tree fuel:Int):∀ (ts:List Wt) (s:WS),s.dry=true→Ci l tree fuel ts s=s
 | [],_,_=>rfl
 | t::ts,s,h=>by rw[Nv,Zbu,if_pos h,Io l tree fuel ts s h]
theorem Zhm(l:Bl)(tree fuel:Int)(s:WS)(t:Wt):Be s (Zbu l tree fuel s t):=by
 unfold Zbu
 split
 ·exact Be.refl _
 ·split
  ·exact Ez _ _ _ _
  ·exact Hv _ _ _ _ _ _ _ _ _
theorem Rg(l:Bl)(tree fuel:Int):∀ (ts:List Wt) (s:WS),Be s (Ci l tree fuel ts s)
 | [],s=>Be.refl s
 | t::ts,s=>(Zhm l tree fuel s t).trans (Rg l tree fuel ts _)
def Vc(l:Bl)(t:Wt)(p:O0)(c i:Nat):Wt :=
 if Xo ((Qy l t.no).getD i [])=0 then⟨Zo ((Qy l t.no).getD i []),(Xg t.hi (Ya l t.no) i).1,(Xg t.hi (Ya l t.no) i).2,t.way++[t.no],0,p,c⟩ else⟨t.no,0,0,t.way,Xo ((Qy l t.no).getD i []),t.wa,t.wc⟩
def Yt(l:Bl)(t:Wt)(p:O0)(c k:Nat):List Wt:=(List.range k).map (Vc l t p c)
theorem Vz(l:Bl)(t:Wt)(p:O0)(c k:Nat):(Yt l t p c k).length=k:=by simp[Yt]
theorem Vx(l:Bl)(t:Wt)(p:O0)(c k:Nat):Yt l t p c (k+1)=Yt l t p c k++[Vc l t p c k]:=by simp[Yt,List.range_succ]
theorem Zf9{l:Bl}{tree fuel:Int}{s:WS}{t:Wt}(hd:s.dry=false)(h:t.ft≠0):Zbu l tree fuel s t=Yn t.way [t.no] t.ft s:=by
 rw[Zbu,if_neg (by rw[hd];decide),if_pos h]
theorem Gv{l:Bl}{tree fuel:Int}{s:WS}{t:Wt}(hd:s.dry=false)(h:t.ft=0):Zbu l tree fuel s t=Xb l tree fuel (17-t.way.length) t.way t.no t.lo t.hi s:=by
 rw[Zbu,if_neg (by rw[hd];decide),if_neg (by omega)]
theorem one_fuel{l:Bl}{tree fuel:Int}{s:WS}{t:Wt}(hd:s.dry=false)(h:t.ft=0)(hw:t.way.length≤16)(hf:fuel≤s.looked):Zbu l tree fuel s t={ Yn t.way [t.no] 12 s with dry:=true }:=by
 rw[Gv hd h,show 17-t.way.length=(16-t.way.length)+1 by omega,Xb,if_pos hf]
theorem one_err{l:Bl}{tree fuel:Int}{s:WS}{t:Wt}(hd:s.dry=false)(h:t.ft=0)(hw:t.way.length≤16)(hf:¬ fuel≤s.looked)(he:Xa l t.way t.no tree t.lo t.hi s.deep≠0) :
 Zbu l tree fuel s t=Yn t.way [t.no] (Xa l t.way t.no tree t.lo t.hi s.deep) { s with looked:=s.looked+1 }:=by
 rw[Gv hd h,show 17-t.way.length=(16-t.way.length)+1 by omega,Xb,if_neg hf,if_pos he]
theorem Dh{l:Bl}{way:List Int}{no tree lo hi deep:Int}(h:Xa l way no tree lo hi deep=0):way.length<16:=by
 unfold Xa at h
 split at h
 ·cases h
 ·split at h
  ·cases h
  ·omega
theorem one_leaf{l:Bl}{tree fuel:Int}{s:WS}{t:Wt}(hd:s.dry=false)(h:t.ft=0)(hf:¬ fuel≤s.looked)(he:Xa l t.way t.no tree t.lo t.hi s.deep=0)(hl:Xr (inB l t.no)=true) :
 Zbu l tree fuel s t={ s with looked:=s.looked+1,bs:=s.bs++[t.no],deep:=((t.way.length+1:Nat):Int),es:=s.es++Vy (Ya l t.no) (Qy l t.no) t.no (Zt (inB l t.no)) }:=by
 have:=Dh he
 rw[Gv hd h,show 17-t.way.length=(16-t.way.length)+1 by omega,Xb,if_neg hf,if_neg (by omega),if_pos hl]
theorem Zg7{l:Bl}{tree fuel:Int}{s:WS}{t:Wt}(p:O0)(c:Nat)(hd:s.dry=false)(h:t.ft=0)(hf:¬ fuel≤s.looked)(he:Xa l t.way t.no tree t.lo t.hi s.deep=0)(hl:Xr (inB l t.no)=false) :
 Zbu l tree fuel s t=Ci l tree fuel (Yt l t p c (Zt (inB l t.no))) { s with looked:=s.looked+1,bs:=s.bs++[t.no] }:=by
 have hw:=Dh he
 rw[Gv hd h,show 17-t.way.length=(16-t.way.length)+1 by omega,Xb,if_neg hf,if_neg (by omega),if_neg (by rw[hl];decide)]
 unfold Ci Yt Ys
 rw[List.foldl_map]
 congr 1
 funext u i
 unfold Pc Zbu
 split
 ·rfl
 ·unfold Kd Vc
  by_cases hr:Xo ((Qy l t.no).getD i [])=0
  ·rw[if_pos hr,if_pos hr,if_neg (by simp)]
   simp only[List.length_append,List.length_cons,List.length_nil]
   rw[show 17-(t.way.length+(0+1))=16-t.way.length by omega]
  ·rw[if_neg hr,if_neg hr,if_pos hr]
theorem Dc{l:Bl}:∀ {n:Nat},Yi l n=0→∀ i,i<n→Pb l i=0
 | 0,_,i,h=>absurd h (by omega)
 | n+1,h,i,hi=>by
  by_cases h1:Yi l n=0
  ·rw[Yi,if_neg (by rw[h1];decide)] at h
   by_cases e:i=n
   ·rw[e];exact h
   ·exact Dc h1 i (by omega)
  ·rw[Yi,if_pos h1] at h
   exact absurd h h1
theorem Zc4{l:Bl}(h:Yz l=0):Yi l (Zt l)=0:=by
 unfold Yz at h
 split at h
 ·split at h
  ·exact h
  ·cases h
 ·cases h
theorem Zdx{l:Bl}{n:Nat}(h:Yi l n=0):Vv (Yx l n):=by
 intro k hk h1
 rw[Qe] at hk
 have e:=Dc h k hk
 have g:∀ j,j<n→(Yx l n)[j]?.getD 0=(Cl l j:Int):=fun j hj=>by simp[Yx,List.getElem?_range hj]
 rw[g _ (by omega),g _ hk]
 unfold Pb at e
 split at e
 ·cases e
 ·split at e
  ·cases e
  ·rename_i q;omega
theorem Zft{l:Bl}{no tree:Int}(h:Xe l no tree=0):Vv (Ya l no):=Zdx (Zc4 (Wr (Nc h).2))
theorem Uj{l:Bl}{no tree lo hi:Int}(h:Xe l no tree=0)(hr:Qw lo hi=true)(hk:∀ i,i<Zt (inB l no)→Dy lo hi ((Ya l no).getD i 0)=true):Yw lo hi (Ya l no)=0:=by
 unfold Yw
 rw[if_pos hr,if_pos (Zft h),if_pos]
 intro x hx
 obtain⟨i,a0,rfl⟩:=List.mem_iff_getElem.1 hx
 have hl:(Ya l no).length=Zt (inB l no):=by simp[Ya,Yx]
 have:=hk i (by omega)
 rw[show(Ya l no).getD i 0=(Ya l no)[i] by simp[List.getD,a0]] at this
 exact Pm.1 this
theorem Zb6{l:Bl}{no tree lo hi:Int}{i:Nat}(hn:i<Zt (inB l no))(hk:Dy lo hi ((Ya l no).getD i 0)=false):Yw lo hi (Ya l no)≠0:=by
 intro h
 have hl:(Ya l no).length=Zt (inB l no):=by simp[Ya,Yx]
 have h2:=(Hi h).2.2 ((Ya l no)[i]'(by omega)) (List.getElem_mem _)
 rw[show(Ya l no).getD i 0=(Ya l no)[i]'(by omega) by simp[List.getD,show i<(Ya l no).length by omega]] at hk
 exact absurd (Pm.2 h2) (by rw[hk];decide)
theorem Zey{lo hi:Int}{L:List Int}(hf:Yw lo hi L=0){i:Nat}(h:i<L.length):Qw (Xg hi L i).1 (Xg hi L i).2=true:=by
 obtain⟨h1,h2,h3,_⟩:=Ho hf h
 have hr:=of_decide_eq_true (Hi hf).1
 exact decide_eq_true ⟨by omega,by omega,by omega⟩
end Go.Proofs.YtegcamkgeacjfaaGreatDoor
namespace Go.Proofs.YtegcamkgeacjfaaGreatDoor
set_option maxHeartbeats 8000000
set_option maxRecDepth 100000
open Go.RowKit
set_option linter.unusedVariables false
theorem Wy(lo hi k:Int)(w:World):C0 210 #[spanV lo hi,V0 k] w (Ret (.bool (Dy lo hi k)) w):=by
 unfold spanV
 go_enter Tryz.func210,Tryz.ntmps210
 go_wp2
 all_goals go_ret
 all_goals refine⟨?_,blx _ _⟩
 all_goals (unfold Dy;congr 2;simp;omega)
theorem Pq(lo hi:Int)(w:World):C0 264 #[spanV lo hi] w (Ret (.bool (Qw lo hi)) w):=by
 unfold spanV
 go_enter Tryz.func264,Tryz.ntmps264
 go_wp2_with fail
 all_goals go_ret
 all_goals refine⟨?_,blx _ _⟩
 all_goals (unfold Qw;congr 2;simp[*];try omega)
theorem fits_all{lo hi:Int}{l:List Int}(h:Qw lo hi=true)(hs:Vv l)(ha:∀ j:Nat,j<l.length→∀ x,l[j]? = some x→Dy lo hi x=true):Yw lo hi l=0:=by
 have a0:∀ k∈l,lo≤k∧k<hi:=fun k hk=>by
  obtain⟨i,a1,rfl⟩:=List.mem_iff_getElem.1 hk
  exact Pm.1 (ha i a1 _ (by simp))
 simp only[Yw,h,if_true,hs]
 rw[if_pos a0]
theorem Tj(lo hi:Int)(v:Value)(l:List Int)(w:World)(hl:Ints w v l) :
 C0 212 #[spanV lo hi,v] w (Ret (V0 (Yw lo hi l)) w):=by
 have a7:=hl
 obtain⟨a,c,rfl⟩:=hl.slice
 by_cases hr:Qw lo hi=true
 case neg =>
  have b1:Qw lo hi=false:=by simpa using hr
  unfold spanV
  go_enter Tryz.func212,Tryz.ntmps212
  go_wp2_with fail
  refine(Pq _ _ _).mono ?_
  rintro e w' ⟨rfl,hb⟩
  go_wp2_with fail
  go_ret
  exact⟨by rw[Rd b1];rfl,bln (blx w _) hb⟩
 unfold spanV
 go_enter Tryz.func212,Tryz.ntmps212
 go_wp2_with fail
 refine(Pq _ _ _).mono ?_
 rintro e w' ⟨rfl,hb⟩
 have k0:=Blk.below (Blk.new w [V0 lo,V0 hi] 214) hb
 have z0:=k0.lt
 have hB:=bln (blx w _) hb
 have a4:=hl.below hB
 clear hb hl a7
 have HC:Hid (∀ (j:Nat) x,l[j]? = some x→∃ b a0,a=some ⟨b,a0,none⟩∧w'.cell? ⟨b,a0+j,none⟩=some (V0 x)):=by
  intro j x hj
  rcases a4 with ⟨_,_,_,h2,_⟩|⟨b,a0,b0,h1,_,_,h4⟩
  ·rw[List.length_eq_zero_iff.1 h2] at hj;simp at hj
  ·simp only[Value.slice.injEq] at h1
   exact⟨b,a0,h1.1,h4 j _ (by simp[hj])⟩
 have a8:l.length≤9223372036854775807:=by
  rcases a4 with ⟨_,_,_,h2,_⟩|⟨b,a0,b0,h1,h2,h3,_⟩
  ·omega
  ·unfold maxLen at h3;omega
 clear a4
 go_wp2_with fail
 go_loopw [5] (fun i wr=>∃ k:Nat,1≤k∧i=V0 k∧Vv (l.take k)∧Below w'.heap.size w' wr) (fun i _=>l.length-(intOf i).toNat)
 case atStart=>exact⟨1,by omega,rfl,Vv.one l,Below.refl _ _⟩
 case round =>
  obtain⟨k,a9,rfl,hs,a3⟩:=hrel
  have HS:=Lib.hid hs;clear hs
  by_cases hlt:k<l.length
  ·obtain⟨x,hx⟩:∃ x,l[k-1]? = some x:=⟨l[k-1],by simp⟩
   obtain⟨y,hy⟩:∃ y,l[k]? = some y:=⟨l[k],by simp⟩
   obtain⟨b,a0,rfl,a2⟩:=HC.out _ _ hx
   obtain⟨b',a6,e',a5⟩:=HC.out _ _ hy
   simp only[Option.some.injEq,Addr.mk.injEq] at e'
   obtain⟨rfl,rfl,_⟩:=e'
   have a2:=Nb a3 a2
   have a5:=Nb a3 a5
   have HX:=Lib.hid hx;clear hx
   have HY:=Lib.hid hy;clear hy
   go_wp2_with fail
   go_quiet (fail)
   go_wp2_with fail
   ·go_ret
    exact⟨by rw[Fk hr a9 HX.out HY.out (by assumption)];rfl,bln hB (blD a3 _)⟩
   ·go_roundw
    case rel=>exact⟨k+1,by omega,by go_num,HS.out.succ HX.out HY.out (by assumption),blD a3 _⟩
    case measure=>simp[intOf];omega
  ·have HA:=Lib.hid (HS.out.all (show l.length≤k by omega));clear HS
   go_wp2_with fail
   go_loopw [6] (fun i w2=>∃ j:Nat,i=V0 j∧(∀ q:Nat,q<j→∀ x,l[q]? = some x→Dy lo hi x=true)∧Below w'.heap.size w' w2) (fun i _=>l.length-(intOf i).toNat)
   case atStart=>exact⟨0,rfl,by omega,a3⟩
   case round =>
    obtain⟨j,rfl,hj,a1⟩:=hrel
    have HJ:=Lib.hid hj;clear hj
    by_cases hlt2:j<l.length
    ·obtain⟨x,hx⟩:∃ x,l[j]? = some x:=⟨l[j],by simp⟩
     obtain⟨b,a0,rfl,a2⟩:=HC.out _ _ hx
     have a2:=Nb a1 a2
     have k2:=k0.below a1
     have e0:∀ z:Ext wr,z.val.cell? ⟨w.heap.size,0,none⟩=some (V0 lo):=fun z=>z.get (k2.cell (i:=0) rfl)
     have e1:∀ z:Ext wr,z.val.cell? ⟨w.heap.size,1,none⟩=some (V0 hi):=fun z=>z.get (k2.cell (i:=1) rfl)
     have e2:∀ z:Ext wr,z.val.cell? ⟨b,a0+j,none⟩=some (V0 x):=fun z=>z.get a2
     have HX:=Lib.hid hx;clear hx
     by_cases ha:Dy lo hi x=true
     ·go_wp2_with fail
      refine Va (by kernel_rfl) (by kernel_rfl) ?_
      repeat (go_big_quiet_step (exact Ret.ext (Wy _ _ _ _)))
      refine wpQuiet_nil ?_
      intro wx
      go_wp2_with fail
      go_roundw
      case rel =>
       refine⟨j+1,by go_num,fun q hq y hy=>?_,a1.trans (wx.below.mono a1.size)⟩
       by_cases hqj:q=j
       ·subst hqj;rw[HX.out] at hy;cases hy;exact ha
       ·exact HJ.out q (by omega) y hy
      case measure=>simp[intOf];omega
     ·have ha:Dy lo hi x=false:=by simpa using ha
      go_wp2_with fail
      refine Va (by kernel_rfl) (by kernel_rfl) ?_
      repeat (go_big_quiet_step (exact Ret.ext (Wy _ _ _ _)))
      refine wpQuiet_nil ?_
      intro wx
      go_wp2_with fail
      go_ret
      exact⟨by rw[Rz hr HA.out HX.out ha];rfl,bln (bln hB a1) wx.below⟩
    ·go_wp2_with fail
     go_ret
     exact⟨by rw[fits_all hr HA.out (fun q hq=>HJ.out q (by omega))];rfl,bln hB a1⟩
theorem Kf{w:World}{B2:Nat}{a b c:Int}{t2:TypeId}(h2:Blk w B2 [V0 a,V0 b] t2){tmps:Array Value}
 (e2:tmps.getD 6 undef=P0 B2) (e3:tmps.getD 7 undef=V0 c) :
 (results Tryz.f118 tmps).run Tryz.prog w=.ok (.tuple #[spanV a b,V0 c]) w:=by
 have a1:=h2.cell (i:=0) rfl
 have a0:=h2.cell (i:=1) rfl
 have a3:tmps[6]?.getD undef=P0 B2:=by simpa using e2
 have a2:tmps[7]?.getD undef=V0 c:=by simpa using e3
 simp[results,Tryz.results118,go_sem,a1,a0,a3,a2,spanV]
theorem Hn{w w':World}{B:Nat}(h:B0 w w')(hB:w.heap.size≤B){i j:Nat}{x y:Value} :
 B0 w ((w'.setCell ⟨B,i,none⟩ x).setCell ⟨B,j,none⟩ y):=(h.setCell hB _).setCell hB _
theorem Hu(lo hi i:Int)(v:Value)(l:List Int)(w:World)(hi64 : -9223372036854775808≤i∧i≤9223372036854775807)(hlen:l.length≤1000000)(hl:Ints w v l) :
 C0 118 #[spanV lo hi,v,V0 i] w (Ret (.tuple #[spanV (Pp lo hi l i).1.1 (Pp lo hi l i).1.2,V0 (Pp lo hi l i).2]) w):=by
 obtain⟨a,c,rfl⟩:=hl.slice
 unfold spanV
 go_enter Tryz.func118,Tryz.ntmps118
 go_wp2_with fail
 refine(Tj lo hi _ l _ (hl.below ?_)).mono ?_
 ·exact bln (blx _ _) (blx _ _)
 rintro e w' ⟨rfl,hb⟩
 have k0:=Blk.below ((Blk.new w [V0 lo,V0 hi] 214).alloc (.cells #[V0 0,V0 0] 214)) hb
 have k1:=Blk.below (Blk.new (w.alloc (.cells #[V0 lo,V0 hi] 214)) [V0 0,V0 0] 214) hb
 simp only[World.size_alloc] at k1
 have hB:B0 w w':=bln (bln (blx _ _) (blx _ _)) hb
 have a3:=hl.below hB
 clear hb hl
 have z0:=k0.lt
 have z1:=k1.lt
 have b1:=k0.cell (i:=0) rfl
 have a8:=k0.cell (i:=1) rfl
 have b6:=k1.cell (i:=0) rfl
 have a9:=k1.cell (i:=1) rfl
 have b5:=k1.frozen 0
 have a6:=k1.frozen 1
 by_cases hf:Yw lo hi l=0
 case neg =>
  have a4:(Yw lo hi l != 0)=true:=by simpa using hf
  have HF:=Lib.hid (child_bad (i:=i) hf);clear hf
  go_wp2_with fail
  refine bodyPost_ret (Kf ((k1.set 0 _).set 1 _) rfl rfl) rfl ?_
  rw[HF.out]
  exact⟨rfl,Hn hB (by omega)⟩
 have a4:(Yw lo hi l != 0)=false:=by simpa using hf
 have HF:=Lib.hid hf;clear hf
 by_cases hin:0≤i∧i<l.length
 case neg =>
  have HO:=Lib.hid (Zgb HF.out hin)
  by_cases h0:i<0
  ·have d0:decide (i<0)=true:=by simpa using h0
   go_wp2_with fail
   refine bodyPost_ret (Kf ((k1.set 0 _).set 1 _) rfl rfl) rfl ?_
   rw[HO.out]
   exact⟨rfl,Hn hB (by omega)⟩
  ·have d0:decide (i<0)=false:=by simpa using h0
   have d1:decide ((l.length:Int)≤i)=true:=by simp;omega
   go_wp2_with fail
   refine bodyPost_ret (Kf ((k1.set 0 _).set 1 _) rfl rfl) rfl ?_
   rw[HO.out]
   exact⟨rfl,Hn hB (by omega)⟩
 obtain⟨h1,h2⟩:=hin
 obtain⟨q,rfl⟩:=Int.eq_ofNat_of_zero_le h1
 have hq:q<l.length:=by omega
 have HO:=Lib.hid (Bm HF.out hq)
 have d0:decide ((q:Int)<0)=false:=by simp
 have d1:decide ((l.length:Int)≤(q:Int))=false:=by simp;omega
 rcases a3 with ⟨_,_,_,h3,_⟩|⟨b,b2,a7,h3,h4,h5,h6⟩
 ·omega
 simp only[Value.slice.injEq] at h3
 obtain⟨rfl,_,rfl⟩:=h3
 obtain⟨x,hx⟩:∃ x,l[q]? = some x:=⟨l[q],by simp⟩
 have b0:=h6 q (V0 x) (by simp[hx])
 by_cases hlast:q+1=l.length
 ·have dl:((q:Int)+1==(l.length:Int))=true:=by simp;omega
  have hp:Xg hi l q=(x,hi):=by unfold Xg;rw[hx,hlast];simp
  have HP:=Lib.hid hp;clear hp
  have HX:=Lib.hid hx;clear hx
  clear hlast h6
  go_wp2_with fail
  go_still_tail 7,(by kernel_rfl)
  change wpList _ _ _ _ _ w'.drew
  go_wp2_with fail
  have a0:Blk (((w'.setCell ⟨w.heap.size+1,0,none⟩ (V0 x)).setCell ⟨w.heap.size+1,1,none⟩ (V0 hi)).drew) (w.heap.size+1) [V0 x,V0 hi] 214:=(k1.set 0 _).set 1 _
  refine bodyPost_ret (Kf a0 rfl rfl) rfl ?_
  rw[HO.out,HP.out]
  exact⟨rfl,(Hn hB (by omega)).drew⟩
 ·have dl:((q:Int)+1==(l.length:Int))=false:=by simp;omega
  obtain⟨y,hy⟩:∃ y,l[q+1]? = some y:=⟨l[q+1],by simp⟩
  have b3:=h6 (q+1) (V0 y) (by simp[hy])
  have hp:Xg hi l q=(x,y):=by unfold Xg;rw[hx,hy];rfl
  have b4:q+1<l.length:=by omega
  have HP:=Lib.hid hp;clear hp
  have HX:=Lib.hid hx;clear hx
  have HY:=Lib.hid hy;clear hy
  clear hlast h6
  go_wp2_with fail
  have hw:IntKind.i64.wrap ((q:Int)+1)=(q:Int)+1:=IntWalk.i64_in _ (by omega)
  have a1:((q:Int)+1).toNat=q+1:=by omega
  have a5:(0:Int)≤(q:Int)+1:=by omega
  have a2:(q:Int)+1<(l.length:Int):=by omega
  go_still_tail 10,(by kernel_rfl)
  change wpList _ _ _ _ _ w'.drew
  clear hw a1 a5 a2
  go_wp2_with fail
  have a0:Blk (((w'.setCell ⟨w.heap.size+1,0,none⟩ (V0 x)).setCell ⟨w.heap.size+1,1,none⟩ (V0 y)).drew) (w.heap.size+1) [V0 x,V0 y] 214:=(k1.set 0 _).set 1 _
  refine bodyPost_ret (Kf a0 rfl rfl) rfl ?_
  rw[HO.out,HP.out]
  exact⟨rfl,(Hn hB (by omega)).drew⟩
end Go.Proofs.YtegcamkgeacjfaaGreatDoor
namespace Go.Proofs.YtegcamkgeacjfaaGreatDoor
set_option maxHeartbeats 8000000
set_option maxRecDepth 100000
open Go.RowKit Go.Extern.Stop Go.Stop Go.Extern
set_option linter.unusedVariables false
section
variable {P:Program} {fn:Func} {R:Ending→World→Prop} {w:World} {s:Zs}
def BlksOf(w:World):List (Nat×List Value)→Prop
 | []=>True
 | p::r=>(∃ t,Blk w p.1 p.2 t)∧BlksOf w r
noncomputable def zrlm (P:Program) (n:Nat) (kv:List (Nat×Value)) (l:List ResultVar):List (List Value)→Option (List Nat×List Value):=List.rec (motive:=fun _=>List (List Value)→Option (List Nat×List Value)) (fun _=>some ([],[])) (fun r _ ih css=>match r with
 | .tmp t=>match ih css with
  | some r=>some (r.1,zget n kv t::r.2)
  | none=>none
 | .cell k t=>match css with
  | []=>none
  | p::css'=>match zget n kv k with
   | .pointer (some ⟨b,off,sp⟩)=>match sp with
    | none=>match Nat.beq off 0&&(zrow P t&&zsz P t p.length) with
     | true=>match ih css' with
      | some r=>some (b::r.1,.agg p.toArray::r.2)
      | none=>none
     | false=>none
    | some _=>none
   | _=>none) l
theorem Rn(n:Nat)(kv:List (Nat×Value))(w:World):∀ (l:List ResultVar) (css:List (Nat×List Value)) (vs:List Value),BlksOf w css→zrlm P n kv l (css.map Prod.snd)=some (css.map Prod.fst,vs)→(l.mapM (zrf (zact n kv).tmps)).run P w=.ok vs w
  | [],css,vs,_,h=>by
    have h':some (([]:List Nat),([]:List Value))=some (css.map Prod.fst,vs):=h
    simp only[Option.some.injEq,Prod.mk.injEq] at h'
    rw[←h'.2];rfl
  | r :: l, css, vs, hb, h => by
    rw[List.mapM_cons]
    cases r with
    | tmp t =>
      have h':(match zrlm P n kv l (css.map Prod.snd) with|some r=>some (r.1,zget n kv t::r.2)|none=>none)=some (css.map Prod.fst,vs):=h
      split at h'
      · rename_i r' hv
        simp only[Option.some.injEq,Prod.mk.injEq] at h'
        obtain⟨h1,rfl⟩:=h'
        have a1:zrlm P n kv l (css.map Prod.snd)=some (css.map Prod.fst,r'.2):=by rw[hv,←h1]
        simp only[zrf,Sem.run_bind,Sem.run_pure,Result.andThen_ok,Rn n kv w l css r'.2 hb a1,Ha]
      · cases h'
    | cell k t' =>
      cases css with
      | nil=>cases h
      | cons p css =>
      have h':(match zget n kv k with
      | .pointer (some ⟨b,a0,sp⟩)=>match sp with
        | none=>match Nat.beq a0 0&&(zrow P t'&&zsz P t' p.2.length) with
          | true=>match zrlm P n kv l (css.map Prod.snd) with
            | some r=>some (b::r.1,.agg p.2.toArray::r.2)
            | none=>none
          | false=>none
        | some _=>none
      | _=>none)=some (p.1::css.map Prod.fst,vs):=h
      split at h'
      · rename_i b' a0 sp a2
        cases sp with
        | some _=>cases h'
        | none =>
          dsimp only at h'
          split at h'
          · rename_i hc
            simp only[Bool.and_eq_true] at hc
            split at h'
            · rename_i r' hv
              simp only[Option.some.injEq,Prod.mk.injEq,List.cons.injEq] at h'
              obtain⟨⟨rfl,h1⟩,rfl⟩:=h'
              obtain⟨⟨t,kb⟩,a3⟩:=hb
              have a1:zrlm P n kv l (css.map Prod.snd)=some (css.map Prod.fst,r'.2):=by rw[hv,←h1]
              obtain rfl:a0=0:=Nat.eq_of_beq_eq_true hc.1
              have hu:=hc.2.1
              unfold zrow at hu
              split at hu
              · rename_i d hd
                have hl:=run_loadVar_mid (P:=P) w p.1 0 t' p.2 d kb.whole hd hu (Ay hc.2.2)
                have e:(zact n kv).tmps.getD k undef=.pointer (some ⟨p.1,0,none⟩):=by rw[Ha];exact a2
                simp only[zrf,e,asAddr,Sem.run_bind,Sem.run_pure,Result.andThen_ok,hl,Rn n kv w l css r'.2 a3 a1]
              · cases hu
            · cases h'
          · cases h'
      · cases h'
noncomputable def zresm (P:Program) (s:Zs) (fn:Func) (css:List (List Value)):Option (List Nat×Value):=match zfin s with
 | true=>match zrlm P s.n s.kv fn.results.toList css with
  | some r=>some (r.1,zvs r.2)
  | none=>none
 | false=>none
theorem Ex(q:Zq)(css:List (Nat×List Value))(hb:BlksOf w css)(v:Value)(hR:R (.returned v) w)(h:zresm P (zq P q s) fn (css.map Prod.snd)=some (css.map Prod.fst,v):=by kernel_rfl):Go P fn R s w:=by
 refine Zz q s ?_
 unfold zresm at h
 split at h
 ·rename_i hf
  split at h
  ·rename_i r hv
   simp only[Option.some.injEq,Prod.mk.injEq] at h
   obtain⟨h1,rfl⟩:=h
   have hv:zrlm P (zq P q s).n (zq P q s).kv fn.results.toList (css.map Prod.snd)=some (css.map Prod.fst,r.2):=by rw[hv,←h1]
   exact Zaf hf (Ws (Rn _ _ _ _ _ _ hb hv)) hR
  ·cases h
 ·cases h
end
end Go.Proofs.YtegcamkgeacjfaaGreatDoor
namespace Go.Proofs.YtegcamkgeacjfaaGreatDoor
set_option maxHeartbeats 8000000
set_option maxRecDepth 100000
open Go.RowKit Go.Extern.Stop Go.Stop Go.Extern
set_option linter.unusedVariables false
attribute [local irreducible] wpList wpAnyH Code.wp Oper.wp Go
theorem ref08_inB(n lo hi:Int)(w:World) :
 C0 177 #[V0 n,V0 lo,V0 hi] w (Ret (.bool (decide (lo≤n∧n≤hi))) w):=by
 refine zin 15 Tryz.func177 ?_
 refine xg 11 [9,10] (decide (n≥lo)) (fun a0=>?_) (fun a0=>?_)
 ·have a0:=of_decide_eq_true a0
  exact xe 8 (.bool (decide (n≤hi))) ⟨by rw[show decide (lo≤n∧n≤hi)=decide (n≤hi) from by simp;omega],(B1 w)⟩
 have a0:=of_decide_eq_false a0
 exact xe 8 (.bool false) ⟨by rw[show decide (lo≤n∧n≤hi)=false from decide_eq_false (by omega)],(B1 w)⟩
theorem Zc2(s:Bl)(lo hi:Int)(w:World)(hs:s.length≤1000) :
 C0 211 #[.string ⟨s.toArray⟩,V0 lo,V0 hi] w (Ret (.tuple #[V0 (if s.length=4∧lo≤(Zl s 0 4:Int)∧(Zl s 0 4:Int)≤hi then(Zl s 0 4:Int) else 0),V0 (if s.length=4 then(if lo≤(Zl s 0 4:Int)∧(Zl s 0 4:Int)≤hi then 0 else 2) else 7)]) w):=by
 refine zin 25 Tryz.func211 ?_
 refine xin 14 (s.length:Int) (4:Int) (fun a6=>?_) (fun a6=>?_)
 ·refine xe 8 (.tuple #[V0 0,V0 7]) ?_
  rw[if_neg (by omega),if_neg (by omega)];exact⟨rfl,(B1 w)⟩
 refine xcf 5 fun _ _ _ zJ zQ zo zx zK=>Vf s zo zx Tryz.underlying9 Tryz.underlying40 Tryz.underlying5 (by omega) ?_
 intro bz cz W2 a2 a5
 refine zK _ _ ?_
 refine xr 0 (args:=#[.slice (S1 bz) s.length cz,V0 0,V0 4]) (Rm (S1 bz) s.length cz 0 4 0 4 s _ rfl rfl rfl (by decide) (by omega) (by omega) a5) fun W3 a3=>?_
 refine xr 13 (args:=#[V0 (↑(Zl s 0 4):Int),V0 lo,V0 hi]) (ref08_inB (↑(Zl s 0 4):Int) lo hi _) fun W4 a4=>?_
 refine xi 3 (!(decide (lo≤(Zl s 0 4:Int)∧(Zl s 0 4:Int)≤hi))) (fun a1=>?_) (fun a1=>?_)
 ·have a0:¬ (lo≤(Zl s 0 4:Int)∧(Zl s 0 4:Int)≤hi):=fun q=>absurd a1 (by rw[decide_eq_true q];decide)
  have hB:=bln (bln a2 a3) a4
  refine xe 8 (.tuple #[V0 0,V0 2]) ?_
  rw[if_neg fun q=>a0 q.2,if_pos (by omega),if_neg a0];exact⟨rfl,hB⟩
 have a0:lo≤(Zl s 0 4:Int)∧(Zl s 0 4:Int)≤hi:=Decidable.byContradiction fun q=>absurd a1 (by rw[decide_eq_false q];decide)
 have hB:=bln (bln a2 a3) a4
 refine xe 10 (.tuple #[V0 (↑(Zl s 0 4):Int),V0 0]) ?_
 rw[if_pos ⟨by omega,a0⟩,if_pos (by omega),if_pos a0];exact⟨rfl,hB⟩
theorem Ev(s:Bl)(w:World)(hs:s.length≤1000) :
 C0 211 #[.string ⟨s.toArray⟩,V0 1,V0 14399] w (Ret (.tuple #[V0 (Zo s:Int),V0 (Xo s)]) w):=by
 refine(Zc2 s 1 14399 w hs).mono ?_
 rintro e W ⟨rfl,hb⟩
 refine⟨?_,hb⟩
 have e1:(if s.length=4 then(if(1:Int)≤(Zl s 0 4:Int)∧(Zl s 0 4:Int)≤14399 then(0:Int) else 2) else 7)=Xo s:=by
  unfold Xo
  by_cases h:s.length=4
  ·rw[if_pos h,if_pos h]
   by_cases q:1≤Zl s 0 4∧Zl s 0 4≤14399
   ·rw[if_pos q,if_pos ⟨by omega,by omega⟩]
   ·rw[if_neg q,if_neg (by omega)]
  ·rw[if_neg h,if_neg h]
 have e2:(if s.length=4∧(1:Int)≤(Zl s 0 4:Int)∧(Zl s 0 4:Int)≤14399 then(Zl s 0 4:Int) else 0)=(Zo s:Int):=by
  unfold Zo
  rw[←e1]
  by_cases h:s.length=4
  ·rw[if_pos h]
   by_cases q:(1:Int)≤(Zl s 0 4:Int)∧(Zl s 0 4:Int)≤14399
   ·rw[if_pos ⟨h,q⟩,if_pos q,if_pos rfl]
   ·rw[if_neg fun x=>q x.2,if_neg q,if_neg (by decide)];rfl
  ·rw[if_neg fun x=>h x.1,if_neg h,if_neg (by decide)];rfl
 rw[e1,e2]
theorem Hr(s:Bl)(w:World)(hs:s.length≤1000) :
 C0 117 #[.string ⟨s.toArray⟩] w (Ret (.tuple #[V0 (Zo s:Int),V0 (Xo s)]) w):=by
 refine zin 8 Tryz.func117 ?_
 refine xr 9 (args:=#[.string ⟨s.toArray⟩,V0 1,V0 14399]) (Ev s _ hs) fun W1 a0=>?_
 exact xe 7 (.tuple #[V0 (↑(Zo s):Int),V0 (Xo s)]) ⟨rfl,a0⟩
theorem Qc(no er:Int)(w:World)(he:er≠0):C0 106 #[V0 no,V0 er] w (Ko (fun w' r=>∃ a c,r=.agg #[.slice a 1 c,V0 er]∧w'.ownsRow w.heap.size 3 1 (.slice a 1 c) 1 [V0 no]) w):=by
 refine(ref11_At no er w).mono ?_
 rintro e W ⟨a,c,rfl,hb,ho⟩
 rw[fltL_nz he] at ho ⊢
 exact⟨_,rfl,hb,a,c,rfl,ho⟩
theorem Vl(L:List Int):∀ u∈L.map V0,u.oneCell'=true:=by intro u hu;obtain⟨x,_,rfl⟩:=List.mem_map.1 hu;rfl
theorem Zgd(no er:Int)(a:O0)(n c:Nat)(L:List Int)(w:World)(he:er≠0)(hL:L.length=n)(hn:n≤1000000)(hS:Sl w (.slice a n c) n (L.map V0)) :
 C0 197 #[V0 no,.agg #[.slice a n c,V0 er]] w (Ko (fun w' r=>∃ p c2,r=.agg #[.slice p (n+1) c2,V0 er]∧w'.ownsRow w.heap.size 3 1 (.slice p (n+1) c2) (n+1) ((no::L).map V0)) w):=by
 refine zin 17 Tryz.func197 ?_
 refine xa 2 [.slice a n c,V0 er] 35 fun b1 W1 n1=>?_
 refine xa 0 [S0,V0 0] 35 fun b2 W2 n2=>?_
 have h3:=n2.ne n1.blk
 have a0:=n1.blk.below n2.below
 refine xb 6 1 a0 ?_
 refine xk 3 (show((er==(0:Int)):Bool)=false from beq_false_of_ne he) ?_
 refine xd 3 (.t w.heap.size [3,35]) ?_
 refine xm3 (.b [0,2,5]) 1 3 6 ?_ ?_ ?_
 ·refine xbs 0 1 [V0 no] 3 fun b3 W3 n3=>?_
  refine xm2 0 3 6 ?_ ?_
  ·have a5:=(a0.below (Za W2)).below n3.below
   refine xb 0 0 a5 ?_
   refine xm2 0 4 6 ?_ ?_
   ·have g3:=n3.ge (bln (bln n1.below n2.below) (Za W2))
    have o4:=Xc (size:=1) (n:=1) n3.blk g3 rfl (by decide)
    have hB:=bln (bln (bln n1.below n2.below) (Za W2)) n3.below
    refine ybi 0 (.t w.heap.size [3,35]) fun _ _ _ _ zJ zQ zo zx zy zK=>Zw (m:=n) (news:=(L.map V0)) (V0 0) 1 8 ((n+1)) (((no::L).map V0)) zo Tryz.underlying33 (by kernel_rfl) rfl (by decide) zx o4 zy (hS.below hB) (by simp[hL]) (Vl L) (by unfold maxLen;omega) (by omega) hB.size (by omega) (by rfl) fun h9 i0 W5 o5 f3 h5=>?_
    refine zK _ _ (Zu h5 f3 o4 (by decide)) ?_
    have g9:=a5.grown f3 o4 (by decide)
    refine xb (.o [] 6) 1 g9 ?_
    have k2:=((n2.blk.below (Za W2)).below n3.below).grown f3 o4 (by decide)
    have g2:=n2.ge n1.below
    refine ysv (.o [7] 8) k2 [.slice h9 (n+1) i0,V0 er] (.t w.heap.size [3,35]) fun W6 u6 k6=>⟨(Zp u6 k2 g2 (by decide)),?_⟩
    have g8:=u6.below (hB.trans h5) g2
    have e5:=u6.own2 o5 k2 (by decide)
    exact xec 3 k6 (.agg #[.slice h9 (n+1) i0,V0 er]) ⟨_,rfl,g8,_,_,rfl,e5⟩
   refine xb 0 1 a5 ?_
   have g3:=n3.ge (bln (bln n1.below n2.below) (Za W2))
   have o7:=Xc (size:=1) (n:=1) n3.blk g3 rfl (by decide)
   have hB:=bln (bln (bln n1.below n2.below) (Za W2)) n3.below
   refine ybi (.o [] 4) (.t w.heap.size [3,35]) fun _ _ _ _ zJ zQ zo zx zy zK=>Zw (m:=n) (news:=(L.map V0)) (V0 0) 1 8 ((n+1)) (((no::L).map V0)) zo Tryz.underlying33 (by kernel_rfl) rfl (by decide) zx o7 zy (hS.below hB) (by simp[hL]) (Vl L) (by unfold maxLen;omega) (by omega) hB.size (by omega) (by rfl) fun h4 h8 W8 o8 h7 h6=>?_
   refine zK _ _ (Zu h6 h7 o7 (by decide)) ?_
   have k2:=((n2.blk.below (Za W2)).below n3.below).grown h7 o7 (by decide)
   have g2:=n2.ge n1.below
   refine ysv (.o [7] 8) k2 [.slice h4 (n+1) h8,V0 er] (.t w.heap.size [3,35]) fun W9 u9 k9=>⟨(Zp u9 k2 g2 (by decide)),?_⟩
   have f0:=u9.below (hB.trans h6) g2
   have g6:=u9.own2 o8 k2 (by decide)
   exact xec 3 k9 (.agg #[.slice h4 (n+1) h8,V0 er]) ⟨_,rfl,f0,_,_,rfl,g6⟩
  have b7:=(a0.below (Za W2)).below n3.below
  refine xb 0 1 b7 ?_
  refine xb (.o [] 3) 0 b7 ?_
  have g3:=n3.ge (bln (bln n1.below n2.below) (Za W2))
  have f1:=Xc (size:=1) (n:=1) n3.blk g3 rfl (by decide)
  have hB:=bln (bln (bln n1.below n2.below) (Za W2)) n3.below
  refine ybi (.o [] 4) (.t w.heap.size [3,35]) fun _ _ _ _ zJ zQ zo zx zy zK=>Zw (m:=n) (news:=(L.map V0)) (V0 0) 1 8 ((n+1)) (((no::L).map V0)) zo Tryz.underlying33 (by kernel_rfl) rfl (by decide) zx f1 zy (hS.below hB) (by simp[hL]) (Vl L) (by unfold maxLen;omega) (by omega) hB.size (by omega) (by rfl) fun b5 d4 k7 i8 c7 c9=>?_
  refine zK _ _ (Zu c9 c7 f1 (by decide)) ?_
  have k2:=((n2.blk.below (Za W2)).below n3.below).grown c7 f1 (by decide)
  have g2:=n2.ge n1.below
  refine ysv (.o [7] 8) k2 [.slice b5 (n+1) d4,V0 er] (.t w.heap.size [3,35]) fun k0 f7 j5=>⟨(Zp f7 k2 g2 (by decide)),?_⟩
  have f6:=f7.below (hB.trans c9) g2
  have d2:=f7.own2 i8 k2 (by decide)
  exact xec 3 j5 (.agg #[.slice b5 (n+1) d4,V0 er]) ⟨_,rfl,f6,_,_,rfl,d2⟩
 ·have a2:=a0.below (Za W2)
  refine xb 0 0 a2 ?_
  refine xm2 0 1 6 ?_ ?_
  ·refine xbs 0 1 [V0 no] 3 fun l2 k8 a1=>?_
   refine xm2 0 4 6 ?_ ?_
   ·have g4:=a1.ge (bln (bln n1.below n2.below) (Za W2))
    have e2:=Xc (size:=1) (n:=1) a1.blk g4 rfl (by decide)
    have hB:=bln (bln (bln n1.below n2.below) (Za W2)) a1.below
    refine ybi 0 (.t w.heap.size [3,35]) fun _ _ _ _ zJ zQ zo zx zy zK=>Zw (m:=n) (news:=(L.map V0)) (V0 0) 1 8 ((n+1)) (((no::L).map V0)) zo Tryz.underlying33 (by kernel_rfl) rfl (by decide) zx e2 zy (hS.below hB) (by simp[hL]) (Vl L) (by unfold maxLen;omega) (by omega) hB.size (by omega) (by rfl) fun a6 c4 l4 i6 a4 d0=>?_
    refine zK _ _ (Zu d0 a4 e2 (by decide)) ?_
    have g1:=(a2.below a1.below).grown a4 e2 (by decide)
    refine xb (.o [] 6) 1 g1 ?_
    have k2:=((n2.blk.below (Za W2)).below a1.below).grown a4 e2 (by decide)
    have g2:=n2.ge n1.below
    refine ysv (.o [7] 8) k2 [.slice a6 (n+1) c4,V0 er] (.t w.heap.size [3,35]) fun j7 e4 i5=>⟨(Zp e4 k2 g2 (by decide)),?_⟩
    have h1:=e4.below (hB.trans d0) g2
    have b8:=e4.own2 i6 k2 (by decide)
    exact xec 3 i5 (.agg #[.slice a6 (n+1) c4,V0 er]) ⟨_,rfl,h1,_,_,rfl,b8⟩
   have f9:=a2.below a1.below
   refine xb 0 1 f9 ?_
   have g4:=a1.ge (bln (bln n1.below n2.below) (Za W2))
   have e9:=Xc (size:=1) (n:=1) a1.blk g4 rfl (by decide)
   have hB:=bln (bln (bln n1.below n2.below) (Za W2)) a1.below
   refine ybi (.o [] 4) (.t w.heap.size [3,35]) fun _ _ _ _ zJ zQ zo zx zy zK=>Zw (m:=n) (news:=(L.map V0)) (V0 0) 1 8 ((n+1)) (((no::L).map V0)) zo Tryz.underlying33 (by kernel_rfl) rfl (by decide) zx e9 zy (hS.below hB) (by simp[hL]) (Vl L) (by unfold maxLen;omega) (by omega) hB.size (by omega) (by rfl) fun b6 b9 l1 i2 c5 d3=>?_
   refine zK _ _ (Zu d3 c5 e9 (by decide)) ?_
   have k2:=((n2.blk.below (Za W2)).below a1.below).grown c5 e9 (by decide)
   have g2:=n2.ge n1.below
   refine ysv (.o [7] 8) k2 [.slice b6 (n+1) b9,V0 er] (.t w.heap.size [3,35]) fun l7 g7 i1=>⟨(Zp g7 k2 g2 (by decide)),?_⟩
   have f5:=g7.below (hB.trans d3) g2
   have a9:=g7.own2 i2 k2 (by decide)
   exact xec 3 i1 (.agg #[.slice b6 (n+1) b9,V0 er]) ⟨_,rfl,f5,_,_,rfl,a9⟩
  refine xb 0 1 a2 ?_
  refine xbs (.o [] 1) 1 [V0 no] 3 fun k4 l6 e1=>?_
  have i4:=e1.ge (bln (bln n1.below n2.below) (Za W2))
  have g0:=Xc (size:=1) (n:=1) e1.blk i4 rfl (by decide)
  have hB:=bln (bln (bln n1.below n2.below) (Za W2)) e1.below
  refine ybi (.o [] 4) (.t w.heap.size [3,35]) fun _ _ _ _ zJ zQ zo zx zy zK=>Zw (m:=n) (news:=(L.map V0)) (V0 0) 1 8 ((n+1)) (((no::L).map V0)) zo Tryz.underlying33 (by kernel_rfl) rfl (by decide) zx g0 zy (hS.below hB) (by simp[hL]) (Vl L) (by unfold maxLen;omega) (by omega) hB.size (by omega) (by rfl) fun e0 a8 l5 i7 d9 d6=>?_
  refine zK _ _ (Zu d6 d9 g0 (by decide)) ?_
  have k2:=((n2.blk.below (Za W2)).below e1.below).grown d9 g0 (by decide)
  have g2:=n2.ge n1.below
  refine ysv (.o [7] 8) k2 [.slice e0 (n+1) a8,V0 er] (.t w.heap.size [3,35]) fun l0 h0 i3=>⟨(Zp h0 k2 g2 (by decide)),?_⟩
  have g5:=h0.below (hB.trans d6) g2
  have d8:=h0.own2 i7 k2 (by decide)
  exact xec 3 i3 (.agg #[.slice e0 (n+1) a8,V0 er]) ⟨_,rfl,g5,_,_,rfl,d8⟩
 have a3:=a0.below (Za W2)
 refine xb 0 1 a3 ?_
 refine xm2 0 1 3 ?_ ?_
 ·refine xbs 0 1 [V0 no] 3 fun k5 j8 c6=>?_
  have f8:=a3.below c6.below
  refine xb (.o [] 3) 0 f8 ?_
  have j0:=c6.ge (bln (bln n1.below n2.below) (Za W2))
  have e6:=Xc (size:=1) (n:=1) c6.blk j0 rfl (by decide)
  have hB:=bln (bln (bln n1.below n2.below) (Za W2)) c6.below
  refine ybi (.o [] 4) (.t w.heap.size [3,35]) fun _ _ _ _ zJ zQ zo zx zy zK=>Zw (m:=n) (news:=(L.map V0)) (V0 0) 1 8 ((n+1)) (((no::L).map V0)) zo Tryz.underlying33 (by kernel_rfl) rfl (by decide) zx e6 zy (hS.below hB) (by simp[hL]) (Vl L) (by unfold maxLen;omega) (by omega) hB.size (by omega) (by rfl) fun d1 c1 l8 j1 c0 d5=>?_
  refine zK _ _ (Zu d5 c0 e6 (by decide)) ?_
  have k2:=((n2.blk.below (Za W2)).below c6.below).grown c0 e6 (by decide)
  have g2:=n2.ge n1.below
  refine ysv (.o [7] 8) k2 [.slice d1 (n+1) c1,V0 er] (.t w.heap.size [3,35]) fun k3 e7 i9=>⟨(Zp e7 k2 g2 (by decide)),?_⟩
  have e8:=e7.below (hB.trans d5) g2
  have b4:=e7.own2 j1 k2 (by decide)
  exact xec 3 i9 (.agg #[.slice d1 (n+1) c1,V0 er]) ⟨_,rfl,e8,_,_,rfl,b4⟩
 refine xb 0 0 a3 ?_
 refine xbs (.o [] 1) 1 [V0 no] 3 fun l3 j6 e3=>?_
 have j4:=e3.ge (bln (bln n1.below n2.below) (Za W2))
 have f2:=Xc (size:=1) (n:=1) e3.blk j4 rfl (by decide)
 have hB:=bln (bln (bln n1.below n2.below) (Za W2)) e3.below
 refine ybi (.o [] 4) (.t w.heap.size [3,35]) fun _ _ _ _ zJ zQ zo zx zy zK=>Zw (m:=n) (news:=(L.map V0)) (V0 0) 1 8 ((n+1)) (((no::L).map V0)) zo Tryz.underlying33 (by kernel_rfl) rfl (by decide) zx f2 zy (hS.below hB) (by simp[hL]) (Vl L) (by unfold maxLen;omega) (by omega) hB.size (by omega) (by rfl) fun d7 a7 k1 j2 c3 b0=>?_
 refine zK _ _ (Zu b0 c3 f2 (by decide)) ?_
 have k2:=((n2.blk.below (Za W2)).below e3.below).grown c3 f2 (by decide)
 have g2:=n2.ge n1.below
 refine ysv (.o [7] 8) k2 [.slice d7 (n+1) a7,V0 er] (.t w.heap.size [3,35]) fun j9 h2 j3=>⟨(Zp h2 k2 g2 (by decide)),?_⟩
 have f4:=h2.below (hB.trans b0) g2
 have c8:=h2.own2 j2 k2 (by decide)
 exact xec 3 j3 (.agg #[.slice d7 (n+1) a7,V0 er]) ⟨_,rfl,f4,_,_,rfl,c8⟩
theorem Zf4{way:List Int}{i:Nat}(h:0<i∧i≤way.length):way.getD (i-1) 0::way.drop i=way.drop (i-1):=by
 obtain⟨j,rfl⟩:∃ j,i=j+1:=⟨i-1,by omega⟩
 rw[show j+1-1=j by omega,List.drop_eq_getElem_cons (show j<way.length by omega)]
 simp[List.getD,show j<way.length by omega]
theorem Zdf(B:Nat)(wa:O0)(wc:Nat)(way:List Int)(er:Int)(a0:O0)(n0 c0:Nat)(L:List Int)(w:World)(hBw:B≤w.heap.size)(he:er≠0)(hw:Ints w (.slice wa way.length wc) way)(hwl:way.length≤100000)(hL:L.length=n0)(hn:n0≤100000)(h0:w.ownsRow B 3 1 (.slice a0 n0 c0) n0 (L.map V0)) :
 C0 115 #[.slice wa way.length wc,.agg #[.slice a0 n0 c0,V0 er]] w (Ko (fun w' r=>∃ a n c,r=.agg #[.slice a n c,V0 er]∧n=way.length+n0∧w'.ownsRow B 3 1 (.slice a n c) n ((way++L).map V0)) w):=by
 refine zin 20 Tryz.func115 ?_
 refine xa 2 [.slice a0 n0 c0,V0 er] 35 fun b1 W1 n1=>?_
 refine xa 0 [S0,V0 0] 35 fun b2 W2 n2=>?_
 have a9:=n2.ne n1.blk
 refine xw 7 ((way.length:Int)-1) ?_
 have b7:=Zb (Zb h0 n1.below) n2.below
 have hB:=bln n1.below n2.below
 have b4:=n1.blk.below n2.below
 refine zl 4 20 (fun zm b9 V=>∃ (i nf:Nat) (af:O0) (cf:Nat),b9=[(0,.slice wa way.length wc),(3,P0 b1),(4,P0 b2),(5,V0 ((i:Int)-1))]∧zm=(((i:Int)-1)+1).toNat∧B0 w V∧Blk V b1 ([.slice af nf cf,V0 er]) 35∧Blk V b2 ([S0,V0 0]) 35∧V.ownsRow B 3 1 (.slice af nf cf) nf ((way.drop i++L).map V0)∧i≤way.length∧nf=way.length-i+L.length) ⟨way.length,n0,a0,c0,rfl,rfl,hB,b4,n2.blk,by rw[List.drop_length,List.nil_append];exact b7,Nat.le_refl _,by omega⟩ ?_
 rintro _ _ W3 ⟨i,nf,af,cf,rfl,rfl,a7,a5,a3,hf,hi,c4⟩ J3 c3 r3
 refine xid 7 ((i:Int)-1≥(0:Int)) (fun c2=>?_) (fun c2=>?_)
 ·refine xd 4 (.t w.heap.size [35]) ?_
  refine xia (.e [0,1] 2) (fun _ _ _ _ zo zx zy V=>Wd (size:=1) (k:=(i-1)) (b:=wa) (n:=way.length) (c:=wc) (i:=((i:Int)-1)) (ki:=.i64) zo zx zy (by omega) (by omega) (Ints.elem hw (k:=(i-1)) (by omega)).1 Tryz.underlying33 (by kernel_rfl) V) ?_
  have a6:=bln a7 (Za W3)
  refine xlt (.e [] 3) (.t w.heap.size [35]) (fun V hV=>(Ints.elem (hw.below (Kb a6 hV (Nat.le_refl _))) (k:=(i-1)) (by omega)).2) ?_
  have a2:=a5.below (Za W3)
  refine xlv (.o [] 4) a2.rp ?_
  have b5:=Zb hf (Za W3)
  refine yc (.o [] 5) (args:=#[V0 (way.getD (i-1) 0),.agg #[.slice af nf cf,V0 er]]) (.t w.heap.size [35]) (Zgd (way.getD (i-1) 0) er af nf cf (way.drop i++L) _ he (by simp;omega) (by omega) (Zh b5)) ?_
  rintro _ W5 ⟨_,rfl,b0,p5,c5,rfl,c1⟩
  refine⟨(SF.of_below _ b0),?_⟩
  have a1:=a2.below b0
  have g1:=n1.ge (B1 w)
  refine ysv (.o [] 6) a1 [.slice p5 (nf+1) c5,V0 er] (.t w.heap.size [35]) fun W6 u6 k6=>⟨(Zp u6 a1 g1 (by decide)),?_⟩
  refine xq 5 (congrArg V0 (show IntKind.i64.wrap ((i:Int)-1-1)=((↑(i-1:Nat):Int)-1) from(show IntKind.i64.wrap ((i:Int)-1-1)=((i:Int)-1-1) from by first|exact IntWalk.i64_in _ (by omega)|(simp only[IntKind.wrap];omega)).trans (by omega))) ?_
  have a8:=u6.own2 (Zg c1 a6.size) a1 (by decide)
  have b6:=u6.below (bln a6 b0) g1
  have a4:=u6.blk ((a3.below (Za W3)).below b0) (Ne.symm a9)
  exact ze 2 (c3 _ _ _ ⟨i-1,_,_,_,rfl,rfl,b6,k6,a4,(by have q:=Zg a8 hBw;rw[show way.getD (i-1) 0::(way.drop i++L)=way.drop (i-1)++L from by rw[←List.cons_append,Zf4 (by omega)]] at q;exact q),by omega,by omega⟩ (by omega))
 refine xlv 7 a5.rp ?_
 refine xsv 0 a3 [.slice af nf cf,V0 er] fun W7 u7 k7=>?_
 have g2:=n2.ge n1.below
 have b3:=u7.below a7 g2
 have b8:=u7.own2 hf a3 (by decide)
 refine xec 3 k7 (.agg #[.slice af nf cf,V0 er]) ?_
 obtain rfl:i=0:=by omega
 exact⟨_,rfl,b3,_,_,_,rfl,by omega,b8⟩
def Zgg(l:Bl)(no tree:Int)(w:World)(e:Ending)(w':World):Prop :=
 (Xe l no tree≠0∧∃ a c,e=.returned (.tuple #[.agg #[V0 0,.bool false,S0,S0],.agg #[.slice a 1 c,V0 (Xe l no tree)]])∧B0 w w'∧w'.ownsRow w.heap.size 3 1 (.slice a 1 c) 1 [V0 no]) ∨
 (Xe l no tree=0∧∃ kp kc vp vc,e=.returned (.tuple #[.agg #[V0 (Xv (inB l no)),.bool (Xr (inB l no)),.slice kp (Zt (inB l no)) kc,.slice vp (Zt (inB l no)) vc],.agg #[S0,V0 0]])∧B0 w w'∧w'.ownsRow w.heap.size 3 1 (.slice kp (Zt (inB l no)) kc) (Zt (inB l no)) ((Yx (inB l no) (Zt (inB l no))).map V0)∧w'.ownsRow w.heap.size 9 1 (.slice vp (Zt (inB l no)) vc) (Zt (inB l no)) ((Vw (inB l no) (Zt (inB l no))).map sv))
theorem Zex(B bm:Nat)(p:O0)(k c:Nat)(l:Bl)(no tree:Int)(w:World)(hI:RefI B bm p k c l w) :
 C0 209 #[P0 bm,V0 no,V0 tree] w (Zgg l no tree w):=by
 refine zin 48 Tryz.func209 ?_
 refine xa 2 [V0 0,.bool false,S0,S0] 173 fun b1 W1 n1=>?_
 refine xa 0 [S0,V0 0] 35 fun b2 W2 n2=>?_
 have e4:=(hI.below n1.below).below n2.below
 refine xc 6 (args:=#[P0 bm,V0 no,V0 2]) (Zcn B bm p k c l _ e4 no 2) ?_
 rintro e W3 g5
 rcases g5 with ⟨a9,rfl,a1⟩|⟨a9,f1,p3,c3,rfl,a1,h3⟩
 ·refine xk 14 (show(((inE l 2 no) != (0:Int)):Bool)=true from bne_iff_ne.2 a9) ?_
  refine xc 5 (args:=#[V0 no,V0 (inE l 2 no)]) (Qc no (inE l 2 no) _ a9) ?_
  rintro _ W4 ⟨_,rfl,e9,a5,c5,rfl,c6⟩
  have g0:=(bln (bln n1.below n2.below) a1).size
  have k1:=((n1.blk.below n2.below).below a1).below e9
  refine xsv 0 k1 [V0 0,.bool false,S0,S0] fun W5 u5 k5=>?_
  have g1:=n1.ge (B1 w)
  have k2:=u5.blkT ((n2.blk.below a1).below e9) k1 (by decide)
  refine xsv 0 k2 [.slice a5 1 c5,V0 (inE l 2 no)] fun W6 u6 k6=>?_
  have g2:=n2.ge n1.below
  have hB:=u6.below (u5.below (bln (bln (bln n1.below n2.below) a1) e9) g1) g2
  have b9:=u6.own2 (u5.own2 (Zg c6 g0) k1 (by decide)) k2 (by decide)
  have e0:=u6.blkT k5 k2 (by decide)
  refine Ex 4 [(b1,[V0 0,.bool false,S0,S0]),(b2,[.slice a5 1 c5,V0 (inE l 2 no)])] ⟨⟨_,e0⟩,⟨_,k6⟩,trivial⟩ (.tuple #[.agg #[V0 0,.bool false,S0,S0],.agg #[.slice a5 1 c5,V0 (inE l 2 no)]]) ?_
  have he:Xe l no tree=(inE l 2 no):=by unfold Xe;rw[if_neg a9]
  exact .inl ⟨by rw[he];exact a9,_,_,by rw[he],hB,b9⟩
 have f9:=(bln n1.below n2.below).size
 have e6:=Zg h3 f9
 refine xc 20 (args:=#[.slice p3 244 c3]) (Zeh p3 c3 (inB l no) _ f1 (Gp (Zh e6) f1)) ?_
 rintro e W7 f5
 rcases f5 with ⟨hz,rfl,a2⟩|⟨hz,kp,kc,vp,vc,rfl,a2,hk,f0⟩
 ·refine xa 3 [V0 0,.bool false,S0,S0] 173 fun b8 W8 n8=>?_
  have k1:=((n1.blk.below n2.below).below a1).below a2
  have c7:=n8.ne k1
  refine xsv 0 n8.blk [V0 0,.bool false,S0,S0] fun W9 u9 k9=>?_
  have g8:=n8.ge (bln (bln (bln n1.below n2.below) a1) a2)
  refine xk 10 (show(((Yz (inB l no)) != (0:Int)):Bool)=true from bne_iff_ne.2 hz) ?_
  refine xc 5 (args:=#[V0 no,V0 (Yz (inB l no))]) (Qc no (Yz (inB l no)) _ hz) ?_
  rintro _ i0 ⟨_,rfl,b0,a5,c5,rfl,c6⟩
  have d7:=(u9.below (bln (bln (bln (bln n1.below n2.below) a1) a2) n8.below) g8).size
  have b4:=(u9.blk (k1.below n8.below) (Ne.symm (Ne.symm c7))).below b0
  refine xsv 0 b4 [V0 0,.bool false,S0,S0] fun h1 e2 f2=>?_
  have g1:=n1.ge (B1 w)
  have k2:=e2.blkT ((u9.blkT (((n2.blk.below a1).below a2).below n8.below) n8.blk (by decide)).below b0) b4 (by decide)
  refine xsv 0 k2 [.slice a5 1 c5,V0 (Yz (inB l no))] fun h9 e3 g4=>?_
  have g2:=n2.ge n1.below
  have hB:=e3.below (e2.below (bln (u9.below (bln (bln (bln (bln n1.below n2.below) a1) a2) n8.below) g8) b0) g1) g2
  have c0:=e3.own2 (e2.own2 (Zg c6 d7) b4 (by decide)) k2 (by decide)
  have c8:=e3.blkT f2 k2 (by decide)
  refine Ex 4 [(b1,[V0 0,.bool false,S0,S0]),(b2,[.slice a5 1 c5,V0 (Yz (inB l no))])] ⟨⟨_,c8⟩,⟨_,g4⟩,trivial⟩ (.tuple #[.agg #[V0 0,.bool false,S0,S0],.agg #[.slice a5 1 c5,V0 (Yz (inB l no))]]) ?_
  have he:Xe l no tree=(Yz (inB l no)):=by unfold Xe Qj;rw[if_pos a9,if_neg hz]
  exact .inl ⟨by rw[he];exact hz,_,_,by rw[he],hB,c0⟩
 have d0:=(bln (bln n1.below n2.below) a1).size
 refine xa 3 [V0 0,.bool false,S0,S0] 173 fun g9 h4 a0=>?_
 have k1:=((n1.blk.below n2.below).below a1).below a2
 have a3:=a0.ne k1
 refine xsv 0 a0.blk [V0 (Xv (inB l no)),.bool (Xr (inB l no)),.slice kp (Zt (inB l no)) kc,.slice vp (Zt (inB l no)) vc] fun h0 a4 e7=>?_
 have d3:=a0.ge (bln (bln (bln n1.below n2.below) a1) a2)
 refine xg 19 [36,37] (tree != (0:Int)) (fun a6=>?_) (fun a6=>?_)
 ·have a6:=Qk a6
  refine xb 1 0 e7 ?_
  refine xin 5 (Xv (inB l no)) tree (fun e1=>?_) (fun e1=>?_)
  ·refine xc 4 (args:=#[V0 no,V0 6]) (Qc no 6 _ (by decide)) ?_
   rintro _ h7 ⟨_,rfl,b3,a5,c5,rfl,c6⟩
   have e5:=(a4.below (bln (bln (bln (bln n1.below n2.below) a1) a2) a0.below) d3).size
   have b5:=(a4.blk (k1.below a0.below) (Ne.symm (Ne.symm a3))).below b3
   refine xsv 0 b5 [V0 0,.bool false,S0,S0] fun g6 d8 f6=>?_
   have g1:=n1.ge (B1 w)
   have k2:=d8.blkT ((a4.blkT (((n2.blk.below a1).below a2).below a0.below) a0.blk (by decide)).below b3) b5 (by decide)
   refine xsv 0 k2 [.slice a5 1 c5,V0 6] fun h6 d6 f3=>?_
   have g2:=n2.ge n1.below
   have hB:=d6.below (d8.below (bln (a4.below (bln (bln (bln (bln n1.below n2.below) a1) a2) a0.below) d3) b3) g1) g2
   have c1:=d6.own2 (d8.own2 (Zg c6 e5) b5 (by decide)) k2 (by decide)
   have b7:=d6.blkT f6 k2 (by decide)
   refine Ex 4 [(b1,[V0 0,.bool false,S0,S0]),(b2,[.slice a5 1 c5,V0 6])] ⟨⟨_,b7⟩,⟨_,f3⟩,trivial⟩ (.tuple #[.agg #[V0 0,.bool false,S0,S0],.agg #[.slice a5 1 c5,V0 6]]) ?_
   have he:Xe l no tree=6:=by unfold Xe Qj;rw[if_pos a9,if_pos hz,if_neg (by omega)]
   exact .inl ⟨by rw[he];decide,_,_,by rw[he],hB,c1⟩
  refine xlv 4 e7.rp ?_
  have a7:=a4.blk (k1.below a0.below) (Ne.symm (Ne.symm a3))
  refine xsv 1 a7 [V0 (Xv (inB l no)),.bool (Xr (inB l no)),.slice kp (Zt (inB l no)) kc,.slice vp (Zt (inB l no)) vc] fun h5 d4 f7=>?_
  have g1:=n1.ge (B1 w)
  have k2:=d4.blkT (a4.blkT (((n2.blk.below a1).below a2).below a0.below) a0.blk (by decide)) a7 (by decide)
  refine xsv 0 k2 [S0,V0 0] fun g7 d1 f4=>?_
  have g2:=n2.ge n1.below
  have hB:=d1.below (d4.below (a4.below (bln (bln (bln (bln n1.below n2.below) a1) a2) a0.below) d3) g1) g2
  have e8:=d1.own2 (d4.own2 (a4.own2 (Zb (Zg hk d0) a0.below) a0.blk (by decide)) a7 (by decide)) k2 (by decide)
  have b6:=d1.own2 (d4.own2 (a4.own2 (Zb (Zg f0 d0) a0.below) a0.blk (by decide)) a7 (by decide)) k2 (by decide)
  have c2:=d1.blkT f7 k2 (by decide)
  exact Ex 3 [(b1,[V0 (Xv (inB l no)),.bool (Xr (inB l no)),.slice kp (Zt (inB l no)) kc,.slice vp (Zt (inB l no)) vc]),(b2,[S0,V0 0])] ⟨⟨_,c2⟩,⟨_,f4⟩,trivial⟩ (.tuple #[.agg #[V0 (Xv (inB l no)),.bool (Xr (inB l no)),.slice kp (Zt (inB l no)) kc,.slice vp (Zt (inB l no)) vc],.agg #[S0,V0 0]]) (.inr ⟨by unfold Xe Qj;rw[if_pos a9,if_pos hz,if_pos (by omega)],_,_,_,_,rfl,hB,e8,b6⟩)
 have a6:=Xn a6
 refine xlv 12 e7.rp ?_
 have a8:=a4.blk (k1.below a0.below) (Ne.symm (Ne.symm a3))
 refine xsv 1 a8 [V0 (Xv (inB l no)),.bool (Xr (inB l no)),.slice kp (Zt (inB l no)) kc,.slice vp (Zt (inB l no)) vc] fun h2 d5 g3=>?_
 have g1:=n1.ge (B1 w)
 have k2:=d5.blkT (a4.blkT (((n2.blk.below a1).below a2).below a0.below) a0.blk (by decide)) a8 (by decide)
 refine xsv 0 k2 [S0,V0 0] fun h8 d2 f8=>?_
 have g2:=n2.ge n1.below
 have hB:=d2.below (d5.below (a4.below (bln (bln (bln (bln n1.below n2.below) a1) a2) a0.below) d3) g1) g2
 have d9:=d2.own2 (d5.own2 (a4.own2 (Zb (Zg hk d0) a0.below) a0.blk (by decide)) a8 (by decide)) k2 (by decide)
 have c9:=d2.own2 (d5.own2 (a4.own2 (Zb (Zg f0 d0) a0.below) a0.blk (by decide)) a8 (by decide)) k2 (by decide)
 have c4:=d2.blkT g3 k2 (by decide)
 exact Ex 3 [(b1,[V0 (Xv (inB l no)),.bool (Xr (inB l no)),.slice kp (Zt (inB l no)) kc,.slice vp (Zt (inB l no)) vc]),(b2,[S0,V0 0])] ⟨⟨_,c4⟩,⟨_,f8⟩,trivial⟩ (.tuple #[.agg #[V0 (Xv (inB l no)),.bool (Xr (inB l no)),.slice kp (Zt (inB l no)) kc,.slice vp (Zt (inB l no)) vc],.agg #[S0,V0 0]]) (.inr ⟨by unfold Xe Qj;rw[if_pos a9,if_pos hz,if_pos (by omega)],_,_,_,_,rfl,hB,d9,c9⟩)
theorem ref14_has(a:O0)(c:Nat)(l:List Int)(x:Int)(w:World)(h:Ints w (.slice a l.length c) l)(hln:l.length≤1000000) :
 C0 208 #[.slice a l.length c,V0 x] w (Ret (.bool (Qt l x)) w):=by
 refine zin 18 Tryz.func208 ?_
 have hB:=Below.refl w.heap.size w
 refine zl 12 18 (fun zm a1 V=>∃ (i:Nat),a1=[(0,.slice a l.length c),(1,V0 x),(5,V0 (i:Int))]∧zm=l.length-((i:Int)).toNat∧B0 w V∧i≤l.length∧(∀ j,j<i→x≠l.getD j 0)) ⟨0,rfl,rfl,hB,Nat.zero_le _,?_⟩ ?_
 ·exact fun j hj=>absurd hj (by omega)
 rintro _ _ W1 ⟨i,rfl,rfl,a0,hi,hz⟩ J1 a4 r1
 refine xid 9 ((i:Int)<(l.length:Int)) (fun a3=>?_) (fun a3=>?_)
 ·refine xx 8 _ l.length i 1 (Ints.elem h (k:=i) (by omega)).1 ?_
  refine xl 0 ((Ints.elem (h.below a0) (k:=i) (by omega)).2) ?_
  refine xie 4 (l.getD i 0) x (fun a2=>?_) (fun a2=>?_)
  ·refine xe 11 (.bool true) ?_
   rw[Ai (i:=i) (by omega) (by omega)];exact⟨rfl,a0⟩
  refine xwm 5 ((i:Int)+1) (↑(i+1):Int) ?_
  exact ze 2 (a4 _ _ _ ⟨i+1,rfl,rfl,a0,by omega,fun j hj=>(Nat.lt_or_ge j i).elim (hz j) (fun q=>by obtain rfl:j=i:=(by omega);omega)⟩ (by omega))
 refine xe 11 (.bool false) ?_
 rw[Fp (fun j hj=>hz j (by omega))];exact⟨rfl,a0⟩
def Zca(l:Bl)(way:List Int)(no tree lo hi deep:Int)(w:World)(e:Ending)(w':World):Prop :=
 (Xa l way no tree lo hi deep≠0∧∃ a4 b4 k4 n4 c4 v4 m4 d4 a c,e=.returned (.tuple #[.agg #[V0 a4,.bool b4,.slice k4 n4 c4,.slice v4 m4 d4],.agg #[.slice a 1 c,V0 (Xa l way no tree lo hi deep)]])∧B0 w w'∧w'.ownsRow w.heap.size 3 1 (.slice a 1 c) 1 [V0 no]) ∨
 (Xa l way no tree lo hi deep=0∧∃ kp kc vp vc,e=.returned (.tuple #[.agg #[V0 (Xv (inB l no)),.bool (Xr (inB l no)),.slice kp (Zt (inB l no)) kc,.slice vp (Zt (inB l no)) vc],.agg #[S0,V0 0]])∧B0 w w'∧w'.ownsRow w.heap.size 3 1 (.slice kp (Zt (inB l no)) kc) (Zt (inB l no)) ((Yx (inB l no) (Zt (inB l no))).map V0)∧w'.ownsRow w.heap.size 9 1 (.slice vp (Zt (inB l no)) vc) (Zt (inB l no)) ((Vw (inB l no) (Zt (inB l no))).map sv))
theorem Zej(B bm:Nat)(p:O0)(k c:Nat)(l:Bl)(no tree:Int)(lo hi deep:Int)(way:List Int)(wa:O0)(wc:Nat)(ft:Value)(w:World)(hI:RefI B bm p k c l w)(hw:Ints w (.slice wa way.length wc) way)(hwl:way.length≤100000)(hr:Qw lo hi=true) :
 C0 116 #[P0 bm,.agg #[V0 no,V0 lo,V0 hi,.slice wa way.length wc,ft],V0 tree,V0 deep] w (Zca l way no tree lo hi deep w):=by
 refine zin 84 Tryz.func116 ?_
 refine xa 2 [V0 no,V0 lo,V0 hi,.slice wa way.length wc,ft] 216 fun b1 W1 n1=>?_
 refine xa 0 [V0 0,.bool false,S0,S0] 173 fun b2 W2 n2=>?_
 refine xa 0 [S0,V0 0] 35 fun b3 W3 n3=>?_
 have k1:=(n1.blk.below n2.below).below n3.below
 refine xb 6 3 k1 ?_
 refine xb 1 0 k1 ?_
 have hB:=bln (bln n1.below n2.below) n3.below
 refine xr 0 (args:=#[.slice wa way.length wc,V0 no]) (ref14_has wa wc way no _ (hw.below hB) (by omega)) fun W4 c7=>?_
 refine xi 2 (Qt way no) (fun q9=>?_) (fun q9=>?_)
 ·have hh:Qt way no=true:=q9
  have r9:=k1.below c7
  refine xb 4 0 r9 ?_
  refine xc 0 (args:=#[V0 no,V0 11]) (Qc no 11 _ (by decide)) ?_
  rintro _ W6 ⟨_,rfl,r5,a5,c5,rfl,f0⟩
  have v4:=(bln hB c7).size
  have k2:=((n2.blk.below n3.below).below c7).below r5
  refine xsv 0 k2 [V0 0,.bool false,S0,S0] fun W7 u7 k7=>?_
  have g2:=n2.ge n1.below
  have k3:=u7.blkT ((n3.blk.below c7).below r5) k2 (by decide)
  refine xsv 0 k3 [.slice a5 1 c5,V0 11] fun W8 u8 k8=>?_
  have g3:=n3.ge (bln n1.below n2.below)
  have s4:=u8.below (u7.below (bln (bln hB c7) r5) g2) g3
  have l1:=u8.own2 (u7.own2 (Zg f0 v4) k2 (by decide)) k3 (by decide)
  have p7:=u8.blkT k7 k3 (by decide)
  refine Ex 4 [(b2,[V0 0,.bool false,S0,S0]),(b3,[.slice a5 1 c5,V0 11])] ⟨⟨_,p7⟩,⟨_,k8⟩,trivial⟩ (.tuple #[.agg #[V0 0,.bool false,S0,S0],.agg #[.slice a5 1 c5,V0 11]]) ?_
  have he:(Xa l way no tree lo hi deep)=11:=by unfold Xa;rw[if_pos hh]
  exact .inl ⟨by rw[he];decide,_,_,_,_,_,_,_,_,_,_,by rw[he],s4,l1⟩
 have hh:Qt way no=false:=q9
 have h0:=k1.below c7
 refine xb 6 3 h0 ?_
 refine xwm 1 ((way.length:Int)+1) (↑(way.length+1):Int) ?_
 refine xid 3 ((↑(way.length+1):Int)>(16:Int)) (fun u4=>?_) (fun u4=>?_)
 ·refine xb 4 0 h0 ?_
  refine xc 0 (args:=#[V0 no,V0 10]) (Qc no 10 _ (by decide)) ?_
  rintro _ ae ⟨_,rfl,h7,a5,c5,rfl,f0⟩
  have p6:=(bln hB c7).size
  have k2:=((n2.blk.below n3.below).below c7).below h7
  refine xsv 0 k2 [V0 0,.bool false,S0,S0] fun y6 r8 t4=>?_
  have g2:=n2.ge n1.below
  have k3:=r8.blkT ((n3.blk.below c7).below h7) k2 (by decide)
  refine xsv 0 k3 [.slice a5 1 c5,V0 10] fun x5 r2 w2=>?_
  have g3:=n3.ge (bln n1.below n2.below)
  have q4:=r2.below (r8.below (bln (bln hB c7) h7) g2) g3
  have m5:=r2.own2 (r8.own2 (Zg f0 p6) k2 (by decide)) k3 (by decide)
  have l6:=r2.blkT t4 k3 (by decide)
  refine Ex 4 [(b2,[V0 0,.bool false,S0,S0]),(b3,[.slice a5 1 c5,V0 10])] ⟨⟨_,l6⟩,⟨_,w2⟩,trivial⟩ (.tuple #[.agg #[V0 0,.bool false,S0,S0],.agg #[.slice a5 1 c5,V0 10]]) ?_
  have he:(Xa l way no tree lo hi deep)=10:=by unfold Xa;rw[if_neg (by rw[hh];decide),if_pos (by omega)]
  exact .inl ⟨by rw[he];decide,_,_,_,_,_,_,_,_,_,_,by rw[he],q4,m5⟩
 refine xb 6 0 h0 ?_
 have r3:=(((hI.below n1.below).below n2.below).below n3.below).below c7
 refine xc 1 (args:=#[P0 bm,V0 no,V0 tree]) (Zex B bm p k c l no tree _ r3) ?_
 rintro e y8 s6
 rcases s6 with ⟨c6,a3,c3,rfl,c9,r7⟩|⟨c6,kp,kc,vp,vc,rfl,c9,hk,h9⟩
 ·have e3:=(bln hB c7).size
  refine xa 3 [V0 0,.bool false,S0,S0] 173 fun w8 w7 e4=>?_
  have k2:=((n2.blk.below n3.below).below c7).below c9
  have d3:=e4.ne k2
  have l5:=bln (bln hB c7) c9
  have t0:=e4.ge l5
  refine xa 0 [S0,V0 0] 35 fun x7 z8 d0=>?_
  have k3:=((n3.blk.below c7).below c9).below e4.below
  have d2:=d0.ne k3
  have g9:=bln l5 e4.below
  have s7:=d0.ge g9
  have h1:=e4.blk.below d0.below
  refine xsv 0 h1 [V0 0,.bool false,S0,S0] fun w9 d6 t1=>?_
  have g8:=d6.blkT d0.blk h1 (by decide)
  refine xsv 0 g8 [.slice a3 1 c3,V0 (Xe l no tree)] fun c8 d4 p0=>?_
  refine xb 6 1 p0 ?_
  refine xk 3 (show(((Xe l no tree) != (0:Int)):Bool)=true from bne_iff_ne.2 c6) ?_
  refine xd 1 (.t w.heap.size [173,35]) ?_
  refine xm2 0 0 1 ?_ ?_
  ·have l4:=(d4.blkT t1 g8 (by decide)).below (Za c8)
   refine xlv 0 l4.rp ?_
   refine xm2 0 1 2 ?_ ?_
   ·have l3:=p0.below (Za c8)
    refine xlv 0 l3.rp ?_
    have f7:=(d4.blkT (d6.blk ((k2.below e4.below).below d0.below) (Ne.symm (Ne.symm d3))) g8 (by decide)).below (Za c8)
    have g2:=n2.ge n1.below
    refine ysv (.o [] 2) f7 [V0 0,.bool false,S0,S0] (.t w.heap.size [173,35]) fun z6 n6 t6=>⟨(Zp n6 f7 g2 (by decide)),?_⟩
    have f9:=n6.blkT ((d4.blk (d6.blkT (k3.below d0.below) h1 (by decide)) (Ne.symm (Ne.symm d2))).below (Za c8)) f7 (by decide)
    have g3:=n3.ge (bln n1.below n2.below)
    refine ysv (.o [] 3) f9 [.slice a3 1 c3,V0 (Xe l no tree)] (.t w.heap.size [173,35]) fun ab p1 t5=>⟨(Zp p1 f9 g3 (by decide)),?_⟩
    have q8:=p1.below (n6.below (bln (d4.below (d6.below (bln g9 d0.below) t0) s7) (Za c8)) g2) g3
    have m3:=p1.own2 (n6.own2 (Zb (d4.own2 (d6.own2 (Zb (Zb (Zg r7 e3) e4.below) d0.below) h1 (by decide)) g8 (by decide)) (Za c8)) f7 (by decide)) f9 (by decide)
    have k0:=p1.blkT t6 f9 (by decide)
    refine Ex 4 [(b2,[V0 0,.bool false,S0,S0]),(b3,[.slice a3 1 c3,V0 (Xe l no tree)])] ⟨⟨_,k0⟩,⟨_,t5⟩,trivial⟩ (.tuple #[.agg #[V0 0,.bool false,S0,S0],.agg #[.slice a3 1 c3,V0 (Xe l no tree)]]) ?_
    have he:(Xa l way no tree lo hi deep)=Xe l no tree:=by unfold Xa;rw[if_neg (by rw[hh];decide),if_neg (by omega),if_pos c6]
    exact .inl ⟨by rw[he];exact c6,_,_,_,_,_,_,_,_,_,_,by rw[he],q8,m3⟩
   have e5:=(d4.blkT (d6.blk ((k2.below e4.below).below d0.below) (Ne.symm (Ne.symm d3))) g8 (by decide)).below (Za c8)
   have g2:=n2.ge n1.below
   refine ysv 0 e5 [V0 0,.bool false,S0,S0] (.t w.heap.size [173,35]) fun aa l9 v3=>⟨(Zp l9 e5 g2 (by decide)),?_⟩
   have m1:=l9.blkT (p0.below (Za c8)) e5 (by decide)
   refine xlv (.o [] 1) m1.rp ?_
   have g6:=l9.blkT ((d4.blk (d6.blkT (k3.below d0.below) h1 (by decide)) (Ne.symm (Ne.symm d2))).below (Za c8)) e5 (by decide)
   have g3:=n3.ge (bln n1.below n2.below)
   refine ysv (.o [] 3) g6 [.slice a3 1 c3,V0 (Xe l no tree)] (.t w.heap.size [173,35]) fun w5 n7 u5=>⟨(Zp n7 g6 g3 (by decide)),?_⟩
   have s1:=n7.below (l9.below (bln (d4.below (d6.below (bln g9 d0.below) t0) s7) (Za c8)) g2) g3
   have n0:=n7.own2 (l9.own2 (Zb (d4.own2 (d6.own2 (Zb (Zb (Zg r7 e3) e4.below) d0.below) h1 (by decide)) g8 (by decide)) (Za c8)) e5 (by decide)) g6 (by decide)
   have j1:=n7.blkT v3 g6 (by decide)
   refine Ex 4 [(b2,[V0 0,.bool false,S0,S0]),(b3,[.slice a3 1 c3,V0 (Xe l no tree)])] ⟨⟨_,j1⟩,⟨_,u5⟩,trivial⟩ (.tuple #[.agg #[V0 0,.bool false,S0,S0],.agg #[.slice a3 1 c3,V0 (Xe l no tree)]]) ?_
   have he:(Xa l way no tree lo hi deep)=Xe l no tree:=by unfold Xa;rw[if_neg (by rw[hh];decide),if_neg (by omega),if_pos c6]
   exact .inl ⟨by rw[he];exact c6,_,_,_,_,_,_,_,_,_,_,by rw[he],s1,n0⟩
  have m9:=p0.below (Za c8)
  refine xlv 0 m9.rp ?_
  have m4:=(d4.blkT t1 g8 (by decide)).below (Za c8)
  refine xlv (.o [] 0) m4.rp ?_
  have g7:=(d4.blkT (d6.blk ((k2.below e4.below).below d0.below) (Ne.symm (Ne.symm d3))) g8 (by decide)).below (Za c8)
  have g2:=n2.ge n1.below
  refine ysv (.o [] 2) g7 [V0 0,.bool false,S0,S0] (.t w.heap.size [173,35]) fun z9 n9 v6=>⟨(Zp n9 g7 g2 (by decide)),?_⟩
  have f8:=n9.blkT ((d4.blk (d6.blkT (k3.below d0.below) h1 (by decide)) (Ne.symm (Ne.symm d2))).below (Za c8)) g7 (by decide)
  have g3:=n3.ge (bln n1.below n2.below)
  refine ysv (.o [] 3) f8 [.slice a3 1 c3,V0 (Xe l no tree)] (.t w.heap.size [173,35]) fun z2 p3 t8=>⟨(Zp p3 f8 g3 (by decide)),?_⟩
  have p8:=p3.below (n9.below (bln (d4.below (d6.below (bln g9 d0.below) t0) s7) (Za c8)) g2) g3
  have k4:=p3.own2 (n9.own2 (Zb (d4.own2 (d6.own2 (Zb (Zb (Zg r7 e3) e4.below) d0.below) h1 (by decide)) g8 (by decide)) (Za c8)) g7 (by decide)) f8 (by decide)
  have m8:=p3.blkT v6 f8 (by decide)
  refine Ex 4 [(b2,[V0 0,.bool false,S0,S0]),(b3,[.slice a3 1 c3,V0 (Xe l no tree)])] ⟨⟨_,m8⟩,⟨_,t8⟩,trivial⟩ (.tuple #[.agg #[V0 0,.bool false,S0,S0],.agg #[.slice a3 1 c3,V0 (Xe l no tree)]]) ?_
  have he:(Xa l way no tree lo hi deep)=Xe l no tree:=by unfold Xa;rw[if_neg (by rw[hh];decide),if_neg (by omega),if_pos c6]
  exact .inl ⟨by rw[he];exact c6,_,_,_,_,_,_,_,_,_,_,by rw[he],p8,k4⟩
 have e3:=(bln hB c7).size
 have y7:Zt (inB l no)≤18:=Nat.le_trans (Jk (Cb (Wr (Nc c6).2))) (Zg5 _ _)
 refine xa 3 [V0 0,.bool false,S0,S0] 173 fun t3 x1 g1=>?_
 have k2:=((n2.blk.below n3.below).below c7).below c9
 have h5:=g1.ne k2
 have j8:=bln (bln hB c7) c9
 have v1:=g1.ge j8
 refine xa 0 [S0,V0 0] 35 fun w4 y5 f6=>?_
 have k3:=((n3.blk.below c7).below c9).below g1.below
 have h6:=f6.ne k3
 have j7:=bln j8 g1.below
 have v8:=f6.ge j7
 have i1:=g1.blk.below f6.below
 refine xsv 0 i1 [V0 (Xv (inB l no)),.bool (Xr (inB l no)),.slice kp (Zt (inB l no)) kc,.slice vp (Zt (inB l no)) vc] fun ad h3 u1=>?_
 have i0:=h3.blkT f6.blk i1 (by decide)
 refine xsv 0 i0 [S0,V0 0] fun x9 h2 t2=>?_
 refine xb 6 1 t2 ?_
 have r4:=h2.own2 (h3.own2 (Zb (Zb (Zg hk e3) g1.below) f6.below) i1 (by decide)) i0 (by decide)
 have i2:=h2.own2 (h3.own2 (Zb (Zb (Zg h9 e3) g1.below) f6.below) i1 (by decide)) i0 (by decide)
 have i9:=h2.below (h3.below (bln j7 f6.below) v1) v8
 have s5:=h2.blkT (h3.blkT (((h0.below c9).below g1.below).below f6.below) i1 (by decide)) i0 (by decide)
 have s3:=h2.blkT (h3.blk ((k2.below g1.below).below f6.below) (Ne.symm (Ne.symm h5))) i0 (by decide)
 have s8:=h2.blk (h3.blkT (k3.below f6.below) i1 (by decide)) (Ne.symm (Ne.symm h6))
 have j5:=h2.blkT u1 i0 (by decide)
 refine zl 13 84 (fun zm u2 V=>∃ (i:Nat),u2=[(3,V0 deep),(5,P0 b1),(8,P0 b2),(9,P0 b3),(10,P0 t3),(12,V0 (i:Int))]∧zm=Zt (inB l no)-((i:Int)).toNat∧B0 w V∧Blk V b1 ([V0 no,V0 lo,V0 hi,.slice wa way.length wc,ft]) 216∧Blk V b2 ([V0 0,.bool false,S0,S0]) 173∧Blk V b3 ([S0,V0 0]) 35∧Blk V t3 ([V0 (Xv (inB l no)),.bool (Xr (inB l no)),.slice kp (Zt (inB l no)) kc,.slice vp (Zt (inB l no)) vc]) 173∧Blk V w4 ([S0,V0 0]) 35∧V.ownsRow w.heap.size 3 1 (.slice kp (Zt (inB l no)) kc) (Zt (inB l no)) ((Yx (inB l no) (Zt (inB l no))).map V0)∧V.ownsRow w.heap.size 9 1 (.slice vp (Zt (inB l no)) vc) (Zt (inB l no)) ((Vw (inB l no) (Zt (inB l no))).map sv)∧i≤Zt (inB l no)∧(∀ j,j<i→Dy lo hi ((Ya l no).getD j 0)=true)) ⟨0,rfl,rfl,i9,s5,s3,s8,j5,t2,r4,i2,Nat.zero_le _,?_⟩ ?_
 ·exact fun j hj=>absurd hj (by omega)
 rintro _ _ c2 ⟨i,rfl,rfl,a4,d1,a0,a6,a1,g0,hk,h9,x3,e2⟩ z7 r0 y1
 refine xb 5 2 a1 ?_
 refine xid 4 ((i:Int)<(↑(Zt (inB l no)):Int)) (fun s0=>?_) (fun s0=>?_)
 ·refine xd 5 .z ?_
  have c4:=d1.below (Za c2)
  refine xlv (.e [0] 1) (c4.rpp 1 2) ?_
  have a7:=a1.below (Za c2)
  refine xb (.e [2] 3) 2 a7 ?_
  have h8:=Zb hk (Za c2)
  refine xx (.e [4] 5) _ (Zt (inB l no)) i 1 (IntsN.elem (l:=(Ya l no)) (Zh h8) (Qe _ _) (k:=i) (by omega)).1 ?_
  refine xl (.e [] 6) ((IntsN.elem (l:=(Ya l no)) (Zh h8) (Qe _ _) (k:=i) (by omega)).2) ?_
  refine xr (.o [] 7) (args:=#[.agg #[V0 lo,V0 hi],V0 ((Ya l no).getD i 0)]) (Wy lo hi ((Ya l no).getD i 0) _) fun e6 a2=>?_
  refine xi (.r [8] 2) (!(Dy lo hi ((Ya l no).getD i 0))) (fun h4=>?_) (fun h4=>?_)
  ·have o3:Dy lo hi ((Ya l no).getD i 0)=false:=by simpa using h4
   refine xd 1 (.t w.heap.size [173,35]) ?_
   have e8:=(c4.below a2).below (Za e6)
   refine xbt (.e [1] 2) 0 w.heap.size [173,35] e8 ?_
   refine xm2 0 0 3 ?_ ?_
   ·have d5:=(a7.below a2).below (Za e6)
    refine xlv 0 d5.rp ?_
    refine yc (.o [] 3) (args:=#[V0 no,V0 9]) (.t w.heap.size [173,35]) (Qc no 9 _ (by decide)) ?_
    rintro _ w6 ⟨_,rfl,g5,a5,c5,rfl,f0⟩
    have s9:=(bln (bln (bln a4 (Za c2)) a2) (Za e6)).size
    refine⟨(SF.of_below _ g5),?_⟩
    have b5:=(((a0.below (Za c2)).below a2).below (Za e6)).below g5
    have g2:=n2.ge n1.below
    refine ysv (.o [] 4) b5 [V0 (Xv (inB l no)),.bool (Xr (inB l no)),.slice kp (Zt (inB l no)) kc,.slice vp (Zt (inB l no)) vc] (.t w.heap.size [173,35]) fun x0 o8 u6=>⟨(Zp o8 b5 g2 (by decide)),?_⟩
    have a9:=o8.blkT ((((a6.below (Za c2)).below a2).below (Za e6)).below g5) b5 (by decide)
    have g3:=n3.ge (bln n1.below n2.below)
    refine ysv (.o [] 5) a9 [.slice a5 1 c5,V0 9] (.t w.heap.size [173,35]) fun ac o7 v2=>⟨(Zp o7 a9 g3 (by decide)),?_⟩
    have k6:=o7.below (o8.below (bln (bln (bln (bln a4 (Za c2)) a2) (Za e6)) g5) g2) g3
    have m6:=o7.own2 (o8.own2 (Zg f0 s9) b5 (by decide)) a9 (by decide)
    have i4:=o7.blkT u6 a9 (by decide)
    refine Ex 8 [(b2,[V0 (Xv (inB l no)),.bool (Xr (inB l no)),.slice kp (Zt (inB l no)) kc,.slice vp (Zt (inB l no)) vc]),(b3,[.slice a5 1 c5,V0 9])] ⟨⟨_,i4⟩,⟨_,v2⟩,trivial⟩ (.tuple #[.agg #[V0 (Xv (inB l no)),.bool (Xr (inB l no)),.slice kp (Zt (inB l no)) kc,.slice vp (Zt (inB l no)) vc],.agg #[.slice a5 1 c5,V0 9]]) ?_
    have he:(Xa l way no tree lo hi deep)=9:=by unfold Xa;rw[if_neg (by rw[hh];decide),if_neg (by omega),if_neg (by rw[c6];decide),if_pos (by have:=Zb6 (i:=i) (tree:=tree) (by omega) o3;exact this)]
    exact .inl ⟨by rw[he];decide,_,_,_,_,_,_,_,_,_,_,by rw[he],k6,m6⟩
   refine yc 0 (args:=#[V0 no,V0 9]) (.t w.heap.size [173,35]) (Qc no 9 _ (by decide)) ?_
   rintro _ y3 ⟨_,rfl,f3,a5,c5,rfl,f0⟩
   have p9:=(bln (bln (bln a4 (Za c2)) a2) (Za e6)).size
   refine⟨(SF.of_below _ f3),?_⟩
   have e0:=((a7.below a2).below (Za e6)).below f3
   refine xlv (.o [] 0) e0.rp ?_
   have b7:=(((a0.below (Za c2)).below a2).below (Za e6)).below f3
   have g2:=n2.ge n1.below
   refine ysv (.o [] 4) b7 [V0 (Xv (inB l no)),.bool (Xr (inB l no)),.slice kp (Zt (inB l no)) kc,.slice vp (Zt (inB l no)) vc] (.t w.heap.size [173,35]) fun z3 o0 w3=>⟨(Zp o0 b7 g2 (by decide)),?_⟩
   have c0:=o0.blkT ((((a6.below (Za c2)).below a2).below (Za e6)).below f3) b7 (by decide)
   have g3:=n3.ge (bln n1.below n2.below)
   refine ysv (.o [] 5) c0 [.slice a5 1 c5,V0 9] (.t w.heap.size [173,35]) fun z1 n5 t9=>⟨(Zp n5 c0 g3 (by decide)),?_⟩
   have m7:=n5.below (o0.below (bln (bln (bln (bln a4 (Za c2)) a2) (Za e6)) f3) g2) g3
   have i7:=n5.own2 (o0.own2 (Zg f0 p9) b7 (by decide)) c0 (by decide)
   have l8:=n5.blkT w3 c0 (by decide)
   refine Ex 8 [(b2,[V0 (Xv (inB l no)),.bool (Xr (inB l no)),.slice kp (Zt (inB l no)) kc,.slice vp (Zt (inB l no)) vc]),(b3,[.slice a5 1 c5,V0 9])] ⟨⟨_,l8⟩,⟨_,t9⟩,trivial⟩ (.tuple #[.agg #[V0 (Xv (inB l no)),.bool (Xr (inB l no)),.slice kp (Zt (inB l no)) kc,.slice vp (Zt (inB l no)) vc],.agg #[.slice a5 1 c5,V0 9]]) ?_
   have he:(Xa l way no tree lo hi deep)=9:=by unfold Xa;rw[if_neg (by rw[hh];decide),if_neg (by omega),if_neg (by rw[c6];decide),if_pos (by have:=Zb6 (i:=i) (tree:=tree) (by omega) o3;exact this)]
   exact .inl ⟨by rw[he];decide,_,_,_,_,_,_,_,_,_,_,by rw[he],m7,i7⟩
  have o3:Dy lo hi ((Ya l no).getD i 0)=true:=by simpa using h4
  refine xwm 5 ((i:Int)+1) (↑(i+1):Int) ?_
  have i3:=bln (bln a4 (Za c2)) a2
  have f1:=c4.below a2
  have f4:=(a0.below (Za c2)).below a2
  have f5:=(a6.below (Za c2)).below a2
  have d8:=a7.below a2
  have d7:=(g0.below (Za c2)).below a2
  have s2:=Zb h8 a2
  have l7:=Zb (Zb h9 (Za c2)) a2
  exact ze 2 (r0 _ _ _ ⟨i+1,rfl,rfl,i3,f1,f4,f5,d8,d7,s2,l7,by omega,fun j hj=>(Nat.lt_or_ge j i).elim (e2 j) (fun q=>by obtain rfl:j=i:=(by omega);exact o3)⟩ (by omega))
 refine xb 9 1 a1 ?_
 refine xg 1 [65,66] (Xr (inB l no)) (fun r1=>?_) (fun r1=>?_)
 ·refine xg 4 [68,69,70] (deep != (0:Int)) (fun e7=>?_) (fun e7=>?_)
  ·have e7:=Qk e7
   refine xb 1 3 d1 ?_
   refine xwm 1 ((way.length:Int)+1) (↑(way.length+1):Int) ?_
   refine xin 5 (↑(way.length+1):Int) deep (fun q6=>?_) (fun q6=>?_)
   ·refine xd 1 (.t w.heap.size [173,35]) ?_
    have f2:=d1.below (Za c2)
    refine xbt (.e [1] 2) 0 w.heap.size [173,35] f2 ?_
    refine xm2 0 0 3 ?_ ?_
    ·have d9:=a1.below (Za c2)
     refine xlv 0 d9.rp ?_
     refine yc (.o [] 3) (args:=#[V0 no,V0 10]) (.t w.heap.size [173,35]) (Qc no 10 _ (by decide)) ?_
     rintro _ z0 ⟨_,rfl,g4,a5,c5,rfl,f0⟩
     have q7:=(bln a4 (Za c2)).size
     refine⟨(SF.of_below _ g4),?_⟩
     have c1:=(a0.below (Za c2)).below g4
     have g2:=n2.ge n1.below
     refine ysv (.o [] 4) c1 [V0 (Xv (inB l no)),.bool (Xr (inB l no)),.slice kp (Zt (inB l no)) kc,.slice vp (Zt (inB l no)) vc] (.t w.heap.size [173,35]) fun x4 p4 v9=>⟨(Zp p4 c1 g2 (by decide)),?_⟩
     have b8:=p4.blkT ((a6.below (Za c2)).below g4) c1 (by decide)
     have g3:=n3.ge (bln n1.below n2.below)
     refine ysv (.o [] 5) b8 [.slice a5 1 c5,V0 10] (.t w.heap.size [173,35]) fun y2 n8 u0=>⟨(Zp n8 b8 g3 (by decide)),?_⟩
     have m0:=n8.below (p4.below (bln (bln a4 (Za c2)) g4) g2) g3
     have j9:=n8.own2 (p4.own2 (Zg f0 q7) c1 (by decide)) b8 (by decide)
     have i8:=n8.blkT v9 b8 (by decide)
     refine Ex 4 [(b2,[V0 (Xv (inB l no)),.bool (Xr (inB l no)),.slice kp (Zt (inB l no)) kc,.slice vp (Zt (inB l no)) vc]),(b3,[.slice a5 1 c5,V0 10])] ⟨⟨_,i8⟩,⟨_,u0⟩,trivial⟩ (.tuple #[.agg #[V0 (Xv (inB l no)),.bool (Xr (inB l no)),.slice kp (Zt (inB l no)) kc,.slice vp (Zt (inB l no)) vc],.agg #[.slice a5 1 c5,V0 10]]) ?_
     have he:(Xa l way no tree lo hi deep)=10:=by unfold Xa;rw[if_neg (by rw[hh];decide),if_neg (by omega),if_neg (by rw[c6];decide),if_neg (by have:=Uj c6 hr (fun j hj=>e2 j (by omega));unfold Ya at this;rw[this];decide),if_pos ⟨by assumption,by omega,by omega⟩]
     exact .inl ⟨by rw[he];decide,_,_,_,_,_,_,_,_,_,_,by rw[he],m0,j9⟩
    refine yc 0 (args:=#[V0 no,V0 10]) (.t w.heap.size [173,35]) (Qc no 10 _ (by decide)) ?_
    rintro _ x2 ⟨_,rfl,e9,a5,c5,rfl,f0⟩
    have q0:=(bln a4 (Za c2)).size
    refine⟨(SF.of_below _ e9),?_⟩
    have e1:=(a1.below (Za c2)).below e9
    refine xlv (.o [] 0) e1.rp ?_
    have b9:=(a0.below (Za c2)).below e9
    have g2:=n2.ge n1.below
    refine ysv (.o [] 4) b9 [V0 (Xv (inB l no)),.bool (Xr (inB l no)),.slice kp (Zt (inB l no)) kc,.slice vp (Zt (inB l no)) vc] (.t w.heap.size [173,35]) fun y9 o4 u3=>⟨(Zp o4 b9 g2 (by decide)),?_⟩
    have b6:=o4.blkT ((a6.below (Za c2)).below e9) b9 (by decide)
    have g3:=n3.ge (bln n1.below n2.below)
    refine ysv (.o [] 5) b6 [.slice a5 1 c5,V0 10] (.t w.heap.size [173,35]) fun y4 o5 t7=>⟨(Zp o5 b6 g3 (by decide)),?_⟩
    have j2:=o5.below (o4.below (bln (bln a4 (Za c2)) e9) g2) g3
    have k9:=o5.own2 (o4.own2 (Zg f0 q0) b9 (by decide)) b6 (by decide)
    have k5:=o5.blkT u3 b6 (by decide)
    refine Ex 4 [(b2,[V0 (Xv (inB l no)),.bool (Xr (inB l no)),.slice kp (Zt (inB l no)) kc,.slice vp (Zt (inB l no)) vc]),(b3,[.slice a5 1 c5,V0 10])] ⟨⟨_,k5⟩,⟨_,t7⟩,trivial⟩ (.tuple #[.agg #[V0 (Xv (inB l no)),.bool (Xr (inB l no)),.slice kp (Zt (inB l no)) kc,.slice vp (Zt (inB l no)) vc],.agg #[.slice a5 1 c5,V0 10]]) ?_
    have he:(Xa l way no tree lo hi deep)=10:=by unfold Xa;rw[if_neg (by rw[hh];decide),if_neg (by omega),if_neg (by rw[c6];decide),if_neg (by have:=Uj c6 hr (fun j hj=>e2 j (by omega));unfold Ya at this;rw[this];decide),if_pos ⟨by assumption,by omega,by omega⟩]
    exact .inl ⟨by rw[he];decide,_,_,_,_,_,_,_,_,_,_,by rw[he],j2,k9⟩
   refine xlv 4 a1.rp ?_
   refine xsv 1 a0 [V0 (Xv (inB l no)),.bool (Xr (inB l no)),.slice kp (Zt (inB l no)) kc,.slice vp (Zt (inB l no)) vc] fun x6 o2 v5=>?_
   have g2:=n2.ge n1.below
   have b0:=o2.blkT a6 a0 (by decide)
   refine xsv 0 b0 [S0,V0 0] fun x8 o1 u9=>?_
   have g3:=n3.ge (bln n1.below n2.below)
   have m2:=o1.below (o2.below a4 g2) g3
   have r6:=o1.own2 (o2.own2 hk a0 (by decide)) b0 (by decide)
   have i5:=o1.own2 (o2.own2 h9 a0 (by decide)) b0 (by decide)
   have l0:=o1.blkT v5 b0 (by decide)
   refine Ex 3 [(b2,[V0 (Xv (inB l no)),.bool (Xr (inB l no)),.slice kp (Zt (inB l no)) kc,.slice vp (Zt (inB l no)) vc]),(b3,[S0,V0 0])] ⟨⟨_,l0⟩,⟨_,u9⟩,trivial⟩ (.tuple #[.agg #[V0 (Xv (inB l no)),.bool (Xr (inB l no)),.slice kp (Zt (inB l no)) kc,.slice vp (Zt (inB l no)) vc],.agg #[S0,V0 0]]) ?_
   have he:(Xa l way no tree lo hi deep)=0:=by unfold Xa;rw[if_neg (by rw[hh];decide),if_neg (by omega),if_neg (by rw[c6];decide),if_neg (by have:=Uj c6 hr (fun j hj=>e2 j (by omega));unfold Ya at this;rw[this];decide),if_neg];rintro⟨q1,q2,q3⟩;omega
   exact .inr ⟨he,_,_,_,_,rfl,m2,r6,i5⟩
  have e7:=Xn e7
  refine xlv 14 a1.rp ?_
  refine xsv 1 a0 [V0 (Xv (inB l no)),.bool (Xr (inB l no)),.slice kp (Zt (inB l no)) kc,.slice vp (Zt (inB l no)) vc] fun z4 p2 v7=>?_
  have g2:=n2.ge n1.below
  have b4:=p2.blkT a6 a0 (by decide)
  refine xsv 0 b4 [S0,V0 0] fun z5 n4 w0=>?_
  have g3:=n3.ge (bln n1.below n2.below)
  have j4:=n4.below (p2.below a4 g2) g3
  have q5:=n4.own2 (p2.own2 hk a0 (by decide)) b4 (by decide)
  have l2:=n4.own2 (p2.own2 h9 a0 (by decide)) b4 (by decide)
  have j3:=n4.blkT v7 b4 (by decide)
  refine Ex 3 [(b2,[V0 (Xv (inB l no)),.bool (Xr (inB l no)),.slice kp (Zt (inB l no)) kc,.slice vp (Zt (inB l no)) vc]),(b3,[S0,V0 0])] ⟨⟨_,j3⟩,⟨_,w0⟩,trivial⟩ (.tuple #[.agg #[V0 (Xv (inB l no)),.bool (Xr (inB l no)),.slice kp (Zt (inB l no)) kc,.slice vp (Zt (inB l no)) vc],.agg #[S0,V0 0]]) ?_
  have he:(Xa l way no tree lo hi deep)=0:=by unfold Xa;rw[if_neg (by rw[hh];decide),if_neg (by omega),if_neg (by rw[c6];decide),if_neg (by have:=Uj c6 hr (fun j hj=>e2 j (by omega));unfold Ya at this;rw[this];decide),if_neg];rintro⟨q1,q2,q3⟩;omega
  exact .inr ⟨he,_,_,_,_,rfl,j4,q5,l2⟩
 refine xlv 18 a1.rp ?_
 refine xsv 1 a0 [V0 (Xv (inB l no)),.bool (Xr (inB l no)),.slice kp (Zt (inB l no)) kc,.slice vp (Zt (inB l no)) vc] fun af o9 w1=>?_
 have g2:=n2.ge n1.below
 have a8:=o9.blkT a6 a0 (by decide)
 refine xsv 0 a8 [S0,V0 0] fun y0 o6 v0=>?_
 have g3:=n3.ge (bln n1.below n2.below)
 have j6:=o6.below (o9.below a4 g2) g3
 have p5:=o6.own2 (o9.own2 hk a0 (by decide)) a8 (by decide)
 have j0:=o6.own2 (o9.own2 h9 a0 (by decide)) a8 (by decide)
 have i6:=o6.blkT w1 a8 (by decide)
 refine Ex 3 [(b2,[V0 (Xv (inB l no)),.bool (Xr (inB l no)),.slice kp (Zt (inB l no)) kc,.slice vp (Zt (inB l no)) vc]),(b3,[S0,V0 0])] ⟨⟨_,i6⟩,⟨_,v0⟩,trivial⟩ (.tuple #[.agg #[V0 (Xv (inB l no)),.bool (Xr (inB l no)),.slice kp (Zt (inB l no)) kc,.slice vp (Zt (inB l no)) vc],.agg #[S0,V0 0]]) ?_
 have he:(Xa l way no tree lo hi deep)=0:=by unfold Xa;rw[if_neg (by rw[hh];decide),if_neg (by omega),if_neg (by rw[c6];decide),if_neg (by have:=Uj c6 hr (fun j hj=>e2 j (by omega));unfold Ya at this;rw[this];decide),if_neg];rintro⟨q1,q2,q3⟩;exact absurd q1 (by simp_all)
 exact .inr ⟨he,_,_,_,_,rfl,j6,p5,j0⟩
theorem Sts.cut{α:Type}{f:α→List Value}{m:Nat}{w:World}{b:O0}{c:Nat}{l:List α}(hm:∀ x,(f x).length=m)(h:Sts f w (.slice b l.length c) l)(k:Nat)(hk:k≤l.length):Sts f w (.slice (Qu b k c m) (l.drop k).length (c-k)) (l.drop k):=by
 have a3:(l.drop k).length=l.length-k:=by simp
 have a1:=Sl.cap h
 by_cases hkn:k=l.length
 ·refine .inl ⟨Qu b k c m,c-k,by rw[show(l.drop k).length=0 by omega],by omega,?_⟩
  rw[List.drop_eq_nil_of_le (by omega)];rfl
 rcases h with ⟨a',c',h1,h2,h3⟩|⟨g,a2,a4,h1,h2,h3,h4⟩
 ·omega
 ·simp only[Value.slice.injEq] at h1
  obtain⟨rfl,_,rfl⟩:=h1
  refine .inr ⟨g,a2+k*m,c-k,?_,by omega,by omega,fun j x hj=>?_⟩
  ·rw[Qu,if_neg (by omega)];simp[Addr.add]
  ·have a0:(l.drop k).flatMap f=(l.flatMap f).drop (k*m):=by
    conv=>rhs;rw[←List.take_append_drop k l,List.flatMap_append]
    rw[List.drop_left' (by rw[Ja hm,List.length_take,Nat.min_eq_left hk])]
   rw[a0,List.getElem?_drop] at hj
   have:=h4 _ _ hj
   rwa [←Nat.add_assoc] at this
end Go.Proofs.YtegcamkgeacjfaaGreatDoor
namespace Go.Proofs.YtegcamkgeacjfaaGreatDoor
set_option maxHeartbeats 8000000
set_option maxRecDepth 100000
open Go.RowKit Go.Extern.Stop Go.Stop Go.Extern
set_option linter.unusedVariables false
structure Ft where
 bl:List Int
 c:Int
 fa:Option Addr
 fc:Nat
def Bu(f:Ft):List Value:=[.slice f.fa f.bl.length f.fc,V0 f.c]
theorem Zbv(f:Ft):(Bu f).length=2:=rfl
def Yd(f:Ft):List Int×Int:=(f.bl,f.c)
def wtC (t:Wt):List Value:=[V0 t.no,V0 t.lo,V0 t.hi,.slice t.wa t.way.length t.wc,V0 t.ft]
theorem Nh(t:Wt):(wtC t).length=5:=rfl
def Qr(B:Nat)(w:World)(a:O0)(c:Nat)(l:List Int):Prop:=w.ownsRow B 3 1 (.slice a l.length c) l.length (l.map V0)
theorem Qr.below{B:Nat}{w W:World}{a:O0}{c:Nat}{l:List Int}(h:Qr B w a c l)(hb:B0 w W):Qr B W a c l:=Zb h hb
theorem Qr.only{B:Nat}{w W:World}{a:O0}{c:Nat}{l:List Int}{T:List TypeId}(h:Qr B w a c l)(hO:Ze T w W)(hT:T.contains 3=false):Qr B W a c l:=Zn h hO hT
theorem Qr.mono{B B':Nat}{w:World}{a:O0}{c:Nat}{l:List Int}(h:Qr B w a c l)(hB:B'≤B):Qr B' w a c l:=Zg h hB
theorem Qr.ints{B:Nat}{w:World}{a:O0}{c:Nat}{l:List Int}(h:Qr B w a c l):Ints w (.slice a l.length c) l:=Zh h
theorem own_size{w:World}{base e size n:Nat}{v:Value}{xs:List Value}(h:w.ownsRow base e size v n xs)(hn:0<n):base≤w.heap.size:=by
 rcases h.2 with ⟨_,h0⟩|⟨g,a0,a1,hv,hb,hh,_⟩
 ·omega
 ·have:=(Array.getElem?_eq_some_iff.1 hh).1
  omega
abbrev RowK:=List Int×O0×Nat
def Zb9(t:Wt):RowK:=(t.way,t.wa,t.wc)
def Zhe(f:Ft):RowK:=(f.bl,f.fa,f.fc)
def Yf(B:Nat)(w:World)(u:Value)(L:List RowK):Prop:=∀ x∈L,Qr B w x.2.1 x.2.2 x.1∧Vg (.slice x.2.1 x.1.length x.2.2) u
theorem Yf.below{B:Nat}{w W:World}{u:Value}{L:List RowK}(h:Yf B w u L)(hb:B0 w W):Yf B W u L:=fun x hx=>⟨(h x hx).1.below hb,(h x hx).2⟩
theorem Yf.only{B:Nat}{w W:World}{u:Value}{L:List RowK}{T:List TypeId}(h:Yf B w u L)(hO:Ze T w W)(hT:T.contains 3=false):Yf B W u L:=fun x hx=>⟨(h x hx).1.only hO hT,(h x hx).2⟩
theorem Yf.grow{B base e size n:Nat}{w W:World}{u u':Value}{xs:List Value}{L:List RowK}(h:Yf B w u L)(k:w.ownsRow base e size u n xs)(hg:w.grownBy W u.ownBlock)(ha:u'.ownBlock=u.ownBlock∨u'.ownBlock=some w.heap.size):Yf B W u' L :=
 fun x hx=>⟨(h x hx).2.symm.row (h x hx).1 hg,((h x hx).2.symm.grow (h x hx).1 ha).symm⟩
theorem Yf.sub{B:Nat}{w:World}{u:Value}{L L':List RowK}(h:Yf B w u L)(hs:∀ x∈L',x∈L):Yf B w u L':=fun x hx=>h x (hs x hx)
theorem Yf.snoc{B:Nat}{w:World}{u:Value}{L:List RowK}{x:RowK}(h:Yf B w u L)(k:Qr B w x.2.1 x.2.2 x.1)(ha:Vg (.slice x.2.1 x.1.length x.2.2) u):Yf B w u (L++[x]):=fun y hy=>by
 rcases List.mem_append.1 hy with hy|hy
 ·exact h y hy
 ·rw[List.mem_singleton.1 hy];exact⟨k,ha⟩
def Mj(B:Nat)(w:World)(a:O0)(c:Nat)(ts:List Wt):Prop:=∃ v0 n0 xs0,w.ownsRow B 216 5 v0 n0 xs0∧∀ W,W.ownsRow B 216 5 v0 n0 xs0→Sts wtC W (.slice a ts.length c) ts
theorem Mj.below{B:Nat}{w W:World}{a:O0}{c:Nat}{ts:List Wt}(h:Mj B w a c ts)(hb:B0 w W):Mj B W a c ts:=by
 obtain⟨v0,n0,a0,h1,h2⟩:=h
 exact⟨v0,n0,a0,Zb h1 hb,h2⟩
theorem Mj.only{B:Nat}{w W:World}{a:O0}{c:Nat}{ts:List Wt}{T:List TypeId}(h:Mj B w a c ts)(hO:Ze T w W)(hT:T.contains 216=false):Mj B W a c ts:=by
 obtain⟨v0,n0,a0,h1,h2⟩:=h
 exact⟨v0,n0,a0,Zn h1 hO hT,h2⟩
theorem Mj.sts{B:Nat}{w:World}{a:O0}{c:Nat}{ts:List Wt}(h:Mj B w a c ts):Sts wtC w (.slice a ts.length c) ts:=by
 obtain⟨v0,n0,a0,h1,h2⟩:=h
 exact h2 w h1
theorem Mj.of{B:Nat}{w:World}{a:O0}{n c:Nat}{ts:List Wt}(h:w.ownsRow B 216 5 (.slice a n c) n (ts.flatMap wtC))(hn:n=ts.length):Mj B w a c ts:=by
 subst hn
 exact⟨_,_,_,h,fun W k=>Zh k⟩
theorem Mj.tail{B:Nat}{w:World}{a:O0}{c:Nat}{t:Wt}{ts:List Wt}(h:Mj B w a c (t::ts)):Mj B w (Qu a 1 c 5) (c-1) ts:=by
 obtain⟨v0,n0,a0,h1,h2⟩:=h
 exact⟨v0,n0,a0,h1,fun W k=>Sts.cut Nh (h2 W k) 1 (by simp)⟩
theorem sts_eq{w:World}{a:O0}{c:Nat}{ts us:List Wt}(h:Sts wtC w (.slice a ts.length c) ts)(e:ts=us):Sts wtC w (.slice a us.length c) us:=by subst e;exact h
theorem Zca.or{base e size n:Nat}{u:Value}{xs:List Value}{l:Bl}{way:List Int}{no tree lo hi deep:Int}{w:World}{e':Ending}{w':World}(k:w.ownsRow base e size u n xs)(h:Zca l way no tree lo hi deep w e' w') :
 (Xa l way no tree lo hi deep≠0∧∃ a4 b4 k4 n4 c4 v4 m4 d4 a c,e'=.returned (.tuple #[.agg #[V0 a4,.bool b4,.slice k4 n4 c4,.slice v4 m4 d4],.agg #[.slice a 1 c,V0 (Xa l way no tree lo hi deep)]])∧B0 w w'∧Qr w.heap.size w' a c [no]) ∨
 (Xa l way no tree lo hi deep=0∧∃ kp kc vp vc,e'=.returned (.tuple #[.agg #[V0 (Xv (inB l no)),.bool (Xr (inB l no)),.slice kp (Zt (inB l no)) kc,.slice vp (Zt (inB l no)) vc],.agg #[S0,V0 0]])∧B0 w w' ∧
 w'.ownsRow w.heap.size 3 1 (.slice kp (Zt (inB l no)) kc) (Zt (inB l no)) ((Ya l no).map V0)∧Vg u (.slice kp (Zt (inB l no)) kc)∧w'.ownsRow w.heap.size 9 1 (.slice vp (Zt (inB l no)) vc) (Zt (inB l no)) ((Qy l no).map sv)):=by
 rcases h with ⟨h0,a4,b4,k4,n4,c4,v4,m4,d4,a,c,h1,h2,h3⟩|⟨h0,kp,kc,vp,vc,h1,h2,h3,h4⟩
 ·exact .inl ⟨h0,a4,b4,k4,n4,c4,v4,m4,d4,a,c,h1,h2,h3⟩
 ·exact .inr ⟨h0,kp,kc,vp,vc,h1,h2,h3,Vg.of_lt k h3 (Nat.le_refl _),h4⟩
theorem Qh(wa:O0)(wc:Nat)(way:List Int)(er:Int)(B:Nat)(a0:O0)(c0:Nat)(no:Int)(w:World)(he:er≠0)(hw:Ints w (.slice wa way.length wc) way)(hwl:way.length≤100000)(h0:Qr B w a0 c0 [no]) :
 C0 115 #[.slice wa way.length wc,.agg #[.slice a0 1 c0,V0 er]] w (fun e w'=>∃ a c,e=.returned (.agg #[.slice a (way++[no]).length c,V0 er])∧B0 w w'∧Qr B w' a c (way++[no])):=by
 refine(Zdf B wa wc way er a0 1 c0 [no] w (own_size h0 (by simp)) he hw hwl rfl (by decide) h0).mono ?_
 rintro e W ⟨_,rfl,hb,a,n,c,rfl,hn,ho⟩
 obtain rfl:n=(way++[no]).length:=by simp[hn]
 exact⟨a,c,rfl,hb,ho⟩
theorem Px(no er:Int)(w:World)(he:er≠0):C0 106 #[V0 no,V0 er] w (fun e w'=>∃ a c,e=.returned (.agg #[.slice a 1 c,V0 er])∧B0 w w'∧Qr w.heap.size w' a c [no]):=by
 refine(Qc no er w he).mono ?_
 rintro e W ⟨_,rfl,hb,a,c,rfl,ho⟩
 exact⟨a,c,rfl,hb,ho⟩
def Zfq(S:WS)(w:World)(e:Ending)(w':World):Prop :=
 ∃ (pe pb pf:O0) (ce cb cf:Nat) (fv:List Ft),e=.returned (.agg #[.slice pe S.es.length ce,.slice pb S.bs.length cb,V0 S.deep,V0 (S.looked:Int),.slice pf fv.length cf])∧B0 w w' ∧
  w'.ownsRow w.heap.size 123 3 (.slice pe S.es.length ce) S.es.length (S.es.flatMap Vt)∧w'.ownsRow w.heap.size 3 1 (.slice pb S.bs.length cb) S.bs.length (S.bs.map V0) ∧
  w'.ownsRow w.heap.size 35 2 (.slice pf fv.length cf) fv.length (fv.flatMap Bu)∧fv.map Yd=S.fs∧Yf w.heap.size w' (.slice pb S.bs.length cb) (fv.map Zhe)
structure WaitOk(l:List UInt8)(tree fuel:Int)(G:WS)(ts:List Wt)(s:WS):Prop where
 dry:s.dry=false
 all:Ci l tree fuel ts s=G
 way:∀ t∈ts,t.way.length≤16
 right:∀ t∈ts,t.ft=0→Qw t.lo t.hi=true
 few:ts.length+20*(fuel.toNat-s.looked)≤20*fuel.toNat+1
theorem WaitOk.grow{l:Bl}{tree fuel:Int}{G:WS}{ts:List Wt}{s:WS}(h:WaitOk l tree fuel G ts s):Be s G:=h.all▸Rg l tree fuel ts s
theorem WaitOk.nil{l:Bl}{tree fuel:Int}{G:WS}{s:WS}(h:WaitOk l tree fuel G [] s):G=s:=h.all.symm
theorem WaitOk.fault{l:Bl}{tree fuel:Int}{G:WS}{t:Wt}{ts:List Wt}{s:WS}(h:WaitOk l tree fuel G (t::ts) s)(hf:t.ft≠0):WaitOk l tree fuel G ts (Yn t.way [t.no] t.ft s) :=
 ⟨h.dry,by rw[←Zf9 h.dry hf];exact h.all,fun x hx=>h.way x (List.mem_cons_of_mem _ hx),fun x hx=>h.right x (List.mem_cons_of_mem _ hx),by have q:=h.few;simp only[List.length_cons] at q;show ts.length+20*(fuel.toNat-s.looked)≤_;omega⟩
theorem WaitOk.fuel{l:Bl}{tree fuel:Int}{G:WS}{t:Wt}{ts:List Wt}{s:WS}(h:WaitOk l tree fuel G (t::ts) s)(hf:t.ft=0)(hs:fuel≤s.looked):G={ Yn t.way [t.no] 12 s with dry:=true }:=by
 rw[←h.all,Nv,one_fuel h.dry hf (h.way t List.mem_cons_self) hs,Io _ _ _ _ _ rfl]
theorem WaitOk.err{l:Bl}{tree fuel:Int}{G:WS}{t:Wt}{ts:List Wt}{s:WS}(h:WaitOk l tree fuel G (t::ts) s)(hf:t.ft=0)(hs:¬ fuel≤s.looked)(he:Xa l t.way t.no tree t.lo t.hi s.deep≠0) :
 WaitOk l tree fuel G ts (Yn t.way [t.no] (Xa l t.way t.no tree t.lo t.hi s.deep) { s with looked:=s.looked+1 }) :=
 ⟨h.dry,by rw[←one_err h.dry hf (h.way t List.mem_cons_self) hs he];exact h.all,fun x hx=>h.way x (List.mem_cons_of_mem _ hx),fun x hx=>h.right x (List.mem_cons_of_mem _ hx),by have q:=h.few;simp only[List.length_cons] at q;show ts.length+20*(fuel.toNat-(s.looked+1))≤_;omega⟩
theorem WaitOk.leaf{l:Bl}{tree fuel:Int}{G:WS}{t:Wt}{ts:List Wt}{s:WS}(h:WaitOk l tree fuel G (t::ts) s)(hf:t.ft=0)(hs:¬ fuel≤s.looked)(he:Xa l t.way t.no tree t.lo t.hi s.deep=0)(hl:Xr (inB l t.no)=true) :
 WaitOk l tree fuel G ts { s with looked:=s.looked+1,bs:=s.bs++[t.no],deep:=((t.way.length+1:Nat):Int),es:=s.es++Vy (Ya l t.no) (Qy l t.no) t.no (Zt (inB l t.no)) } :=
 ⟨h.dry,by rw[←one_leaf h.dry hf hs he hl];exact h.all,fun x hx=>h.way x (List.mem_cons_of_mem _ hx),fun x hx=>h.right x (List.mem_cons_of_mem _ hx),by have q:=h.few;simp only[List.length_cons] at q;show ts.length+20*(fuel.toNat-(s.looked+1))≤_;omega⟩
theorem belowW_ok{l:Bl}{t:Wt}{p:O0}{c i:Nat}(hw:t.way.length≤15)(hf:Yw t.lo t.hi (Ya l t.no)=0)(hi:i<Zt (inB l t.no)):(Vc l t p c i).way.length≤16∧((Vc l t p c i).ft=0→Qw (Vc l t p c i).lo (Vc l t p c i).hi=true):=by
 unfold Vc
 split
 ·exact⟨by simp;omega,fun _=>Zey hf (by simp[Ya,Yx];exact hi)⟩
 ·rename_i h
  refine⟨by show t.way.length≤16;omega,fun q=>?_⟩
  dsimp only at q
  exact absurd q h
theorem WaitOk.inner{l:Bl}{tree fuel:Int}{G:WS}{t:Wt}{ts:List Wt}{s:WS}(p:O0)(c:Nat)(h:WaitOk l tree fuel G (t::ts) s)(hf:t.ft=0)(hs:¬ fuel≤s.looked)(he:Xa l t.way t.no tree t.lo t.hi s.deep=0)(hl:Xr (inB l t.no)=false) :
 WaitOk l tree fuel G (Yt l t p c (Zt (inB l t.no))++ts) { s with looked:=s.looked+1,bs:=s.bs++[t.no] }:=by
 have hw:=Dh he
 obtain⟨hn,a0,hc⟩:=Jg he
 have hb:∀ x∈Yt l t p c (Zt (inB l t.no)),x.way.length≤16∧(x.ft=0→Qw x.lo x.hi=true):=by
  intro x hx
  obtain⟨i,hi,rfl⟩:=List.mem_map.1 hx
  exact belowW_ok (by omega) a0 (List.mem_range.1 hi)
 refine⟨h.dry,by rw[Zgs,←Zg7 p c h.dry hf hs he hl];exact h.all,fun x hx=>?_,fun x hx=>?_,?_⟩
 ·rcases List.mem_append.1 hx with hx|hx
  ·exact(hb x hx).1
  ·exact h.way x (List.mem_cons_of_mem _ hx)
 ·rcases List.mem_append.1 hx with hx|hx
  ·exact(hb x hx).2
  ·exact h.right x (List.mem_cons_of_mem _ hx)
 ·have q:=h.few
  simp only[List.length_cons] at q
  rw[List.length_append,Vz]
  show Zt (inB l t.no)+ts.length+20*(fuel.toNat-(s.looked+1))≤_
  omega
theorem wait0(l:Bl)(root tree fuel:Int):WaitOk l tree fuel (Zd l root tree fuel) [⟨root,0,281474976710656,[],0,none,0⟩] ws0 :=
 ⟨rfl,by rw[Nv,Zfl,Gv (show ws0.dry=false from rfl) (show(0:Int)=0 from rfl)];unfold Zd;rw[show 17-([]:List Int).length=17 from rfl],fun t ht=>by rw[List.mem_singleton.1 ht];exact Nat.zero_le _,fun t ht _=>by rw[List.mem_singleton.1 ht];rfl,by show 1+20*(fuel.toNat-0)≤20*fuel.toNat+1;omega⟩
theorem Yf.below_visits{B:Nat}{w:World}{u:Value}{l:Bl}{t:Wt}{ts:List Wt}{fv:List Ft}{p:O0}{c n:Nat}(h:Yf B w u ((t::ts).map Zb9++fv.map Zhe))(k:Qr B w p c (t.way++[t.no]))(ha:Vg (.slice p (t.way++[t.no]).length c) u) :
 Yf B w u ((Yt l t p c n++ts).map Zb9++fv.map Zhe):=by
 intro x hx
 rcases List.mem_append.1 hx with hx|hx
 ·obtain⟨y,hy,rfl⟩:=List.mem_map.1 hx
  rcases List.mem_append.1 hy with hy|hy
  ·obtain⟨i,_,rfl⟩:=List.mem_map.1 hy
   unfold Vc
   split
   ·exact⟨k,ha⟩
   ·exact h (Zb9 t) (by simp)
  ·exact h (Zb9 y) (List.mem_append.2 (.inl (List.mem_map.2 ⟨y,List.mem_cons_of_mem _ hy,rfl⟩)))
 ·exact h x (List.mem_append.2 (.inr hx))
theorem Yf.note{B:Nat}{w:World}{u:Value}{t:Wt}{ts:List Wt}{fv:List Ft}{f:Ft}(h:Yf B w u ((t::ts).map Zb9++fv.map Zhe))(k:Qr B w f.fa f.fc f.bl)(ha:Vg (.slice f.fa f.bl.length f.fc) u) :
 Yf B w u (ts.map Zb9++(fv++[f]).map Zhe):=by
 intro x hx
 rcases List.mem_append.1 hx with hx|hx
 ·exact h x (List.mem_append.2 (.inl (by rw[List.map_cons];exact List.mem_cons_of_mem _ hx)))
 ·rw[List.map_append] at hx
  rcases List.mem_append.1 hx with hx|hx
  ·exact h x (List.mem_append.2 (.inr hx))
  ·rw[List.map_cons,List.map_nil,List.mem_singleton] at hx;rw[hx];exact⟨k,ha⟩
theorem Yf.drop1{B:Nat}{w:World}{u:Value}{t:Wt}{ts:List Wt}{fv:List Ft}(h:Yf B w u ((t::ts).map Zb9++fv.map Zhe)):Yf B w u (ts.map Zb9++fv.map Zhe):=h.sub fun x hx=>by
 rcases List.mem_append.1 hx with hx|hx
 ·exact List.mem_append.2 (.inl (by rw[List.map_cons];exact List.mem_cons_of_mem _ hx))
 ·exact List.mem_append.2 (.inr hx)
theorem Xw{fv:List Ft}{fs:List (List Int×Int)}{f:Ft}(h:fv.map Yd=fs):(fv++[f]).map Yd=fs++[(f.bl,f.c)]:=by rw[List.map_append,h];rfl
theorem Qr.apart{B base e size n c:Nat}{w W:World}{u:Value}{xs:List Value}{a:O0}{l:List Int}(q:Qr B W a c l)(k:w.ownsRow base e size u n xs)(h:w.heap.size≤B):Vg (.slice a l.length c) u:=(Vg.of_lt k q h).symm
theorem Yf.hd{B:Nat}{w:World}{u:Value}{t:Wt}{ts:List Wt}{L:List RowK}(h:Yf B w u ((t::ts).map Zb9++L)):Qr B w t.wa t.wc t.way:=(h (Zb9 t) (by simp)).1
def Np(B N:Nat)(w:World)(a:O0)(c:Nat)(ts:List Wt):Prop:=∃ v0 n0 xs0,w.ownsRow B 216 5 v0 n0 xs0∧(∀ j,v0.ownBlock=some j→j<N)∧∀ W,W.ownsRow B 216 5 v0 n0 xs0→Sts wtC W (.slice a ts.length c) ts
theorem Mj.at_{B:Nat}{w:World}{a:O0}{c:Nat}{ts:List Wt}(h:Mj B w a c ts):Np B w.heap.size w a c ts:=by
 obtain⟨v0,n0,a0,h1,h2⟩:=h
 exact⟨v0,n0,a0,h1,fun j hj=>(h1.lt j hj).2,h2⟩
theorem Np.un{B N:Nat}{w:World}{a:O0}{c:Nat}{ts:List Wt}(h:Np B N w a c ts):Mj B w a c ts:=by
 obtain⟨v0,n0,a0,h1,_,h2⟩:=h
 exact⟨v0,n0,a0,h1,h2⟩
theorem Np.below{B N:Nat}{w W:World}{a:O0}{c:Nat}{ts:List Wt}(h:Np B N w a c ts)(hb:B0 w W):Np B N W a c ts:=by
 obtain⟨v0,n0,a0,h1,h3,h2⟩:=h
 exact⟨v0,n0,a0,Zb h1 hb,h3,h2⟩
theorem Np.only{B N:Nat}{w W:World}{a:O0}{c:Nat}{ts:List Wt}{T:List TypeId}(h:Np B N w a c ts)(hO:Ze T w W)(hT:T.contains 216=false):Np B N W a c ts:=by
 obtain⟨v0,n0,a0,h1,h3,h2⟩:=h
 exact⟨v0,n0,a0,Zn h1 hO hT,h3,h2⟩
theorem Np.updN{B N:Nat}{w w0 W W2:World}{b:Nat}{cs:List Value}{e:TypeId}{a:O0}{c:Nat}{ts:List Wt}(h:Np B N w a c ts)(u:Upd w b W)(n:New w0 b cs e W2)(hN:N=w0.heap.size):Np B N W a c ts:=by
 obtain⟨v0,n0,a0,h1,h3,h2⟩:=h
 exact⟨v0,n0,a0,u.own3 h1 (fun j hj=>by have:=h3 j hj;have:=n.at_;omega),h3,h2⟩
theorem Np.sts{B N:Nat}{w:World}{a:O0}{c:Nat}{ts us:List Wt}(h:Np B N w a c ts)(e:ts=us):Sts wtC w (.slice a us.length c) us:=sts_eq h.un.sts e
theorem Np.tail{B N:Nat}{w:World}{a:O0}{c:Nat}{ts us:List Wt}{t:Wt}(h:Np B N w a c ts)(e:ts=t::us):Mj B w (Qu a 1 c 5) (c-1) us:=by subst e;exact h.un.tail
theorem Np.slN{B N:Nat}{w:World}{a:O0}{c:Nat}{ts us:List Wt}{t:Wt}(h:Np B N w a c ts)(e:ts=t::us):Sl w (.slice (Qu a 1 c 5) (ts.length-1) (c-1)) (ts.length-1) (us.flatMap wtC):=by subst e;exact h.un.tail.sts
theorem Zhn(ts:List Wt):∀ u∈ts.flatMap wtC,u.oneCell'=true:=by
 intro u hu
 obtain⟨t,_,h⟩:=List.mem_flatMap.1 hu
 simp only[wtC,List.mem_cons,List.not_mem_nil,or_false] at h
 rcases h with rfl|rfl|rfl|rfl|rfl<;>rfl
end Go.Proofs.YtegcamkgeacjfaaGreatDoor
