/- build.level at entries that are right, in an allocator with room. -/
import Derived.RangeFuncNested
import Derived.RangeFuncBound
import Derived.RangeFuncCalls
import Derived.RangeFuncLeaves
import Derived.OwnWalkIn
import Derived.OrdersIn
import Derived.Laws.StructEq
import Derived.Test.YtgphgaehfdfjjaaGreatMg3
namespace Go.Proofs.YtgphgaehfdfjjaaGreat
set_option maxHeartbeats 8000000
set_option maxRecDepth 100000
open Go.RowKit Go.Extern.Stop Go.Stop Go.Extern
set_option linter.unusedVariables false
attribute [local irreducible] wpList wpAnyH Code.wp Oper.wp Go
def Zed(B ba b g nn cc:Nat)(pa:O0)(ca f N k0:Nat)(bs:Bl)(t:Int)(leaf:Bool)(m v:Nat)(l:List Ent)(w:World)(e:Ending)(w':World):Prop :=
 ∃ p c,e=.returned (.tuple #[.slice p (ovN l.length m) c,.nilIface])∧Below B w w'∧Ze [72,5] w w'∧Fr [ba,g] w w'∧Al B ba b g nn cc pa ca f N (k0+ovN l.length m) (Uo t leaf m v l (f+k0) bs (ovN l.length m)) w'∧w'.ownsRow w.heap.size 45 3 (.slice p (ovN l.length m) c) (ovN l.length m) ((upE l m (f+k0) (ovN l.length m)).flatMap Va)
theorem Od(B ba b g nn cc:Nat)(pa:O0)(ca f N k0:Nat)(bs:Bl)(t:Int)(leaf:Bool)(m v:Nat)(a:O0)(c:Nat)(l:List Ent)(w:World)(hC:AlC B ba nn cc ca f N)(hA:Al B ba b g nn cc pa ca f N k0 bs w)(ht1:1≤t)(ht2:t≤5)(hm:Qq t leaf=m)(hv:Ht t leaf=v)(E:EntsOk v l)(hl:leaf=false→1≤l.length)(hn:l.length≤32768)(hf1:1≤f)(hk:k0+ovN l.length m≤N)(hin:∀ W,Below B w W→Ze [72,5] w W→Sts Va W (.slice a l.length c) l)(hBw:B≤w.heap.size) :
 C0 31 #[P0 ba,V0 t,.bool leaf,.slice a l.length c] w (Zed B ba b g nn cc pa ca f N k0 bs t leaf m v l w):=by
 have n1:=Yb t leaf
 rw[hm] at n1
 have o4:=hC.hf
 have p0:=hC.hn
 refine zin 96 Tryz.func31 ?_
 refine xr 18 (args:=#[V0 t,.bool leaf]) (Bw t leaf m hm ht1 ht2 _) fun W1 h0=>?_
 refine xc 0 (args:=#[V0 (l.length:Int),V0 (m:Int)]) (Zbl l.length m _ hn (by omega) (by omega)) ?_
 rintro _ W2 ⟨_,rfl,i7,ps,cs,rfl,e5⟩
 have n0:=(blB (Below.refl B w) hBw h0).size
 have g8:=Zh e5 n0
 have k1:=(hA.below h0).below i7
 have hB:=blB (blB (Below.refl B w) hBw h0) hBw i7
 have hX:=(show Fr [ba,g] w _ from(Fr.of_below h0)).trans (Fr.of_below i7)
 have hO:=(show Ze [72,5] w _ from(Ze.of_below h0)).trans (Ze.of_below i7)
 refine zl 5 96 (fun zm j6 V=>∃ (i:Nat) (a2:O0) (c2:Nat) (l2:List Ent) (p4:O0) (c4:Nat),j6=[(0,P0 ba),(1,V0 t),(2,.bool leaf),(3,.slice a2 l2.length c2),(10,.slice p4 i c4),(26,.slice ps (ovN l.length m) cs),(27,V0 (↑(ovN l.length m):Int)),(28,V0 (i:Int))]∧zm=ovN l.length m-((i:Int)).toNat∧Below B w V∧Fr [ba,g] w V∧Ze [72,5] w V∧V.ownsRow w.heap.size 3 1 (.slice ps (ovN l.length m) cs) (ovN l.length m) ((sizL l.length m).map nv)∧V.ownsRow w.heap.size 45 3 (.slice p4 i c4) i ((upE l m (f+k0) i).flatMap Va)∧Al B ba b g nn cc pa ca f N (k0+i) (Uo t leaf m v l (f+k0) bs i) V∧(∀ W,Below B w W→Ze [72,5] w W→Sts Va W (.slice a2 l2.length c2) l2)∧i≤ovN l.length m∧l2=l.drop (i*m)) ⟨0,a,c,l,none,0,rfl,rfl,hB,hX,hO,g8,World.ownsRow_nil _ _ _ _,k1,?_,Nat.zero_le _,by simp⟩ ?_
 ·exact hin
 rintro _ _ W3 ⟨i,a2,c2,l2,p4,c4,rfl,rfl,e0,i2,d9,e5,l8,hA,i8,hi,h8⟩ J3 l9 r3
 have m6:=Sl.cap (i8 _ e0 d9)
 have q8:i<ovN l.length m→i*m≤l.length:=Sy (by omega)
 have j8:l2.length=l.length-i*m:=by rw[h8];simp
 have g9:Ye l.length m i≤l2.length:=by rw[j8];unfold Ye;omega
 refine xid 6 ((i:Int)<(↑(ovN l.length m):Int)) (fun m8=>?_) (fun m8=>?_)
 ·refine xx 6 _ (ovN l.length m) i 1 (Zaa (Zf e5) (k:=i) (by omega)).1 ?_
  refine xl 0 ((Zaa (Zf e5) (k:=i) (by omega)).2) ?_
  have j2:=e0
  have d0:=d9
  have d3:=i2
  refine xa 8 [V0 0,.bool false,S0,S0] 117 fun b6 W6 n6=>?_
  refine xsv 0 n6.blk [V0 t,.bool leaf,S0,S0] fun W7 u7 k7=>?_
  have g6:=n6.ge (B3 W3)
  refine xsH 7 (fun _ _ _ _ zo zx zy V=>Xz (k:=(Ye l.length m i)) (b:=a2) (n:=l2.length) (c:=c2) (i:=(↑(Ye l.length m i):Int)) (ki:=.i64) zo zx zy rfl (by omega) Tryz.underlying37 (by kernel_rfl) V) ?_
  have hB:=u7.below n6.below g6
  refine zl 5 96 (fun zm j6 V=>∃ (j:Nat) (kp:O0) (kc:Nat) (vp:O0) (vc:Nat),j6=[(0,P0 ba),(1,V0 t),(2,.bool leaf),(3,.slice a2 l2.length c2),(10,.slice p4 i c4),(12,V0 (↑(Ye l.length m i):Int)),(13,P0 b6),(26,.slice ps (ovN l.length m) cs),(27,V0 (↑(ovN l.length m):Int)),(28,V0 (i:Int)),(37,.slice a2 (Ye l.length m i) c2),(38,V0 (↑(Ye l.length m i):Int)),(39,V0 (j:Int))]∧zm=Ye l.length m i-((j:Int)).toNat∧B0 W3 V∧Blk V b6 ([V0 t,.bool leaf,.slice kp j kc,.slice vp j vc]) 117∧V.ownsRow W3.heap.size 3 1 (.slice kp j kc) j (((Yr l2).take j).map V0)∧V.ownsRow W3.heap.size 9 1 (.slice vp j vc) j (((Vr l2).take j).map sv)∧j≤Ye l.length m i) ⟨0,none,0,none,0,rfl,rfl,hB,k7,World.ownsRow_nil _ _ _ _,World.ownsRow_nil _ _ _ _,Nat.zero_le _⟩ ?_
  rintro _ _ W8 ⟨j,kp,kc,vp,vc,rfl,rfl,c7,b4,hK,hV,hj⟩ J8 m5 r8
  refine xid 6 ((j:Int)<(↑(Ye l.length m i):Int)) (fun n2=>?_) (fun n2=>?_)
  ·have b1:=i8 _ j2 d0
   refine xx 6 _ (Ye l.length m i) j 3 (Sts.cell b1 Xn Zi (k:=j) (i:=0) (by omega) rfl).1 ?_
   refine xlv 0 (Sts.rp (k:=j) (b1.below c7) Xn Zi (by omega) (by decide)) ?_
   refine xa 0 [V0 0,.string ⟨#[]⟩,V0 0] 45 fun r0 p5 c5=>?_
   have n7:=c5.ge c7
   refine xsv 0 c5.blk [V0 ((l2.getD j Zi).1),.string ⟨((l2.getD j Zi).2.1).toArray⟩,V0 ((l2.getD j Zi).2.2)] fun p9 i4 m0=>?_
   have b2:=i4.blkT (b4.below c5.below) c5.blk (by decide)
   refine xb 5 2 b2 ?_
   refine xb 1 0 m0 ?_
   refine xbs 0 1 [V0 ((l2.getD j Zi).1)] 3 fun q3 q1 d6=>?_
   have h3:=i4.below (bln c7 c5.below) n7
   have r1:=d6.ge h3
   have h5:=i4.own2 (Zb hK c5.below) c5.blk (by decide)
   have k5:=Xa h5 d6
   have c3:=Zb h5 d6.below
   have f0:=bln h3 d6.below
   refine xbi 0 fun _ _ _ _ zJ zQ zo zx zy zK=>Xk (m:=1) (news:=[V0 ((l2.getD j Zi).1)]) (V0 0) 1 8 (j+1) (((Yr l2).take (j+1)).map V0) zo Tryz.underlying68 (by kernel_rfl) rfl (by decide) zx c3 zy (d6.blk.sl 1 1 (by decide) (by decide)) rfl (by simp[Value.oneCell']) (by unfold maxLen;omega) (by omega) f0.size (by rfl) ((Zeo (by omega)).symm) fun h4 g2 o3 m7 d8 k2=>?_
   refine zK _ _ ?_
   have a1:=(b2.below d6.below).grown d8 c3 (by decide)
   refine xs 1 a1 [V0 t,.bool leaf,.slice h4 (j+1) g2,.slice vp j vc] fun o5 j0 m2=>?_
   refine xb 4 3 m2 ?_
   have f1:=j0.blkT ((m0.below d6.below).grown d8 c3 (by decide)) a1 (by decide)
   refine xb 1 1 f1 ?_
   refine xbs 0 1 [.string ⟨((l2.getD j Zi).2.1).toArray⟩] 9 fun q4 q2 e1=>?_
   have f7:=j0.below (f0.trans k2) g6
   have q7:=e1.ge f7
   have g7:=j0.own2 (Zz (Zb (i4.own2 (Zb hV c5.below) c5.blk (by decide)) d6.below) d8 c3 (by decide)) a1 (by decide)
   have j3:=Xa g7 e1
   have d7:=Zb g7 e1.below
   have i0:=bln f7 e1.below
   refine xbi 0 fun _ _ _ _ zJ zQ zo zx zy zK=>Xk (m:=1) (news:=[.string ⟨((l2.getD j Zi).2.1).toArray⟩]) (.string ⟨#[]⟩) 1 16 (j+1) (((Vr l2).take (j+1)).map sv) zo Tryz.underlying115 (by kernel_rfl) rfl (by decide) zx d7 zy (e1.blk.sl 1 1 (by decide) (by decide)) rfl (by simp[Value.oneCell']) (by unfold maxLen;omega) (by omega) i0.size (by rfl) ((Zgk (by omega)).symm) fun k6 l6 p2 o2 e9 k8=>?_
   refine zK _ _ ?_
   have b3:=(m2.below e1.below).grown e9 d7 (by decide)
   refine xs 1 b3 [V0 t,.bool leaf,.slice h4 (j+1) g2,.slice k6 (j+1) l6] fun q6 l7 n8=>?_
   refine xwm 4 ((j:Int)+1) (↑(j+1):Int) ?_
   have l3:=l7.below (i0.trans k8) g6
   have g5:=l7.own2 (Zz (Zb (j0.own2 m7 a1 (by decide)) e1.below) e9 d7 (by decide)) b3 (by decide)
   have i1:=l7.own2 o2 b3 (by decide)
   exact ze 2 (m5 _ _ _ ⟨j+1,_,_,_,_,rfl,rfl,l3,n8,g5,i1,by omega⟩ (by omega))
  refine xsL 9 (fun _ _ _ _ zo zx zy V=>Jr (k:=(Ye l.length m i)) (b:=a2) (n:=l2.length) (c:=c2) (i:=(↑(Ye l.length m i):Int)) (ki:=.i64) 3 zo zx zy rfl (by omega) Tryz.underlying37 (by kernel_rfl) V) ?_
  refine xlv 5 b4.rp ?_
  have a6:B0 W3 W8:=c7
  have f3:w.heap.size≤W3.heap.size:=j2.size
  have g1:Ye l.length m i=j:=by omega
  have n3:(Yr l2).take j=Yr (Zm l m i):=by rw[h8];exact Zbq g1
  have n5:(Vr l2).take j=Vr (Zm l m i):=by rw[h8];exact Zdi g1
  have i6:(Zm l m i).length=j:=by rw[Kg,g1]
  have e4:=Zh hK f3
  rw[n3] at e4
  have g0:=Zh hV f3
  rw[n5] at g0
  have hN:=Un E ht1 ht2 hm hv hl (show i<ovN l.length m by omega)
  have f6:=Lg hN
  rw[i6] at hN
  have m3:Jt m v (Vt t leaf j m v) (Yr (Zm l m i)) (Vr (Zm l m i)) j=Zfz t leaf m v (Zm l m i):=by rw[←i6];rfl
  refine xc 0 (args:=#[.agg #[V0 t,.bool leaf,.slice kp j kc,.slice vp j vc]]) (node_Put t leaf j m v (Yr (Zm l m i)) (Vr (Zm l m i)) kp vp kc vc _ hN (Zf e4) (Zf g0)) ?_
  rintro _ o8 ⟨_,rfl,a4,p6,c6,rfl,h6⟩
  have l1:=(blB j2 hBw a6).size
  have f5:=Zh h6 l1
  rw[m3] at f5
  have j9:=(hA.below a6).below a4
  have hO:=(d0.trans (Ze.of_below a6)).trans (Ze.of_below a4)
  have hB:=blB (blB j2 hBw a6) hBw a4
  refine xc 21 (args:=#[P0 ba,V0 2,.slice p6 244 c6]) (Zb7 B ba b g nn cc pa ca f N (k0+i) (Uo t leaf m v l (f+k0) bs i) 2 p6 c6 (Zfz t leaf m v (Zm l m i)) (f+k0+i) 244 _ (Nat.add_assoc _ _ _).symm f6 hC j9 (by omega) (by decide) (by decide) (fun W _ hO=>Jh (Zf (Zg f5 hO (by decide))) f6) (by decide) (Nat.le_trans hBw hB.size)) ?_
  rintro _ q0 ⟨rfl,l0,a9,g3,hA⟩
  refine xr 20 (args:=#[V0 (↑(f+k0+i):Int)]) (Nk ((f+k0+i:Nat):Int) (by omega) (by omega) _) fun r4 a0=>?_
  refine xa 2 [V0 0,.string ⟨#[]⟩,V0 0] 45 fun o6 p8 a3=>?_
  have e2:=blB (hB.trans l0) hBw a0
  have c0:=a3.ge0 e2
  have b5:=Zb (Zg (Zb (Zb l8 a6) a4) a9 (by decide)) a0
  have a5:=Xa b5 a3
  refine xsv 0 a3.blk [V0 0,.string ⟨(leB (↑(f+k0+i):Int) 4).toArray⟩,V0 (↑(f+k0+i):Int)] fun r2 b0 f8=>?_
  refine xid 9 ((↑(Ye l.length m i):Int)>(0:Int)) (fun k4=>?_) (fun k4=>?_)
  ·have f9:((Yr (Zm l m i))).getD 0 0=((Zm l m i).getD 0 Zi).1:=Zg9 g1 (by omega)
   have c1:=b0.blkT ((((b4.below a4).only a9 (by decide)).below a0).below a3.below) a3.blk (by decide)
   refine xb 2 2 c1 ?_
   have e7:=b0.own2 (Zb (Zb (Zg (Zb e4 a4) a9 (by decide)) a0) a3.below) a3.blk (by decide)
   refine xx 0 _ j 0 1 (IntsN.elem (Zf e7) (by rw[Ub,i6]) (k:=0) (by omega)).1 ?_
   refine xl 0 ((IntsN.elem (Zf e7) (by rw[Ub,i6]) (k:=0) (by omega)).2) ?_
   refine xs 1 f8 [V0 ((Yr (Zm l m i)).getD 0 0),.string ⟨(leB (↑(f+k0+i):Int) 4).toArray⟩,V0 (↑(f+k0+i):Int)] fun r5 e6 m1=>?_
   refine xlv 4 m1.rp ?_
   refine xbs 0 1 [V0 ((Yr (Zm l m i)).getD 0 0),.string ⟨(leB (↑(f+k0+i):Int) 4).toArray⟩,V0 (↑(f+k0+i):Int)] 45 fun q5 q9 b8=>?_
   have j1:=b8.ne m1
   have e8:=e6.below (b0.below (blB e2 hBw a3.below) (Nat.le_trans hBw c0)) (Nat.le_trans hBw c0)
   have p1:=b8.ge0 e8
   have d5:=e6.own3 (b0.own3 (Zb b5 a3.below) a5) a5
   have i9:=Xa d5 b8
   have a7:=Zb d5 b8.below
   have f2:=blB e8 hBw b8.below
   refine xbi 0 fun _ _ _ _ zJ zQ zo zx zy zK=>Xk (m:=1) (news:=[V0 ((Yr (Zm l m i)).getD 0 0),.string ⟨(leB (↑(f+k0+i):Int) 4).toArray⟩,V0 (↑(f+k0+i):Int)]) (.agg #[V0 0,.string ⟨#[]⟩,V0 0]) 3 32 (i+1) ((upE l m (f+k0) (i+1)).flatMap Va) zo Tryz.underlying37 (by kernel_rfl) rfl (by decide) zx a7 zy (b8.blk.sl 1 1 (by decide) (by decide)) rfl (by simp[Value.oneCell']) (by unfold maxLen;omega) (by omega) f2.size (by rfl) (up_row (by first|exact f9|exact d1)) fun m9 n9 o9 o0 b9 l4=>?_
   refine zK _ _ ?_
   refine xwm 5 ((i:Int)+1) (↑(i+1):Int) ?_
   refine xv1 2 3 (show(.slice (Pt a2 (Ye l.length m i) c2 3) (l2.length-(Ye l.length m i)) (c2-(Ye l.length m i)):Value)=.slice (Pt a2 (Ye l.length m i) c2 3) ((l2.drop (Ye l.length m i)).length) (c2-Ye l.length m i) from by rw[List.length_drop]) ?_
   have j4:=(((((hA.below a0).below a3.below).only (Ze.of_upd (T:=[45]) b0 a3.blk (by decide)) (by decide)).only (Ze.of_upd (T:=[45]) e6 f8 (by decide)) (by decide)).below b8.below).only (Ze.of_grown (T:=[45]) b9 a7 (by decide)) (by decide)
   have e3:l2.drop (Ye l.length m i)=l.drop ((i+1)*m):=by
    rw[h8,List.drop_drop,Nat.add_mul,Nat.one_mul]
    unfold Ye
    rcases Nat.le_total m (l.length-i*m) with q|q
    ·rw[Nat.min_eq_left q]
    ·rw[Nat.min_eq_right q,List.drop_eq_nil_of_le (by omega),List.drop_eq_nil_of_le (by omega)]
   have l5:=f2.trans (l4.mono hBw)
   have hX:=(Fr.grown_new ((Fr.upd_new (Fr.upd_new (((((d3.trans (Fr.of_below a6)).trans (Fr.of_below a4)).trans (g3.mono (by simp))).trans (Fr.of_below a0)).trans (Fr.of_below a3.below)) b0 c0) e6 c0).trans (Fr.of_below b8.below)) b9 a7)
   have k3:=(Ze.grown_new ((Ze.upd_new (Ze.upd_new (((hO.trans a9).trans (Ze.of_below a0)).trans (Ze.of_below a3.below)) b0 c0) e6 c0).trans (Ze.of_below b8.below)) b9 a7)
   have h9:=Zz (Zb (e6.own2 (b0.own2 (Zb (Zb (Zg (Zb (Zb e5 a6) a4) a9 (by decide)) a0) a3.below) a3.blk (by decide)) f8 (by decide)) b8.below) b9 a7 (by decide)
   exact ze 0 (l9 _ _ _ ⟨i+1,_,_,(l2.drop (Ye l.length m i)),_,_,rfl,rfl,l5,hX,k3,h9,o0,j4,fun W h1 h2=>Sts.cut Xn (i8 W h1 h2) _ g9,by omega,e3⟩ (by omega))
  have d1:(0:Int)=((Zm l m i).getD 0 Zi).1:=Tu g1 (by omega)
  refine xlv 4 f8.rp ?_
  refine xbs 0 1 [V0 0,.string ⟨(leB (↑(f+k0+i):Int) 4).toArray⟩,V0 (↑(f+k0+i):Int)] 45 fun r6 o7 b7=>?_
  have i3:=b7.ne f8
  have c9:=b0.below (blB e2 hBw a3.below) (Nat.le_trans hBw c0)
  have p3:=b7.ge0 c9
  have d2:=b0.own3 (Zb b5 a3.below) a5
  have i5:=Xa d2 b7
  have a8:=Zb d2 b7.below
  have d4:=blB c9 hBw b7.below
  refine xbi 0 fun _ _ _ _ zJ zQ zo zx zy zK=>Xk (m:=1) (news:=[V0 0,.string ⟨(leB (↑(f+k0+i):Int) 4).toArray⟩,V0 (↑(f+k0+i):Int)]) (.agg #[V0 0,.string ⟨#[]⟩,V0 0]) 3 32 (i+1) ((upE l m (f+k0) (i+1)).flatMap Va) zo Tryz.underlying37 (by kernel_rfl) rfl (by decide) zx a8 zy (b7.blk.sl 1 1 (by decide) (by decide)) rfl (by simp[Value.oneCell']) (by unfold maxLen;omega) (by omega) d4.size (by rfl) (up_row (by first|exact f9|exact d1)) fun n4 m4 p7 o1 c8 j7=>?_
  refine zK _ _ ?_
  refine xwm 5 ((i:Int)+1) (↑(i+1):Int) ?_
  refine xv1 2 3 (show(.slice (Pt a2 (Ye l.length m i) c2 3) (l2.length-(Ye l.length m i)) (c2-(Ye l.length m i)):Value)=.slice (Pt a2 (Ye l.length m i) c2 3) ((l2.drop (Ye l.length m i)).length) (c2-Ye l.length m i) from by rw[List.length_drop]) ?_
  have j5:=((((hA.below a0).below a3.below).only (Ze.of_upd (T:=[45]) b0 a3.blk (by decide)) (by decide)).below b7.below).only (Ze.of_grown (T:=[45]) c8 a8 (by decide)) (by decide)
  have e3:l2.drop (Ye l.length m i)=l.drop ((i+1)*m):=by
   rw[h8,List.drop_drop,Nat.add_mul,Nat.one_mul]
   unfold Ye
   rcases Nat.le_total m (l.length-i*m) with q|q
   ·rw[Nat.min_eq_left q]
   ·rw[Nat.min_eq_right q,List.drop_eq_nil_of_le (by omega),List.drop_eq_nil_of_le (by omega)]
  have h7:=d4.trans (j7.mono hBw)
  have hX:=(Fr.grown_new ((Fr.upd_new (((((d3.trans (Fr.of_below a6)).trans (Fr.of_below a4)).trans (g3.mono (by simp))).trans (Fr.of_below a0)).trans (Fr.of_below a3.below)) b0 c0).trans (Fr.of_below b7.below)) c8 a8)
  have k9:=(Ze.grown_new ((Ze.upd_new (((hO.trans a9).trans (Ze.of_below a0)).trans (Ze.of_below a3.below)) b0 c0).trans (Ze.of_below b7.below)) c8 a8)
  have f4:=Zz (Zb (b0.own2 (Zb (Zb (Zg (Zb (Zb e5 a6) a4) a9 (by decide)) a0) a3.below) a3.blk (by decide)) b7.below) c8 a8 (by decide)
  exact ze 0 (l9 _ _ _ ⟨i+1,_,_,(l2.drop (Ye l.length m i)),_,_,rfl,rfl,h7,hX,k9,f4,o1,j5,fun W h1 h2=>Sts.cut Xn (i8 W h1 h2) _ g9,by omega,e3⟩ (by omega))
 refine xe 13 (.tuple #[.slice p4 i c4,.nilIface]) ?_
 obtain rfl:i=ovN l.length m:=by omega
 exact⟨_,_,rfl,e0,d9,i2,hA,l8⟩
theorem Zee{w w':World}(h:Ze [72,5] w w'):Ze [72,5,31] w w':=h.mono fun t ht=>by simp at ht ⊢;exact⟨ht.1,ht.2.1⟩
def Zef(B ba b g nn cc:Nat)(pa:O0)(ca f N k0:Nat)(bs:Bl)(t:Int)(leaf:Bool)(m v:Nat)(l:List Ent)(b8:Nat)(w:World)(e:Ending)(w':World):Prop :=
 ∃ p c,e=.returned (.slice p (ovN l.length m) c)∧Below B w w'∧Ze [72,5,31] w w'∧Fr [ba,g,b8] w w'∧Blk w' b8 [.nilIface] 31∧Al B ba b g nn cc pa ca f N (k0+ovN l.length m) (Uo t leaf m v l (f+k0) bs (ovN l.length m)) w'∧w'.ownsRow w.heap.size 45 3 (.slice p (ovN l.length m) c) (ovN l.length m) ((upE l m (f+k0) (ovN l.length m)).flatMap Va)
theorem Cb(B ba b g nn cc:Nat)(pa:O0)(ca f N k0:Nat)(bs:Bl)(t:Int)(leaf:Bool)(m v:Nat)(a:O0)(c:Nat)(l:List Ent)(b3 b4 b8:Nat)(w:World)(k3:Blk w b3 [P0 ba] 29)(k4:Blk w b4 [V0 t] 3)(k8:Blk w b8 [.nilIface] 31)(h38:b3≠b8)(h48:b4≠b8)(hB8:B≤b8)(hC:AlC B ba nn cc ca f N)(hA:Al B ba b g nn cc pa ca f N k0 bs w)(ht1:1≤t)(ht2:t≤5)(hm:Qq t leaf=m)(hv:Ht t leaf=v)(E:EntsOk v l)(hl:leaf=false→1≤l.length)(hn:l.length≤32768)(hf1:1≤f)(hk:k0+ovN l.length m≤N)(hin:∀ W,Below B w W→Ze [72,5,31] w W→Sts Va W (.slice a l.length c) l)(hBw:B≤w.heap.size) :
 C0 30 #[.bool leaf,.slice a l.length c,P0 b3,P0 b4,P0 b8] w (Zef B ba b g nn cc pa ca f N k0 bs t leaf m v l b8 w):=by
 refine zin 20 Tryz.func30 ?_
 refine xb 7 0 k3 ?_
 refine xb 0 0 k4 ?_
 refine xc 2 (args:=#[P0 ba,V0 t,.bool leaf,.slice a l.length c]) (Od B ba b g nn cc pa ca f N k0 bs t leaf m v a c l _ hC hA ht1 ht2 hm hv E hl hn hf1 hk (fun W h1 h2=>hin W ((Below.refl B _).trans h1) ((Ze.refl _ _).trans (Zee h2))) (Nat.le_trans hBw (Below.refl B _).size)) ?_
 rintro _ W1 ⟨p4,c4,rfl,a6,a3,a4,hA,a5⟩
 have a7:=Nat.le_refl w.heap.size
 have a0:=k8.only a3 (by decide)
 refine xs 10 a0 [.nilIface] fun W2 u2 k2=>?_
 have hB:=u2.below a6 hB8
 have hO:=(show Ze [72,5,31] w _ from(Zee a3)).trans (Ze.of_upd u2 a0 (by decide))
 have hX:=(show Fr [ba,g,b8] w _ from(a4.mono (by simp))).trans (Fr.of_upd u2 (by simp))
 have a2:=hA.only (Ze.of_upd (T:=[31]) u2 a0 (by decide)) (by decide)
 have a1:=u2.own2 (Zh a5 a7) a0 (by decide)
 exact xe 9 (.slice p4 (ovN l.length m) c4) ⟨_,_,rfl,hB,hO,hX,k2,a2,a1⟩
def Za7(B ba b g nn cc:Nat)(pa:O0)(ca f N k0:Nat)(bs:Bl)(t:Int)(l:List Ent)(w:World)(e:Ending)(w':World):Prop :=
 e=.returned (.tuple #[V0 (Xw t l (f+k0) bs).1,.nilIface])∧Below B w w'∧Ze [72,5,31] w w'∧Fr [ba,g] w w'∧Al B ba b g nn cc pa ca f N (k0+Ka t l.length) (Xw t l (f+k0) bs).2 w'
theorem Zc0(B ba b g nn cc:Nat)(pa:O0)(ca f N k0:Nat)(bs:Bl)(t:Int)(a:O0)(c:Nat)(l:List Ent)(w:World)(hC:AlC B ba nn cc ca f N)(hA:Al B ba b g nn cc pa ca f N k0 bs w)(ht1:1≤t)(ht2:t≤5)(E:EntsOk (Ht t true) l)(hn:l.length≤32768)(hf1:1≤f)(hkN:k0≤N)(hk:k0+Ka t l.length≤N)(hin:∀ W,Below B w W→Ze [72,5,31] w W→Sts Va W (.slice a l.length c) l)(hBw:B≤w.heap.size) :
 C0 11 #[P0 ba,V0 t,.slice a l.length c] w (Za7 B ba b g nn cc pa ca f N k0 bs t l w):=by
 have g3:=Fm t l.length
 have f9:(ovN l.length (Qq t true))≤Ka t l.length:=Kd _
 have g6:=So l.length (Qq t true) (Yb t true).1
 have f4:=Xy l.length (Qq t true)
 have f8:=hC.hf
 have f6:=hC.hn
 refine zin 52 Tryz.func11 ?_
 refine xa 2 [P0 ba] 29 fun b1 W1 n1=>?_
 refine xa 0 [V0 t] 3 fun b2 W2 n2=>?_
 have k1:=n1.blk.below n2.below
 refine xb 8 0 k1 ?_
 have c8:=(hA.below n1.below).below n2.below
 refine xr 0 (args:=#[P0 ba]) (Qz ba b _ _ _ c8.blkA) fun W3 b8=>?_
 have k2:=n2.blk.below b8
 refine xb 7 0 k2 ?_
 have hB:=blB (blB (blB (Below.refl B w) hBw n1.below) hBw n2.below) hBw b8
 have hO:=((show Ze [72,5,31] w _ from(Ze.of_below n1.below)).trans (Ze.of_below n2.below)).trans (Ze.of_below b8)
 refine xr 1 (args:=#[V0 t,.slice a l.length c]) (Ik t (Ht t true) a c l _ ht1 ht2 rfl E (hin _ hB hO) hn) fun W4 b5=>?_
 refine xd 6 .z ?_
 have c0:=((k1.below b8).below b5).below (Za W4)
 refine xb (.e [] 0) 0 c0 ?_
 have c1:=(k2.below b5).below (Za W4)
 refine xb (.e [] 2) 0 c1 ?_
 have c6:=((c8.below b8).below b5).below (Za W4)
 refine xr (.o [3,4] 1) (args:=#[P0 ba]) (Zcg ba b pa N ca k0 _ c6.blkA hkN) fun W5 b6=>?_
 refine xr (.o [] 5) (args:=#[V0 t,V0 (l.length:Int)]) (Ei t l.length _ ht1 ht2 hn) fun W6 b4=>?_
 refine xk (.r [6,7] 2) (show(decide ((↑(N-k0):Int)<(↑(Ka t l.length):Int)):Bool)=false from decide_eq_false (by omega)) ?_
 refine xa 5 [.nilIface] 31 fun b7 W7 n7=>?_
 have a7:=blB (blB (blB (blB hB hBw b5) hBw (Za W4)) hBw b6) hBw b4
 have g7:=n7.ge0 a7
 have a6:=((c0.below b6).below b4).below n7.below
 have b0:=((c1.below b6).below b4).below n7.below
 have d3:=((c6.below b6).below b4).below n7.below
 have a9:=blB a7 hBw n7.below
 have c5:=((((hO.trans (Ze.of_below b5)).trans (Ze.of_below (Za W4))).trans (Ze.of_below b6)).trans (Ze.of_below b4)).trans (Ze.of_below n7.below)
 refine xc 12 (args:=#[.bool true,.slice a l.length c,P0 b1,P0 b2,P0 b7]) (Cb B ba b g nn cc pa ca f N k0 bs t true (Qq t true) (Ht t true) a c l b1 b2 b7 _ a6 b0 n7.blk (Blk.tne a6 n7.blk (by decide)) (Blk.tne b0 n7.blk (by decide)) (Nat.le_trans hBw g7) hC d3 ht1 ht2 rfl rfl E (by simp) hn hf1 (by omega) (fun W h1 h2=>hin W (a9.trans h1) (c5.trans h2)) (Nat.le_trans hBw a9.size)) ?_
 rintro _ W8 ⟨e2,d5,rfl,e9,e5,f0,e3,hA,a8⟩
 have f5:=(blB a7 hBw n7.below).size
 refine xv1 5 10 (show(.slice e2 (ovN l.length (Qq t true)) d5:Value)=.slice e2 ((upE l (Qq t true) (f+k0) (ovN l.length (Qq t true))).length) d5 from by rw[Xh]) ?_
 have c3:=Zh a8 f5
 have e6:=a9.trans e9
 have hX:=(Fr.trans_new ((((((((show Fr [ba,g] w _ from(Fr.of_below n1.below)).trans (Fr.of_below n2.below)).trans (Fr.of_below b8)).trans (Fr.of_below b5)).trans (Fr.of_below (Za W4))).trans (Fr.of_below b6)).trans (Fr.of_below b4)).trans (Fr.of_below n7.below)) f0 g7)
 have d4:=c5.trans e5
 have e4:=a6.only e5 (by decide)
 have d6:=b0.only e5 (by decide)
 refine zl 0 52 (fun zm f2 V=>∃ (u:List Ent) (K:Nat) (d0:Bl) (p:O0) (c2:Nat),f2=[(6,V0 0),(7,.nilIface),(8,P0 b7),(9,.func (.func 30) #[] #[P0 b1,P0 b2,P0 b7]),(10,.slice p u.length c2)]∧zm=u.length∧Below B w V∧Fr [ba,g] w V∧Ze [72,5,31] w V∧Blk V b1 ([P0 ba]) 29∧Blk V b2 ([V0 t]) 3∧Blk V b7 ([.nilIface]) 31∧V.ownsRow w.heap.size 45 3 (.slice p u.length c2) u.length (u.flatMap Va)∧Al B ba b g nn cc pa ca f N K d0 V∧K+(Je u.length).sum=k0+Ka t l.length+u.length∧1≤u.length∧u.length≤32768∧EntsOk 4 u∧Qd t u (f+K) d0=Xw t l (f+k0) bs) ⟨(upE l (Qq t true) (f+k0) (ovN l.length (Qq t true))),(k0+(ovN l.length (Qq t true))),(Uo t true (Qq t true) (Ht t true) l (f+k0) bs (ovN l.length (Qq t true))),e2,d5,rfl,rfl,e6,hX,d4,e4,d6,e3,(by rw[Xh];exact c3),hA,(by rw[Xh];unfold Ka Jk;omega),(by rw[Xh];exact f4),(by rw[Xh];omega),Mo E (Yb t true).1,(by rw[←Nat.add_assoc];rfl)⟩ ?_
 rintro _ _ W9 ⟨u,K,d0,p,c2,rfl,rfl,a3,b9,c7,a2,a1,a0,a8,hA,hK,f1,f7,hE,c9⟩ J9 f3 r9
 have g2:¬ u.length≤1→(Je u.length).sum=u.length+(Je (ovN u.length 18)).sum:=fun h=>by rw[Yw h];rfl
 have g1:=Kd (ovN u.length 18)
 have g5:2≤u.length→ovN u.length 18≤u.length/2:=Zdw
 have d7:=Xy u.length 18
 refine xb 3 0 a0 ?_
 refine xid 8 ((u.length:Int)>(1:Int)) (fun d8=>?_) (fun d8=>?_)
 ·refine xc 6 (args:=#[.bool false,.slice p u.length c2,P0 b1,P0 b2,P0 b7]) (Cb B ba b g nn cc pa ca f N K d0 t false 18 4 p c2 u b1 b2 b7 _ a2 a1 a0 (Blk.tne a2 a0 (by decide)) (Blk.tne a1 a0 (by decide)) (Nat.le_trans hBw g7) hC hA ht1 ht2 rfl rfl hE (fun _=>f1) (by omega) hf1 (by omega) (fun W _ h2=>Zf (Zg a8 h2 (by decide))) (Nat.le_trans hBw a3.size)) ?_
  rintro _ g0 ⟨e7,e8,rfl,d9,b3,d1,e3,hA,a8⟩
  refine xv1 3 10 (show(.slice e7 (ovN u.length 18) e8:Value)=.slice e7 ((upE u 18 (f+K) (ovN u.length 18)).length) e8 from by rw[Xh]) ?_
  have c4:=Zh a8 a3.size
  have e0:=a3.trans d9
  have d2:=(Fr.trans_new b9 d1 g7)
  have e1:=c7.trans b3
  have a5:=a2.only b3 (by decide)
  have a4:=a1.only b3 (by decide)
  refine ze 0 (f3 _ _ _ ⟨(upE u 18 (f+K) (ovN u.length 18)),(K+ovN u.length 18),_,_,_,rfl,rfl,e0,d2,e1,a5,a4,e3,(by rw[Xh];exact c4),hA,(by rw[Xh];omega),(by rw[Xh];exact d7),(by rw[Xh];omega),Mo hE (by decide),(by rw[←c9,←Nat.add_assoc];exact(Yp (by omega)).symm)⟩ ?_)
  show((upE u 18 (f+K) (ovN u.length 18)).length)<u.length
  rw[Xh];omega
 refine xb 8 0 a0 ?_
 refine xx 9 _ u.length 0 3 (Sts.cell (Zf a8) Xn Zi (k:=0) (i:=0) (by omega) rfl).1 ?_
 refine xl 1 ((Sts.cell (Zf a8) Xn Zi (k:=0) (i:=2) (by omega) rfl).2) ?_
 refine xe 5 (.tuple #[V0 ((u.getD 0 Zi).2.2),.nilIface]) ?_
 have h1:u.length≤1:=by omega
 rw[Ve h1] at c9
 rw[Vq h1] at hK
 simp only[List.sum_cons,List.sum_nil] at hK
 obtain rfl:K=k0+Ka t l.length:=by omega
 refine⟨by rw[←c9],a3,c7,b9,by rw[←c9];exact hA⟩
def entE(v:Nat)(l:List Ent)(i:Nat):Prop:=Zf3 l i<(l.getD i Zi).1∧(l.getD i Zi).1≤281474976710655∧(l.getD i Zi).2.1.length=v
instance (v:Nat) (l:List Ent) (i:Nat):Decidable (entE v l i):=by unfold entE;infer_instance
end Go.Proofs.YtgphgaehfdfjjaaGreat
namespace Go.Proofs.YtgphgaehfdfjjaaGreat
set_option maxHeartbeats 8000000
set_option maxRecDepth 100000
open Go.RowKit
set_option linter.unusedVariables false
theorem rows_in{n:Nat}{P:Program}{row:String}{args:Array Value}{w:World}{R:Value→World→Prop}(h:Rows P row args w R):RowsIn Fence.wide n P row args w R :=
 fun c cs _=>let ⟨v,w',r,q⟩:=h c cs;⟨v,w',r,stepsIn_wide.2 q⟩
theorem Ze7{P:Program}{l n:Nat}{o:Oper}{a:Act}{w:World}{K:Act→World→Prop}{Q:Exit→Act→World→Prop}(hd:∀ c,o.op≠.defer c)(h:o.wp P a w K Q):o.wpIn (Fence.wide.inRound l) n P a w K Q:=by
 unfold Oper.wpIn
 refine⟨fun f _=>trivial,?_⟩
 rw[Oper.semAt_plain _ _ _ hd]
 unfold Oper.wp at h
 generalize (execOp a.eval o).run P w=r at *
 cases r with
 | ok nx w' =>
  cases nx with
  | value v=>exact h
  | skip=>exact h
  | defer d=>exact h
  | enter f args=>exact⟨(fun q=>by cases q),callsIn_wide.2 h⟩
  | row r args=>exact⟨(fun q=>by cases q),rows_in h⟩
  | _=>exact h.elim
 | halt hh w' =>
  cases hh with
  | panic v=>exact h
  | _=>exact h.elim
theorem op_in{P:Program}{l n i:Nat}{ops:Array Oper}{a:Act}{w:World}{K K':Act→World→Prop}{Q:Exit→Act→World→Prop}(hQ:¬ LetsOut Q)(hd:∀ o∈ops.toList,∀ c,o.op≠.defer c)(hK:∀ a w,K a w→K' a w)(h:wpOp P ops Q i K a w):wpOpIn (Fence.wide.inRound l) n P ops Q i K' a w:=by
 unfold wpOp at h
 unfold wpOpIn
 cases ho:ops[i]? with
 | none=>rw[ho] at h;exact hK _ _ h
 | some o =>
  rw[ho] at h
  dsimp only at h ⊢
  split at h
  ·rename_i hw
   rw[if_pos hw]
   have a0:o∈ops.toList:=by
    obtain⟨hi,e⟩:=Array.getElem?_eq_some_iff.1 ho
    rw[←e];exact Array.mem_toList_iff.2 (Array.getElem_mem hi)
   exact Oper.wpIn_mono hK (Ze7 (hd o a0) (h.resolve_right fun q=>hQ q.2))
  ·rename_i hw
   rw[if_neg hw]
   exact⟨fun f _=>trivial,hK _ _ h⟩
theorem any_in{P:Program}{l n:Nat}{md:Region.Mode}{ops:Array Oper}{Q:Exit→Act→World→Prop}(hQ:¬ LetsOut Q)(hd:∀ o∈ops.toList,∀ c,o.op≠.defer c):∀ (fuel:Nat) (L:Array Bool) (a:Act) (w:World),wpAny P md ops Q fuel L a w→wpAnyIn (Fence.wide.inRound l) n P md ops Q fuel L a w
 | 0,_,_,_,h=>h
 | fuel+1,L,a,w,h=>⟨h.1,fun i hi=>op_in hQ hd (fun a w=>any_in hQ hd fuel _ a w) (h.2 i hi)⟩
theorem h_regIn{P:Program}{l0 n0 id:Nat}{l:List Oper}{Q:Exit→Act→World→Prop}{a:Act}{w:World}(S:World→Prop)(n:Nat)(hn:l.toArray.size=n)(L:Array Bool)(hL:Array.replicate n false=L)(hm:P.follows .mixedOrders=true)(hQ:¬ LetsOut Q)(hd:∀ o∈l,∀ c,o.op≠.defer c)(hS:S w.drew)(h:S w.drew→wpAnyH P .any l.toArray Q S n L a w.drew):(Code.region id l.toArray true).wpIn (Fence.wide.inRound l0) n0 P Q a w :=
 wpIn_region_any hm (any_in hQ (by simpa using hd) _ _ _ _ (wpAny_of_held _ _ _ _ (by rw[hn,hL];exact h hS)))
end Go.Proofs.YtgphgaehfdfjjaaGreat
namespace Go.Proofs.YtgphgaehfdfjjaaGreat
set_option maxHeartbeats 8000000
set_option maxRecDepth 100000
open Go.RowKit Go.Extern.Stop Go.Stop Go.Extern
set_option linter.unusedVariables false
attribute [local irreducible] wpList wpAnyH Code.wp Oper.wp Go
section
variable {P:Program} {a:Act}
end
section
variable {P:Program} {fn:Func} {R:Ending→World→Prop} {w:World} {s:Zs}
end
theorem BysN.elem{w:World}{b:O0}{n c:Nat}{l:Bl}(h:Sl w (.slice b n c) n (l.map bv))(hl:l.length=n){k:Nat}(hk:k<n):b.isSome=true∧w.cell? (Zw b (k*1))=some (.int .u8 ((l.getD k 0).toNat:Int)):=by
 subst hl;exact Bys.elem (Jh h rfl) hk
end Go.Proofs.YtgphgaehfdfjjaaGreat
namespace Go.Proofs.YtgphgaehfdfjjaaGreat
set_option maxHeartbeats 8000000
set_option maxRecDepth 100000
open Go.RowKit Go.Extern.Stop Go.Stop Go.Extern
set_option linter.unusedVariables false
attribute [local irreducible] wpList wpAnyH Code.wp Oper.wp Go
theorem Al.mono{B B' ba b g n c:Nat}{pa:O0}{ca f N k:Nat}{l:Bl}{w:World}(h:Al B' ba b g n c pa ca f N k l w)(hB:B≤B'):Al B ba b g n c pa ca f N k l w:=⟨h.blkA,h.blkI,Zh h.data hB,Zh h.nums hB⟩
theorem AlC.mono{B B' ba n c ca f N:Nat}(h:AlC B' ba n c ca f N)(hB:B≤B'):AlC B ba n c ca f N:=⟨h.hn,h.hc,h.hca,h.hf,Nat.le_trans hB h.hB⟩
theorem row_at{w:World}{base g n c size:Nat}{e:TypeId}{xs:List Value}(h:w.ownsRow base e size (.slice (S1 g) n c) n xs):∃ cur,w.heap[g]? = some (.cells cur e (0,0)):=by
 rcases h.2 with ⟨hv,_⟩|⟨g2,a0,cur,hv,_,hh,_⟩
 ·cases hv
 ·simp only[Value.slice.injEq,Option.some.injEq,Addr.mk.injEq] at hv
  obtain⟨⟨rfl,_,_⟩,_⟩:=hv
  exact⟨cur,hh⟩
theorem Al.ne{B ba b g n c:Nat}{pa:O0}{ca f N k:Nat}{l:Bl}{B2 ba2 b2 g2 n2 c2:Nat}{pa2:O0}{ca2 f2 N2 k2:Nat}{l2:Bl}{w:World}(h:Al B ba b g n c pa ca f N k l w)(h2:Al B2 ba2 b2 g2 n2 c2 pa2 ca2 f2 N2 k2 l2 w):b2≠ba∧b2≠g:=by
 constructor
 ·rintro rfl
  exact absurd (h.blkA.ty h2.blkI) (by decide)
 ·rintro rfl
  obtain⟨a0,hh⟩:=row_at h.data
  have h3:w.heap[b2]? = some (.cells [.slice (S1 g2) n2 c2].toArray 75 (0,0)):=h2.blkI
  rw[hh] at h3
  simp only[Option.some.injEq,Obj.cells.injEq] at h3
  exact absurd h3.2.1 (by decide)
theorem Al.apart{B2 ba2 b2 g2 n2 c2:Nat}{pa2:O0}{ca2 f2 N2 k2:Nat}{l2:Bl}{w W:World}{ba g:Nat}(h:Al B2 ba2 b2 g2 n2 c2 pa2 ca2 f2 N2 k2 l2 w)(hC:AlC B2 ba2 n2 c2 ca2 f2 N2)(h1:ba<B2)(h2:g<B2)(hne:b2≠ba∧b2≠g)(hX:Fr [ba,g] w W):Al B2 ba2 b2 g2 n2 c2 pa2 ca2 f2 N2 k2 l2 W:=by
 have hB:=hC.hB
 refine⟨h.blkA.fr hX (by simp;omega),h.blkI.fr hX (by simp;exact hne),Dk h.data hX fun k hk=>?_,Dk h.nums hX fun k hk=>?_⟩
 ·have:=(h.data.lt k hk).1;simp;omega
 ·have:=(h.nums.lt k hk).1;simp;omega
theorem Ca(B ba b g nn cc:Nat)(pa:O0)(ca f N k0:Nat)(bs:Bl)(t:Int)(a:O0)(c:Nat)(l:List Ent)(n:Nat)(w:World)(hl:l.length=n)(hC:AlC B ba nn cc ca f N)(hA:Al B ba b g nn cc pa ca f N k0 bs w)(ht1:1≤t)(ht2:t≤5)(E:EntsOk (Ht t true) l)(hn:n≤32768)(hf1:1≤f)(hkN:k0≤N)(hk:k0+Ka t n≤N)(hin:∀ W,Below B w W→Ze [72,5,31] w W→Sts Va W (.slice a l.length c) l)(hBw:B≤w.heap.size) :
 C0 11 #[P0 ba,V0 t,.slice a n c] w (Za7 B ba b g nn cc pa ca f N k0 bs t l w):=by
 subst hl;exact Zc0 B ba b g nn cc pa ca f N k0 bs t a c l w hC hA ht1 ht2 E hn hf1 hkN hk hin hBw
theorem Ur{t:Int}{l:List Ent}{q:Nat}{bs:Bl}(hq:1≤q):(Xw t l q bs).1=((q+Ka t l.length-1:Nat):Int):=by
 have hp:=Xy l.length (Qq t true)
 have hg:=Kd (ovN l.length (Qq t true))
 unfold Xw
 rw[Ag (by rw[Xh];exact hp) (by rw[Xh,Kl (by omega)];simp only[upX];congr 1;omega) (by omega),Xh]
 unfold Ka Jk
 congr 1;omega
def kvE (x:Ent):Int×Bl:=(x.1,x.2.1)
def LaidF(F:Bl)(t:Int)(leaf:Bool)(m v:Nat)(u:List Ent)(q:Nat):Prop :=
 ∀ i,i<ovN u.length m→Ua F (q+i)=Yz 2 ((q+i:Nat):Int) (Zfz t leaf m v (Zm u m i))
theorem Gp{t:Int}{leaf:Bool}{m v:Nat}{l:List Ent}{q:Nat}{bs:Bl}(j:Nat):Uo t leaf m v l q bs (j+1)=Vo (Uo t leaf m v l q bs j) ((q+j)*256) (Yz 2 ((q+j:Nat):Int) (Zfz t leaf m v (Zm l m j))):=rfl
theorem Qr{t:Int}{leaf:Bool}{m v:Nat}{l:List Ent}{q:Nat}{bs:Bl}(E:EntsOk v l)(h1:1≤t)(h2:t≤5)(hm:Qq t leaf=m)(hv:Ht t leaf=v)(hl:leaf=false→1≤l.length)(j:Nat) :
 j≤ovN l.length m→(q+j)*256≤bs.length→(Uo t leaf m v l q bs j).length=bs.length∧(∀ i,i<j→Ua (Uo t leaf m v l q bs j) (q+i)=Yz 2 ((q+i:Nat):Int) (Zfz t leaf m v (Zm l m i)))∧(∀ x,x<q→Ua (Uo t leaf m v l q bs j) x=Ua bs x):=by
 induction j with
 | zero=>exact fun _ _=>⟨rfl,fun i hi=>absurd hi (Nat.not_lt_zero i),fun x _=>rfl⟩
 | succ j ih =>
  intro hj hq
  obtain⟨a1,a2,a3⟩:=ih (by omega) (by omega)
  have a4:=Lg (Un E h1 h2 hm hv hl (show j<ovN l.length m by omega))
  have a0:(Yz 2 ((q+j:Nat):Int) (Zfz t leaf m v (Zm l m j))).length=256:=Jn (by rw[a4];decide)
  rw[Gp]
  generalize Uo t leaf m v l q bs j=y at a1 a2 a3 ⊢
  generalize hx:Yz 2 ((q+j:Nat):Int) (Zfz t leaf m v (Zm l m j))=x at a0 ⊢
  have hk:q+j<y.length/256:=by rw[a1];omega
  refine⟨?_,fun i hi=>?_,fun z hz=>?_⟩
  ·rw[Yn (by rw[a0,a1];omega),a1]
  ·by_cases e:i=j
   ·subst e;rw[hx];exact blkB_put a0 hk
   ·rw[Uw a0 hk (by omega) (by omega)];exact a2 i (by omega)
  ·rw[Uw a0 hk (by omega) (by omega)];exact a3 z hz
theorem Wl{t:Int}(h1:1≤t)(h2:t≤5)(n:Nat):∀ (u:List Ent) (q:Nat) (bs:Bl),u.length=n→1≤n→EntsOk 4 u→(q+((Je n).sum-n))*256≤bs.length→(Qd t u q bs).2.length=bs.length∧∀ x,x<q→Ua (Qd t u q bs).2 x=Ua bs x:=by
 induction n using Nat.strongRecOn with
 | _ n ih =>
  intro u q bs hn a4 E hq
  subst hn
  by_cases h:u.length≤1
  ·rw[Ve h];exact⟨rfl,fun _ _=>rfl⟩
  ·have a5:=Zdw (x:=u.length) (by omega)
   have hp:=Xy u.length 18
   have a0:(Je u.length).sum=u.length+(Je (ovN u.length 18)).sum:=by rw[Yw h];rfl
   have hg:=Kd (ovN u.length 18)
   rw[Yp h]
   obtain⟨a1,a2,a3⟩:=Qr (t:=t) (leaf:=false) (m:=18) (v:=4) (l:=u) (q:=q) (bs:=bs) E h1 h2 rfl rfl (fun _=>by omega) (ovN u.length 18) (Nat.le_refl _) (by omega)
   obtain⟨b1,b2⟩:=ih (ovN u.length 18) (by omega) (upE u 18 q (ovN u.length 18)) (q+ovN u.length 18) (Uo t false 18 4 u q bs (ovN u.length 18)) (Xh _ _ _ _) hp (Mo E (by decide)) (by rw[a1];omega)
   exact⟨by rw[b1,a1],fun x hx=>by rw[b2 x (by omega),a3 x hx]⟩
theorem Cj{t:Int}{leaf:Bool}{n m v:Nat}{K:List Int}{Vs:List Bl}(N:NodeOk t leaf n m v K Vs):Kn K:=by
 intro k hk a0
 rw[N.hK] at hk
 have:=N.hk1 (k-1) (by omega)
 rw[show k-1+1=k by omega] at this
 simpa [List.getD] using this
theorem Zet{F:Bl}{way:List Int}{no t lo hi deep:Int}(hw:way.length<16)(hway:∀ y∈way,no≠y)(he:Xl F no t=0)(hr:Jl lo hi=true)(hs:Kn (Vg F no))(hk:∀ x∈Vg F no,lo≤x∧x<hi)
 (hd:Xp (inB F no)=true→deep=0∨deep=((way.length+1:Nat):Int)):Xt F way no t lo hi deep=0:=by
 have hf:Vh lo hi (Vg F no)=0:=by unfold Vh;rw[if_pos hr,if_pos hs,if_pos hk]
 have hh:Qf way no=false:=by
  unfold Qf;rw[List.any_eq_false]
  intro y hy
  simpa using hway y hy
 unfold Xt
 rw[if_neg (by rw[hh];simp),if_neg (by omega),if_neg (by rw[he];simp)]
 unfold Vg at hf
 rw[if_neg (by rw[hf];simp),if_neg (by rintro⟨a,b,c⟩;rcases hd a with h|h;exact b h;exact c h)]
structure Lev(F:List UInt8)(t fuel:Int)(h n base:Nat)(X:Nat→List (Int×List UInt8))(C:Nat→Nat):Prop where
 one:∀ i,i<n→1≤C i
 go:∀ i,i<n→∀ (d:Nat) (way:List Int) (lo hi:Int) (s:WS),h+1≤d→way.length+h+1≤16→(∀ y∈way,((base+n:Nat):Int)≤y)→Jl lo hi=true→(∀ x∈X i,lo≤x.1∧x.1<hi)→s.dry=false→((s.looked+C i:Nat):Int)≤fuel→(s.deep=0∨s.deep=((way.length+h+1:Nat):Int)) →
  ∃ (es:List Ent) (bl:List Int),es.map kvE=X i∧bl.length=C i∧Zl F t fuel d way ((base+i:Nat):Int) lo hi s={ s with es:=s.es++es,bs:=s.bs++bl,deep:=((way.length+h+1:Nat):Int),looked:=s.looked+C i }
theorem leaf_kv{c:List Ent}{no:Int}:(Jp (Yr c) (Vr c) no c.length).map kvE=c.map kvE:=by
 unfold Jp
 apply List.ext_getElem?
 intro j
 by_cases h:j<c.length
 ·simp[Yr,Vr,kvE,List.getD,h]
 ·rw[List.getElem?_eq_none (by simp;omega),List.getElem?_eq_none (by simp;omega)]
theorem lev_leaf{F:Bl}{t fuel:Int}{l:List Ent}{base len m v:Nat}(hm:Qq t true=m)(hv:Ht t true=v)(E:EntsOk v l)(h1:1≤t)(h2:t≤5)(hF:LaidF F t true m v l base)(hl:F.length=len)(hb:(base+ovN l.length m)*256≤len)(h4:base+ovN l.length m≤14400) :
  Lev F t fuel 0 (ovN l.length m) base (fun i=>(Zm l m i).map kvE) (fun _=>1) where
 one _ _:=Nat.le_refl _
 go i hi d way lo hi' s hd hw hway hr hX hdry hfu hdeep:=by
  obtain⟨d',rfl⟩:∃ d',d=d'+1:=⟨d-1,by omega⟩
  have N:=Un E h1 h2 hm hv (fun h=>by cases h) hi
  have B:=Rc N
  obtain⟨he,a1⟩:=Ok N hl (by omega) (by omega) (hF i hi) t (.inr rfl)
  have hC:Zn (inB F ((base+i:Nat):Int))=(Zm l m i).length:=by rw[a1];exact B.c
  have hK:Vg F ((base+i:Nat):Int)=Yr (Zm l m i):=by unfold Vg;rw[hC,a1];exact B.k
  have hV:Mn F ((base+i:Nat):Int)=Vr (Zm l m i):=by unfold Mn;rw[hC,a1];exact B.v
  have hL:Xp (inB F ((base+i:Nat):Int))=true:=by rw[a1];exact B.l
  have hk:∀ x∈Yr (Zm l m i),lo≤x∧x<hi':=by
   intro x hx
   obtain⟨y,hy,rfl⟩:=List.mem_map.1 hx
   exact hX (kvE y) (List.mem_map.2 ⟨y,hy,rfl⟩)
  have a0:Xt F way ((base+i:Nat):Int) t lo hi' s.deep=0:=Zet (by omega) (fun y hy=>by have:=hway y hy;omega) he hr (by rw[hK];exact Cj N) (by rw[hK];exact hk) fun _=>hdeep
  refine⟨Jp (Yr (Zm l m i)) (Vr (Zm l m i)) ((base+i:Nat):Int) (Zm l m i).length,[((base+i:Nat):Int)],leaf_kv,rfl,?_⟩
  unfold Zl
  rw[if_neg (by omega),if_neg (by rw[a0];simp),if_pos hL,hC,hK,hV]
theorem Zcq{f:Nat→Nat}{a b:Nat}(h:a≤b):((List.range a).map f).sum≤((List.range b).map f).sum:=by
 obtain⟨d,rfl⟩:∃ d,b=a+d:=⟨b-a,by omega⟩
 rw[List.range_add,List.map_append,List.sum_append];omega
theorem part_snd{hi:Int}{K:List Int}{k:Nat}(hk:k<K.length):(k+1<K.length∧(Xi hi K k).2=K.getD (k+1) 0)∨(k+1=K.length∧(Xi hi K k).2=hi):=by
 by_cases q:k+1<K.length
 ·left;exact⟨q,by simp[Xi,List.getD,q]⟩
 ·right;exact⟨by omega,by simp only[Xi];rw[List.getElem?_eq_none (by omega)];rfl⟩
theorem lev_loop{F:Bl}{t fuel:Int}{h n base:Nat}{X:Nat→List (Int×Bl)}{C:Nat→Nat}(L:Lev F t fuel h n base X C){way:List Int}{no hi':Int}{s0:WS}{z a d':Nat}(K:List Int)(hK:Vg F no=K)(hKl:K.length=z)(hidx:a+z≤n)
  (hval:∀ k,k<z→(Mn F no).getD k []=leB ((base+(a+k):Nat):Int) 4) (hkk:∀ k,k<z→∃ v r,X (a+k)=(K.getD k 0,v)::r) (hs:∀ a b,a<b→b<n→∀ x∈X a,∀ y∈X b,x.1<y.1) (hs1:∀ a,a<n→(X a).Pairwise fun x y=>x.1<y.1)
  (hk0:∀ k,k<z→0≤K.getD k 0∧K.getD k 0<hi') (hk1:∀ k,k+1<z→K.getD k 0<K.getD (k+1) 0) (hX2:∀ k,k<z→∀ x∈X (a+k),x.1<hi') (hhi:hi'≤281474976710656) (hb1:1≤base) (h4:base+n≤14400) (hd:h+1≤d') (hw:way.length+1+h+1≤16) (hway:∀ y∈way,((base+n:Nat):Int)≤y) (hno:((base+n:Nat):Int)≤no)
  (hdry:s0.dry=false) (hdeep:s0.deep=0∨s0.deep=((way.length+(h+1)+1:Nat):Int)) (hfu:((s0.looked+((List.range z).map fun j=>C (a+j)).sum:Nat):Int)≤fuel) (k:Nat) :
  k≤z→∃ (es:List Ent) (bl:List Int),es.map kvE=((List.range k).flatMap fun j=>X (a+j))∧bl.length=((List.range k).map fun j=>C (a+j)).sum ∧
    Xx (Zl F t fuel d') F way no hi' k s0={ s0 with es:=s0.es++es,bs:=s0.bs++bl,deep:=if k=0 then s0.deep else((way.length+(h+1)+1:Nat):Int),looked:=s0.looked+((List.range k).map fun j=>C (a+j)).sum }:=by
 induction k with
 | zero=>exact fun _=>⟨[],[],rfl,rfl,by simp[Xx]⟩
 | succ k ih =>
  intro a5
  obtain⟨es,bl,e1,e2,e3⟩:=ih (by omega)
  have a1:k<z:=by omega
  obtain⟨r1,r2⟩:=Zad (q:=base+(a+k)) (by omega) (by omega)
  have a6:(Xi hi' (Vg F no) k).1=K.getD k 0:=by rw[hK];rfl
  have a4:=part_snd (hi:=hi') (K:=K) (k:=k) (by omega)
  rw[←hK] at a4
  have b2:∀ x∈X (a+k),K.getD k 0≤x.1:=by
   intro x hx
   obtain⟨v,r,hv⟩:=hkk k a1
   have a7:=hs1 (a+k) (by omega)
   rw[hv] at hx a7
   rcases List.mem_cons.1 hx with rfl|hx
   ·exact Int.le_refl _
   ·exact Int.le_of_lt ((List.pairwise_cons.1 a7).1 x hx)
  have b3:∀ x∈X (a+k),x.1<(Xi hi' (Vg F no) k).2:=by
   intro x hx
   rcases a4 with ⟨q1,q2⟩|⟨q1,q2⟩
   ·rw[hK] at q1
    obtain⟨v,r,hv⟩:=hkk (k+1) (by omega)
    rw[q2,hK]
    exact hs (a+k) (a+(k+1)) (by omega) (by omega) x hx (K.getD (k+1) 0,v) (by rw[hv];exact List.mem_cons_self)
   ·rw[q2];exact hX2 k a1 x hx
  have b0:Jl (Xi hi' (Vg F no) k).1 (Xi hi' (Vg F no) k).2=true:=by
   have g0:=hk0 k a1
   refine decide_eq_true ?_
   rw[a6]
   rcases a4 with ⟨q1,q2⟩|⟨q1,q2⟩
   ·rw[hK] at q1
    rw[q2,hK]
    have g1:=hk1 k (by omega)
    have g2:=hk0 (k+1) (by omega)
    omega
   ·rw[q2];omega
  have a3:=Zcq (f:=fun j=>C (a+j)) (show k+1≤z from a5)
  have a0:((List.range (k+1)).map fun j=>C (a+j)).sum=((List.range k).map fun j=>C (a+j)).sum+C (a+k):=by rw[List.range_succ,List.map_append,List.sum_append];simp
  rw[a0] at a3
  have a8:((s0.looked+((List.range k).map fun j=>C (a+j)).sum+C (a+k):Nat):Int)≤fuel:=by omega
  have a2:(way++[no]).length=way.length+1:=by simp
  obtain⟨b1,a9,g1,g2,g3⟩:=L.go (a+k) (by omega) d' (way++[no]) (Xi hi' (Vg F no) k).1 (Xi hi' (Vg F no) k).2 { s0 with es:=s0.es++es,bs:=s0.bs++bl,deep:=if k=0 then s0.deep else((way.length+(h+1)+1:Nat):Int),looked:=s0.looked+((List.range k).map fun j=>C (a+j)).sum } hd (by rw[a2];omega) (by
    intro y hy
    rcases List.mem_append.1 hy with q|q
    ·exact hway y q
    ·rw[List.mem_singleton.1 q];exact hno) b0 (fun x hx=>⟨by rw[a6];exact b2 x hx,b3 x hx⟩) hdry a8 (by
    rw[a2,show way.length+1+h+1=way.length+(h+1)+1 by omega]
    by_cases q:k=0
    ·rcases hdeep with d|d
     ·exact .inl (by show(if k=0 then s0.deep else _)=0;rw[if_pos q];exact d)
     ·exact .inr (by show(if k=0 then s0.deep else _)=_;rw[if_pos q];exact d)
    ·exact .inr (by show(if k=0 then s0.deep else _)=_;rw[if_neg q]))
  refine⟨es++b1,bl++a9,?_,?_,?_⟩
  ·rw[List.map_append,e1,g1,List.range_succ,List.flatMap_append];simp
  ·rw[List.length_append,e2,g2,a0]
  ·rw[Hn,e3]
   unfold Ws
   rw[if_neg (by rw[hdry];simp)]
   unfold Kq
   rw[hval k a1,if_pos r1,r2,g3,a0,if_neg (Nat.succ_ne_zero k),a2,show way.length+1+h+1=way.length+(h+1)+1 by omega,List.append_assoc,List.append_assoc]
   simp only[WS.mk.injEq,true_and,and_true]
   omega
theorem Zg2{F:Bl}{t fuel:Int}{h n base len:Nat}{X:Nat→List (Int×Bl)}{C:Nat→Nat}{u:List Ent}(L:Lev F t fuel h n base X C)(hn:u.length=n)(hu:∀ k,k<n→(u.getD k Zi).2.1=leB ((base+k:Nat):Int) 4)(hh:∀ k,k<n→∃ v r,X k=((u.getD k Zi).1,v)::r)
  (hs:∀ a b,a<b→b<n→∀ x∈X a,∀ y∈X b,x.1<y.1) (hs1:∀ a,a<n→(X a).Pairwise fun x y=>x.1<y.1) (E:EntsOk 4 u) (h1:1≤t) (h2:t≤5) (hn1:1≤n) (hb1:1≤base) (hF:LaidF F t false 18 4 u (base+n)) (hl:F.length=len) (hb:(base+n+ovN n 18)*256≤len) (h4:base+n+ovN n 18≤14400) :
  Lev F t fuel (h+1) (ovN n 18) (base+n) (fun i=>(List.range (Ye n 18 i)).flatMap fun j=>X (i*18+j)) (fun i=>1+((List.range (Ye n 18 i)).map fun j=>C (i*18+j)).sum) where
 one _ _:=Nat.le_add_right _ _
 go i hi d way lo hi' s hd hw hway hr hX hdry hfu hdeep:=by
  subst hn
  obtain⟨d',rfl⟩:∃ d',d=d'+1:=⟨d-1,by omega⟩
  have N:=Un E h1 h2 (leaf:=false) (m:=18) (v:=4) rfl rfl (fun _=>hn1) hi
  have B:=Rc N
  obtain⟨he,a4⟩:=Ok N hl (by omega) (by omega) (hF i hi) t (.inr rfl)
  have b8:=Zaq (m:=18) (by decide) hn1 hi
  have a0:=Kg u 18 i
  have a3:∀ j,j<Ye u.length 18 i→(Zm u 18 i).getD j Zi=u.getD (i*18+j) Zi:=fun j hj=>Kh hj
  have b9:1≤Ye u.length 18 i:=by unfold Ye;omega
  have b2:i*18+Ye u.length 18 i≤u.length:=by unfold Ye;omega
  replace hX:∀ x∈(List.range (Ye u.length 18 i)).flatMap (fun j=>X (i*18+j)),lo≤x.1∧x.1<hi':=hX
  replace hfu:((s.looked+(1+((List.range (Ye u.length 18 i)).map fun j=>C (i*18+j)).sum):Nat):Int)≤fuel:=hfu
  show ∃ (es:List Ent) (bl:List Int),es.map kvE=(List.range (Ye u.length 18 i)).flatMap (fun j=>X (i*18+j))∧bl.length=1+((List.range (Ye u.length 18 i)).map fun j=>C (i*18+j)).sum∧Zl F t fuel (d'+1) way ((base+u.length+i:Nat):Int) lo hi' s={ s with es:=s.es++es,bs:=s.bs++bl,deep:=((way.length+(h+1)+1:Nat):Int),looked:=s.looked+(1+((List.range (Ye u.length 18 i)).map fun j=>C (i*18+j)).sum) }
  generalize Ye u.length 18 i=z at a0 a3 b9 b2 hX hfu ⊢
  obtain⟨no,b6⟩:∃ no:Int,no=((base+u.length+i:Nat):Int):=⟨_,rfl⟩
  rw[←b6] at he a4 ⊢
  have hC:Zn (inB F no)=(Zm u 18 i).length:=by rw[a4];exact B.c
  have hK:Vg F no=Yr (Zm u 18 i):=by unfold Vg;rw[hC,a4];exact B.k
  have hV:Mn F no=Vr (Zm u 18 i):=by unfold Mn;rw[hC,a4];exact B.v
  have hL:Xp (inB F no)=false:=by rw[a4];exact B.l
  have a9:(Yr (Zm u 18 i)).length=z:=by rw[Ub,a0]
  have b7:(Vr (Zm u 18 i)).length=z:=by rw[Bo,a0]
  have b3:∀ j,j<z→(Yr (Zm u 18 i)).getD j 0=(u.getD (i*18+j) Zi).1:=fun j hj=>by rw[Cg (by rw[a0];exact hj),a3 j hj]
  have a5:∀ j,j<z→(Vr (Zm u 18 i)).getD j []=(u.getD (i*18+j) Zi).2.1:=fun j hj=>by rw[Sf (by rw[a0];exact hj),a3 j hj]
  have a7:∀ j,j<z→0≤(Yr (Zm u 18 i)).getD j 0∧(Yr (Zm u 18 i)).getD j 0≤281474976710655:=fun j hj=>N.hk0 j (by rw[a0];exact hj)
  have a8:∀ j,j+1<z→(Yr (Zm u 18 i)).getD j 0<(Yr (Zm u 18 i)).getD (j+1) 0:=fun j hj=>N.hk1 j (by rw[a0];exact hj)
  have a1:=Cj N
  have b4:(Zm u 18 i).length=z:=a0
  generalize Yr (Zm u 18 i)=K at hK a9 b3 a7 a8 a1
  generalize Vr (Zm u 18 i)=Vs at hV b7 a5
  rw[b4] at hC
  have b0:∀ j,j<z→∀ x∈X (i*18+j),lo≤x.1∧x.1<hi':=fun j hj x hx=>hX x (List.mem_flatMap.2 ⟨j,List.mem_range.2 hj,hx⟩)
  have a2:∀ j,j<z→∃ v r,X (i*18+j)=(K.getD j 0,v)::r:=fun j hj=>by rw[b3 j hj];exact hh _ (by omega)
  have b1:∀ j,j<z→lo≤K.getD j 0∧K.getD j 0<hi':=by
   intro j hj
   obtain⟨v,r,hv⟩:=a2 j hj
   exact b0 j hj (K.getD j 0,v) (by rw[hv];exact List.mem_cons_self)
  have hk:∀ x∈K,lo≤x∧x<hi':=by
   intro x hx
   obtain⟨j,hj,rfl⟩:=List.mem_iff_getElem.1 hx
   have:=b1 j (by omega)
   simpa [List.getD,hj] using this
  have b5:=of_decide_eq_true hr
  have a6:Xt F way no t lo hi' s.deep=0:=Zet (by omega) (fun y hy=>by have:=hway y hy;omega) he hr (by rw[hK];exact a1) (by rw[hK];exact hk) fun q=>by rw[hL] at q;cases q
  obtain⟨es,bl,e1,e2,e3⟩:=lev_loop L (way:=way) (no:=no) (hi':=hi') (s0:={ s with looked:=s.looked+1,bs:=s.bs++[no] }) (z:=z) (a:=i*18) (d':=d') K hK a9 b2
   (fun k hk=>by rw[hV,a5 k hk];exact hu _ (by omega)) a2 hs hs1 (fun k hk=>⟨(a7 k hk).1,(b1 k hk).2⟩) a8 (fun k hk x hx=>(b0 k hk x hx).2) b5.2.2 hb1 (by omega) (by omega) (by omega) (fun y hy=>by have:=hway y hy;omega) (by omega) hdry (by rw[show way.length+(h+1)+1=way.length+(h+1)+1 from rfl];exact hdeep) (by simp only;omega) z (Nat.le_refl _)
  refine⟨es,no::bl,e1,by rw[List.length_cons,e2];omega,?_⟩
  unfold Zl
  rw[if_neg (by omega),if_neg (by rw[a6];simp),if_neg (by rw[hL];simp),hC,e3,if_neg (by omega)]
  simp only[WS.mk.injEq,List.append_assoc,List.singleton_append,true_and,and_true]
  omega
def mpD:Mp:=(0,0,0)
theorem Ze2{a:Act}{o:Oper}{p q:Operand}(x:Mp)(ho:o.op=.binOp .neq 42 p q 42)(hx:a.eval p=.agg (Uu x).toArray)(hy:a.eval q=.agg (Uu x).toArray)(V:World) :
 (execOp a.eval o).run Tryz.prog V=.ok (.value (.bool false)) V:=by
 have h1:=Tryz.underlying42
 have h2:=Tryz.underlying3
 have h4:Tryz.prog.stoodInHeld 42=false:=by kernel_rfl
 have hb:(binOp .neq 42 (.agg (Uu x).toArray) (.agg (Uu x).toArray)).run Tryz.prog V=.ok (.bool false) V:=by
  obtain⟨x0,x1,x2⟩:=x
  simp[go_sem,Program.fieldsOf,h1,h2,h4,Op.eqFields,Uu]
 have hg:=run_eqGuard_agg (P:=Tryz.prog) (w:=V) .neq 42 p q (Uu x).toArray (Uu x).toArray (by kernel_rfl)
 simp only[execOp,ho,hx,hy,Sem.run_bind,hg,Result.andThen_ok,hb]
 rfl
theorem Dd(a b:O0)(ca cb:Nat)(L:List Mp)(w:World)(ha:Sts Uu w (.slice a L.length ca) L)(hb:Sts Uu w (.slice b L.length cb) L) :
 C0 79 #[.slice a L.length ca,.slice b L.length cb] w (Ret (.bool true) w):=by
 have a5:=Sl.len ha
 refine zin 26 Tryz.func79 ?_
 refine xk 15 (show(((L.length:Int) != (L.length:Int)):Bool)=false from by simp) ?_
 have hB:=Below.refl w.heap.size w
 refine zl 9 26 (fun zm a2 V=>∃ (i:Nat),a2=[(0,.slice a L.length ca),(1,.slice b L.length cb),(5,V0 (i:Int))]∧zm=L.length-((i:Int)).toNat∧B0 w V∧i≤L.length) ⟨0,rfl,rfl,hB,Nat.zero_le _⟩ ?_
 rintro _ _ W1 ⟨i,rfl,rfl,a1,hi⟩ J1 a4 r1
 refine xid 9 ((i:Int)<(L.length:Int)) (fun a3=>?_) (fun a3=>?_)
 ·refine xd 5 .z ?_
  refine xx (.e [0,1] 2) _ L.length i 3 (Sts.cell ha Yo mpD (k:=i) (i:=0) (by omega) rfl).1 ?_
  have a0:=bln a1 (Za W1)
  refine xlv (.e [] 3) (Sts.rp (k:=i) (ha.below a0) Yo mpD (by omega) (by decide)) ?_
  refine xx (.e [4,5] 6) _ L.length i 3 (Sts.cell hb Yo mpD (k:=i) (i:=0) (by omega) rfl).1 ?_
  refine xlv (.e [] 7) (Sts.rp (k:=i) (hb.below a0) Yo mpD (by omega) (by decide)) ?_
  refine xbo (.e [] 8) (t:=42) (t2:=42) (fun _ _ _ _ zo zx zy V hV=>Ze2 (L.getD i mpD) zo zx zy V) ?_
  refine xwm 8 ((i:Int)+1) (↑(i+1):Int) ?_
  exact ze 2 (a4 _ _ _ ⟨i+1,rfl,rfl,a0,by omega⟩ (by omega))
 exact xe 11 (.bool true) ⟨rfl,a1⟩
theorem Mq(a b:O0)(ca cb:Nat)(d:Dv)(w:World)(ha:Sts Uu w (.slice a d.2.length ca) d.2)(hb:Sts Uu w (.slice b d.2.length cb) d.2) :
 C0 60 #[.agg #[V0 d.1.1,V0 d.1.2.1,V0 d.1.2.2.1,V0 d.1.2.2.2,.slice a d.2.length ca],.agg #[V0 d.1.1,V0 d.1.2.1,V0 d.1.2.2.1,V0 d.1.2.2.2,.slice b d.2.length cb]] w (Ret (.bool true) w):=by
 refine zin 38 Tryz.func60 ?_
 refine xa 2 [V0 d.1.1,V0 d.1.2.1,V0 d.1.2.2.1,V0 d.1.2.2.2,.slice a d.2.length ca] 40 fun b1 W1 n1=>?_
 refine xa 0 [V0 d.1.1,V0 d.1.2.1,V0 d.1.2.2.1,V0 d.1.2.2.2,.slice b d.2.length cb] 40 fun b2 W2 n2=>?_
 have a2:=n2.ne n1.blk
 have a0:=n1.blk.below n2.below
 refine xb 6 0 a0 ?_
 refine xb 1 0 n2.blk ?_
 refine xgk 2 [9,10] (show((d.1.1==d.1.1):Bool)=true from by simp) ?_
 refine xb 1 1 a0 ?_
 refine xb 1 1 n2.blk ?_
 refine xgk 3 [15,16,17] (show((d.1.2.1==d.1.2.1):Bool)=true from by simp) ?_
 refine xb 1 2 a0 ?_
 refine xb 1 2 n2.blk ?_
 refine xgk 3 [22,23,24] (show((d.1.2.2.1==d.1.2.2.1):Bool)=true from by simp) ?_
 refine xb 1 3 a0 ?_
 refine xb 1 3 n2.blk ?_
 refine xgk 3 [29,30,31] (show((d.1.2.2.2==d.1.2.2.2):Bool)=true from by simp) ?_
 refine xb 1 4 a0 ?_
 refine xb 1 4 n2.blk ?_
 have hB:=bln n1.below n2.below
 refine xr 0 (args:=#[.slice a d.2.length ca,.slice b d.2.length cb]) (Dd a b ca cb d.2 _ (ha.below hB) (hb.below hB)) fun W7 a3=>?_
 have a1:=bln hB a3
 exact xe 5 (.bool true) ⟨rfl,a1⟩
abbrev Zv:=Dv×O0×Nat
def zvD:Zv:=(((0,0,0,0),[]),none,0)
def Cx(z:Zv):List Value:=[V0 z.1.1.1,V0 z.1.1.2.1,V0 z.1.1.2.2.1,V0 z.1.1.2.2.2,.slice z.2.1 z.1.2.length z.2.2]
theorem Yc(z:Zv):(Cx z).length=5:=rfl
structure DevsR(w:World)(p:Option Addr)(c:Nat)(Z:List Zv):Prop where
 row:Sts Cx w (.slice p Z.length c) Z
 each:∀ i,i<Z.length→Sts Uu w (.slice (Z.getD i zvD).2.1 (Z.getD i zvD).1.2.length (Z.getD i zvD).2.2) (Z.getD i zvD).1.2
theorem DevsR.below{w W:World}{p:O0}{c:Nat}{Z:List Zv}(h:DevsR w p c Z)(hb:B0 w W):DevsR W p c Z:=⟨h.row.below hb,fun i hi=>(h.each i hi).below hb⟩
theorem DevsR.rowN{w:World}{p:O0}{c n:Nat}{Z:List Zv}(h:DevsR w p c Z)(hn:Z.length=n):Sl w (.slice p n c) n (Z.flatMap Cx):=by subst hn;exact h.row
theorem DevsR.someN{w:World}{p:O0}{c n i:Nat}{Z:List Zv}(h:DevsR w p c Z)(hn:Z.length=n)(hi:i<n):p.isSome=true:=by subst hn;exact(Sts.cell h.row Yc zvD (k:=i) (i:=0) hi rfl).1
theorem Pv(a b:O0)(ca cb:Nat)(d e:Dv)(w:World)(h:d=e)(ha:Sts Uu w (.slice a d.2.length ca) d.2)(hb:Sts Uu w (.slice b e.2.length cb) e.2) :
 C0 60 #[.agg #[V0 d.1.1,V0 d.1.2.1,V0 d.1.2.2.1,V0 d.1.2.2.2,.slice a d.2.length ca],.agg #[V0 e.1.1,V0 e.1.2.1,V0 e.1.2.2.1,V0 e.1.2.2.2,.slice b e.2.length cb]] w (Ret (.bool true) w):=by
 subst h;exact Mq a b ca cb d w ha hb
theorem Zcy(p q:O0)(c d n:Nat)(t u v x:Int)(Z Y:List Zv)(w:World)(hZ:Z.length=n)(hY:Y.length=n)(hZY:∀ i,i<n→(Z.getD i zvD).1=(Y.getD i zvD).1)(hP:DevsR w p c Z)(hQ:DevsR w q d Y) :
 C0 39 #[.agg #[V0 t,V0 u,V0 v,V0 x,.slice p n c],.agg #[V0 t,V0 u,V0 v,V0 x,.slice q n d]] w (Ret (.bool true) w):=by
 have c2:=Sl.len (hP.rowN hZ)
 refine zin 60 Tryz.func39 ?_
 refine xa 2 [V0 t,V0 u,V0 v,V0 x,.slice p n c] 24 fun b1 W1 n1=>?_
 refine xa 0 [V0 t,V0 u,V0 v,V0 x,.slice q n d] 24 fun b2 W2 n2=>?_
 have b8:=n2.ne n1.blk
 have a2:=n1.blk.below n2.below
 refine xb 7 0 a2 ?_
 refine xb 1 0 n2.blk ?_
 refine xgk 2 [10,11] (show((t != t):Bool)=false from by simp) ?_
 refine xb 1 1 a2 ?_
 refine xb 1 1 n2.blk ?_
 refine xgk 3 [16,17,18] (show((u != u):Bool)=false from by simp) ?_
 refine xb 1 2 a2 ?_
 refine xb 1 2 n2.blk ?_
 refine xgk 3 [23,24,25] (show((v != v):Bool)=false from by simp) ?_
 refine xb 1 3 a2 ?_
 refine xb 1 3 n2.blk ?_
 refine xgk 3 [30,31,32] (show((x != x):Bool)=false from by simp) ?_
 refine xb 1 4 a2 ?_
 refine xb 2 4 n2.blk ?_
 refine xk 5 (show(((n:Int) != (n:Int)):Bool)=false from by simp) ?_
 have b6:=(hP.below n1.below).below n2.below
 have b4:=(hQ.below n1.below).below n2.below
 have hB:=bln n1.below n2.below
 refine zl 9 60 (fun zm c1 V=>∃ (i:Nat),c1=[(2,P0 b1),(3,P0 b2),(5,V0 (i:Int))]∧zm=n-((i:Int)).toNat∧B0 w V∧Blk V b1 ([V0 t,V0 u,V0 v,V0 x,.slice p n c]) 24∧Blk V b2 ([V0 t,V0 u,V0 v,V0 x,.slice q n d]) 24∧DevsR V p c Z∧DevsR V q d Y∧i≤n) ⟨0,rfl,rfl,hB,a2,n2.blk,b6,b4,Nat.zero_le _⟩ ?_
 rintro _ _ W7 ⟨i,rfl,rfl,a8,a7,a9,hP,hQ,hi⟩ J7 c0 r7
 refine xb 5 4 a7 ?_
 refine xid 4 ((i:Int)<(n:Int)) (fun b9=>?_) (fun b9=>?_)
 ·refine xd 5 .z ?_
  have a0:=a7.below (Za W7)
  refine xb (.e [0] 1) 4 a0 ?_
  have a5:=hP.below (Za W7)
  refine xx (.e [2] 3) _ n i 5 (a5.someN hZ (i:=i) (by omega)) ?_
  refine xlv (.e [] 4) (Sts.rp (k:=i) a5.row Yc zvD (by omega) (by decide)) ?_
  have a1:=a9.below (Za W7)
  refine xb (.e [5] 6) 4 a1 ?_
  have a6:=hQ.below (Za W7)
  refine xx (.e [7] 8) _ n i 5 (a6.someN hY (i:=i) (by omega)) ?_
  refine xlv (.e [] 9) (Sts.rp (k:=i) a6.row Yc zvD (by omega) (by decide)) ?_
  refine xr (.o [] 10) (args:=#[.agg #[V0 ((Z.getD i zvD).1.1.1),V0 ((Z.getD i zvD).1.1.2.1),V0 ((Z.getD i zvD).1.1.2.2.1),V0 ((Z.getD i zvD).1.1.2.2.2),.slice ((Z.getD i zvD).2.1) ((Z.getD i zvD).1.2.length) ((Z.getD i zvD).2.2)],.agg #[V0 ((Y.getD i zvD).1.1.1),V0 ((Y.getD i zvD).1.1.2.1),V0 ((Y.getD i zvD).1.1.2.2.1),V0 ((Y.getD i zvD).1.1.2.2.2),.slice ((Y.getD i zvD).2.1) ((Y.getD i zvD).1.2.length) ((Y.getD i zvD).2.2)]]) (Pv (Z.getD i zvD).2.1 (Y.getD i zvD).2.1 (Z.getD i zvD).2.2 (Y.getD i zvD).2.2 (Z.getD i zvD).1 (Y.getD i zvD).1 _ (hZY i (by omega)) (a5.each i (by omega)) (a6.each i (by omega))) fun W9 b0=>?_
  refine xwm (.r [11] 8) ((i:Int)+1) (↑(i+1):Int) ?_
  have b3:=bln (bln a8 (Za W7)) b0
  have a3:=a0.below b0
  have a4:=a1.below b0
  have b5:=a5.below b0
  have b7:=a6.below b0
  exact ze 2 (c0 _ _ _ ⟨i+1,rfl,rfl,b3,a3,a4,b5,b7,by omega⟩ (by omega))
 exact xe 11 (.bool true) ⟨rfl,a8⟩
def Xr(B:Nat)(w:World)(Z:List Zv):Prop:=∀ i,i<Z.length→w.ownsRow B 42 3 (.slice (Z.getD i zvD).2.1 (Z.getD i zvD).1.2.length (Z.getD i zvD).2.2) (Z.getD i zvD).1.2.length ((Z.getD i zvD).1.2.flatMap Uu)
theorem Xr.nil(B:Nat)(w:World):Xr B w []:=fun i hi=>absurd hi (by simp)
theorem Xr.below{B:Nat}{w W:World}{Z:List Zv}(h:Xr B w Z)(hb:B0 w W):Xr B W Z:=fun i hi=>Zb (h i hi) hb
theorem Xr.only{B:Nat}{w W:World}{Z:List Zv}{T:List TypeId}(h:Xr B w Z)(hO:Ze T w W)(hT:T.contains 42=false):Xr B W Z:=fun i hi=>Zg (h i hi) hO hT
theorem Xr.snoc{B n:Nat}{w:World}{Z:List Zv}{d:Dv}{p:O0}{c:Nat}(h:Xr B w Z)(hn:d.2.length=n)(ho:w.ownsRow B 42 3 (.slice p n c) n (d.2.flatMap Uu)):Xr B w (Z++[(d,p,c)]):=by
 subst hn
 intro i hi
 by_cases e:i<Z.length
 ·have:=h i e
  rw[show(Z++[(d,p,c)]).getD i zvD=Z.getD i zvD from by simp[List.getD,List.getElem?_append_left e]];exact this
 ·obtain rfl:i=Z.length:=by simp at hi;omega
  rw[show(Z++[(d,p,c)]).getD Z.length zvD=(d,p,c) from by simp[List.getD]];exact ho
theorem Ze3{B:Nat}{w:World}{p:O0}{c:Nat}{Z:List Zv}(hM:Xr B w Z)(ho:w.ownsRow B 40 5 (.slice p Z.length c) Z.length (Z.flatMap Cx)):DevsR w p c Z:=⟨Zf ho,fun i hi=>Zf (hM i hi)⟩
theorem devsO_d{l:Bl}{top details data fuel:Int}(h:(Zd l details 3 fuel).fs≠[]):Vv l top details data fuel=((Vl (Zd l details 3 fuel)).1,(Vl (Zd l details 3 fuel)).2,[]):=if_pos h
theorem devsO_t{l:Bl}{top details data fuel:Int}(h:(Zd l details 3 fuel).fs=[])(h2:(Zd l top 1 fuel).fs≠[]):Vv l top details data fuel=((Vl (Zd l top 1 fuel)).1,(Vl (Zd l top 1 fuel)).2,[]):=by unfold Vv;rw[if_neg (fun q=>q h),if_pos h2]
theorem Zbv{l:Bl}{top details data fuel:Int}(h:(Zd l details 3 fuel).fs=[])(h2:(Zd l top 1 fuel).fs=[])(h3:4096<(Zd l details 3 fuel).es.length):Vv l top details data fuel=([details],2,[]):=by unfold Vv;rw[if_neg (fun q=>q h),if_neg (fun q=>q h2),if_pos h3]
theorem Zat{l:Bl}{top details data fuel:Int}(h:(Zd l details 3 fuel).fs=[])(h2:(Zd l top 1 fuel).fs=[])(h3:¬ 4096<(Zd l details 3 fuel).es.length)(h4:Ke (Zd l details 3 fuel).es (Zd l top 1 fuel).es=1):Vv l top details data fuel=([details],18,[]):=by unfold Vv;rw[if_neg (fun q=>q h),if_neg (fun q=>q h2),if_neg h3,if_pos h4]
theorem devsO_p2{l:Bl}{top details data fuel:Int}(h:(Zd l details 3 fuel).fs=[])(h2:(Zd l top 1 fuel).fs=[])(h3:¬ 4096<(Zd l details 3 fuel).es.length)(h4:Ke (Zd l details 3 fuel).es (Zd l top 1 fuel).es=2):Vv l top details data fuel=([top],18,[]):=by unfold Vv;rw[if_neg (fun q=>q h),if_neg (fun q=>q h2),if_neg h3,if_neg (by omega),if_pos h4]
theorem Jq{l:Bl}{top details data fuel:Int}(h:(Zd l details 3 fuel).fs=[])(h2:(Zd l top 1 fuel).fs=[])(h3:¬ 4096<(Zd l details 3 fuel).es.length)(h4:Ke (Zd l details 3 fuel).es (Zd l top 1 fuel).es=0):Vv l top details data fuel=An l (Zd l details 3 fuel).es (Zd l top 1 fuel).es data fuel:=by unfold Vv;rw[if_neg (fun q=>q h),if_neg (fun q=>q h2),if_neg h3,if_neg (by omega),if_neg (by omega)]
theorem unp_put{ps:List Gj}{N:List Int}{C:Bl}:∀ k,k≤ps.length→(∀ i,i<k→0≤N.getD i 0∧(N.getD i 0).toNat<256 ^ (ps.getD i Xs).1) →
 Gh (Ps ps N k++C) 0 (Hr ps k)=(List.range k).map fun i=>(N.getD i 0).toNat:=by
 intro k
 induction k generalizing C with
 | zero=>intro _ _;rfl
 | succ k ih =>
  intro hk h
  have e:Ps ps N (k+1)++C=Ps ps N k++(leB (N.getD k 0) (ps.getD k Xs).1++C):=by rw[Pc,List.append_assoc]
  rw[Vm,Wt,e,ih (by omega) fun i hi=>h i (by omega),List.range_succ,List.map_append]
  congr 1
  have h2:=h k (by omega)
  have:=Kt (P:=Ps ps N k) (Q:=C) (k:=0+(Hr ps k).sum) (w:=(ps.getD k Xs).1) (x:=N.getD k 0) (by rw[Uq];omega) h2.1 h2.2
  simp only[List.map_cons,List.map_nil,List.cons.injEq,and_true]
  omega
theorem Zaj{ps:List Gj}{N:List Int}(hp:Kk ps)(hN:N.length=ps.length)(h:Jo ps N ps.length=true):Xv ps (Ps ps N ps.length)=0∧∀ i,i<ps.length→(((Yu ps (Ps ps N ps.length)).getD i 0:Nat):Int)=N.getD i 0:=by
 have a0:=h
 unfold Jo at a0
 rw[List.all_eq_true] at a0
 have hb:∀ i,i<ps.length→0≤N.getD i 0∧(N.getD i 0).toNat<256 ^ (ps.getD i Xs).1:=fun i hi=>by
  have h1:=of_decide_eq_true (a0 i (List.mem_range.2 hi))
  have h2:=hp.2 i hi
  refine⟨by omega,?_⟩
  rcases h2.1 with h4|h8
  ·have:=h2.2.2.2 h4
   rw[h4,show(256:Nat) ^ 4=4294967296 from rfl];omega
  ·rw[h8,show(256:Nat) ^ 8=18446744073709551616 from rfl];omega
 have hr:Gi ps (Ps ps N ps.length)=(List.range ps.length).map fun i=>(N.getD i 0).toNat:=by
  have:=unp_put (ps:=ps) (N:=N) (C:=[]) ps.length (Nat.le_refl _) hb
  rw[List.append_nil] at this
  exact this
 have hg:∀ i,i<ps.length→(((Gi ps (Ps ps N ps.length)).getD i 0:Nat):Int)=N.getD i 0:=fun i hi=>by
  rw[hr]
  have:=(hb i hi).1
  simp only[List.getD,List.getElem?_map,List.getElem?_range hi,Option.map_some,Option.getD_some] at this ⊢
  omega
 have he:Xv ps (Ps ps N ps.length)=0:=by
  unfold Xv
  rw[if_pos (Uq _ _ _),if_pos]
  unfold Uy Jo
  rw[List.all_eq_true]
  intro i hi
  have hi:=List.mem_range.1 hi
  have e:((Gi ps (Ps ps N ps.length)).map fun n:Nat=>(n:Int)).getD i 0=N.getD i 0:=by
   rw[←hg i hi]
   simp[List.getD,show i<(Gi ps (Ps ps N ps.length)).length by rw[Wv];exact hi]
  rw[e]
  exact a0 i (List.mem_range.2 hi)
 refine⟨he,fun i hi=>?_⟩
 unfold Yu
 rw[if_pos he]
 exact hg i hi
def Zdx(m:Mp):Bl:=Ps Hi [m.2.1*16777216+m.2.2] 1
theorem mapV_len(m:Mp):(Zdx m).length=8:=by unfold Zdx;rw[Uq];rfl
theorem Zgr{m:Mp}(h1:0≤m.2.1∧m.2.1≤65535)(h2:0≤m.2.2∧m.2.2≤16777215):Xv Hi (Zdx m)=0∧(Mv (Zdx m):Int)=m.2.1∧(Du (Zdx m):Int)=m.2.2:=by
 obtain⟨he,hv⟩:=Zaj (ps:=Hi) (N:=[m.2.1*16777216+m.2.2]) Fd rfl (by
  unfold Jo
  rw[show List.range Hi.length=[0] from rfl]
  simp[inP,Hi,List.getD];omega)
 have h:=hv 0 (by decide)
 have hn:(mapN (Zdx m):Int)=m.2.1*16777216+m.2.2:=h
 refine⟨he,?_,?_⟩
 ·unfold Mv;omega
 ·unfold Du;omega
def Vd(n:Int)(d:Dv):Bl:=Ps Jm [n,d.1.2.1,d.1.2.2.1,d.1.2.2.2] 4
theorem Zb3(n:Int)(d:Dv):(Vd n d).length=24:=by unfold Vd;rw[Uq];rfl
theorem Lp{data n:Int}{d:Dv}(h:DevOk data d)(hn:0≤n∧n≤16384):Xv Jm (Vd n d)=0∧(Qa (Vd n d) 0:Int)=n∧(Qa (Vd n d) 1:Int)=d.1.2.1∧(Qa (Vd n d) 2:Int)=d.1.2.2.1∧(Qa (Vd n d) 3:Int)=d.1.2.2.2:=by
 obtain⟨he,hv⟩:=Zaj (ps:=Jm) (N:=[n,d.1.2.1,d.1.2.2.1,d.1.2.2.2]) Pu rfl (by
  have a:=h.tx
  have b:=h.made
  have c:=h.snap
  unfold Jo
  rw[show List.range Jm.length=[0,1,2,3] from rfl]
  simp[inP,Jm,List.getD];omega)
 exact⟨he,hv 0 (by decide),hv 1 (by decide),hv 2 (by decide),hv 3 (by decide)⟩
def Jf(M:List Mp):List Ent:=M.map fun m=>(m.1,Zdx m,0)
theorem Vi(M:List Mp):(Jf M).length=M.length:=List.length_map ..
def dvD:Dv:=((0,0,0,0),[])
def Yx(L:List Dv)(R:Nat→Nat):List Ent:=(List.range L.length).map fun i=>((L.getD i dvD).1.1,leB (R i:Int) 4,0)
def Xm(L:List Dv)(C:Nat→Int):List Ent:=(List.range L.length).map fun i=>((L.getD i dvD).1.1,Vd (C i) (L.getD i dvD),0)
theorem Xg(L:List Dv)(R:Nat→Nat):(Yx L R).length=L.length:=by simp[Yx]
theorem Zr(L:List Dv)(C:Nat→Int):(Xm L C).length=L.length:=by simp[Xm]
theorem Ji{L:List Dv}{R:Nat→Nat}{i:Nat}(h:i<L.length):(Yx L R).getD i Zi=((L.getD i dvD).1.1,leB (R i:Int) 4,0):=by simp[Yx,List.getD,List.getElem?_range h]
theorem Qg{L:List Dv}{C:Nat→Int}{i:Nat}(h:i<L.length):(Xm L C).getD i Zi=((L.getD i dvD).1.1,Vd (C i) (L.getD i dvD),0):=by simp[Xm,List.getD,List.getElem?_range h]
theorem Hs{M:List Mp}{i:Nat}(h:i<M.length):(Jf M).getD i Zi=((M.getD i (0,0,0)).1,Zdx (M.getD i (0,0,0)),0):=by simp[Jf,List.getD,h]
theorem mapEs_ok{data:Int}{M:List Mp}(h:MapsOk data M):EntsOk 8 (Jf M):=by
 refine⟨fun i hi=>?_,fun j hj=>?_,fun i hi=>?_⟩
 ·rw[Vi] at hi
  rw[Hs hi]
  have:=h.each (M.getD i (0,0,0)) (by simp[List.getD,hi])
  exact this.1
 ·rw[Vi] at hj
  rw[Hs (by omega),Hs hj]
  have:=List.pairwise_iff_getElem.1 h.rise j (j+1) (by omega) hj (by omega)
  simpa [List.getD,hj,show j<M.length by omega] using this
 ·rw[Vi] at hi
  rw[Hs hi];exact mapV_len _
theorem Ox{data:Int}{L:List Dv}(h:DevsOk data L):(∀ i,i<L.length→0≤(L.getD i dvD).1.1∧(L.getD i dvD).1.1≤281474976710655)∧∀ j,j+1<L.length→(L.getD j dvD).1.1<(L.getD (j+1) dvD).1.1:=by
 refine⟨fun i hi=>?_,fun j hj=>?_⟩
 ·have:=(h.each (L.getD i dvD) (by simp[List.getD,hi])).id;omega
 ·have:=List.pairwise_iff_getElem.1 h.rise j (j+1) (by omega) hj (by omega)
  simpa [List.getD,hj,show j<L.length by omega] using this
theorem Ou{data:Int}{L:List Dv}{R:Nat→Nat}(h:DevsOk data L):EntsOk 4 (Yx L R):=by
 obtain⟨h1,h2⟩:=Ox h
 refine⟨fun i hi=>?_,fun j hj=>?_,fun i hi=>?_⟩
 ·rw[Xg] at hi
  rw[Ji hi];exact h1 i hi
 ·rw[Xg] at hj
  rw[Ji (by omega),Ji hj];exact h2 j hj
 ·rw[Xg] at hi
  rw[Ji hi];exact Zj _ _
theorem Zac{data:Int}{L:List Dv}{C:Nat→Int}(h:DevsOk data L):EntsOk 24 (Xm L C):=by
 obtain⟨h1,h2⟩:=Ox h
 refine⟨fun i hi=>?_,fun j hj=>?_,fun i hi=>?_⟩
 ·rw[Zr] at hi
  rw[Qg hi];exact h1 i hi
 ·rw[Zr] at hj
  rw[Qg (by omega),Qg hj];exact h2 j hj
 ·rw[Zr] at hi
  rw[Qg hi];exact Zb3 _ _
def Ko(B:Bl)(fuel:Int)(t:Int)(e:List Ent)(r:Int):Prop:=(Zd B r t fuel).es.map kvE=e.map kvE∧(Zd B r t fuel).fs=[]
theorem Ko.len{B:Bl}{fuel t r:Int}{e:List Ent}(h:Ko B fuel t e r):(Zd B r t fuel).es.length=e.length:=by
 have:=congrArg List.length h.1
 simpa using this
theorem kv_get{es e:List Ent}(h:es.map kvE=e.map kvE)(i:Nat):(es.getD i Zi).1=(e.getD i Zi).1∧(es.getD i Zi).2.1=(e.getD i Zi).2.1:=by
 have hl:es.length=e.length:=by simpa using congrArg List.length h
 by_cases hi:i<es.length
 ·have e1:(es.map kvE)[i]? = (e.map kvE)[i]? := by rw[h]
  have a0:i<e.length:=by omega
  rw[List.getElem?_map,List.getElem?_map,List.getElem?_eq_getElem hi,List.getElem?_eq_getElem a0] at e1
  simp only[Option.map_some,Option.some.injEq,kvE,Prod.mk.injEq] at e1
  simp[List.getD,hi,a0,e1]
 ·have a0:¬ i<e.length:=by omega
  simp[List.getD,hi,a0]
theorem Ko.get{B:Bl}{fuel t r:Int}{e:List Ent}(h:Ko B fuel t e r)(i:Nat):((Zd B r t fuel).es.getD i Zi).1=(e.getD i Zi).1∧((Zd B r t fuel).es.getD i Zi).2.1=(e.getD i Zi).2.1:=kv_get h.1 i
theorem Wk{α:Type}{a b:List α}(d:α)(hl:a.length=b.length)(h:∀ i,i<a.length→a.getD i d=b.getD i d):a=b:=by
 refine List.ext_getElem hl fun i h1 h2=>?_
 have:=h i h1
 simpa [List.getD,h1,h2] using this
theorem Zdo{B:Bl}{fuel data r:Int}{M:List Mp}(hd:data≤65536)(hM:MapsOk data M)(h:Ko B fuel 2 (Jf M) r):Ir B r data fuel=([],0,M):=by
 have hl:=h.len
 rw[Vi] at hl
 have hx:∀ j,j<M.length→Fo data ((Zd B r 2 fuel).es.getD j Zi).2.1=0∧Zdm ((Zd B r 2 fuel).es.getD j Zi)=M.getD j (0,0,0):=fun j hj=>by
  obtain⟨g1,g2⟩:=h.get j
  rw[Hs hj] at g1 g2
  have hb:=hM.each (M.getD j (0,0,0)) (by simp[List.getD,hj])
  obtain⟨r1,r2,r3⟩:=Zgr (m:=M.getD j (0,0,0)) ⟨by omega,by omega⟩ hb.2.2
  refine⟨?_,?_⟩
  ·unfold Fo
   rw[g2,if_neg (fun q=>q r1),if_neg (by rw[r2];omega)]
  ·unfold Zdm
   rw[g1,g2,r2,r3]
 rw[Uj h.2,Li fun j hj=>(hx j (by omega)).1]
 congr 2
 refine Wk (0,0,0) (by rw[List.length_map,hl]) fun i hi=>?_
 rw[List.length_map] at hi
 rw[←(hx i (by omega)).2]
 simp[List.getD,hi]
structure DevsStand(B:List UInt8)(fuel data:Int)(L:List Dv)(R:Nat→Nat)(C:Nat→Int)(x y:Int):Prop where
 det:Ko B fuel 3 (Xm L C) y
 top:Ko B fuel 1 (Yx L R) x
 own:∀ i,i<L.length→Ko B fuel 2 (Jf (L.getD i dvD).2) (R i:Int)
 root:∀ i,i<L.length→1≤R i∧R i≤14399
theorem DevsStand.ownO{B:Bl}{fuel data x y:Int}{L:List Dv}{R:Nat→Nat}{C:Nat→Int}(h:DevsStand B fuel data L R C x y)(hd:data≤65536)(hL:DevsOk data L){i:Nat}(hi:i<L.length):ownO B ((Zd B x 1 fuel).es.getD i Zi) data fuel=([],0,(L.getD i dvD).2)∧Ys ((Zd B x 1 fuel).es.getD i Zi).2.1=0:=by
 have hg:=(h.top.get i).2
 rw[Ji hi] at hg
 obtain⟨r1,r2⟩:=Zad (h.root i hi).1 (h.root i hi).2
 unfold Go.Proofs.YtgphgaehfdfjjaaGreat.ownO
 rw[hg,r2,r1]
 exact⟨Zdo hd (hL.each _ (by simp[List.getD,hi])).maps (h.own i hi),rfl⟩
theorem DevsStand.sum{B:Bl}{fuel data x y:Int}{L:List Dv}{R:Nat→Nat}{C:Nat→Int}(h:DevsStand B fuel data L R C x y)(hd:data≤65536)(hL:DevsOk data L):∀ i,i≤L.length→sumL B (Zd B x 1 fuel).es data fuel i=Gf (L.take i)
 | 0,_=>by simp[sumL,Gf]
 | i+1,hi=>by
  have e:=sumL_take hd h hL (i:=i) (by omega)
  show sumL B (Zd B x 1 fuel).es data fuel i+_=_
  rw[DevsStand.sum h hd hL i (by omega),e]
where
 sumL_take {B:List UInt8} {fuel data x y:Int} {L:List Dv} {R:Nat→Nat} {C:Nat→Int} (hd:data≤65536) (h:DevsStand B fuel data L R C x y) (hL:DevsOk data L) {i:Nat} (hi:i<L.length):Gf (L.take i)+(Go.Proofs.YtgphgaehfdfjjaaGreat.ownO B ((Zd B x 1 fuel).es.getD i Zi) data fuel).2.2.length=Gf (L.take (i+1)):=by
  rw[(h.ownO hd hL hi).1]
  unfold Gf
  rw[List.take_succ_eq_append_getElem hi,List.map_append,List.sum_append]
  simp[List.getD,hi]
theorem Uc(L:List Dv)(i:Nat):Gf (L.take i)≤Gf L:=by
 conv=>rhs;rw[←List.take_append_drop i L]
 unfold Gf
 rw[List.map_append,List.sum_append];omega
theorem Zez{D T:List Ent}(hl:D.length=T.length)(h:∀ i,i<D.length→(D.getD i Zi).1=(T.getD i Zi).1):Ke D T=0:=by
 rw[Ej D.length (Nat.le_refl _) (by omega) h,List.drop_length,hl,List.drop_length];rfl
theorem DevsStand.pair{B:Bl}{fuel data x y:Int}{L:List Dv}{R:Nat→Nat}{C:Nat→Int}(h:DevsStand B fuel data L R C x y):Ke (Zd B y 3 fuel).es (Zd B x 1 fuel).es=0:=by
 refine Zez (by rw[h.det.len,h.top.len,Zr,Xg]) fun i hi=>?_
 rw[h.det.len,Zr] at hi
 rw[(h.det.get i).1,(h.top.get i).1,Qg hi,Ji hi]
theorem Zcs{B:Bl}{fuel data x y:Int}{L:List Dv}{R:Nat→Nat}(hd:data≤65536)(hL:DevsOk data L)(h:DevsStand B fuel data L R (fun i=>((L.getD i dvD).2.length:Int)) x y):Vv B x y data fuel=([],0,L):=by
 have a3:(Zd B y 3 fuel).es.length=L.length:=by rw[h.det.len,Zr]
 have a2:=hL.few
 rw[Jq h.det.2 h.top.2 (by omega) h.pair]
 have hx:∀ j,j<L.length→(Za2 B (Zd B y 3 fuel).es (Zd B x 1 fuel).es data fuel j).2=0∧devX B ((Zd B y 3 fuel).es.getD j Zi) ((Zd B x 1 fuel).es.getD j Zi) data fuel=L.getD j dvD:=fun j hj=>by
  have a1:=hL.each (L.getD j dvD) (by simp[List.getD,hj])
  obtain⟨o1,o2⟩:=h.ownO hd hL hj
  obtain⟨g1,g2⟩:=h.det.get j
  rw[Qg hj] at g1 g2
  have hs:=h.sum hd hL j (by omega)
  have a0:=DevsStand.sum.sumL_take hd h hL hj
  rw[o1] at a0
  have a5:=Uc L (j+1)
  have a4:=hL.sum
  obtain⟨d0,d1,d2,d3,d4⟩:=Lp (n:=((L.getD j dvD).2.length:Int)) a1 ⟨by omega,by change (((L.getD j dvD).2.length:Nat):Int)≤_;change Gf (L.take j)+(L.getD j dvD).2.length=_ at a0;omega⟩
  constructor
  ·unfold Za2 Mx
   rw[g1,g2,o1,o2,hs,if_neg (by have:=a1.id;simp only;omega),if_neg (fun q=>q d0),if_neg (fun q=>q rfl),if_neg (fun q=>q rfl),if_neg (by simp only;omega),if_neg (by change ¬ _<Gf (L.take j)+(L.getD j dvD).2.length;change Gf (L.take j)+(L.getD j dvD).2.length=_ at a0;omega)]
  ·unfold devX
   rw[g1,g2,o1,d2,d3,d4]
 rw[Lh fun j hj=>(hx j (by omega)).1,a3]
 congr 2
 refine Wk dvD (On _ _ _ _ _ _) fun i hi=>?_
 rw[On] at hi
 rw[←(hx i hi).2]
 simp[devL,List.getD,List.getElem?_range hi]
theorem Zdg{B:Bl}{fuel data x y:Int}{L:List Dv}{R:Nat→Nat}{C:Nat→Int}(hd:data≤65536)(hL:DevsOk data L)(h:DevsStand B fuel data L R C x y){i:Nat}(hi:i<L.length)(hc:0≤C i∧C i≤16384)(hn:C i≠((L.getD i dvD).2.length:Int)):(Vv B x y data fuel).2.1≠0:=by
 have a2:(Zd B y 3 fuel).es.length=L.length:=by rw[h.det.len,Zr]
 have a1:=hL.few
 rw[Jq h.det.2 h.top.2 (by omega) h.pair]
 have hb:(Za2 B (Zd B y 3 fuel).es (Zd B x 1 fuel).es data fuel i).2≠0:=by
  have a0:=hL.each (L.getD i dvD) (by simp[List.getD,hi])
  obtain⟨o1,o2⟩:=h.ownO hd hL hi
  obtain⟨g1,g2⟩:=h.det.get i
  rw[Qg hi] at g1 g2
  obtain⟨d0,d1,_⟩:=Lp (n:=C i) a0 hc
  unfold Za2 Mx
  rw[g1,g2,o1,o2,if_neg (by have:=a0.id;simp only;omega),if_neg (fun q=>q d0),if_neg (fun q=>q rfl),if_neg (fun q=>q rfl),if_pos (by simp only;omega)]
  exact(by decide:(13:Int)≠0)
 unfold An
 split
 ·rename_i j hj
  have:=List.find?_some hj
  exact bne_iff_ne.1 this
 ·rename_i hf
  rw[List.find?_eq_none] at hf
  exact absurd (hf i (List.mem_range.2 (by omega))) (by simpa using hb)
theorem Rx{B:Bl}{fuel data x y:Int}{D T:List Ent}(h1:Ko B fuel 3 D y)(h2:Ko B fuel 1 T x)(hl:D.length≠T.length):(Vv B x y data fuel).2.1≠0:=by
 have hp:Ke (Zd B y 3 fuel).es (Zd B x 1 fuel).es≠0:=fun q=>hl (by rw[←h1.len,←h2.len];exact(Dx q).1)
 unfold Vv
 rw[if_neg (fun q=>q h1.2),if_neg (fun q=>q h2.2)]
 split
 ·exact(by decide:(2:Int)≠0)
 split
 ·exact(by decide:(18:Int)≠0)
 split
 ·exact(by decide:(18:Int)≠0)
 rename_i a b
 have:=pairE_le (Zd B y 3 fuel).es (Zd B x 1 fuel).es
 omega
where
 pairE_le:∀ (D T:List Ent),Ke D T≤2
 | [],[]=>by decide
 | [],_::_=>by show 1≤2;decide
 | _::_,[]=>by show 2≤2;decide
 | x::a,y::b=>by
  show(if x.1=y.1 then Ke a b else if x.1<y.1 then 2 else 1)≤2
  split
  ·exact pairE_le a b
  ·split<;>decide
theorem Dz{n m:Nat}(hm:1≤m)(C:Nat→Nat):∀ j,j≤ovN n m→((List.range j).map fun i=>1+((List.range (Ye n m i)).map fun k=>C (i*m+k)).sum).sum=j+((List.range (min (j*m) n)).map C).sum
 | 0,_=>by simp
 | j+1,hj=>by
  have a0:=Sy hm (show j<ovN n m by omega)
  have e:min ((j+1)*m) n=j*m+Ye n m j:=by unfold Ye;rw[Nat.add_mul,Nat.one_mul];omega
  rw[List.range_succ,List.map_append,List.sum_append,Dz hm C j (by omega),e,List.range_add,List.map_append,List.sum_append,Nat.min_eq_left a0]
  simp only[List.map_cons,List.map_nil,List.sum_cons,List.sum_nil,List.map_map]
  have:((List.range (Ye n m j)).map fun k=>C (j*m+k))=(List.range (Ye n m j)).map (C ∘ fun x=>j*m+x):=rfl
  rw[this];omega
theorem Cn{α:Type}{n m:Nat}(hm:1≤m)(X:Nat→List α):∀ j,j≤ovN n m→((List.range j).flatMap fun i=>(List.range (Ye n m i)).flatMap fun k=>X (i*m+k))=(List.range (min (j*m) n)).flatMap X
 | 0,_=>by simp
 | j+1,hj=>by
  have a0:=Sy hm (show j<ovN n m by omega)
  have e:min ((j+1)*m) n=j*m+Ye n m j:=by unfold Ye;rw[Nat.add_mul,Nat.one_mul];omega
  rw[List.range_succ,List.flatMap_append,Cn hm X j (by omega),e,List.range_add,List.flatMap_append,Nat.min_eq_left a0]
  simp[List.flatMap_map]
theorem ov_all{n m:Nat}(hm:1≤m):min (ovN n m*m) n=n:=by
 have h:=Nat.div_add_mod (n+m-1) m
 have h2:=Nat.mod_lt (n+m-1) (show 0<m by omega)
 have h3:(n+m-1)/m*m≤ovN n m*m:=Nat.mul_le_mul_right m (by unfold ovN;omega)
 rw[Nat.mul_comm] at h
 omega
def Zfv(X:List (Int×Bl))(total deep:Nat)(w:WS):Prop:=∃ (es:List Ent) (bl:List Int),es.map kvE=X∧bl.length=total∧w=⟨es,bl,(deep:Int),total,[],false⟩
theorem Aq{t fuel:Int}(h1:1≤t)(h2:t≤5)(n:Nat):∀ (u:List Ent) (h base:Nat) (bs F:Bl) (X:Nat→List (Int×Bl)) (C:Nat→Nat),u.length=n→1≤n→EntsOk 4 u→(∀ k,k<n→(u.getD k Zi).2.1=leB ((base+k:Nat):Int) 4∧(u.getD k Zi).2.2=((base+k:Nat):Int)) →
 (2≤n→∀ k,k<n→∃ v r,X k=((u.getD k Zi).1,v)::r)→(∀ a b,a<b→b<n→∀ x∈X a,∀ y∈X b,x.1<y.1)→(∀ a,a<n→(X a).Pairwise fun x y=>x.1<y.1)→F=(Qd t u (base+n) bs).2→1≤base→(base+n+((Je n).sum-n))*256≤bs.length→base+n+((Je n).sum-n)≤14400→Lev F t fuel h n base X C→h+(Je n).length≤16 →
 (∀ k,k<n→∀ x∈X k,0≤x.1∧x.1<281474976710656)→((((List.range n).map C).sum+((Je n).sum-n):Nat):Int)≤fuel →
 Zfv ((List.range n).flatMap X) (((List.range n).map C).sum+((Je n).sum-n)) (h+(Je n).length) (Zd F (Qd t u (base+n) bs).1 t fuel):=by
 induction n using Nat.strongRecOn with
 | _ n ih =>
  intro u h base bs F X C hn b0 E hu hh hs b8 hF c2 b9 h4 L a0 hX a8
  subst hn
  by_cases h9:u.length≤1
  ·have c1:u.length=1:=by omega
   have c4:Je u.length=[1]:=by rw[Vq h9,c1]
   rw[c4] at a0 a8 ⊢
   rw[c1] at a8 ⊢
   simp only[List.length_cons,List.length_nil,List.sum_cons,List.sum_nil,List.range_one,List.map_cons,List.map_nil,List.flatMap_cons,List.flatMap_nil,List.append_nil,Nat.sub_self,Nat.add_zero] at a0 a8 ⊢
   rw[Ve h9,(hu 0 (by omega)).2]
   obtain⟨es,bl,e1,e2,e3⟩:=L.go 0 (by omega) 17 [] 0 281474976710656 ws0 (by omega) (by simp;omega) (fun y hy=>by cases hy) (by decide) (fun x hx=>hX 0 (by omega) x hx) rfl (by simp only[ws0];omega) (.inl rfl)
   refine⟨es,bl,e1,e2,?_⟩
   unfold Zd
   rw[e3]
   simp[ws0]
  ·have c6:=Zdw (x:=u.length) (by omega)
   have hp:=Xy u.length 18
   have c0:Je u.length=u.length::Je (ovN u.length 18):=Yw h9
   have hg:=Kd (ovN u.length 18)
   rw[c0] at b9 h4 a0 a8
   simp only[List.sum_cons,List.length_cons] at b9 h4 a0 a8
   obtain⟨a1,a2,a3⟩:=Qr (t:=t) (leaf:=false) (m:=18) (v:=4) (l:=u) (q:=base+u.length) (bs:=bs) E h1 h2 rfl rfl (fun _=>by omega) (ovN u.length 18) (Nat.le_refl _) (by omega)
   obtain⟨b1,b2⟩:=Wl (t:=t) h1 h2 (ovN u.length 18) (upE u 18 (base+u.length) (ovN u.length 18)) (base+u.length+ovN u.length 18) (Uo t false 18 4 u (base+u.length) bs (ovN u.length 18)) (Xh _ _ _ _) hp (Mo E (by decide)) (by rw[a1];omega)
   have b3:F=(Qd t (upE u 18 (base+u.length) (ovN u.length 18)) (base+u.length+ovN u.length 18) (Uo t false 18 4 u (base+u.length) bs (ovN u.length 18))).2:=by rw[hF,Yp h9]
   have b5:F.length=bs.length:=by rw[b3,b1,a1]
   have a9:LaidF F t false 18 4 u (base+u.length):=by
    intro i hi
    rw[b3,b2 _ (by omega)];exact a2 i hi
   have L2:=Zg2 L rfl (fun k hk=>(hu k hk).1) (hh (by omega)) hs b8 E h1 h2 b0 c2 a9 b5 (by omega) (by omega)
   have a7:∀ i,Ye u.length 18 i=min 18 (u.length-i*18):=fun i=>rfl
   have b7:∀ i,i<ovN u.length 18→i*18<u.length:=fun i hi=>Zaq (by decide) b0 hi
   have b4:=ov_all (n:=u.length) (m:=18) (by decide)
   have a5:=Dz (n:=u.length) (m:=18) (by decide) C (ovN u.length 18) (Nat.le_refl _)
   have a4:=Cn (n:=u.length) (m:=18) (by decide) X (ovN u.length 18) (Nat.le_refl _)
   rw[b4] at a5 a4
   have b6:=ih (ovN u.length 18) (by omega) (upE u 18 (base+u.length) (ovN u.length 18)) (h+1) (base+u.length) (Uo t false 18 4 u (base+u.length) bs (ovN u.length 18)) F (fun i=>(List.range (Ye u.length 18 i)).flatMap fun j=>X (i*18+j)) (fun i=>1+((List.range (Ye u.length 18 i)).map fun j=>C (i*18+j)).sum) (Xh _ _ _ _) hp (Mo E (by decide)) (fun k hk=>by rw[Kl hk];exact⟨rfl,rfl⟩)
    (fun _ k hk=>by
     obtain⟨v,r,hv⟩:=hh (by omega) (k*18) (b7 k hk)
     obtain⟨z,hz⟩:∃ z,Ye u.length 18 k=z+1:=⟨Ye u.length 18 k-1,by have:=b7 k hk;rw[a7];omega⟩
     refine⟨v,r++(List.range z).flatMap fun j=>X (k*18+(j+1)),?_⟩
     show(List.range (Ye u.length 18 k)).flatMap _=_
     rw[hz,List.range_succ_eq_map,List.flatMap_cons,Nat.add_zero,hv,Kl hk,(Sk (v:=4) (by decide) b0 hk).1,List.flatMap_map]
     rfl)
    (fun a b c3 hb x hx y hy=>by
     obtain⟨j,hj,hx⟩:=List.mem_flatMap.1 hx
     obtain⟨j2,a6,hy⟩:=List.mem_flatMap.1 hy
     have hj:=List.mem_range.1 hj
     have a6:=List.mem_range.1 a6
     rw[a7] at hj a6
     have:(a+1)*18≤b*18:=Nat.mul_le_mul_right 18 c3
     exact hs (a*18+j) (b*18+j2) (by omega) (by omega) x hx y hy)
    (fun a ha=>by
     refine List.pairwise_flatMap.2 ⟨fun j hj=>?_,?_⟩
     ·have hj:=List.mem_range.1 hj
      rw[a7] at hj
      exact b8 _ (by omega)
     ·refine List.Pairwise.imp_of_mem ?_ (List.pairwise_lt_range)
      intro j j2 hj a6 c5 x hx y hy
      have a6:=List.mem_range.1 a6
      rw[a7] at a6
      exact hs (a*18+j) (a*18+j2) (by omega) (by omega) x hx y hy)
    b3 (by omega) (by rw[a1];omega) (by omega) L2 (by omega)
    (fun k hk x hx=>by
     obtain⟨j,hj,hx⟩:=List.mem_flatMap.1 hx
     have hj:=List.mem_range.1 hj
     rw[a7] at hj
     exact hX _ (by omega) x hx)
    (by rw[a5];omega)
   rw[a5,a4] at b6
   rw[Yp h9,c0,List.sum_cons,List.length_cons]
   have e1:ovN u.length 18+((List.range u.length).map C).sum+((Je (ovN u.length 18)).sum-ovN u.length 18)=((List.range u.length).map C).sum+(u.length+(Je (ovN u.length 18)).sum-u.length):=by omega
   have e2:h+1+(Je (ovN u.length 18)).length=h+((Je (ovN u.length 18)).length+1):=by omega
   rw[e1,e2] at b6
   exact b6
theorem Ec:∀ (k x:Nat),x≤18 ^ k→(Je x).length≤k+1
 | 0,x,h=>by rw[Vq (by simpa using h)];simp
 | k+1,x,h=>by
  by_cases h1:x≤1
  ·rw[Vq h1];simp
  ·rw[Yw h1,List.length_cons]
   have:ovN x 18≤18 ^ k:=by
    rw[Nat.pow_succ] at h
    have hp:0<18 ^ k:=Nat.pow_pos (by decide)
    unfold ovN
    have:(x+18-1)/18≤18 ^ k:=by
     rw[Nat.div_le_iff_le_mul_add_pred (by decide)];omega
    omega
   have:=Ec k _ this
   omega
theorem Dg{l:List Ent}{m:Nat}:∀ j,((List.range j).flatMap fun i=>(Zm l m i).map kvE)=(l.take (j*m)).map kvE
 | 0=>by simp
 | j+1=>by
  rw[List.range_succ,List.flatMap_append,Dg j,Nat.add_mul,Nat.one_mul,List.take_add,List.map_append]
  simp[Zm]
theorem Zfs(n:Nat):((List.range n).map fun _=>1).sum=n:=by
 induction n with
 | zero=>rfl
 | succ n ih=>rw[List.range_succ,List.map_append,List.sum_append,ih];simp
theorem Zcz{t fuel:Int}{l:List Ent}{q:Nat}{bs:Bl}(h1:1≤t)(h2:t≤5)(E:EntsOk (Ht t true) l)(hn:l.length≤32768)(hq:1≤q)(hbs:(q+Ka t l.length)*256≤bs.length)(h4:q+Ka t l.length≤14400)(hfu:(Ka t l.length:Int)≤fuel) :
 Zfv (l.map kvE) (Ka t l.length) (Jk t l.length).length (Zd (Xw t l q bs).2 (Xw t l q bs).1 t fuel):=by
 obtain⟨m,hm⟩:∃ m,Qq t true=m:=⟨_,rfl⟩
 obtain⟨v,hv⟩:∃ v,Ht t true=v:=⟨_,rfl⟩
 have a6:=Yb t true
 have h6:6≤Qq t true:=by
  unfold Qq;repeat' split
  all_goals first|decide|simp_all
 have b0:=Xy l.length m
 have hg:=Kd (ovN l.length m)
 have hN:Ka t l.length=(Je (ovN l.length m)).sum:=by unfold Ka Jk;rw[hm]
 have hT:Xw t l q bs=Qd t (upE l m q (ovN l.length m)) (q+ovN l.length m) (Uo t true m v l q bs (ovN l.length m)):=by unfold Xw;rw[hm,hv]
 have hD:(Jk t l.length).length=0+(Je (ovN l.length m)).length:=by unfold Jk;rw[hm,Nat.zero_add]
 rw[hv] at E
 rw[hm] at a6 h6
 rw[hN] at hbs h4 hfu ⊢
 rw[hD,hT]
 obtain⟨a1,a2,a3⟩:=Qr (t:=t) (leaf:=true) (m:=m) (v:=v) (l:=l) (q:=q) (bs:=bs) E h1 h2 hm hv (fun h=>by cases h) (ovN l.length m) (Nat.le_refl _) (by omega)
 obtain⟨b1,b2⟩:=Wl (t:=t) h1 h2 (ovN l.length m) (upE l m q (ovN l.length m)) (q+ovN l.length m) (Uo t true m v l q bs (ovN l.length m)) (Xh _ _ _ _) b0 (Mo E a6.1) (by rw[a1];omega)
 have a9:(Qd t (upE l m q (ovN l.length m)) (q+ovN l.length m) (Uo t true m v l q bs (ovN l.length m))).2.length=bs.length:=by rw[b1,a1]
 have a7:LaidF (Qd t (upE l m q (ovN l.length m)) (q+ovN l.length m) (Uo t true m v l q bs (ovN l.length m))).2 t true m v l q:=by
   intro i hi
   rw[b2 _ (by omega)];exact a2 i hi
 have L:=lev_leaf (fuel:=fuel) hm hv E h1 h2 a7 a9 (by omega) (by omega)
 have b8:ovN l.length m≤5833:=by
   unfold ovN
   have:(l.length+m-1)/m≤5833:=by
    rw[Nat.div_le_iff_le_mul_add_pred (by omega)]
    have:=Nat.mul_le_mul_right 5833 h6
    omega
   omega
 have b4:=Ec 4 (ovN l.length m) (Nat.le_trans b8 (by decide))
 have a0:∀ {i j:Nat},j<Ye l.length m i→i*m+j<l.length:=fun {i j} hj=>by unfold Ye at hj;omega
 have a4:∀ {i:Nat} {x:Int×Bl},x∈(Zm l m i).map kvE→∃ j,j<Ye l.length m i∧x=kvE (l.getD (i*m+j) Zi):=by
   intro i x hx
   obtain⟨y,hy,rfl⟩:=List.mem_map.1 hx
   obtain⟨j,hj,rfl⟩:=List.mem_iff_getElem.1 hy
   have a5:j<Ye l.length m i:=by rw[←Kg];exact hj
   refine⟨j,a5,?_⟩
   rw[←Kh a5];simp[List.getD,hj]
 have a8:=Aq (fuel:=fuel) h1 h2 (ovN l.length m) (upE l m q (ovN l.length m)) 0 q (Uo t true m v l q bs (ovN l.length m)) _ (fun i=>(Zm l m i).map kvE) (fun _=>1) (Xh _ _ _ _) b0 (Mo E a6.1) (fun k hk=>by rw[Kl hk];exact⟨rfl,rfl⟩)
   (fun b7 k hk=>by
    have b3:1≤l.length:=by
     rcases Nat.eq_zero_or_pos l.length with q0|q0
     ·rw[q0] at b7
      have:ovN 0 m=1:=by unfold ovN;rw[Nat.div_eq_of_lt (by omega)];rfl
      omega
     ·exact q0
    obtain⟨k1,k2⟩:=Sk (v:=v) (q:=q) a6.1 b3 hk
    have hz:0<Ye l.length m k:=by unfold Ye;omega
    rw[Kl hk,k1]
    have hc:=Kg l m k
    cases hcc:Zm l m k with
    | nil=>rw[hcc] at hc;simp at hc;omega
    | cons y r =>
     refine⟨y.2.1,r.map kvE,?_⟩
     have h0:=Kh (l:=l) (m:=m) (i:=k) (j:=0) hz
     rw[hcc,Nat.add_zero] at h0
     simp only[List.map_cons]
     have e0:y=l.getD (k*m) Zi:=by simpa [List.getD] using h0
     rw[e0];rfl)
   (fun a b b5 hb x hx y hy=>by
    obtain⟨j,hj,rfl⟩:=a4 hx
    obtain⟨j2,a5,rfl⟩:=a4 hy
    have:(a+1)*m≤b*m:=Nat.mul_le_mul_right m b5
    rw[Nat.add_mul,Nat.one_mul] at this
    have b9:j<m:=by unfold Ye at hj;omega
    exact E.mono (a:=a*m+j) (b:=b*m+j2) (by omega) (a0 a5))
   (fun a ha=>by
    rw[List.pairwise_map]
    refine List.pairwise_iff_getElem.2 fun i j hi hj c0=>?_
    have a5:j<Ye l.length m a:=by rw[←Kg];exact hj
    have e1:=Kh (l:=l) (m:=m) (i:=a) (j:=i) (by omega)
    have e2:=Kh (l:=l) (m:=m) (i:=a) (j:=j) a5
    simp only[List.getD,List.getElem?_eq_getElem hi,List.getElem?_eq_getElem hj,Option.getD_some] at e1 e2
    show(Zm l m a)[i].1<(Zm l m a)[j].1
    rw[e1,e2]
    exact E.mono (a:=a*m+i) (b:=a*m+j) (by omega) (a0 a5))
   rfl hq (by rw[a1];omega) (by omega) L (by omega)
   (fun k hk x hx=>by
    obtain⟨j,hj,rfl⟩:=a4 hx
    have:=E.hk _ (a0 hj)
    exact⟨this.1,by have:=this.2;simp only[kvE];omega⟩)
   (by rw[Zfs];omega)
 rw[Zfs,Dg] at a8
 rw[show ovN l.length m+((Je (ovN l.length m)).sum-ovN l.length m)=(Je (ovN l.length m)).sum by omega] at a8
 have b6:=ov_all (n:=l.length) (m:=m) a6.1
 rw[List.take_of_length_le (by omega)] at a8
 exact a8
theorem Zeu{l x y:Bl}{a b:Nat}(ha:a+x.length≤l.length)(hb:b+y.length≤l.length)(hd:a+x.length≤b∨b+y.length≤a):Vo (Vo l a x) b y=Vo (Vo l b y) a x:=by
 have e1:=Yn ha
 have e2:=Yn hb
 apply Mw
 ·rw[Yn (by rw[e1];exact hb),e1,Yn (by rw[e2];exact ha),e2]
 ·intro j hj
  rw[Qx (by rw[e1];exact hb),Qx ha,Qx (by rw[e2];exact ha),Qx hb]
  by_cases p:a≤j∧j<a+x.length
  ·rw[if_neg (by omega),if_pos p,if_pos p]
  ·rw[if_neg p,if_neg p]
theorem Zae{t:Int}{leaf:Bool}{m v:Nat}{l:List Ent}{q k:Nat}{bs x:Bl}(E:EntsOk v l)(h1:1≤t)(h2:t≤5)(hm:Qq t leaf=m)(hv:Ht t leaf=v)(hl:leaf=false→1≤l.length)(hx:x.length=256)(hk:(k+1)*256≤bs.length)(j:Nat) :
 j≤ovN l.length m→(q+j)*256≤bs.length→(k<q∨q+j≤k)→Vo (Uo t leaf m v l q bs j) (k*256) x=Uo t leaf m v l q (Vo bs (k*256) x) j:=by
 induction j with
 | zero=>exact fun _ _ _=>by simp only[Uo]
 | succ j ih =>
  intro hj hq hd
  have ih:=ih (by omega) (by omega) (by omega)
  have a1:=(Qr (t:=t) (leaf:=leaf) (m:=m) (v:=v) (l:=l) (q:=q) (bs:=bs) E h1 h2 hm hv hl j (by omega) (by omega)).1
  have a0:=Lg (Un E h1 h2 hm hv hl (show j<ovN l.length m by omega))
  have a2:(Yz 2 ((q+j:Nat):Int) (Zfz t leaf m v (Zm l m j))).length=256:=Jn (by rw[a0];decide)
  rw[Gp,Gp,←ih]
  exact Zeu (by rw[a2,a1];omega) (by rw[hx,a1];omega) (by rw[a2,hx];omega)
theorem Zc8{t:Int}(h1:1≤t)(h2:t≤5){k:Nat}{x:Bl}(hx:x.length=256)(n:Nat):∀ (u:List Ent) (q:Nat) (bs:Bl),u.length=n→1≤n→EntsOk 4 u→(q+((Je n).sum-n))*256≤bs.length→(k+1)*256≤bs.length→(k<q∨q+((Je n).sum-n)≤k) →
 Qd t u q (Vo bs (k*256) x)=((Qd t u q bs).1,Vo (Qd t u q bs).2 (k*256) x):=by
 induction n using Nat.strongRecOn with
 | _ n ih =>
  intro u q bs hn a4 E hq hk hd
  subst hn
  by_cases h:u.length≤1
  ·rw[Ve h,Ve h]
  ·have a5:=Zdw (x:=u.length) (by omega)
   have hp:=Xy u.length 18
   have a0:(Je u.length).sum=u.length+(Je (ovN u.length 18)).sum:=by rw[Yw h];rfl
   have hg:=Kd (ovN u.length 18)
   rw[Yp h,Yp h]
   obtain⟨a1,a2,a3⟩:=Qr (t:=t) (leaf:=false) (m:=18) (v:=4) (l:=u) (q:=q) (bs:=bs) E h1 h2 rfl rfl (fun _=>by omega) (ovN u.length 18) (Nat.le_refl _) (by omega)
   rw[←Zae (leaf:=false) (m:=18) (v:=4) E h1 h2 rfl rfl (fun _=>by omega) hx hk (ovN u.length 18) (Nat.le_refl _) (by omega) (by omega)]
   exact ih (ovN u.length 18) (by omega) (upE u 18 q (ovN u.length 18)) (q+ovN u.length 18) _ (Xh _ _ _ _) hp (Mo E (by decide)) (by rw[a1];omega) (by rw[a1];exact hk) (by omega)
theorem Zeb{t:Int}{l:List Ent}{q k:Nat}{bs x:Bl}(h1:1≤t)(h2:t≤5)(E:EntsOk (Ht t true) l)(hx:x.length=256)(hq:(q+Ka t l.length)*256≤bs.length)(hk:(k+1)*256≤bs.length)(hd:k<q∨q+Ka t l.length≤k) :
 Xw t l q (Vo bs (k*256) x)=((Xw t l q bs).1,Vo (Xw t l q bs).2 (k*256) x):=by
 obtain⟨m,hm⟩:∃ m,Qq t true=m:=⟨_,rfl⟩
 have a0:=Yb t true
 have a4:=Xy l.length m
 have hg:=Kd (ovN l.length m)
 have hN:Ka t l.length=(Je (ovN l.length m)).sum:=by unfold Ka Jk;rw[hm]
 rw[hm] at a0
 rw[hN] at hq hd
 unfold Xw
 rw[hm]
 obtain⟨a1,a2,a3⟩:=Qr (t:=t) (leaf:=true) (m:=m) (v:=Ht t true) (l:=l) (q:=q) (bs:=bs) E h1 h2 hm rfl (fun h=>by cases h) (ovN l.length m) (Nat.le_refl _) (by omega)
 rw[←Zae E h1 h2 hm rfl (fun h=>by cases h) hx hk (ovN l.length m) (Nat.le_refl _) (by omega) (by omega)]
 exact Zc8 h1 h2 hx (ovN l.length m) (upE l m q (ovN l.length m)) (q+ovN l.length m) _ (Xh _ _ _ _) a4 (Mo E a0.1) (by rw[a1];omega) (by rw[a1];exact hk) (by omega)
theorem Dw{t:Int}{l:List Ent}{q:Nat}{bs:Bl}(h1:1≤t)(h2:t≤5)(E:EntsOk (Ht t true) l)(hq:(q+Ka t l.length)*256≤bs.length):(Xw t l q bs).2.length=bs.length∧∀ x,x<q→Ua (Xw t l q bs).2 x=Ua bs x:=by
 obtain⟨m,hm⟩:∃ m,Qq t true=m:=⟨_,rfl⟩
 have a0:=Yb t true
 have a4:=Xy l.length m
 have hg:=Kd (ovN l.length m)
 have hN:Ka t l.length=(Je (ovN l.length m)).sum:=by unfold Ka Jk;rw[hm]
 rw[hm] at a0
 rw[hN] at hq
 unfold Xw
 rw[hm]
 obtain⟨a1,a2,a3⟩:=Qr (t:=t) (leaf:=true) (m:=m) (v:=Ht t true) (l:=l) (q:=q) (bs:=bs) E h1 h2 hm rfl (fun h=>by cases h) (ovN l.length m) (Nat.le_refl _) (by omega)
 obtain⟨b1,b2⟩:=Wl (t:=t) h1 h2 (ovN l.length m) (upE l m q (ovN l.length m)) (q+ovN l.length m) (Uo t true m (Ht t true) l q bs (ovN l.length m)) (Xh _ _ _ _) a4 (Mo E a0.1) (by rw[a1];omega)
 exact⟨by rw[b1,a1],fun x hx=>by rw[b2 x (by omega),a3 x hx]⟩
theorem Rw{t s:Int}{leaf:Bool}{m v:Nat}{l e:List Ent}{q p:Nat}{bs:Bl}(E:EntsOk v l)(h1:1≤t)(h2:t≤5)(hm:Qq t leaf=m)(hv:Ht t leaf=v)(hl:leaf=false→1≤l.length)(s1:1≤s)(s2:s≤5)(Es:EntsOk (Ht s true) e)(hp:(p+Ka s e.length)*256≤bs.length)(j:Nat) :
 j≤ovN l.length m→(q+j)*256≤bs.length→p+Ka s e.length≤q→Xw s e p (Uo t leaf m v l q bs j)=((Xw s e p bs).1,Uo t leaf m v l q (Xw s e p bs).2 j):=by
 induction j with
 | zero=>exact fun _ _ _=>by simp only[Uo]
 | succ j ih =>
  intro hj hq hd
  have ih:=ih (by omega) (by omega) hd
  have a1:=(Qr (t:=t) (leaf:=leaf) (m:=m) (v:=v) (l:=l) (q:=q) (bs:=bs) E h1 h2 hm hv hl j (by omega) (by omega)).1
  have a0:=Lg (Un E h1 h2 hm hv hl (show j<ovN l.length m by omega))
  have a2:(Yz 2 ((q+j:Nat):Int) (Zfz t leaf m v (Zm l m j))).length=256:=Jn (by rw[a0];decide)
  rw[Gp,Gp,Zeb s1 s2 Es a2 (by rw[a1];exact hp) (by rw[a1];omega) (by omega),ih]
theorem Iy{t s:Int}{e:List Ent}{p:Nat}(h1:1≤t)(h2:t≤5)(s1:1≤s)(s2:s≤5)(Es:EntsOk (Ht s true) e)(n:Nat):∀ (u:List Ent) (q:Nat) (bs:Bl),u.length=n→1≤n→EntsOk 4 u→(q+((Je n).sum-n))*256≤bs.length→(p+Ka s e.length)*256≤bs.length→p+Ka s e.length≤q →
 Xw s e p (Qd t u q bs).2=((Xw s e p bs).1,(Qd t u q (Xw s e p bs).2).2):=by
 induction n using Nat.strongRecOn with
 | _ n ih =>
  intro u q bs hn a5 E hq hp hd
  subst hn
  by_cases h:u.length≤1
  ·rw[Ve h,Ve h]
  ·have a6:=Zdw (x:=u.length) (by omega)
   have a0:=Xy u.length 18
   have a4:(Je u.length).sum=u.length+(Je (ovN u.length 18)).sum:=by rw[Yw h];rfl
   have hg:=Kd (ovN u.length 18)
   obtain⟨a1,a2,a3⟩:=Qr (t:=t) (leaf:=false) (m:=18) (v:=4) (l:=u) (q:=q) (bs:=bs) E h1 h2 rfl rfl (fun _=>by omega) (ovN u.length 18) (Nat.le_refl _) (by omega)
   have hl:=Rw (leaf:=false) (m:=18) (v:=4) (p:=p) E h1 h2 rfl rfl (fun _=>by omega) s1 s2 Es hp (ovN u.length 18) (Nat.le_refl _) (by omega) hd
   rw[Yp h,Yp h,ih (ovN u.length 18) (by omega) (upE u 18 q (ovN u.length 18)) (q+ovN u.length 18) _ (Xh _ _ _ _) a0 (Mo E (by decide)) (by rw[a1];omega) (by rw[a1];exact hp) (by omega),hl]
theorem Zb4{t s:Int}{l e:List Ent}{q p:Nat}{bs:Bl}(h1:1≤t)(h2:t≤5)(E:EntsOk (Ht t true) l)(s1:1≤s)(s2:s≤5)(Es:EntsOk (Ht s true) e)(hq:(q+Ka t l.length)*256≤bs.length)(hd:p+Ka s e.length≤q) :
 Xw s e p (Xw t l q bs).2=((Xw s e p bs).1,(Xw t l q (Xw s e p bs).2).2):=by
 obtain⟨m,hm⟩:∃ m,Qq t true=m:=⟨_,rfl⟩
 have a4:=Yb t true
 have a5:=Xy l.length m
 have hg:=Kd (ovN l.length m)
 have hN:Ka t l.length=(Je (ovN l.length m)).sum:=by unfold Ka Jk;rw[hm]
 rw[hm] at a4
 rw[hN] at hq
 have a0:(p+Ka s e.length)*256≤bs.length:=by omega
 obtain⟨a1,a2,a3⟩:=Qr (t:=t) (leaf:=true) (m:=m) (v:=Ht t true) (l:=l) (q:=q) (bs:=bs) E h1 h2 hm rfl (fun h=>by cases h) (ovN l.length m) (Nat.le_refl _) (by omega)
 have hl:=Rw (p:=p) E h1 h2 hm rfl (fun h=>by cases h) s1 s2 Es a0 (ovN l.length m) (Nat.le_refl _) (by omega) hd
 have hu:=Iy (p:=p) h1 h2 s1 s2 Es (ovN l.length m) (upE l m q (ovN l.length m)) (q+ovN l.length m) (Uo t true m (Ht t true) l q bs (ovN l.length m)) (Xh _ _ _ _) a5 (Mo E a4.1) (by rw[a1];omega) (by rw[a1];exact a0) (by omega)
 rw[show(Xw t l q bs)=Qd t (upE l m q (ovN l.length m)) (q+ovN l.length m) (Uo t true m (Ht t true) l q bs (ovN l.length m)) from by unfold Xw;rw[hm],hu,hl]
 rw[show(Xw t l q (Xw s e p bs).2)=Qd t (upE l m q (ovN l.length m)) (q+ovN l.length m) (Uo t true m (Ht t true) l q (Xw s e p bs).2 (ovN l.length m)) from by unfold Xw;rw[hm]]
abbrev Yv:=Int×List Ent
def Vf(x:Yv):Prop:=1≤x.1∧x.1≤5∧EntsOk (Ht x.1 true) x.2∧x.2.length≤32768
def Qe(x:Yv):Nat:=Ka x.1 x.2.length
def Xq:List Yv→Nat
 | []=>0
 | x::r=>Qe x+Xq r
def Hc:List Yv→Nat→Bl→Bl
 | [],_,bs=>bs
 | x::r,q,bs=>Hc r (q+Qe x) (Xw x.1 x.2 q bs).2
theorem Hy(a b:List Yv):Xq (a++b)=Xq a+Xq b:=by
 induction a with
 | nil=>simp[Xq]
 | cons x a ih=>simp only[List.cons_append,Xq,ih];omega
theorem We(a b:List Yv):∀ (q:Nat) (bs:Bl),Hc (a++b) q bs=Hc b (q+Xq a) (Hc a q bs):=by
 induction a with
 | nil=>intro q bs;simp[Hc,Xq]
 | cons x a ih =>
  intro q bs
  simp only[List.cons_append,Hc,Xq,ih]
  rw[show q+Qe x+Xq a=q+(Qe x+Xq a) by omega]
theorem Zau(r:List Yv):∀ (q:Nat) (bs:Bl),(∀ x∈r,Vf x)→(q+Xq r)*256≤bs.length→(Hc r q bs).length=bs.length:=by
 induction r with
 | nil=>intro q bs _ _;rfl
 | cons x r ih =>
  intro q bs h hb
  have hx:=h x (by simp)
  rw[show Xq (x::r)=Qe x+Xq r from rfl] at hb
  have hk:=Dw (q:=q) (bs:=bs) hx.1 hx.2.1 hx.2.2.1 (by change (q+Qe x)*256≤_;omega)
  rw[show Hc (x::r) q bs=Hc r (q+Qe x) (Xw x.1 x.2 q bs).2 from rfl,ih _ _ (fun y hy=>h y (by simp[hy])) (by rw[hk.1];omega),hk.1]
theorem for_comm{y:Yv}{p:Nat}(hy:Vf y)(r:List Yv):∀ (q:Nat) (bs:Bl),(∀ x∈r,Vf x)→(q+Xq r)*256≤bs.length→p+Qe y≤q →
 Xw y.1 y.2 p (Hc r q bs)=((Xw y.1 y.2 p bs).1,Hc r q (Xw y.1 y.2 p bs).2):=by
 induction r with
 | nil=>intro q bs _ _ _;rfl
 | cons x r ih =>
  intro q bs h hb hp
  have hx:=h x (by simp)
  rw[show Xq (x::r)=Qe x+Xq r from rfl] at hb
  have hk:=Dw (q:=q) (bs:=bs) hx.1 hx.2.1 hx.2.2.1 (by change (q+Qe x)*256≤_;omega)
  have hc:=Zb4 (t:=x.1) (s:=y.1) (l:=x.2) (e:=y.2) (q:=q) (p:=p) (bs:=bs) hx.1 hx.2.1 hx.2.2.1 hy.1 hy.2.1 hy.2.2.1 (by change (q+Qe x)*256≤_;omega) hp
  rw[show Hc (x::r) q bs=Hc r (q+Qe x) (Xw x.1 x.2 q bs).2 from rfl,show Hc (x::r) q (Xw y.1 y.2 p bs).2=Hc r (q+Qe x) (Xw x.1 x.2 q (Xw y.1 y.2 p bs).2).2 from rfl,ih _ _ (fun z hz=>h z (by simp[hz])) (by rw[hk.1];omega) (by omega),hc]
theorem Zap{a b:List Yv}{y:Yv}{q:Nat}{bs:Bl}{fuel:Int}(h:∀ x∈a++y::b,Vf x)(hq:1≤q)(hb:(q+Xq (a++y::b))*256≤bs.length)(h4:q+Xq (a++y::b)≤14400)(hfu:(Qe y:Int)≤fuel) :
 Zfv (y.2.map kvE) (Qe y) (Jk y.1 y.2.length).length (Zd (Hc (a++y::b) q bs) (Xw y.1 y.2 (q+Xq a) (Hc a q bs)).1 y.1 fuel):=by
 have hy:=h y (by simp)
 have hn:Xq (a++y::b)=Xq a+(Qe y+Xq b):=Hy a (y::b)
 have a0:=Zau a q bs (fun x hx=>h x (by simp[hx])) (by omega)
 have a1:=Zau b (q+Xq a+Qe y) (Hc a q bs) (fun x hx=>h x (by simp[hx])) (by rw[a0];omega)
 have hc:=for_comm (p:=q+Xq a) hy b (q+Xq a+Qe y) (Hc a q bs) (fun x hx=>h x (by simp[hx])) (by rw[a0];omega) (Nat.le_refl _)
 have s:=Zcz (t:=y.1) (fuel:=fuel) (l:=y.2) (q:=q+Xq a) (bs:=Hc b (q+Xq a+Qe y) (Hc a q bs)) hy.1 hy.2.1 hy.2.2.1 hy.2.2.2 (by omega) (by change (q+Xq a+Qe y)*256≤_;rw[a1,a0];omega) (by change q+Xq a+Qe y≤_;omega) hfu
 rw[hc] at s
 rw[We]
 exact s
theorem Zbb{α:Type}{l:List α}{k:Nat}(d:α)(h:k<l.length):l.getD k d∈l:=by
 rw[show l.getD k d=l[k] from by simp[List.getD,h]];exact List.getElem_mem _
theorem Zgn{x:Nat}(h:1≤x):(Je x).sum+1≤2*x:=by
 induction x using Nat.strongRecOn with
 | _ x ih =>
  by_cases h1:x≤1
  ·rw[Vq h1];simp;omega
  ·rw[Yw h1,List.sum_cons]
   have h2:=Zdw (x:=x) (by omega)
   have h3:=Xy x 18
   have h4:=ih (ovN x 18) (by omega) h3
   omega
theorem Of(t:Int)(n:Nat):Ka t n+1≤2*ovN n (Qq t true):=Zgn (Xy _ _)
theorem nod2_le(n:Nat):6*Ka 2 n≤n+11:=by
 have h:=Of 2 n
 rw[show Qq 2 true=12 from rfl] at h
 unfold ovN at h
 omega
theorem Zfu{n:Nat}(h:n≤30):Ka 1 n≤3:=by
 have h:=Of 1 n
 rw[show Qq 1 true=18 from rfl] at h
 unfold ovN at h
 omega
theorem Iu{n:Nat}(h:n≤30):Ka 3 n≤9:=by
 have h:=Of 3 n
 rw[show Qq 3 true=6 from rfl] at h
 unfold ovN at h
 omega
def Ju(L:List Dv):List Yv:=L.map fun d=>(2,Jf d.2)
def Yy(L:List Dv)(i:Nat):Nat:=Xq (Ju (L.take (i+1)))
theorem Bd(a b:List Dv):Ju (a++b)=Ju a++Ju b:=List.map_append ..
theorem Bp{L:List Dv}{i:Nat}(h:i<L.length):Ju (L.take (i+1))=Ju (L.take i)++[(2,Jf (L.getD i dvD).2)]:=by
 rw[List.take_succ_eq_append_getElem h,Bd]
 simp[Ju,List.getD,h]
theorem Zfw(L:List Dv):6*Xq (Ju L)≤Gf L+11*L.length:=by
 induction L with
 | nil=>exact Nat.zero_le _
 | cons d r ih =>
  have e:Xq (Ju (d::r))=Ka 2 (Jf d.2).length+Xq (Ju r):=rfl
  have e2:Gf (d::r)=d.2.length+Gf r:=rfl
  have:=nod2_le (Jf d.2).length
  rw[Vi] at this e
  rw[e,e2,List.length_cons];omega
theorem Av{data:Int}{L:List Dv}(h:DevsOk data L):∀ x∈Ju L,Vf x:=by
 intro x hx
 obtain⟨d,hd,rfl⟩:=List.mem_map.1 hx
 have hs:d.2.length≤Gf L:=by
  unfold Gf
  exact List.le_sum_of_mem_nat (List.mem_map.2 ⟨d,hd,rfl⟩)
 have:=h.sum
 exact⟨show(1:Int)≤2 by decide,show(2:Int)≤5 by decide,mapEs_ok (h.each d hd).maps,by rw[Vi];omega⟩
where
 List.le_sum_of_mem_nat {l:List Nat} {a:Nat} (h:a∈l):a≤l.sum:=by
  induction l with
  | nil=>cases h
  | cons b l ih =>
   rw[List.sum_cons]
   rcases List.mem_cons.1 h with rfl|h
   ·omega
   ·have:=ih h;omega
theorem forN_one(x:Yv):Xq [x]=Qe x:=by show Qe x+0=_;omega
theorem Yq(F:List Yv)(x:Yv):Xq (F++[x])=Xq F+Qe x:=by rw[Hy,forN_one]
theorem Zg6(F:List Yv)(x:Yv)(q:Nat)(bs:Bl):Hc (F++[x]) q bs=(Xw x.1 x.2 (q+Xq F) (Hc F q bs)).2:=by rw[We];rfl
theorem Ph(x:Yv):1≤Qe x:=Fm _ _
theorem Dm{a b:List Yv}{y:Yv}{bs:Bl}{fuel:Int}(h:∀ x∈a++y::b,Vf x)(hb:(1+Xq (a++y::b))*256≤bs.length)(h4:1+Xq (a++y::b)≤14400)(hfu:(Qe y:Int)≤fuel) :
 Ko (Hc (a++y::b) 1 bs) fuel y.1 y.2 (Xq (a++[y]):Int):=by
 have s:=Zap (q:=1) (bs:=bs) (fuel:=fuel) h (Nat.le_refl _) hb h4 hfu
 have e:(Xw y.1 y.2 (1+Xq a) (Hc a 1 bs)).1=((Xq (a++[y]):Nat):Int):=by
  rw[Ur (by omega),Yq]
  have:=Ph y
  show((1+Xq a+Qe y-1:Nat):Int)=_
  omega
 rw[e] at s
 obtain⟨es,bl,h1,_,h3⟩:=s
 unfold Ko
 have h5:Zd (Hc (a++y::b) 1 bs) (Xq (a++[y]):Int) y.1 fuel=_:=h3
 rw[h5]
 exact⟨h1,rfl⟩
def AlF (B ba b g nn cc:Nat)(pa:O0)(ca N:Nat)(bs:Bl)(F:List Yv)(w:World):Prop:=Al B ba b g nn cc pa ca 1 N (Xq F) (Hc F 1 bs) w
theorem AlF.below{B ba b g nn cc:Nat}{pa:O0}{ca N:Nat}{bs:Bl}{F:List Yv}{w W:World}(h:AlF B ba b g nn cc pa ca N bs F w)(hb:B0 w W):AlF B ba b g nn cc pa ca N bs F W:=Al.below h hb
theorem AlF.only{B ba b g nn cc:Nat}{pa:O0}{ca N:Nat}{bs:Bl}{F:List Yv}{w W:World}{T:List TypeId}(h:AlF B ba b g nn cc pa ca N bs F w)(hO:Ze T w W)(hT:(T.contains 72||(T.contains 75||(T.contains 5||T.contains 3)))=false):AlF B ba b g nn cc pa ca N bs F W:=by
 simp only[Bool.or_eq_false_iff] at hT
 exact⟨h.blkA.only hO hT.1,h.blkI.only hO hT.2.1,Zg h.data hO hT.2.2.1,Zg h.nums hO hT.2.2.2⟩
theorem Nd(B ba b g nn cc:Nat)(pa:O0)(ca N:Nat)(bs:Bl)(F:List Yv)(t:Int)(a:O0)(c n:Nat)(l:List Ent)(w:World)(hl:l.length=n)(hC:AlC B ba nn cc ca 1 N)(hA:AlF B ba b g nn cc pa ca N bs F w)(hok:Vf (t,l))(hr:Xq (F++[(t,l)])≤N)
 (hin:∀ W,Below B w W→Ze [72,5,31] w W→Sl W (.slice a n c) n (l.flatMap Va)) (hBw:B≤w.heap.size) :
 C0 11 #[P0 ba,V0 t,.slice a n c] w (fun e w'=>e=.returned (.tuple #[V0 (Xq (F++[(t,l)]):Int),.nilIface])∧Below B w w'∧Ze [72,5,31] w w'∧Fr [ba,g] w w'∧AlF B ba b g nn cc pa ca N bs (F++[(t,l)]) w'):=by
 subst hl
 have hn:=Ph (t,l)
 rw[Yq] at hr
 refine(Ca B ba b g nn cc pa ca 1 N (Xq F) (Hc F 1 bs) t a c l l.length w rfl hC hA hok.1 hok.2.1 hok.2.2.1 (Nat.le_trans hok.2.2.2 (by decide)) (Nat.le_refl _) (by omega) hr hin hBw).mono ?_
 rintro e w' ⟨rfl,hb,hO,hX,a1⟩
 have a0:(Xw t l (1+Xq F) (Hc F 1 bs)).1=((Xq (F++[(t,l)]):Nat):Int):=by
  rw[Ur (by omega),Yq]
  show((1+Xq F+Qe (t,l)-1:Nat):Int)=_
  omega
 refine⟨by rw[a0],hb,hO,hX,?_⟩
 unfold AlF
 rw[Yq,Zg6]
 exact a1
theorem Dh{L:List Dv}{R:List Yv}{bs:Bl}{fuel:Int}(h:∀ x∈Ju L++R,Vf x)(hb:(1+Xq (Ju L++R))*256≤bs.length)(h4:1+Xq (Ju L++R)≤14400)(hfu:(Xq (Ju L++R):Int)≤fuel) :
 ∀ i,i<L.length→Ko (Hc (Ju L++R) 1 bs) fuel 2 (Jf (L.getD i dvD).2) (Yy L i:Int)∧1≤Yy L i∧Yy L i≤14399:=by
 intro i hi
 have e:Ju L++R=Ju (L.take i)++(2,Jf (L.getD i dvD).2)::(Ju (L.drop (i+1))++R):=by
  have e1:L=L.take i++L.getD i dvD::L.drop (i+1):=by
   rw[show L.getD i dvD=L[i] from by simp[List.getD,hi],←List.drop_eq_getElem_cons hi,List.take_append_drop]
  conv=>lhs;rw[e1,Bd]
  simp[Ju]
 rw[e] at h hb h4 hfu ⊢
 have hn:Xq (Ju (L.take i)++(2,Jf (L.getD i dvD).2)::(Ju (L.drop (i+1))++R))=Xq (Ju (L.take i))+(Qe (2,Jf (L.getD i dvD).2)+Xq (Ju (L.drop (i+1))++R)):=Hy _ _
 have hr:Yy L i=Xq (Ju (L.take i))+Qe (2,Jf (L.getD i dvD).2):=by unfold Yy;rw[Bp hi,Yq]
 have hp:=Ph (2,Jf (L.getD i dvD).2)
 refine⟨?_,by omega,by omega⟩
 have s:=Dm (bs:=bs) (fuel:=fuel) h hb h4 (by omega)
 rw[Yq,←hr] at s
 exact s
theorem Ze5{data:Int}{L:List Dv}{R:Nat→Nat}(h:DevsOk data L):Vf (1,Yx L R):=by
 have:=h.few
 exact⟨show(1:Int)≤1 by decide,show(1:Int)≤5 by decide,Ou h,by rw[Xg];omega⟩
theorem St{data:Int}{L:List Dv}{C:Nat→Int}(h:DevsOk data L):Vf (3,Xm L C):=by
 have:=h.few
 exact⟨show(1:Int)≤3 by decide,show(3:Int)≤5 by decide,Zac h,by rw[Zr];omega⟩
theorem Sg{v:Nat}{l:List Ent}(E:EntsOk v l)(j:Nat)(hj:j<l.length):EntsOk v (l.take j++l.drop (j+1)):=by
 have a0:(l.take j++l.drop (j+1)).length=l.length-1:=by rw[List.length_append,List.length_take,List.length_drop];omega
 have hg:∀ i,i<l.length-1→(l.take j++l.drop (j+1)).getD i Zi=l.getD (if i<j then i else i+1) Zi:=fun i hi=>by
  by_cases h:i<j
  ·rw[if_pos h]
   have e:(l.take j++l.drop (j+1))[i]? = l[i]? := by rw[List.getElem?_append_left (by rw[List.length_take];omega),List.getElem?_take,if_pos h]
   simp[List.getD,e]
  ·rw[if_neg h]
   have e:(l.take j++l.drop (j+1))[i]? = l[i+1]? := by
    rw[List.getElem?_append_right (by rw[List.length_take];omega),List.getElem?_drop,List.length_take]
    congr 1;omega
   simp[List.getD,e]
 refine⟨fun i hi=>?_,fun i hi=>?_,fun i hi=>?_⟩
 ·rw[a0] at hi
  rw[hg i hi]
  exact E.hk _ (by split<;>omega)
 ·rw[a0] at hi
  rw[hg i (by omega),hg (i+1) hi]
  by_cases h1:i+1<j
  ·rw[if_pos (by omega),if_pos h1];exact E.hs i (by omega)
  ·by_cases h2:i<j
   ·rw[if_pos h2,if_neg h1]
    have a:=E.hs i (by omega)
    have b:=E.hs (i+1) (by omega)
    omega
   ·rw[if_neg h2,if_neg (by omega)];exact E.hs (i+1) (by omega)
 ·rw[a0] at hi
  rw[hg i hi]
  exact E.hw _ (by split<;>omega)
theorem Jy{α:Type}{l:List α}{j:Nat}(hj:j<l.length):(l.take j++l.drop (j+1)).length=l.length-1:=by rw[List.length_append,List.length_take,List.length_drop];omega
theorem Au{E:List Ent}{i:Nat}(h:i<E.length){x:Ent}(hx:E.getD i Zi=x):(E.take i).flatMap Va++Va x=(E.take (i+1)).flatMap Va:=by
 subst hx
 rw[List.take_succ_eq_append_getElem h,List.flatMap_append]
 simp[List.getD,h]
theorem Zal{α:Type}{f:α→List Value}{m:Nat}{w:World}{b:O0}{n c j:Nat}{l:List α}(hm:∀ x,(f x).length=m)(h:Sl w (.slice b n c) n (l.flatMap f))(hl:l.length=n)(hj:j≤n):Sl w (.slice b j c) j ((l.take j).flatMap f):=by
 rcases h with ⟨a,c',h1,h2,h3⟩|⟨p,a0,a1,h1,h2,h3,h4⟩
 ·simp only[Value.slice.injEq] at h1
  obtain⟨rfl,rfl,rfl⟩:=h1
  obtain rfl:j=0:=by omega
  exact .inl ⟨_,_,rfl,rfl,by simp⟩
 ·simp only[Value.slice.injEq] at h1
  obtain⟨rfl,_,rfl⟩:=h1
  refine .inr ⟨p,a0,c,rfl,by omega,h3,fun k x hx=>h4 k x ?_⟩
  have e:l.flatMap f=(l.take j).flatMap f++(l.drop j).flatMap f:=by rw[←List.flatMap_append,List.take_append_drop]
  rw[e,List.getElem?_append_left (List.getElem?_eq_some_iff.1 hx).1]
  exact hx
theorem Zao{α:Type}{f:α→List Value}{m:Nat}{w:World}{b:O0}{n c k:Nat}{l:List α}(hm:∀ x,(f x).length=m)(h:Sl w (.slice b n c) n (l.flatMap f))(hl:l.length=n)(hk:k≤n):Sl w (.slice (Pt b k c m) (n-k) (c-k)) (n-k) ((l.drop k).flatMap f):=by
 subst hl
 have:=Sts.cut hm h k hk
 unfold Sts at this
 rwa [List.length_drop] at this
theorem Re{α:Type}{f:α→List Value}{m:Nat}(hf:∀ x,(f x).length=m)(T:List α):(T.flatMap f).length=T.length*m:=by
 induction T with
 | nil=>simp
 | cons y T ih=>rw[List.flatMap_cons,List.length_append,hf,ih,List.length_cons,Nat.add_mul];omega
theorem Pg(l:List Ent):∀ u∈l.flatMap Va,u.oneCell'=true:=by
 intro u hu
 obtain⟨x,_,hx⟩:=List.mem_flatMap.1 hu
 simp only[Va,List.mem_cons,List.not_mem_nil,or_false] at hx
 rcases hx with rfl|rfl|rfl<;>rfl
def Vy(L:List Dv)(j:Nat):Nat→Int:=fun i=>if i=j then((L.getD i dvD).2.length:Int)+1 else((L.getD i dvD).2.length:Int)
def Xf(L:List Dv):Nat→Int:=fun i=>((L.getD i dvD).2.length:Int)
theorem Zgc{L:List Dv}{j:Nat}(hj:j<L.length):Xm L (Vy L j)=(Xm L (Xf L)).set j ((L.getD j dvD).1.1,Vd (((L.getD j dvD).2.length:Int)+1) (L.getD j dvD),0):=by
 refine Wk Zi (by rw[Zr,List.length_set,Zr]) fun i hi=>?_
 rw[Zr] at hi
 rw[Qg hi]
 by_cases e:i=j
 ·subst e
  have h2:i<(Xm L (Xf L)).length:=by rw[Zr];exact hi
  unfold Vy
  rw[if_pos rfl]
  simp[List.getD,h2]
 ·have e2:((Xm L (Xf L)).set j ((L.getD j dvD).1.1,Vd (((L.getD j dvD).2.length:Int)+1) (L.getD j dvD),0)).getD i Zi=(Xm L (Xf L)).getD i Zi:=by
   simp[List.getD,Ne.symm e]
  rw[e2,Qg hi]
  unfold Vy Xf
  rw[if_neg e]
theorem Rq{α:Type}{f:α→List Value}{m:Nat}(hf:∀ x,(f x).length=m):∀ (l:List α) (i o:Nat) (x:α) (v:Value),i<l.length→o<m→f x=(f (l[i]?.getD x)).set o v→(l.flatMap f).set (i*m+o) v=(l.set i x).flatMap f
 | [],i,o,x,v,hi,_,_=>absurd hi (by simp)
 | y::l,0,o,x,v,hi,ho,h=>by
  simp only[List.getElem?_cons_zero,Option.getD_some] at h
  rw[List.flatMap_cons,List.set_cons_zero,List.flatMap_cons,h,Nat.zero_mul,Nat.zero_add,List.set_append_left _ _ (by rw[hf];exact ho)]
 | y::l,i+1,o,x,v,hi,ho,h=>by
  simp only[List.getElem?_cons_succ] at h
  rw[List.flatMap_cons,List.set_cons_succ,List.flatMap_cons,List.set_append_right _ _ (by rw[hf,Nat.add_mul];omega),hf,show(i+1)*m+o-m=i*m+o by rw[Nat.add_mul];omega,Rq hf l i o x v (by simpa using hi) ho h]
theorem det_set{L:List Dv}{j:Nat}{d:Dv}(hj:j<L.length)(hd:L.getD j dvD=d):((Xm L (Xf L)).flatMap Va).set (j*3+1) (.string ⟨(Vd (↑(d.2.length+1):Int) d).toArray⟩)=(Xm L (Vy L j)).flatMap Va:=by
 subst hd
 have hl:j<(Xm L (Xf L)).length:=by rw[Zr];exact hj
 rw[Zgc hj,Rq Xn _ j 1 ((L.getD j dvD).1.1,Vd (((L.getD j dvD).2.length:Int)+1) (L.getD j dvD),0) _ hl (by decide)]
 have e:=Qg (L:=L) (C:=Xf L) hj
 rw[show(Xm L (Xf L))[j]?.getD ((L.getD j dvD).1.1,Vd (((L.getD j dvD).2.length:Int)+1) (L.getD j dvD),0)=(Xm L (Xf L)).getD j Zi from by simp[List.getD,hl],e]
 rfl
theorem Sj{E:List Ent}{j:Nat}(h:j≤E.length):((E.take j).flatMap Va).length=j*3:=by rw[Re Xn,List.length_take,Nat.min_eq_left h]
theorem Sv{E:List Ent}{j n:Nat}(h:E.length=n):((E.drop j).flatMap Va).length=(n-j)*3:=by rw[Re Xn,List.length_drop,h]
theorem all_len3{E:List Ent}{n:Nat}(h:E.length=n):(E.flatMap Va).length=n*3:=by rw[Re Xn,h]
theorem Zah{L:List Dv}(h1:L.length≤30)(h2:Gf L≤300)(i:Nat):Xq (Ju (L.take i))≤105:=by
 have h:=Zfw (L.take i)
 have a:=Uc L i
 rw[List.length_take] at h
 have b:=Nat.min_le_right i L.length
 omega
theorem devT_all{L:List Dv}(h1:L.length≤30)(h2:Gf L≤300):Xq (Ju L)≤105:=by
 have h:=Zfw L
 omega
theorem Zf2{L:List Dv}{i:Nat}(h:i<L.length):1≤Xq (Ju (L.take (i+1))):=by
 rw[Bp h,Yq]
 have:=Ph (2,Jf (L.getD i dvD).2);omega
theorem Zc4{data:Int}{L:List Dv}(hD:DevsOk data L){i:Nat}(h:i<L.length):Vf (2,Jf (L.getD i dvD).2):=Av hD _ (List.mem_map.2 ⟨L.getD i dvD,by simp[List.getD,h],rfl⟩)
theorem Ex{L:List Dv}{i:Nat}(h:i<L.length):(L.getD i dvD).2.length≤Gf L:=by
 have a:=Uc L (i+1)
 have e:Gf (L.take (i+1))=Gf (L.take i)+(L.getD i dvD).2.length:=by
  unfold Gf
  rw[List.take_succ_eq_append_getElem h,List.map_append,List.sum_append]
  simp[List.getD,h]
 omega
theorem tmod_ok(x:Int){n:Nat}(h:0<n):∃ (r:Int) (j:Nat),Int.tmod x (n:Int)=r∧Int.tmod (r+(n:Int)) (n:Int)=(j:Int)∧j<n∧-(n:Int)<r∧r<n:=by
 have hb:=tmod_bd x h
 obtain⟨s,hs⟩:∃ s:Nat,Int.tmod x (n:Int)+(n:Int)=(s:Int):=⟨(Int.tmod x (n:Int)+(n:Int)).toNat,by omega⟩
 refine⟨_,s%n,rfl,?_,Nat.mod_lt _ h,hb⟩
 rw[hs]
 exact(Int.ofNat_tmod s n).symm
theorem Hb(w:World) :
 C0 26 #[] w (Ky (fun w' r=>∃ b,r=.slice (S1 b) 1 1∧w.heap.size≤b∧Blk w' b [V0 8,V0 0,V0 1099511627775] 107) w):=by
 refine zin 3 Tryz.func26 ?_
 refine xbs 8 1 [V0 8,V0 0,V0 1099511627775] 107 fun b1 W1 n1=>?_
 exact xe 4 (.slice (S1 b1) 1 1) ⟨_,rfl,n1.below,b1,rfl,(n1.ge (B3 w)),n1.blk⟩
theorem map_shr(s:Bl):Int.fdiv (↑((Yu Hi s).getD 0 0):Int) (2 ^ 24)=(Mv s:Int):=by
 show Int.fdiv ((mapN s:Nat):Int) ((16777216:Nat):Int)=_
 rw[Int.fdiv_eq_ediv_of_nonneg _ (by omega)]
 unfold Mv;omega
theorem map_and(s:Bl):IntKind.i64.wrap (↑(BitVec.ofInt 64 (↑((Yu Hi s).getD 0 0):Int) &&& BitVec.ofInt 64 (16777215:Int)).toNat:Int)=(Du s:Int):=by
 show IntKind.i64.wrap (↑(BitVec.ofInt 64 (mapN s:Int) &&& BitVec.ofInt 64 (16777215:Int)).toNat:Int)=(Du s:Int)
 have:=mapN_bd s
 rw[show(16777215:Int)=((16777215:Nat):Int) from rfl,BitVec.ofInt_natCast,BitVec.ofInt_natCast,BitVec.toNat_and,BitVec.toNat_ofNat,BitVec.toNat_ofNat,Nat.mod_eq_of_lt (by omega),Nat.mod_eq_of_lt (by omega)]
 rw[show mapN s &&& 16777215=mapN s%16777216 from Nat.and_two_pow_sub_one_eq_mod (mapN s) 24]
 exact Ce (by omega)
theorem Fq(s:Bl)(w:World)(hs:s.length≤1000) :
 C0 98 #[.string ⟨s.toArray⟩] w (Ret (.tuple #[V0 (↑(Mv s):Int),V0 (↑(Du s):Int),V0 (Xv Hi s)]) w):=by
 refine zin 22 Tryz.func98 ?_
 refine xc 9 (args:=#[]) (Hb _) ?_
 rintro _ W1 ⟨_,rfl,a1,gl,rfl,gg,kl⟩
 refine xc 1 (args:=#[.slice (S1 gl) 1 1,.string ⟨s.toArray⟩]) (By Hi s (S1 gl) 1 _ Fd (by decide) (by omega) (kl.sl 1 1 (by decide) (by decide))) ?_
 rintro _ W2 ⟨_,rfl,a2,p5,c5,rfl,h5⟩
 refine xd 8 .z ?_
 have a0:=Zb (Zh h5 a1.size) (Za W2)
 refine xx (.e [0] 1) _ 1 0 1 (Zt (l:=Yu Hi s) (Zf a0) (Yt _ _) (k:=0) (by decide)).1 ?_
 refine xl (.e [] 2) ((Zt (l:=Yu Hi s) (Zf a0) (Yt _ _) (k:=0) (by decide)).2) ?_
 refine xq (.e [] 3) (congrArg V0 (show(Int.fdiv (↑((Yu Hi s).getD 0 0):Int) (2 ^ 24):Int)=(↑(Mv s):Int) from map_shr s)) ?_
 refine xx (.e [4] 5) _ 1 0 1 (Zt (l:=Yu Hi s) (Zf a0) (Yt _ _) (k:=0) (by decide)).1 ?_
 refine xl (.e [] 6) ((Zt (l:=Yu Hi s) (Zf a0) (Yt _ _) (k:=0) (by decide)).2) ?_
 refine xq (.e [] 7) (congrArg V0 (show(IntKind.i64.wrap (↑(BitVec.ofInt 64 (↑((Yu Hi s).getD 0 0):Int) &&& BitVec.ofInt 64 (16777215:Int)).toNat:Int):Int)=(↑(Du s):Int) from map_and s)) ?_
 have hB:=bln (bln a1 a2) (Za W2)
 exact xe (.r [8,9,10,11] 3) (.tuple #[V0 (↑(Mv s):Int),V0 (↑(Du s):Int),V0 (Xv Hi s)]) ⟨rfl,hB⟩
theorem Qs(w:World) :
 C0 33 #[] w (Ky (fun w' r=>∃ b,r=.slice (S1 b) 4 4∧w.heap.size≤b∧Blk w' b [V0 8,V0 0,V0 16384,V0 8,V0 0,V0 2147483647,V0 4,V0 0,V0 16777215,V0 4,V0 0,V0 16777215] 107) w):=by
 refine zin 6 Tryz.func33 ?_
 refine xbs 11 4 [V0 8,V0 0,V0 16384,V0 8,V0 0,V0 2147483647,V0 4,V0 0,V0 16777215,V0 4,V0 0,V0 16777215] 107 fun b1 W1 n1=>?_
 exact xe 4 (.slice (S1 b1) 4 4) ⟨_,rfl,n1.below,b1,rfl,(n1.ge (B3 w)),n1.blk⟩
theorem Mt(s:Bl)(w:World)(hs:s.length≤1000) :
 C0 57 #[.string ⟨s.toArray⟩] w (Ret (.tuple #[.agg #[V0 (↑(Qa s 0):Int),V0 (↑(Qa s 1):Int),V0 (↑(Qa s 2):Int),V0 (↑(Qa s 3):Int)],V0 (Xv Jm s)]) w):=by
 refine zin 26 Tryz.func57 ?_
 refine xa 2 [V0 0,V0 0,V0 0,V0 0] 51 fun b1 W1 n1=>?_
 refine xc 5 (args:=#[]) (Qs _) ?_
 rintro _ W2 ⟨_,rfl,a1,gl,rfl,gg,kl⟩
 refine xc 1 (args:=#[.slice (S1 gl) 4 4,.string ⟨s.toArray⟩]) (By Jm s (S1 gl) 4 _ Pu (by decide) (by omega) (kl.sl 4 4 (by decide) (by decide))) ?_
 rintro _ W3 ⟨_,rfl,a2,p5,c5,rfl,h5⟩
 have a3:=(bln n1.below a1).size
 refine xd 8 (.t w.heap.size [51]) ?_
 have a0:=Zb (Zh h5 a3) (Za W3)
 refine xx (.e [0] 1) _ 4 0 1 (Zt (l:=Yu Jm s) (Zf a0) (Yt _ _) (k:=0) (by decide)).1 ?_
 refine xlt (.e [] 2) (.t w.heap.size [51]) (fun V hV=>(Zt (l:=Yu Jm s) (Zf (Zg a0 hV.2 (by decide))) (Yt _ _) (k:=0) (by decide)).2) ?_
 refine xx (.e [3] 4) _ 4 1 1 (Zt (l:=Yu Jm s) (Zf a0) (Yt _ _) (k:=1) (by decide)).1 ?_
 refine xlt (.e [] 5) (.t w.heap.size [51]) (fun V hV=>(Zt (l:=Yu Jm s) (Zf (Zg a0 hV.2 (by decide))) (Yt _ _) (k:=1) (by decide)).2) ?_
 refine xx (.e [6] 7) _ 4 2 1 (Zt (l:=Yu Jm s) (Zf a0) (Yt _ _) (k:=2) (by decide)).1 ?_
 refine xlt (.e [] 8) (.t w.heap.size [51]) (fun V hV=>(Zt (l:=Yu Jm s) (Zf (Zg a0 hV.2 (by decide))) (Yt _ _) (k:=2) (by decide)).2) ?_
 refine xx (.e [9] 10) _ 4 3 1 (Zt (l:=Yu Jm s) (Zf a0) (Yt _ _) (k:=3) (by decide)).1 ?_
 refine xlt (.e [] 11) (.t w.heap.size [51]) (fun V hV=>(Zt (l:=Yu Jm s) (Zf (Zg a0 hV.2 (by decide))) (Yt _ _) (k:=3) (by decide)).2) ?_
 have k1:=((n1.blk.below a1).below a2).below (Za W3)
 have g1:=n1.ge (B3 w)
 refine ysv (.o [12,13] 14) k1 [V0 (↑((Yu Jm s).getD 0 0):Int),V0 (↑((Yu Jm s).getD 1 0):Int),V0 (↑((Yu Jm s).getD 2 0):Int),V0 (↑((Yu Jm s).getD 3 0):Int)] (.t w.heap.size [51]) fun W4 u4 k4=>⟨(Xd u4 k1 g1 (by decide)),?_⟩
 have hB:=u4.below (bln (bln (bln n1.below a1) a2) (Za W3)) g1
 exact xec (.r [15] 3) k4 (.tuple #[.agg #[V0 (↑((Yu Jm s).getD 0 0):Int),V0 (↑((Yu Jm s).getD 1 0):Int),V0 (↑((Yu Jm s).getD 2 0):Int),V0 (↑((Yu Jm s).getD 3 0):Int)],V0 (Xv Jm s)]) ⟨rfl,hB⟩
theorem Nf(ps:List Gj)(N:List Int)(gl gn:O0)(cl cn n:Nat)(w:World)(hps:Kk ps)(hn:n=ps.length)(hNl:N.length=n)(hP:Sts Rz w (.slice gl ps.length cl) ps)(hN:Sl w (.slice gn n cn) n (N.map V0))(h:Jo ps N n=true) :
  C0 25 #[.slice gl ps.length cl,.slice gn n cn] w (Ret (.string ⟨(Ps ps N ps.length).toArray⟩) w):=(Wo ps N gl gn cl cn n w hps hn hNl hP hN).mono (by
 rintro e W q
 rcases q with ⟨q,_⟩|⟨_,rfl,hb⟩
 ·rw[h] at q;cases q
 ·exact⟨rfl,hb⟩)
theorem map_or{b t:Int}(h1:0≤b∧b≤65535)(h2:0≤t∧t≤16777215):IntKind.i64.wrap (↑(BitVec.ofInt 64 (b*16777216) ||| BitVec.ofInt 64 t).toNat:Int)=b*16777216+t:=by
 obtain⟨p,rfl⟩:∃ p:Nat,b=(p:Int):=⟨b.toNat,by omega⟩
 obtain⟨q,rfl⟩:∃ q:Nat,t=(q:Int):=⟨t.toNat,by omega⟩
 have e:((p:Int)*16777216)=((p*16777216:Nat):Int):=by omega
 rw[e,BitVec.ofInt_natCast,BitVec.ofInt_natCast,BitVec.toNat_or,BitVec.toNat_ofNat,BitVec.toNat_ofNat,Nat.mod_eq_of_lt (by omega),Nat.mod_eq_of_lt (by omega)]
 have h:=Nat.two_pow_add_eq_or_of_lt (i:=24) (b:=q) (by omega) p
 rw[show(2:Nat) ^ 24*p=p*16777216 by omega] at h
 rw[←h]
 exact(IntWalk.i64_in _ (by omega)).trans (by omega)
theorem Zdh(m:Mp)(w:World)(h1:0≤m.2.1∧m.2.1≤65535)(h2:0≤m.2.2∧m.2.2≤16777215) :
 C0 10 #[V0 m.2.1,V0 m.2.2] w (Ret (.string ⟨(Zdx m).toArray⟩) w):=by
 refine zin 26 Tryz.func10 ?_
 refine xgk 11 [6,7] (show(decide (m.2.1<(0:Int)):Bool)=false from decide_eq_false (by omega)) ?_
 refine xgk 4 [9,10,11] (show(decide (m.2.1≥(65536:Int)):Bool)=false from decide_eq_false (by omega)) ?_
 refine xgk 4 [13,14,15] (show(decide (m.2.2<(0:Int)):Bool)=false from decide_eq_false (by omega)) ?_
 refine xk 5 (show(decide (m.2.2>(16777215:Int)):Bool)=false from decide_eq_false (by omega)) ?_
 refine xc 4 (args:=#[]) (Hb _) ?_
 rintro _ W4 ⟨_,rfl,a1,gl,rfl,gg,kl⟩
 refine xq 1 (congrArg V0 (show(IntKind.i64.wrap (m.2.1*2 ^ 24):Int)=m.2.1*16777216 from IntWalk.i64_in _ (by omega))) ?_
 refine xq 1 (congrArg V0 (show(IntKind.i64.wrap (↑(BitVec.ofInt 64 (m.2.1*16777216) ||| BitVec.ofInt 64 m.2.2).toNat:Int):Int)=m.2.1*16777216+m.2.2 from map_or h1 h2)) ?_
 refine xbs 0 1 [V0 (m.2.1*16777216+m.2.2)] 3 fun b5 W5 n5=>?_
 have a0:=kl.below n5.below
 refine xr 0 (args:=#[.slice (S1 gl) 1 1,.slice (S1 b5) 1 1]) (Nf Hi [m.2.1*16777216+m.2.2] (S1 gl) (S1 b5) 1 1 1 _ Fd rfl rfl (a0.sl 1 1 (by decide) (by decide)) (n5.blk.sl 1 1 (by decide) (by decide)) (by unfold Jo;rw[show List.range 1=[0] from rfl];simp[inP,Hi,List.getD];omega)) fun W6 a2=>?_
 have hB:=bln (bln a1 n5.below) a2
 exact xe 4 (.string ⟨(Zdx m).toArray⟩) ⟨rfl,hB⟩
theorem Pm(data n:Int)(d:Dv)(w:World)(h:DevOk data d)(hn:0≤n∧n≤16384) :
 C0 13 #[.agg #[V0 n,V0 d.1.2.1,V0 d.1.2.2.1,V0 d.1.2.2.2]] w (Ret (.string ⟨(Vd n d).toArray⟩) w):=by
 refine zin 14 Tryz.func13 ?_
 refine xa 2 [V0 n,V0 d.1.2.1,V0 d.1.2.2.1,V0 d.1.2.2.2] 51 fun b1 W1 n1=>?_
 refine xd 4 .z ?_
 have k1:=n1.blk.below (Za W1)
 refine xb (.e [1] 2) 0 k1 ?_
 refine xb (.e [3] 4) 1 k1 ?_
 refine xb (.e [5] 6) 2 k1 ?_
 refine xb (.e [7] 8) 3 k1 ?_
 refine xm2 0 0 9 ?_ ?_
 ·refine yc 0 (args:=#[]) .z (Qs _) ?_
  rintro _ W2 ⟨_,rfl,a2,gl,rfl,gg,kl⟩
  refine⟨a2,?_⟩
  refine xbs (.o [] 9) 4 [V0 n,V0 d.1.2.1,V0 d.1.2.2.1,V0 d.1.2.2.2] 3 fun b3 W3 n3=>?_
  have a1:=kl.below n3.below
  refine xr (.o [] 10) (args:=#[.slice (S1 gl) 4 4,.slice (S1 b3) 4 4]) (Nf Jm [n,d.1.2.1,d.1.2.2.1,d.1.2.2.2] (S1 gl) (S1 b3) 4 4 4 _ Pu rfl rfl (a1.sl 4 4 (by decide) (by decide)) (n3.blk.sl 4 4 (by decide) (by decide)) (by have a:=h.tx;have b:=h.made;have c:=h.snap;unfold Jo;rw[show List.range 4=[0,1,2,3] from rfl];simp[inP,Jm,List.getD];omega)) fun W4 a4=>?_
  have hB:=bln (bln (bln (bln n1.below (Za W1)) a2) n3.below) a4
  exact xe (.r [11] 3) (.string ⟨(Vd n d).toArray⟩) ⟨rfl,hB⟩
 refine xbs 0 4 [V0 n,V0 d.1.2.1,V0 d.1.2.2.1,V0 d.1.2.2.2] 3 fun b5 W5 n5=>?_
 refine yc (.o [] 0) (args:=#[]) .z (Qs _) ?_
 rintro _ W6 ⟨_,rfl,a0,gl,rfl,gg,kl⟩
 refine⟨a0,?_⟩
 have k5:=n5.blk.below a0
 refine xr (.o [] 10) (args:=#[.slice (S1 gl) 4 4,.slice (S1 b5) 4 4]) (Nf Jm [n,d.1.2.1,d.1.2.2.1,d.1.2.2.2] (S1 gl) (S1 b5) 4 4 4 _ Pu rfl rfl (kl.sl 4 4 (by decide) (by decide)) (k5.sl 4 4 (by decide) (by decide)) (by have a:=h.tx;have b:=h.made;have c:=h.snap;unfold Jo;rw[show List.range 4=[0,1,2,3] from rfl];simp[inP,Jm,List.getD];omega)) fun W7 a3=>?_
 have hB:=bln (bln (bln (bln n1.below (Za W1)) n5.below) a0) a3
 exact xe (.r [11] 3) (.string ⟨(Vd n d).toArray⟩) ⟨rfl,hB⟩
def inZ (n lo hi:Int):Bool:=decide (lo≤n∧n≤hi)
theorem inZ_t{n lo hi:Int}:inZ n lo hi=true↔lo≤n∧n≤hi:=decide_eq_true_iff
def dvE (d:Dv)(last:Int):Int:=if inZ d.1.1 0 16777215&&(inZ d.1.2.1 0 2147483647&&(inZ d.1.2.2.1 0 16777215&&inZ d.1.2.2.2 0 16777215)) then(if d.1.1≤last then 8 else 0) else 2
def mpE (data:Int)(m:Mp)(last:Int):Int:=if inZ m.1 0 281474976710655&&(inZ m.2.1 0 (data-1)&&inZ m.2.2 0 16777215) then(if m.1≤last then 8 else 0) else 2
def Ed(data:Int):List Mp→Int→Int
 | [],_=>0
 | m::r,last=>if mpE data m last≠0 then mpE data m last else Ed data r m.1
def Zdv(data:Int):List Dv→Int→Int
 | [],_=>0
 | d::r,last=>if dvE d last≠0 then dvE d last else if Ed data d.2 (-1)≠0 then Ed data d.2 (-1) else Zdv data r d.1.1
def wsum(L:List Dv):Int:=IntKind.i64.wrap (Gf L:Int)
def Sq(tx time unit data:Int)(L:List Dv):Int :=
 if(inZ tx 0 2147483647&&inZ time 0 16777215)&&(inZ unit 1 65536&&inZ data 0 65536) then(if 4096<L.length∨16384<wsum L then 2 else Zdv data L (-1)) else 2
theorem mpE_2{data:Int}{m:Mp}{last:Int}(h:(inZ m.1 0 281474976710655&&(inZ m.2.1 0 (data-1)&&inZ m.2.2 0 16777215))=false):mpE data m last=2:=if_neg (by rw[h];decide)
theorem mpE_8{data:Int}{m:Mp}{last:Int}(h:(inZ m.1 0 281474976710655&&(inZ m.2.1 0 (data-1)&&inZ m.2.2 0 16777215))=true)(h2:m.1≤last):mpE data m last=8:=(if_pos h).trans (if_pos h2)
theorem mpE_0{data:Int}{m:Mp}{last:Int}(h:(inZ m.1 0 281474976710655&&(inZ m.2.1 0 (data-1)&&inZ m.2.2 0 16777215))=true)(h2:¬ m.1≤last):mpE data m last=0:=(if_pos h).trans (if_neg h2)
theorem dvE_2{d:Dv}{last:Int}(h:(inZ d.1.1 0 16777215&&(inZ d.1.2.1 0 2147483647&&(inZ d.1.2.2.1 0 16777215&&inZ d.1.2.2.2 0 16777215)))=false):dvE d last=2:=if_neg (by rw[h];decide)
theorem dvE_8{d:Dv}{last:Int}(h:(inZ d.1.1 0 16777215&&(inZ d.1.2.1 0 2147483647&&(inZ d.1.2.2.1 0 16777215&&inZ d.1.2.2.2 0 16777215)))=true)(h2:d.1.1≤last):dvE d last=8:=(if_pos h).trans (if_pos h2)
theorem dvE_0{d:Dv}{last:Int}(h:(inZ d.1.1 0 16777215&&(inZ d.1.2.1 0 2147483647&&(inZ d.1.2.2.1 0 16777215&&inZ d.1.2.2.2 0 16777215)))=true)(h2:¬ d.1.1≤last):dvE d last=0:=(if_pos h).trans (if_neg h2)
theorem mpE_ok{data:Int}{m:Mp}{last:Int}:mpE data m last=0↔((0≤m.1∧m.1≤281474976710655)∧(0≤m.2.1∧m.2.1<data)∧0≤m.2.2∧m.2.2≤16777215)∧last<m.1:=by
 unfold mpE
 simp only[Bool.and_eq_true,inZ_t]
 split
 ·split
  ·exact⟨fun h=>absurd h (by decide),fun h=>by omega⟩
  ·exact⟨fun _=>by omega,fun _=>rfl⟩
 ·exact⟨fun h=>absurd h (by decide),fun h=>by omega⟩
theorem dvE_ok{d:Dv}{last:Int}:dvE d last=0↔((0≤d.1.1∧d.1.1≤16777215)∧(0≤d.1.2.1∧d.1.2.1≤2147483647)∧(0≤d.1.2.2.1∧d.1.2.2.1≤16777215)∧0≤d.1.2.2.2∧d.1.2.2.2≤16777215)∧last<d.1.1:=by
 unfold dvE
 simp only[Bool.and_eq_true,inZ_t]
 split
 ·split
  ·exact⟨fun h=>absurd h (by decide),fun h=>by omega⟩
  ·exact⟨fun _=>by omega,fun _=>rfl⟩
 ·exact⟨fun h=>absurd h (by decide),fun h=>by omega⟩
theorem Io{data:Int}:∀ {M:List Mp} {last:Int},Ed data M last=0↔MapsOk data M∧∀ m∈M,last<m.1
 | [],last=>⟨fun _=>⟨.nil _,fun _ h=>by cases h⟩,fun _=>rfl⟩
 | m::r,last=>by
  have ih:=@Io data r m.1
  show(if mpE data m last≠0 then mpE data m last else Ed data r m.1)=0↔_
  by_cases h:mpE data m last=0
  ·rw[if_neg (fun q=>q h),ih]
   have h2:=mpE_ok.1 h
   constructor
   ·rintro⟨a,b⟩
    refine⟨⟨.cons b a.rise,fun x hx=>?_⟩,fun x hx=>?_⟩
    ·rcases List.mem_cons.1 hx with rfl|hx
     ·exact h2.1
     ·exact a.each x hx
    ·rcases List.mem_cons.1 hx with rfl|hx
     ·exact h2.2
     ·have:=b x hx;omega
   ·rintro⟨a,_⟩
    obtain⟨c1,c2⟩:=List.pairwise_cons.1 a.rise
    exact⟨⟨c2,fun x hx=>a.each x (List.mem_cons_of_mem _ hx)⟩,c1⟩
  ·rw[if_pos h]
   exact⟨fun q=>absurd q h,fun q=>absurd (mpE_ok.2 ⟨q.1.each m (List.mem_cons_self ..),q.2 m (List.mem_cons_self ..)⟩) h⟩
theorem Ze1{data:Int}:∀ {L:List Dv} {last:Int},Zdv data L last=0↔(L.Pairwise (fun x y=>x.1.1<y.1.1)∧∀ d∈L,DevOk data d)∧∀ d∈L,last<d.1.1
  | [],last=>⟨fun _=>⟨⟨.nil,fun _ h=>by cases h⟩,fun _ h=>by cases h⟩,fun _=>rfl⟩
  | d :: r, last => by
    have ih:=@Ze1 data r d.1.1
    show(if dvE d last≠0 then dvE d last else if Ed data d.2 (-1)≠0 then Ed data d.2 (-1) else Zdv data r d.1.1)=0↔_
    by_cases h:dvE d last=0
    · rw[if_neg (fun q=>q h)]
      have h2:=dvE_ok.1 h
      by_cases g:Ed data d.2 (-1)=0
      · rw[if_neg (fun q=>q g),ih]
        have g2:=Io.1 g
        constructor
        · rintro⟨⟨a1,a2⟩,b⟩
          refine⟨⟨.cons b a1,fun x hx=>?_⟩,fun x hx=>?_⟩
          · rcases List.mem_cons.1 hx with rfl|hx
            · exact⟨h2.1.1,h2.1.2.1,h2.1.2.2.1,h2.1.2.2.2,g2.1⟩
            · exact a2 x hx
          · rcases List.mem_cons.1 hx with rfl|hx
            · exact h2.2
            · have:=b x hx;omega
        · rintro⟨⟨a1,a2⟩,_⟩
          obtain⟨c1,c2⟩:=List.pairwise_cons.1 a1
          exact⟨⟨c2,fun x hx=>a2 x (List.mem_cons_of_mem _ hx)⟩,c1⟩
      · rw[if_pos g]
        refine⟨fun q=>absurd q g,fun q=>absurd (Io.2 ⟨(q.1.2 d (List.mem_cons_self ..)).maps,fun m hm=>?_⟩) g⟩
        have:=(q.1.2 d (List.mem_cons_self ..)).maps.each m hm;omega
    · rw[if_pos h]
      refine⟨fun q=>absurd q h,fun q=>absurd (dvE_ok.2 ⟨?_,q.2 d (List.mem_cons_self ..)⟩) h⟩
      have:=q.1.2 d (List.mem_cons_self ..)
      exact⟨this.id,this.tx,this.made,this.snap⟩
structure PoolOk(tx time unit data:Int)(L:List Dv):Prop where
 htx:0≤tx∧tx≤2147483647
 htime:0≤time∧time≤16777215
 hunit:1≤unit∧unit≤65536
 hdata:0≤data∧data≤65536
 devs:DevsOk data L
theorem Zgv{M:List Mp}(h:M.Pairwise (fun x y=>x.1<y.1))(h0:∀ m∈M,0≤m.1):∀ i (hi:i<M.length),(i:Int)≤M[i].1
 | 0,hi=>h0 _ (List.getElem_mem hi)
 | i+1,hi=>by
  have ih:=Zgv h h0 i (by omega)
  have:=List.pairwise_iff_getElem.1 h i (i+1) (by omega) hi (by omega)
  omega
theorem maps_few{data:Int}{M:List Mp}(h:MapsOk data M):M.length≤281474976710656:=by
 by_cases h0:M.length=0
 ·omega
 ·have h1:=Zgv h.rise (fun m hm=>(h.each m hm).1.1) (M.length-1) (by omega)
  have h2:=(h.each _ (List.getElem_mem (show M.length-1<M.length by omega))).1.2
  omega
theorem sum_few{L:List Dv}{k:Nat}(h:∀ d∈L,d.2.length≤k):Gf L≤L.length*k:=by
 induction L with
 | nil=>exact Nat.zero_le _
 | cons d r ih =>
  have h1:=h d (List.mem_cons_self ..)
  have h2:=ih fun x hx=>h x (List.mem_cons_of_mem _ hx)
  have e:Gf (d::r)=d.2.length+Gf r:=rfl
  rw[e,List.length_cons,Nat.add_mul];omega
theorem Il{data:Int}{L:List Dv}(hf:L.length≤4096)(h:∀ d∈L,DevOk data d):wsum L=(Gf L:Int):=by
 have h1:=sum_few fun d hd=>maps_few (h d hd).maps
 have h2:L.length*281474976710656≤4096*281474976710656:=Nat.mul_le_mul_right _ hf
 exact IntWalk.i64_in _ (by omega)
theorem wrap_add(a b:Int):IntKind.i64.wrap (IntKind.i64.wrap a+b)=IntKind.i64.wrap (a+b):=by
 simp only[IntKind.wrap,IntKind.signed,IntKind.bits]
 simp
 try omega
theorem poolE_ok{tx time unit data:Int}{L:List Dv}:Sq tx time unit data L=0↔PoolOk tx time unit data L:=by
 unfold Sq
 simp only[Bool.and_eq_true,inZ_t]
 split
 ·rename_i h
  split
  ·rename_i g
   refine⟨fun q=>absurd q (by decide),fun q=>?_⟩
   have a:=q.devs.few
   have b:=q.devs.sum
   rw[Il a q.devs.each] at g
   omega
  ·rename_i g
   rw[Ze1]
   constructor
   ·rintro⟨⟨a,b⟩,_⟩
    have hw:=Il (L:=L) (by omega) b
    exact⟨h.1.1,h.1.2,h.2.1,h.2.2,by omega,by omega,a,b⟩
   ·intro q
    exact⟨⟨q.devs.rise,q.devs.each⟩,fun d hd=>by have:=(q.devs.each d hd).id;omega⟩
 ·rename_i h
  exact⟨fun q=>absurd q (by decide),fun q=>absurd ⟨⟨q.htx,q.htime⟩,q.hunit,q.hdata⟩ h⟩
theorem Zdy{L:List Dv}{n:Nat}(h:n<L.length){x:Dv}:Gf (L.take (n+1))=Gf (L.take n)+(L.getD n x).2.length:=by
 unfold Gf
 rw[List.take_succ_eq_append_getElem h,List.map_append,List.sum_append]
 simp[List.getD,h]
theorem Gn{data:Int}{M:List Mp}{i:Nat}{x:Mp}{last:Int}(h:i<M.length):Ed data (M.drop i) last=if mpE data (M.getD i x) last≠0 then mpE data (M.getD i x) last else Ed data (M.drop (i+1)) (M.getD i x).1:=by
 rw[List.drop_eq_getElem_cons h,show M.getD i x=M[i] from by simp[List.getD,h]];rfl
theorem mpsE_end{data:Int}{M:List Mp}{i:Nat}{last:Int}(h:M.length≤i):Ed data (M.drop i) last=0:=by
 rw[List.drop_eq_nil_of_le h];rfl
theorem Zgl{data:Int}{L:List Dv}{i:Nat}{x:Dv}{last:Int}(h:i<L.length):Zdv data (L.drop i) last=if dvE (L.getD i x) last≠0 then dvE (L.getD i x) last else if Ed data (L.getD i x).2 (-1)≠0 then Ed data (L.getD i x).2 (-1) else Zdv data (L.drop (i+1)) (L.getD i x).1.1:=by
 rw[List.drop_eq_getElem_cons h,show L.getD i x=L[i] from by simp[List.getD,h]];rfl
theorem dvsE_end{data:Int}{L:List Dv}{i:Nat}{last:Int}(h:L.length≤i):Zdv data (L.drop i) last=0:=by
 rw[List.drop_eq_nil_of_le h];rfl
theorem Ga(n lo hi:Int)(w:World) :
 C0 20 #[V0 n,V0 lo,V0 hi] w (Ret (.bool (inZ n lo hi)) w):=by
 refine zin 15 Tryz.func20 ?_
 refine xg 11 [9,10] (decide (lo≤n)) (fun a0=>?_) (fun a0=>?_)
 ·have a0:=of_decide_eq_true a0
  exact xe 8 (.bool (decide (n≤hi))) ⟨by rw[show inZ n lo hi=decide (n≤hi) from by unfold inZ;exact decide_eq_decide.2 (by omega)],(B3 w)⟩
 have a0:=of_decide_eq_false a0
 exact xe 8 (.bool false) ⟨by rw[show inZ n lo hi=false from decide_eq_false (by omega)],(B3 w)⟩
theorem Wg(t:Int)(w:World) :
 C0 44 #[V0 t] w (Ret (.bool !(inZ t 0 16777215)) w):=by
 refine zin 6 Tryz.func44 ?_
 refine xr 8 (args:=#[V0 t,V0 0,V0 16777215]) (Ga t 0 16777215 _) fun W1 a0=>?_
 exact xe 5 (.bool (!(inZ t 0 16777215))) ⟨rfl,a0⟩
theorem indexT1(t:Int)(b:Nat)(w:World)(k:Blk w b [V0 t] 3) :
 C0 65 #[.slice (S1 b) 1 1,.func (.func 44) #[] #[]] w ((fun e w'=>((inZ t 0 16777215)=true∧e=.returned (V0 (-1))∧B0 w w')∨((inZ t 0 16777215)=false∧∃ i:Nat,e=.returned (V0 (i:Int))∧B0 w w'))):=by
 refine zin 19 Tryz.func65 ?_
 refine xu 14 2 ?_
 refine xb 23 0 k ?_
 refine xr 0 (args:=#[V0 t]) (Wg t _) fun W1 a0=>?_
 refine xi 2 (!(inZ t 0 16777215)) (fun a1=>?_) (fun a1=>?_)
 ·exact xe 12 (V0 0) (.inr ⟨by simp_all,0,rfl,a0⟩)
 exact xe 26 (V0 (-1)) (.inl ⟨by simp_all,rfl,a0⟩)
theorem Zcl(t:Int)(b:Nat)(w:World)(k:Blk w b [V0 t] 3) :
 C0 43 #[.slice (S1 b) 1 1,.func (.func 44) #[] #[]] w (Ret (.bool !(inZ t 0 16777215)) w):=by
 refine zin 9 Tryz.func43 ?_
 refine xc 9 (args:=#[.slice (S1 b) 1 1,.func (.func 44) #[] #[]]) (indexT1 t b _ k) ?_
 rintro e W1 a1
 rcases a1 with ⟨hz,rfl,a0⟩|⟨hz,i0,rfl,a0⟩
 ·exact xe 5 (.bool false) ⟨by first|(rw[hz];rfl)|(rw[hz,decide_eq_true (by omega)];rfl),a0⟩
 exact xe 5 (.bool (decide ((i0:Int)≥(0:Int)))) ⟨by first|(rw[hz];rfl)|(rw[hz,decide_eq_true (by omega)];rfl),a0⟩
theorem Ry(tx:Int)(t:Int)(b:Nat)(w:World)(k:Blk w b [V0 t] 3) :
 C0 19 #[V0 tx,.slice (S1 b) 1 1] w (Ret (.bool ((inZ tx 0 2147483647)&&(inZ t 0 16777215))) w):=by
 refine zin 12 Tryz.func19 ?_
 refine xr 8 (args:=#[V0 tx,V0 0,V0 2147483647]) (Ga tx 0 2147483647 _) fun W1 a0=>?_
 refine xg 1 [6,7] (inZ tx 0 2147483647) (fun a3=>?_) (fun a3=>?_)
 ·have a2:=k.below a0
  refine xr 1 (args:=#[.slice (S1 b) 1 1,.func (.func 44) #[] #[]]) (Zcl t b _ a2) fun W3 a1=>?_
  have hB:=bln a0 a1
  exact xe 6 (.bool (!(!(inZ t 0 16777215)))) ⟨by simp_all,hB⟩
 exact xe 8 (.bool false) ⟨by simp_all,a0⟩
theorem indexT2(t u:Int)(b:Nat)(w:World)(k:Blk w b [V0 t,V0 u] 3) :
 C0 65 #[.slice (S1 b) 2 2,.func (.func 44) #[] #[]] w ((fun e w'=>(((inZ t 0 16777215)&&(inZ u 0 16777215))=true∧e=.returned (V0 (-1))∧B0 w w')∨(((inZ t 0 16777215)&&(inZ u 0 16777215))=false∧∃ i:Nat,e=.returned (V0 (i:Int))∧B0 w w'))):=by
 refine zin 19 Tryz.func65 ?_
 refine xu 14 3 ?_
 refine xb 23 0 k ?_
 refine xr 0 (args:=#[V0 t]) (Wg t _) fun W1 a0=>?_
 refine xi 2 (!(inZ t 0 16777215)) (fun a2=>?_) (fun a2=>?_)
 ·exact xe 12 (V0 0) (.inr ⟨by simp_all,0,rfl,a0⟩)
 have a3:=k.below a0
 refine xb 31 1 a3 ?_
 refine xr 0 (args:=#[V0 u]) (Wg u _) fun W3 a1=>?_
 refine xi 2 (!(inZ u 0 16777215)) (fun a4=>?_) (fun a4=>?_)
 ·have hB:=bln a0 a1
  exact xe 12 (V0 1) (.inr ⟨by simp_all,1,rfl,hB⟩)
 have hB:=bln a0 a1
 exact xe 26 (V0 (-1)) (.inl ⟨by simp_all,rfl,hB⟩)
theorem Zce(t u:Int)(b:Nat)(w:World)(k:Blk w b [V0 t,V0 u] 3) :
 C0 43 #[.slice (S1 b) 2 2,.func (.func 44) #[] #[]] w (Ret (.bool !((inZ t 0 16777215)&&(inZ u 0 16777215))) w):=by
 refine zin 9 Tryz.func43 ?_
 refine xc 9 (args:=#[.slice (S1 b) 2 2,.func (.func 44) #[] #[]]) (indexT2 t u b _ k) ?_
 rintro e W1 a1
 rcases a1 with ⟨hz,rfl,a0⟩|⟨hz,i0,rfl,a0⟩
 ·exact xe 5 (.bool false) ⟨by first|(rw[hz];rfl)|(rw[hz,decide_eq_true (by omega)];rfl),a0⟩
 exact xe 5 (.bool (decide ((i0:Int)≥(0:Int)))) ⟨by first|(rw[hz];rfl)|(rw[hz,decide_eq_true (by omega)];rfl),a0⟩
theorem Sb(tx:Int)(t u:Int)(b:Nat)(w:World)(k:Blk w b [V0 t,V0 u] 3) :
 C0 19 #[V0 tx,.slice (S1 b) 2 2] w (Ret (.bool ((inZ tx 0 2147483647)&&((inZ t 0 16777215)&&(inZ u 0 16777215)))) w):=by
 refine zin 12 Tryz.func19 ?_
 refine xr 8 (args:=#[V0 tx,V0 0,V0 2147483647]) (Ga tx 0 2147483647 _) fun W1 a0=>?_
 refine xg 1 [6,7] (inZ tx 0 2147483647) (fun a3=>?_) (fun a3=>?_)
 ·have a2:=k.below a0
  refine xr 1 (args:=#[.slice (S1 b) 2 2,.func (.func 44) #[] #[]]) (Zce t u b _ a2) fun W3 a1=>?_
  have hB:=bln a0 a1
  exact xe 6 (.bool (!(!((inZ t 0 16777215)&&(inZ u 0 16777215))))) ⟨by simp_all,hB⟩
 exact xe 8 (.bool false) ⟨by simp_all,a0⟩
theorem Ih(d:Dv)(last:Int)(a:O0)(n c:Nat)(w:World) :
 C0 21 #[.agg #[V0 d.1.1,V0 d.1.2.1,V0 d.1.2.2.1,V0 d.1.2.2.2,.slice a n c],V0 last] w (Ret (V0 (dvE d last)) w):=by
 refine zin 26 Tryz.func21 ?_
 refine xa 2 [V0 d.1.1,V0 d.1.2.1,V0 d.1.2.2.1,V0 d.1.2.2.2,.slice a n c] 40 fun b1 W1 n1=>?_
 refine xb 8 0 n1.blk ?_
 refine xr 0 (args:=#[V0 d.1.1,V0 0,V0 16777215]) (Ga d.1.1 0 16777215 _) fun W2 a3=>?_
 refine xg 2 [9,10] (!(inZ d.1.1 0 16777215)) (fun a1=>?_) (fun a1=>?_)
 ·have a1:=Te a1
  have hB:=bln n1.below a3
  exact xe 22 (V0 2) ⟨by rw[dvE_2 (by rw[a1];rfl)],hB⟩
 have a1:=Rp a1
 have a0:=n1.blk.below a3
 refine xb 1 1 a0 ?_
 refine xb 1 2 a0 ?_
 refine xb 1 3 a0 ?_
 refine xbs 0 2 [V0 d.1.2.2.1,V0 d.1.2.2.2] 3 fun b4 W4 n4=>?_
 refine xr 0 (args:=#[V0 d.1.2.1,.slice (S1 b4) 2 2]) (Sb d.1.2.1 d.1.2.2.1 d.1.2.2.2 b4 _ n4.blk) fun W5 a4=>?_
 refine xi 5 (!((inZ d.1.2.1 0 2147483647)&&((inZ d.1.2.2.1 0 16777215)&&(inZ d.1.2.2.2 0 16777215)))) (fun a2=>?_) (fun a2=>?_)
 ·have a2:=Te a2
  have hB:=bln (bln (bln n1.below a3) n4.below) a4
  exact xe 8 (V0 2) ⟨by rw[dvE_2 (by rw[a1,a2];rfl)],hB⟩
 have a2:=Rp a2
 have a5:=(a0.below n4.below).below a4
 refine xb 3 0 a5 ?_
 refine xid 5 (d.1.1≤last) (fun a6=>?_) (fun a6=>?_)
 ·have hB:=bln (bln (bln n1.below a3) n4.below) a4
  exact xe 8 (V0 8) ⟨by rw[dvE_8 (by rw[a1,a2];rfl) (by omega)],hB⟩
 have hB:=bln (bln (bln n1.below a3) n4.below) a4
 exact xe 9 (V0 0) ⟨by rw[dvE_0 (by rw[a1,a2];rfl) (by omega)],hB⟩
theorem Oa(a:O0)(c:Nat)(L:List Mp)(data:Int)(w:World)(hd:0≤data∧data≤65536)(ha:Sts Uu w (.slice a L.length c) L) :
 C0 22 #[.slice a L.length c,V0 data] w (Ret (V0 (Ed data L (-1))) w):=by
 have c1:=Sl.len ha
 refine zin 41 Tryz.func22 ?_
 have hB:=Below.refl w.heap.size w
 refine zl 19 41 (fun zm b9 V=>∃ (i:Nat) (a4:Int),b9=[(1,V0 data),(5,V0 a4),(8,.slice a L.length c),(9,V0 (L.length:Int)),(10,V0 (i:Int))]∧zm=L.length-((i:Int)).toNat∧B0 w V∧i≤L.length∧Ed data L (-1)=Ed data (L.drop i) a4) ⟨0,(-1),rfl,rfl,hB,Nat.zero_le _,rfl⟩ ?_
 rintro _ _ W1 ⟨i,a4,rfl,rfl,a0,hi,he⟩ J1 c0 r1
 refine xid 6 ((i:Int)<(L.length:Int)) (fun b8=>?_) (fun b8=>?_)
 ·refine xx 6 _ L.length i 3 (Sts.cell ha Yo mpD (k:=i) (i:=0) (by omega) rfl).1 ?_
  refine xlv 0 (Sts.rp (k:=i) (ha.below a0) Yo mpD (by omega) (by decide)) ?_
  refine xa 0 [V0 0,V0 0,V0 0] 42 fun b3 W3 n3=>?_
  have g3:=n3.ge a0
  refine xsv 0 n3.blk [V0 ((L.getD i mpD).1),V0 ((L.getD i mpD).2.1),V0 ((L.getD i mpD).2.2)] fun W4 u4 k4=>?_
  refine xb 7 0 k4 ?_
  refine xr 0 (args:=#[V0 ((L.getD i mpD).1),V0 0,V0 281474976710655]) (Ga ((L.getD i mpD).1) 0 281474976710655 _) fun W5 a5=>?_
  refine xg 2 [18,19] (!(inZ ((L.getD i mpD).1) 0 281474976710655)) (fun a2=>?_) (fun a2=>?_)
  ·have a2:=Te a2
   have b1:=bln (u4.below (bln a0 n3.below) g3) a5
   exact xe 30 (V0 2) ⟨by rw[he,Gn (x:=mpD) (by omega),mpE_2 (by rw[a2];rfl)];rfl,b1⟩
  have a2:=Rp a2
  have a9:=k4.below a5
  refine xb 1 1 a9 ?_
  refine xw 1 (data-1) ?_
  refine xr 0 (args:=#[V0 ((L.getD i mpD).2.1),V0 0,V0 (data-1)]) (Ga ((L.getD i mpD).2.1) 0 (data-1) _) fun W7 a6=>?_
  refine xg 3 [25,26,27] (!(inZ ((L.getD i mpD).2.1) 0 (data-1))) (fun a3=>?_) (fun a3=>?_)
  ·have a3:=Te a3
   have b5:=bln (bln (u4.below (bln a0 n3.below) g3) a5) a6
   exact xe 22 (V0 2) ⟨by rw[he,Gn (x:=mpD) (by omega),mpE_2 (by rw[a2,a3];rfl)];rfl,b5⟩
  have a3:=Rp a3
  have a8:=a9.below a6
  refine xb 1 2 a8 ?_
  refine xr 0 (args:=#[V0 ((L.getD i mpD).2.2),V0 0,V0 16777215]) (Ga ((L.getD i mpD).2.2) 0 16777215 _) fun W9 b0=>?_
  refine xi 5 (!(inZ ((L.getD i mpD).2.2) 0 16777215)) (fun a1=>?_) (fun a1=>?_)
  ·have a1:=Te a1
   have b6:=bln (bln (bln (u4.below (bln a0 n3.below) g3) a5) a6) b0
   exact xe 13 (V0 2) ⟨by rw[he,Gn (x:=mpD) (by omega),mpE_2 (by rw[a2,a3,a1];rfl)];rfl,b6⟩
  have a1:=Rp a1
  have a7:=a8.below b0
  refine xb 3 0 a7 ?_
  refine xid 5 ((L.getD i mpD).1≤a4) (fun b7=>?_) (fun b7=>?_)
  ·have b4:=bln (bln (bln (u4.below (bln a0 n3.below) g3) a5) a6) b0
   exact xe 13 (V0 8) ⟨by rw[he,Gn (x:=mpD) (by omega),mpE_8 (by rw[a2,a3,a1];rfl) (by omega)];rfl,b4⟩
  refine xb 5 0 a7 ?_
  refine xwm 5 ((i:Int)+1) (↑(i+1):Int) ?_
  have b2:=bln (bln (bln (u4.below (bln a0 n3.below) g3) a5) a6) b0
  exact ze 2 (c0 _ _ _ ⟨i+1,(L.getD i mpD).1,rfl,rfl,b2,by omega,by rw[he,Gn (x:=mpD) (by omega),mpE_0 (by rw[a2,a3,a1];rfl) (by omega)];rfl⟩ (by omega))
 exact xe 11 (V0 0) ⟨by rw[he,mpsE_end (by omega)],a0⟩
theorem zfst{Z:List Zv}{i:Nat}(h:i<Z.length)(x:Dv):(Z.map Prod.fst).getD i x=(Z.getD i zvD).1:=by simp[List.getD,h]
theorem Pz{data:Int}{Z:List Zv}{i:Nat}{last:Int}(h:i<Z.length):Zdv data ((Z.map Prod.fst).drop i) last=if dvE (Z.getD i zvD).1 last≠0 then dvE (Z.getD i zvD).1 last else if Ed data (Z.getD i zvD).1.2 (-1)≠0 then Ed data (Z.getD i zvD).1.2 (-1) else Zdv data ((Z.map Prod.fst).drop (i+1)) (Z.getD i zvD).1.1.1:=by
 rw[Zgl (x:=zvD.1) (by rw[List.length_map];exact h),zfst h]
theorem Zct{Z:List Zv}{i:Nat}(h:i<Z.length):Gf ((Z.map Prod.fst).take (i+1))=Gf ((Z.map Prod.fst).take i)+(Z.getD i zvD).1.2.length:=by
 rw[Zdy (x:=zvD.1) (by rw[List.length_map];exact h),zfst h]
theorem Dy(p:O0)(c n:Nat)(t u v x:Int)(Z:List Zv)(w:World)(hZ:Z.length=n)(hP:DevsR w p c Z) :
 C0 5 #[.agg #[V0 t,V0 u,V0 v,V0 x,.slice p n c]] w (Ret (V0 (wsum (Z.map Prod.fst))) w):=by
 have a7:=Sl.len (hP.rowN hZ)
 refine zin 20 Tryz.func5 ?_
 refine xa 2 [V0 t,V0 u,V0 v,V0 x,.slice p n c] 24 fun b1 W1 n1=>?_
 refine xb 12 4 n1.blk ?_
 refine zl 5 20 (fun zm a5 V=>∃ (i:Nat),a5=[(2,V0 0),(3,V0 (IntKind.i64.wrap (↑(Gf ((Z.map Prod.fst).take i)):Int))),(7,.slice p n c),(8,V0 (n:Int)),(9,V0 (i:Int))]∧zm=n-((i:Int)).toNat∧B0 w V∧Blk V b1 ([V0 t,V0 u,V0 v,V0 x,.slice p n c]) 24∧i≤n) ⟨0,rfl,rfl,n1.below,n1.blk,Nat.zero_le _⟩ ?_
 rintro _ _ W2 ⟨i,rfl,rfl,a0,a2,hi⟩ J2 a4 r2
 refine xid 6 ((i:Int)<(n:Int)) (fun a6=>?_) (fun a6=>?_)
 ·refine xx 6 _ n i 5 (hP.someN hZ (i:=i) (by omega)) ?_
  refine xlv 0 (Sts.rp (k:=i) (hP.below a0).row Yc zvD (by omega) (by decide)) ?_
  refine xa 0 [V0 0,V0 0,V0 0,V0 0,S0] 40 fun b4 W4 n4=>?_
  have g4:=n4.ge a0
  refine xsv 0 n4.blk [V0 ((Z.getD i zvD).1.1.1),V0 ((Z.getD i zvD).1.1.2.1),V0 ((Z.getD i zvD).1.1.2.2.1),V0 ((Z.getD i zvD).1.1.2.2.2),.slice ((Z.getD i zvD).2.1) ((Z.getD i zvD).1.2.length) ((Z.getD i zvD).2.2)] fun W5 u5 k5=>?_
  refine xb 5 4 k5 ?_
  refine xwm 7 ((i:Int)+1) (↑(i+1):Int) ?_
  refine xv1 2 3 (show(V0 (IntKind.i64.wrap ((IntKind.i64.wrap (↑(Gf ((Z.map Prod.fst).take i)):Int))+(↑((Z.getD i zvD).1.2.length):Int))):Value)=V0 (IntKind.i64.wrap (↑(Gf ((Z.map Prod.fst).take (i+1))):Int)) from congrArg V0 ((wrap_add _ _).trans (congrArg IntKind.i64.wrap (by have:=Zct (Z:=Z) (i:=i) (by omega);omega)))) ?_
  have a3:=u5.below (bln a0 n4.below) g4
  have a1:=u5.blkT (a2.below n4.below) n4.blk (by decide)
  exact ze 0 (a4 _ _ _ ⟨i+1,rfl,rfl,a3,a1,by omega⟩ (by omega))
 exact xe 12 (V0 (IntKind.i64.wrap (↑(Gf ((Z.map Prod.fst).take i)):Int))) ⟨by unfold wsum;rw[List.take_of_length_le (by rw[List.length_map];omega)],a0⟩
theorem Lu{tx time unit data:Int}{L:List Dv}(h:((inZ tx 0 2147483647&&inZ time 0 16777215)&&(inZ unit 1 65536&&inZ data 0 65536))=false):Sq tx time unit data L=2:=if_neg (by rw[h];decide)
theorem Tk{tx time unit data:Int}{L:List Dv}(h:((inZ tx 0 2147483647&&inZ time 0 16777215)&&(inZ unit 1 65536&&inZ data 0 65536))=true)(h2:4096<L.length∨16384<wsum L):Sq tx time unit data L=2:=(if_pos h).trans (if_pos h2)
theorem Nh{tx time unit data:Int}{L:List Dv}(h:((inZ tx 0 2147483647&&inZ time 0 16777215)&&(inZ unit 1 65536&&inZ data 0 65536))=true)(h2:¬ (4096<L.length∨16384<wsum L)):Sq tx time unit data L=Zdv data L (-1):=(if_pos h).trans (if_neg h2)
theorem Zcf(p:O0)(c n:Nat)(t u v x:Int)(Z:List Zv)(w:World)(hZ:Z.length=n)(hP:DevsR w p c Z) :
 C0 6 #[.agg #[V0 t,V0 u,V0 v,V0 x,.slice p n c]] w (Ret (V0 (Sq t u v x (Z.map Prod.fst))) w):=by
 have e4:=Sl.len (hP.rowN hZ)
 refine zin 60 Tryz.func6 ?_
 refine xa 2 [V0 t,V0 u,V0 v,V0 x,.slice p n c] 24 fun b1 W1 n1=>?_
 refine xb 7 0 n1.blk ?_
 refine xb 1 1 n1.blk ?_
 refine xbs 0 1 [V0 u] 3 fun b2 W2 n2=>?_
 refine xr 0 (args:=#[V0 t,.slice (S1 b2) 1 1]) (Ry t u b2 _ n2.blk) fun W3 b9=>?_
 refine xg 2 [14,15] (!((inZ t 0 2147483647)&&(inZ u 0 16777215))) (fun a3=>?_) (fun a3=>?_)
 ·have a3:=Te a3
  have hB:=bln (bln n1.below n2.below) b9
  exact xe 21 (V0 2) ⟨by rw[Lu (by rw[a3];rfl)],hB⟩
 have a3:=Rp a3
 have c5:=(n1.blk.below n2.below).below b9
 refine xb 1 2 c5 ?_
 refine xr 0 (args:=#[V0 v,V0 1,V0 65536]) (Ga v 1 65536 _) fun W5 c2=>?_
 refine xg 3 [19,20,21] (!(inZ v 1 65536)) (fun a5=>?_) (fun a5=>?_)
 ·have a5:=Te a5
  have hB:=bln (bln (bln n1.below n2.below) b9) c2
  exact xe 15 (V0 2) ⟨by rw[Lu (by rw[a3,a5];rfl)],hB⟩
 have a5:=Rp a5
 have c4:=c5.below c2
 refine xb 1 3 c4 ?_
 refine xr 0 (args:=#[V0 x,V0 0,V0 65536]) (Ga x 0 65536 _) fun W7 c3=>?_
 refine xi 4 (!(inZ x 0 65536)) (fun a4=>?_) (fun a4=>?_)
 ·have a4:=Te a4
  have hB:=bln (bln (bln (bln n1.below n2.below) b9) c2) c3
  exact xe 7 (V0 2) ⟨by rw[Lu (by rw[a3,a5,a4];rfl)],hB⟩
 have a4:=Rp a4
 have c1:=c4.below c3
 refine xb 6 4 c1 ?_
 refine xg 3 [30,31] (decide ((n:Int)>(4096:Int))) (fun c6=>?_) (fun c6=>?_)
 ·have c6:=of_decide_eq_true c6
  have hB:=bln (bln (bln (bln n1.below n2.below) b9) c2) c3
  exact xe 14 (V0 2) ⟨by rw[Tk (by rw[a3,a5,a4];rfl) (by rw[List.length_map];omega)],hB⟩
 have c6:=of_decide_eq_false c6
 refine xlv 0 c1.rp ?_
 have hB:=bln (bln (bln (bln n1.below n2.below) b9) c2) c3
 refine xr 0 (args:=#[.agg #[V0 t,V0 u,V0 v,V0 x,.slice p n c]]) (Dy p c n t u v x Z _ hZ (hP.below hB)) fun e5 b3=>?_
 refine xid 4 ((wsum (Z.map Prod.fst))>(16384:Int)) (fun d8=>?_) (fun d8=>?_)
 ·have d0:=bln hB b3
  exact xe 7 (V0 2) ⟨by rw[Tk (by rw[a3,a5,a4];rfl) (by rw[List.length_map];omega)],d0⟩
 have d9:¬ (4096<(Z.map Prod.fst).length∨16384<wsum (Z.map Prod.fst)):=by rw[List.length_map];omega
 have c7:=c1.below b3
 refine xb 11 4 c7 ?_
 have d6:=bln hB b3
 have d3:=(((n2.blk.below b9).below c2).below c3).below b3
 refine zl 5 60 (fun zm e2 V=>∃ (i:Nat) (a2:Int),e2=[(1,P0 b1),(3,V0 a2),(37,.slice p n c),(38,V0 (n:Int)),(39,V0 (i:Int))]∧zm=n-((i:Int)).toNat∧B0 w V∧Blk V b1 ([V0 t,V0 u,V0 v,V0 x,.slice p n c]) 24∧Blk V b2 ([V0 u]) 3∧i≤n∧Zdv x (Z.map Prod.fst) (-1)=Zdv x ((Z.map Prod.fst).drop i) a2) ⟨0,(-1),rfl,rfl,d6,c7,d3,Nat.zero_le _,rfl⟩ ?_
 rintro _ _ e6 ⟨i,a2,rfl,rfl,a1,b8,b7,hi,he⟩ f0 d2 f2
 have hx:=inZ_t.1 a4
 refine xid 6 ((i:Int)<(n:Int)) (fun d1=>?_) (fun d1=>?_)
 ·refine xx 6 _ n i 5 (hP.someN hZ (i:=i) (by omega)) ?_
  refine xlv 0 (Sts.rp (k:=i) (hP.below a1).row Yc zvD (by omega) (by decide)) ?_
  refine xa 0 [V0 0,V0 0,V0 0,V0 0,S0] 40 fun e9 e8 b5=>?_
  have e0:=b5.ge a1
  refine xsv 0 b5.blk [V0 ((Z.getD i zvD).1.1.1),V0 ((Z.getD i zvD).1.1.2.1),V0 ((Z.getD i zvD).1.1.2.2.1),V0 ((Z.getD i zvD).1.1.2.2.2),.slice ((Z.getD i zvD).2.1) ((Z.getD i zvD).1.2.length) ((Z.getD i zvD).2.2)] fun e7 c9 e1=>?_
  refine xlv 5 e1.rp ?_
  refine xr 1 (args:=#[.agg #[V0 ((Z.getD i zvD).1.1.1),V0 ((Z.getD i zvD).1.1.2.1),V0 ((Z.getD i zvD).1.1.2.2.1),V0 ((Z.getD i zvD).1.1.2.2.2),.slice ((Z.getD i zvD).2.1) ((Z.getD i zvD).1.2.length) ((Z.getD i zvD).2.2)],V0 a2]) (Ih (Z.getD i zvD).1 a2 _ _ _ _) fun e3 a6=>?_
  refine xin 9 (dvE (Z.getD i zvD).1 a2) (0:Int) (fun b0=>?_) (fun b0=>?_)
  ·have d7:=bln (c9.below (bln a1 b5.below) e0) a6
   exact xe 13 (V0 (dvE (Z.getD i zvD).1 a2)) ⟨by rw[Nh (by rw[a3,a5,a4];rfl) d9,he,Pz (by omega),if_pos b0],d7⟩
  have b4:=e1.below a6
  refine xb 6 4 b4 ?_
  have a0:=(c9.blkT (b8.below b5.below) b5.blk (by decide)).below a6
  refine xb 1 3 a0 ?_
  have c0:=bln (c9.below (bln a1 b5.below) e0) a6
  refine xr 0 (args:=#[.slice ((Z.getD i zvD).2.1) ((Z.getD i zvD).1.2.length) ((Z.getD i zvD).2.2),V0 x]) (Oa _ _ (Z.getD i zvD).1.2 x _ hx ((hP.below c0).each i (by omega))) fun f1 a9=>?_
  refine xin 9 (Ed x (Z.getD i zvD).1.2 (-1)) (0:Int) (fun b6=>?_) (fun b6=>?_)
  ·have d4:=bln c0 a9
   exact xe 13 (V0 (Ed x (Z.getD i zvD).1.2 (-1))) ⟨by rw[Nh (by rw[a3,a5,a4];rfl) d9,he,Pz (by omega),if_neg (fun q=>q b0),if_pos b6],d4⟩
  have c8:=b4.below a9
  refine xb 4 0 c8 ?_
  refine xwm 5 ((i:Int)+1) (↑(i+1):Int) ?_
  have d5:=bln c0 a9
  have a7:=a0.below a9
  have a8:=((c9.blkT (b7.below b5.below) b5.blk (by decide)).below a6).below a9
  exact ze 2 (d2 _ _ _ ⟨i+1,(Z.getD i zvD).1.1.1,rfl,rfl,d5,a7,a8,by omega,by rw[he,Pz (by omega),if_neg (fun q=>q b0),if_neg (fun q=>q b6)]⟩ (by omega))
 exact xe 11 (V0 0) ⟨by rw[Nh (by rw[a3,a5,a4];rfl) d9,he,dvsE_end (by rw[List.length_map];omega)],a1⟩
theorem Jd(l:Bl)(root tree fuel:Int):∀ i,i<(Zd l root tree fuel).es.length→((Zd l root tree fuel).es.getD i Zi).2.1.length≤1000:=fun i hi=>by
 have hx:(Zd l root tree fuel).es.getD i Zi∈(Zd l root tree fuel).es:=by rw[show(Zd l root tree fuel).es.getD i Zi=(Zd l root tree fuel).es[i] from by simp[List.getD,hi]];exact List.getElem_mem hi
 obtain⟨_,_,k,_,_,h,_⟩:=(scan_law l root tree fuel).2.2.1 _ hx
 rw[←h]
 exact Ll _ _ _
theorem Gb(Bi b:Nat)(pi:O0)(ni ci:Nat)(l:Bl)(root tree fuel:Int)(w:World)(hfu:fuel≤1000)(hI:ImgR Bi b pi ni ci l w) :
 C0 34 #[P0 b,V0 root,V0 tree,V0 fuel] w (fun e w' =>
 ((Zd l root tree fuel).fs≠[]∧∃ pe ce pb cb pf cf ty x,e=.returned (.tuple #[.agg #[.slice pe 0 ce,.slice pb 0 cb,V0 0,V0 0,.slice pf 0 cf],.iface ty x])∧B0 w w'∧Vx w' ((Vl (Zd l root tree fuel)).1.map some) (some (Vl (Zd l root tree fuel)).2) (.iface ty x)) ∨
 ((Zd l root tree fuel).fs=[]∧∃ pe ce pb nb cb dp lk pf cf,e=.returned (.tuple #[.agg #[.slice pe (Zd l root tree fuel).es.length ce,.slice pb nb cb,V0 dp,V0 lk,.slice pf 0 cf],.nilIface])∧B0 w w'∧w'.ownsRow w.heap.size 45 3 (.slice pe (Zd l root tree fuel).es.length ce) (Zd l root tree fuel).es.length ((Zd l root tree fuel).es.flatMap Va))):=by
 refine(Aa Bi b pi ni ci l root tree fuel w hfu hI).mono ?_
 rintro e W ⟨t,pe,pb,pf,ce,cb,cf,fv,v,ht,rfl,hb,hW,hv⟩
 by_cases h:(Zd l root tree fuel).fs=[]
 ·obtain⟨h1,_,h3,h4⟩:=Zay h
  rw[h1] at ht
  rw[h3,h4] at hv
  subst ht
  have a0:v=.nilIface:=hv
  subst a0
  refine .inr ⟨h,pe,ce,pb,(Zd l root tree fuel).bs.length,cb,(Zd l root tree fuel).deep,((Zd l root tree fuel).looked:Int),pf,cf,?_,hb,hW.ents⟩
  unfold walkC
  rw[h];rfl
 ·obtain⟨h1,h2,h3,h4⟩:=Bc h
  rw[h1] at ht
  rw[h3,h4,←h2] at hv
  subst ht
  rcases hv.nil_or with ⟨hz,_⟩|⟨_,ty,x,rfl⟩
  ·simp[Ad] at hz
  ·exact .inl ⟨h,pe,ce,pb,cb,pf,cf,ty,x,rfl,hb,hv⟩
theorem Rs(no er:Int)(bl:List Int)(v:Value)(w:World)(hv:Vx w (bl.map some) (some er) v) :
 C0 55 #[V0 no,v] w (fun e w'=>∃ ty x,e=.returned (.iface ty x)∧B0 w w'∧Vx w' ((no::bl).map some) (some er) (.iface ty x)):=by
 refine(Ym no (some er) (bl.map some) v w hv).mono ?_
 rintro e W ⟨r,rfl,hb,hr⟩
 rw[show atL no (bl.map some) (some er)=(no::bl).map some from by unfold atL Ad;simp] at hr
 have a0:Vx W (some no::bl.map some) (some er) r:=hr
 obtain⟨a1,v',rfl,h1,h2⟩:=a0
 exact⟨_,_,rfl,hb,a1,v',rfl,h1,h2⟩
theorem Pk{l:Bl}{root tree fuel:Int}(h:(Zd l root tree fuel).fs≠[]):(Vl (Zd l root tree fuel)).2≠0:=by
 obtain⟨es,fs,hw⟩:=Um l root tree fuel
 have h2:(Zd l root tree fuel).fs=fs:=by rw[hw.fsE];rfl
 rw[(Bc h).2.1]
 rw[h2] at h ⊢
 cases fs with
 | nil=>exact absurd rfl h
 | cons f r=>exact(hw.flt f (by simp)).2.2
theorem Km(no er:Int)(w:World)(he:er≠0) :
 C0 35 #[V0 no,V0 er] w ((fun e w'=>∃ ty x,e=.returned (.iface ty x)∧B0 w w'∧Vx w' (([no]:List Int).map some) (some er) (.iface ty x))):=by
 refine zin 11 Tryz.func35 ?_
 refine xk 12 (show((er==(0:Int)):Bool)=false from beq_false_of_ne he) ?_
 refine xc 7 (args:=#[V0 no,.iface 26 (V0 er)]) (Rs no er [] _ _ rfl) ?_
 rintro _ W1 ⟨a1,v1,rfl,a2,a0⟩
 exact xe 4 (.iface a1 (v1)) ⟨_,_,rfl,a2,a0⟩
def MapP(data:Int)(x:Ent)(w:World)(e:Ending)(w':World):Prop :=
 (Fo data x.2.1≠0∧∃ ty v,e=.returned (.tuple #[.agg #[V0 0,V0 0,V0 0],.iface ty v])∧B0 w w'∧Vx w' (([x.2.2]:List Int).map some) (some (Fo data x.2.1)) (.iface ty v)) ∨
 (Fo data x.2.1=0∧e=.returned (.tuple #[.agg #[V0 x.1,V0 (Mv x.2.1:Int),V0 (Du x.2.1:Int)],.nilIface])∧B0 w w')
theorem Cl{data:Int}{v:Bl}(h:Xv Hi v≠0):Fo data v=Xv Hi v:=if_pos h
theorem Fj{data:Int}{v:Bl}(h:Xv Hi v=0)(h2:data≤(Mv v:Int)):Fo data v=2:=by unfold Fo;rw[if_neg (fun q=>q h),if_pos h2]
theorem Oe{data:Int}{v:Bl}(h:Xv Hi v=0)(h2:¬ data≤(Mv v:Int)):Fo data v=0:=by unfold Fo;rw[if_neg (fun q=>q h),if_neg h2]
theorem Ns(bx b:Nat)(data fuel sum:Int)(x:Ent)(w:World)(hk:Blk w bx [P0 b,V0 data,V0 fuel,V0 sum] 97)(hs:x.2.1.length≤1000) :
 C0 78 #[P0 bx,.agg #[V0 x.1,.string ⟨x.2.1.toArray⟩,V0 x.2.2]] w (MapP data x w):=by
 refine zin 38 Tryz.func78 ?_
 refine xa 2 [V0 x.1,.string ⟨x.2.1.toArray⟩,V0 x.2.2] 45 fun b1 W1 n1=>?_
 refine xa 0 [V0 0,V0 0,V0 0] 42 fun b2 W2 n2=>?_
 have k1:=n1.blk.below n2.below
 refine xb 6 1 k1 ?_
 refine xr 0 (args:=#[.string ⟨x.2.1.toArray⟩]) (Fq x.2.1 _ hs) fun W3 a0=>?_
 refine xg 15 [17,18] ((Xv Hi x.2.1)==(0:Int)) (fun a6=>?_) (fun a6=>?_)
 ·have a6:=eq_of_beq a6
  have b0:=((hk.below n1.below).below n2.below).below a0
  refine xb 4 1 b0 ?_
  refine xid 4 ((↑(Mv x.2.1):Int)≥data) (fun c7=>?_) (fun c7=>?_)
  ·have a9:=k1.below a0
   refine xb 16 2 a9 ?_
   refine xc 1 (args:=#[V0 x.2.2,V0 2]) (Km x.2.2 2 _ (by omega)) ?_
   rintro _ W6 ⟨c6,v6,rfl,b7,a5⟩
   have k2:=(n2.blk.below a0).below b7
   refine xsv 0 k2 [V0 0,V0 0,V0 0] fun W7 u7 k7=>?_
   have g2:=n2.ge n1.below
   have hB:=u7.below (bln (bln (bln n1.below n2.below) a0) b7) g2
   have a2:=a5.only (Ze.of_upd (T:=[42]) u7 k2 (by decide)) (by decide)
   refine xec 5 k7 (.tuple #[.agg #[V0 0,V0 0,V0 0],.iface c6 (v6)]) ?_
   first|(have e9:=Fj (data:=data) (v:=x.2.1) (by omega) (by omega);exact .inl ⟨by rw[e9];decide,_,_,rfl,hB,by rw[e9];exact a2⟩)|(have e9:=Cl (data:=data) (v:=x.2.1) (by omega);exact .inl ⟨by rw[e9];omega,_,_,rfl,hB,by rw[e9];exact a2⟩)
  refine xin 9 (Xv Hi x.2.1) (0:Int) (fun c2=>?_) (fun c2=>?_)
  ·have a8:=k1.below a0
   refine xb 4 2 a8 ?_
   refine xc 1 (args:=#[V0 x.2.2,V0 (Xv Hi x.2.1)]) (Km x.2.2 (Xv Hi x.2.1) _ (by omega)) ?_
   rintro _ W9 ⟨c5,v9,rfl,b9,a5⟩
   have k2:=(n2.blk.below a0).below b9
   refine xsv 0 k2 [V0 0,V0 0,V0 0] fun d2 c0 d0=>?_
   have g2:=n2.ge n1.below
   have hB:=c0.below (bln (bln (bln n1.below n2.below) a0) b9) g2
   have a1:=a5.only (Ze.of_upd (T:=[42]) c0 k2 (by decide)) (by decide)
   refine xec 5 d0 (.tuple #[.agg #[V0 0,V0 0,V0 0],.iface c5 (v9)]) ?_
   first|(have e9:=Fj (data:=data) (v:=x.2.1) (by omega) (by omega);exact .inl ⟨by rw[e9];decide,_,_,rfl,hB,by rw[e9];exact a1⟩)|(have e9:=Cl (data:=data) (v:=x.2.1) (by omega);exact .inl ⟨by rw[e9];omega,_,_,rfl,hB,by rw[e9];exact a1⟩)
  have b4:=k1.below a0
  refine xb 5 0 b4 ?_
  have k2:=n2.blk.below a0
  refine xsv 3 k2 [V0 x.1,V0 (↑(Mv x.2.1):Int),V0 (↑(Du x.2.1):Int)] fun d6 c8 d1=>?_
  have g2:=n2.ge n1.below
  have hB:=c8.below (bln (bln n1.below n2.below) a0) g2
  exact xec 4 d1 (.tuple #[.agg #[V0 x.1,V0 (↑(Mv x.2.1):Int),V0 (↑(Du x.2.1):Int)],.nilIface]) (.inr ⟨Oe (by omega) (by omega),rfl,hB⟩)
 have a6:=Yj a6
 refine xin 19 (Xv Hi x.2.1) (0:Int) (fun b6=>?_) (fun b6=>?_)
 ·have b5:=k1.below a0
  refine xb 4 2 b5 ?_
  refine xc 1 (args:=#[V0 x.2.2,V0 (Xv Hi x.2.1)]) (Km x.2.2 (Xv Hi x.2.1) _ (by omega)) ?_
  rintro _ d3 ⟨a7,c3,rfl,a4,a5⟩
  have k2:=(n2.blk.below a0).below a4
  refine xsv 0 k2 [V0 0,V0 0,V0 0] fun d5 b8 c4=>?_
  have g2:=n2.ge n1.below
  have hB:=b8.below (bln (bln (bln n1.below n2.below) a0) a4) g2
  have a3:=a5.only (Ze.of_upd (T:=[42]) b8 k2 (by decide)) (by decide)
  refine xec 5 c4 (.tuple #[.agg #[V0 0,V0 0,V0 0],.iface a7 (c3)]) ?_
  first|(have e9:=Fj (data:=data) (v:=x.2.1) (by omega) (by omega);exact .inl ⟨by rw[e9];decide,_,_,rfl,hB,by rw[e9];exact a3⟩)|(have e9:=Cl (data:=data) (v:=x.2.1) (by omega);exact .inl ⟨by rw[e9];omega,_,_,rfl,hB,by rw[e9];exact a3⟩)
 have b3:=k1.below a0
 refine xb 5 0 b3 ?_
 have k2:=n2.blk.below a0
 refine xsv 3 k2 [V0 x.1,V0 (↑(Mv x.2.1):Int),V0 (↑(Du x.2.1):Int)] fun d4 c1 c9=>?_
 have g2:=n2.ge n1.below
 have hB:=c1.below (bln (bln n1.below n2.below) a0) g2
 exact xec 4 c9 (.tuple #[.agg #[V0 x.1,V0 (↑(Mv x.2.1):Int),V0 (↑(Du x.2.1):Int)],.nilIface]) (.inr ⟨Oe (by omega) (by omega),rfl,hB⟩)
def TellP(O:List Int×Int×List Mp)(w:World)(e:Ending)(w':World):Prop :=
 (O.2.1≠0∧∃ ty v,e=.returned (.tuple #[S0,.iface ty v])∧B0 w w'∧Vx w' (O.1.map some) (some O.2.1) (.iface ty v)) ∨
 (O.2.1=0∧∃ p c,e=.returned (.tuple #[.slice p O.2.2.length c,.nilIface])∧B0 w w'∧w'.ownsRow w.heap.size 42 3 (.slice p O.2.2.length c) O.2.2.length (O.2.2.flatMap Uu))
theorem My{O:List Int×Int×List Mp}{bl:List Int}{er:Int}{w W:World}{ty:TypeId}{v:Value}(h:O=(bl,er,[]))(her:er≠0)(hb:B0 w W)(hv:Vx W (bl.map some) (some er) (.iface ty v)):TellP O w (.returned (.tuple #[S0,.iface ty v])) W:=by
 subst h;exact .inl ⟨her,ty,v,rfl,hb,hv⟩
theorem Zf0{O:List Int×Int×List Mp}{L:List Mp}{n:Nat}{w W:World}{p:O0}{c:Nat}(h:O=([],0,L))(hn:L.length=n)(hb:B0 w W)(ho:W.ownsRow w.heap.size 42 3 (.slice p n c) n (L.flatMap Uu)):TellP O w (.returned (.tuple #[.slice p n c,.nilIface])) W:=by
 subst h hn;exact .inr ⟨rfl,p,c,rfl,hb,ho⟩
theorem Tj{es:List Ent}{i:Nat}(hi:i<es.length):((es.take (i+1)).map Zdm).flatMap Uu=((es.take i).map Zdm).flatMap Uu++Uu (Zdm (es.getD i Zi)):=by
 rw[List.take_succ_eq_append_getElem hi,List.map_append,List.flatMap_append,show es.getD i Zi=es[i] from by simp[List.getD,hi]]
 simp only[List.map_cons,List.map_nil,List.flatMap_cons,List.flatMap_nil,List.append_nil]
theorem Zel(Bi bx b:Nat)(pi:O0)(ni ci:Nat)(l:Bl)(data fuel sum root:Int)(w:World)(hI:ImgR Bi b pi ni ci l w)(hk:Blk w bx [P0 b,V0 data,V0 fuel,V0 sum] 97)(hfu:fuel≤1000) :
 C0 59 #[P0 bx,V0 root] w (TellP (Ir l root data fuel) w):=by
 have l4:=(Ug l root 2 fuel hfu).1
 refine zin 51 Tryz.func59 ?_
 refine xd 7 (.t w.heap.size [87]) ?_
 have b6:=hk.below (Za w)
 refine xbt (.e [0,1,2] 3) 0 w.heap.size [87] b6 ?_
 refine xbt (.e [4,5,6,7] 8) 2 w.heap.size [87] b6 ?_
 refine xm2 0 9 13 ?_ ?_
 ·have hB:=(Za w)
  refine yc 0 (args:=#[P0 b,V0 root,V0 2,V0 fuel]) (.t w.heap.size [87]) (Gb Bi b pi ni ci l root 2 fuel _ hfu (hI.below hB)) ?_
  rintro e W1 l9
  rcases l9 with ⟨b0,pe,ce,pb,cb,pf,cf,i4,vw,rfl,e4,d9⟩|⟨b0,pe,ce,pb,nb,cb,dp,lk,pf,cf,rfl,e4,a8⟩
  ·refine⟨(SF.of_below _ e4),?_⟩
   refine xa (.o [10,11,12] 13) [S0,S0,V0 0,V0 0,S0] 87 fun b2 W2 n2=>?_
   have h1:=bln hB e4
   have g2:=n2.ge h1
   refine ysv (.o [] 14) n2.blk [.slice pe 0 ce,.slice pb 0 cb,V0 0,V0 0,.slice pf 0 cf] (.t w.heap.size [87]) fun W3 u3 k3=>⟨(Xd u3 n2.blk g2 (by decide)),?_⟩
   have f3:=(d9.below n2.below).only (Ze.of_upd (T:=[87]) u3 n2.blk (by decide)) (by decide)
   have i2:=u3.below (bln h1 n2.below) g2
   exact xe (.r [15] 19) (.tuple #[S0,.iface i4 (vw)]) (My (Sr b0) (Pk b0) i2 f3)
  have m6:=(Za w).size
  refine⟨(SF.of_below _ e4),?_⟩
  refine xa (.o [10,11,12] 13) [S0,S0,V0 0,V0 0,S0] 87 fun b4 W4 n4=>?_
  have f5:=bln hB e4
  have g4:=n4.ge f5
  refine ysv (.o [] 14) n4.blk [.slice pe ((Zd l root 2 fuel).es.length) ce,.slice pb nb cb,V0 dp,V0 lk,.slice pf 0 cf] (.t w.heap.size [87]) fun W5 u5 k5=>⟨(Xd u5 n4.blk g4 (by decide)),?_⟩
  refine xb (.r [15] 21) 0 k5 ?_
  have h0:=u5.own2 (Zb (Zh a8 m6) n4.below) n4.blk (by decide)
  have k0:=u5.below (bln f5 n4.below) g4
  have k1:=u5.blkT ((b6.below e4).below n4.below) n4.blk (by decide)
  refine zl 5 51 (fun zm i1 V=>∃ (i:Nat) (p:O0) (c:Nat),i1=[(0,P0 bx),(8,.slice p i c),(30,.slice pe ((Zd l root 2 fuel).es.length) ce),(31,V0 (↑((Zd l root 2 fuel).es.length):Int)),(32,V0 (i:Int))]∧zm=(Zd l root 2 fuel).es.length-((i:Int)).toNat∧B0 w V∧Blk V bx ([P0 b,V0 data,V0 fuel,V0 sum]) 97∧Blk V b4 ([.slice pe ((Zd l root 2 fuel).es.length) ce,.slice pb nb cb,V0 dp,V0 lk,.slice pf 0 cf]) 87∧V.ownsRow w.heap.size 45 3 (.slice pe (Zd l root 2 fuel).es.length ce) (Zd l root 2 fuel).es.length ((Zd l root 2 fuel).es.flatMap Va)∧V.ownsRow w.heap.size 42 3 (.slice p i c) i ((((Zd l root 2 fuel).es.take i).map Zdm).flatMap Uu)∧i≤(Zd l root 2 fuel).es.length∧Zdk data (Zd l root 2 fuel).es i) ⟨0,none,0,rfl,rfl,k0,k1,k5,h0,World.ownsRow_nil _ _ _ _,Nat.zero_le _,fun j hj=>absurd hj (by omega)⟩ ?_
  rintro _ _ W6 ⟨i,p,c,rfl,rfl,c1,f6,h4,a8,ho,hi,d4⟩ J6 m0 r6
  refine xid 6 ((i:Int)<(↑((Zd l root 2 fuel).es.length):Int)) (fun l2=>?_) (fun l2=>?_)
  ·refine xx 6 _ ((Zd l root 2 fuel).es.length) i 3 (Sts.cell (f:=Va) (Zf a8) Xn Zi (k:=i) (i:=0) (by omega) rfl).1 ?_
   refine xlv 0 (Sts.rp (k:=i) (Zf a8) Xn Zi (by omega) (by decide)) ?_
   refine xa 0 [V0 0,.string ⟨#[]⟩,V0 0] 45 fun b8 W8 n8=>?_
   have g8:=n8.ge c1
   have d8:=Xa a8 n8
   refine xsv 0 n8.blk [V0 (((Zd l root 2 fuel).es.getD i Zi).1),.string ⟨(((Zd l root 2 fuel).es.getD i Zi).2.1).toArray⟩,V0 (((Zd l root 2 fuel).es.getD i Zi).2.2)] fun W9 u9 k9=>?_
   refine xlv 5 k9.rp ?_
   have a5:=u9.blkT (f6.below n8.below) n8.blk (by decide)
   refine xc 0 (args:=#[P0 bx,.agg #[V0 (((Zd l root 2 fuel).es.getD i Zi).1),.string ⟨(((Zd l root 2 fuel).es.getD i Zi).2.1).toArray⟩,V0 (((Zd l root 2 fuel).es.getD i Zi).2.2)]]) (Ns bx b data fuel sum ((Zd l root 2 fuel).es.getD i Zi) _ a5 (Jd _ _ _ _ i (by omega))) ?_
   rintro e o1 j1
   rcases j1 with ⟨c4,i6,vm,rfl,a3,d9⟩|⟨c4,rfl,a3⟩
   ·refine xa 3 [V0 0,V0 0,V0 0] 42 fun p6 o5 e2=>?_
    have g0:=bln (u9.below (bln c1 n8.below) g8) a3
    have l1:=e2.ge g0
    have j6:=Zb (u9.own2 (Zb ho n8.below) n8.blk (by decide)) a3
    have h9:=Xa j6 e2
    refine xsv 0 e2.blk [V0 0,V0 0,V0 0] fun p0 k8 o3=>?_
    have f0:=(d9.below e2.below).only (Ze.of_upd (T:=[42]) k8 e2.blk (by decide)) (by decide)
    have i7:=k8.below (bln g0 e2.below) l1
    exact xe 25 (.tuple #[S0,.iface i6 (vm)]) (My ((Uj b0).trans (Sz (by omega) d4 c4)) c4 i7 f0)
   refine xa 3 [V0 0,V0 0,V0 0] 42 fun q5 m9 b3=>?_
   have e8:=bln (u9.below (bln c1 n8.below) g8) a3
   have m5:=b3.ge e8
   have g3:=Zb (u9.own2 (Zb ho n8.below) n8.blk (by decide)) a3
   have d2:=Xa g3 b3
   refine xsv 0 b3.blk [V0 (((Zd l root 2 fuel).es.getD i Zi).1),V0 (↑(Mv ((Zd l root 2 fuel).es.getD i Zi).2.1):Int),V0 (↑(Du ((Zd l root 2 fuel).es.getD i Zi).2.1):Int)] fun n1 f8 l0=>?_
   refine xlv 15 l0.rp ?_
   refine xbs 0 1 [V0 (((Zd l root 2 fuel).es.getD i Zi).1),V0 (↑(Mv ((Zd l root 2 fuel).es.getD i Zi).2.1):Int),V0 (↑(Du ((Zd l root 2 fuel).es.getD i Zi).2.1):Int)] 42 fun p2 p1 c0=>?_
   have h6:=c0.ne l0
   have f1:=f8.below (bln e8 b3.below) m5
   have p8:=c0.ge f1
   have e5:=f8.own3 (Zb g3 b3.below) d2
   have i0:=Xa e5 c0
   have b7:=Zb e5 c0.below
   have g9:=bln f1 c0.below
   refine xbi 0 fun _ _ _ _ zJ zQ zo zx zy zK=>Xk (m:=1) (news:=[V0 (((Zd l root 2 fuel).es.getD i Zi).1),V0 (↑(Mv ((Zd l root 2 fuel).es.getD i Zi).2.1):Int),V0 (↑(Du ((Zd l root 2 fuel).es.getD i Zi).2.1):Int)]) (.agg #[V0 0,V0 0,V0 0]) 3 24 (i+1) (((((Zd l root 2 fuel).es.take (i+1)).map Zdm).flatMap Uu)) zo Tryz.underlying38 (by kernel_rfl) rfl (by decide) zx b7 zy (c0.blk.sl 1 1 (by decide) (by decide)) rfl (by simp[Value.oneCell']) (by unfold maxLen;omega) (by omega) g9.size (rfl) (by rw[Tj (by omega)];rfl) fun m1 m3 n9 m7 d3 j0=>?_
   refine zK _ _ ?_
   refine xwm 5 ((i:Int)+1) (↑(i+1):Int) ?_
   have e9:=g9.trans j0
   have c6:=((f8.blkT ((a5.below a3).below b3.below) b3.blk (by decide)).below c0.below).grown d3 b7 (by decide)
   have c2:=((f8.blkT (((u9.blkT (h4.below n8.below) n8.blk (by decide)).below a3).below b3.below) b3.blk (by decide)).below c0.below).grown d3 b7 (by decide)
   have g1:=Zz (Zb (f8.own2 (Zb (Zb (u9.own3 (Zb a8 n8.below) d8) a3) b3.below) b3.blk (by decide)) c0.below) d3 b7 (by decide)
   exact ze 2 (m0 _ _ _ ⟨i+1,_,_,rfl,rfl,e9,c6,c2,g1,m7,by omega,Dn d4 c4⟩ (by omega))
  refine xe 13 (.tuple #[.slice p i c,.nilIface]) ?_
  obtain rfl:i=(Zd l root 2 fuel).es.length:=by omega
  rw[List.take_of_length_le (Nat.le_refl _)] at ho
  exact Zf0 ((Uj b0).trans (Li d4)) (List.length_map _) c1 ho
 refine xa 0 [S0,S0,V0 0,V0 0,S0] 87 fun l8 p5 e0=>?_
 have hB:=bln (Za w) e0.below
 refine yc (.o [] 9) (args:=#[P0 b,V0 root,V0 2,V0 fuel]) (.t w.heap.size [87]) (Gb Bi b pi ni ci l root 2 fuel _ hfu (hI.below hB)) ?_
 rintro e p4 j8
 rcases j8 with ⟨b0,pe,ce,pb,cb,pf,cf,i4,vw,rfl,a1,d9⟩|⟨b0,pe,ce,pb,nb,cb,dp,lk,pf,cf,rfl,a1,a8⟩
 ·refine⟨(SF.of_below _ a1),?_⟩
  have d1:=e0.blk.below a1
  have e6:=e0.ge (Za w)
  refine ysv (.o [10,11,12] 14) d1 [.slice pe 0 ce,.slice pb 0 cb,V0 0,V0 0,.slice pf 0 cf] (.t w.heap.size [87]) fun n6 j4 n0=>⟨(Xd j4 d1 e6 (by decide)),?_⟩
  have g6:=d9.only (Ze.of_upd (T:=[87]) j4 d1 (by decide)) (by decide)
  have g5:=j4.below (bln hB a1) e6
  exact xe (.r [15] 19) (.tuple #[S0,.iface i4 (vw)]) (My (Sr b0) (Pk b0) g5 g6)
 have i5:=(bln (Za w) e0.below).size
 refine⟨(SF.of_below _ a1),?_⟩
 have d1:=e0.blk.below a1
 have e6:=e0.ge (Za w)
 refine ysv (.o [10,11,12] 14) d1 [.slice pe ((Zd l root 2 fuel).es.length) ce,.slice pb nb cb,V0 dp,V0 lk,.slice pf 0 cf] (.t w.heap.size [87]) fun o8 h8 k2=>⟨(Xd h8 d1 e6 (by decide)),?_⟩
 refine xb (.r [15] 21) 0 k2 ?_
 have h2:=h8.own2 (Zh a8 i5) d1 (by decide)
 have h3:=h8.below (bln hB a1) e6
 have j2:=h8.blkT ((b6.below e0.below).below a1) d1 (by decide)
 refine zl 5 51 (fun zm i1 V=>∃ (i:Nat) (p:O0) (c:Nat),i1=[(0,P0 bx),(8,.slice p i c),(30,.slice pe ((Zd l root 2 fuel).es.length) ce),(31,V0 (↑((Zd l root 2 fuel).es.length):Int)),(32,V0 (i:Int))]∧zm=(Zd l root 2 fuel).es.length-((i:Int)).toNat∧B0 w V∧Blk V bx ([P0 b,V0 data,V0 fuel,V0 sum]) 97∧Blk V l8 ([.slice pe ((Zd l root 2 fuel).es.length) ce,.slice pb nb cb,V0 dp,V0 lk,.slice pf 0 cf]) 87∧V.ownsRow w.heap.size 45 3 (.slice pe (Zd l root 2 fuel).es.length ce) (Zd l root 2 fuel).es.length ((Zd l root 2 fuel).es.flatMap Va)∧V.ownsRow w.heap.size 42 3 (.slice p i c) i ((((Zd l root 2 fuel).es.take i).map Zdm).flatMap Uu)∧i≤(Zd l root 2 fuel).es.length∧Zdk data (Zd l root 2 fuel).es i) ⟨0,none,0,rfl,rfl,h3,j2,k2,h2,World.ownsRow_nil _ _ _ _,Nat.zero_le _,fun j hj=>absurd hj (by omega)⟩ ?_
 rintro _ _ q1 ⟨i,p,c,rfl,rfl,a6,d7,c5,a8,ho,hi,d4⟩ m8 j3 o7
 refine xid 6 ((i:Int)<(↑((Zd l root 2 fuel).es.length):Int)) (fun j7=>?_) (fun j7=>?_)
 ·refine xx 6 _ ((Zd l root 2 fuel).es.length) i 3 (Sts.cell (f:=Va) (Zf a8) Xn Zi (k:=i) (i:=0) (by omega) rfl).1 ?_
  refine xlv 0 (Sts.rp (k:=i) (Zf a8) Xn Zi (by omega) (by decide)) ?_
  refine xa 0 [V0 0,.string ⟨#[]⟩,V0 0] 45 fun p9 q3 a4=>?_
  have k7:=a4.ge a6
  have b5:=Xa a8 a4
  refine xsv 0 a4.blk [V0 (((Zd l root 2 fuel).es.getD i Zi).1),.string ⟨(((Zd l root 2 fuel).es.getD i Zi).2.1).toArray⟩,V0 (((Zd l root 2 fuel).es.getD i Zi).2.2)] fun n3 e1 m4=>?_
  refine xlv 5 m4.rp ?_
  have a0:=e1.blkT (d7.below a4.below) a4.blk (by decide)
  refine xc 0 (args:=#[P0 bx,.agg #[V0 (((Zd l root 2 fuel).es.getD i Zi).1),.string ⟨(((Zd l root 2 fuel).es.getD i Zi).2.1).toArray⟩,V0 (((Zd l root 2 fuel).es.getD i Zi).2.2)]]) (Ns bx b data fuel sum ((Zd l root 2 fuel).es.getD i Zi) _ a0 (Jd _ _ _ _ i (by omega))) ?_
  rintro e q2 j9
  rcases j9 with ⟨c4,i6,vm,rfl,a2,d9⟩|⟨c4,rfl,a2⟩
  ·refine xa 3 [V0 0,V0 0,V0 0] 42 fun p3 q0 e3=>?_
   have c8:=bln (e1.below (bln a6 a4.below) k7) a2
   have l6:=e3.ge c8
   have i9:=Zb (e1.own2 (Zb ho a4.below) a4.blk (by decide)) a2
   have i8:=Xa i9 e3
   refine xsv 0 e3.blk [V0 0,V0 0,V0 0] fun n7 k6 o6=>?_
   have h5:=(d9.below e3.below).only (Ze.of_upd (T:=[42]) k6 e3.blk (by decide)) (by decide)
   have e7:=k6.below (bln c8 e3.below) l6
   exact xe 25 (.tuple #[S0,.iface i6 (vm)]) (My ((Uj b0).trans (Sz (by omega) d4 c4)) c4 e7 h5)
  refine xa 3 [V0 0,V0 0,V0 0] 42 fun q4 n5 a9=>?_
  have c7:=bln (e1.below (bln a6 a4.below) k7) a2
  have l7:=a9.ge c7
  have f2:=Zb (e1.own2 (Zb ho a4.below) a4.blk (by decide)) a2
  have d6:=Xa f2 a9
  refine xsv 0 a9.blk [V0 (((Zd l root 2 fuel).es.getD i Zi).1),V0 (↑(Mv ((Zd l root 2 fuel).es.getD i Zi).2.1):Int),V0 (↑(Du ((Zd l root 2 fuel).es.getD i Zi).2.1):Int)] fun o4 f4 k4=>?_
  refine xlv 15 k4.rp ?_
  refine xbs 0 1 [V0 (((Zd l root 2 fuel).es.getD i Zi).1),V0 (↑(Mv ((Zd l root 2 fuel).es.getD i Zi).2.1):Int),V0 (↑(Du ((Zd l root 2 fuel).es.getD i Zi).2.1):Int)] 42 fun o0 p7 c3=>?_
  have h7:=c3.ne k4
  have d0:=f4.below (bln c7 a9.below) l7
  have o9:=c3.ge d0
  have f7:=f4.own3 (Zb f2 a9.below) d6
  have i3:=Xa f7 c3
  have b9:=Zb f7 c3.below
  have c9:=bln d0 c3.below
  refine xbi 0 fun _ _ _ _ zJ zQ zo zx zy zK=>Xk (m:=1) (news:=[V0 (((Zd l root 2 fuel).es.getD i Zi).1),V0 (↑(Mv ((Zd l root 2 fuel).es.getD i Zi).2.1):Int),V0 (↑(Du ((Zd l root 2 fuel).es.getD i Zi).2.1):Int)]) (.agg #[V0 0,V0 0,V0 0]) 3 24 (i+1) (((((Zd l root 2 fuel).es.take (i+1)).map Zdm).flatMap Uu)) zo Tryz.underlying38 (by kernel_rfl) rfl (by decide) zx b9 zy (c3.blk.sl 1 1 (by decide) (by decide)) rfl (by simp[Value.oneCell']) (by unfold maxLen;omega) (by omega) c9.size (rfl) (by rw[Tj (by omega)];rfl) fun l3 l5 o2 m2 d5 j5=>?_
  refine zK _ _ ?_
  refine xwm 5 ((i:Int)+1) (↑(i+1):Int) ?_
  have g7:=c9.trans j5
  have b1:=((f4.blkT ((a0.below a2).below a9.below) a9.blk (by decide)).below c3.below).grown d5 b9 (by decide)
  have a7:=((f4.blkT (((e1.blkT (c5.below a4.below) a4.blk (by decide)).below a2).below a9.below) a9.blk (by decide)).below c3.below).grown d5 b9 (by decide)
  have f9:=Zz (Zb (f4.own2 (Zb (Zb (e1.own3 (Zb a8 a4.below) b5) a2) a9.below) a9.blk (by decide)) c3.below) d5 b9 (by decide)
  exact ze 2 (j3 _ _ _ ⟨i+1,_,_,rfl,rfl,g7,b1,a7,f9,m2,by omega,Dn d4 c4⟩ (by omega))
 refine xe 13 (.tuple #[.slice p i c,.nilIface]) ?_
 obtain rfl:i=(Zd l root 2 fuel).es.length:=by omega
 rw[List.take_of_length_le (Nat.le_refl _)] at ho
 exact Zf0 ((Uj b0).trans (Li d4)) (List.length_map _) a6 ho
theorem Zc6(Bi bx b:Nat)(pi:O0)(ni ci:Nat)(l:Bl)(data fuel sum:Int)(y:Ent)(w:World)(hI:ImgR Bi b pi ni ci l w)(hk:Blk w bx [P0 b,V0 data,V0 fuel,V0 sum] 97)(hfu:fuel≤1000):C0 59 #[P0 bx,V0 (↑(Js y.2.1):Int)] w (TellP (ownO l y data fuel) w):=Zel Bi bx b pi ni ci l data fuel sum (↑(Js y.2.1):Int) w hI hk hfu
theorem own_few(l:Bl)(y:Ent)(data fuel:Int)(hf:fuel≤1000):(ownO l y data fuel).2.2.length≤1000000:=by
 have h:=(Ug l (Js y.2.1:Int) 2 fuel hf).1
 unfold ownO Ir Oh
 split
 ·exact Nat.zero_le _
 ·split
  ·exact Nat.zero_le _
  ·rw[List.length_map];exact h
theorem dev_1{l:Bl}{x y:Ent}{data fuel:Int}{sum:Nat}(h:16777215<x.1):Mx l x y data fuel sum=([x.2.2],9):=if_pos h
theorem dev_2{l:Bl}{x y:Ent}{data fuel:Int}{sum:Nat}(h:¬ 16777215<x.1)(h2:Xv Jm x.2.1≠0):Mx l x y data fuel sum=([x.2.2],Xv Jm x.2.1):=by unfold Mx;rw[if_neg h,if_pos h2]
theorem dev_3{l:Bl}{x y:Ent}{data fuel:Int}{sum:Nat}(h:¬ 16777215<x.1)(h2:Xv Jm x.2.1=0)(h3:Ys y.2.1≠0):Mx l x y data fuel sum=([y.2.2],Ys y.2.1):=by unfold Mx;rw[if_neg h,if_neg (fun q=>q h2),if_pos h3]
theorem dev_4{l:Bl}{x y:Ent}{data fuel:Int}{sum:Nat}(h:¬ 16777215<x.1)(h2:Xv Jm x.2.1=0)(h3:Ys y.2.1=0)(h4:(ownO l y data fuel).2.1≠0):Mx l x y data fuel sum=(y.2.2::(ownO l y data fuel).1,(ownO l y data fuel).2.1):=by unfold Mx;rw[if_neg h,if_neg (fun q=>q h2),if_neg (fun q=>q h3),if_pos h4]
theorem dev_5{l:Bl}{x y:Ent}{data fuel:Int}{sum:Nat}(h:¬ 16777215<x.1)(h2:Xv Jm x.2.1=0)(h3:Ys y.2.1=0)(h4:(ownO l y data fuel).2.1=0)(h5:(ownO l y data fuel).2.2.length≠Qa x.2.1 0):Mx l x y data fuel sum=([x.2.2],13):=by unfold Mx;rw[if_neg h,if_neg (fun q=>q h2),if_neg (fun q=>q h3),if_neg (fun q=>q h4),if_pos h5]
theorem dev_6{l:Bl}{x y:Ent}{data fuel:Int}{sum:Nat}(h:¬ 16777215<x.1)(h2:Xv Jm x.2.1=0)(h3:Ys y.2.1=0)(h4:(ownO l y data fuel).2.1=0)(h5:(ownO l y data fuel).2.2.length=Qa x.2.1 0)(h6:16384<sum+(ownO l y data fuel).2.2.length):Mx l x y data fuel sum=([y.2.2],2):=by unfold Mx;rw[if_neg h,if_neg (fun q=>q h2),if_neg (fun q=>q h3),if_neg (fun q=>q h4),if_neg (fun q=>q h5),if_pos h6]
theorem dev_7{l:Bl}{x y:Ent}{data fuel:Int}{sum:Nat}(h:¬ 16777215<x.1)(h2:Xv Jm x.2.1=0)(h3:Ys y.2.1=0)(h4:(ownO l y data fuel).2.1=0)(h5:(ownO l y data fuel).2.2.length=Qa x.2.1 0)(h6:¬ 16384<sum+(ownO l y data fuel).2.2.length):Mx l x y data fuel sum=([],0):=by unfold Mx;rw[if_neg h,if_neg (fun q=>q h2),if_neg (fun q=>q h3),if_neg (fun q=>q h4),if_neg (fun q=>q h5),if_neg h6]
def DevP(B bx b:Nat)(l:Bl)(x y:Ent)(data fuel:Int)(sum:Nat)(w:World)(e:Ending)(w':World):Prop :=
 ((Mx l x y data fuel sum).2≠0∧∃ ty v,e=.returned (.tuple #[.agg #[V0 0,V0 0,V0 0,V0 0,S0],.iface ty v])∧Below B w w'∧Ze [97] w w'∧Fr [bx] w w'∧Vx w' ((Mx l x y data fuel sum).1.map some) (some (Mx l x y data fuel sum).2) (.iface ty v)) ∨
 ((Mx l x y data fuel sum).2=0∧∃ p c,e=.returned (.tuple #[.agg #[V0 x.1,V0 (Qa x.2.1 1:Int),V0 (Qa x.2.1 2:Int),V0 (Qa x.2.1 3:Int),.slice p (ownO l y data fuel).2.2.length c],.nilIface])∧Below B w w'∧Ze [97] w w'∧Fr [bx] w w'∧Blk w' bx [P0 b,V0 data,V0 fuel,V0 ((sum+(ownO l y data fuel).2.2.length:Nat):Int)] 97∧w'.ownsRow w.heap.size 42 3 (.slice p (ownO l y data fuel).2.2.length c) (ownO l y data fuel).2.2.length ((ownO l y data fuel).2.2.flatMap Uu))
theorem Up{B bx b:Nat}{l:Bl}{x y:Ent}{data fuel:Int}{sum:Nat}{w W:World}{ty:TypeId}{v:Value}{bl:List Int}{er:Int}(h:Mx l x y data fuel sum=(bl,er))(her:er≠0)(hb:Below B w W)(hO:Ze [97] w W)(hX:Fr [bx] w W)(hv:Vx W (bl.map some) (some er) (.iface ty v)):DevP B bx b l x y data fuel sum w (.returned (.tuple #[.agg #[V0 0,V0 0,V0 0,V0 0,S0],.iface ty v])) W:=by
 unfold DevP;rw[h];exact .inl ⟨her,ty,v,rfl,hb,hO,hX,hv⟩
theorem Br(B Bi bx b:Nat)(pi:O0)(ni ci:Nat)(l:Bl)(data fuel:Int)(sum:Nat)(x y:Ent)(w:World)(hI:ImgR Bi b pi ni ci l w)(hk:Blk w bx [P0 b,V0 data,V0 fuel,V0 (sum:Int)] 97)(hfu:fuel≤1000)(hx:x.2.1.length≤1000)(hy:y.2.1.length≤1000)(hsm:sum≤16384)(hB0:B≤bx)(hBw:B≤w.heap.size) :
 C0 37 #[P0 bx,.agg #[V0 x.1,.string ⟨x.2.1.toArray⟩,V0 x.2.2],.agg #[V0 y.1,.string ⟨y.2.1.toArray⟩,V0 y.2.2]] w (DevP B bx b l x y data fuel sum w):=by
 have f9:=own_few l y data fuel hfu
 refine zin 96 Tryz.func37 ?_
 refine xa 2 [V0 x.1,.string ⟨x.2.1.toArray⟩,V0 x.2.2] 45 fun b1 W1 n1=>?_
 refine xa 0 [V0 y.1,.string ⟨y.2.1.toArray⟩,V0 y.2.2] 45 fun b2 W2 n2=>?_
 have f3:=n2.ne n1.blk
 refine xa 0 [V0 0,V0 0,V0 0,V0 0,S0] 40 fun b3 W3 n3=>?_
 have a4:=(n1.blk.below n2.below).below n3.below
 refine xb 7 0 a4 ?_
 refine xid 3 (x.1>(16777215:Int)) (fun f8=>?_) (fun f8=>?_)
 ·refine xb 4 2 a4 ?_
  refine xc 0 (args:=#[V0 x.2.2,V0 9]) (Km x.2.2 9 _ (by omega)) ?_
  rintro _ W5 ⟨g6,v5,rfl,c9,a6⟩
  have k3:=n3.blk.below c9
  refine xsv 0 k3 [V0 0,V0 0,V0 0,V0 0,S0] fun W6 u6 k6=>?_
  have g3:=n3.ge0 (blB (blB (Below.refl B w) hBw n1.below) hBw n2.below)
  have b9:=a6.only (Ze.of_upd (T:=[40]) u6 k3 (by decide)) (by decide)
  have hB:=u6.below (blB (blB (blB (blB (Below.refl B w) hBw n1.below) hBw n2.below) hBw n3.below) hBw c9) (Nat.le_trans hBw g3)
  have hO:=(Ze.upd_new ((((show Ze [97] w _ from(Ze.of_below n1.below)).trans (Ze.of_below n2.below)).trans (Ze.of_below n3.below)).trans (Ze.of_below c9)) u6 g3)
  have hX:=(Fr.upd_new ((((show Fr [bx] w _ from(Fr.of_below n1.below)).trans (Fr.of_below n2.below)).trans (Fr.of_below n3.below)).trans (Fr.of_below c9)) u6 g3)
  exact xec 5 k6 (.tuple #[.agg #[V0 0,V0 0,V0 0,V0 0,S0],.iface g6 (v5)]) (Up (dev_1 (by omega)) (by decide) hB hO hX b9)
 refine xb 5 1 a4 ?_
 refine xr 0 (args:=#[.string ⟨x.2.1.toArray⟩]) (Mt x.2.1 _ hx) fun W7 a2=>?_
 refine xa 3 [V0 0,V0 0,V0 0,V0 0] 51 fun b8 W8 n8=>?_
 refine xsv 0 n8.blk [V0 (↑(Qa x.2.1 0):Int),V0 (↑(Qa x.2.1 1):Int),V0 (↑(Qa x.2.1 2):Int),V0 (↑(Qa x.2.1 3):Int)] fun W9 u9 k9=>?_
 have g8:=n8.ge0 (blB (blB (blB (blB (Below.refl B w) hBw n1.below) hBw n2.below) hBw n3.below) hBw a2)
 refine xin 10 (Xv Jm x.2.1) (0:Int) (fun e0=>?_) (fun e0=>?_)
 ·have d5:=u9.blkT ((a4.below a2).below n8.below) n8.blk (by decide)
  refine xb 4 2 d5 ?_
  refine xc 1 (args:=#[V0 x.2.2,V0 (Xv Jm x.2.1)]) (Km x.2.2 (Xv Jm x.2.1) _ (by omega)) ?_
  rintro _ i0 ⟨e3,h3,rfl,b4,a6⟩
  have k3:=(u9.blkT ((n3.blk.below a2).below n8.below) n8.blk (by decide)).below b4
  refine xsv 0 k3 [V0 0,V0 0,V0 0,V0 0,S0] fun i1 d2 g1=>?_
  have g3:=n3.ge0 (blB (blB (Below.refl B w) hBw n1.below) hBw n2.below)
  have c7:=a6.only (Ze.of_upd (T:=[40]) d2 k3 (by decide)) (by decide)
  have hB:=d2.below (blB (u9.below (blB (blB (blB (blB (blB (Below.refl B w) hBw n1.below) hBw n2.below) hBw n3.below) hBw a2) hBw n8.below) (Nat.le_trans hBw g8)) hBw b4) (Nat.le_trans hBw g3)
  have hO:=(Ze.upd_new ((Ze.upd_new (((((show Ze [97] w _ from(Ze.of_below n1.below)).trans (Ze.of_below n2.below)).trans (Ze.of_below n3.below)).trans (Ze.of_below a2)).trans (Ze.of_below n8.below)) u9 g8).trans (Ze.of_below b4)) d2 g3)
  have hX:=(Fr.upd_new ((Fr.upd_new (((((show Fr [bx] w _ from(Fr.of_below n1.below)).trans (Fr.of_below n2.below)).trans (Fr.of_below n3.below)).trans (Fr.of_below a2)).trans (Fr.of_below n8.below)) u9 g8).trans (Fr.of_below b4)) d2 g3)
  exact xec 5 g1 (.tuple #[.agg #[V0 0,V0 0,V0 0,V0 0,S0],.iface e3 (h3)]) (Up (dev_2 (by omega) (by omega)) (by omega) hB hO hX c7)
 have k2:=u9.blkT (((n2.blk.below n3.below).below a2).below n8.below) n8.blk (by decide)
 refine xb 5 1 k2 ?_
 refine xr 0 (args:=#[.string ⟨y.2.1.toArray⟩]) (Uz y.2.1 _ hy) fun h5 a0=>?_
 refine xin 14 (Ys y.2.1) (0:Int) (fun d8=>?_) (fun d8=>?_)
 ·have d7:=k2.below a0
  refine xb 4 2 d7 ?_
  refine xc 1 (args:=#[V0 y.2.2,V0 (Ys y.2.1)]) (Km y.2.2 (Ys y.2.1) _ (by omega)) ?_
  rintro _ i2 ⟨d6,g5,rfl,a7,a6⟩
  have k3:=((u9.blkT ((n3.blk.below a2).below n8.below) n8.blk (by decide)).below a0).below a7
  refine xsv 0 k3 [V0 0,V0 0,V0 0,V0 0,S0] fun h8 d4 g9=>?_
  have g3:=n3.ge0 (blB (blB (Below.refl B w) hBw n1.below) hBw n2.below)
  have c3:=a6.only (Ze.of_upd (T:=[40]) d4 k3 (by decide)) (by decide)
  have hB:=d4.below (blB (blB (u9.below (blB (blB (blB (blB (blB (Below.refl B w) hBw n1.below) hBw n2.below) hBw n3.below) hBw a2) hBw n8.below) (Nat.le_trans hBw g8)) hBw a0) hBw a7) (Nat.le_trans hBw g3)
  have hO:=(Ze.upd_new (((Ze.upd_new (((((show Ze [97] w _ from(Ze.of_below n1.below)).trans (Ze.of_below n2.below)).trans (Ze.of_below n3.below)).trans (Ze.of_below a2)).trans (Ze.of_below n8.below)) u9 g8).trans (Ze.of_below a0)).trans (Ze.of_below a7)) d4 g3)
  have hX:=(Fr.upd_new (((Fr.upd_new (((((show Fr [bx] w _ from(Fr.of_below n1.below)).trans (Fr.of_below n2.below)).trans (Fr.of_below n3.below)).trans (Fr.of_below a2)).trans (Fr.of_below n8.below)) u9 g8).trans (Fr.of_below a0)).trans (Fr.of_below a7)) d4 g3)
  exact xec 5 g9 (.tuple #[.agg #[V0 0,V0 0,V0 0,V0 0,S0],.iface d6 (g5)]) (Up (dev_3 (by omega) (by omega) (by omega)) (by omega) hB hO hX c3)
 have f1:=((((((hI.below n1.below).below n2.below).below n3.below).below a2).below n8.below).only (Ze.of_upd (T:=[51]) u9 n8.blk (by decide)) (by decide)).below a0
 have b7:=(u9.blkT (((((hk.below n1.below).below n2.below).below n3.below).below a2).below n8.below) n8.blk (by decide)).below a0
 refine xc 6 (args:=#[P0 bx,V0 (↑(Js y.2.1):Int)]) (Zc6 Bi bx b pi ni ci l data fuel (sum:Int) y _ f1 b7 hfu) ?_
 rintro e i4 e9
 rcases e9 with ⟨b6,h4,vo,rfl,a1,h0⟩|⟨b6,po,co,rfl,a1,g0⟩
 ·have f2:=(k2.below a0).below a1
  refine xb 19 2 f2 ?_
  refine xc 1 (args:=#[V0 y.2.2,.iface h4 (vo)]) (Rs y.2.2 (ownO l y data fuel).2.1 (ownO l y data fuel).1 _ _ h0) ?_
  rintro _ i3 ⟨e1,f5,rfl,a8,a6⟩
  have k3:=(((u9.blkT ((n3.blk.below a2).below n8.below) n8.blk (by decide)).below a0).below a1).below a8
  refine xsv 0 k3 [V0 0,V0 0,V0 0,V0 0,S0] fun h6 d1 f7=>?_
  have g3:=n3.ge0 (blB (blB (Below.refl B w) hBw n1.below) hBw n2.below)
  have c5:=a6.only (Ze.of_upd (T:=[40]) d1 k3 (by decide)) (by decide)
  have hB:=d1.below (blB (blB (blB (u9.below (blB (blB (blB (blB (blB (Below.refl B w) hBw n1.below) hBw n2.below) hBw n3.below) hBw a2) hBw n8.below) (Nat.le_trans hBw g8)) hBw a0) hBw a1) hBw a8) (Nat.le_trans hBw g3)
  have hO:=(Ze.upd_new ((((Ze.upd_new (((((show Ze [97] w _ from(Ze.of_below n1.below)).trans (Ze.of_below n2.below)).trans (Ze.of_below n3.below)).trans (Ze.of_below a2)).trans (Ze.of_below n8.below)) u9 g8).trans (Ze.of_below a0)).trans (Ze.of_below a1)).trans (Ze.of_below a8)) d1 g3)
  have hX:=(Fr.upd_new ((((Fr.upd_new (((((show Fr [bx] w _ from(Fr.of_below n1.below)).trans (Fr.of_below n2.below)).trans (Fr.of_below n3.below)).trans (Fr.of_below a2)).trans (Fr.of_below n8.below)) u9 g8).trans (Fr.of_below a0)).trans (Fr.of_below a1)).trans (Fr.of_below a8)) d1 g3)
  exact xec 5 f7 (.tuple #[.agg #[V0 0,V0 0,V0 0,V0 0,S0],.iface e1 (f5)]) (Up (dev_4 (by omega) (by omega) (by omega) b6) b6 hB hO hX c5)
 have f0:=(blB (u9.below (blB (blB (blB (blB (blB (Below.refl B w) hBw n1.below) hBw n2.below) hBw n3.below) hBw a2) hBw n8.below) (Nat.le_trans hBw g8)) hBw a0).size
 have c8:=(k9.below a0).below a1
 refine xb 23 0 c8 ?_
 refine xin 3 (↑((ownO l y data fuel).2.2.length):Int) (↑(Qa x.2.1 0):Int) (fun e4=>?_) (fun e4=>?_)
 ·have e6:=((u9.blkT ((a4.below a2).below n8.below) n8.blk (by decide)).below a0).below a1
  refine xb 4 2 e6 ?_
  refine xc 0 (args:=#[V0 x.2.2,V0 13]) (Km x.2.2 13 _ (by omega)) ?_
  rintro _ i7 ⟨e7,h2,rfl,b0,a6⟩
  have k3:=(((u9.blkT ((n3.blk.below a2).below n8.below) n8.blk (by decide)).below a0).below a1).below b0
  refine xsv 0 k3 [V0 0,V0 0,V0 0,V0 0,S0] fun h9 d0 g2=>?_
  have g3:=n3.ge0 (blB (blB (Below.refl B w) hBw n1.below) hBw n2.below)
  have c6:=a6.only (Ze.of_upd (T:=[40]) d0 k3 (by decide)) (by decide)
  have hB:=d0.below (blB (blB (blB (u9.below (blB (blB (blB (blB (blB (Below.refl B w) hBw n1.below) hBw n2.below) hBw n3.below) hBw a2) hBw n8.below) (Nat.le_trans hBw g8)) hBw a0) hBw a1) hBw b0) (Nat.le_trans hBw g3)
  have hO:=(Ze.upd_new ((((Ze.upd_new (((((show Ze [97] w _ from(Ze.of_below n1.below)).trans (Ze.of_below n2.below)).trans (Ze.of_below n3.below)).trans (Ze.of_below a2)).trans (Ze.of_below n8.below)) u9 g8).trans (Ze.of_below a0)).trans (Ze.of_below a1)).trans (Ze.of_below b0)) d0 g3)
  have hX:=(Fr.upd_new ((((Fr.upd_new (((((show Fr [bx] w _ from(Fr.of_below n1.below)).trans (Fr.of_below n2.below)).trans (Fr.of_below n3.below)).trans (Fr.of_below a2)).trans (Fr.of_below n8.below)) u9 g8).trans (Fr.of_below a0)).trans (Fr.of_below a1)).trans (Fr.of_below b0)) d0 g3)
  exact xec 5 g2 (.tuple #[.agg #[V0 0,V0 0,V0 0,V0 0,S0],.iface e7 (h2)]) (Up (dev_5 (by omega) (by omega) (by omega) b6 (by omega)) (by decide) hB hO hX c6)
 have a3:=b7.below a1
 refine xb 8 3 a3 ?_
 refine xwm 2 ((sum:Int)+(↑((ownO l y data fuel).2.2.length):Int)) (↑(sum+((ownO l y data fuel).2.2.length)):Int) ?_
 refine xs 2 a3 [P0 b,V0 data,V0 fuel,V0 (↑(sum+((ownO l y data fuel).2.2.length)):Int)] fun i6 a5 f4=>?_
 refine xb 7 3 f4 ?_
 refine xid 3 ((↑(sum+((ownO l y data fuel).2.2.length)):Int)>(16384:Int)) (fun e5=>?_) (fun e5=>?_)
 ·have d9:=a5.blkT ((k2.below a0).below a1) a3 (by decide)
  refine xb 4 2 d9 ?_
  refine xc 0 (args:=#[V0 y.2.2,V0 2]) (Km y.2.2 2 _ (by omega)) ?_
  rintro _ i8 ⟨e2,f6,rfl,a9,a6⟩
  have k3:=(a5.blkT (((u9.blkT ((n3.blk.below a2).below n8.below) n8.blk (by decide)).below a0).below a1) a3 (by decide)).below a9
  refine xsv 0 k3 [V0 0,V0 0,V0 0,V0 0,S0] fun i5 d3 h1=>?_
  have g3:=n3.ge0 (blB (blB (Below.refl B w) hBw n1.below) hBw n2.below)
  have c4:=a6.only (Ze.of_upd (T:=[40]) d3 k3 (by decide)) (by decide)
  have hB:=d3.below (blB (a5.below (blB (blB (u9.below (blB (blB (blB (blB (blB (Below.refl B w) hBw n1.below) hBw n2.below) hBw n3.below) hBw a2) hBw n8.below) (Nat.le_trans hBw g8)) hBw a0) hBw a1) hB0) hBw a9) (Nat.le_trans hBw g3)
  have hO:=(Ze.upd_new (((((Ze.upd_new (((((show Ze [97] w _ from(Ze.of_below n1.below)).trans (Ze.of_below n2.below)).trans (Ze.of_below n3.below)).trans (Ze.of_below a2)).trans (Ze.of_below n8.below)) u9 g8).trans (Ze.of_below a0)).trans (Ze.of_below a1)).trans (Ze.of_upd a5 a3 (by decide))).trans (Ze.of_below a9)) d3 g3)
  have hX:=(Fr.upd_new (((((Fr.upd_new (((((show Fr [bx] w _ from(Fr.of_below n1.below)).trans (Fr.of_below n2.below)).trans (Fr.of_below n3.below)).trans (Fr.of_below a2)).trans (Fr.of_below n8.below)) u9 g8).trans (Fr.of_below a0)).trans (Fr.of_below a1)).trans (Fr.of_upd a5 (by simp))).trans (Fr.of_below a9)) d3 g3)
  exact xec 5 h1 (.tuple #[.agg #[V0 0,V0 0,V0 0,V0 0,S0],.iface e2 (f6)]) (Up (dev_6 (by omega) (by omega) (by omega) b6 (by omega) (by omega)) (by decide) hB hO hX c4)
 have e8:=a5.blkT (((u9.blkT ((a4.below a2).below n8.below) n8.blk (by decide)).below a0).below a1) a3 (by decide)
 refine xb 5 0 e8 ?_
 have b5:=a5.blkT c8 a3 (by decide)
 refine xb 1 1 b5 ?_
 refine xb 1 2 b5 ?_
 refine xb 1 3 b5 ?_
 have k3:=a5.blkT (((u9.blkT ((n3.blk.below a2).below n8.below) n8.blk (by decide)).below a0).below a1) a3 (by decide)
 refine xsv 2 k3 [V0 x.1,V0 (↑(Qa x.2.1 1):Int),V0 (↑(Qa x.2.1 2):Int),V0 (↑(Qa x.2.1 3):Int),.slice po ((ownO l y data fuel).2.2.length) co] fun h7 c2 g7=>?_
 have g3:=n3.ge0 (blB (blB (Below.refl B w) hBw n1.below) hBw n2.below)
 have c0:=c2.blkT f4 k3 (by decide)
 have hB:=c2.below (a5.below (blB (blB (u9.below (blB (blB (blB (blB (blB (Below.refl B w) hBw n1.below) hBw n2.below) hBw n3.below) hBw a2) hBw n8.below) (Nat.le_trans hBw g8)) hBw a0) hBw a1) hB0) (Nat.le_trans hBw g3)
 have hO:=(Ze.upd_new ((((Ze.upd_new (((((show Ze [97] w _ from(Ze.of_below n1.below)).trans (Ze.of_below n2.below)).trans (Ze.of_below n3.below)).trans (Ze.of_below a2)).trans (Ze.of_below n8.below)) u9 g8).trans (Ze.of_below a0)).trans (Ze.of_below a1)).trans (Ze.of_upd a5 a3 (by decide))) c2 g3)
 have hX:=(Fr.upd_new ((((Fr.upd_new (((((show Fr [bx] w _ from(Fr.of_below n1.below)).trans (Fr.of_below n2.below)).trans (Fr.of_below n3.below)).trans (Fr.of_below a2)).trans (Fr.of_below n8.below)) u9 g8).trans (Fr.of_below a0)).trans (Fr.of_below a1)).trans (Fr.of_upd a5 (by simp))) c2 g3)
 have c1:=c2.own2 (a5.own2 (Zh g0 f0) a3 (by decide)) k3 (by decide)
 exact xec 4 g7 (.tuple #[.agg #[V0 x.1,V0 (↑(Qa x.2.1 1):Int),V0 (↑(Qa x.2.1 2):Int),V0 (↑(Qa x.2.1 3):Int),.slice po ((ownO l y data fuel).2.2.length) co],.nilIface]) (.inr ⟨by rw[dev_7 (by omega) (by omega) (by omega) b6 (by omega) (by omega)],_,_,rfl,hB,hO,hX,c0,c1⟩)
end Go.Proofs.YtgphgaehfdfjjaaGreat
namespace Go.Proofs.YtgphgaehfdfjjaaGreat
set_option maxHeartbeats 8000000
set_option maxRecDepth 100000
open Go.RowKit
set_option linter.unusedVariables false
def SeqL{α:Type}(P:Program)(g:Nat)(lb:Array Value)(encs:α→Array Value)(Kp:World→World→Prop)(q:Nat→Prop)(R:List α)(w:World):Prop :=
 ∀ (l:Nat) (J Jx:Nat→World→Prop) (W:World),B0 w W →
  (∀ k A B row,J k A→A.grownBy B row→(∀ r,row=some r→q r)→J k B) →
  (∀ k x V,R[k]? = some x→J k V→YieldAt Fence.wide 2 P l (encs x) V fun e U =>
   (e=.returned (.bool true)∧J (k+1) U∧Kp V U)∨(e=.returned (.bool false)∧Jx k U)) →
  J 0 W →
  CallsIn Fence.wide 3 P g (#[.func (.yield l) #[] #[]]++lb) W fun e U=>(∃ v,e=.returned v)∧(J R.length U∨∃ k,k<R.length∧Jx k U)
def rdPost(B:Nat)(Kp:World→World→Prop)(I:Nat→World→Prop)(Ix:Code→Nat→World→Prop)(k:Nat)(W:World):Exit→Act→World→Prop
 | .normal,_,V=>KeepsFrom B W V∧Kp W V∧I (k+1) V
 | .ret,_,V=>KeepsFrom B W V∧Ix .ret k V
 | .exit id,_,V=>KeepsFrom B W V∧Ix (.exit id) k V
 | .goto _,_,_=>False
 | .panic _,_,_=>False
 | .outgrown,_,_=>False
structure RecAt(n:Nat)(r:Loop)(W:World):Prop where
 l:W.heap[n+1]? = some (.loop r)
 d:W.heap[n]? = some (.deferred (some []))
theorem RecAt.lt{n:Nat}{r:Loop}{W:World}(h:RecAt n r W):n+1<W.heap.size:=(Array.getElem?_eq_some_iff.1 h.l).1
theorem RecAt.kept{n:Nat}{r:Loop}{A B:World}{row:Option Nat}(h:RecAt n r A)(hg:A.grownBy B row)(hr:∀ k,row=some k→k<n):RecAt n r B :=
 ⟨(hg.block _ h.lt (fun e=>by have:=hr _ e.symm;omega)).trans h.l,(hg.block _ (by have:=h.lt;omega) (fun e=>by have:=hr _ e.symm;omega)).trans h.d⟩
theorem RecAt.from{n:Nat}{r:Loop}{A B:World}(h:RecAt n r A)(k:KeepsFrom n A B):RecAt n r B:=⟨k.same _ _ (by omega) h.l rfl,k.same _ _ (Nat.le_refl _) h.d rfl⟩
theorem RecAt.put{n:Nat}{r:Loop}{A:World}(h:RecAt n r A)(r':Loop):RecAt n r' (A.putObj (n+1) (.loop r')) :=
 ⟨World.putObj_heap_same h.lt,(World.putObj_heap_other (by omega)).trans h.d⟩
theorem Tb{α:Type}{P:Program}{g:Operand}{ps:Array Tmp}{assign body:Code}{Q:Exit→Act→World→Prop}{a:Act}{w:World}{gf:Nat}{lb:Array Value}
  (hg:a.eval g=.func (.func gf) #[] lb) (eg:∀ args w,(callFunc gf args).run P w=.ok (.enter gf args) w) {encs:α→Array Value} {R:List α} (p q:Nat→Prop) (hp:∀ b,p b→b<w.heap.size) (hq:∀ b,q b→b<w.heap.size)
  (hseq:SeqL P gf lb encs (Keeps p) q R w) (hps:∀ x,(encs x).size=ps.size)
  (I:Nat→World→Prop) (Ix:Code→Nat→World→Prop) (hI:∀ k A B row,I k A→A.grownBy B row→(∀ r,row=some r→q r∨w.heap.size≤r∧∃ o:Obj,A.heap[r]? = some o∧o.isCells=false)→I k B)
  (hIx:∀ c k A B row,Ix c k A→A.grownBy B row→(∀ r,row=some r→w.heap.size≤r∧∃ o:Obj,A.heap[r]? = some o∧o.isCells=false)→Ix c k B) (h0:I 0 w) (a₁:α→Act)
  (hassign:∀ (l k:Nat) (x:α) (W:World) (K:Act→World→Prop),R[k]? = some x→K (a₁ x) W →
   assign.wpIn (Fence.wide.inRound l) 2 P (Exit.then K (fun _ _ _=>False)) { tmps:=(ps.zip (encs x)).foldl (fun t (p,v)=>t.setIfInBounds p v) a.tmps,defers:=[] } W)
  (hbody:∀ (l k:Nat) (x:α) (W:World),w.heap.size≤l→R[k]? = some x→I k W→body.wpIn (Fence.wide.inRound l) 2 P (rdPost w.heap.size (Keeps p) I Ix k W) (a₁ x) W)
  (hdone:∀ (D:Nat) (W:World),w.heap.size≤D→I R.length W→W.heap[D]? = some (.deferred (some []))→Q .normal { a with defers:={ target:=.collected D,args:=#[] }::a.defers } W)
  (hstop:∀ (D:Nat) (c:Code) (k:Nat) (W:World),w.heap.size≤D→k<R.length→Ix c k W→W.heap[D]? = some (.deferred (some []))→c.wp P Q { a with defers:={ target:=.collected D,args:=#[] }::a.defers } W) :
  (Code.rangeFunc g ps assign body).wp P Q a w:=by
 refine(wpIn_wide (n:=4)).1 (wpIn_rangeFunc fun fn _=>?_)
 obtain⟨a2,a0⟩:∃ a2:LoopState→Option Code→Loop,a2=fun st pe=>{ state:=st,pending:=pe,fn,tmps:=a.tmps,params:=ps,assign,body,defers:=w.heap.size }:=⟨_,rfl⟩
 obtain⟨W1,b0⟩:∃ W1,(w.alloc (.deferred (some []))).alloc (.loop (a2 .ready none))=W1:=⟨_,rfl⟩
 have b7:RecAt w.heap.size (a2 .ready none) W1:=by
  rw[←b0]
  refine⟨?_,(Below.heap_alloc _ _ _ (by simp)).trans (World.alloc_heap_new w _)⟩
  have:=World.alloc_heap_new (w.alloc (.deferred (some []))) (.loop (a2 .ready none))
  rwa [World.size_alloc] at this
 have b5:I 0 W1:=by
  rw[←b0]
  exact hI _ _ _ none (hI _ _ _ none h0 (World.grownBy_alloc _ _ _) (fun _ e=>by cases e)) (World.grownBy_alloc _ _ _) (fun _ e=>by cases e)
 have b6:B0 w W1:=by
  rw[←b0];exact((Below.refl _ w).alloc (Nat.le_refl _) _).alloc (by simp) _
 refine⟨w.heap.size+1,[{ target:=.collected w.heap.size,args:=#[] }],W1,{ target:=.fn (.func gf) lb,args:=#[.func (.yield (w.heap.size+1)) #[] #[]] },W1,gf,
  #[.func (.yield (w.heap.size+1)) #[] #[]]++lb,W1,?_,?_,fun _ _=>trivial,?_,fun _=>by omega,?_⟩
 ·rw[←b0,a0];exact run_enterLoop_outer _ _ _ _ _
 ·simp only[resolve,hg]
  simp[go_sem]
 ·simp[invoke,go_sem,eg]
 refine(hseq (w.heap.size+1) (fun k W=>I k W∧RecAt w.heap.size (a2 .ready none) W) (fun k W=>∃ c,Ix c k W∧RecAt w.heap.size (a2 .done (some c)) W) W1 b6
  (fun k A B row hs b4 hr=>⟨hI _ _ _ _ hs.1 b4 (fun r e=>.inl (hr r e)),hs.2.kept b4 (fun r e=>hq r (hr r e))⟩) ?_ ⟨b5,b7⟩).mono ?_
 ·rintro k x W hx ⟨hi,hl⟩
  have hy:=run_yield (P:=P) (args:=encs x) hl.l (by rw[a0];exact hps x)
  rw[a0] at hy
  refine⟨fn,_,assign,body,hy,roundIn_of_wpIn trivial (hassign _ k x W _ hx ⟨_,run_beginRound hl.l (by rw[a0]),?_⟩)⟩
  obtain⟨Wb,a7⟩:∃ Wb,W.putObj (w.heap.size+1) (.loop { a2 .ready none with state:=.busy })=Wb:=⟨_,rfl⟩
  have c0:RecAt w.heap.size (a2 .busy none) Wb:=by
   have:=hl.put (a2 .busy none)
   rw[a0] at this a7
   rw[a7] at this
   rw[a0]
   exact this
  have b9:I k Wb:=by
   rw[←a7]
   exact hI _ _ _ _ hi (grownBy_putObj' W _ _) (fun r e=>.inr (by cases e;exact⟨by omega,_,hl.l,rfl⟩))
  have b8:Keeps p W Wb:=by
   rw[←a7]
   exact Ay hp W _ _ _ (by omega) hl.l rfl rfl
  rw[a7]
  refine wpIn_mono (hbody _ k x Wb (by omega) hx b9) ?_
  have b2:∀ (a1:Option Code) (V:World),KeepsFrom w.heap.size Wb V→RecAt w.heap.size (a2 .busy none) V∧∃ U,U=V.putObj (w.heap.size+1) (.loop (a2 (if a1.isNone then .ready else .done) a1)) ∧
    (Instr.endRound (w.heap.size+1) a1).run P V=.ok (.bool a1.isNone) U∧RecAt w.heap.size (a2 (if a1.isNone then .ready else .done) a1) U:=fun a1 V hk=>by
   have hv:=c0.from hk
   have he:=run_endRound (P:=P) a1 hv.l
   refine⟨hv,_,rfl,?_,hv.put _⟩
   rw[a0] at he ⊢
   exact he
  have b3:∀ {V:World} {r r':Loop} {k:Nat},RecAt w.heap.size r V→I k V→I k (V.putObj (w.heap.size+1) (.loop r')):=fun hv h=>hI _ _ _ _ h (grownBy_putObj' _ _ _) (fun r e=>.inr (by cases e;exact⟨by omega,_,hv.l,rfl⟩))
  have a9:∀ {V:World} {r r':Loop} {c:Code} {k:Nat},RecAt w.heap.size r V→Ix c k V→Ix c k (V.putObj (w.heap.size+1) (.loop r')):=fun hv h=>hIx _ _ _ _ _ h (grownBy_putObj' _ _ _) (fun r e=>by cases e;exact⟨by omega,_,hv.l,rfl⟩)
  rintro e a3 V a4
  cases e with
  | normal =>
   obtain⟨a6,b1,a5⟩:=a4
   obtain⟨hv,U,rfl,hr,a8⟩:=b2 none V a6
   exact⟨_,_,hr,.inl ⟨rfl,⟨b3 hv a5,a8⟩,(b8.trans b1).trans (Ay hp V _ _ _ (by omega) hv.l rfl rfl)⟩⟩
  | ret =>
   obtain⟨a6,a5⟩:=a4
   obtain⟨hv,U,rfl,hr,a8⟩:=b2 (some .ret) V a6
   exact⟨_,_,hr,.inr ⟨rfl,.ret,a9 hv a5,a8⟩⟩
  | exit id =>
   obtain⟨a6,a5⟩:=a4
   obtain⟨hv,U,rfl,hr,a8⟩:=b2 (some (.exit id)) V a6
   exact⟨_,_,hr,.inr ⟨rfl,.exit id,a9 hv a5,a8⟩⟩
  | goto t=>exact a4.elim
  | panic ch=>exact a4.elim
  | outgrown=>exact a4.elim
 ·rintro e W2 ⟨⟨v,rfl⟩,(⟨hi,hl⟩|⟨k,hk,c,hi,hl⟩)⟩
  ·have he:=run_endLoop (P:=P) hl.l (by rw[a0];simp)
   rw[show(a2 .ready none).pending=none by rw[a0]] at he
   exact⟨none,_,he,hdone _ _ (Nat.le_refl _) (hI _ _ _ _ hi (grownBy_putObj' _ _ _) (fun r e=>.inr (by cases e;exact⟨by omega,_,hl.l,rfl⟩))) ((World.putObj_heap_other (by omega)).trans hl.d)⟩
  ·have he:=run_endLoop (P:=P) hl.l (by rw[a0];simp)
   rw[show(a2 .done (some c)).pending=some c by rw[a0]] at he
   exact⟨some c,_,he,wpIn_wide.2 (hstop _ c k _ (Nat.le_refl _) hk (hIx _ _ _ _ _ hi (grownBy_putObj' _ _ _) (fun r e=>by cases e;exact⟨by omega,_,hl.l,rfl⟩)) ((World.putObj_heap_other (by omega)).trans hl.d))⟩
end Go.Proofs.YtgphgaehfdfjjaaGreat
namespace Go.Proofs.YtgphgaehfdfjjaaGreat
set_option maxHeartbeats 8000000
set_option maxRecDepth 100000
open Go.RowKit Go.Extern.Stop Go.Stop Go.Extern
set_option linter.unusedVariables false
attribute [local irreducible] wpList wpAnyH Code.wp Oper.wp Go
abbrev Rnd:=Option Nat×Option Nat
def Xe(i j:Nat)(a b:List Ent):List Rnd :=
 match a,b with
 | [],[]=>[]
 | [],_::b=>(none,some j)::Xe i (j+1) [] b
 | _::a,[]=>(some i,none)::Xe (i+1) j a []
 | x::a,y::b =>
  if x.1=y.1 then(some i,some j)::Xe (i+1) (j+1) a b
  else if x.1<y.1 then(some i,none)::Xe (i+1) j a (y::b)
  else(none,some j)::Xe i (j+1) (x::a) b
termination_by a.length+b.length
theorem Bm(i j:Nat):Xe i j [] []=[]:=by rw[Xe]
theorem Bq(i j:Nat)(y:Ent)(b:List Ent):Xe i j [] (y::b)=(none,some j)::Xe i (j+1) [] b:=by rw[Xe]
theorem Cm(i j:Nat)(x:Ent)(a:List Ent):Xe i j (x::a) []=(some i,none)::Xe (i+1) j a []:=by rw[Xe]
theorem Co{i j:Nat}{x y:Ent}{a b:List Ent}(h:x.1=y.1):Xe i j (x::a) (y::b)=(some i,some j)::Xe (i+1) (j+1) a b:=by rw[Xe,if_pos h]
theorem Ct{i j:Nat}{x y:Ent}{a b:List Ent}(h:x.1<y.1):Xe i j (x::a) (y::b)=(some i,none)::Xe (i+1) j a (y::b):=by rw[Xe,if_neg (by omega),if_pos h]
theorem Ba{i j:Nat}{x y:Ent}{a b:List Ent}(h:y.1<x.1):Xe i j (x::a) (y::b)=(none,some j)::Xe i (j+1) (x::a) b:=by rw[Xe,if_neg (by omega),if_neg (by omega)]
def Tt(r:Rnd):Bool:=r.1.isSome&&r.2.isSome
theorem Lv:∀ (a b:List Ent) (i j:Nat),(Xe i j a b).all Tt=true→Ke a b=0∧Xe i j a b=(List.range a.length).map fun k=>(some (i+k),some (j+k))
 | [],[],i,j,_=>⟨rfl,by rw[Bm];rfl⟩
 | [],y::b,i,j,h=>by rw[Bq] at h;simp[Tt] at h
 | x::a,[],i,j,h=>by rw[Cm] at h;simp[Tt] at h
 | x::a,y::b,i,j,h=>by
  by_cases e:x.1=y.1
  ·rw[Co e] at h ⊢
   rw[List.all_cons] at h
   obtain⟨h1,h2⟩:=Lv a b (i+1) (j+1) (by simpa [Tt] using h)
   refine⟨?_,?_⟩
   ·show(if x.1=y.1 then Ke a b else _)=0
    rw[if_pos e,h1]
   ·rw[h2,List.length_cons,List.range_succ_eq_map,List.map_cons,List.map_map]
    congr 1
    apply List.map_congr_left
    intro k _
    simp only[Function.comp,Nat.succ_eq_add_one]
    congr 2<;>omega
  ·by_cases q:x.1<y.1
   ·rw[Ct q] at h;simp[Tt] at h
   ·rw[Ba (by omega)] at h;simp[Tt] at h
theorem Hx:∀ (a b:List Ent) (i j k:Nat) (r:Rnd),((Xe i j a b).take k).all Tt=true→(Xe i j a b)[k]? = some r→Tt r=false→Ke a b=(if r.1=none then 1 else 2)
 | [],[],i,j,k,r,_,h,_=>by rw[Bm] at h;simp at h
 | [],y::b,i,j,k,r,hp,h,hr=>by
  rw[Bq] at hp h
  cases k with
  | zero=>simp at h;subst h;rfl
  | succ k=>simp[Tt] at hp
 | x::a,[],i,j,k,r,hp,h,hr=>by
  rw[Cm] at hp h
  cases k with
  | zero=>simp at h;subst h;rfl
  | succ k=>simp[Tt] at hp
 | x::a,y::b,i,j,k,r,hp,h,hr=>by
  by_cases e:x.1=y.1
  ·rw[Co e] at hp h
   cases k with
   | zero=>simp at h;subst h;simp[Tt] at hr
   | succ k =>
    have ih:=Hx a b (i+1) (j+1) k r (by simpa [Tt] using hp) (by simpa using h) hr
    show(if x.1=y.1 then Ke a b else _)=_
    rw[if_pos e,ih]
  ·by_cases q:x.1<y.1
   ·rw[Ct q] at hp h
    cases k with
    | zero =>
     simp at h;subst h
     show(if x.1=y.1 then Ke a b else if x.1<y.1 then 2 else 1)=2
     rw[if_neg e,if_pos q]
    | succ k=>simp[Tt] at hp
   ·rw[Ba (by omega)] at hp h
    cases k with
    | zero =>
     simp at h;subst h
     show(if x.1=y.1 then Ke a b else if x.1<y.1 then 2 else 1)=1
     rw[if_neg e,if_neg q]
    | succ k=>simp[Tt] at hp
end Go.Proofs.YtgphgaehfdfjjaaGreat
