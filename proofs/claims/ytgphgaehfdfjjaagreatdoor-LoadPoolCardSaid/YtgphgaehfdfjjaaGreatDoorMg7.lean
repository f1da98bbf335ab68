/- build.level at entries that are right, in an allocator with room. -/
import Derived.Laws.StructEq
import Derived.Test.YtgphgaehfdfjjaaGreatDoorMg6
namespace Go.Proofs.YtgphgaehfdfjjaaGreatDoor
set_option maxHeartbeats 8000000
set_option maxRecDepth 100000
open Go.RowKit Go.Extern.Stop Go.Stop Go.Extern
set_option linter.unusedVariables false
attribute [local irreducible] wpList wpAnyH Code.wp Oper.wp Go
def LevelPost(B ba b g nn cc:Nat)(pa:O0)(ca f N k0:Nat)(bs:Bl)(t:Int)(leaf:Bool)(m v:Nat)(l:List Ent)(w:World)(e:Ending)(w':World):Prop :=
 ∃ p c,e=.returned (.tuple #[.slice p (ovN l.length m) c,.nilIface])∧Below B w w'∧Zf [125,5] w w'∧Fr [ba,g] w w'∧Al B ba b g nn cc pa ca f N (k0+ovN l.length m) (Pb t leaf m v l (f+k0) bs (ovN l.length m)) w'∧w'.ownsRow w.heap.size 100 3 (.slice p (ovN l.length m) c) (ovN l.length m) ((upE l m (f+k0) (ovN l.length m)).flatMap Ji)
theorem Zb3(B ba b g nn cc:Nat)(pa:O0)(ca f N k0:Nat)(bs:Bl)(t:Int)(leaf:Bool)(m v:Nat)(a:O0)(c:Nat)(l:List Ent)(w:World)(hC:AlC B ba nn cc ca f N)(hA:Al B ba b g nn cc pa ca f N k0 bs w)(ht1:1≤t)(ht2:t≤5)(hm:Kj t leaf=m)(hv:Uh t leaf=v)(E:EntsOk v l)(hl:leaf=false→1≤l.length)(hn:l.length≤32768)(hf1:1≤f)(hk:k0+ovN l.length m≤N)(hin:∀ W,Below B w W→Zf [125,5] w W→Sts Ji W (.slice a l.length c) l)(hBw:B≤w.heap.size) :
 C0 53 #[P0 ba,V0 t,.bool leaf,.slice a l.length c] w (LevelPost B ba b g nn cc pa ca f N k0 bs t leaf m v l w):=by
 have o0:=Qb t leaf
 rw[hm] at o0
 have o8:=hC.hf
 have o4:=hC.hn
 refine zin 96 Tryz.func53 ?_
 refine xr 18 (args:=#[V0 t,.bool leaf]) (Eo t leaf m hm ht1 ht2 _) fun W1 h9=>?_
 refine xc 0 (args:=#[V0 (l.length:Int),V0 (m:Int)]) (Zgz l.length m _ hn (by omega) (by omega)) ?_
 rintro _ W2 ⟨_,rfl,i5,ps,cs,rfl,e6⟩
 have n7:=(blB (Below.refl B w) hBw h9).size
 have g4:=Zg e6 n7
 have l0:=(hA.below h9).below i5
 have hB:=blB (blB (Below.refl B w) hBw h9) hBw i5
 have hX:=(show Fr [ba,g] w _ from(Fr.of_below h9)).trans (Fr.of_below i5)
 have hO:=(show Zf [125,5] w _ from(Zf.of_below h9)).trans (Zf.of_below i5)
 refine zl 5 96 (fun zm j9 V=>∃ (i:Nat) (a2:O0) (c2:Nat) (l2:List Ent) (p4:O0) (c4:Nat),j9=[(0,P0 ba),(1,V0 t),(2,.bool leaf),(3,.slice a2 l2.length c2),(10,.slice p4 i c4),(26,.slice ps (ovN l.length m) cs),(27,V0 (↑(ovN l.length m):Int)),(28,V0 (i:Int))]∧zm=ovN l.length m-((i:Int)).toNat∧Below B w V∧Fr [ba,g] w V∧Zf [125,5] w V∧V.ownsRow w.heap.size 3 1 (.slice ps (ovN l.length m) cs) (ovN l.length m) ((sizL l.length m).map nv)∧V.ownsRow w.heap.size 100 3 (.slice p4 i c4) i ((upE l m (f+k0) i).flatMap Ji)∧Al B ba b g nn cc pa ca f N (k0+i) (Pb t leaf m v l (f+k0) bs i) V∧(∀ W,Below B w W→Zf [125,5] w W→Sts Ji W (.slice a2 l2.length c2) l2)∧i≤ovN l.length m∧l2=l.drop (i*m)) ⟨0,a,c,l,none,0,rfl,rfl,hB,hX,hO,g4,World.ownsRow_nil _ _ _ _,l0,?_,Nat.zero_le _,by simp⟩ ?_
 ·exact hin
 rintro _ _ W3 ⟨i,a2,c2,l2,p4,c4,rfl,rfl,e4,f5,d7,e6,m0,hA,i7,hi,h4⟩ J3 l7 r3
 have n1:=Sl.cap (i7 _ e4 d7)
 have r4:i<ovN l.length m→i*m≤l.length:=Zas (by omega)
 have j2:l2.length=l.length-i*m:=by rw[h4];simp
 have e7:Qe l.length m i≤l2.length:=by rw[j2];unfold Qe;omega
 refine xid 6 ((i:Int)<(↑(ovN l.length m):Int)) (fun n4=>?_) (fun n4=>?_)
 ·refine xx 6 _ (ovN l.length m) i 1 (Zdy (Zh e6) (k:=i) (by omega)).1 ?_
  refine xl 0 ((Zdy (Zh e6) (k:=i) (by omega)).2) ?_
  have i2:=e4
  have d3:=d7
  have d4:=f5
  refine xa 8 [V0 0,.bool false,S0,S0] 38 fun b6 W6 n6=>?_
  refine xsv 0 n6.blk [V0 t,.bool leaf,S0,S0] fun W7 u7 k7=>?_
  have g6:=n6.ge (B3 W3)
  refine xsH 7 (fun _ _ _ _ zo zx zy V=>Ys (k:=(Qe l.length m i)) (b:=a2) (n:=l2.length) (c:=c2) (i:=(↑(Qe l.length m i):Int)) (ki:=.i64) zo zx zy rfl (by omega) Tryz.underlying101 (by kernel_rfl) V) ?_
  have hB:=u7.below n6.below g6
  refine zl 5 96 (fun zm j9 V=>∃ (j:Nat) (kp:O0) (kc:Nat) (vp:O0) (vc:Nat),j9=[(0,P0 ba),(1,V0 t),(2,.bool leaf),(3,.slice a2 l2.length c2),(10,.slice p4 i c4),(12,V0 (↑(Qe l.length m i):Int)),(13,P0 b6),(26,.slice ps (ovN l.length m) cs),(27,V0 (↑(ovN l.length m):Int)),(28,V0 (i:Int)),(37,.slice a2 (Qe l.length m i) c2),(38,V0 (↑(Qe l.length m i):Int)),(39,V0 (j:Int))]∧zm=Qe l.length m i-((j:Int)).toNat∧B0 W3 V∧Blk V b6 ([V0 t,.bool leaf,.slice kp j kc,.slice vp j vc]) 38∧V.ownsRow W3.heap.size 3 1 (.slice kp j kc) j (((Vc l2).take j).map V0)∧V.ownsRow W3.heap.size 9 1 (.slice vp j vc) j (((Jh l2).take j).map sv)∧j≤Qe l.length m i) ⟨0,none,0,none,0,rfl,rfl,hB,k7,World.ownsRow_nil _ _ _ _,World.ownsRow_nil _ _ _ _,Nat.zero_le _⟩ ?_
  rintro _ _ W8 ⟨j,kp,kc,vp,vc,rfl,rfl,c8,b5,hK,hV,hj⟩ J8 n0 r8
  refine xid 6 ((j:Int)<(↑(Qe l.length m i):Int)) (fun m7=>?_) (fun m7=>?_)
  ·have b2:=i7 _ i2 d3
   refine xx 6 _ (Qe l.length m i) j 3 (Sts.cell b2 Xo Zn (k:=j) (i:=0) (by omega) rfl).1 ?_
   refine xlv 0 (Sts.rp (k:=j) (b2.below c8) Xo Zn (by omega) (by decide)) ?_
   refine xa 0 [V0 0,.string ⟨#[]⟩,V0 0] 100 fun p5 o5 c0=>?_
   have n3:=c0.ge c8
   refine xsv 0 c0.blk [V0 ((l2.getD j Zn).1),.string ⟨((l2.getD j Zn).2.1).toArray⟩,V0 ((l2.getD j Zn).2.2)] fun r5 j0 l9=>?_
   have b1:=j0.blkT (b5.below c0.below) c0.blk (by decide)
   refine xb 5 2 b1 ?_
   refine xb 1 0 l9 ?_
   refine xbs 0 1 [V0 ((l2.getD j Zn).1)] 3 fun o3 p1 d1=>?_
   have h7:=j0.below (bln c8 c0.below) n3
   have q1:=d1.ge h7
   have h3:=j0.own2 (Zb hK c0.below) c0.blk (by decide)
   have j7:=Zw h3 d1
   have c5:=Zb h3 d1.below
   have g2:=bln h7 d1.below
   refine xbi 0 fun _ _ _ _ zJ zQ zo zx zy zK=>Zu (m:=1) (news:=[V0 ((l2.getD j Zn).1)]) (V0 0) 1 8 (j+1) (((Vc l2).take (j+1)).map V0) zo Tryz.underlying28 (by kernel_rfl) rfl (by decide) zx c5 zy (d1.blk.sl 1 1 (by decide) (by decide)) rfl (by simp[Value.oneCell']) (by unfold maxLen;omega) (by omega) g2.size (by rfl) ((keys_take (by omega)).symm) fun g1 g3 q9 m2 d9 k8=>?_
   refine zK _ _ ?_
   have a1:=(b1.below d1.below).grown d9 c5 (by decide)
   refine xs 1 a1 [V0 t,.bool leaf,.slice g1 (j+1) g3,.slice vp j vc] fun p0 i4 l8=>?_
   refine xb 4 3 l8 ?_
   have f2:=i4.blkT ((l9.below d1.below).grown d9 c5 (by decide)) a1 (by decide)
   refine xb 1 1 f2 ?_
   refine xbs 0 1 [.string ⟨((l2.getD j Zn).2.1).toArray⟩] 9 fun r1 q5 e1=>?_
   have f7:=i4.below (g2.trans k8) g6
   have q0:=e1.ge f7
   have g8:=i4.own2 (Zj (Zb (j0.own2 (Zb hV c0.below) c0.blk (by decide)) d1.below) d9 c5 (by decide)) a1 (by decide)
   have l4:=Zw g8 e1
   have e0:=Zb g8 e1.below
   have i1:=bln f7 e1.below
   refine xbi 0 fun _ _ _ _ zJ zQ zo zx zy zK=>Zu (m:=1) (news:=[.string ⟨((l2.getD j Zn).2.1).toArray⟩]) (.string ⟨#[]⟩) 1 16 (j+1) (((Jh l2).take (j+1)).map sv) zo Tryz.underlying36 (by kernel_rfl) rfl (by decide) zx e0 zy (e1.blk.sl 1 1 (by decide) (by decide)) rfl (by simp[Value.oneCell']) (by unfold maxLen;omega) (by omega) i1.size (by rfl) ((vals_take (by omega)).symm) fun j6 k3 p8 m8 f9 j3=>?_
   refine zK _ _ ?_
   have b3:=(l8.below e1.below).grown f9 e0 (by decide)
   refine xs 1 b3 [V0 t,.bool leaf,.slice g1 (j+1) g3,.slice j6 (j+1) k3] fun q3 j4 m3=>?_
   refine xwm 4 ((j:Int)+1) (↑(j+1):Int) ?_
   have k2:=j4.below (i1.trans j3) g6
   have f4:=j4.own2 (Zj (Zb (i4.own2 m2 a1 (by decide)) e1.below) f9 e0 (by decide)) b3 (by decide)
   have f6:=j4.own2 m8 b3 (by decide)
   exact ze 2 (n0 _ _ _ ⟨j+1,_,_,_,_,rfl,rfl,k2,m3,f4,f6,by omega⟩ (by omega))
  refine xsL 9 (fun _ _ _ _ zo zx zy V=>Yu (k:=(Qe l.length m i)) (b:=a2) (n:=l2.length) (c:=c2) (i:=(↑(Qe l.length m i):Int)) (ki:=.i64) 3 zo zx zy rfl (by omega) Tryz.underlying101 (by kernel_rfl) V) ?_
  refine xlv 5 b5.rp ?_
  have a5:B0 W3 W8:=c8
  have g7:w.heap.size≤W3.heap.size:=i2.size
  have f3:Qe l.length m i=j:=by omega
  have m4:(Vc l2).take j=Vc (Xe l m i):=by rw[h4];exact Zgp f3
  have n9:(Jh l2).take j=Jh (Xe l m i):=by rw[h4];exact Zg2 f3
  have i3:(Xe l m i).length=j:=by rw[Js,f3]
  have e2:=Zg hK g7
  rw[m4] at e2
  have h5:=Zg hV g7
  rw[n9] at h5
  have hN:=Pa E ht1 ht2 hm hv hl (show i<ovN l.length m by omega)
  have h0:=Dp hN
  rw[i3] at hN
  have m9:Gh m v (Jj t leaf j m v) (Vc (Xe l m i)) (Jh (Xe l m i)) j=nodB t leaf m v (Xe l m i):=by rw[←i3];rfl
  refine xc 0 (args:=#[.agg #[V0 t,.bool leaf,.slice kp j kc,.slice vp j vc]]) (node_Put t leaf j m v (Vc (Xe l m i)) (Jh (Xe l m i)) kp vp kc vc _ hN (Zh e2) (Zh h5)) ?_
  rintro _ p9 ⟨_,rfl,a4,p6,c6,rfl,h6⟩
  have k6:=(blB i2 hBw a5).size
  have h8:=Zg h6 k6
  rw[m9] at h8
  have l6:=(hA.below a5).below a4
  have hO:=(d3.trans (Zf.of_below a5)).trans (Zf.of_below a4)
  have hB:=blB (blB i2 hBw a5) hBw a4
  refine xc 21 (args:=#[P0 ba,V0 2,.slice p6 244 c6]) (Zf5 B ba b g nn cc pa ca f N (k0+i) (Pb t leaf m v l (f+k0) bs i) 2 p6 c6 (nodB t leaf m v (Xe l m i)) (f+k0+i) 244 _ (Nat.add_assoc _ _ _).symm h0 hC l6 (by omega) (by decide) (by decide) (fun W _ hO=>Ko (Zh (Zl h8 hO (by decide))) h0) (by decide) (Nat.le_trans hBw hB.size)) ?_
  rintro _ q4 ⟨rfl,k4,a9,f0,hA⟩
  refine xr 20 (args:=#[V0 (↑(f+k0+i):Int)]) (Ts ((f+k0+i:Nat):Int) (by omega) (by omega) _) fun r0 a0=>?_
  refine xa 2 [V0 0,.string ⟨#[]⟩,V0 0] 100 fun r2 q6 a3=>?_
  have e3:=blB (hB.trans k4) hBw a0
  have c7:=a3.ge0 e3
  have b4:=Zb (Zl (Zb (Zb m0 a5) a4) a9 (by decide)) a0
  have a6:=Zw b4 a3
  refine xsv 0 a3.blk [V0 0,.string ⟨(leB (↑(f+k0+i):Int) 4).toArray⟩,V0 (↑(f+k0+i):Int)] fun p7 b0 e9=>?_
  refine xid 9 ((↑(Qe l.length m i):Int)>(0:Int)) (fun k1=>?_) (fun k1=>?_)
  ·have g0:((Vc (Xe l m i))).getD 0 0=((Xe l m i).getD 0 Zn).1:=chunk_key f3 (by omega)
   have c3:=b0.blkT ((((b5.below a4).only a9 (by decide)).below a0).below a3.below) a3.blk (by decide)
   refine xb 2 2 c3 ?_
   have f8:=b0.own2 (Zb (Zb (Zl (Zb e2 a4) a9 (by decide)) a0) a3.below) a3.blk (by decide)
   refine xx 0 _ j 0 1 (IntsN.elem (Zh f8) (by rw[Wm,i3]) (k:=0) (by omega)).1 ?_
   refine xl 0 ((IntsN.elem (Zh f8) (by rw[Wm,i3]) (k:=0) (by omega)).2) ?_
   refine xs 1 e9 [V0 ((Vc (Xe l m i)).getD 0 0),.string ⟨(leB (↑(f+k0+i):Int) 4).toArray⟩,V0 (↑(f+k0+i):Int)] fun o7 e5 m1=>?_
   refine xlv 4 m1.rp ?_
   refine xbs 0 1 [V0 ((Vc (Xe l m i)).getD 0 0),.string ⟨(leB (↑(f+k0+i):Int) 4).toArray⟩,V0 (↑(f+k0+i):Int)] 100 fun o6 q8 b8=>?_
   have i9:=b8.ne m1
   have f1:=e5.below (b0.below (blB e3 hBw a3.below) (Nat.le_trans hBw c7)) (Nat.le_trans hBw c7)
   have o9:=b8.ge0 f1
   have d2:=e5.own3 (b0.own3 (Zb b4 a3.below) a6) a6
   have i8:=Zw d2 b8
   have a7:=Zb d2 b8.below
   have e8:=blB f1 hBw b8.below
   refine xbi 0 fun _ _ _ _ zJ zQ zo zx zy zK=>Zu (m:=1) (news:=[V0 ((Vc (Xe l m i)).getD 0 0),.string ⟨(leB (↑(f+k0+i):Int) 4).toArray⟩,V0 (↑(f+k0+i):Int)]) (.agg #[V0 0,.string ⟨#[]⟩,V0 0]) 3 32 (i+1) ((upE l m (f+k0) (i+1)).flatMap Ji) zo Tryz.underlying101 (by kernel_rfl) rfl (by decide) zx a7 zy (b8.blk.sl 1 1 (by decide) (by decide)) rfl (by simp[Value.oneCell']) (by unfold maxLen;omega) (by omega) e8.size (by rfl) (up_row (by first|exact g0|exact c9)) fun m5 n8 p3 m6 c1 k5=>?_
   refine zK _ _ ?_
   refine xwm 5 ((i:Int)+1) (↑(i+1):Int) ?_
   refine xv1 2 3 (show(.slice (Qz a2 (Qe l.length m i) c2 3) (l2.length-(Qe l.length m i)) (c2-(Qe l.length m i)):Value)=.slice (Qz a2 (Qe l.length m i) c2 3) ((l2.drop (Qe l.length m i)).length) (c2-Qe l.length m i) from by rw[List.length_drop]) ?_
   have l3:=(((((hA.below a0).below a3.below).only (Zf.of_upd (T:=[100]) b0 a3.blk (by decide)) (by decide)).only (Zf.of_upd (T:=[100]) e5 e9 (by decide)) (by decide)).below b8.below).only (Zf.of_grown (T:=[100]) c1 a7 (by decide)) (by decide)
   have d8:l2.drop (Qe l.length m i)=l.drop ((i+1)*m):=by
    rw[h4,List.drop_drop,Nat.add_mul,Nat.one_mul]
    unfold Qe
    rcases Nat.le_total m (l.length-i*m) with q|q
    ·rw[Nat.min_eq_left q]
    ·rw[Nat.min_eq_right q,List.drop_eq_nil_of_le (by omega),List.drop_eq_nil_of_le (by omega)]
   have j5:=e8.trans (k5.mono hBw)
   have hX:=(Fr.grown_new ((Fr.upd_new (Fr.upd_new (((((d4.trans (Fr.of_below a5)).trans (Fr.of_below a4)).trans (f0.mono (by simp))).trans (Fr.of_below a0)).trans (Fr.of_below a3.below)) b0 c7) e5 c7).trans (Fr.of_below b8.below)) c1 a7)
   have j8:=(Zf.grown_new ((Zf.upd_new (Zf.upd_new (((hO.trans a9).trans (Zf.of_below a0)).trans (Zf.of_below a3.below)) b0 c7) e5 c7).trans (Zf.of_below b8.below)) c1 a7)
   have g9:=Zj (Zb (e5.own2 (b0.own2 (Zb (Zb (Zl (Zb (Zb e6 a5) a4) a9 (by decide)) a0) a3.below) a3.blk (by decide)) e9 (by decide)) b8.below) c1 a7 (by decide)
   exact ze 0 (l7 _ _ _ ⟨i+1,_,_,(l2.drop (Qe l.length m i)),_,_,rfl,rfl,j5,hX,j8,g9,m6,l3,fun W h1 h2=>Sts.cut Xo (i7 W h1 h2) _ e7,by omega,d8⟩ (by omega))
  have c9:(0:Int)=((Xe l m i).getD 0 Zn).1:=Zc9 f3 (by omega)
  refine xlv 4 e9.rp ?_
  refine xbs 0 1 [V0 0,.string ⟨(leB (↑(f+k0+i):Int) 4).toArray⟩,V0 (↑(f+k0+i):Int)] 100 fun p2 o2 b7=>?_
  have i6:=b7.ne e9
  have d5:=b0.below (blB e3 hBw a3.below) (Nat.le_trans hBw c7)
  have q2:=b7.ge0 d5
  have d0:=b0.own3 (Zb b4 a3.below) a6
  have j1:=Zw d0 b7
  have a8:=Zb d0 b7.below
  have d6:=blB d5 hBw b7.below
  refine xbi 0 fun _ _ _ _ zJ zQ zo zx zy zK=>Zu (m:=1) (news:=[V0 0,.string ⟨(leB (↑(f+k0+i):Int) 4).toArray⟩,V0 (↑(f+k0+i):Int)]) (.agg #[V0 0,.string ⟨#[]⟩,V0 0]) 3 32 (i+1) ((upE l m (f+k0) (i+1)).flatMap Ji) zo Tryz.underlying101 (by kernel_rfl) rfl (by decide) zx a8 zy (b7.blk.sl 1 1 (by decide) (by decide)) rfl (by simp[Value.oneCell']) (by unfold maxLen;omega) (by omega) d6.size (by rfl) (up_row (by first|exact g0|exact c9)) fun n5 n2 q7 o1 b9 k9=>?_
  refine zK _ _ ?_
  refine xwm 5 ((i:Int)+1) (↑(i+1):Int) ?_
  refine xv1 2 3 (show(.slice (Qz a2 (Qe l.length m i) c2 3) (l2.length-(Qe l.length m i)) (c2-(Qe l.length m i)):Value)=.slice (Qz a2 (Qe l.length m i) c2 3) ((l2.drop (Qe l.length m i)).length) (c2-Qe l.length m i) from by rw[List.length_drop]) ?_
  have l1:=((((hA.below a0).below a3.below).only (Zf.of_upd (T:=[100]) b0 a3.blk (by decide)) (by decide)).below b7.below).only (Zf.of_grown (T:=[100]) b9 a8 (by decide)) (by decide)
  have d8:l2.drop (Qe l.length m i)=l.drop ((i+1)*m):=by
   rw[h4,List.drop_drop,Nat.add_mul,Nat.one_mul]
   unfold Qe
   rcases Nat.le_total m (l.length-i*m) with q|q
   ·rw[Nat.min_eq_left q]
   ·rw[Nat.min_eq_right q,List.drop_eq_nil_of_le (by omega),List.drop_eq_nil_of_le (by omega)]
  have g5:=d6.trans (k9.mono hBw)
  have hX:=(Fr.grown_new ((Fr.upd_new (((((d4.trans (Fr.of_below a5)).trans (Fr.of_below a4)).trans (f0.mono (by simp))).trans (Fr.of_below a0)).trans (Fr.of_below a3.below)) b0 c7).trans (Fr.of_below b7.below)) b9 a8)
  have l5:=(Zf.grown_new ((Zf.upd_new (((hO.trans a9).trans (Zf.of_below a0)).trans (Zf.of_below a3.below)) b0 c7).trans (Zf.of_below b7.below)) b9 a8)
  have i0:=Zj (Zb (b0.own2 (Zb (Zb (Zl (Zb (Zb e6 a5) a4) a9 (by decide)) a0) a3.below) a3.blk (by decide)) b7.below) b9 a8 (by decide)
  exact ze 0 (l7 _ _ _ ⟨i+1,_,_,(l2.drop (Qe l.length m i)),_,_,rfl,rfl,g5,hX,l5,i0,o1,l1,fun W h1 h2=>Sts.cut Xo (i7 W h1 h2) _ e7,by omega,d8⟩ (by omega))
 refine xe 13 (.tuple #[.slice p4 i c4,.nilIface]) ?_
 obtain rfl:i=ovN l.length m:=by omega
 exact⟨_,_,rfl,e4,d7,f5,hA,m0⟩
theorem only_a3{w w':World}(h:Zf [125,5] w w'):Zf [125,5,30] w w':=h.mono fun t ht=>by simp at ht ⊢;exact⟨ht.1,ht.2.1⟩
def Tree1Post(B ba b g nn cc:Nat)(pa:O0)(ca f N k0:Nat)(bs:Bl)(t:Int)(leaf:Bool)(m v:Nat)(l:List Ent)(b8:Nat)(w:World)(e:Ending)(w':World):Prop :=
 ∃ p c,e=.returned (.slice p (ovN l.length m) c)∧Below B w w'∧Zf [125,5,30] w w'∧Fr [ba,g,b8] w w'∧Blk w' b8 [.nilIface] 30∧Al B ba b g nn cc pa ca f N (k0+ovN l.length m) (Pb t leaf m v l (f+k0) bs (ovN l.length m)) w'∧w'.ownsRow w.heap.size 100 3 (.slice p (ovN l.length m) c) (ovN l.length m) ((upE l m (f+k0) (ovN l.length m)).flatMap Ji)
theorem Eg(B ba b g nn cc:Nat)(pa:O0)(ca f N k0:Nat)(bs:Bl)(t:Int)(leaf:Bool)(m v:Nat)(a:O0)(c:Nat)(l:List Ent)(b3 b4 b8:Nat)(w:World)(k3:Blk w b3 [P0 ba] 61)(k4:Blk w b4 [V0 t] 3)(k8:Blk w b8 [.nilIface] 30)(h38:b3≠b8)(h48:b4≠b8)(hB8:B≤b8)(hC:AlC B ba nn cc ca f N)(hA:Al B ba b g nn cc pa ca f N k0 bs w)(ht1:1≤t)(ht2:t≤5)(hm:Kj t leaf=m)(hv:Uh t leaf=v)(E:EntsOk v l)(hl:leaf=false→1≤l.length)(hn:l.length≤32768)(hf1:1≤f)(hk:k0+ovN l.length m≤N)(hin:∀ W,Below B w W→Zf [125,5,30] w W→Sts Ji W (.slice a l.length c) l)(hBw:B≤w.heap.size) :
 C0 52 #[.bool leaf,.slice a l.length c,P0 b3,P0 b4,P0 b8] w (Tree1Post B ba b g nn cc pa ca f N k0 bs t leaf m v l b8 w):=by
 refine zin 20 Tryz.func52 ?_
 refine xb 7 0 k3 ?_
 refine xb 0 0 k4 ?_
 refine xc 2 (args:=#[P0 ba,V0 t,.bool leaf,.slice a l.length c]) (Zb3 B ba b g nn cc pa ca f N k0 bs t leaf m v a c l _ hC hA ht1 ht2 hm hv E hl hn hf1 hk (fun W h1 h2=>hin W ((Below.refl B _).trans h1) ((Zf.refl _ _).trans (only_a3 h2))) (Nat.le_trans hBw (Below.refl B _).size)) ?_
 rintro _ W1 ⟨p4,c4,rfl,a4,a3,a5,hA,a6⟩
 have a7:=Nat.le_refl w.heap.size
 have a0:=k8.only a3 (by decide)
 refine xs 10 a0 [.nilIface] fun W2 u2 k2=>?_
 have hB:=u2.below a4 hB8
 have hO:=(show Zf [125,5,30] w _ from(only_a3 a3)).trans (Zf.of_upd u2 a0 (by decide))
 have hX:=(show Fr [ba,g,b8] w _ from(a5.mono (by simp))).trans (Fr.of_upd u2 (by simp))
 have a2:=hA.only (Zf.of_upd (T:=[30]) u2 a0 (by decide)) (by decide)
 have a1:=u2.own2 (Zg a6 a7) a0 (by decide)
 exact xe 9 (.slice p4 (ovN l.length m) c4) ⟨_,_,rfl,hB,hO,hX,k2,a2,a1⟩
def Ze8(B ba b g nn cc:Nat)(pa:O0)(ca f N k0:Nat)(bs:Bl)(t:Int)(l:List Ent)(w:World)(e:Ending)(w':World):Prop :=
 e=.returned (.tuple #[V0 (Yy t l (f+k0) bs).1,.nilIface])∧Below B w w'∧Zf [125,5,30] w w'∧Fr [ba,g] w w'∧Al B ba b g nn cc pa ca f N (k0+Gg t l.length) (Yy t l (f+k0) bs).2 w'
theorem Zgg(B ba b g nn cc:Nat)(pa:O0)(ca f N k0:Nat)(bs:Bl)(t:Int)(a:O0)(c:Nat)(l:List Ent)(w:World)(hC:AlC B ba nn cc ca f N)(hA:Al B ba b g nn cc pa ca f N k0 bs w)(ht1:1≤t)(ht2:t≤5)(E:EntsOk (Uh t true) l)(hn:l.length≤32768)(hf1:1≤f)(hkN:k0≤N)(hk:k0+Gg t l.length≤N)(hin:∀ W,Below B w W→Zf [125,5,30] w W→Sts Ji W (.slice a l.length c) l)(hBw:B≤w.heap.size) :
 C0 21 #[P0 ba,V0 t,.slice a l.length c] w (Ze8 B ba b g nn cc pa ca f N k0 bs t l w):=by
 have g5:=Zek t l.length
 have g3:(ovN l.length (Kj t true))≤Gg t l.length:=Jn _
 have g1:=Zal l.length (Kj t true) (Qb t true).1
 have f3:=Qn l.length (Kj t true)
 have f9:=hC.hf
 have f8:=hC.hn
 refine zin 52 Tryz.func21 ?_
 refine xa 2 [P0 ba] 61 fun b1 W1 n1=>?_
 refine xa 0 [V0 t] 3 fun b2 W2 n2=>?_
 have k1:=n1.blk.below n2.below
 refine xb 8 0 k1 ?_
 have c3:=(hA.below n1.below).below n2.below
 refine xr 0 (args:=#[P0 ba]) (Nk ba b _ _ _ c3.blkA) fun W3 b6=>?_
 have k2:=n2.blk.below b6
 refine xb 7 0 k2 ?_
 have hB:=blB (blB (blB (Below.refl B w) hBw n1.below) hBw n2.below) hBw b6
 have hO:=((show Zf [125,5,30] w _ from(Zf.of_below n1.below)).trans (Zf.of_below n2.below)).trans (Zf.of_below b6)
 refine xr 1 (args:=#[V0 t,.slice a l.length c]) (Zcm t (Uh t true) a c l _ ht1 ht2 rfl E (hin _ hB hO) hn) fun W4 b4=>?_
 refine xd 6 .z ?_
 have c5:=((k1.below b6).below b4).below (Za W4)
 refine xb (.e [] 0) 0 c5 ?_
 have c1:=(k2.below b4).below (Za W4)
 refine xb (.e [] 2) 0 c1 ?_
 have c8:=((c3.below b6).below b4).below (Za W4)
 refine xr (.o [3,4] 1) (args:=#[P0 ba]) (Zfw ba b pa N ca k0 _ c8.blkA hkN) fun W5 b5=>?_
 refine xr (.o [] 5) (args:=#[V0 t,V0 (l.length:Int)]) (Aa t l.length _ ht1 ht2 hn) fun W6 b8=>?_
 refine xk (.r [6,7] 2) (show(decide ((↑(N-k0):Int)<(↑(Gg t l.length):Int)):Bool)=false from decide_eq_false (by omega)) ?_
 refine xa 5 [.nilIface] 30 fun b7 W7 n7=>?_
 have a8:=blB (blB (blB (blB hB hBw b4) hBw (Za W4)) hBw b5) hBw b8
 have g7:=n7.ge0 a8
 have a6:=((c5.below b5).below b8).below n7.below
 have a7:=((c1.below b5).below b8).below n7.below
 have e1:=((c8.below b5).below b8).below n7.below
 have b3:=blB a8 hBw n7.below
 have b9:=((((hO.trans (Zf.of_below b4)).trans (Zf.of_below (Za W4))).trans (Zf.of_below b5)).trans (Zf.of_below b8)).trans (Zf.of_below n7.below)
 refine xc 12 (args:=#[.bool true,.slice a l.length c,P0 b1,P0 b2,P0 b7]) (Eg B ba b g nn cc pa ca f N k0 bs t true (Kj t true) (Uh t true) a c l b1 b2 b7 _ a6 a7 n7.blk (Blk.tne a6 n7.blk (by decide)) (Blk.tne a7 n7.blk (by decide)) (Nat.le_trans hBw g7) hC e1 ht1 ht2 rfl rfl E (by simp) hn hf1 (by omega) (fun W h1 h2=>hin W (b3.trans h1) (b9.trans h2)) (Nat.le_trans hBw b3.size)) ?_
 rintro _ W8 ⟨e0,e5,rfl,f5,d9,f2,d5,hA,a9⟩
 have e9:=(blB a8 hBw n7.below).size
 refine xv1 5 10 (show(.slice e0 (ovN l.length (Kj t true)) e5:Value)=.slice e0 ((upE l (Kj t true) (f+k0) (ovN l.length (Kj t true))).length) e5 from by rw[Xt]) ?_
 have c0:=Zg a9 e9
 have d4:=b3.trans f5
 have hX:=(Fr.trans_new ((((((((show Fr [ba,g] w _ from(Fr.of_below n1.below)).trans (Fr.of_below n2.below)).trans (Fr.of_below b6)).trans (Fr.of_below b4)).trans (Fr.of_below (Za W4))).trans (Fr.of_below b5)).trans (Fr.of_below b8)).trans (Fr.of_below n7.below)) f2 g7)
 have e2:=b9.trans d9
 have d7:=a6.only d9 (by decide)
 have d1:=a7.only d9 (by decide)
 refine zl 0 52 (fun zm f4 V=>∃ (u:List Ent) (K:Nat) (d0:Bl) (p:O0) (c2:Nat),f4=[(6,V0 0),(7,.nilIface),(8,P0 b7),(9,.func (.func 52) #[] #[P0 b1,P0 b2,P0 b7]),(10,.slice p u.length c2)]∧zm=u.length∧Below B w V∧Fr [ba,g] w V∧Zf [125,5,30] w V∧Blk V b1 ([P0 ba]) 61∧Blk V b2 ([V0 t]) 3∧Blk V b7 ([.nilIface]) 30∧V.ownsRow w.heap.size 100 3 (.slice p u.length c2) u.length (u.flatMap Ji)∧Al B ba b g nn cc pa ca f N K d0 V∧K+(Gf u.length).sum=k0+Gg t l.length+u.length∧1≤u.length∧u.length≤32768∧EntsOk 4 u∧Vi t u (f+K) d0=Yy t l (f+k0) bs) ⟨(upE l (Kj t true) (f+k0) (ovN l.length (Kj t true))),(k0+(ovN l.length (Kj t true))),(Pb t true (Kj t true) (Uh t true) l (f+k0) bs (ovN l.length (Kj t true))),e0,e5,rfl,rfl,d4,hX,e2,d7,d1,d5,(by rw[Xt];exact c0),hA,(by rw[Xt];unfold Gg Hw;omega),(by rw[Xt];exact f3),(by rw[Xt];omega),Cq E (Qb t true).1,(by rw[←Nat.add_assoc];rfl)⟩ ?_
 rintro _ _ W9 ⟨u,K,d0,p,c2,rfl,rfl,a3,c6,c7,a1,a2,a0,a9,hA,hK,f1,g2,hE,c9⟩ J9 f0 r9
 have f7:¬ u.length≤1→(Gf u.length).sum=u.length+(Gf (ovN u.length 18)).sum:=fun h=>by rw[Vo h];rfl
 have f6:=Jn (ovN u.length 18)
 have g4:2≤u.length→ovN u.length 18≤u.length/2:=ov18
 have d8:=Qn u.length 18
 refine xb 3 0 a0 ?_
 refine xid 8 ((u.length:Int)>(1:Int)) (fun e3=>?_) (fun e3=>?_)
 ·refine xc 6 (args:=#[.bool false,.slice p u.length c2,P0 b1,P0 b2,P0 b7]) (Eg B ba b g nn cc pa ca f N K d0 t false 18 4 p c2 u b1 b2 b7 _ a1 a2 a0 (Blk.tne a1 a0 (by decide)) (Blk.tne a2 a0 (by decide)) (Nat.le_trans hBw g7) hC hA ht1 ht2 rfl rfl hE (fun _=>f1) (by omega) hf1 (by omega) (fun W _ h2=>Zh (Zl a9 h2 (by decide))) (Nat.le_trans hBw a3.size)) ?_
  rintro _ g0 ⟨e7,e8,rfl,e6,b0,d2,d5,hA,a9⟩
  refine xv1 3 10 (show(.slice e7 (ovN u.length 18) e8:Value)=.slice e7 ((upE u 18 (f+K) (ovN u.length 18)).length) e8 from by rw[Xt]) ?_
  have c4:=Zg a9 a3.size
  have e4:=a3.trans e6
  have d3:=(Fr.trans_new c6 d2 g7)
  have d6:=c7.trans b0
  have a5:=a1.only b0 (by decide)
  have a4:=a2.only b0 (by decide)
  refine ze 0 (f0 _ _ _ ⟨(upE u 18 (f+K) (ovN u.length 18)),(K+ovN u.length 18),_,_,_,rfl,rfl,e4,d3,d6,a5,a4,d5,(by rw[Xt];exact c4),hA,(by rw[Xt];omega),(by rw[Xt];exact d8),(by rw[Xt];omega),Cq hE (by decide),(by rw[←c9,←Nat.add_assoc];exact(Qy (by omega)).symm)⟩ ?_)
  show((upE u 18 (f+K) (ovN u.length 18)).length)<u.length
  rw[Xt];omega
 refine xb 8 0 a0 ?_
 refine xx 9 _ u.length 0 3 (Sts.cell (Zh a9) Xo Zn (k:=0) (i:=0) (by omega) rfl).1 ?_
 refine xl 1 ((Sts.cell (Zh a9) Xo Zn (k:=0) (i:=2) (by omega) rfl).2) ?_
 refine xe 5 (.tuple #[V0 ((u.getD 0 Zn).2.2),.nilIface]) ?_
 have h1:u.length≤1:=by omega
 rw[Kr h1] at c9
 rw[Jr h1] at hK
 simp only[List.sum_cons,List.sum_nil] at hK
 obtain rfl:K=k0+Gg t l.length:=by omega
 refine⟨by rw[←c9],a3,c7,c6,by rw[←c9];exact hA⟩
theorem Al.mono{B B' ba b g n c:Nat}{pa:O0}{ca f N k:Nat}{l:Bl}{w:World}(h:Al B' ba b g n c pa ca f N k l w)(hB:B≤B'):Al B ba b g n c pa ca f N k l w:=⟨h.blkA,h.blkI,Zg h.data hB,Zg h.nums hB⟩
theorem AlC.mono{B B' ba n c ca f N:Nat}(h:AlC B' ba n c ca f N)(hB:B≤B'):AlC B ba n c ca f N:=⟨h.hn,h.hc,h.hca,h.hf,Nat.le_trans hB h.hB⟩
theorem row_at{w:World}{base g n c size:Nat}{e:TypeId}{xs:List Value}(h:w.ownsRow base e size (.slice (S1 g) n c) n xs):∃ cur,w.heap[g]? = some (.cells cur e (0,0)):=by
 rcases h.2 with ⟨hv,_⟩|⟨g2,a0,cur,hv,_,hh,_⟩
 ·cases hv
 ·simp only[Value.slice.injEq,Option.some.injEq,Addr.mk.injEq] at hv
  obtain⟨⟨rfl,_,_⟩,_⟩:=hv
  exact⟨cur,hh⟩
theorem Al.ne{B ba b g n c:Nat}{pa:O0}{ca f N k:Nat}{l:Bl}{B2 ba2 b2 g2 n2 c2:Nat}{pa2:O0}{ca2 f2 N2 k2:Nat}{l2:Bl}{w:World}(h:Al B ba b g n c pa ca f N k l w)(h2:Al B2 ba2 b2 g2 n2 c2 pa2 ca2 f2 N2 k2 l2 w):b2≠ba∧b2≠g:=by
 constructor
 ·rintro rfl
  exact absurd (h.blkA.ty h2.blkI) (by decide)
 ·rintro rfl
  obtain⟨a0,hh⟩:=row_at h.data
  have h3:w.heap[b2]? = some (.cells [.slice (S1 g2) n2 c2].toArray 72 (0,0)):=h2.blkI
  rw[hh] at h3
  simp only[Option.some.injEq,Obj.cells.injEq] at h3
  exact absurd h3.2.1 (by decide)
theorem Al.apart{B2 ba2 b2 g2 n2 c2:Nat}{pa2:O0}{ca2 f2 N2 k2:Nat}{l2:Bl}{w W:World}{ba g:Nat}(h:Al B2 ba2 b2 g2 n2 c2 pa2 ca2 f2 N2 k2 l2 w)(hC:AlC B2 ba2 n2 c2 ca2 f2 N2)(h1:ba<B2)(h2:g<B2)(hne:b2≠ba∧b2≠g)(hX:Fr [ba,g] w W):Al B2 ba2 b2 g2 n2 c2 pa2 ca2 f2 N2 k2 l2 W:=by
 have hB:=hC.hB
 refine⟨h.blkA.fr hX (by simp;omega),h.blkI.fr hX (by simp;exact hne),Sv h.data hX fun k hk=>?_,Sv h.nums hX fun k hk=>?_⟩
 ·have:=(h.data.lt k hk).1;simp;omega
 ·have:=(h.nums.lt k hk).1;simp;omega
theorem Zcj(B ba b g nn cc:Nat)(pa:O0)(ca f N k0:Nat)(bs:Bl)(t:Int)(a:O0)(c:Nat)(l:List Ent)(n:Nat)(w:World)(hl:l.length=n)(hC:AlC B ba nn cc ca f N)(hA:Al B ba b g nn cc pa ca f N k0 bs w)(ht1:1≤t)(ht2:t≤5)(E:EntsOk (Uh t true) l)(hn:n≤32768)(hf1:1≤f)(hkN:k0≤N)(hk:k0+Gg t n≤N)(hin:∀ W,Below B w W→Zf [125,5,30] w W→Sts Ji W (.slice a l.length c) l)(hBw:B≤w.heap.size) :
 C0 21 #[P0 ba,V0 t,.slice a n c] w (Ze8 B ba b g nn cc pa ca f N k0 bs t l w):=by
 subst hl;exact Zgg B ba b g nn cc pa ca f N k0 bs t a c l w hC hA ht1 ht2 E hn hf1 hkN hk hin hBw
theorem To{t:Int}{l:List Ent}{q:Nat}{bs:Bl}(hq:1≤q):(Yy t l q bs).1=((q+Gg t l.length-1:Nat):Int):=by
 have hp:=Qn l.length (Kj t true)
 have hg:=Jn (ovN l.length (Kj t true))
 unfold Yy
 rw[Zdd (by rw[Xt];exact hp) (by rw[Xt,Hg (by omega)];simp only[upX];congr 1;omega) (by omega),Xt]
 unfold Gg Hw
 congr 1;omega
theorem Lv(ps:List Pt)(N:List Int)(gl gn:O0)(cl cn n:Nat)(w:World)(hps:Gs ps)(hn:n=ps.length)(hNl:N.length=n)(hP:Sts Zcf w (.slice gl ps.length cl) ps)(hN:Sl w (.slice gn n cn) n (N.map V0))(h:Pw ps N n=true) :
  C0 87 #[.slice gl ps.length cl,.slice gn n cn] w (Ret (.string ⟨(Ze1 ps N ps.length).toArray⟩) w):=(Rf ps N gl gn cl cn n w hps hn hNl hP hN).mono (by
 rintro e W q
 rcases q with ⟨q,_⟩|⟨_,rfl,hb⟩
 ·rw[h] at q;cases q
 ·exact⟨rfl,hb⟩)
def M24:Bl:=Ze1 Ku [50331652] 1
def D24:Bl:=Ze1 Jg [1,5,0,0] 4
def R24:Bl:=leB 3 4
def eM:List Ent:=[(7,M24,0)]
def eR:List Ent:=[(2,R24,0)]
def eD:List Ent:=[(2,D24,0)]
def L24:List Nt:=[(1,[]),(3,[]),(2,eM),(1,eR),(3,eD)]
def Z24:Bl:=List.replicate 2560 0
theorem Z24_len:Z24.length=2560:=List.length_replicate
def B24 (k:Nat):Bl:=Rn (L24.take k) 1 Z24
def d24:Dv:=((2,5,0,0),[(7,3,4)])
theorem Zbm:M24.length=8∧Xn Ku M24=0∧Pl M24=3∧Mx M24=4:=by decide
theorem Te:D24.length=24∧Xn Jg D24=0∧Yn D24 0=1∧Yn D24 1=5∧Yn D24 2=0∧Yn D24 3=0:=by decide
theorem R24_ok:R24.length=4∧Xy R24=0∧Qf R24=3:=by decide
theorem Zef(w:Nat):EntsOk w []:=⟨fun i hi=>absurd hi (by simp),fun j hj=>absurd hj (by simp),fun i hi=>absurd hi (by simp)⟩
theorem Ii{w:Nat}{k:Int}{v:Bl}(h0:0≤k)(h1:k<281474976710656)(hv:v.length=w):EntsOk w [(k,v,0)]:=by
 refine⟨fun i hi=>?_,fun j hj=>?_,fun i hi=>?_⟩
 ·obtain rfl:i=0:=by simp at hi;omega
  exact⟨h0,by simpa [List.getD] using (by omega:k≤281474976710655)⟩
 ·simp at hj
 ·obtain rfl:i=0:=by simp at hi;omega
  exact hv
theorem Ua{t:Int}{n:Nat}(h:n≤1):Gg t n=1:=by
 have hm:=Qb t true
 have hp:=Qn n (Kj t true)
 have ho:ovN n (Kj t true)=1:=by
  unfold ovN at hp ⊢
  have:n+Kj t true-1<2*Kj t true:=by omega
  have h2:=Nat.div_lt_of_lt_mul (m:=n+Kj t true-1) (n:=Kj t true) (k:=2) (by omega)
  omega
 unfold Gg Hw
 rw[ho,Jr (by decide)];rfl
theorem L24_ok:∀ x∈L24,Ra x∧Hb x=1:=by
 intro x hx
 simp only[L24,List.mem_cons,List.not_mem_nil,or_false] at hx
 have h1:=Zbm.1
 have h2:=Te.1
 have h3:=R24_ok.1
 rcases hx with rfl|rfl|rfl|rfl|rfl
 ·exact⟨⟨by decide,by decide,Zef _,by decide⟩,Ua (by decide)⟩
 ·exact⟨⟨by decide,by decide,Zef _,by decide⟩,Ua (by decide)⟩
 ·exact⟨⟨by decide,by decide,Ii (by decide) (by decide) (by rw[h1];rfl),by decide⟩,Ua (by decide)⟩
 ·exact⟨⟨by decide,by decide,Ii (by decide) (by decide) (by rw[h3];rfl),by decide⟩,Ua (by decide)⟩
 ·exact⟨⟨by decide,by decide,Ii (by decide) (by decide) (by rw[h2];rfl),by decide⟩,Ua (by decide)⟩
theorem Mq:∀ (L:List Nt),(∀ x∈L,Hb x=1)→Nd L=L.length
 | [],_=>rfl
 | x::r,h=>by
  show Hb x+Nd r=_
  rw[h x (by simp),Mq r fun y hy=>h y (by simp[hy])];simp;omega
theorem Zdf(k:Nat):∀ x∈L24.take k,Ra x∧Hb x=1:=fun x hx=>L24_ok x (List.mem_of_mem_take hx)
theorem B24_next{k:Nat}(hk:k<5){x:Nt}(hx:L24[k]? = some x):Yy x.1 x.2 (1+k) (B24 k)=(((1+k:Nat):Int),B24 (k+1)):=by
 have a0:k<L24.length:=hk
 have hn:=L24_ok x (List.mem_of_getElem? hx)
 have a1:L24[k]=x:=by rw[List.getElem?_eq_getElem a0] at hx;exact Option.some.inj hx
 have h2:B24 (k+1)=(Yy x.1 x.2 (1+k) (B24 k)).2:=by
  unfold B24
  rw[List.take_succ_eq_append_getElem a0,Ei,a1,Mq _ fun x hx=>(Zdf k x hx).2,List.length_take,Nat.min_eq_left (by omega)]
  rfl
 have h1:=To (t:=x.1) (l:=x.2) (q:=1+k) (bs:=B24 k) (by omega)
 rw[show Gg x.1 x.2.length=1 from hn.2] at h1
 rw[h2]
 exact Prod.ext h1 rfl
theorem Zaa{k i:Nat}{t:Int}{e:List Ent}(r:Int)(hk:k≤5)(hi:i<k)(hx0:L24[i]? = some (t,e))(hr:((1+i:Nat):Int)=r):∃ es:List Ent,es.map kvE=e.map kvE∧(Zd (B24 k) r t 9).es=es∧(Zd (B24 k) r t 9).fs=[]:=by
 subst hr
 obtain⟨x,a2⟩:∃ x:Nt,x=(t,e):=⟨_,rfl⟩
 have hx:L24[i]? = some x:=by rw[a2];exact hx0
 have ht:t=x.1:=by rw[a2]
 have he:e=x.2:=by rw[a2]
 rw[ht,he]
 clear a2 hx0
 have b0:i<(L24.take k).length:=by rw[List.length_take];exact Nat.lt_min.2 ⟨hi,Nat.lt_of_lt_of_le hi hk⟩
 have a4:i<L24.length:=Nat.lt_of_lt_of_le hi hk
 have a6:(L24.take k)[i]=x:=by rw[List.getElem_take];rw[List.getElem?_eq_getElem a4] at hx;exact Option.some.inj hx
 have a1:L24.take k=(L24.take k).take i++x::(L24.take k).drop (i+1):=by rw[←a6,←List.drop_eq_getElem_cons b0,List.take_append_drop]
 have a0:∀ y∈(L24.take k).take i++x::(L24.take k).drop (i+1),Ra y∧Hb y=1:=by rw[←a1];exact Zdf k
 have a3:=Mq _ fun y hy=>(a0 y hy).2
 rw[←a1] at a3
 have a8:(L24.take k).length≤5:=by rw[List.length_take];exact Nat.min_le_right _ _
 have a5:=(a0 x (by simp)).2
 have s:=for_scan (q:=1) (bs:=Z24) (fuel:=9) (fun y hy=>(a0 y hy).1) (by decide) (by rw[←a1,a3,Z24_len];omega) (by rw[←a1,a3];omega) (by rw[a5];decide)
 rw[←a1] at s
 have a7:(L24.take k).take i=L24.take i:=by rw[List.take_take,Nat.min_eq_left (by omega)]
 have a9:=Mq (L24.take i) fun y hy=>(Zdf i y hy).2
 rw[a7,a9,List.length_take,Nat.min_eq_left (Nat.le_of_lt a4),To (by omega),show Gg x.1 x.2.length=1 from a5] at s
 obtain⟨es,bl,h1,_,h3⟩:=s
 refine⟨es,h1,?_⟩
 have h4:Zd (B24 k) ((1+i:Nat):Int) x.1 9=_:=h3
 rw[h4];exact⟨rfl,rfl⟩
theorem one_kv{es:List Ent}{k:Int}{v:Bl}{a:Int}(h:es.map kvE=([(k,v,a)]:List Ent).map kvE):∃ a',es=[(k,v,a')]:=by
 match es,h with
 | [],h=>simp at h
 | [(k',v',a')],h =>
  simp only[kvE,List.map_cons,List.map_nil,List.cons.injEq,Prod.mk.injEq,and_true] at h
  obtain⟨rfl,rfl⟩:=h
  exact⟨a',rfl⟩
 | _::_::_,h=>simp at h
theorem load24a:Yk (B24 2) 1 2 5 9=([],0,[]):=by
 obtain⟨e1,h1,a3,a1⟩:=Zaa (k:=2) (i:=0) (t:=1) (e:=[]) 1 (by decide) (by decide) rfl rfl
 obtain⟨e2,h2,a0,a5⟩:=Zaa (k:=2) (i:=1) (t:=3) (e:=[]) 2 (by decide) (by decide) rfl rfl
 have a2:e1=[]:=by simpa using h1
 have a4:e2=[]:=by simpa using h2
 subst a2 a4
 rw[Yc a5 a1 (by rw[a0];decide) (by rw[a0,a3];rfl),a0]
 exact Mi (fun j hj=>absurd hj (by simp))
theorem load24b:Yk (B24 5) 4 5 5 9=([],0,[d24]):=by
 obtain⟨e1,h1,a4,a5⟩:=Zaa (k:=5) (i:=3) (t:=1) (e:=eR) 4 (by decide) (by decide) rfl rfl
 obtain⟨e2,h2,a0,a7⟩:=Zaa (k:=5) (i:=4) (t:=3) (e:=eD) 5 (by decide) (by decide) rfl rfl
 obtain⟨e3,h3,a8,a6⟩:=Zaa (k:=5) (i:=2) (t:=2) (e:=eM) 3 (by decide) (by decide) rfl rfl
 obtain⟨a1,rfl⟩:=one_kv h1
 obtain⟨a2,rfl⟩:=one_kv h2
 obtain⟨a3,rfl⟩:=one_kv h3
 have hm:Zag (B24 5) 3 5 9=([],0,[(7,3,4)]):=by
  rw[Hh a6,a8]
  rw[Df (fun j hj=>by
   obtain rfl:j=0:=by simp at hj;omega
   show Zbk 5 M24=0
   exact Fy Zbm.2.1 (by rw[Zbm.2.2.1];decide))]
  show([],0,[Zdn (7,M24,a3)])=_
  unfold Zdn
  rw[Zbm.2.2.1,Zbm.2.2.2];rfl
 have ho:Qa (B24 5) (2,R24,a1) 5 9=([],0,[(7,3,4)]):=by
  unfold Qa
  rw[R24_ok.2.2];exact hm
 rw[Yc a7 a5 (by rw[a0];exact(by decide:¬ (4096:Nat)<1)) (by rw[a0,a4];rfl),a0,a4]
 rw[Mi (fun j hj=>by
  obtain rfl:j=0:=by simp at hj;omega
  show(Dg (B24 5) (2,D24,a2) (2,R24,a1) 5 9 0).2=0
  rw[dev_7 (by exact(by decide:¬ (16777215:Int)<2)) Te.2.1 R24_ok.2.1 (by rw[ho]) (by rw[ho,Te.2.2.1];rfl) (by rw[ho];decide)])]
 show([],0,[Zdi (B24 5) (2,D24,a2) (2,R24,a1) 5 9])=_
 unfold Zdi
 rw[ho,Te.2.2.2.1,Te.2.2.2.2.1,Te.2.2.2.2.2];rfl
theorem Ep(B ba b g c:Nat)(pa:O0)(ca k n:Nat)(t:Int)(e:List Ent)(a:O0)(cc:Nat)(r:Int)(w:World)(hk:k<5)(hx:L24[k]? = some (t,e))(hr:((1+k:Nat):Int)=r)(hn:e.length=n)(hC:AlC B ba 2560 c ca 1 9)(hA:Al B ba b g 2560 c pa ca 1 9 k (B24 k) w)
 (hin:∀ W,Below B w W→Zf [125,5,30] w W→Sts Ji W (.slice a e.length cc) e) (hBw:B≤w.heap.size) :
 C0 21 #[P0 ba,V0 t,.slice a n cc] w (fun e' w'=>e'=.returned (.tuple #[V0 r,.nilIface])∧Below B w w'∧Zf [125,5,30] w w'∧Fr [ba,g] w w'∧Al B ba b g 2560 c pa ca 1 9 (k+1) (B24 (k+1)) w'):=by
 subst hr
 have a0:=L24_ok _ (List.mem_of_getElem? hx)
 have a3:Gg t e.length=1:=a0.2
 refine(Zcj B ba b g 2560 c pa ca 1 9 k (B24 k) t a cc e n w hn hC hA a0.1.1 a0.1.2.1 a0.1.2.2.1 (by rw[←hn];exact a0.1.2.2.2) (by decide) (by omega) (by rw[←hn,a3];omega) hin hBw).mono ?_
 rintro e' w' ⟨rfl,hb,hO,hX,a2⟩
 have a1:=B24_next hk hx
 rw[show(1+k)=1+k from rfl] at a1
 simp only at a1
 rw[a3,a1] at a2
 rw[a1]
 exact⟨rfl,hb,hO,hX,a2⟩
theorem Mt(Bi b:Nat)(pi:O0)(ni ci:Nat)(l:Bl)(top details data fuel:Int)(n:Nat)(L:List Dv)(w:World)(hI:ImgR Bi b pi ni ci l w)(hfu:fuel≤1000)(hO:Yk l top details data fuel=([],0,L))(hn:L.length=n) :
 C0 39 #[P0 b,V0 top,V0 details,V0 data,V0 fuel] w (Vy (fun w' r=>∃ p c Z,r=.tuple #[.slice p n c,.nilIface]∧Z.map Prod.fst=L∧Xu w.heap.size w' Z∧w'.ownsRow w.heap.size 108 5 (.slice p n c) n (Z.flatMap Lg)) w):=by
 subst hn
 refine(Bn Bi b pi ni ci l top details data fuel w hI hfu).mono ?_
 rintro e W q
 rw[hO] at q
 rcases q with ⟨h,_⟩|⟨_,p,c,Z,rfl,hb,hZ,hM,ho⟩
 ·exact absurd rfl h
 ·exact⟨_,rfl,hb,p,c,Z,rfl,hZ,hM,ho⟩
theorem one_dev{Z:List Zv}{d:Dv}(h:Z.map Prod.fst=[d]):∃ p c,Z=[(d,p,c)]:=by
 match Z,h with
 | [],h=>simp at h
 | [(d',p,c)],h =>
  simp only[List.map_cons,List.map_nil,List.cons.injEq,and_true] at h
  subst h
  exact⟨p,c,rfl⟩
 | _::_::_,h=>simp at h
theorem Ib(Bi b:Nat)(pi:O0)(ni ci:Nat)(l:Bl)(top details data fuel:Int)(w:World)(hI:ImgR Bi b pi ni ci l w)(hfu:fuel≤1000)(hO:Yk l top details data fuel=([],0,[d24])) :
 C0 39 #[P0 b,V0 top,V0 details,V0 data,V0 fuel] w (Vy (fun w' r=>∃ p c pm cm,r=.tuple #[.slice p 1 c,.nilIface]∧w'.ownsRow w.heap.size 108 5 (.slice p 1 c) 1 (([(d24,pm,cm)]:List Zv).flatMap Lg)∧w'.ownsRow w.heap.size 110 3 (.slice pm 1 cm) 1 (([(7,3,4)]:List Mp).flatMap Wr)) w):=by
 refine(Mt Bi b pi ni ci l top details data fuel 1 [d24] w hI hfu hO rfl).mono ?_
 rintro e W ⟨_,rfl,hb,p,c,Z,rfl,hZ,hM,ho⟩
 obtain⟨pm,cm,rfl⟩:=one_dev hZ
 exact⟨_,rfl,hb,p,c,pm,cm,rfl,ho,hM 0 Nat.one_pos⟩
theorem Zb7(w:World) :
 C0 40 #[V0 3,V0 4] w (Ret (.string ⟨M24.toArray⟩) w):=by
 refine zin 26 Tryz.func40 ?_
 refine xc 29 (args:=#[]) (Nc _) ?_
 rintro _ W1 ⟨_,rfl,a1,gl,rfl,gg,kl⟩
 refine xbs 4 1 [V0 50331652] 3 fun b2 W2 n2=>?_
 have a0:=kl.below n2.below
 refine xr 0 (args:=#[.slice (S1 gl) 1 1,.slice (S1 b2) 1 1]) (Lv Ku [50331652] (S1 gl) (S1 b2) 1 1 1 _ mapP_ok rfl rfl (a0.sl 1 1 (by decide) (by decide)) (n2.blk.sl 1 1 (by decide) (by decide)) (by decide)) fun W3 a2=>?_
 have hB:=bln (bln a1 n2.below) a2
 exact xe 4 (.string ⟨M24.toArray⟩) ⟨rfl,hB⟩
theorem Rp(w:World) :
 C0 42 #[.agg #[V0 1,V0 5,V0 0,V0 0]] w (Ret (.string ⟨D24.toArray⟩) w):=by
 refine zin 14 Tryz.func42 ?_
 refine xa 2 [V0 1,V0 5,V0 0,V0 0] 105 fun b1 W1 n1=>?_
 refine xd 4 .z ?_
 have k1:=n1.blk.below (Za W1)
 refine xb (.e [1] 2) 0 k1 ?_
 refine xb (.e [3] 4) 1 k1 ?_
 refine xb (.e [5] 6) 2 k1 ?_
 refine xb (.e [7] 8) 3 k1 ?_
 refine xm2 0 0 9 ?_ ?_
 ·refine yc 0 (args:=#[]) .z (Gr _) ?_
  rintro _ W2 ⟨_,rfl,a2,gl,rfl,gg,kl⟩
  refine⟨a2,?_⟩
  refine xbs (.o [] 9) 4 [V0 1,V0 5,V0 0,V0 0] 3 fun b3 W3 n3=>?_
  have a0:=kl.below n3.below
  refine xr (.o [] 10) (args:=#[.slice (S1 gl) 4 4,.slice (S1 b3) 4 4]) (Lv Jg [1,5,0,0] (S1 gl) (S1 b3) 4 4 4 _ Zb2 rfl rfl (a0.sl 4 4 (by decide) (by decide)) (n3.blk.sl 4 4 (by decide) (by decide)) (by decide)) fun W4 a3=>?_
  have hB:=bln (bln (bln (bln n1.below (Za W1)) a2) n3.below) a3
  exact xe (.r [11] 3) (.string ⟨D24.toArray⟩) ⟨rfl,hB⟩
 refine xbs 0 4 [V0 1,V0 5,V0 0,V0 0] 3 fun b5 W5 n5=>?_
 refine yc (.o [] 0) (args:=#[]) .z (Gr _) ?_
 rintro _ W6 ⟨_,rfl,a1,gl,rfl,gg,kl⟩
 refine⟨a1,?_⟩
 have k5:=n5.blk.below a1
 refine xr (.o [] 10) (args:=#[.slice (S1 gl) 4 4,.slice (S1 b5) 4 4]) (Lv Jg [1,5,0,0] (S1 gl) (S1 b5) 4 4 4 _ Zb2 rfl rfl (kl.sl 4 4 (by decide) (by decide)) (k5.sl 4 4 (by decide) (by decide)) (by decide)) fun W7 a4=>?_
 have hB:=bln (bln (bln (bln n1.below (Za W1)) n5.below) a1) a4
 exact xe (.r [11] 3) (.string ⟨D24.toArray⟩) ⟨rfl,hB⟩
theorem Zb8(w:World) :
 C0 13 #[] w (Ret (.bool true) w):=by
 refine zin 113 Tryz.func13 ?_
 refine xmk 7 fun _ _ _ _ zJ zQ zo zx zy zK=>Gn 2560 (.int .u8 0) 1 1 ((List.replicate 2560 (0:UInt8)).map bv) zo zx zy Tryz.underlying22 (by kernel_rfl) rfl (by omega) (by omega) (Zer 2560) fun b1 W1 n1=>?_
 refine zK _ _ ?_
 have o1:=Xa (size:=1) (n:=2560) n1.blk (n1.ge (B3 w)) (by rw[List.length_map,List.length_replicate]) (by unfold maxLen;omega)
 refine xc 0 (args:=#[.slice (S1 b1) 2560 2560]) (image_OfN (S1 b1) 2560 2560 2560 (List.replicate 2560 (0:UInt8)) _ List.length_replicate (by omega) (Ko (Zh o1) List.length_replicate) (by omega) (Nat.le_refl _)) ?_
 rintro _ W2 ⟨_,rfl,e7,bi,pi,ci,rfl,gi,ki,hd⟩
 have a7:=Zg hd n1.below.size
 rw[List.take_of_length_le (by rw[List.length_replicate];omega)] at a7
 obtain⟨g,rfl,e9⟩:=own_someN a7 (by omega)
 have hB:=bln n1.below e7
 have f1:=hB.size
 refine xc 0 (args:=#[P0 bi,V0 1]) (Zfv bi (S1 g) 2560 ci 1 9 (1:Int) rfl (by omega) _ ki (by omega) (by decide) (by omega)) ?_
 rintro _ W3 ⟨_,rfl,c8,ba,pa,ca,rfl,ga,ka,ho⟩
 replace ga:=Nat.le_trans f1 ga
 have d6:=ki.below c8
 have c7:=Zb a7 c8
 have b2:=Zg ho hB.size
 have hA:Al w.heap.size ba bi g 2560 ci pa ca 1 9 0 (B24 0) _:=⟨ka,d6,c7,b2⟩
 have f5:9≤ca:=own_cap b2 (by decide)
 have hC:AlC w.heap.size ba 2560 ci ca 1 9:=⟨by omega,e9,f5,by omega,ga⟩
 have b8:=bln hB c8
 refine xc 24 (args:=#[P0 ba,V0 1,S0]) (Ep w.heap.size ba bi g _ pa ca 0 0 1 [] none 0 1 _ (by decide) rfl rfl rfl hC hA (fun W _ h2=>.inl ⟨_,_,rfl,rfl,rfl⟩) b8.size) ?_
 rintro _ W4 ⟨rfl,e6,g6,g8,hA⟩
 have c4:=b8.trans e6
 refine xc 10 (args:=#[P0 ba,V0 3,S0]) (Ep w.heap.size ba bi g _ pa ca 1 0 3 [] none 0 2 _ (by decide) rfl rfl rfl hC hA (fun W _ h2=>.inl ⟨_,_,rfl,rfl,rfl⟩) c4.size) ?_
 rintro _ W5 ⟨rfl,f0,h3,g0,hA⟩
 refine xr 10 (args:=#[P0 ba]) (Nk ba bi _ _ _ hA.blkA) fun W6 e4=>?_
 have a4:=hA.below e4
 refine xc 2 (args:=#[P0 bi,V0 1,V0 2,V0 5,V0 9]) (Mt w.heap.size bi (S1 g) 2560 ci (B24 2) 1 2 5 9 0 [] _ ⟨a4.blkI,a4.data,by omega⟩ (by decide) load24a rfl) ?_
 rintro _ W7 ⟨_,rfl,e2,px,cx,Zx,rfl,g7,_,_⟩
 refine xr 25 (args:=#[V0 3,V0 4]) (Zb7 _) fun W8 e5=>?_
 refine xbs 1 1 [V0 7,.string ⟨M24.toArray⟩,V0 0] 100 fun b9 W9 n9=>?_
 have b5:=bln (bln (bln (c4.trans f0) e4) e2) e5
 have g9:=n9.ge b5
 have d9:=((a4.below e2).below e5).below n9.below
 have c5:=bln b5 n9.below
 refine xc 0 (args:=#[P0 ba,V0 2,.slice (S1 b9) 1 1]) (Ep w.heap.size ba bi g _ pa ca 2 1 2 eM (S1 b9) 1 3 _ (by decide) rfl rfl rfl hC d9 (fun W _ h2=>((n9.blk.only h2 (by decide)).sl 1 1 (by decide) (by decide))) c5.size) ?_
 rintro _ g5 ⟨rfl,e0,d1,e8,hA⟩
 refine xr 11 (args:=#[V0 3]) (Ts 3 (by decide) (by decide) _) fun h0 a8=>?_
 refine xbs 1 1 [V0 2,.string ⟨R24.toArray⟩,V0 0] 100 fun e3 f9 a5=>?_
 have c1:=(n9.blk.only d1 (by decide)).below a8
 have d2:=a5.ne c1
 have b0:=bln (c5.trans e0) a8
 have g3:=a5.ge b0
 have d4:=(hA.below a8).below a5.below
 have b3:=bln b0 a5.below
 refine xc 0 (args:=#[P0 ba,V0 1,.slice (S1 e3) 1 1]) (Ep w.heap.size ba bi g _ pa ca 3 1 1 eR (S1 e3) 1 4 _ (by decide) rfl rfl rfl hC d4 (fun W _ h2=>((a5.blk.only h2 (by decide)).sl 1 1 (by decide) (by decide))) b3.size) ?_
 rintro _ f8 ⟨rfl,d0,b6,f2,hA⟩
 refine xr 10 (args:=#[.agg #[V0 1,V0 5,V0 0,V0 0]]) (Rp _) fun h5 a1=>?_
 refine xbs 1 1 [V0 2,.string ⟨D24.toArray⟩,V0 0] 100 fun e1 h4 a9=>?_
 have c9:=((c1.below a5.below).only b6 (by decide)).below a1
 have d7:=a9.ne c9
 have c2:=(a5.blk.only b6 (by decide)).below a1
 have c6:=a9.ne c2
 have c0:=bln (b3.trans d0) a1
 have g2:=a9.ge c0
 have d3:=(hA.below a1).below a9.below
 have a3:=bln c0 a9.below
 refine xc 0 (args:=#[P0 ba,V0 3,.slice (S1 e1) 1 1]) (Ep w.heap.size ba bi g _ pa ca 4 1 3 eD (S1 e1) 1 5 _ (by decide) rfl rfl rfl hC d3 (fun W _ h2=>((a9.blk.only h2 (by decide)).sl 1 1 (by decide) (by decide))) a3.size) ?_
 rintro _ g1 ⟨rfl,c3,f3,f4,hA⟩
 refine xr 9 (args:=#[P0 ba]) (Nk ba bi _ _ _ hA.blkA) fun h1 a6=>?_
 have b7:=hA.below a6
 refine xc 2 (args:=#[P0 bi,V0 4,V0 5,V0 5,V0 9]) (Ib w.heap.size bi (S1 g) 2560 ci (B24 5) 4 5 5 9 _ ⟨b7.blkI,b7.data,by omega⟩ (by decide) load24b) ?_
 rintro _ g4 ⟨_,rfl,d5,pz,cz,pm,cm,rfl,f6,f7⟩
 have b4:=(bln (a3.trans c3) a6).size
 have a0:=Zg f6 b4
 refine xx 18 _ 1 0 5 (Sts.cell (f:=Lg) (l:=[(d24,pm,cm)]) (Zh a0) Hi zvD (k:=0) (i:=0) Nat.one_pos rfl).1 ?_
 refine xl 1 ((Sts.cell (f:=Lg) (l:=[(d24,pm,cm)]) (Zh a0) Hi zvD (k:=0) (i:=1) Nat.one_pos rfl).2) ?_
 refine xx 4 _ 1 0 5 (Sts.cell (f:=Lg) (l:=[(d24,pm,cm)]) (Zh a0) Hi zvD (k:=0) (i:=0) Nat.one_pos rfl).1 ?_
 refine xl 1 ((Sts.cell (f:=Lg) (l:=[(d24,pm,cm)]) (Zh a0) Hi zvD (k:=0) (i:=4) Nat.one_pos rfl).2) ?_
 refine xx 5 _ 1 0 5 (Sts.cell (f:=Lg) (l:=[(d24,pm,cm)]) (Zh a0) Hi zvD (k:=0) (i:=0) Nat.one_pos rfl).1 ?_
 refine xl 1 ((Sts.cell (f:=Lg) (l:=[(d24,pm,cm)]) (Zh a0) Hi zvD (k:=0) (i:=4) Nat.one_pos rfl).2) ?_
 have a2:=Zg f7 b4
 refine xx 0 _ 1 0 3 (Sts.cell (f:=Wr) (l:=[(7,3,4)]) (Zh a2) Pp (0,0,0) (k:=0) (i:=0) (by decide) rfl).1 ?_
 refine xlv 0 (Sts.rp (k:=0) (show Sts Wr _ (.slice pm ([(7,3,4)]:List Mp).length cm) [(7,3,4)] from(Zh a2)) Pp (0,0,0) (by decide) (by decide)) ?_
 have d8:=bln (bln (a3.trans c3) a6) d5
 exact xe 7 (.bool true) ⟨rfl,d8⟩
theorem Zeb(s:Bl):Pu Ku s=[Zi s 0 8]:=rfl
theorem Zes(s:Bl):Uk Ku s=decide (Zi s 0 8≤1099511627775):=by
 unfold Uk
 rw[Zeb,show Ku.length=1 from rfl]
 unfold Pw
 rw[show List.range 1=[0] from rfl]
 simp[inP,Ku]
 omega
theorem map_e7{s:Bl}(h:s.length≠8):Xn Ku s=7∧Pl s=0∧Mx s=0:=by
 have he:Xn Ku s=7:=if_neg h
 have hn:Zbx s=0:=by unfold Zbx Qi;rw[he];rfl
 unfold Pl Mx
 rw[hn];exact⟨he,rfl,rfl⟩
theorem map_e2{s:Bl}(h8:s.length=8)(h:¬ Zi s 0 8≤1099511627775):Xn Ku s=2∧Pl s=0∧Mx s=0:=by
 have he:Xn Ku s=2:=by unfold Xn;rw[show(Gw Ku Ku.length).sum=8 from rfl,if_pos h8,Zes,decide_eq_false h];rfl
 have hn:Zbx s=0:=by unfold Zbx Qi;rw[he];rfl
 unfold Pl Mx
 rw[hn];exact⟨he,rfl,rfl⟩
theorem map_e0{s:Bl}(h8:s.length=8)(h:Zi s 0 8≤1099511627775):Xn Ku s=0∧Pl s=Zi s 0 8/16777216∧Mx s=Zi s 0 8%16777216:=by
 have he:Xn Ku s=0:=by unfold Xn;rw[show(Gw Ku Ku.length).sum=8 from rfl,if_pos h8,Zes,decide_eq_true h];rfl
 have hn:Zbx s=Zi s 0 8:=by unfold Zbx Qi;rw[if_pos he,Zeb];rfl
 unfold Pl Mx
 rw[hn];exact⟨he,rfl,rfl⟩
def GetP8(s:Bl)(w:World)(e:Ending)(w':World):Prop :=
 (¬ Zi s 0 8<9223372036854775808∧e=.returned (.tuple #[V0 0,V0 2])∧B0 w w')∨(Zi s 0 8<9223372036854775808∧e=.returned (.tuple #[V0 (Zi s 0 8:Int),V0 0])∧B0 w w')
theorem ref_Get8(a:O0)(n c:Nat)(s:Bl)(w:World)(hn:s.length=n)(h8:n=8)(h:Bys w (.slice a n c) s):C0 186 #[.slice a n c,V0 0,V0 8] w (GetP8 s w):=by
 subst hn
 by_cases hq:Zi s 0 8<9223372036854775808
 ·refine(Ph a c 0 8 s w (by decide) (by omega) (by omega) h hq).mono ?_
  rintro e W ⟨rfl,hb⟩
  exact .inr ⟨hq,rfl,hb⟩
 ·refine(Nm a c 0 8 s w (by decide) (by omega) (by omega) h hq).mono ?_
  rintro e W ⟨rfl,hb⟩
  exact .inl ⟨hq,rfl,hb⟩
theorem rem_m(n:Nat):Int.tmod (n:Int) 16777216=((n%16777216:Nat):Int):=by
 rw[show(16777216:Int)=((16777216:Nat):Int) from rfl];exact(Int.ofNat_tmod _ _).symm
theorem Aq(s:Bl)(w:World)(hs:s.length≤1000) :
 C0 158 #[.string ⟨s.toArray⟩] w (Ret (.tuple #[V0 (↑(Pl s):Int),V0 (↑(Mx s):Int),V0 (Xn Ku s)]) w):=by
 refine zin 27 Tryz.func158 ?_
 refine xin 15 (s.length:Int) (8:Int) (fun a5=>?_) (fun a5=>?_)
 ·refine xe 9 (.tuple #[V0 0,V0 0,V0 7]) ?_
  obtain⟨e1,e2,e3⟩:=map_e7 (s:=s) (by omega)
  rw[e1,e2,e3];exact⟨rfl,(B3 w)⟩
 refine xcf 5 fun _ _ _ zJ zQ zo zx zK=>Kl s zo zx Tryz.underlying9 Tryz.underlying22 Tryz.underlying5 (by omega) ?_
 intro bz cz W2 a1 a2
 refine zK _ _ ?_
 refine xc 0 (args:=#[.slice (S1 bz) s.length cz,V0 0,V0 8]) (ref_Get8 (S1 bz) s.length cz s _ rfl (by omega) a2) ?_
 rintro e W3 a4
 rcases a4 with ⟨hq,rfl,a0⟩|⟨hq,rfl,a0⟩
 ·have hB:=bln a1 a0
  refine xe 29 (.tuple #[V0 0,V0 0,V0 2]) ?_
  obtain⟨e1,e2,e3⟩:=map_e2 (s:=s) (by omega) (by omega)
  rw[e1,e2,e3];exact⟨rfl,hB⟩
 refine xq 14 (congrArg V0 (show(IntKind.i64.wrap (Int.tdiv (↑(Zi s 0 8):Int) 16777216):Int)=(↑((Zi s 0 8)/16777216):Int) from Dh (Zi s 0 8) 16777216 (by omega) (by decide))) ?_
 refine xid 4 ((↑((Zi s 0 8)/16777216):Int)≥(65536:Int)) (fun a3=>?_) (fun a3=>?_)
 ·have hB:=bln a1 a0
  refine xe 9 (.tuple #[V0 0,V0 0,V0 2]) ?_
  obtain⟨e1,e2,e3⟩:=map_e2 (s:=s) (by omega) (by omega)
  rw[e1,e2,e3];exact⟨rfl,hB⟩
 refine xq 5 (congrArg V0 (show(IntKind.i64.wrap (Int.tdiv (↑(Zi s 0 8):Int) 16777216):Int)=(↑((Zi s 0 8)/16777216):Int) from Dh (Zi s 0 8) 16777216 (by omega) (by decide))) ?_
 refine xq 1 (congrArg V0 (show(Int.tmod (↑(Zi s 0 8):Int) 16777216:Int)=(↑((Zi s 0 8)%16777216):Int) from rem_m (Zi s 0 8))) ?_
 have hB:=bln a1 a0
 refine xe 6 (.tuple #[V0 (↑((Zi s 0 8)/16777216):Int),V0 (↑((Zi s 0 8)%16777216):Int),V0 0]) ?_
 obtain⟨e1,e2,e3⟩:=map_e0 (s:=s) (by omega) (by omega)
 rw[e1,e2,e3];exact⟨rfl,hB⟩
theorem Wx(B bm:Nat)(p:O0)(k c:Nat)(l:Bl)(root tree fuel:Int)(w:World)(hfu:fuel≤1000)(hI:RefI B bm p k c l w) :
 C0 97 #[P0 bm,V0 root,V0 tree,V0 fuel] w (fun e w' =>
 ((Zd l root tree fuel).fs≠[]∧∃ pe ce pb cb pf nf cf a c2,e=.returned (.tuple #[.agg #[.slice pe 0 ce,.slice pb 0 cb,V0 0,V0 0,.slice pf nf cf],.agg #[.slice a (Xr (Zd l root tree fuel)).1.length c2,V0 (Xr (Zd l root tree fuel)).2]])∧B0 w w'∧w'.ownsRow w.heap.size 3 1 (.slice a (Xr (Zd l root tree fuel)).1.length c2) (Xr (Zd l root tree fuel)).1.length ((Xr (Zd l root tree fuel)).1.map V0)) ∨
 ((Zd l root tree fuel).fs=[]∧∃ pe ce pb nb cb dp lk pf nf cf a c2,e=.returned (.tuple #[.agg #[.slice pe (Zd l root tree fuel).es.length ce,.slice pb nb cb,V0 dp,V0 lk,.slice pf nf cf],.agg #[.slice a 0 c2,V0 0]])∧B0 w w'∧w'.ownsRow w.heap.size 100 3 (.slice pe (Zd l root tree fuel).es.length ce) (Zd l root tree fuel).es.length ((Zd l root tree fuel).es.flatMap Ji))):=by
 refine(Zbn B bm p k c l root tree fuel w hfu hI).mono ?_
 rintro e W ⟨t,pe,pb,pf,ce,cb,cf,fv,a,c2,ht,rfl,hb,hW,hv⟩
 by_cases h:(Zd l root tree fuel).fs=[]
 ·obtain⟨h1,h2,_,_⟩:=Gm h
  rw[h1] at ht
  subst ht
  refine .inr ⟨h,pe,ce,pb,(Zd l root tree fuel).bs.length,cb,(Zd l root tree fuel).deep,((Zd l root tree fuel).looked:Int),pf,fv.length,cf,a,c2,?_,hb,hW.ents⟩
  rw[h2];rfl
 ·obtain⟨h1,h2,h3,h4⟩:=Qk h
  rw[h1] at ht
  subst ht
  exact .inl ⟨h,pe,ce,pb,cb,pf,fv.length,cf,a,c2,rfl,hb,hv⟩
def Zd2(O:List Int×Int×List Mp)(w:World)(e:Ending)(w':World):Prop :=
 (O.2.1≠0∧∃ a c,e=.returned (.tuple #[S0,.agg #[.slice a O.1.length c,V0 O.2.1]])∧B0 w w'∧w'.ownsRow w.heap.size 3 1 (.slice a O.1.length c) O.1.length (O.1.map V0)) ∨
 (O.2.1=0∧∃ p c,e=.returned (.tuple #[.slice p O.2.2.length c,.agg #[S0,V0 0]])∧B0 w w'∧w'.ownsRow w.heap.size 110 3 (.slice p O.2.2.length c) O.2.2.length (O.2.2.flatMap Wr))
theorem Ma{O:List Int×Int×List Mp}{bl:List Int}{er:Int}{m c:Nat}{w W:World}{a:O0}(h:O=(bl,er,[]))(her:er≠0)(hm:bl.length=m)(hb:B0 w W)(ho:W.ownsRow w.heap.size 3 1 (.slice a m c) m (bl.map V0)):Zd2 O w (.returned (.tuple #[S0,.agg #[.slice a m c,V0 er]])) W:=by
 subst h hm;exact .inl ⟨her,a,c,rfl,hb,ho⟩
theorem rtell_ok{O:List Int×Int×List Mp}{L:List Mp}{n c:Nat}{w W:World}{p:O0}(h:O=([],0,L))(hn:L.length=n)(hb:B0 w W)(ho:W.ownsRow w.heap.size 110 3 (.slice p n c) n (L.flatMap Wr)):Zd2 O w (.returned (.tuple #[.slice p n c,.agg #[S0,V0 0]])) W:=by
 subst h hn;exact .inr ⟨rfl,p,c,rfl,hb,ho⟩
theorem Zf2(B bm:Nat)(p:O0)(k c:Nat)(l:Bl)(root data fuel:Int)(w:World)(hI:RefI B bm p k c l w)(hfu:fuel≤1000) :
 C0 101 #[P0 bm,V0 root,V0 data,V0 fuel] w (Zd2 (Zag l root data fuel) w):=by
 have m2:=(Ja l root 2 fuel hfu).1
 refine zin 71 Tryz.func101 ?_
 refine xa 3 [S0,V0 0] 52 fun b1 W1 n1=>?_
 refine xc 7 (args:=#[P0 bm,V0 root,V0 2,V0 fuel]) (Wx B bm p k c l root 2 fuel _ hfu (hI.below n1.below)) ?_
 rintro e W2 m5
 rcases m5 with ⟨d1,pe,ce,pb,cb,pf,nf,cf,a9,d9,rfl,e8,l3⟩|⟨d1,pe,ce,pb,nb,cb,dp,lk,pf,nf,cf,a9,d9,rfl,e8,d5⟩
 ·have l7:=Kd d1
  refine xa 3 [S0,S0,V0 0,V0 0,S0] 202 fun b3 W3 n3=>?_
  have h2:=bln n1.below e8
  have g3:=n3.ge h2
  refine xa 0 [S0,V0 0] 52 fun b4 W4 n4=>?_
  have k1:=(n1.blk.below e8).below n3.below
  have e5:=n4.ne k1
  have f1:=bln h2 n3.below
  have g4:=n4.ge f1
  have k3:=n3.blk.below n4.below
  refine xsv 0 k3 [.slice pe 0 ce,.slice pb 0 cb,V0 0,V0 0,.slice pf nf cf] fun W5 u5 k5=>?_
  have k4:=u5.blkT n4.blk k3 (by decide)
  refine xsv 0 k4 [.slice a9 ((Xr (Zd l root 2 fuel)).1.length) d9,V0 ((Xr (Zd l root 2 fuel)).2)] fun W6 u6 k6=>?_
  refine xb 6 1 k6 ?_
  refine xk 3 (show(((Xr (Zd l root 2 fuel)).2 != (0:Int)):Bool)=true from bne_iff_ne.2 l7) ?_
  refine xd 1 (.t w.heap.size [52]) ?_
  have i5:=k6.below (Za W6)
  refine xlv (.o [1] 0) i5.rp ?_
  have d6:=(u6.blk (u5.blkT (k1.below n4.below) k3 (by decide)) (Ne.symm (Ne.symm e5))).below (Za W6)
  have g1:=n1.ge (B3 w)
  refine ysv (.o [] 2) d6 [.slice a9 ((Xr (Zd l root 2 fuel)).1.length) d9,V0 ((Xr (Zd l root 2 fuel)).2)] (.t w.heap.size [52]) fun W7 u7 k7=>⟨(Zo u7 d6 g1 (by decide)),?_⟩
  have g7:=u7.own2 (Zb (u6.own2 (u5.own2 (Zb (Zb (Zg l3 n1.below.size) n3.below) n4.below) k3 (by decide)) k4 (by decide)) (Za W6)) d6 (by decide)
  have i8:=u7.below (bln (u6.below (u5.below (bln f1 n4.below) g3) g4) (Za W6)) g1
  exact xec 4 k7 (.tuple #[S0,.agg #[.slice a9 ((Xr (Zd l root 2 fuel)).1.length) d9,V0 ((Xr (Zd l root 2 fuel)).2)]]) (Ma (Eh d1) (Kd d1) rfl i8 g7)
 refine xa 3 [S0,S0,V0 0,V0 0,S0] 202 fun b8 W8 n8=>?_
 have h7:=bln n1.below e8
 have g8:=n8.ge h7
 refine xa 0 [S0,V0 0] 52 fun b9 W9 n9=>?_
 have k1:=(n1.blk.below e8).below n8.below
 have e9:=n9.ne k1
 have g5:=bln h7 n8.below
 have g9:=n9.ge g5
 have k8:=n8.blk.below n9.below
 refine xsv 0 k8 [.slice pe ((Zd l root 2 fuel).es.length) ce,.slice pb nb cb,V0 dp,V0 lk,.slice pf nf cf] fun m8 h9 m4=>?_
 have k9:=h9.blkT n9.blk k8 (by decide)
 refine xsv 0 k9 [.slice a9 0 d9,V0 0] fun p3 h8 k0=>?_
 refine xb 6 1 k0 ?_
 have f9:=h8.own2 (h9.own2 (Zb (Zb (Zg d5 n1.below.size) n8.below) n9.below) k8 (by decide)) k9 (by decide)
 have j4:=h8.below (h9.below (bln g5 n9.below) g8) g9
 have j1:=h8.blk (h9.blkT (k1.below n9.below) k8 (by decide)) (Ne.symm (Ne.symm e9))
 have h4:=h8.blkT m4 k9 (by decide)
 refine zl 18 71 (fun zm m1 V=>∃ (i:Nat) (pm:O0) (cm:Nat),m1=[(2,V0 data),(9,P0 b1),(10,P0 b8),(12,.slice pm i cm),(13,V0 (i:Int))]∧zm=(Zd l root 2 fuel).es.length-((i:Int)).toNat∧B0 w V∧Blk V b1 ([S0,V0 0]) 52∧Blk V b8 ([.slice pe ((Zd l root 2 fuel).es.length) ce,.slice pb nb cb,V0 dp,V0 lk,.slice pf nf cf]) 202∧Blk V b9 ([.slice a9 0 d9,V0 0]) 52∧V.ownsRow w.heap.size 100 3 (.slice pe (Zd l root 2 fuel).es.length ce) (Zd l root 2 fuel).es.length ((Zd l root 2 fuel).es.flatMap Ji)∧V.ownsRow w.heap.size 110 3 (.slice pm i cm) i ((((Zd l root 2 fuel).es.take i).map Zdn).flatMap Wr)∧i≤(Zd l root 2 fuel).es.length∧Zcc data (Zd l root 2 fuel).es i) ⟨0,none,0,rfl,rfl,j4,j1,h4,k0,f9,World.ownsRow_nil _ _ _ _,Nat.zero_le _,fun j hj=>absurd hj (by omega)⟩ ?_
 rintro _ _ n7 ⟨i,pm,cm,rfl,rfl,a2,a3,a5,c4,d5,ho,hi,d7⟩ o0 f4 m7
 refine xb 5 0 a5 ?_
 refine xid 4 ((i:Int)<(↑((Zd l root 2 fuel).es.length):Int)) (fun i6=>?_) (fun i6=>?_)
 ·refine xb 7 0 a5 ?_
  refine xx 1 _ ((Zd l root 2 fuel).es.length) i 3 (Sts.cell (f:=Ji) (Zh d5) Xo Zn (k:=i) (i:=0) (by omega) rfl).1 ?_
  refine xlv 0 (Sts.rp (k:=i) (Zh d5) Xo Zn (by omega) (by decide)) ?_
  refine xa 0 [V0 0,.string ⟨#[]⟩,V0 0] 100 fun n5 n6 a1=>?_
  have d3:=a1.ge a2
  have b0:=Zw d5 a1
  refine xsv 0 a1.blk [V0 (((Zd l root 2 fuel).es.getD i Zn).1),.string ⟨(((Zd l root 2 fuel).es.getD i Zn).2.1).toArray⟩,V0 (((Zd l root 2 fuel).es.getD i Zn).2.2)] fun o9 a4 d8=>?_
  refine xb 5 1 d8 ?_
  refine xr 0 (args:=#[.string ⟨(((Zd l root 2 fuel).es.getD i Zn).2.1).toArray⟩]) (Aq ((Zd l root 2 fuel).es.getD i Zn).2.1 _ (Qj _ _ _ _ i (by omega))) fun o5 a0=>?_
  refine xg 15 [49,50] ((Xn Ku ((Zd l root 2 fuel).es.getD i Zn).2.1)==(0:Int)) (fun c0=>?_) (fun c0=>?_)
  ·have c0:=eq_of_beq c0
   refine xid 6 ((↑(Pl ((Zd l root 2 fuel).es.getD i Zn).2.1):Int)≥data) (fun i7=>?_) (fun i7=>?_)
   ·have e0:=d8.below a0
    refine xb 15 2 e0 ?_
    refine xc 1 (args:=#[V0 (((Zd l root 2 fuel).es.getD i Zn).2.2),V0 2]) (Xx ((Zd l root 2 fuel).es.getD i Zn).2.2 2 _ (by omega)) ?_
    rintro _ o6 ⟨pa,ca,rfl,f8,e2⟩
    have j6:=(bln (a4.below (bln a2 a1.below) d3) a0).size
    have a6:=((a4.blkT (a3.below a1.below) a1.blk (by decide)).below a0).below f8
    refine xsv 1 a6 [.slice pa 1 ca,V0 2] fun o8 j7 l2=>?_
    have g1:=n1.ge (B3 w)
    have f0:=j7.own2 (Zg e2 j6) a6 (by decide)
    have i4:=j7.below (bln (bln (a4.below (bln a2 a1.below) d3) a0) f8) g1
    exact xec 9 l2 (.tuple #[S0,.agg #[.slice pa 1 ca,V0 2]]) (Ma ((Hh d1).trans ((Wl (i:=i) (by omega) d7 (by rw[My (by omega) (by omega)];decide)).trans (by rw[My (by omega) (by omega)]))) (by decide) rfl i4 f0)
   refine xin 9 (Xn Ku ((Zd l root 2 fuel).es.getD i Zn).2.1) (0:Int) (fun j3=>?_) (fun j3=>?_)
   ·have h5:=d8.below a0
    refine xb 3 2 h5 ?_
    refine xc 1 (args:=#[V0 (((Zd l root 2 fuel).es.getD i Zn).2.2),V0 (Xn Ku ((Zd l root 2 fuel).es.getD i Zn).2.1)]) (Xx ((Zd l root 2 fuel).es.getD i Zn).2.2 (Xn Ku ((Zd l root 2 fuel).es.getD i Zn).2.1) _ (by omega)) ?_
    rintro _ p2 ⟨pa,ca,rfl,f6,e2⟩
    have i9:=(bln (a4.below (bln a2 a1.below) d3) a0).size
    have a7:=((a4.blkT (a3.below a1.below) a1.blk (by decide)).below a0).below f6
    refine xsv 1 a7 [.slice pa 1 ca,V0 (Xn Ku ((Zd l root 2 fuel).es.getD i Zn).2.1)] fun o4 j8 l1=>?_
    have g1:=n1.ge (B3 w)
    have g2:=j8.own2 (Zg e2 i9) a7 (by decide)
    have i0:=j8.below (bln (bln (a4.below (bln a2 a1.below) d3) a0) f6) g1
    exact xec 9 l1 (.tuple #[S0,.agg #[.slice pa 1 ca,V0 (Xn Ku ((Zd l root 2 fuel).es.getD i Zn).2.1)]]) (Ma ((Hh d1).trans ((Wl (i:=i) (by omega) d7 (by rw[Gd (by omega)];omega)).trans (by rw[Gd (by omega)]))) (by omega) rfl i0 g2)
   have f5:=d8.below a0
   refine xb 5 0 f5 ?_
   refine xbs 3 1 [V0 (((Zd l root 2 fuel).es.getD i Zn).1),V0 (↑(Pl ((Zd l root 2 fuel).es.getD i Zn).2.1):Int),V0 (↑(Mx ((Zd l root 2 fuel).es.getD i Zn).2.1):Int)] 110 fun m9 o3 c7=>?_
   have e7:=bln (a4.below (bln a2 a1.below) d3) a0
   have n0:=c7.ge e7
   have g6:=Zb (a4.own2 (Zb ho a1.below) a1.blk (by decide)) a0
   have i2:=Zw g6 c7
   have b5:=Zb g6 c7.below
   have d0:=bln e7 c7.below
   refine xbi 0 fun _ _ _ _ zJ zQ zo zx zy zK=>Zu (m:=1) (news:=[V0 (((Zd l root 2 fuel).es.getD i Zn).1),V0 (↑(Pl ((Zd l root 2 fuel).es.getD i Zn).2.1):Int),V0 (↑(Mx ((Zd l root 2 fuel).es.getD i Zn).2.1):Int)]) (.agg #[V0 0,V0 0,V0 0]) 3 24 (i+1) (((((Zd l root 2 fuel).es.take (i+1)).map Zdn).flatMap Wr)) zo Tryz.underlying106 (by kernel_rfl) rfl (by decide) zx b5 zy (c7.blk.sl 1 1 (by decide) (by decide)) rfl (by simp[Value.oneCell']) (by unfold maxLen;omega) (by omega) d0.size (rfl) (by rw[Mr (by omega)];rfl) fun l4 l0 n2 l9 c9 j2=>?_
   refine zK _ _ ?_
   refine xwm 6 ((i:Int)+1) (↑(i+1):Int) ?_
   have h3:=d0.trans j2
   have b2:=(((a4.blkT (a3.below a1.below) a1.blk (by decide)).below a0).below c7.below).grown c9 b5 (by decide)
   have c3:=(((a4.blkT (a5.below a1.below) a1.blk (by decide)).below a0).below c7.below).grown c9 b5 (by decide)
   have b6:=(((a4.blkT (c4.below a1.below) a1.blk (by decide)).below a0).below c7.below).grown c9 b5 (by decide)
   have e3:=Zj (Zb (Zb (a4.own3 (Zb d5 a1.below) b0) a0) c7.below) c9 b5 (by decide)
   exact ze 2 (f4 _ _ _ ⟨i+1,_,_,rfl,rfl,h3,b2,c3,b6,e3,l9,by omega,Pk d7 (Fy (by omega) (by omega))⟩ (by omega))
  have c0:=Yd c0
  refine xin 16 (Xn Ku ((Zd l root 2 fuel).es.getD i Zn).2.1) (0:Int) (fun j5=>?_) (fun j5=>?_)
  ·have f7:=d8.below a0
   refine xb 3 2 f7 ?_
   refine xc 1 (args:=#[V0 (((Zd l root 2 fuel).es.getD i Zn).2.2),V0 (Xn Ku ((Zd l root 2 fuel).es.getD i Zn).2.1)]) (Xx ((Zd l root 2 fuel).es.getD i Zn).2.2 (Xn Ku ((Zd l root 2 fuel).es.getD i Zn).2.1) _ (by omega)) ?_
   rintro _ o1 ⟨pa,ca,rfl,h0,e2⟩
   have i1:=(bln (a4.below (bln a2 a1.below) d3) a0).size
   have a8:=((a4.blkT (a3.below a1.below) a1.blk (by decide)).below a0).below h0
   refine xsv 1 a8 [.slice pa 1 ca,V0 (Xn Ku ((Zd l root 2 fuel).es.getD i Zn).2.1)] fun m6 j9 l5=>?_
   have g1:=n1.ge (B3 w)
   have f2:=j9.own2 (Zg e2 i1) a8 (by decide)
   have f3:=j9.below (bln (bln (a4.below (bln a2 a1.below) d3) a0) h0) g1
   exact xec 9 l5 (.tuple #[S0,.agg #[.slice pa 1 ca,V0 (Xn Ku ((Zd l root 2 fuel).es.getD i Zn).2.1)]]) (Ma ((Hh d1).trans ((Wl (i:=i) (by omega) d7 (by rw[Gd (by omega)];omega)).trans (by rw[Gd (by omega)]))) (by omega) rfl f3 f2)
  have g0:=d8.below a0
  refine xb 5 0 g0 ?_
  refine xbs 3 1 [V0 (((Zd l root 2 fuel).es.getD i Zn).1),V0 (↑(Pl ((Zd l root 2 fuel).es.getD i Zn).2.1):Int),V0 (↑(Mx ((Zd l root 2 fuel).es.getD i Zn).2.1):Int)] 110 fun p0 p1 c6=>?_
  have d4:=bln (a4.below (bln a2 a1.below) d3) a0
  have p4:=c6.ge d4
  have e6:=Zb (a4.own2 (Zb ho a1.below) a1.blk (by decide)) a0
  have j0:=Zw e6 c6
  have c1:=Zb e6 c6.below
  have d2:=bln d4 c6.below
  refine xbi 0 fun _ _ _ _ zJ zQ zo zx zy zK=>Zu (m:=1) (news:=[V0 (((Zd l root 2 fuel).es.getD i Zn).1),V0 (↑(Pl ((Zd l root 2 fuel).es.getD i Zn).2.1):Int),V0 (↑(Mx ((Zd l root 2 fuel).es.getD i Zn).2.1):Int)]) (.agg #[V0 0,V0 0,V0 0]) 3 24 (i+1) (((((Zd l root 2 fuel).es.take (i+1)).map Zdn).flatMap Wr)) zo Tryz.underlying106 (by kernel_rfl) rfl (by decide) zx c1 zy (c6.blk.sl 1 1 (by decide) (by decide)) rfl (by simp[Value.oneCell']) (by unfold maxLen;omega) (by omega) d2.size (rfl) (by rw[Mr (by omega)];rfl) fun m0 m3 o2 l6 c8 i3=>?_
  refine zK _ _ ?_
  refine xwm 6 ((i:Int)+1) (↑(i+1):Int) ?_
  have e4:=d2.trans i3
  have c2:=(((a4.blkT (a3.below a1.below) a1.blk (by decide)).below a0).below c6.below).grown c8 c1 (by decide)
  have b7:=(((a4.blkT (a5.below a1.below) a1.blk (by decide)).below a0).below c6.below).grown c8 c1 (by decide)
  have c5:=(((a4.blkT (c4.below a1.below) a1.blk (by decide)).below a0).below c6.below).grown c8 c1 (by decide)
  have e1:=Zj (Zb (Zb (a4.own3 (Zb d5 a1.below) b0) a0) c6.below) c8 c1 (by decide)
  exact ze 2 (f4 _ _ _ ⟨i+1,_,_,rfl,rfl,e4,c2,b7,c5,e1,l6,by omega,Pk d7 (Fy (by omega) (by omega))⟩ (by omega))
 refine xsv 10 a3 [S0,V0 0] fun o7 k2 l8=>?_
 have g1:=n1.ge (B3 w)
 have h6:=k2.own2 ho a3 (by decide)
 have h1:=k2.below a2 g1
 refine xec 3 l8 (.tuple #[.slice pm i cm,.agg #[S0,V0 0]]) ?_
 obtain rfl:i=(Zd l root 2 fuel).es.length:=by omega
 rw[List.take_of_length_le (Nat.le_refl _)] at h6
 exact rtell_ok ((Hh d1).trans (Df d7)) (List.length_map _) h1 h6
theorem any_at{l:List Ent}{k:Int}{i:Nat}(hi:i<l.length)(h:(l.getD i Zn).1=k):St l k=true:=Pc.2 ⟨l.getD i Zn,by rw[show l.getD i Zn=l[i] from by simp[List.getD,hi]];exact List.getElem_mem hi,h⟩
theorem any_none{l:List Ent}{k:Int}(h:∀ i,i<l.length→(l.getD i Zn).1≠k):St l k=false:=by
 rw[Bool.eq_false_iff]
 intro q
 obtain⟨y,hy,e⟩:=Pc.1 q
 obtain⟨i,hi,rfl⟩:=List.getElem_of_mem hy
 exact h i hi (by rw[show l.getD i Zn=l[i] from by simp[List.getD,hi]];exact e)
theorem lone_at{a b:List Ent}{i:Nat}(hi:i<a.length)(hp:∀ j,j<i→St b (a.getD j Zn).1=true)(h:St b (a.getD i Zn).1=false):Jp a b=some (a.getD i Zn).1:=by
 induction a generalizing i with
 | nil=>exact absurd hi (by simp)
 | cons x a ih =>
  rw[Vd]
  cases i with
  | zero=>rw[if_neg (by simpa [List.getD] using h)];rfl
  | succ i =>
   rw[if_pos (by simpa [List.getD] using hp 0 (by omega))]
   have:=ih (i:=i) (by simpa using hi) (fun j hj=>by simpa [List.getD] using hp (j+1) (by omega)) (by simpa [List.getD] using h)
   rw[this];simp[List.getD]
theorem lone_none{a b:List Ent}(hp:∀ j,j<a.length→St b (a.getD j Zn).1=true):Jp a b=none:=by
 induction a with
 | nil=>rfl
 | cons x a ih =>
  rw[Vd,if_pos (by simpa [List.getD] using hp 0 (by simp)),ih fun j hj=>by simpa [List.getD] using hp (j+1) (by simpa using hj)]
def Qw(a b:List Ent):Bool:=(Jp a b).isSome
def Ha(a b:List Ent):Int:=(Jp a b).getD 0
theorem ref24_has(a:O0)(c:Nat)(l:List Ent)(k:Int)(w:World)(h:Sts Ji w (.slice a l.length c) l)(hl:l.length≤1000000) :
 C0 155 #[.slice a l.length c,V0 k] w (Ret (.bool (St l k)) w):=by
 refine zin 19 Tryz.func155 ?_
 have hB:=Below.refl w.heap.size w
 refine zl 12 19 (fun zm a3 V=>∃ (i:Nat),a3=[(0,.slice a l.length c),(1,V0 k),(5,V0 (i:Int))]∧zm=l.length-((i:Int)).toNat∧B0 w V∧i≤l.length∧((∀ j,j<i→(l.getD j Zn).1≠k))) ⟨0,rfl,rfl,hB,Nat.zero_le _,?_⟩ ?_
 ·exact fun j hj=>absurd hj (by omega)
 rintro _ _ W1 ⟨i,rfl,rfl,a0,hi,hz⟩ J1 a1 r1
 refine xid 9 ((i:Int)<(l.length:Int)) (fun a4=>?_) (fun a4=>?_)
 ·refine xx 8 _ l.length i 3 (Sts.cell h Xo Zn (k:=i) (i:=0) (by omega) rfl).1 ?_
  refine xl 1 ((Sts.cell (h.below a0) Xo Zn (k:=i) (i:=0) (by omega) rfl).2) ?_
  refine xie 4 ((l.getD i Zn).1) k (fun a2=>?_) (fun a2=>?_)
  ·exact xe 11 (.bool true) ⟨by rw[any_at (i:=i) (by omega) (by omega)],a0⟩
  refine xwm 5 ((i:Int)+1) (↑(i+1):Int) ?_
  exact ze 2 (a1 _ _ _ ⟨i+1,rfl,rfl,a0,by omega,fun j hj=>(Nat.lt_or_ge j i).elim (fun q=>hz j q) (fun q=>by obtain rfl:j=i:=(by omega);first|assumption|omega)⟩ (by omega))
 exact xe 11 (.bool false) ⟨by rw[any_none fun j hj=>hz j (by omega)],a0⟩
theorem So(a b:O0)(c d:Nat)(la lb:List Ent)(w:World)(ha:Sts Ji w (.slice a la.length c) la)(hb:Sts Ji w (.slice b lb.length d) lb)(hla:la.length≤1000000)(hlb:lb.length≤1000000) :
 C0 98 #[.slice a la.length c,.slice b lb.length d] w (Ret (.tuple #[V0 (Ha la lb),.bool (Qw la lb)]) w):=by
 refine zin 26 Tryz.func98 ?_
 have hB:=Below.refl w.heap.size w
 refine zl 13 26 (fun zm a6 V=>∃ (i:Nat),a6=[(0,.slice a la.length c),(1,.slice b lb.length d),(6,V0 (i:Int))]∧zm=la.length-((i:Int)).toNat∧B0 w V∧i≤la.length∧((∀ j,j<i→St lb (la.getD j Zn).1=true))) ⟨0,rfl,rfl,hB,Nat.zero_le _,?_⟩ ?_
 ·exact fun j hj=>absurd hj (by omega)
 rintro _ _ W1 ⟨i,rfl,rfl,a0,hi,hz⟩ J1 a5 r1
 refine xid 9 ((i:Int)<(la.length:Int)) (fun a7=>?_) (fun a7=>?_)
 ·refine xx 9 _ la.length i 3 (Sts.cell ha Xo Zn (k:=i) (i:=0) (by omega) rfl).1 ?_
  refine xl 1 ((Sts.cell (ha.below a0) Xo Zn (k:=i) (i:=0) (by omega) rfl).2) ?_
  refine xr 0 (args:=#[.slice b lb.length d,V0 ((la.getD i Zn).1)]) (ref24_has b d lb (la.getD i Zn).1 _ (hb.below a0) hlb) fun W3 a3=>?_
  refine xi 3 (!(St lb (la.getD i Zn).1)) (fun a4=>?_) (fun a4=>?_)
  ·refine xx 4 _ la.length i 3 (Sts.cell ha Xo Zn (k:=i) (i:=0) (by omega) rfl).1 ?_
   have a1:=bln a0 a3
   refine xl 1 ((Sts.cell (ha.below a1) Xo Zn (k:=i) (i:=0) (by omega) rfl).2) ?_
   exact xe 10 (.tuple #[V0 ((la.getD i Zn).1),.bool true]) ⟨by unfold Ha Qw;rw[lone_at (i:=i) (by omega) hz (by simpa using (by assumption:(!St lb (la.getD i Zn).1)=true))];rfl,a1⟩
  refine xwm 5 ((i:Int)+1) (↑(i+1):Int) ?_
  have a2:=bln a0 a3
  exact ze 2 (a5 _ _ _ ⟨i+1,rfl,rfl,a2,by omega,fun j hj=>(Nat.lt_or_ge j i).elim (fun q=>hz j q) (fun q=>by obtain rfl:j=i:=(by omega);simpa using (by assumption:(!St lb (la.getD j Zn).1)=false))⟩ (by omega))
 exact xe 12 (.tuple #[V0 0,.bool false]) ⟨by unfold Ha Qw;rw[lone_none fun j hj=>hz j (by omega)];rfl,a0⟩
end Go.Proofs.YtgphgaehfdfjjaaGreatDoor
namespace Go.Proofs.YtgphgaehfdfjjaaGreatDoor
set_option maxHeartbeats 8000000
set_option maxRecDepth 100000
open Go.RowKit
set_option linter.unusedVariables false
theorem run_cat{P:Program}{a:Act}{o:Oper}{t t2:TypeId}{x y:Operand}{l m:Bl}(ho:o.op=.binOp .add t x y t2)(hx:a.eval x=.string ⟨l.toArray⟩)(hy:a.eval y=.string ⟨m.toArray⟩)(hl:l.length+m.length≤1000000)(w:World):(execOp a.eval o).run P w=.ok (.value (.string ⟨(l++m).toArray⟩)) w:=by
 have e:(⟨l.toArray⟩:ByteArray)++⟨m.toArray⟩=⟨(l++m).toArray⟩:=by
  apply ByteArray.ext
  simp
 have g:binOp .add t (.string ⟨l.toArray⟩) (.string ⟨m.toArray⟩)=pure (.string ((⟨l.toArray⟩:ByteArray)++⟨m.toArray⟩)):=by
  have h:¬ (9223372036854775807:Int)<((⟨l.toArray⟩:ByteArray).size:Int)+((⟨m.toArray⟩:ByteArray).size:Int):=by simp[ByteArray.size];omega
  simp[binOp,Op.stringOp]
  intro q;exact absurd q h
 have q:eqGuard .add t x y (.string ⟨l.toArray⟩:Value) (.string ⟨m.toArray⟩:Value)=pure ():=rfl
 simp only[execOp,ho,hx,hy,g,e,q]
 simp
end Go.Proofs.YtgphgaehfdfjjaaGreatDoor
namespace Go.Proofs.YtgphgaehfdfjjaaGreatDoor
set_option maxHeartbeats 8000000
set_option maxRecDepth 100000
open Go.RowKit Go.Extern.Stop Go.Stop Go.Extern
set_option linter.unusedVariables false
attribute [local irreducible] wpList wpAnyH Code.wp Oper.wp Go
theorem Mo(n lo hi:Int)(w:World) :
 C0 191 #[V0 n,V0 lo,V0 hi] w (Ret (.bool (decide (lo≤n∧n≤hi))) w):=by
 refine zin 15 Tryz.func191 ?_
 refine xg 11 [9,10] (decide (n≥lo)) (fun a0=>?_) (fun a0=>?_)
 ·have a0:=of_decide_eq_true a0
  exact xe 8 (.bool (decide (n≤hi))) ⟨by rw[show decide (lo≤n∧n≤hi)=decide (n≤hi) from by simp;omega],(B3 w)⟩
 have a0:=of_decide_eq_false a0
 exact xe 8 (.bool false) ⟨by rw[show decide (lo≤n∧n≤hi)=false from decide_eq_false (by omega)],(B3 w)⟩
def Ze9(N:List Int)(ws:List Nat)(k:Nat):Bl:=(List.range k).flatMap fun i=>leB (N.getD i 0) (ws.getD i 0)
theorem Rm(N:List Int)(ws:List Nat)(k:Nat):Ze9 N ws (k+1)=Ze9 N ws k++leB (N.getD k 0) (ws.getD k 0):=by simp[Ze9,List.range_succ]
def TxtOk(N:List Int)(ws:List Nat):Prop:=N.length≤100∧ws.length=N.length∧∀ i,i<N.length→0≤N.getD i 0∧N.getD i 0<9223372036854775808∧ws.getD i 0≤8
theorem Zed{N:List Int}{ws:List Nat}(h:TxtOk N ws):∀ k,k≤N.length→(Ze9 N ws k).length≤k*8
 | 0,_=>Nat.zero_le _
 | k+1,hk=>by
  rw[Rm,List.length_append,Zt]
  have:=Zed h k (by omega)
  have:=(h.2.2 k (by omega)).2.2
  omega
theorem Zcu(N:List Int)(ws:List Nat)(gn gw:O0)(cn cw:Nat)(w:World)(hok:TxtOk N ws)(hN:Sl w (.slice gn N.length cn) N.length (N.map V0))(hW:Sl w (.slice gw N.length cw) N.length (ws.map nv)) :
 C0 192 #[.slice gn N.length cn,.slice gw N.length cw] w (Ret (.string ⟨(Ze9 N ws N.length).toArray⟩) w):=by
 have b1:=hok.1
 have a4:=hok.2.1
 refine zin 26 Tryz.func192 ?_
 have hB:=Below.refl w.heap.size w
 refine zl 17 26 (fun zm a7 V=>∃ (i:Nat),a7=[(0,.slice gn N.length cn),(1,.slice gw N.length cw),(4,.string ⟨#[]⟩),(5,.string ⟨(Ze9 N ws i).toArray⟩),(6,V0 (i:Int))]∧zm=N.length-((i:Int)).toNat∧B0 w V∧i≤N.length) ⟨0,rfl,rfl,hB,Nat.zero_le _⟩ ?_
 rintro _ _ W1 ⟨i,rfl,rfl,a1,hi⟩ J1 a6 r1
 have a9:=Zed hok i hi
 have b0:i<N.length→ws.getD i 0≤8:=fun q=>(hok.2.2 i q).2.2
 refine xid 9 ((i:Int)<(N.length:Int)) (fun a8=>?_) (fun a8=>?_)
 ·refine xd 4 .z ?_
  refine xx (.e [0,1,2] 3) _ N.length i 1 (IntsN.elem hN rfl (k:=i) (by omega)).1 ?_
  have a0:=bln a1 (Za W1)
  refine xl (.e [] 4) ((IntsN.elem (hN.below a0) rfl (k:=i) (by omega)).2) ?_
  refine xx (.e [5,6] 7) _ N.length i 1 (Zm hW a4 (k:=i) (by omega)).1 ?_
  refine xl (.e [] 8) ((Zm (hW.below a0) a4 (k:=i) (by omega)).2) ?_
  refine yc (.o [] 9) (args:=#[V0 (N.getD i 0),V0 (↑(ws.getD i 0):Int)]) .z (Tq (N.getD i 0) (ws.getD i 0) (↑(ws.getD i 0):Int) _ (hok.2.2 i (by omega)).1 (hok.2.2 i (by omega)).2.1 rfl (hok.2.2 i (by omega)).2.2) ?_
  rintro _ W3 ⟨_,rfl,a5,p2,c2,rfl,h2⟩
  refine⟨a5,?_⟩
  have a3:=Zg h2 a0.size
  refine xcv (.e [] 10) (fun _ _ _ zo zx V hV=>Jf zo zx (Ko (Zh (Zb a3 hV)) (Zt _ _)) (Zt _ _) Tryz.underlying22 Tryz.underlying5 Tryz.underlying9) ?_
  refine xbo (.e [] 11) (t:=9) (t2:=9) (fun _ _ _ _ zo zx zy V hV=>run_cat (l:=Ze9 N ws i) (m:=leB (N.getD i 0) (ws.getD i 0)) zo zx zy (by rw[Zt];omega) V) ?_
  refine xwm (.r [12] 5) ((i:Int)+1) (↑(i+1):Int) ?_
  refine xv1 2 5 (show(.string ⟨(Ze9 N ws i++leB (N.getD i 0) (ws.getD i 0)).toArray⟩:Value)=.string ⟨(Ze9 N ws (i+1)).toArray⟩ from by rw[Rm]) ?_
  have a2:=bln a0 a5
  exact ze 0 (a6 _ _ _ ⟨i+1,rfl,rfl,a2,by omega⟩ (by omega))
 refine xe 12 (.string ⟨(Ze9 N ws i).toArray⟩) ?_
 obtain rfl:i=N.length:=by omega
 exact⟨rfl,a1⟩
def Ze5(x y z u:Int):Bool:=decide (0≤x∧x≤16384)&&decide (0≤y∧y≤2147483647)&&decide (0≤z∧z≤16777215)&&decide (0≤u∧u≤16777215)
def DetStrP(x y z u:Int)(w:World)(e:Ending)(w':World):Prop :=
 (Ze5 x y z u=false∧e=.returned (.string ⟨#[]⟩)∧B0 w w')∨(Ze5 x y z u=true∧e=.returned (.string ⟨(Ze9 [x,y,z,u] [8,8,4,4] 4).toArray⟩)∧B0 w w')
theorem detQ_ok{x y z u:Int}(h:Ze5 x y z u=true):TxtOk [x,y,z,u] [8,8,4,4]:=by
 unfold Ze5 at h
 simp only[Bool.and_eq_true,decide_eq_true_iff] at h
 refine⟨show 4≤100 from by decide,rfl,fun i hi=>?_⟩
 have a0:i<4:=hi
 obtain rfl|rfl|rfl|rfl:i=0∨i=1∨i=2∨i=3:=by omega
 all_goals simp[List.getD]
 all_goals omega
theorem txt4_ne(x y z u:Int):((⟨(Ze9 [x,y,z,u] [8,8,4,4] 4).toArray⟩:ByteArray).toList==(⟨#[]⟩:ByteArray).toList)=false:=by
 rw[show(⟨#[]⟩:ByteArray)=⟨([]:Bl).toArray⟩ from rfl,Lk]
 apply beq_false_of_ne
 intro q
 have h1:=congrArg List.length q
 rw[Rm,List.length_append,Zt,List.length_nil] at h1
 simp at h1
theorem Ze3(s:Bl):Pu Jg s=[Zi s 0 8,Zi s 8 8,Zi s 16 4,Zi s 20 4]:=rfl
theorem Lo(s:Bl):Uk Jg s=Ze5 (↑(Zi s 0 8):Int) (↑(Zi s 8 8):Int) (↑(Zi s 16 4):Int) (↑(Zi s 20 4):Int):=by
 unfold Uk Pw Ze5
 rw[Ze3]
 simp[Jg,List.range,List.range.loop,inP,List.getD,Yq,Bool.and_assoc]
theorem Ay:(Gw Jg Jg.length).sum=24:=rfl
def UnpRD(s:Bl)(w:World)(e:Ending)(w':World):Prop :=
 (¬ (Zi s 0 8<9223372036854775808∧Zi s 8 8<9223372036854775808)∧e=.returned (.tuple #[S0,V0 2])∧B0 w w') ∨
 ((Zi s 0 8<9223372036854775808∧Zi s 8 8<9223372036854775808)∧∃ p c,e=.returned (.tuple #[.slice p 4 c,V0 0])∧B0 w w'∧w'.ownsRow w.heap.size 3 1 (.slice p 4 c) 4 (([Zi s 0 8,Zi s 8 8,Zi s 16 4,Zi s 20 4]:List Nat).map nv))
theorem Zci(a:O0)(n c:Nat)(s:Bl)(g:Nat)(w:World)(hn:s.length=n)(h24:n=24)(h:Bys w (.slice a n c) s)(kg:Blk w g [V0 8,V0 8,V0 4,V0 4] 3) :
 C0 151 #[.slice a n c,.slice (S1 g) 4 4] w (UnpRD s w):=by
 subst hn
 have hk:∀ i,i<([8,8,4,4]:List Nat).length→([8,8,4,4]:List Nat).getD i 0=1∨([8,8,4,4]:List Nat).getD i 0=2∨([8,8,4,4]:List Nat).getD i 0=4∨([8,8,4,4]:List Nat).getD i 0=8:=by decide
 have a0:Sl w (.slice (S1 g) 4 4) 4 (([8,8,4,4]:List Nat).map nv):=kg.sl 4 4 (by decide) (by decide)
 have h1:=Ym s 16 4 (by decide)
 have h2:=Ym s 20 4 (by decide)
 by_cases hq:Zi s 0 8<9223372036854775808∧Zi s 8 8<9223372036854775808
 ·refine(Lf a c s (S1 g) 4 [8,8,4,4] w hk (by rw[h24];decide) (by omega) (by decide) h a0 ?_).mono ?_
  ·intro i hi
   have a1:i<4:=hi
   obtain rfl|rfl|rfl|rfl:i=0∨i=1∨i=2∨i=3:=by omega
   ·exact hq.1
   ·exact hq.2
   ·show Zi s 16 4<_;omega
   ·show Zi s 20 4<_;omega
  ·rintro e W ⟨_,rfl,hb,p,c2,rfl,ho⟩
   exact .inr ⟨hq,p,c2,rfl,hb,ho⟩
 ·refine(Sb a c s (S1 g) 4 [8,8,4,4] w hk (by rw[h24];decide) (by omega) (by decide) h a0 ?_).mono ?_
  ·intro q;exact hq ⟨q 0 (by decide),q 1 (by decide)⟩
  ·rintro e W ⟨rfl,hb⟩
   exact .inl ⟨hq,rfl,hb⟩
theorem Zai(x y z u:Int)(w:World) :
 C0 156 #[.agg #[V0 x,V0 y,V0 z,V0 u]] w (DetStrP x y z u w):=by
 refine zin 36 Tryz.func156 ?_
 refine xa 2 [V0 x,V0 y,V0 z,V0 u] 105 fun b1 W1 n1=>?_
 refine xb 7 0 n1.blk ?_
 refine xr 0 (args:=#[V0 x,V0 0,V0 16384]) (Mo x 0 16384 _) fun W2 b0=>?_
 refine xg 2 [6,7] (!(decide ((0:Int)≤x∧x≤16384))) (fun c1=>?_) (fun c1=>?_)
 ·have c3:(decide ((0:Int)≤x∧x≤16384))=false:=Cx c1
  have hB:=bln n1.below b0
  exact xe 27 (.string ⟨#[]⟩) (.inl ⟨by unfold Ze5;first|(rw[c3];done)|(rw[c3];rfl)|(rw[c3];simp),rfl,hB⟩)
 have a0:(decide ((0:Int)≤x∧x≤16384))=true:=Cw c1
 have b6:=n1.blk.below b0
 refine xb 1 1 b6 ?_
 refine xr 0 (args:=#[V0 y,V0 0,V0 2147483647]) (Mo y 0 2147483647 _) fun W6 b5=>?_
 refine xg 3 [11,12,13] (!(decide ((0:Int)≤y∧y≤2147483647))) (fun c0=>?_) (fun c0=>?_)
 ·have c5:(decide ((0:Int)≤y∧y≤2147483647))=false:=Cx c0
  have hB:=bln (bln n1.below b0) b5
  exact xe 21 (.string ⟨#[]⟩) (.inl ⟨by unfold Ze5;first|(rw[a0,c5];done)|(rw[a0,c5];rfl)|(rw[a0,c5];simp),rfl,hB⟩)
 have a4:(decide ((0:Int)≤y∧y≤2147483647))=true:=Cw c0
 have b2:=b6.below b5
 refine xb 1 2 b2 ?_
 refine xr 0 (args:=#[V0 z,V0 0,V0 16777215]) (Mo z 0 16777215 _) fun d1 a3=>?_
 refine xg 3 [17,18,19] (!(decide ((0:Int)≤z∧z≤16777215))) (fun a5=>?_) (fun a5=>?_)
 ·have a7:(decide ((0:Int)≤z∧z≤16777215))=false:=Cx a5
  have hB:=bln (bln (bln n1.below b0) b5) a3
  exact xe 15 (.string ⟨#[]⟩) (.inl ⟨by unfold Ze5;first|(rw[a0,a4,a7];done)|(rw[a0,a4,a7];rfl)|(rw[a0,a4,a7];simp),rfl,hB⟩)
 have a2:(decide ((0:Int)≤z∧z≤16777215))=true:=Cw a5
 have b4:=b2.below a3
 refine xb 1 3 b4 ?_
 refine xr 0 (args:=#[V0 u,V0 0,V0 16777215]) (Mo u 0 16777215 _) fun d3 a6=>?_
 refine xi 4 (!(decide ((0:Int)≤u∧u≤16777215))) (fun a9=>?_) (fun a9=>?_)
 ·have a8:(decide ((0:Int)≤u∧u≤16777215))=false:=Cx a9
  have hB:=bln (bln (bln (bln n1.below b0) b5) a3) a6
  exact xe 7 (.string ⟨#[]⟩) (.inl ⟨by unfold Ze5;first|(rw[a0,a4,a2,a8];done)|(rw[a0,a4,a2,a8];rfl)|(rw[a0,a4,a2,a8];simp),rfl,hB⟩)
 have c4:(decide ((0:Int)≤u∧u≤16777215))=true:=Cw a9
 have a1:=b4.below a6
 refine xb 5 0 a1 ?_
 refine xb 1 1 a1 ?_
 refine xb 1 2 a1 ?_
 refine xb 1 3 a1 ?_
 refine xbs 0 4 [V0 x,V0 y,V0 z,V0 u] 3 fun c7 d0 c2=>?_
 refine xbs 0 4 [V0 8,V0 8,V0 4,V0 4] 3 fun c6 c9 b8=>?_
 have b7:=b8.ne c2.blk
 have c8:Ze5 x y z u=true:=by
  unfold Ze5
  rw[a0,a4,a2,c4];rfl
 have b3:=c2.blk.below b8.below
 refine xr 0 (args:=#[.slice (S1 c7) 4 4,.slice (S1 c6) 4 4]) (Zcu [x,y,z,u] [8,8,4,4] (S1 c7) (S1 c6) 4 4 _ (detQ_ok c8) (b3.sl 4 4 (by decide) (by decide)) (b8.blk.sl 4 4 (by decide) (by decide))) fun d2 b9=>?_
 have hB:=bln (bln (bln (bln (bln (bln (bln n1.below b0) b5) a3) a6) c2.below) b8.below) b9
 exact xe 4 (.string ⟨(Ze9 [x,y,z,u] [8,8,4,4] 4).toArray⟩) (.inr ⟨c8,rfl,hB⟩)
theorem Wc(s:Bl)(w:World)(hs:s.length≤1000) :
 C0 99 #[.string ⟨s.toArray⟩] w (Ret (.tuple #[.agg #[V0 (↑(Yn s 0):Int),V0 (↑(Yn s 1):Int),V0 (↑(Yn s 2):Int),V0 (↑(Yn s 3):Int)],V0 (Xn Jg s)]) w):=by
 refine zin 39 Tryz.func99 ?_
 refine xa 2 [V0 0,V0 0,V0 0,V0 0] 105 fun b1 W1 n1=>?_
 refine xin 11 (s.length:Int) (24:Int) (fun b9=>?_) (fun b9=>?_)
 ·refine xsv 3 n1.blk [V0 0,V0 0,V0 0,V0 0] fun W3 u3 k3=>?_
  have g1:=n1.ge (B3 w)
  have hB:=u3.below n1.below g1
  refine xec 5 k3 (.tuple #[.agg #[V0 0,V0 0,V0 0,V0 0],V0 7]) ?_
  have he:Xn Jg s=7:=if_neg (by rw[Ay];omega)
  unfold Yn Qi
  rw[he,if_neg (by decide)];exact⟨rfl,hB⟩
 refine xcf 5 fun _ _ _ zJ zQ zo zx zK=>Kl s zo zx Tryz.underlying9 Tryz.underlying22 Tryz.underlying5 (by omega) ?_
 intro bz cz W4 a3 b6
 refine zK _ _ ?_
 refine xbs 0 4 [V0 8,V0 8,V0 4,V0 4] 3 fun b5 W5 n5=>?_
 have a5:=b6.below n5.below
 refine xc 0 (args:=#[.slice (S1 bz) s.length cz,.slice (S1 b5) 4 4]) (Zci (S1 bz) s.length cz s b5 _ rfl (by omega) a5 n5.blk) ?_
 rintro e W6 c1
 rcases c1 with ⟨hq,rfl,a4⟩|⟨hq,p5,c5,rfl,a4,h5⟩
 ·have k1:=((n1.blk.below a3).below n5.below).below a4
  refine xsv 18 k1 [V0 0,V0 0,V0 0,V0 0] fun W7 u7 k7=>?_
  have g1:=n1.ge (B3 w)
  have hB:=u7.below (bln (bln (bln n1.below a3) n5.below) a4) g1
  refine xec 5 k7 (.tuple #[.agg #[V0 0,V0 0,V0 0,V0 0],V0 2]) ?_
  have he:Xn Jg s=2:=by unfold Xn;rw[Ay,if_pos (by omega),Lo,show Ze5 (↑(Zi s 0 8):Int) (↑(Zi s 8 8):Int) (↑(Zi s 16 4):Int) (↑(Zi s 20 4):Int)=false from by unfold Ze5;rw[Bool.eq_false_iff];intro q;simp only[Bool.and_eq_true,decide_eq_true_iff] at q;exact hq ⟨by omega,by omega⟩,if_neg (by decide)]
  unfold Yn Qi
  rw[he,if_neg (by decide)];exact⟨rfl,hB⟩
 have c0:=(bln (bln n1.below a3) n5.below).size
 refine xd 18 (.t w.heap.size [105]) ?_
 have a0:=Zb (Zg h5 c0) (Za W6)
 refine xx (.e [0] 1) _ 4 0 1 (Zm (l:=[Zi s 0 8,Zi s 8 8,Zi s 16 4,Zi s 20 4]) (Zh a0) rfl (k:=0) (by decide)).1 ?_
 refine xlt (.e [] 2) (.t w.heap.size [105]) (fun V hV=>(Zm (l:=[Zi s 0 8,Zi s 8 8,Zi s 16 4,Zi s 20 4]) (Zh (Zl a0 hV.2 (by decide))) rfl (k:=0) (by decide)).2) ?_
 refine xx (.e [3] 4) _ 4 1 1 (Zm (l:=[Zi s 0 8,Zi s 8 8,Zi s 16 4,Zi s 20 4]) (Zh a0) rfl (k:=1) (by decide)).1 ?_
 refine xlt (.e [] 5) (.t w.heap.size [105]) (fun V hV=>(Zm (l:=[Zi s 0 8,Zi s 8 8,Zi s 16 4,Zi s 20 4]) (Zh (Zl a0 hV.2 (by decide))) rfl (k:=1) (by decide)).2) ?_
 refine xx (.e [6] 7) _ 4 2 1 (Zm (l:=[Zi s 0 8,Zi s 8 8,Zi s 16 4,Zi s 20 4]) (Zh a0) rfl (k:=2) (by decide)).1 ?_
 refine xlt (.e [] 8) (.t w.heap.size [105]) (fun V hV=>(Zm (l:=[Zi s 0 8,Zi s 8 8,Zi s 16 4,Zi s 20 4]) (Zh (Zl a0 hV.2 (by decide))) rfl (k:=2) (by decide)).2) ?_
 refine xx (.e [9] 10) _ 4 3 1 (Zm (l:=[Zi s 0 8,Zi s 8 8,Zi s 16 4,Zi s 20 4]) (Zh a0) rfl (k:=3) (by decide)).1 ?_
 refine xlt (.e [] 11) (.t w.heap.size [105]) (fun V hV=>(Zm (l:=[Zi s 0 8,Zi s 8 8,Zi s 16 4,Zi s 20 4]) (Zh (Zl a0 hV.2 (by decide))) rfl (k:=3) (by decide)).2) ?_
 refine xa (.o [12] 13) [V0 0,V0 0,V0 0,V0 0] 105 fun b8 W8 n8=>?_
 have k1:=(((n1.blk.below a3).below n5.below).below a4).below (Za W6)
 have a2:=n8.ne k1
 have g8:=n8.ge (bln (bln (bln (bln n1.below a3) n5.below) a4) (Za W6))
 refine ysv (.o [] 14) n8.blk [V0 (↑(Zi s 0 8):Int),V0 (↑(Zi s 8 8):Int),V0 (↑(Zi s 16 4):Int),V0 (↑(Zi s 20 4):Int)] (.t w.heap.size [105]) fun W9 u9 k9=>⟨(Zo u9 n8.blk g8 (by decide)),?_⟩
 refine xlv 5 k9.rp ?_
 refine xc 0 (args:=#[.agg #[V0 (↑(Zi s 0 8):Int),V0 (↑(Zi s 8 8):Int),V0 (↑(Zi s 16 4):Int),V0 (↑(Zi s 20 4):Int)]]) (Zai (↑(Zi s 0 8):Int) (↑(Zi s 8 8):Int) (↑(Zi s 16 4):Int) (↑(Zi s 20 4):Int) _) ?_
 rintro e c3 a7
 rcases a7 with ⟨a8,rfl,a1⟩|⟨a8,rfl,a1⟩
 ·have b0:=(u9.blk (k1.below n8.below) (Ne.symm (Ne.symm a2))).below a1
  refine xsv 7 b0 [V0 0,V0 0,V0 0,V0 0] fun c4 b2 b7=>?_
  have g1:=n1.ge (B3 w)
  have hB:=b2.below (bln (u9.below (bln (bln (bln (bln (bln n1.below a3) n5.below) a4) (Za W6)) n8.below) g8) a1) g1
  refine xec 5 b7 (.tuple #[.agg #[V0 0,V0 0,V0 0,V0 0],V0 2]) ?_
  have he:Xn Jg s=2:=by unfold Xn;rw[Ay,if_pos (by omega),Lo,a8,if_neg (by decide)]
  unfold Yn Qi
  rw[he,if_neg (by decide)];exact⟨rfl,hB⟩
 refine xk 3 (show(((⟨(Ze9 [(↑(Zi s 0 8):Int),(↑(Zi s 8 8):Int),(↑(Zi s 16 4):Int),(↑(Zi s 20 4):Int)] [8,8,4,4] 4).toArray⟩:ByteArray).toList==(⟨#[]⟩:ByteArray).toList):Bool)=false from txt4_ne _ _ _ _) ?_
 have a9:=k9.below a1
 refine xlv 4 a9.rp ?_
 have a6:=(u9.blk (k1.below n8.below) (Ne.symm (Ne.symm a2))).below a1
 refine xsv 0 a6 [V0 (↑(Zi s 0 8):Int),V0 (↑(Zi s 8 8):Int),V0 (↑(Zi s 16 4):Int),V0 (↑(Zi s 20 4):Int)] fun c2 b4 b3=>?_
 have g1:=n1.ge (B3 w)
 have hB:=b4.below (bln (u9.below (bln (bln (bln (bln (bln n1.below a3) n5.below) a4) (Za W6)) n8.below) g8) a1) g1
 refine xec 4 b3 (.tuple #[.agg #[V0 (↑(Zi s 0 8):Int),V0 (↑(Zi s 8 8):Int),V0 (↑(Zi s 16 4):Int),V0 (↑(Zi s 20 4):Int)],V0 0]) ?_
 have he:Xn Jg s=0:=by unfold Xn;rw[Ay,if_pos (by omega),Lo,a8,if_pos rfl]
 unfold Yn Qi
 rw[he,if_pos rfl,Ze3];exact⟨rfl,hB⟩
def RDevsP(O:List Int×Int×List Dv)(w:World)(e:Ending)(w':World):Prop :=
 (O.2.1≠0∧∃ a c,e=.returned (.tuple #[S0,.agg #[.slice a O.1.length c,V0 O.2.1]])∧B0 w w'∧w'.ownsRow w.heap.size 3 1 (.slice a O.1.length c) O.1.length (O.1.map V0)) ∨
 (O.2.1=0∧∃ p c Z,e=.returned (.tuple #[.slice p O.2.2.length c,.agg #[S0,V0 0]])∧B0 w w'∧Z.map Prod.fst=O.2.2∧Xu w.heap.size w' Z∧w'.ownsRow w.heap.size 108 5 (.slice p O.2.2.length c) O.2.2.length (Z.flatMap Lg))
theorem Yf{O:List Int×Int×List Dv}{bl:List Int}{er:Int}{m c:Nat}{w W:World}{a:O0}(h:O=(bl,er,[]))(her:er≠0)(hm:bl.length=m)(hb:B0 w W)(ho:W.ownsRow w.heap.size 3 1 (.slice a m c) m (bl.map V0)):RDevsP O w (.returned (.tuple #[S0,.agg #[.slice a m c,V0 er]])) W:=by
 subst h hm;exact .inl ⟨her,a,c,rfl,hb,ho⟩
theorem Zeq{O:List Int×Int×List Dv}{L:List Dv}{Z:List Zv}{n c:Nat}{w W:World}{p:O0}(h:O=([],0,L))(hn:Z.length=n)(hZ:Z.map Prod.fst=L)(hb:B0 w W)(hM:Xu w.heap.size W Z)(ho:W.ownsRow w.heap.size 108 5 (.slice p n c) n (Z.flatMap Lg)):RDevsP O w (.returned (.tuple #[.slice p n c,.agg #[S0,V0 0]])) W:=by
 subst h
 have hl:L.length=n:=by rw[←hZ,List.length_map,hn]
 subst hl
 exact .inr ⟨rfl,p,c,Z,rfl,hb,hZ,hM,ho⟩
theorem Zfd{D T:List Ent}(h:docE D T=Qd D T):(Qw D T=true∧(Qw T D=false∨Ha D T<Ha T D)∧Qd D T=2)∨(Qw T D=true∧¬ (Qw D T=true∧Ha D T<Ha T D)∧Qd D T=1)∨(Qw D T=false∧Qw T D=false∧Qd D T=0):=by
 rw[←h]
 unfold docE Qw Ha
 cases h1:Jp D T with
 | none=>cases h2:Jp T D with
  | none=>simp
  | some b=>simp
 | some a=>cases h2:Jp T D with
  | none=>simp
  | some b=>by_cases q:a<b<;>simp[q]
theorem Zcx(l:Bl)(y:Ent)(data fuel:Int):(Qa l y data fuel).1.length≤40:=by
 unfold Qa Zag
 split
 ·rename_i h
  rw[(Qk h).2.1];exact Nat.le_trans (Zaj l (Qf y.2.1:Int) 2 fuel _ (Du (List.length_pos_iff.2 h))) (by decide)
 ·unfold Ol
  split<;>simp
theorem lone_p2{D T:List Ent}(hlc:(Qw D T=true∧(Qw T D=false∨Ha D T<Ha T D)∧Qd D T=2)∨(Qw T D=true∧¬ (Qw D T=true∧Ha D T<Ha T D)∧Qd D T=1)∨(Qw D T=false∧Qw T D=false∧Qd D T=0))(h1:Qw D T=true)(h2:(!Qw T D)=true∨Ha D T<Ha T D):Qd D T=2:=by
 rcases hlc with ⟨a1,a2,a3⟩|⟨a1,a2,a3⟩|⟨a1,a2,a3⟩
 ·exact a3
 ·exfalso
  rcases h2 with h2|h2
  ·rw[a1] at h2;cases h2
  ·exact a2 ⟨h1,h2⟩
 ·rw[a1] at h1;cases h1
theorem lone_p1{D T:List Ent}(hlc:(Qw D T=true∧(Qw T D=false∨Ha D T<Ha T D)∧Qd D T=2)∨(Qw T D=true∧¬ (Qw D T=true∧Ha D T<Ha T D)∧Qd D T=1)∨(Qw D T=false∧Qw T D=false∧Qd D T=0))(h1:Qw T D=true)(h2:Qw D T=false∨¬ Ha D T<Ha T D):Qd D T=1:=by
 rcases hlc with ⟨a1,a2,a3⟩|⟨a1,a2,a3⟩|⟨a1,a2,a3⟩
 ·exfalso
  rcases h2 with h2|h2
  ·rw[a1] at h2;cases h2
  ·rcases a2 with a2|a2
   ·rw[a2] at h1;cases h1
   ·exact h2 a2
 ·exact a3
 ·rw[a2] at h1;cases h1
theorem lone_p0{D T:List Ent}(hlc:(Qw D T=true∧(Qw T D=false∨Ha D T<Ha T D)∧Qd D T=2)∨(Qw T D=true∧¬ (Qw D T=true∧Ha D T<Ha T D)∧Qd D T=1)∨(Qw D T=false∧Qw T D=false∧Qd D T=0))(h1:Qw T D=false)(h2:Qw D T=false∨(!Qw T D)=false):Qd D T=0:=by
 rcases hlc with ⟨a1,a2,a3⟩|⟨a1,a2,a3⟩|⟨a1,a2,a3⟩
 ·exfalso
  rcases h2 with h2|h2
  ·rw[a1] at h2;cases h2
  ·rw[h1] at h2;cases h2
 ·rw[a1] at h1;cases h1
 ·exact a3
theorem Ea(B bm:Nat)(p:O0)(k c:Nat)(l:Bl)(data fuel:Int)(y:Ent)(w:World)(hI:RefI B bm p k c l w)(hfu:fuel≤1000):C0 101 #[P0 bm,V0 (↑(Qf y.2.1):Int),V0 data,V0 fuel] w (Zd2 (Qa l y data fuel) w):=Zf2 B bm p k c l (↑(Qf y.2.1):Int) data fuel w hI hfu
theorem Ap(B bm:Nat)(p:O0)(k c:Nat)(l:Bl)(top details data fuel:Int)(w:World)(hI:RefI B bm p k c l w)(hfu:fuel≤1000) :
 C0 45 #[P0 bm,V0 top,V0 details,V0 data,V0 fuel] w (RDevsP (Yk l top details data fuel) w):=by
 have jt:=(Ja l details 3 fuel hfu).1
 have il:=(Ja l top 1 fuel hfu).1
 have w4:=Zfd (Zaw (Ah l details 3 fuel).2.2.2.1 (Ah l top 1 fuel).2.2.2.1)
 refine zin 184 Tryz.func45 ?_
 refine xa 3 [S0,V0 0] 52 fun b1 W1 n1=>?_
 refine xc 7 (args:=#[P0 bm,V0 details,V0 3,V0 fuel]) (Wx B bm p k c l details 3 fuel _ hfu (hI.below n1.below)) ?_
 rintro e W2 kj
 rcases kj with ⟨e5,pe,ce,pb,cb,pf,nf,cf,a9,d9,rfl,x5,fi⟩|⟨e5,pd,cd,gf,gk,ey,ej,ep,fy,fc,ha,a2,d2,rfl,x5,hd⟩
 ·have iv:=Kd e5
  refine xa 3 [S0,S0,V0 0,V0 0,S0] 202 fun b3 W3 n3=>?_
  have dp:=bln n1.below x5
  have g3:=n3.ge dp
  refine xa 0 [S0,V0 0] 52 fun b4 W4 n4=>?_
  have k1:=(n1.blk.below x5).below n3.below
  have ab:=n4.ne k1
  have aj:=bln dp n3.below
  have g4:=n4.ge aj
  have k3:=n3.blk.below n4.below
  refine xsv 0 k3 [.slice pe 0 ce,.slice pb 0 cb,V0 0,V0 0,.slice pf nf cf] fun W5 u5 k5=>?_
  have k4:=u5.blkT n4.blk k3 (by decide)
  refine xsv 0 k4 [.slice a9 ((Xr (Zd l details 3 fuel)).1.length) d9,V0 ((Xr (Zd l details 3 fuel)).2)] fun W6 u6 k6=>?_
  refine xb 6 1 k6 ?_
  refine xk 3 (show(((Xr (Zd l details 3 fuel)).2 != (0:Int)):Bool)=true from bne_iff_ne.2 iv) ?_
  refine xd 1 (.t w.heap.size [52]) ?_
  have fz:=k6.below (Za W6)
  refine xlv (.o [1] 0) fz.rp ?_
  have r9:=(u6.blk (u5.blkT (k1.below n4.below) k3 (by decide)) (Ne.symm (Ne.symm ab))).below (Za W6)
  have g1:=n1.ge (B3 w)
  refine ysv (.o [] 2) r9 [.slice a9 ((Xr (Zd l details 3 fuel)).1.length) d9,V0 ((Xr (Zd l details 3 fuel)).2)] (.t w.heap.size [52]) fun W7 u7 k7=>⟨(Zo u7 r9 g1 (by decide)),?_⟩
  have y7:=u7.own2 (Zb (u6.own2 (u5.own2 (Zb (Zb (Zg fi n1.below.size) n3.below) n4.below) k3 (by decide)) k4 (by decide)) (Za W6)) r9 (by decide)
  have gv:=u7.below (bln (u6.below (u5.below (bln aj n4.below) g3) g4) (Za W6)) g1
  exact xec 4 k7 (.tuple #[S0,.agg #[.slice a9 ((Xr (Zd l details 3 fuel)).1.length) d9,V0 ((Xr (Zd l details 3 fuel)).2)]]) (Yf (devsO_d e5) (Kd e5) rfl gv y7)
 refine xa 3 [S0,S0,V0 0,V0 0,S0] 202 fun b8 W8 n8=>?_
 have cj:=bln n1.below x5
 have g8:=n8.ge cj
 refine xa 0 [S0,V0 0] 52 fun b9 W9 n9=>?_
 have k1:=(n1.blk.below x5).below n8.below
 have r0:=n9.ne k1
 have p5:=bln cj n8.below
 have g9:=n9.ge p5
 have k8:=n8.blk.below n9.below
 refine xsv 0 k8 [.slice pd ((Zd l details 3 fuel).es.length) cd,.slice gf gk ey,V0 ej,V0 ep,.slice fy fc ha] fun np u4 ia=>?_
 have k9:=u4.blkT n9.blk k8 (by decide)
 refine xsv 0 k9 [.slice a2 0 d2,V0 0] fun ol r6 et=>?_
 refine xb 6 1 et ?_
 have u2:=r6.below (u4.below (bln p5 n9.below) g8) g9
 refine xc 11 (args:=#[P0 bm,V0 top,V0 1,V0 fuel]) (Wx B bm p k c l top 1 fuel _ hfu (hI.below u2)) ?_
 rintro e lh eh
 rcases eh with ⟨e6,pe,ce,pb,cb,pf,nf,cf,a9,d9,rfl,e8,fi⟩|⟨e6,pt,ct,u3,s5,w1,s9,s6,t8,s3,t7,em,fv,rfl,e8,ht⟩
 ·have s7:=(r6.below (u4.below (bln p5 n9.below) g8) g9).size
  have kx:=Kd e6
  refine xa 3 [S0,S0,V0 0,V0 0,S0] 202 fun nm lu u9=>?_
  have aw:=(r6.blkT ia k9 (by decide)).below e8
  have gd:=u9.ne aw
  have bd:=bln u2 e8
  have ja:=u9.ge bd
  refine xa 0 [S0,V0 0] 52 fun nq ns q6=>?_
  have y0:=((r6.blk (u4.blkT (k1.below n9.below) k8 (by decide)) (Ne.symm (Ne.symm r0))).below e8).below u9.below
  have s0:=q6.ne y0
  have x0:=(et.below e8).below u9.below
  have ef:=q6.ne x0
  have cr:=bln bd u9.below
  have kf:=q6.ge cr
  have eb:=u9.blk.below q6.below
  refine xsv 0 eb [.slice pe 0 ce,.slice pb 0 cb,V0 0,V0 0,.slice pf nf cf] fun oh ed oc=>?_
  have hv:=ed.blkT q6.blk eb (by decide)
  refine xsv 0 hv [.slice a9 ((Xr (Zd l top 1 fuel)).1.length) d9,V0 ((Xr (Zd l top 1 fuel)).2)] fun dy hb ig=>?_
  refine xb 6 1 ig ?_
  refine xk 3 (show(((Xr (Zd l top 1 fuel)).2 != (0:Int)):Bool)=true from bne_iff_ne.2 kx) ?_
  refine xd 1 (.t w.heap.size [52]) ?_
  have du:=ig.below (Za dy)
  refine xlv (.o [1] 0) du.rp ?_
  have v8:=(hb.blk (ed.blkT (y0.below q6.below) eb (by decide)) (Ne.symm (Ne.symm s0))).below (Za dy)
  have g1:=n1.ge (B3 w)
  refine ysv (.o [] 2) v8 [.slice a9 ((Xr (Zd l top 1 fuel)).1.length) d9,V0 ((Xr (Zd l top 1 fuel)).2)] (.t w.heap.size [52]) fun lo ga ko=>⟨(Zo ga v8 g1 (by decide)),?_⟩
  have az:=ga.own2 (Zb (hb.own2 (ed.own2 (Zb (Zb (Zg fi s7) u9.below) q6.below) eb (by decide)) hv (by decide)) (Za dy)) v8 (by decide)
  have el:=ga.below (bln (hb.below (ed.below (bln cr q6.below) ja) kf) (Za dy)) g1
  exact xec 4 ko (.tuple #[S0,.agg #[.slice a9 ((Xr (Zd l top 1 fuel)).1.length) d9,V0 ((Xr (Zd l top 1 fuel)).2)]]) (Yf (devsO_t e5 e6) (Kd e6) rfl el az)
 have s7:=(r6.below (u4.below (bln p5 n9.below) g8) g9).size
 refine xa 3 [S0,S0,V0 0,V0 0,S0] 202 fun dw nk q1=>?_
 have q7:=(r6.blkT ia k9 (by decide)).below e8
 have u1:=q1.ne q7
 have r1:=bln u2 e8
 have l8:=q1.ge r1
 refine xa 0 [S0,V0 0] 52 fun ik nj d0=>?_
 have h4:=((r6.blk (u4.blkT (k1.below n9.below) k8 (by decide)) (Ne.symm (Ne.symm r0))).below e8).below q1.below
 have c9:=d0.ne h4
 have o2:=(et.below e8).below q1.below
 have o3:=d0.ne o2
 have b5:=bln r1 q1.below
 have l9:=d0.ge b5
 have l4:=q1.blk.below d0.below
 refine xsv 0 l4 [.slice pt ((Zd l top 1 fuel).es.length) ct,.slice u3 s5 w1,V0 s9,V0 s6,.slice t8 s3 t7] fun oe e0 kr=>?_
 have ao:=e0.blkT d0.blk l4 (by decide)
 refine xsv 0 ao [.slice em 0 fv,V0 0] fun nl e2 fn=>?_
 refine xb 6 1 fn ?_
 have o8:=e2.blkT (e0.blk ((q7.below q1.below).below d0.below) (Ne.symm (Ne.symm u1))) ao (by decide)
 refine xb 10 0 o8 ?_
 refine xid 4 ((↑((Zd l details 3 fuel).es.length):Int)>(4096:Int)) (fun eq=>?_) (fun eq=>?_)
 ·refine xc 3 (args:=#[V0 details,V0 2]) (Xx details 2 _ (by omega)) ?_
  rintro _ mf ⟨pa,ca,rfl,bf,c8⟩
  have ee:=(e2.below (e0.below (bln b5 d0.below) l8) l9).size
  have cs:=(e2.blk (e0.blkT (h4.below d0.below) l4 (by decide)) (Ne.symm (Ne.symm c9))).below bf
  refine xsv 1 cs [.slice pa 1 ca,V0 2] fun mc im jk=>?_
  have g1:=n1.ge (B3 w)
  have x9:=im.own2 (Zg c8 ee) cs (by decide)
  have dg:=im.below (bln (e2.below (e0.below (bln b5 d0.below) l8) l9) bf) g1
  exact xec 4 jk (.tuple #[S0,.agg #[.slice pa 1 ca,V0 2]]) (Yf (Ac e5 e6 (by omega)) (by decide) rfl dg x9)
 refine xb 5 0 o8 ?_
 have r2:=e2.blkT kr ao (by decide)
 refine xb 1 0 r2 ?_
 have dk:=e2.own2 (e0.own2 (Zb (Zb (Zb (r6.own2 (u4.own2 (Zb (Zb (Zg hd n1.below.size) n8.below) n9.below) k8 (by decide)) k9 (by decide)) e8) q1.below) d0.below) l4 (by decide)) ao (by decide)
 have ds:=e2.own2 (e0.own2 (Zb (Zb (Zg ht s7) q1.below) d0.below) l4 (by decide)) ao (by decide)
 refine xr 0 (args:=#[.slice pd ((Zd l details 3 fuel).es.length) cd,.slice pt ((Zd l top 1 fuel).es.length) ct]) (So pd pt cd ct (Zd l details 3 fuel).es (Zd l top 1 fuel).es _ (Zh dk) (Zh ds) (by omega) (by omega)) fun le a5=>?_
 have m1:=r2.below a5
 refine xb 10 0 m1 ?_
 have p0:=o8.below a5
 refine xb 1 0 p0 ?_
 have s8:=Zb dk a5
 have s4:=Zb ds a5
 refine xr 0 (args:=#[.slice pt ((Zd l top 1 fuel).es.length) ct,.slice pd ((Zd l details 3 fuel).es.length) cd]) (So pt pd ct cd (Zd l top 1 fuel).es (Zd l details 3 fuel).es _ (Zh s4) (Zh s8) (by omega) (by omega)) fun lr a3=>?_
 refine xg 12 [17,66,75,76] (Qw (Zd l details 3 fuel).es (Zd l top 1 fuel).es) (fun v4=>?_) (fun v4=>?_)
 ·have ky:=v4
  refine xg 3 [78,79] (!(Qw (Zd l top 1 fuel).es (Zd l details 3 fuel).es)) (fun v9=>?_) (fun v9=>?_)
  ·have kz:=v9
   refine xc 11 (args:=#[V0 top,V0 18]) (Xx top 18 _ (by omega)) ?_
   rintro _ ln ⟨pa,ca,rfl,dm,c8⟩
   have gy:=(bln (bln (e2.below (e0.below (bln b5 d0.below) l8) l9) a5) a3).size
   have x2:=(((e2.blk (e0.blkT (h4.below d0.below) l4 (by decide)) (Ne.symm (Ne.symm c9))).below a5).below a3).below dm
   refine xsv 1 x2 [.slice pa 1 ca,V0 18] fun lq hm ip=>?_
   have g1:=n1.ge (B3 w)
   have dl:=hm.own2 (Zg c8 gy) x2 (by decide)
   have ay:=hm.below (bln (bln (bln (e2.below (e0.below (bln b5 d0.below) l8) l9) a5) a3) dm) g1
   refine xec 4 ip (.tuple #[S0,.agg #[.slice pa 1 ca,V0 18]]) ?_
   have hh:Qd (Zd l details 3 fuel).es (Zd l top 1 fuel).es=2:=lone_p2 w4 (by assumption) (by first|exact .inl (by assumption)|exact .inr (by assumption))
   exact Yf (Iv e5 e6 (by omega) hh) (by decide) rfl ay dl
  have js:=v9
  refine xid 7 ((Ha (Zd l details 3 fuel).es (Zd l top 1 fuel).es)<(Ha (Zd l top 1 fuel).es (Zd l details 3 fuel).es)) (fun hg=>?_) (fun hg=>?_)
  ·refine xc 3 (args:=#[V0 top,V0 18]) (Xx top 18 _ (by omega)) ?_
   rintro _ lt ⟨pa,ca,rfl,dq,c8⟩
   have fw:=(bln (bln (e2.below (e0.below (bln b5 d0.below) l8) l9) a5) a3).size
   have ag:=(((e2.blk (e0.blkT (h4.below d0.below) l4 (by decide)) (Ne.symm (Ne.symm c9))).below a5).below a3).below dq
   refine xsv 1 ag [.slice pa 1 ca,V0 18] fun lk hw ke=>?_
   have g1:=n1.ge (B3 w)
   have dd:=hw.own2 (Zg c8 fw) ag (by decide)
   have di:=hw.below (bln (bln (bln (e2.below (e0.below (bln b5 d0.below) l8) l9) a5) a3) dq) g1
   refine xec 4 ke (.tuple #[S0,.agg #[.slice pa 1 ca,V0 18]]) ?_
   have hh:Qd (Zd l details 3 fuel).es (Zd l top 1 fuel).es=2:=lone_p2 w4 (by assumption) (by first|exact .inl (by assumption)|exact .inr (by assumption))
   exact Yf (Iv e5 e6 (by omega) hh) (by decide) rfl di dd
  refine xi 8 (Qw (Zd l top 1 fuel).es (Zd l details 3 fuel).es) (fun t0=>?_) (fun t0=>?_)
  ·have jl:=t0
   refine xc 3 (args:=#[V0 details,V0 18]) (Xx details 18 _ (by omega)) ?_
   rintro _ nc ⟨pa,ca,rfl,ap,c8⟩
   have gr:=(bln (bln (e2.below (e0.below (bln b5 d0.below) l8) l9) a5) a3).size
   have dn:=(((e2.blk (e0.blkT (h4.below d0.below) l4 (by decide)) (Ne.symm (Ne.symm c9))).below a5).below a3).below ap
   refine xsv 1 dn [.slice pa 1 ca,V0 18] fun md hx ix=>?_
   have g1:=n1.ge (B3 w)
   have cm:=hx.own2 (Zg c8 gr) dn (by decide)
   have cw:=hx.below (bln (bln (bln (e2.below (e0.below (bln b5 d0.below) l8) l9) a5) a3) ap) g1
   refine xec 4 ix (.tuple #[S0,.agg #[.slice pa 1 ca,V0 18]]) ?_
   have gh:Qd (Zd l details 3 fuel).es (Zd l top 1 fuel).es=1:=lone_p1 w4 (by assumption) (by first|exact .inl (by assumption)|exact .inr (by assumption))
   exact Yf (Dj e5 e6 (by omega) gh) (by decide) rfl cw cm
  have ji:=t0
  have h2:Qd (Zd l details 3 fuel).es (Zd l top 1 fuel).es=0:=lone_p0 w4 (by assumption) (by first|exact .inl (by assumption)|exact .inr (by assumption))
  have ir:=(Bb h2).1
  have gb:=Zb s8 a3
  have gg:=Zb s4 a3
  have z0:=bln (bln (e2.below (e0.below (bln b5 d0.below) l8) l9) a5) a3
  have fm:=((e2.blk (e0.blkT (h4.below d0.below) l4 (by decide)) (Ne.symm (Ne.symm c9))).below a5).below a3
  have bu:=p0.below a3
  have ad:=((e2.blk (e0.blkT (o2.below d0.below) l4 (by decide)) (Ne.symm (Ne.symm o3))).below a5).below a3
  have x1:=m1.below a3
  have dj:=(fn.below a5).below a3
  refine zl 19 184 (fun zm eu V=>∃ (i:Nat) (pz:O0) (cp:Nat) (Z:List Zv),eu=[(0,P0 bm),(3,V0 data),(4,V0 fuel),(11,P0 b1),(12,P0 b8),(14,P0 dw),(20,.slice pz i cp),(21,V0 (↑(Oh l (Zd l top 1 fuel).es data fuel i):Int)),(22,V0 (i:Int))]∧zm=(Zd l details 3 fuel).es.length-((i:Int)).toNat∧B0 w V∧Blk V b1 ([S0,V0 0]) 52∧Blk V b8 ([.slice pd ((Zd l details 3 fuel).es.length) cd,.slice gf gk ey,V0 ej,V0 ep,.slice fy fc ha]) 202∧Blk V b9 ([.slice a2 0 d2,V0 0]) 52∧Blk V dw ([.slice pt ((Zd l top 1 fuel).es.length) ct,.slice u3 s5 w1,V0 s9,V0 s6,.slice t8 s3 t7]) 202∧Blk V ik ([.slice em 0 fv,V0 0]) 52∧V.ownsRow w.heap.size 100 3 (.slice pd (Zd l details 3 fuel).es.length cd) (Zd l details 3 fuel).es.length ((Zd l details 3 fuel).es.flatMap Ji)∧V.ownsRow w.heap.size 100 3 (.slice pt (Zd l top 1 fuel).es.length ct) (Zd l top 1 fuel).es.length ((Zd l top 1 fuel).es.flatMap Ji)∧V.ownsRow w.heap.size 108 5 (.slice pz i cp) i (Z.flatMap Lg)∧Xu w.heap.size V Z∧i≤(Zd l details 3 fuel).es.length∧Z.length=i∧Z.map Prod.fst=devL l (Zd l details 3 fuel).es (Zd l top 1 fuel).es data fuel i∧devK l (Zd l details 3 fuel).es (Zd l top 1 fuel).es data fuel i∧(Oh l (Zd l top 1 fuel).es data fuel i)≤16384) ⟨0,none,0,[],rfl,rfl,z0,fm,bu,ad,x1,dj,gb,gg,World.ownsRow_nil _ _ _ _,Xu.nil _ _,Nat.zero_le _,rfl,rfl,fun j hj=>absurd hj (by omega),Nat.zero_le _⟩ ?_
  rintro _ _ nh ⟨i,pz,cp,Z,rfl,rfl,n7,c4,j3,m4,p2,j9,hd,ht,ho,y6,hi,ci,x8,i0,kq⟩ ma ft ny
  refine xb 5 0 j3 ?_
  refine xid 4 ((i:Int)<(↑((Zd l details 3 fuel).es.length):Int)) (fun fu=>?_) (fun fu=>?_)
  ·refine xb 7 0 j3 ?_
   refine xx 1 _ ((Zd l details 3 fuel).es.length) i 3 (Sts.cell (f:=Ji) (Zh hd) Xo Zn (k:=i) (i:=0) (by omega) rfl).1 ?_
   refine xlv 0 (Sts.rp (k:=i) (Zh hd) Xo Zn (by omega) (by decide)) ?_
   refine xa 0 [V0 0,.string ⟨#[]⟩,V0 0] 100 fun ls mt c6=>?_
   have kw:=c6.ge n7
   have u8:=Zw hd c6
   have r8:=Zw ht c6
   refine xsv 0 c6.blk [V0 (((Zd l details 3 fuel).es.getD i Zn).1),.string ⟨(((Zd l details 3 fuel).es.getD i Zn).2.1).toArray⟩,V0 (((Zd l details 3 fuel).es.getD i Zn).2.2)] fun ms i9 hz=>?_
   have f8:=i9.blkT (p2.below c6.below) c6.blk (by decide)
   refine xb 5 0 f8 ?_
   have p6:=i9.own3 (Zb ht c6.below) r8
   refine xx 1 _ ((Zd l top 1 fuel).es.length) i 3 (Sts.cell (f:=Ji) (Zh p6) Xo Zn (k:=i) (i:=0) (by omega) rfl).1 ?_
   refine xlv 0 (Sts.rp (k:=i) (Zh p6) Xo Zn (by omega) (by decide)) ?_
   refine xa 0 [V0 0,.string ⟨#[]⟩,V0 0] 100 fun mu mr c1=>?_
   have p7:=c1.ne hz
   have l0:=i9.below (bln n7 c6.below) kw
   have eo:=c1.ge l0
   have ae:=i9.own3 (Zb hd c6.below) u8
   have v3:=Zw ae c1
   have s1:=Zw p6 c1
   refine xsv 0 c1.blk [V0 (((Zd l top 1 fuel).es.getD i Zn).1),.string ⟨(((Zd l top 1 fuel).es.getD i Zn).2.1).toArray⟩,V0 (((Zd l top 1 fuel).es.getD i Zn).2.2)] fun lx g2 jp=>?_
   have f4:=g2.blk (hz.below c1.below) (Ne.symm (Ne.symm p7))
   refine xb 6 0 f4 ?_
   refine xid 3 (((Zd l details 3 fuel).es.getD i Zn).1>(16777215:Int)) (fun er=>?_) (fun er=>?_)
   ·refine xb 3 2 f4 ?_
    refine xc 0 (args:=#[V0 (((Zd l details 3 fuel).es.getD i Zn).2.2),V0 9]) (Xx (((Zd l details 3 fuel).es.getD i Zn).2.2) 9 _ (by omega)) ?_
    rintro _ mi ⟨pa,ca,rfl,ck,c8⟩
    have fg:=(g2.below (bln l0 c1.below) eo).size
    have i3:=(g2.blkT ((i9.blkT (c4.below c6.below) c6.blk (by decide)).below c1.below) c1.blk (by decide)).below ck
    refine xsv 1 i3 [.slice pa 1 ca,V0 9] fun mj hu la=>?_
    have g1:=n1.ge (B3 w)
    have bg:=hu.own2 (Zg c8 fg) i3 (by decide)
    have bj:=hu.below (bln (g2.below (bln l0 c1.below) eo) ck) g1
    refine xec 9 la (.tuple #[S0,.agg #[.slice pa 1 ca,V0 9]]) ?_
    have e9:Dl l (Zd l details 3 fuel).es (Zd l top 1 fuel).es data fuel i=_:=dev_1 (by omega)
    exact Yf ((Yc e5 e6 (by omega) h2).trans ((Qc (i:=i) (by omega) i0 (by rw[e9];first|decide|omega)).trans (by rw[e9]))) (by first|decide|omega) rfl bj bg
   refine xb 5 1 f4 ?_
   refine xr 0 (args:=#[.string ⟨(((Zd l details 3 fuel).es.getD i Zn).2.1).toArray⟩]) (Wc ((Zd l details 3 fuel).es.getD i Zn).2.1 _ (Qj _ _ _ _ i (by omega))) fun ld b7=>?_
   refine xa 3 [V0 0,V0 0,V0 0,V0 0] 105 fun og oi b0=>?_
   have d7:=bln (g2.below (bln l0 c1.below) eo) b7
   have t4:=b0.ge d7
   refine xsv 0 b0.blk [V0 (↑(Yn ((Zd l details 3 fuel).es.getD i Zn).2.1 0):Int),V0 (↑(Yn ((Zd l details 3 fuel).es.getD i Zn).2.1 1):Int),V0 (↑(Yn ((Zd l details 3 fuel).es.getD i Zn).2.1 2):Int),V0 (↑(Yn ((Zd l details 3 fuel).es.getD i Zn).2.1 3):Int)] fun lj e4 jv=>?_
   refine xin 10 (Xn Jg ((Zd l details 3 fuel).es.getD i Zn).2.1) (0:Int) (fun fk=>?_) (fun fk=>?_)
   ·have w5:=e4.blkT ((f4.below b7).below b0.below) b0.blk (by decide)
    refine xb 3 2 w5 ?_
    refine xc 1 (args:=#[V0 (((Zd l details 3 fuel).es.getD i Zn).2.2),V0 (Xn Jg ((Zd l details 3 fuel).es.getD i Zn).2.1)]) (Xx (((Zd l details 3 fuel).es.getD i Zn).2.2) (Xn Jg ((Zd l details 3 fuel).es.getD i Zn).2.1) _ (by omega)) ?_
    rintro _ mw ⟨pa,ca,rfl,bp,c8⟩
    have fj:=(e4.below (bln d7 b0.below) t4).size
    have h8:=(e4.blkT (((g2.blkT ((i9.blkT (c4.below c6.below) c6.blk (by decide)).below c1.below) c1.blk (by decide)).below b7).below b0.below) b0.blk (by decide)).below bp
    refine xsv 1 h8 [.slice pa 1 ca,V0 (Xn Jg ((Zd l details 3 fuel).es.getD i Zn).2.1)] fun lf ib jm=>?_
    have g1:=n1.ge (B3 w)
    have ah:=ib.own2 (Zg c8 fj) h8 (by decide)
    have dc:=ib.below (bln (e4.below (bln d7 b0.below) t4) bp) g1
    refine xec 9 jm (.tuple #[S0,.agg #[.slice pa 1 ca,V0 (Xn Jg ((Zd l details 3 fuel).es.getD i Zn).2.1)]]) ?_
    have e9:Dl l (Zd l details 3 fuel).es (Zd l top 1 fuel).es data fuel i=_:=dev_2 (by omega) (by omega)
    exact Yf ((Yc e5 e6 (by omega) h2).trans ((Qc (i:=i) (by omega) i0 (by rw[e9];first|decide|omega)).trans (by rw[e9]))) (by first|decide|omega) rfl dc ah
   have j4:=e4.blkT ((jp.below b7).below b0.below) b0.blk (by decide)
   refine xb 5 1 j4 ?_
   refine xr 0 (args:=#[.string ⟨(((Zd l top 1 fuel).es.getD i Zn).2.1).toArray⟩]) (Uf ((Zd l top 1 fuel).es.getD i Zn).2.1 _ (Qj _ _ _ _ i (by omega))) fun ng a4=>?_
   refine xin 14 (Xy ((Zd l top 1 fuel).es.getD i Zn).2.1) (0:Int) (fun ez=>?_) (fun ez=>?_)
   ·have w9:=j4.below a4
    refine xb 3 2 w9 ?_
    refine xc 1 (args:=#[V0 (((Zd l top 1 fuel).es.getD i Zn).2.2),V0 (Xy ((Zd l top 1 fuel).es.getD i Zn).2.1)]) (Xx (((Zd l top 1 fuel).es.getD i Zn).2.2) (Xy ((Zd l top 1 fuel).es.getD i Zn).2.1) _ (by omega)) ?_
    rintro _ ly ⟨pa,ca,rfl,ba,c8⟩
    have fb:=(bln (e4.below (bln d7 b0.below) t4) a4).size
    have h9:=((e4.blkT (((g2.blkT ((i9.blkT (c4.below c6.below) c6.blk (by decide)).below c1.below) c1.blk (by decide)).below b7).below b0.below) b0.blk (by decide)).below a4).below ba
    refine xsv 1 h9 [.slice pa 1 ca,V0 (Xy ((Zd l top 1 fuel).es.getD i Zn).2.1)] fun mv hq jz=>?_
    have g1:=n1.ge (B3 w)
    have x7:=hq.own2 (Zg c8 fb) h9 (by decide)
    have z2:=hq.below (bln (bln (e4.below (bln d7 b0.below) t4) a4) ba) g1
    refine xec 9 jz (.tuple #[S0,.agg #[.slice pa 1 ca,V0 (Xy ((Zd l top 1 fuel).es.getD i Zn).2.1)]]) ?_
    have e9:Dl l (Zd l details 3 fuel).es (Zd l top 1 fuel).es data fuel i=_:=dev_3 (by omega) (by omega) (by omega)
    exact Yf ((Yc e5 e6 (by omega) h2).trans ((Qc (i:=i) (by omega) i0 (by rw[e9];first|decide|omega)).trans (by rw[e9]))) (by first|decide|omega) rfl z2 x7
   have n2:=bln (e4.below (bln d7 b0.below) t4) a4
   refine xc 8 (args:=#[P0 bm,V0 (↑(Qf ((Zd l top 1 fuel).es.getD i Zn).2.1):Int),V0 data,V0 fuel]) (Ea B bm p k c l data fuel ((Zd l top 1 fuel).es.getD i Zn) _ (hI.below n2) hfu) ?_
   rintro e od gz
   rcases gz with ⟨j1,a8,d8,rfl,b6,gt⟩|⟨j1,po,co,rfl,b6,gc⟩
   ·have v7:=(bln (e4.below (bln d7 b0.below) t4) a4).size
    refine xa 3 [S0,V0 0] 52 fun nu nx m0=>?_
    have h5:=((e4.blkT (((g2.blkT ((i9.blkT (c4.below c6.below) c6.blk (by decide)).below c1.below) c1.blk (by decide)).below b7).below b0.below) b0.blk (by decide)).below a4).below b6
    have t3:=m0.ne h5
    have m9:=((e4.blkT (((g2.blkT ((i9.blkT (m4.below c6.below) c6.blk (by decide)).below c1.below) c1.blk (by decide)).below b7).below b0.below) b0.blk (by decide)).below a4).below b6
    have fa:=m0.ne m9
    have l1:=((e4.blkT (((g2.blkT ((i9.blkT (j9.below c6.below) c6.blk (by decide)).below c1.below) c1.blk (by decide)).below b7).below b0.below) b0.blk (by decide)).below a4).below b6
    have ec:=m0.ne l1
    have o9:=bln n2 b6
    have ii:=m0.ge o9
    refine xsv 1 m0.blk [.slice a8 ((Qa l ((Zd l top 1 fuel).es.getD i Zn) data fuel).1.length) d8,V0 ((Qa l ((Zd l top 1 fuel).es.getD i Zn) data fuel).2.1)] fun lm bn ic=>?_
    refine xb 6 1 ic ?_
    refine xk 3 (show(((Qa l ((Zd l top 1 fuel).es.getD i Zn) data fuel).2.1 != (0:Int)):Bool)=true from bne_iff_ne.2 j1) ?_
    have bz:=bn.blkT (((j4.below a4).below b6).below m0.below) m0.blk (by decide)
    refine xb 3 2 bz ?_
    refine xlv 0 ic.rp ?_
    have z3:=bn.own2 (Zb (Zg gt v7) m0.below) m0.blk (by decide)
    refine xc 0 (args:=#[V0 (((Zd l top 1 fuel).es.getD i Zn).2.2),.agg #[.slice a8 ((Qa l ((Zd l top 1 fuel).es.getD i Zn) data fuel).1.length) d8,V0 ((Qa l ((Zd l top 1 fuel).es.getD i Zn) data fuel).2.1)]]) (Rj ((Zd l top 1 fuel).es.getD i Zn).2.2 (Qa l ((Zd l top 1 fuel).es.getD i Zn) data fuel).2.1 a8 (Qa l ((Zd l top 1 fuel).es.getD i Zn) data fuel).1.length d8 (Qa l ((Zd l top 1 fuel).es.getD i Zn) data fuel).1 _ j1 rfl (Nat.le_trans (Zcx _ _ _ _) (by decide)) (Zh z3)) ?_
    rintro _ nn ⟨_,rfl,dr,pa,ca,rfl,c8⟩
    have gp:=(bn.below (bln o9 m0.below) ii).size
    have h7:=(bn.blk (h5.below m0.below) (Ne.symm (Ne.symm t3))).below dr
    refine xsv 1 h7 [.slice pa ((Qa l ((Zd l top 1 fuel).es.getD i Zn) data fuel).1.length+1) ca,V0 ((Qa l ((Zd l top 1 fuel).es.getD i Zn) data fuel).2.1)] fun mo ih km=>?_
    have g1:=n1.ge (B3 w)
    have dt:=ih.own2 (Zg c8 gp) h7 (by decide)
    have z6:=ih.below (bln (bn.below (bln o9 m0.below) ii) dr) g1
    refine xec 9 km (.tuple #[S0,.agg #[.slice pa ((Qa l ((Zd l top 1 fuel).es.getD i Zn) data fuel).1.length+1) ca,V0 ((Qa l ((Zd l top 1 fuel).es.getD i Zn) data fuel).2.1)]]) ?_
    have e9:Dl l (Zd l details 3 fuel).es (Zd l top 1 fuel).es data fuel i=_:=dev_4 (by omega) (by omega) (by omega) j1
    exact Yf ((Yc e5 e6 (by omega) h2).trans ((Qc (i:=i) (by omega) i0 (by rw[e9];first|decide|omega)).trans (by rw[e9]))) (by first|decide|omega) rfl z6 dt
   have v7:=(bln (e4.below (bln d7 b0.below) t4) a4).size
   have jd:=Zc7 l ((Zd l top 1 fuel).es.getD i Zn) data fuel hfu
   refine xa 3 [S0,V0 0] 52 fun nb ok c2=>?_
   have d4:=((e4.blkT (((g2.blkT ((i9.blkT (c4.below c6.below) c6.blk (by decide)).below c1.below) c1.blk (by decide)).below b7).below b0.below) b0.blk (by decide)).below a4).below b6
   have j0:=c2.ne d4
   have h1:=((e4.blkT (((g2.blkT ((i9.blkT (m4.below c6.below) c6.blk (by decide)).below c1.below) c1.blk (by decide)).below b7).below b0.below) b0.blk (by decide)).below a4).below b6
   have u0:=c2.ne h1
   have f9:=((e4.blkT (((g2.blkT ((i9.blkT (j9.below c6.below) c6.blk (by decide)).below c1.below) c1.blk (by decide)).below b7).below b0.below) b0.blk (by decide)).below a4).below b6
   have p8:=c2.ne f9
   have f6:=bln n2 b6
   have cn:=c2.ge f6
   refine xsv 1 c2.blk [S0,V0 0] fun li e7 kp=>?_
   refine xb 6 1 kp ?_
   have j8:=e7.blkT (((jv.below a4).below b6).below c2.below) c2.blk (by decide)
   refine xb 10 0 j8 ?_
   refine xin 5 (↑(Yn ((Zd l details 3 fuel).es.getD i Zn).2.1 0):Int) (↑((Qa l ((Zd l top 1 fuel).es.getD i Zn) data fuel).2.2.length):Int) (fun fo=>?_) (fun fo=>?_)
   ·have z5:=e7.blkT ((((e4.blkT ((f4.below b7).below b0.below) b0.blk (by decide)).below a4).below b6).below c2.below) c2.blk (by decide)
    refine xb 3 2 z5 ?_
    refine xc 0 (args:=#[V0 (((Zd l details 3 fuel).es.getD i Zn).2.2),V0 13]) (Xx (((Zd l details 3 fuel).es.getD i Zn).2.2) 13 _ (by omega)) ?_
    rintro _ mz ⟨pa,ca,rfl,cu,c8⟩
    have fx:=(e7.below (bln f6 c2.below) cn).size
    have i5:=(e7.blk (d4.below c2.below) (Ne.symm (Ne.symm j0))).below cu
    refine xsv 1 i5 [.slice pa 1 ca,V0 13] fun lp hp jr=>?_
    have g1:=n1.ge (B3 w)
    have y4:=hp.own2 (Zg c8 fx) i5 (by decide)
    have bl:=hp.below (bln (e7.below (bln f6 c2.below) cn) cu) g1
    refine xec 9 jr (.tuple #[S0,.agg #[.slice pa 1 ca,V0 13]]) ?_
    have e9:Dl l (Zd l details 3 fuel).es (Zd l top 1 fuel).es data fuel i=_:=dev_5 (by omega) (by omega) (by omega) j1 (by omega)
    exact Yf ((Yc e5 e6 (by omega) h2).trans ((Qc (i:=i) (by omega) i0 (by rw[e9];first|decide|omega)).trans (by rw[e9]))) (by first|decide|omega) rfl bl y4
   refine xwm 7 ((↑(Oh l (Zd l top 1 fuel).es data fuel i):Int)+(↑((Qa l ((Zd l top 1 fuel).es.getD i Zn) data fuel).2.2.length):Int)) (↑((Oh l (Zd l top 1 fuel).es data fuel i)+((Qa l ((Zd l top 1 fuel).es.getD i Zn) data fuel).2.2.length)):Int) ?_
   refine xid 10 ((↑((Oh l (Zd l top 1 fuel).es data fuel i)+((Qa l ((Zd l top 1 fuel).es.getD i Zn) data fuel).2.2.length)):Int)>(16384:Int)) (fun hc=>?_) (fun hc=>?_)
   ·have cl:=e7.blkT (((j4.below a4).below b6).below c2.below) c2.blk (by decide)
    refine xb 3 2 cl ?_
    refine xc 0 (args:=#[V0 (((Zd l top 1 fuel).es.getD i Zn).2.2),V0 2]) (Xx (((Zd l top 1 fuel).es.getD i Zn).2.2) 2 _ (by omega)) ?_
    rintro _ mp ⟨pa,ca,rfl,br,c8⟩
    have fd:=(e7.below (bln f6 c2.below) cn).size
    have i6:=(e7.blk (d4.below c2.below) (Ne.symm (Ne.symm j0))).below br
    refine xsv 1 i6 [.slice pa 1 ca,V0 2] fun ll io kh=>?_
    have g1:=n1.ge (B3 w)
    have t5:=io.own2 (Zg c8 fd) i6 (by decide)
    have w8:=io.below (bln (e7.below (bln f6 c2.below) cn) br) g1
    refine xec 9 kh (.tuple #[S0,.agg #[.slice pa 1 ca,V0 2]]) ?_
    have e9:Dl l (Zd l details 3 fuel).es (Zd l top 1 fuel).es data fuel i=_:=dev_6 (by omega) (by omega) (by omega) j1 (by omega) (by omega)
    exact Yf ((Yc e5 e6 (by omega) h2).trans ((Qc (i:=i) (by omega) i0 (by rw[e9];first|decide|omega)).trans (by rw[e9]))) (by first|decide|omega) rfl w8 t5
   have de:=e7.blkT ((((e4.blkT ((f4.below b7).below b0.below) b0.blk (by decide)).below a4).below b6).below c2.below) c2.blk (by decide)
   refine xb 5 0 de ?_
   refine xb 1 1 j8 ?_
   refine xb 1 2 j8 ?_
   refine xb 1 3 j8 ?_
   refine xbs 2 1 [V0 (((Zd l details 3 fuel).es.getD i Zn).1),V0 (↑(Yn ((Zd l details 3 fuel).es.getD i Zn).2.1 1):Int),V0 (↑(Yn ((Zd l details 3 fuel).es.getD i Zn).2.1 2):Int),V0 (↑(Yn ((Zd l details 3 fuel).es.getD i Zn).2.1 3):Int),.slice po ((Qa l ((Zd l top 1 fuel).es.getD i Zn) data fuel).2.2.length) co] 108 fun mb oo k0=>?_
   have q8:=e7.below (bln f6 c2.below) cn
   have nt:=k0.ge q8
   have y5:=e7.own2 (Zb (Zb (Zb (e4.own2 (Zb (Zb (g2.own2 (Zb (i9.own2 (Zb ho c6.below) c6.blk (by decide)) c1.below) c1.blk (by decide)) b7) b0.below) b0.blk (by decide)) a4) b6) c2.below) c2.blk (by decide)
   have ei:=Zw y5 k0
   have f0:=Zb y5 k0.below
   have q9:=bln q8 k0.below
   refine xbi 0 fun _ _ _ _ zJ zQ zo zx zy zK=>Zu (m:=1) (news:=[V0 (((Zd l details 3 fuel).es.getD i Zn).1),V0 (↑(Yn ((Zd l details 3 fuel).es.getD i Zn).2.1 1):Int),V0 (↑(Yn ((Zd l details 3 fuel).es.getD i Zn).2.1 2):Int),V0 (↑(Yn ((Zd l details 3 fuel).es.getD i Zn).2.1 3):Int),.slice po ((Qa l ((Zd l top 1 fuel).es.getD i Zn) data fuel).2.2.length) co]) (.agg #[V0 0,V0 0,V0 0,V0 0,S0]) 5 56 (i+1) (((Z++[(Zdi l ((Zd l details 3 fuel).es.getD i Zn) ((Zd l top 1 fuel).es.getD i Zn) data fuel,po,co)]).flatMap Lg)) zo Tryz.underlying46 (by kernel_rfl) rfl (by decide) zx f0 zy (k0.blk.sl 1 1 (by decide) (by decide)) rfl (by simp[Value.oneCell']) (by unfold maxLen;omega) (by omega) q9.size (rfl) (by rw[List.flatMap_append];rfl) fun iu ka mx jj g6 fq=>?_
   refine zK _ _ ?_
   refine xwm 6 ((i:Int)+1) (↑(i+1):Int) ?_
   have y2:=((((((((((((y6.below c6.below).only (Zf.of_upd (T:=[100]) i9 c6.blk (by decide)) (by decide)).below c1.below).only (Zf.of_upd (T:=[100]) g2 c1.blk (by decide)) (by decide)).below b7).below b0.below).only (Zf.of_upd (T:=[105]) e4 b0.blk (by decide)) (by decide)).below a4).below b6).below c2.below).only (Zf.of_upd (T:=[52]) e7 c2.blk (by decide)) (by decide)).below k0.below).only (Zf.of_grown (T:=[108]) g6 f0 (by decide)) (by decide)
   have cx:=Zj (Zb (e7.own2 (Zb (Zg gc v7) c2.below) c2.blk (by decide)) k0.below) g6 f0 (by decide)
   have y1:=q9.trans fq
   have o5:=((e7.blk (d4.below c2.below) (Ne.symm (Ne.symm j0))).below k0.below).grown g6 f0 (by decide)
   have o1:=((e7.blkT ((((e4.blkT (((g2.blkT ((i9.blkT (j3.below c6.below) c6.blk (by decide)).below c1.below) c1.blk (by decide)).below b7).below b0.below) b0.blk (by decide)).below a4).below b6).below c2.below) c2.blk (by decide)).below k0.below).grown g6 f0 (by decide)
   have o6:=((e7.blk (h1.below c2.below) (Ne.symm (Ne.symm u0))).below k0.below).grown g6 f0 (by decide)
   have l7:=((e7.blkT ((((e4.blkT (((g2.blkT (f8.below c1.below) c1.blk (by decide)).below b7).below b0.below) b0.blk (by decide)).below a4).below b6).below c2.below) c2.blk (by decide)).below k0.below).grown g6 f0 (by decide)
   have l2:=((e7.blk (f9.below c2.below) (Ne.symm (Ne.symm p8))).below k0.below).grown g6 f0 (by decide)
   have fe:=Zj (Zb (e7.own2 (Zb (Zb (Zb (e4.own2 (Zb (Zb (g2.own3 (Zb ae c1.below) v3) b7) b0.below) b0.blk (by decide)) a4) b6) c2.below) c2.blk (by decide)) k0.below) g6 f0 (by decide)
   have ev:=Zj (Zb (e7.own2 (Zb (Zb (Zb (e4.own2 (Zb (Zb (g2.own3 (Zb p6 c1.below) s1) b7) b0.below) b0.blk (by decide)) a4) b6) c2.below) c2.blk (by decide)) k0.below) g6 f0 (by decide)
   exact ze 2 (ft _ _ _ ⟨i+1,_,_,Z++[(Zdi l ((Zd l details 3 fuel).es.getD i Zn) ((Zd l top 1 fuel).es.getD i Zn) data fuel,po,co)],rfl,rfl,y1,o5,o1,o6,l7,l2,fe,ev,jj,(y2.snoc (d:=Zdi l ((Zd l details 3 fuel).es.getD i Zn) ((Zd l top 1 fuel).es.getD i Zn) data fuel) rfl cx),by omega,by simp[ci],by rw[List.map_append,x8,Mg];rfl,Mf i0 (by unfold Dl;rw[dev_7 (by omega) (by omega) (by omega) j1 (by omega) (by omega)]),by simp only[Oh];omega⟩ (by omega))
  refine xsv 10 c4 [S0,V0 0] fun mg gs iq=>?_
  have g1:=n1.ge (B3 w)
  have au:=y6.only (Zf.of_upd (T:=[52]) gs c4 (by decide)) (by decide)
  have y8:=gs.below n7 g1
  have gu:=gs.own2 ho c4 (by decide)
  refine xec 3 iq (.tuple #[.slice pz i cp,.agg #[S0,V0 0]]) ?_
  obtain rfl:i=(Zd l details 3 fuel).es.length:=by omega
  exact Zeq ((Yc e5 e6 (by omega) h2).trans (Mi i0)) ci x8 y8 au gu
 have iy:=v4
 refine xi 19 (Qw (Zd l top 1 fuel).es (Zd l details 3 fuel).es) (fun w2=>?_) (fun w2=>?_)
 ·have jf:=w2
  refine xc 3 (args:=#[V0 details,V0 18]) (Xx details 18 _ (by omega)) ?_
  rintro _ lg ⟨pa,ca,rfl,bt,c8⟩
  have gm:=(bln (bln (e2.below (e0.below (bln b5 d0.below) l8) l9) a5) a3).size
  have r3:=(((e2.blk (e0.blkT (h4.below d0.below) l4 (by decide)) (Ne.symm (Ne.symm c9))).below a5).below a3).below bt
  refine xsv 1 r3 [.slice pa 1 ca,V0 18] fun lw hr ki=>?_
  have g1:=n1.ge (B3 w)
  have v2:=hr.own2 (Zg c8 gm) r3 (by decide)
  have da:=hr.below (bln (bln (bln (e2.below (e0.below (bln b5 d0.below) l8) l9) a5) a3) bt) g1
  refine xec 4 ki (.tuple #[S0,.agg #[.slice pa 1 ca,V0 18]]) ?_
  have gh:Qd (Zd l details 3 fuel).es (Zd l top 1 fuel).es=1:=lone_p1 w4 (by assumption) (by first|exact .inl (by assumption)|exact .inr (by assumption))
  exact Yf (Dj e5 e6 (by omega) gh) (by decide) rfl da v2
 have jx:=w2
 have h2:Qd (Zd l details 3 fuel).es (Zd l top 1 fuel).es=0:=lone_p0 w4 (by assumption) (by first|exact .inl (by assumption)|exact .inr (by assumption))
 have ir:=(Bb h2).1
 have hk:=Zb s8 a3
 have en:=Zb s4 a3
 have db:=bln (bln (e2.below (e0.below (bln b5 d0.below) l8) l9) a5) a3
 have z7:=((e2.blk (e0.blkT (h4.below d0.below) l4 (by decide)) (Ne.symm (Ne.symm c9))).below a5).below a3
 have aq:=p0.below a3
 have aa:=((e2.blk (e0.blkT (o2.below d0.below) l4 (by decide)) (Ne.symm (Ne.symm o3))).below a5).below a3
 have bx:=m1.below a3
 have bh:=(fn.below a5).below a3
 refine zl 19 184 (fun zm eu V=>∃ (i:Nat) (pz:O0) (cp:Nat) (Z:List Zv),eu=[(0,P0 bm),(3,V0 data),(4,V0 fuel),(11,P0 b1),(12,P0 b8),(14,P0 dw),(20,.slice pz i cp),(21,V0 (↑(Oh l (Zd l top 1 fuel).es data fuel i):Int)),(22,V0 (i:Int))]∧zm=(Zd l details 3 fuel).es.length-((i:Int)).toNat∧B0 w V∧Blk V b1 ([S0,V0 0]) 52∧Blk V b8 ([.slice pd ((Zd l details 3 fuel).es.length) cd,.slice gf gk ey,V0 ej,V0 ep,.slice fy fc ha]) 202∧Blk V b9 ([.slice a2 0 d2,V0 0]) 52∧Blk V dw ([.slice pt ((Zd l top 1 fuel).es.length) ct,.slice u3 s5 w1,V0 s9,V0 s6,.slice t8 s3 t7]) 202∧Blk V ik ([.slice em 0 fv,V0 0]) 52∧V.ownsRow w.heap.size 100 3 (.slice pd (Zd l details 3 fuel).es.length cd) (Zd l details 3 fuel).es.length ((Zd l details 3 fuel).es.flatMap Ji)∧V.ownsRow w.heap.size 100 3 (.slice pt (Zd l top 1 fuel).es.length ct) (Zd l top 1 fuel).es.length ((Zd l top 1 fuel).es.flatMap Ji)∧V.ownsRow w.heap.size 108 5 (.slice pz i cp) i (Z.flatMap Lg)∧Xu w.heap.size V Z∧i≤(Zd l details 3 fuel).es.length∧Z.length=i∧Z.map Prod.fst=devL l (Zd l details 3 fuel).es (Zd l top 1 fuel).es data fuel i∧devK l (Zd l details 3 fuel).es (Zd l top 1 fuel).es data fuel i∧(Oh l (Zd l top 1 fuel).es data fuel i)≤16384) ⟨0,none,0,[],rfl,rfl,db,z7,aq,aa,bx,bh,hk,en,World.ownsRow_nil _ _ _ _,Xu.nil _ _,Nat.zero_le _,rfl,rfl,fun j hj=>absurd hj (by omega),Nat.zero_le _⟩ ?_
 rintro _ _ ni ⟨i,pz,cp,Z,rfl,rfl,n6,c5,j2,m8,p4,j5,hd,ht,ho,y6,hi,ci,x8,i0,kq⟩ mh fp ml
 refine xb 5 0 j2 ?_
 refine xid 4 ((i:Int)<(↑((Zd l details 3 fuel).es.length):Int)) (fun ff=>?_) (fun ff=>?_)
 ·refine xb 7 0 j2 ?_
  refine xx 1 _ ((Zd l details 3 fuel).es.length) i 3 (Sts.cell (f:=Ji) (Zh hd) Xo Zn (k:=i) (i:=0) (by omega) rfl).1 ?_
  refine xlv 0 (Sts.rp (k:=i) (Zh hd) Xo Zn (by omega) (by decide)) ?_
  refine xa 0 [V0 0,.string ⟨#[]⟩,V0 0] 100 fun lc lz c7=>?_
  have jn:=c7.ge n6
  have r7:=Zw hd c7
  have t9:=Zw ht c7
  refine xsv 0 c7.blk [V0 (((Zd l details 3 fuel).es.getD i Zn).1),.string ⟨(((Zd l details 3 fuel).es.getD i Zn).2.1).toArray⟩,V0 (((Zd l details 3 fuel).es.getD i Zn).2.2)] fun na i8 hs=>?_
  have f2:=i8.blkT (p4.below c7.below) c7.blk (by decide)
  refine xb 5 0 f2 ?_
  have p1:=i8.own3 (Zb ht c7.below) t9
  refine xx 1 _ ((Zd l top 1 fuel).es.length) i 3 (Sts.cell (f:=Ji) (Zh p1) Xo Zn (k:=i) (i:=0) (by omega) rfl).1 ?_
  refine xlv 0 (Sts.rp (k:=i) (Zh p1) Xo Zn (by omega) (by decide)) ?_
  refine xa 0 [V0 0,.string ⟨#[]⟩,V0 0] 100 fun mm ob c3=>?_
  have p9:=c3.ne hs
  have k2:=i8.below (bln n6 c7.below) jn
  have fh:=c3.ge k2
  have bc:=i8.own3 (Zb hd c7.below) r7
  have v5:=Zw bc c3
  have v6:=Zw p1 c3
  refine xsv 0 c3.blk [V0 (((Zd l top 1 fuel).es.getD i Zn).1),.string ⟨(((Zd l top 1 fuel).es.getD i Zn).2.1).toArray⟩,V0 (((Zd l top 1 fuel).es.getD i Zn).2.2)] fun mq g5 kl=>?_
  have f5:=g5.blk (hs.below c3.below) (Ne.symm (Ne.symm p9))
  refine xb 6 0 f5 ?_
  refine xid 3 (((Zd l details 3 fuel).es.getD i Zn).1>(16777215:Int)) (fun gw=>?_) (fun gw=>?_)
  ·refine xb 3 2 f5 ?_
   refine xc 0 (args:=#[V0 (((Zd l details 3 fuel).es.getD i Zn).2.2),V0 9]) (Xx (((Zd l details 3 fuel).es.getD i Zn).2.2) 9 _ (by omega)) ?_
   rintro _ oa ⟨pa,ca,rfl,cq,c8⟩
   have ew:=(g5.below (bln k2 c3.below) fh).size
   have i1:=(g5.blkT ((i8.blkT (c5.below c7.below) c7.blk (by decide)).below c3.below) c3.blk (by decide)).below cq
   refine xsv 1 i1 [.slice pa 1 ca,V0 9] fun nz ie kn=>?_
   have g1:=n1.ge (B3 w)
   have v0:=ie.own2 (Zg c8 ew) i1 (by decide)
   have z9:=ie.below (bln (g5.below (bln k2 c3.below) fh) cq) g1
   refine xec 9 kn (.tuple #[S0,.agg #[.slice pa 1 ca,V0 9]]) ?_
   have e9:Dl l (Zd l details 3 fuel).es (Zd l top 1 fuel).es data fuel i=_:=dev_1 (by omega)
   exact Yf ((Yc e5 e6 (by omega) h2).trans ((Qc (i:=i) (by omega) i0 (by rw[e9];first|decide|omega)).trans (by rw[e9]))) (by first|decide|omega) rfl z9 v0
  refine xb 5 1 f5 ?_
  refine xr 0 (args:=#[.string ⟨(((Zd l details 3 fuel).es.getD i Zn).2.1).toArray⟩]) (Wc ((Zd l details 3 fuel).es.getD i Zn).2.1 _ (Qj _ _ _ _ i (by omega))) fun nr c0=>?_
  refine xa 3 [V0 0,V0 0,V0 0,V0 0] 105 fun mn lv a7=>?_
  have d6:=bln (g5.below (bln k2 c3.below) fh) c0
  have t2:=a7.ge d6
  refine xsv 0 a7.blk [V0 (↑(Yn ((Zd l details 3 fuel).es.getD i Zn).2.1 0):Int),V0 (↑(Yn ((Zd l details 3 fuel).es.getD i Zn).2.1 1):Int),V0 (↑(Yn ((Zd l details 3 fuel).es.getD i Zn).2.1 2):Int),V0 (↑(Yn ((Zd l details 3 fuel).es.getD i Zn).2.1 3):Int)] fun oj e1 kt=>?_
  refine xin 10 (Xn Jg ((Zd l details 3 fuel).es.getD i Zn).2.1) (0:Int) (fun gj=>?_) (fun gj=>?_)
  ·have bo:=e1.blkT ((f5.below c0).below a7.below) a7.blk (by decide)
   refine xb 3 2 bo ?_
   refine xc 1 (args:=#[V0 (((Zd l details 3 fuel).es.getD i Zn).2.2),V0 (Xn Jg ((Zd l details 3 fuel).es.getD i Zn).2.1)]) (Xx (((Zd l details 3 fuel).es.getD i Zn).2.2) (Xn Jg ((Zd l details 3 fuel).es.getD i Zn).2.1) _ (by omega)) ?_
   rintro _ nw ⟨pa,ca,rfl,w7,c8⟩
   have fr:=(e1.below (bln d6 a7.below) t2).size
   have h0:=(e1.blkT (((g5.blkT ((i8.blkT (c5.below c7.below) c7.blk (by decide)).below c3.below) c3.blk (by decide)).below c0).below a7.below) a7.blk (by decide)).below w7
   refine xsv 1 h0 [.slice pa 1 ca,V0 (Xn Jg ((Zd l details 3 fuel).es.getD i Zn).2.1)] fun om hy jw=>?_
   have g1:=n1.ge (B3 w)
   have v1:=hy.own2 (Zg c8 fr) h0 (by decide)
   have cv:=hy.below (bln (e1.below (bln d6 a7.below) t2) w7) g1
   refine xec 9 jw (.tuple #[S0,.agg #[.slice pa 1 ca,V0 (Xn Jg ((Zd l details 3 fuel).es.getD i Zn).2.1)]]) ?_
   have e9:Dl l (Zd l details 3 fuel).es (Zd l top 1 fuel).es data fuel i=_:=dev_2 (by omega) (by omega)
   exact Yf ((Yc e5 e6 (by omega) h2).trans ((Qc (i:=i) (by omega) i0 (by rw[e9];first|decide|omega)).trans (by rw[e9]))) (by first|decide|omega) rfl cv v1
  have j6:=e1.blkT ((kl.below c0).below a7.below) a7.blk (by decide)
  refine xb 5 1 j6 ?_
  refine xr 0 (args:=#[.string ⟨(((Zd l top 1 fuel).es.getD i Zn).2.1).toArray⟩]) (Uf ((Zd l top 1 fuel).es.getD i Zn).2.1 _ (Qj _ _ _ _ i (by omega))) fun nd a6=>?_
  refine xin 14 (Xy ((Zd l top 1 fuel).es.getD i Zn).2.1) (0:Int) (fun fs=>?_) (fun fs=>?_)
  ·have cc:=j6.below a6
   refine xb 3 2 cc ?_
   refine xc 1 (args:=#[V0 (((Zd l top 1 fuel).es.getD i Zn).2.2),V0 (Xy ((Zd l top 1 fuel).es.getD i Zn).2.1)]) (Xx (((Zd l top 1 fuel).es.getD i Zn).2.2) (Xy ((Zd l top 1 fuel).es.getD i Zn).2.1) _ (by omega)) ?_
   rintro _ jg ⟨pa,ca,rfl,r4,c8⟩
   have x4:=(bln (e1.below (bln d6 a7.below) t2) a6).size
   have i4:=((e1.blkT (((g5.blkT ((i8.blkT (c5.below c7.below) c7.blk (by decide)).below c3.below) c3.blk (by decide)).below c0).below a7.below) a7.blk (by decide)).below a6).below r4
   refine xsv 1 i4 [.slice pa 1 ca,V0 (Xy ((Zd l top 1 fuel).es.getD i Zn).2.1)] fun kc af ek=>?_
   have g1:=n1.ge (B3 w)
   have w0:=af.own2 (Zg c8 x4) i4 (by decide)
   have dh:=af.below (bln (bln (e1.below (bln d6 a7.below) t2) a6) r4) g1
   refine xec 9 ek (.tuple #[S0,.agg #[.slice pa 1 ca,V0 (Xy ((Zd l top 1 fuel).es.getD i Zn).2.1)]]) ?_
   have e9:Dl l (Zd l details 3 fuel).es (Zd l top 1 fuel).es data fuel i=_:=dev_3 (by omega) (by omega) (by omega)
   exact Yf ((Yc e5 e6 (by omega) h2).trans ((Qc (i:=i) (by omega) i0 (by rw[e9];first|decide|omega)).trans (by rw[e9]))) (by first|decide|omega) rfl dh w0
  have n0:=bln (e1.below (bln d6 a7.below) t2) a6
  refine xc 8 (args:=#[P0 bm,V0 (↑(Qf ((Zd l top 1 fuel).es.getD i Zn).2.1):Int),V0 data,V0 fuel]) (Ea B bm p k c l data fuel ((Zd l top 1 fuel).es.getD i Zn) _ (hI.below n0) hfu) ?_
  rintro e ju ax
  rcases ax with ⟨j1,a8,d8,rfl,a1,gt⟩|⟨j1,po,co,rfl,a1,gc⟩
  ·have m6:=(bln (e1.below (bln d6 a7.below) t2) a6).size
   refine xa 3 [S0,V0 0] 52 fun je ks e3=>?_
   have i7:=((e1.blkT (((g5.blkT ((i8.blkT (c5.below c7.below) c7.blk (by decide)).below c3.below) c3.blk (by decide)).below c0).below a7.below) a7.blk (by decide)).below a6).below a1
   have p3:=e3.ne i7
   have n5:=((e1.blkT (((g5.blkT ((i8.blkT (m8.below c7.below) c7.blk (by decide)).below c3.below) c3.blk (by decide)).below c0).below a7.below) a7.blk (by decide)).below a6).below a1
   have ea:=e3.ne n5
   have l3:=((e1.blkT (((g5.blkT ((i8.blkT (j5.below c7.below) c7.blk (by decide)).below c3.below) c3.blk (by decide)).below c0).below a7.below) a7.blk (by decide)).below a6).below a1
   have bs:=e3.ne l3
   have m5:=bln n0 a1
   have cz:=e3.ge m5
   refine xsv 1 e3.blk [.slice a8 ((Qa l ((Zd l top 1 fuel).es.getD i Zn) data fuel).1.length) d8,V0 ((Qa l ((Zd l top 1 fuel).es.getD i Zn) data fuel).2.1)] fun iz o7 x6=>?_
   refine xb 6 1 x6 ?_
   refine xk 3 (show(((Qa l ((Zd l top 1 fuel).es.getD i Zn) data fuel).2.1 != (0:Int)):Bool)=true from bne_iff_ne.2 j1) ?_
   have bq:=o7.blkT (((j6.below a6).below a1).below e3.below) e3.blk (by decide)
   refine xb 3 2 bq ?_
   refine xlv 0 x6.rp ?_
   have w6:=o7.own2 (Zb (Zg gt m6) e3.below) e3.blk (by decide)
   refine xc 0 (args:=#[V0 (((Zd l top 1 fuel).es.getD i Zn).2.2),.agg #[.slice a8 ((Qa l ((Zd l top 1 fuel).es.getD i Zn) data fuel).1.length) d8,V0 ((Qa l ((Zd l top 1 fuel).es.getD i Zn) data fuel).2.1)]]) (Rj ((Zd l top 1 fuel).es.getD i Zn).2.2 (Qa l ((Zd l top 1 fuel).es.getD i Zn) data fuel).2.1 a8 (Qa l ((Zd l top 1 fuel).es.getD i Zn) data fuel).1.length d8 (Qa l ((Zd l top 1 fuel).es.getD i Zn) data fuel).1 _ j1 rfl (Nat.le_trans (Zcx _ _ _ _) (by decide)) (Zh w6)) ?_
   rintro _ kv ⟨_,rfl,r5,pa,ca,rfl,c8⟩
   have bk:=(o7.below (bln m5 e3.below) cz).size
   have h6:=(o7.blk (i7.below e3.below) (Ne.symm (Ne.symm p3))).below r5
   refine xsv 1 h6 [.slice pa ((Qa l ((Zd l top 1 fuel).es.getD i Zn) data fuel).1.length+1) ca,V0 ((Qa l ((Zd l top 1 fuel).es.getD i Zn) data fuel).2.1)] fun iw av gn=>?_
   have g1:=n1.ge (B3 w)
   have t6:=av.own2 (Zg c8 bk) h6 (by decide)
   have al:=av.below (bln (o7.below (bln m5 e3.below) cz) r5) g1
   refine xec 9 gn (.tuple #[S0,.agg #[.slice pa ((Qa l ((Zd l top 1 fuel).es.getD i Zn) data fuel).1.length+1) ca,V0 ((Qa l ((Zd l top 1 fuel).es.getD i Zn) data fuel).2.1)]]) ?_
   have e9:Dl l (Zd l details 3 fuel).es (Zd l top 1 fuel).es data fuel i=_:=dev_4 (by omega) (by omega) (by omega) j1
   exact Yf ((Yc e5 e6 (by omega) h2).trans ((Qc (i:=i) (by omega) i0 (by rw[e9];first|decide|omega)).trans (by rw[e9]))) (by first|decide|omega) rfl al t6
  have m6:=(bln (e1.below (bln d6 a7.below) t2) a6).size
  have jd:=Zc7 l ((Zd l top 1 fuel).es.getD i Zn) data fuel hfu
  refine xa 3 [S0,V0 0] 52 fun jb kg a0=>?_
  have d3:=((e1.blkT (((g5.blkT ((i8.blkT (c5.below c7.below) c7.blk (by decide)).below c3.below) c3.blk (by decide)).below c0).below a7.below) a7.blk (by decide)).below a6).below a1
  have g0:=a0.ne d3
  have h3:=((e1.blkT (((g5.blkT ((i8.blkT (m8.below c7.below) c7.blk (by decide)).below c3.below) c3.blk (by decide)).below c0).below a7.below) a7.blk (by decide)).below a6).below a1
  have q0:=a0.ne h3
  have f7:=((e1.blkT (((g5.blkT ((i8.blkT (j5.below c7.below) c7.blk (by decide)).below c3.below) c3.blk (by decide)).below c0).below a7.below) a7.blk (by decide)).below a6).below a1
  have o4:=a0.ne f7
  have f3:=bln n0 a1
  have m2:=a0.ge f3
  refine xsv 1 a0.blk [S0,V0 0] fun kd b2 eg=>?_
  refine xb 6 1 eg ?_
  have j7:=b2.blkT (((kt.below a6).below a1).below a0.below) a0.blk (by decide)
  refine xb 10 0 j7 ?_
  refine xin 5 (↑(Yn ((Zd l details 3 fuel).es.getD i Zn).2.1 0):Int) (↑((Qa l ((Zd l top 1 fuel).es.getD i Zn) data fuel).2.2.length):Int) (fun cy=>?_) (fun cy=>?_)
  ·have bw:=b2.blkT ((((e1.blkT ((f5.below c0).below a7.below) a7.blk (by decide)).below a6).below a1).below a0.below) a0.blk (by decide)
   refine xb 3 2 bw ?_
   refine xc 0 (args:=#[V0 (((Zd l details 3 fuel).es.getD i Zn).2.2),V0 13]) (Xx (((Zd l details 3 fuel).es.getD i Zn).2.2) 13 _ (by omega)) ?_
   rintro _ ku ⟨pa,ca,rfl,q2,c8⟩
   have y3:=(b2.below (bln f3 a0.below) m2).size
   have i2:=(b2.blk (d3.below a0.below) (Ne.symm (Ne.symm g0))).below q2
   refine xsv 1 i2 [.slice pa 1 ca,V0 13] fun kk ai hf=>?_
   have g1:=n1.ge (B3 w)
   have w3:=ai.own2 (Zg c8 y3) i2 (by decide)
   have ar:=ai.below (bln (b2.below (bln f3 a0.below) m2) q2) g1
   refine xec 9 hf (.tuple #[S0,.agg #[.slice pa 1 ca,V0 13]]) ?_
   have e9:Dl l (Zd l details 3 fuel).es (Zd l top 1 fuel).es data fuel i=_:=dev_5 (by omega) (by omega) (by omega) j1 (by omega)
   exact Yf ((Yc e5 e6 (by omega) h2).trans ((Qc (i:=i) (by omega) i0 (by rw[e9];first|decide|omega)).trans (by rw[e9]))) (by first|decide|omega) rfl ar w3
  refine xwm 7 ((↑(Oh l (Zd l top 1 fuel).es data fuel i):Int)+(↑((Qa l ((Zd l top 1 fuel).es.getD i Zn) data fuel).2.2.length):Int)) (↑((Oh l (Zd l top 1 fuel).es data fuel i)+((Qa l ((Zd l top 1 fuel).es.getD i Zn) data fuel).2.2.length)):Int) ?_
  refine xid 10 ((↑((Oh l (Zd l top 1 fuel).es data fuel i)+((Qa l ((Zd l top 1 fuel).es.getD i Zn) data fuel).2.2.length)):Int)>(16384:Int)) (fun x3=>?_) (fun x3=>?_)
  ·have bi:=b2.blkT (((j6.below a6).below a1).below a0.below) a0.blk (by decide)
   refine xb 3 2 bi ?_
   refine xc 0 (args:=#[V0 (((Zd l top 1 fuel).es.getD i Zn).2.2),V0 2]) (Xx (((Zd l top 1 fuel).es.getD i Zn).2.2) 2 _ (by omega)) ?_
   rintro _ jy ⟨pa,ca,rfl,q3,c8⟩
   have ak:=(b2.below (bln f3 a0.below) m2).size
   have g7:=(b2.blk (d3.below a0.below) (Ne.symm (Ne.symm g0))).below q3
   refine xsv 1 g7 [.slice pa 1 ca,V0 2] fun kb y9 hl=>?_
   have g1:=n1.ge (B3 w)
   have s2:=y9.own2 (Zg c8 ak) g7 (by decide)
   have ch:=y9.below (bln (b2.below (bln f3 a0.below) m2) q3) g1
   refine xec 9 hl (.tuple #[S0,.agg #[.slice pa 1 ca,V0 2]]) ?_
   have e9:Dl l (Zd l details 3 fuel).es (Zd l top 1 fuel).es data fuel i=_:=dev_6 (by omega) (by omega) (by omega) j1 (by omega) (by omega)
   exact Yf ((Yc e5 e6 (by omega) h2).trans ((Qc (i:=i) (by omega) i0 (by rw[e9];first|decide|omega)).trans (by rw[e9]))) (by first|decide|omega) rfl ch s2
  have ac:=b2.blkT ((((e1.blkT ((f5.below c0).below a7.below) a7.blk (by decide)).below a6).below a1).below a0.below) a0.blk (by decide)
  refine xb 5 0 ac ?_
  refine xb 1 1 j7 ?_
  refine xb 1 2 j7 ?_
  refine xb 1 3 j7 ?_
  refine xbs 2 1 [V0 (((Zd l details 3 fuel).es.getD i Zn).1),V0 (↑(Yn ((Zd l details 3 fuel).es.getD i Zn).2.1 1):Int),V0 (↑(Yn ((Zd l details 3 fuel).es.getD i Zn).2.1 2):Int),V0 (↑(Yn ((Zd l details 3 fuel).es.getD i Zn).2.1 3):Int),.slice po ((Qa l ((Zd l top 1 fuel).es.getD i Zn) data fuel).2.2.length) co] 108 fun jh jc d1=>?_
  have q4:=b2.below (bln f3 a0.below) m2
  have lb:=d1.ge q4
  have df:=b2.own2 (Zb (Zb (Zb (e1.own2 (Zb (Zb (g5.own2 (Zb (i8.own2 (Zb ho c7.below) c7.blk (by decide)) c3.below) c3.blk (by decide)) c0) a7.below) a7.blk (by decide)) a6) a1) a0.below) a0.blk (by decide)
  have dz:=Zw df d1
  have f1:=Zb df d1.below
  have q5:=bln q4 d1.below
  refine xbi 0 fun _ _ _ _ zJ zQ zo zx zy zK=>Zu (m:=1) (news:=[V0 (((Zd l details 3 fuel).es.getD i Zn).1),V0 (↑(Yn ((Zd l details 3 fuel).es.getD i Zn).2.1 1):Int),V0 (↑(Yn ((Zd l details 3 fuel).es.getD i Zn).2.1 2):Int),V0 (↑(Yn ((Zd l details 3 fuel).es.getD i Zn).2.1 3):Int),.slice po ((Qa l ((Zd l top 1 fuel).es.getD i Zn) data fuel).2.2.length) co]) (.agg #[V0 0,V0 0,V0 0,V0 0,S0]) 5 56 (i+1) (((Z++[(Zdi l ((Zd l details 3 fuel).es.getD i Zn) ((Zd l top 1 fuel).es.getD i Zn) data fuel,po,co)]).flatMap Lg)) zo Tryz.underlying46 (by kernel_rfl) rfl (by decide) zx f1 zy (d1.blk.sl 1 1 (by decide) (by decide)) rfl (by simp[Value.oneCell']) (by unfold maxLen;omega) (by omega) q5.size (rfl) (by rw[List.flatMap_append];rfl) fun hn ij jq gi d5 z1=>?_
  refine zK _ _ ?_
  refine xwm 6 ((i:Int)+1) (↑(i+1):Int) ?_
  have bb:=((((((((((((y6.below c7.below).only (Zf.of_upd (T:=[100]) i8 c7.blk (by decide)) (by decide)).below c3.below).only (Zf.of_upd (T:=[100]) g5 c3.blk (by decide)) (by decide)).below c0).below a7.below).only (Zf.of_upd (T:=[105]) e1 a7.blk (by decide)) (by decide)).below a6).below a1).below a0.below).only (Zf.of_upd (T:=[52]) b2 a0.blk (by decide)) (by decide)).below d1.below).only (Zf.of_grown (T:=[108]) d5 f1 (by decide)) (by decide)
  have dv:=Zj (Zb (b2.own2 (Zb (Zg gc m6) a0.below) a0.blk (by decide)) d1.below) d5 f1 (by decide)
  have cg:=q5.trans z1
  have o0:=((b2.blk (d3.below a0.below) (Ne.symm (Ne.symm g0))).below d1.below).grown d5 f1 (by decide)
  have m7:=((b2.blkT ((((e1.blkT (((g5.blkT ((i8.blkT (j2.below c7.below) c7.blk (by decide)).below c3.below) c3.blk (by decide)).below c0).below a7.below) a7.blk (by decide)).below a6).below a1).below a0.below) a0.blk (by decide)).below d1.below).grown d5 f1 (by decide)
  have m3:=((b2.blk (h3.below a0.below) (Ne.symm (Ne.symm q0))).below d1.below).grown d5 f1 (by decide)
  have l5:=((b2.blkT ((((e1.blkT (((g5.blkT (f2.below c3.below) c3.blk (by decide)).below c0).below a7.below) a7.blk (by decide)).below a6).below a1).below a0.below) a0.blk (by decide)).below d1.below).grown d5 f1 (by decide)
  have l6:=((b2.blk (f7.below a0.below) (Ne.symm (Ne.symm o4))).below d1.below).grown d5 f1 (by decide)
  have ex:=Zj (Zb (b2.own2 (Zb (Zb (Zb (e1.own2 (Zb (Zb (g5.own3 (Zb bc c3.below) v5) c0) a7.below) a7.blk (by decide)) a6) a1) a0.below) a0.blk (by decide)) d1.below) d5 f1 (by decide)
  have gx:=Zj (Zb (b2.own2 (Zb (Zb (Zb (e1.own2 (Zb (Zb (g5.own3 (Zb p1 c3.below) v6) c0) a7.below) a7.blk (by decide)) a6) a1) a0.below) a0.blk (by decide)) d1.below) d5 f1 (by decide)
  exact ze 2 (fp _ _ _ ⟨i+1,_,_,Z++[(Zdi l ((Zd l details 3 fuel).es.getD i Zn) ((Zd l top 1 fuel).es.getD i Zn) data fuel,po,co)],rfl,rfl,cg,o0,m7,m3,l5,l6,ex,gx,gi,(bb.snoc (d:=Zdi l ((Zd l details 3 fuel).es.getD i Zn) ((Zd l top 1 fuel).es.getD i Zn) data fuel) rfl dv),by omega,by simp[ci],by rw[List.map_append,x8,Mg];rfl,Mf i0 (by unfold Dl;rw[dev_7 (by omega) (by omega) (by omega) j1 (by omega) (by omega)]),by simp only[Oh];omega⟩ (by omega))
 refine xsv 10 c5 [S0,V0 0] fun jo t1 gq=>?_
 have g1:=n1.ge (B3 w)
 have z8:=y6.only (Zf.of_upd (T:=[52]) t1 c5 (by decide)) (by decide)
 have z4:=t1.below n6 g1
 have gl:=t1.own2 ho c5 (by decide)
 refine xec 3 gq (.tuple #[.slice pz i cp,.agg #[S0,V0 0]]) ?_
 obtain rfl:i=(Zd l details 3 fuel).es.length:=by omega
 exact Zeq ((Yc e5 e6 (by omega) h2).trans (Mi i0)) ci x8 z4 z8 gl
theorem told_O(bl:List Int)(er:Int)(v:Value)(w:World)(hlen:bl.length≤41)(hg:ErrT w)(hv:Vw w (bl.map some) (some er) v):C0 19 #[v] w (Vy (fun w' r=>FltV w' r bl er) w):=by
 have:=Tp (some er) (bl.map some) v w (by rw[List.length_map];omega) hg hv
 rwa [Zb0,Ia] at this
theorem told_0(w:World)(hg:ErrT w):C0 19 #[.nilIface] w (Vy (fun w' r=>FltV w' r [] 0) w):=Tp none [] .nilIface w (by decide) hg rfl
theorem Oy(l:Bl)(root tree fuel:Int):(Xr (Zd l root tree fuel)).1.length≤40:=by
 by_cases h:(Zd l root tree fuel).fs=[]
 ·rw[(Gm h).2.1];exact Nat.zero_le _
 ·rw[(Qk h).2.1];exact Nat.le_trans (Zaj l root tree fuel _ (Du (List.length_pos_iff.2 h))) (by decide)
theorem devE_len(l:Bl)(x y:Ent)(data fuel:Int)(sum:Nat):(Dg l x y data fuel sum).1.length≤41:=by
 have:=Zcx l y data fuel
 unfold Dg
 repeat' split
 all_goals first|(simp only[List.length_cons];omega)|simp
theorem devsO_len(l:Bl)(top details data fuel:Int):(Yk l top details data fuel).1.length≤41:=by
 have h1:=Oy l details 3 fuel
 have h2:=Oy l top 1 fuel
 unfold Yk
 split
 ·exact Nat.le_succ_of_le h1
 ·split
  ·exact Nat.le_succ_of_le h2
  ·split
   ·simp
   ·split
    ·simp
    ·split
     ·simp
     ·unfold Zc1
      split
      ·exact devE_len _ _ _ _ _ _
      ·simp
def Gu(O:List Int×Int×List Dv)(V:World)(p:O0)(c:Nat)(Z:List Zv):Prop:=Z.length=O.2.2.length∧Z.map Prod.fst=O.2.2∧Xu 0 V Z∧V.ownsRow 0 108 5 (.slice p O.2.2.length c) O.2.2.length (Z.flatMap Lg)
theorem Gu.below{O:List Int×Int×List Dv}{V W:World}{p:O0}{c:Nat}{Z:List Zv}(h:Gu O V p c Z)(hb:Below V.heap.size V W):Gu O W p c Z:=⟨h.1,h.2.1,h.2.2.1.below hb,Zb h.2.2.2 hb⟩
theorem Gu.only{O:List Int×Int×List Dv}{V W:World}{p:O0}{c:Nat}{Z:List Zv}{T:List TypeId}(h:Gu O V p c Z)(hO:Zf T V W)(hT:(T.contains 110||T.contains 108)=false):Gu O W p c Z:=by
 rw[Bool.or_eq_false_iff] at hT
 exact⟨h.1,h.2.1,h.2.2.1.only hO hT.1,Zl h.2.2.2 hO hT.2⟩
theorem Gu.read{O:List Int×Int×List Dv}{V:World}{p:O0}{c:Nat}{Z:List Zv}(h:Gu O V p c Z):DevsR V p c Z:=by
 have ho:=h.2.2.2
 rw[←h.1] at ho
 exact devs_read h.2.2.1 ho
theorem Zdw{O:List Int×Int×List Dv}{V:World}{B:Nat}{p:O0}{c:Nat}{Z:List Zv}(hZ:Z.map Prod.fst=O.2.2)(hM:Xu B V Z)(ho:V.ownsRow B 108 5 (.slice p O.2.2.length c) O.2.2.length (Z.flatMap Lg)):Gu O V p c Z:=by
 have hl:Z.length=O.2.2.length:=by rw[←hZ,List.length_map]
 exact⟨hl,hZ,hM.mono (Nat.zero_le _),Zg ho (Nat.zero_le _)⟩
theorem Zbg(V:World){O:List Int×Int×List Dv}(h:O.2.2=[]):Gu O V none 0 []:=by
 refine⟨by rw[h];rfl,by rw[h];rfl,fun i hi=>absurd hi (by simp),?_⟩
 rw[h];exact World.ownsRow_nil _ _ _ _
theorem As(Bi b:Nat)(pi:O0)(ni ci:Nat)(l:Bl)(top details data fuel:Int)(w:World)(hI:ImgR Bi b pi ni ci l w)(hfu:fuel≤1000):C0 39 #[P0 b,V0 top,V0 details,V0 data,V0 fuel] w (fun e w' =>
 ((Yk l top details data fuel).2.1≠0∧∃ ty v,e=.returned (.tuple #[S0,.iface ty v])∧B0 w w'∧Vw w' ((Yk l top details data fuel).1.map some) (some (Yk l top details data fuel).2.1) (.iface ty v)) ∨
 ((Yk l top details data fuel).2.1=0∧∃ p c Z,e=.returned (.tuple #[.slice p (Yk l top details data fuel).2.2.length c,.nilIface])∧B0 w w'∧Gu (Yk l top details data fuel) w' p c Z)):=by
 refine(Bn Bi b pi ni ci l top details data fuel w hI hfu).mono ?_
 rintro e W q
 rcases q with q|⟨h,p,c,Z,rfl,hb,hZ,hM,ho⟩
 ·exact .inl q
 ·exact .inr ⟨h,p,c,Z,rfl,hb,Zdw hZ hM ho⟩
theorem dq_fst{O:List Int×Int×List Dv}{V W:World}{p q:O0}{c d:Nat}{Z Y:List Zv}(h:Gu O V p c Z)(k:Gu O W q d Y):∀ i,i<O.2.2.length→(Z.getD i zvD).1=(Y.getD i zvD).1:=by
 intro i hi
 have h1:i<Z.length:=by rw[h.1];exact hi
 have h2:i<Y.length:=by rw[k.1];exact hi
 have e:(Z.map Prod.fst)[i]? = (Y.map Prod.fst)[i]? := by rw[h.2.1,k.2.1]
 rw[List.getElem?_map,List.getElem?_map,List.getElem?_eq_getElem h1,List.getElem?_eq_getElem h2] at e
 simp only[Option.map_some,Option.some.injEq] at e
 simp[List.getD,h1,h2,e]
structure Sup where
 tx:Int
 time:Int
 unit:Int
 data:Int
 blocks:Int
 top:Int
 details:Int
 dslots:Int
 dover:Int
 mindex:Int
 mover:Int
def supC(s:Sup):List Value:=[V0 s.tx,V0 s.time,V0 s.unit,V0 s.data,V0 s.blocks,V0 s.top,V0 s.details,V0 s.dslots,V0 s.dover,V0 s.mindex,V0 s.mover]
def Zbq(s:Sup):List Int:=[s.tx,s.time,s.unit,s.data,s.blocks,s.top,s.details,s.dslots,s.dover,s.mindex,s.mover]
def Yb(s:Sup):Bool:=(((((((((((true&&decide ((0:Int)≤s.tx∧s.tx≤2147483647))&&decide ((0:Int)≤s.time∧s.time≤16777215))&&decide ((1:Int)≤s.unit∧s.unit≤65536))&&decide ((0:Int)≤s.data∧s.data≤65536))&&decide ((2:Int)≤s.blocks∧s.blocks≤14400))&&decide ((1:Int)≤s.top∧s.top≤(s.blocks-1)))&&decide ((1:Int)≤s.details∧s.details≤(s.blocks-1)))&&decide ((1:Int)≤s.dslots∧s.dslots≤(s.blocks-1)))&&decide ((1:Int)≤s.dover∧s.dover≤(s.blocks-1)))&&decide ((1:Int)≤s.mindex∧s.mindex≤(s.blocks-1)))&&decide ((1:Int)≤s.mover∧s.mover≤(s.blocks-1)))
def Ze(l:Bl):Sup:=⟨(Zi l 12 4:Int),(Zi l 16 4:Int),(Zi l 20 4:Int),(Zi l 24 4:Int),(Zi l 28 4:Int),(Zi l 32 4:Int),(Zi l 36 4:Int),(Zi l 40 4:Int),(Zi l 44 4:Int),(Zi l 48 4:Int),(Zi l 52 4:Int)⟩
def Wd:Bl:=[83,67,65,78,84,76,73,78]
def Uq(N:List Int):Bl:=N.flatMap fun n=>leB n 4
theorem Fn(N:List Int):(Uq N).length=N.length*4:=by
 unfold Uq
 induction N with
 | nil=>rfl
 | cons n N ih=>rw[List.flatMap_cons,List.length_append,Zt,ih,List.length_cons];omega
def Zcd(s:Sup):Bl:=Wd++Uq (1::Zbq s)++List.replicate 188 0
theorem Zeu(s:Sup):(Zcd s).length=244:=by
 unfold Zcd;rw[List.length_append,List.length_append,Fn,List.length_replicate];rfl
def Iw(l:Bl):Bool:=(l.take 8==Wd)&&decide (Zi l 8 4=1)&&Vg (l.drop 56)&&Yb (Ze l)
def Tj(n:Int):List Value:=[V0 4,V0 n]
theorem Zdt(n:Int):(Tj n).length=2:=rfl
theorem Cp{l:Bl}{k:Nat}(h:k+4≤l.length):l.drop k=leB (Zi l k 4:Int) 4++l.drop (k+4):=by
 rw[leB_raw h,←List.drop_drop,List.take_append_drop]
theorem drop8{l:Bl}(hl:l.length=244):l.drop 8=Uq ((Zi l 8 4:Int)::Zbq (Ze l))++l.drop 56:=by
 rw[Cp (k:=8) (by omega),Cp (k:=12) (by omega),Cp (k:=16) (by omega),Cp (k:=20) (by omega),Cp (k:=24) (by omega),Cp (k:=28) (by omega),Cp (k:=32) (by omega),Cp (k:=36) (by omega),Cp (k:=40) (by omega),Cp (k:=44) (by omega),Cp (k:=48) (by omega),Cp (k:=52) (by omega)]
 simp[Uq,Zbq,Ze]
theorem zeroB_iff(l:Bl):Vg l=true↔l=List.replicate l.length 0:=by
 unfold Vg
 rw[List.all_eq_true]
 constructor
 ·intro h;exact List.eq_replicate_iff.2 ⟨rfl,fun x hx=>by simpa using h x hx⟩
 ·intro h x hx;rw[h] at hx;rw[(List.mem_replicate.1 hx).2];rfl
theorem supB_eq{l:Bl}(hl:l.length=244):(Zcd (Ze l)==l)=((l.take 8==Wd)&&decide (Zi l 8 4=1)&&Vg (l.drop 56)):=by
 have e1:l=l.take 8++(Uq ((Zi l 8 4:Int)::Zbq (Ze l))++l.drop 56):=by rw[←drop8 hl,List.take_append_drop]
 have h8:(l.take 8).length=Wd.length:=by simp[Wd];omega
 have hn:∀ x:Int,(Uq (x::Zbq (Ze l))).length=48:=fun x=>by rw[Fn];rfl
 have hr:=Ym l 8 4 (by decide)
 have a0:(l.drop 56).length=188:=by simp;omega
 rw[Bool.eq_iff_iff,beq_iff_eq,Bool.and_eq_true,Bool.and_eq_true,beq_iff_eq,decide_eq_true_iff,zeroB_iff,a0]
 constructor
 ·intro h
  have e2:=h.trans e1
  rw[Zcd,List.append_assoc] at e2
  obtain⟨a1,a2⟩:=List.append_inj e2 h8.symm
  obtain⟨a3,a4⟩:=List.append_inj a2 (by rw[hn,hn])
  have a5:leB (1:Int) 4=leB (Zi l 8 4:Int) 4:=by
   unfold Uq at a3
   rw[List.flatMap_cons,List.flatMap_cons] at a3
   exact(List.append_inj a3 (by rw[Zt,Zt])).1
  have a6:=leB_inj (m:=1) (n:=Zi l 8 4) (w:=4) (by decide) (by omega) a5
  exact⟨⟨a1.symm,a6.symm⟩,a4.symm⟩
 ·rintro⟨⟨a1,a2⟩,a3⟩
  conv=>rhs;rw[e1]
  rw[a1,a2,a3,Zcd,List.append_assoc];rfl
theorem Vp(B bs bl bat off k:Nat)(cs:List Value)(a:O0)(c:Nat)(l:Bl)(lo hi:Value)(w:World)(hBw:B≤w.heap.size)(hBs:B≤bs)(hBa:B≤bat)(ks:Blk w bs cs 24)(ho:off<cs.length)(kl:Blk w bl [.slice a 244 c] 22)(ka:Blk w bat [V0 (k:Int)] 3)(hl:l.length=244)(h:Bys w (.slice a 244 c) l)(hk:k+4≤244) :
 C0 146 #[.pointer (some ⟨bs,off,none⟩),lo,hi,P0 bl,P0 bat] w ((fun e w'=>∃ u,e=.returned u∧Below B w w'∧Zf [24,3] w w'∧Blk w' bs (cs.set off (V0 (Zi l k 4:Int))) 24∧Blk w' bat [V0 (↑(k+4):Int)] 3)):=by
 refine zin 18 Tryz.func146 ?_
 refine xb 3 0 kl ?_
 refine xb 0 0 ka ?_
 refine xr 0 (args:=#[.slice a 244 c,V0 (k:Int),V0 4]) (Get_okN a 244 c k 4 (k:Int) 4 l _ hl rfl rfl (by decide) hk (by decide) h) fun W1 a2=>?_
 have a1:=ks.below a2
 refine xsg 4 a1 off (V0 (↑(Zi l k 4):Int)) (ho) fun W2 u2 k2=>?_
 replace k2:Blk W2 bs (cs.set off (V0 (Zi l k 4:Int))) 24:=by rw[←(Eq.refl (cs.set off (V0 (Zi l k 4:Int))))];exact k2
 have a0:=u2.blkT (ka.below a2) a1 (by decide)
 refine xb 3 0 a0 ?_
 refine xwm 0 ((k:Int)+4) (↑(k+4):Int) ?_
 refine xs 0 a0 [V0 (↑(k+4):Int)] fun W3 u3 k3=>?_
 have hB:=u3.below (u2.below (blB (Below.refl B w) hBw a2) hBs) hBa
 have hO:=((show Zf [24,3] w _ from(Zf.of_below a2)).trans (Zf.of_upd u2 a1 (by decide))).trans (Zf.of_upd u3 a0 (by decide))
 have a3:=u3.blkT k2 a0 (by decide)
 exact xe 1 (.tuple #[]) ⟨_,rfl,hB,hO,a3,k3⟩
theorem Ql(B bs bo off:Nat)(cs:List Value)(n lo hi:Int)(b:Bool)(w:World)(hBw:B≤w.heap.size)(hBo:B≤bo)(ks:Blk w bs cs 24)(hn:cs[off]? = some (V0 n))(ko:Blk w bo [.bool b] 4) :
 C0 33 #[.pointer (some ⟨bs,off,none⟩),V0 lo,V0 hi,P0 bo] w ((fun e w'=>∃ u,e=.returned u∧Below B w w'∧Zf [4] w w'∧Blk w' bo [.bool (b&&decide ((lo:Int)≤n∧n≤hi))] 4)):=by
 refine zin 22 Tryz.func33 ?_
 refine xb 1 0 ko ?_
 refine xg 1 [7,8] b (fun a1=>?_) (fun a1=>?_)
 ·refine xl 2 (ks.cell (i:=off) hn) ?_
  refine xg 4 [13,14,15] (decide (n≥lo)) (fun a0=>?_) (fun a0=>?_)
  ·have a0:=of_decide_eq_true a0
   refine xl 2 (ks.cell (i:=off) hn) ?_
   refine xs 3 ko [.bool (decide (n≤hi))] fun W3 u3 k3=>?_
   have hB:=u3.below (Below.refl B w) hBo
   have hO:=(show Zf [4] w _ from(Zf.of_upd u3 ko (by decide)))
   exact xe 1 (.tuple #[]) ⟨_,rfl,hB,hO,by rw[show(b&&decide ((lo:Int)≤n∧n≤hi))=decide (n≤hi) from by first|(rw[show decide ((lo:Int)≤n∧n≤hi)=false from decide_eq_false (by omega),Bool.and_false];done)|(simp_all;done)|(simp_all;omega)];exact k3⟩
  have a0:=of_decide_eq_false a0
  refine xs 6 ko [.bool false] fun W4 u4 k4=>?_
  have hB:=u4.below (Below.refl B w) hBo
  have hO:=(show Zf [4] w _ from(Zf.of_upd u4 ko (by decide)))
  exact xe 1 (.tuple #[]) ⟨_,rfl,hB,hO,by rw[show(b&&decide ((lo:Int)≤n∧n≤hi))=false from by first|(rw[show decide ((lo:Int)≤n∧n≤hi)=false from decide_eq_false (by omega),Bool.and_false];done)|(simp_all;done)|(simp_all;omega)];exact k4⟩
 refine xs 13 ko [.bool false] fun W5 u5 k5=>?_
 have hB:=u5.below (Below.refl B w) hBo
 have hO:=(show Zf [4] w _ from(Zf.of_upd u5 ko (by decide)))
 exact xe 1 (.tuple #[]) ⟨_,rfl,hB,hO,by rw[show(b&&decide ((lo:Int)≤n∧n≤hi))=false from by first|(rw[show decide ((lo:Int)≤n∧n≤hi)=false from decide_eq_false (by omega),Bool.and_false];done)|(simp_all;done)|(simp_all;omega)];exact k5⟩
theorem Ai(B bs bl bat:Nat)(a:O0)(c:Nat)(l:Bl)(w:World)(hBw:B≤w.heap.size)(hBs:B≤bs)(hBa:B≤bat)(ks:Blk w bs [V0 0,V0 0,V0 0,V0 0,V0 0,V0 0,V0 0,V0 0,V0 0,V0 0,V0 0] 24)(kl:Blk w bl [.slice a 244 c] 22)(ka:Blk w bat [V0 (↑(12:Nat):Int)] 3)(hl:l.length=244)(hin:∀ W,Below B w W→Bys W (.slice a 244 c) l) :
 C0 32 #[P0 bs,.func (.func 146) #[] #[P0 bl,P0 bat]] w ((fun e w'=>∃ u,e=.returned u∧Below B w w'∧Zf [24,3] w w'∧Blk w' bs (supC (Ze l)) 24)):=by
 have g3:=Ym l 28 4 (by decide)
 refine zin 64 Tryz.func32 ?_
 refine xc 6 (args:=#[P0 bs,V0 0,V0 2147483647,P0 bl,P0 bat]) (Vp B bs bl bat 0 12 _ a c l _ _ _ (Nat.le_trans hBw (Below.refl B _).size) hBs hBa ks (by simp) kl ka hl (hin _ (Below.refl B _)) (by decide)) ?_
 rintro _ W1 ⟨u1,rfl,e6,e8,g0,f3⟩
 change Blk _ _ [V0 (↑(Zi l 12 4):Int),V0 0,V0 0,V0 0,V0 0,V0 0,V0 0,V0 0,V0 0,V0 0,V0 0] _ at g0
 change Blk _ _ [V0 (↑(16:Nat):Int)] _ at f3
 have c7:=kl.only e8 (by decide)
 refine xc 8 (args:=#[.pointer (some ⟨bs,1,none⟩),V0 0,V0 16777215,P0 bl,P0 bat]) (Vp B bs bl bat 1 16 _ a c l _ _ _ (Nat.le_trans hBw e6.size) hBs hBa g0 (by simp) c7 f3 hl (hin _ e6) (by decide)) ?_
 rintro _ W2 ⟨u2,rfl,g9,f0,f1,g2⟩
 change Blk _ _ [V0 (↑(Zi l 12 4):Int),V0 (↑(Zi l 16 4):Int),V0 0,V0 0,V0 0,V0 0,V0 0,V0 0,V0 0,V0 0,V0 0] _ at f1
 change Blk _ _ [V0 (↑(20:Nat):Int)] _ at g2
 have b3:=e6.trans g9
 have c8:=c7.only f0 (by decide)
 refine xc 8 (args:=#[.pointer (some ⟨bs,2,none⟩),V0 1,V0 65536,P0 bl,P0 bat]) (Vp B bs bl bat 2 20 _ a c l _ _ _ (Nat.le_trans hBw b3.size) hBs hBa f1 (by simp) c8 g2 hl (hin _ b3) (by decide)) ?_
 rintro _ W3 ⟨u3,rfl,h1,f8,g5,e9⟩
 change Blk _ _ [V0 (↑(Zi l 12 4):Int),V0 (↑(Zi l 16 4):Int),V0 (↑(Zi l 20 4):Int),V0 0,V0 0,V0 0,V0 0,V0 0,V0 0,V0 0,V0 0] _ at g5
 change Blk _ _ [V0 (↑(24:Nat):Int)] _ at e9
 have a9:=b3.trans h1
 have c1:=c8.only f8 (by decide)
 refine xc 8 (args:=#[.pointer (some ⟨bs,3,none⟩),V0 0,V0 65536,P0 bl,P0 bat]) (Vp B bs bl bat 3 24 _ a c l _ _ _ (Nat.le_trans hBw a9.size) hBs hBa g5 (by simp) c1 e9 hl (hin _ a9) (by decide)) ?_
 rintro _ W4 ⟨u4,rfl,g3,f7,f4,g4⟩
 change Blk _ _ [V0 (↑(Zi l 12 4):Int),V0 (↑(Zi l 16 4):Int),V0 (↑(Zi l 20 4):Int),V0 (↑(Zi l 24 4):Int),V0 0,V0 0,V0 0,V0 0,V0 0,V0 0,V0 0] _ at f4
 change Blk _ _ [V0 (↑(28:Nat):Int)] _ at g4
 have a6:=a9.trans g3
 have c3:=c1.only f7 (by decide)
 refine xc 8 (args:=#[.pointer (some ⟨bs,4,none⟩),V0 2,V0 14400,P0 bl,P0 bat]) (Vp B bs bl bat 4 28 _ a c l _ _ _ (Nat.le_trans hBw a6.size) hBs hBa f4 (by simp) c3 g4 hl (hin _ a6) (by decide)) ?_
 rintro _ W5 ⟨u5,rfl,h0,f9,f6,g1⟩
 change Blk _ _ [V0 (↑(Zi l 12 4):Int),V0 (↑(Zi l 16 4):Int),V0 (↑(Zi l 20 4):Int),V0 (↑(Zi l 24 4):Int),V0 (↑(Zi l 28 4):Int),V0 0,V0 0,V0 0,V0 0,V0 0,V0 0] _ at f6
 change Blk _ _ [V0 (↑(32:Nat):Int)] _ at g1
 refine xd 3 .z ?_
 refine xbs (.o [0,1,2,3,4,5,6,7,8,9,10,11,12,13,14,15,16,17,20] 18) 6 [.pointer (some ⟨bs,5,none⟩),.pointer (some ⟨bs,6,none⟩),.pointer (some ⟨bs,7,none⟩),.pointer (some ⟨bs,8,none⟩),.pointer (some ⟨bs,9,none⟩),.pointer (some ⟨bs,10,none⟩)] 89 fun b6 W6 n6=>?_
 have d4:=blB (a6.trans h0) hBw (Za W5)
 have g6:=n6.ge0 d4
 refine xu (.r [19] 3) 7 ?_
 refine xb 14 0 n6.blk ?_
 have a1:=(f6.below (Za W5)).below n6.below
 refine xb 9 4 a1 ?_
 refine xw 0 ((↑(Zi l 28 4):Int)-1) ?_
 have b1:=blB d4 hBw n6.below
 have d0:=((c3.only f9 (by decide)).below (Za W5)).below n6.below
 have c2:=(g1.below (Za W5)).below n6.below
 refine xc 0 (args:=#[.pointer (some ⟨bs,5,none⟩),V0 1,V0 ((↑(Zi l 28 4):Int)-1),P0 bl,P0 bat]) (Vp B bs bl bat 5 32 _ a c l _ _ _ (Nat.le_trans hBw b1.size) hBs hBa a1 (by simp) d0 c2 hl (hin _ b1) (by decide)) ?_
 rintro _ W7 ⟨u7,rfl,g8,d8,e1,f5⟩
 change Blk _ _ [V0 (↑(Zi l 12 4):Int),V0 (↑(Zi l 16 4):Int),V0 (↑(Zi l 20 4):Int),V0 (↑(Zi l 24 4):Int),V0 (↑(Zi l 28 4):Int),V0 (↑(Zi l 32 4):Int),V0 0,V0 0,V0 0,V0 0,V0 0] _ at e1
 change Blk _ _ [V0 (↑(36:Nat):Int)] _ at f5
 have b9:=n6.blk.only d8 (by decide)
 refine xb 22 1 b9 ?_
 refine xb 9 4 e1 ?_
 refine xw 0 ((↑(Zi l 28 4):Int)-1) ?_
 have b2:=b1.trans g8
 have b8:=d0.only d8 (by decide)
 refine xc 0 (args:=#[.pointer (some ⟨bs,6,none⟩),V0 1,V0 ((↑(Zi l 28 4):Int)-1),P0 bl,P0 bat]) (Vp B bs bl bat 6 36 _ a c l _ _ _ (Nat.le_trans hBw b2.size) hBs hBa e1 (by simp) b8 f5 hl (hin _ b2) (by decide)) ?_
 rintro _ W8 ⟨u8,rfl,h3,e5,e3,g7⟩
 change Blk _ _ [V0 (↑(Zi l 12 4):Int),V0 (↑(Zi l 16 4):Int),V0 (↑(Zi l 20 4):Int),V0 (↑(Zi l 24 4):Int),V0 (↑(Zi l 28 4):Int),V0 (↑(Zi l 32 4):Int),V0 (↑(Zi l 36 4):Int),V0 0,V0 0,V0 0,V0 0] _ at e3
 change Blk _ _ [V0 (↑(40:Nat):Int)] _ at g7
 have d3:=b9.only e5 (by decide)
 refine xb 22 2 d3 ?_
 refine xb 9 4 e3 ?_
 refine xw 0 ((↑(Zi l 28 4):Int)-1) ?_
 have a3:=b2.trans h3
 have c4:=b8.only e5 (by decide)
 refine xc 0 (args:=#[.pointer (some ⟨bs,7,none⟩),V0 1,V0 ((↑(Zi l 28 4):Int)-1),P0 bl,P0 bat]) (Vp B bs bl bat 7 40 _ a c l _ _ _ (Nat.le_trans hBw a3.size) hBs hBa e3 (by simp) c4 g7 hl (hin _ a3) (by decide)) ?_
 rintro _ W9 ⟨u9,rfl,h2,e4,d6,f2⟩
 change Blk _ _ [V0 (↑(Zi l 12 4):Int),V0 (↑(Zi l 16 4):Int),V0 (↑(Zi l 20 4):Int),V0 (↑(Zi l 24 4):Int),V0 (↑(Zi l 28 4):Int),V0 (↑(Zi l 32 4):Int),V0 (↑(Zi l 36 4):Int),V0 (↑(Zi l 40 4):Int),V0 0,V0 0,V0 0] _ at d6
 change Blk _ _ [V0 (↑(44:Nat):Int)] _ at f2
 have c5:=d3.only e4 (by decide)
 refine xb 22 3 c5 ?_
 refine xb 9 4 d6 ?_
 refine xw 0 ((↑(Zi l 28 4):Int)-1) ?_
 have a2:=a3.trans h2
 have c0:=c4.only e4 (by decide)
 refine xc 0 (args:=#[.pointer (some ⟨bs,8,none⟩),V0 1,V0 ((↑(Zi l 28 4):Int)-1),P0 bl,P0 bat]) (Vp B bs bl bat 8 44 _ a c l _ _ _ (Nat.le_trans hBw a2.size) hBs hBa d6 (by simp) c0 f2 hl (hin _ a2) (by decide)) ?_
 rintro _ h4 ⟨h9,rfl,e0,a7,b0,c6⟩
 change Blk _ _ [V0 (↑(Zi l 12 4):Int),V0 (↑(Zi l 16 4):Int),V0 (↑(Zi l 20 4):Int),V0 (↑(Zi l 24 4):Int),V0 (↑(Zi l 28 4):Int),V0 (↑(Zi l 32 4):Int),V0 (↑(Zi l 36 4):Int),V0 (↑(Zi l 40 4):Int),V0 (↑(Zi l 44 4):Int),V0 0,V0 0] _ at b0
 change Blk _ _ [V0 (↑(48:Nat):Int)] _ at c6
 have d1:=c5.only a7 (by decide)
 refine xb 22 4 d1 ?_
 refine xb 9 4 b0 ?_
 refine xw 0 ((↑(Zi l 28 4):Int)-1) ?_
 have a5:=a2.trans e0
 have b7:=c0.only a7 (by decide)
 refine xc 0 (args:=#[.pointer (some ⟨bs,9,none⟩),V0 1,V0 ((↑(Zi l 28 4):Int)-1),P0 bl,P0 bat]) (Vp B bs bl bat 9 48 _ a c l _ _ _ (Nat.le_trans hBw a5.size) hBs hBa b0 (by simp) b7 c6 hl (hin _ a5) (by decide)) ?_
 rintro _ h8 ⟨h7,rfl,d7,a4,a8,b5⟩
 change Blk _ _ [V0 (↑(Zi l 12 4):Int),V0 (↑(Zi l 16 4):Int),V0 (↑(Zi l 20 4):Int),V0 (↑(Zi l 24 4):Int),V0 (↑(Zi l 28 4):Int),V0 (↑(Zi l 32 4):Int),V0 (↑(Zi l 36 4):Int),V0 (↑(Zi l 40 4):Int),V0 (↑(Zi l 44 4):Int),V0 (↑(Zi l 48 4):Int),V0 0] _ at a8
 change Blk _ _ [V0 (↑(52:Nat):Int)] _ at b5
 have d5:=d1.only a4 (by decide)
 refine xb 22 5 d5 ?_
 refine xb 9 4 a8 ?_
 refine xw 0 ((↑(Zi l 28 4):Int)-1) ?_
 have a0:=a5.trans d7
 have c9:=b7.only a4 (by decide)
 refine xc 0 (args:=#[.pointer (some ⟨bs,10,none⟩),V0 1,V0 ((↑(Zi l 28 4):Int)-1),P0 bl,P0 bat]) (Vp B bs bl bat 10 52 _ a c l _ _ _ (Nat.le_trans hBw a0.size) hBs hBa a8 (by simp) c9 b5 hl (hin _ a0) (by decide)) ?_
 rintro _ h5 ⟨h6,rfl,e7,e2,b4,d9⟩
 change Blk _ _ [V0 (↑(Zi l 12 4):Int),V0 (↑(Zi l 16 4):Int),V0 (↑(Zi l 20 4):Int),V0 (↑(Zi l 24 4):Int),V0 (↑(Zi l 28 4):Int),V0 (↑(Zi l 32 4):Int),V0 (↑(Zi l 36 4):Int),V0 (↑(Zi l 40 4):Int),V0 (↑(Zi l 44 4):Int),V0 (↑(Zi l 48 4):Int),V0 (↑(Zi l 52 4):Int)] _ at b4
 change Blk _ _ [V0 (↑(56:Nat):Int)] _ at d9
 have d2:=a0.trans e7
 have hO:=((((((((((((show Zf [24,3] w _ from e8).trans f0).trans f8).trans f7).trans f9).trans (Zf.of_below (Za W5))).trans (Zf.of_below n6.below)).trans d8).trans e5).trans e4).trans a7).trans a4).trans e2
 exact xe 19 (.tuple #[]) ⟨_,rfl,d2,hO,b4⟩
theorem Ro(B bs bo:Nat)(s:Sup)(w:World)(hBw:B≤w.heap.size)(hBo:B≤bo)(hb0:0≤s.blocks)(hb1:s.blocks<9223372036854775808)(ks:Blk w bs [V0 s.tx,V0 s.time,V0 s.unit,V0 s.data,V0 s.blocks,V0 s.top,V0 s.details,V0 s.dslots,V0 s.dover,V0 s.mindex,V0 s.mover] 24)(ko:Blk w bo [.bool true] 4) :
 C0 32 #[P0 bs,.func (.func 33) #[] #[P0 bo]] w ((fun e w'=>∃ u,e=.returned u∧Below B w w'∧Zf [4] w w'∧Blk w' bo [.bool (Yb s)] 4)):=by
 refine zin 64 Tryz.func32 ?_
 refine xc 6 (args:=#[P0 bs,V0 0,V0 2147483647,P0 bo]) (Ql B bs bo 0 _ s.tx 0 2147483647 true _ (Nat.le_trans hBw (Below.refl B _).size) hBo ks rfl ko) ?_
 rintro _ W1 ⟨u1,rfl,hb1,e0,f0⟩
 have b3:=ks.only e0 (by decide)
 refine xc 8 (args:=#[.pointer (some ⟨bs,1,none⟩),V0 0,V0 16777215,P0 bo]) (Ql B bs bo 1 _ s.time 0 16777215 (true&&decide ((0:Int)≤s.tx∧s.tx≤2147483647)) _ (Nat.le_trans hBw hb1.size) hBo b3 rfl f0) ?_
 rintro _ W2 ⟨u2,rfl,e7,e1,e8⟩
 have b7:=hb1.trans e7
 have c2:=b3.only e1 (by decide)
 refine xc 8 (args:=#[.pointer (some ⟨bs,2,none⟩),V0 1,V0 65536,P0 bo]) (Ql B bs bo 2 _ s.unit 1 65536 ((true&&decide ((0:Int)≤s.tx∧s.tx≤2147483647))&&decide ((0:Int)≤s.time∧s.time≤16777215)) _ (Nat.le_trans hBw b7.size) hBo c2 rfl e8) ?_
 rintro _ W3 ⟨u3,rfl,f1,e3,f6⟩
 have c4:=b7.trans f1
 have b2:=c2.only e3 (by decide)
 refine xc 8 (args:=#[.pointer (some ⟨bs,3,none⟩),V0 0,V0 65536,P0 bo]) (Ql B bs bo 3 _ s.data 0 65536 (((true&&decide ((0:Int)≤s.tx∧s.tx≤2147483647))&&decide ((0:Int)≤s.time∧s.time≤16777215))&&decide ((1:Int)≤s.unit∧s.unit≤65536)) _ (Nat.le_trans hBw c4.size) hBo b2 rfl f6) ?_
 rintro _ W4 ⟨u4,rfl,e6,e2,f8⟩
 have b1:=c4.trans e6
 have b5:=b2.only e2 (by decide)
 refine xc 8 (args:=#[.pointer (some ⟨bs,4,none⟩),V0 2,V0 14400,P0 bo]) (Ql B bs bo 4 _ s.blocks 2 14400 ((((true&&decide ((0:Int)≤s.tx∧s.tx≤2147483647))&&decide ((0:Int)≤s.time∧s.time≤16777215))&&decide ((1:Int)≤s.unit∧s.unit≤65536))&&decide ((0:Int)≤s.data∧s.data≤65536)) _ (Nat.le_trans hBw b1.size) hBo b5 rfl f8) ?_
 rintro _ W5 ⟨u5,rfl,e9,e4,e5⟩
 refine xd 3 .z ?_
 refine xbs (.o [0,1,2,3,4,5,6,7,8,9,10,11,12,13,14,15,16,17,20] 18) 6 [.pointer (some ⟨bs,5,none⟩),.pointer (some ⟨bs,6,none⟩),.pointer (some ⟨bs,7,none⟩),.pointer (some ⟨bs,8,none⟩),.pointer (some ⟨bs,9,none⟩),.pointer (some ⟨bs,10,none⟩)] 89 fun b6 W6 n6=>?_
 have c7:=blB (b1.trans e9) hBw (Za W5)
 have g6:=n6.ge0 c7
 refine xu (.r [19] 3) 7 ?_
 refine xb 14 0 n6.blk ?_
 have a6:=((b5.only e4 (by decide)).below (Za W5)).below n6.below
 refine xb 9 4 a6 ?_
 refine xw 0 (s.blocks-1) ?_
 have a9:=blB c7 hBw n6.below
 have c1:=(e5.below (Za W5)).below n6.below
 refine xc 0 (args:=#[.pointer (some ⟨bs,5,none⟩),V0 1,V0 (s.blocks-1),P0 bo]) (Ql B bs bo 5 _ s.top 1 (s.blocks-1) (((((true&&decide ((0:Int)≤s.tx∧s.tx≤2147483647))&&decide ((0:Int)≤s.time∧s.time≤16777215))&&decide ((1:Int)≤s.unit∧s.unit≤65536))&&decide ((0:Int)≤s.data∧s.data≤65536))&&decide ((2:Int)≤s.blocks∧s.blocks≤14400)) _ (Nat.le_trans hBw a9.size) hBo a6 rfl c1) ?_
 rintro _ W7 ⟨u7,rfl,f3,d4,f2⟩
 have c3:=n6.blk.only d4 (by decide)
 refine xb 22 1 c3 ?_
 have a7:=a6.only d4 (by decide)
 refine xb 9 4 a7 ?_
 refine xw 0 (s.blocks-1) ?_
 have b0:=a9.trans f3
 refine xc 0 (args:=#[.pointer (some ⟨bs,6,none⟩),V0 1,V0 (s.blocks-1),P0 bo]) (Ql B bs bo 6 _ s.details 1 (s.blocks-1) ((((((true&&decide ((0:Int)≤s.tx∧s.tx≤2147483647))&&decide ((0:Int)≤s.time∧s.time≤16777215))&&decide ((1:Int)≤s.unit∧s.unit≤65536))&&decide ((0:Int)≤s.data∧s.data≤65536))&&decide ((2:Int)≤s.blocks∧s.blocks≤14400))&&decide ((1:Int)≤s.top∧s.top≤(s.blocks-1))) _ (Nat.le_trans hBw b0.size) hBo a7 rfl f2) ?_
 rintro _ W8 ⟨u8,rfl,f7,d2,f5⟩
 have c5:=c3.only d2 (by decide)
 refine xb 22 2 c5 ?_
 have a3:=a7.only d2 (by decide)
 refine xb 9 4 a3 ?_
 refine xw 0 (s.blocks-1) ?_
 have c0:=b0.trans f7
 refine xc 0 (args:=#[.pointer (some ⟨bs,7,none⟩),V0 1,V0 (s.blocks-1),P0 bo]) (Ql B bs bo 7 _ s.dslots 1 (s.blocks-1) (((((((true&&decide ((0:Int)≤s.tx∧s.tx≤2147483647))&&decide ((0:Int)≤s.time∧s.time≤16777215))&&decide ((1:Int)≤s.unit∧s.unit≤65536))&&decide ((0:Int)≤s.data∧s.data≤65536))&&decide ((2:Int)≤s.blocks∧s.blocks≤14400))&&decide ((1:Int)≤s.top∧s.top≤(s.blocks-1)))&&decide ((1:Int)≤s.details∧s.details≤(s.blocks-1))) _ (Nat.le_trans hBw c0.size) hBo a3 rfl f5) ?_
 rintro _ W9 ⟨u9,rfl,f9,d1,f4⟩
 have c8:=c5.only d1 (by decide)
 refine xb 22 3 c8 ?_
 have a4:=a3.only d1 (by decide)
 refine xb 9 4 a4 ?_
 refine xw 0 (s.blocks-1) ?_
 have b4:=c0.trans f9
 refine xc 0 (args:=#[.pointer (some ⟨bs,8,none⟩),V0 1,V0 (s.blocks-1),P0 bo]) (Ql B bs bo 8 _ s.dover 1 (s.blocks-1) ((((((((true&&decide ((0:Int)≤s.tx∧s.tx≤2147483647))&&decide ((0:Int)≤s.time∧s.time≤16777215))&&decide ((1:Int)≤s.unit∧s.unit≤65536))&&decide ((0:Int)≤s.data∧s.data≤65536))&&decide ((2:Int)≤s.blocks∧s.blocks≤14400))&&decide ((1:Int)≤s.top∧s.top≤(s.blocks-1)))&&decide ((1:Int)≤s.details∧s.details≤(s.blocks-1)))&&decide ((1:Int)≤s.dslots∧s.dslots≤(s.blocks-1))) _ (Nat.le_trans hBw b4.size) hBo a4 rfl f4) ?_
 rintro _ g3 ⟨g5,rfl,d9,a5,d0⟩
 have b9:=c8.only a5 (by decide)
 refine xb 22 4 b9 ?_
 have a2:=a4.only a5 (by decide)
 refine xb 9 4 a2 ?_
 refine xw 0 (s.blocks-1) ?_
 have c6:=b4.trans d9
 refine xc 0 (args:=#[.pointer (some ⟨bs,9,none⟩),V0 1,V0 (s.blocks-1),P0 bo]) (Ql B bs bo 9 _ s.mindex 1 (s.blocks-1) (((((((((true&&decide ((0:Int)≤s.tx∧s.tx≤2147483647))&&decide ((0:Int)≤s.time∧s.time≤16777215))&&decide ((1:Int)≤s.unit∧s.unit≤65536))&&decide ((0:Int)≤s.data∧s.data≤65536))&&decide ((2:Int)≤s.blocks∧s.blocks≤14400))&&decide ((1:Int)≤s.top∧s.top≤(s.blocks-1)))&&decide ((1:Int)≤s.details∧s.details≤(s.blocks-1)))&&decide ((1:Int)≤s.dslots∧s.dslots≤(s.blocks-1)))&&decide ((1:Int)≤s.dover∧s.dover≤(s.blocks-1))) _ (Nat.le_trans hBw c6.size) hBo a2 rfl d0) ?_
 rintro _ g4 ⟨g1,rfl,d8,a8,d6⟩
 have d3:=b9.only a8 (by decide)
 refine xb 22 5 d3 ?_
 have a0:=a2.only a8 (by decide)
 refine xb 9 4 a0 ?_
 refine xw 0 (s.blocks-1) ?_
 have a1:=c6.trans d8
 refine xc 0 (args:=#[.pointer (some ⟨bs,10,none⟩),V0 1,V0 (s.blocks-1),P0 bo]) (Ql B bs bo 10 _ s.mover 1 (s.blocks-1) ((((((((((true&&decide ((0:Int)≤s.tx∧s.tx≤2147483647))&&decide ((0:Int)≤s.time∧s.time≤16777215))&&decide ((1:Int)≤s.unit∧s.unit≤65536))&&decide ((0:Int)≤s.data∧s.data≤65536))&&decide ((2:Int)≤s.blocks∧s.blocks≤14400))&&decide ((1:Int)≤s.top∧s.top≤(s.blocks-1)))&&decide ((1:Int)≤s.details∧s.details≤(s.blocks-1)))&&decide ((1:Int)≤s.dslots∧s.dslots≤(s.blocks-1)))&&decide ((1:Int)≤s.dover∧s.dover≤(s.blocks-1)))&&decide ((1:Int)≤s.mindex∧s.mindex≤(s.blocks-1))) _ (Nat.le_trans hBw a1.size) hBo a0 rfl d6) ?_
 rintro _ g0 ⟨g2,rfl,d7,d5,c9⟩
 have b8:=a1.trans d7
 have hO:=((((((((((((show Zf [4] w _ from e0).trans e1).trans e3).trans e2).trans e4).trans (Zf.of_below (Za W5))).trans (Zf.of_below n6.below)).trans d4).trans d2).trans d1).trans a5).trans a8).trans d5
 exact xe 19 (.tuple #[]) ⟨_,rfl,b8,hO,c9⟩
theorem Zah(s:Sup)(w:World)(hb0:0≤s.blocks)(hb1:s.blocks<9223372036854775808) :
 C0 9 #[.agg #[V0 s.tx,V0 s.time,V0 s.unit,V0 s.data,V0 s.blocks,V0 s.top,V0 s.details,V0 s.dslots,V0 s.dover,V0 s.mindex,V0 s.mover]] w (Ret (.bool (Yb s)) w):=by
 refine zin 7 Tryz.func9 ?_
 refine xa 2 [V0 s.tx,V0 s.time,V0 s.unit,V0 s.data,V0 s.blocks,V0 s.top,V0 s.details,V0 s.dslots,V0 s.dover,V0 s.mindex,V0 s.mover] 24 fun b1 W1 n1=>?_
 refine xa 5 [.bool false] 4 fun b2 W2 n2=>?_
 refine xs 0 n2.blk [.bool true] fun W3 u3 k3=>?_
 have g2:=n2.ge n1.below
 have hB:=u3.below (bln n1.below n2.below) g2
 have k1:=u3.blkT (n1.blk.below n2.below) n2.blk (by decide)
 refine xc 5 (args:=#[P0 b1,.func (.func 33) #[] #[P0 b2]]) (Ro w.heap.size b1 b2 s _ hB.size g2 hb0 hb1 k1 k3) ?_
 rintro _ W4 ⟨u4,rfl,a2,a3,a1⟩
 refine xb 4 0 a1 ?_
 have a0:=hB.trans a2
 exact xe 4 (.bool (Yb s)) ⟨rfl,a0⟩
theorem Jc(B Bx bs bl off n:Nat)(cs:List Value)(x:Int)(lo hi:Value)(p:O0)(c:Nat)(N:List Int)(w:World)(hBm:B≤Bx)(hBx:Bx≤w.heap.size)(hBw:B≤w.heap.size)(hBl:B≤bl)(ks:Blk w bs cs 24)(hn:cs[off]? = some (V0 x))(kl:Blk w bl [.slice p n c] 289)(hup:w.ownsRow Bx 229 2 (.slice p n c) n (N.flatMap Tj))(hnn:n≤1000) :
 C0 181 #[.pointer (some ⟨bs,off,none⟩),lo,hi,P0 bl] w ((fun e w'=>∃ u p' c',e=.returned u∧Below B w w'∧Zf [289,229] w w'∧Blk w' bl [.slice p' (n+1) c'] 289∧w'.ownsRow Bx 229 2 (.slice p' (n+1) c') (n+1) ((N++[x]).flatMap Tj))):=by
 refine zin 14 Tryz.func181 ?_
 refine xd 0 (.t B [289,229]) ?_
 have b0:=ks.below (Za w)
 refine xlt (.e [1,2] 3) (.t B [289,229]) (fun V hV=>(b0.only hV.2 (by decide)).cell (i:=off) hn) ?_
 refine xm2 (.b [4]) 0 5 ?_ ?_
 ·have a7:=kl.below (Za w)
  refine xb 0 0 a7 ?_
  refine xbs (.o [] 5) 1 [V0 4,V0 x] 229 fun b1 W1 n1=>?_
  have a4:=Zb hup (Za w)
  have b8:=Zw a4 n1
  have a1:=Zb a4 n1.below
  have hB:=blB (blB (Below.refl B w) hBw (Za w)) hBw n1.below
  refine ybi (.o [] 6) (.t B [289,229]) fun _ _ _ _ zJ zQ zo zx zy zK=>Zu (m:=1) (news:=[V0 4,V0 x]) (.agg #[V0 0,V0 0]) 2 16 (n+1) (((N++[x]).flatMap Tj)) zo Tryz.underlying289 (by kernel_rfl) rfl (by decide) zx a1 zy (n1.blk.sl 1 1 (by decide) (by decide)) rfl (by simp[Value.oneCell']) (by unfold maxLen;omega) (by omega) (Nat.le_trans hBx hB.size) (by rfl) (by rw[List.flatMap_append];rfl) fun c2 c3 W2 o2 b6 b9=>?_
  refine zK _ _ (Zr (b9.mono hBm) b6 a1 (by decide)) ?_
  have a2:=(a7.below n1.below).grown b6 a1 (by decide)
  refine ys (.o [] 7) a2 [.slice c2 (n+1) c3] (.t B [289,229]) fun W3 u3 k3=>⟨(Zo u3 a2 hBl (by decide)),?_⟩
  have b2:=u3.below (hB.trans (b9.mono hBm)) hBl
  have hO:=(((show Zf [289,229] w _ from(Zf.of_below (Za w))).trans (Zf.of_below n1.below)).trans (Zf.of_grown b6 a1 (by decide))).trans (Zf.of_upd u3 a2 (by decide))
  have a8:=u3.own2 o2 a2 (by decide)
  exact xe 1 (.tuple #[]) ⟨_,_,_,rfl,b2,hO,k3,a8⟩
 refine xbs 0 1 [V0 4,V0 x] 229 fun b4 W4 n4=>?_
 have a5:=Zb hup (Za w)
 have b5:=Zw a5 n4
 have a6:=(kl.below (Za w)).below n4.below
 refine xb (.o [] 0) 0 a6 ?_
 have a0:=Zb a5 n4.below
 have hB:=blB (blB (Below.refl B w) hBw (Za w)) hBw n4.below
 refine ybi (.o [] 6) (.t B [289,229]) fun _ _ _ _ zJ zQ zo zx zy zK=>Zu (m:=1) (news:=[V0 4,V0 x]) (.agg #[V0 0,V0 0]) 2 16 (n+1) (((N++[x]).flatMap Tj)) zo Tryz.underlying289 (by kernel_rfl) rfl (by decide) zx a0 zy (n4.blk.sl 1 1 (by decide) (by decide)) rfl (by simp[Value.oneCell']) (by unfold maxLen;omega) (by omega) (Nat.le_trans hBx hB.size) (by rfl) (by rw[List.flatMap_append];rfl) fun c1 c4 W5 o5 b3 c0=>?_
 refine zK _ _ (Zr (c0.mono hBm) b3 a0 (by decide)) ?_
 have a3:=a6.grown b3 a0 (by decide)
 refine ys (.o [] 7) a3 [.slice c1 (n+1) c4] (.t B [289,229]) fun W6 u6 k6=>⟨(Zo u6 a3 hBl (by decide)),?_⟩
 have b7:=u6.below (hB.trans (c0.mono hBm)) hBl
 have hO:=(((show Zf [289,229] w _ from(Zf.of_below (Za w))).trans (Zf.of_below n4.below)).trans (Zf.of_grown b3 a0 (by decide))).trans (Zf.of_upd u6 a3 (by decide))
 have a9:=u6.own2 o5 a3 (by decide)
 exact xe 1 (.tuple #[]) ⟨_,_,_,rfl,b7,hO,k6,a9⟩
theorem Za1(B Bx bs bl:Nat)(s:Sup)(p0:O0)(c0:Nat)(w:World)(hBm:B≤Bx)(hBx:Bx≤w.heap.size)(hBw:B≤w.heap.size)(hBl:B≤bl)(hb0:0≤s.blocks)(hb1:s.blocks<9223372036854775808)(ks:Blk w bs [V0 s.tx,V0 s.time,V0 s.unit,V0 s.data,V0 s.blocks,V0 s.top,V0 s.details,V0 s.dslots,V0 s.dover,V0 s.mindex,V0 s.mover] 24)(kl:Blk w bl [.slice p0 1 c0] 289)(hr0:w.ownsRow Bx 229 2 (.slice p0 1 c0) 1 ([1].flatMap Tj)) :
 C0 32 #[P0 bs,.func (.func 181) #[] #[P0 bl]] w ((fun e w'=>∃ u p c,e=.returned u∧Below B w w'∧Zf [289,229] w w'∧Blk w' bl [.slice p 12 c] 289∧w'.ownsRow Bx 229 2 (.slice p 12 c) 12 ((1::Zbq s).flatMap Tj))):=by
 refine zin 64 Tryz.func32 ?_
 refine xc 6 (args:=#[P0 bs,V0 0,V0 2147483647,P0 bl]) (Jc B Bx bs bl 0 1 _ s.tx _ _ p0 c0 [1] _ hBm (Nat.le_trans hBx (Below.refl B _).size) (Nat.le_trans hBw (Below.refl B _).size) hBl ks rfl kl hr0 (by decide)) ?_
 rintro _ W1 ⟨u1,p1,c1,rfl,hb1,h5,f9,i2⟩
 have g9:World.ownsRow _ _ _ _ (.slice p1 2 c1) 2 ([1,s.tx].flatMap Tj):=i2
 replace f9:Blk _ _ [.slice p1 2 c1] _:=f9
 have d4:=ks.only h5 (by decide)
 refine xc 8 (args:=#[.pointer (some ⟨bs,1,none⟩),V0 0,V0 16777215,P0 bl]) (Jc B Bx bs bl 1 2 _ s.time _ _ p1 c1 [1,s.tx] _ hBm (Nat.le_trans hBx hb1.size) (Nat.le_trans hBw hb1.size) hBl d4 rfl f9 g9 (by decide)) ?_
 rintro _ W2 ⟨u2,p2,c2,rfl,i6,h6,e8,i9⟩
 have h2:World.ownsRow _ _ _ _ (.slice p2 3 c2) 3 ([1,s.tx,s.time].flatMap Tj):=i9
 replace e8:Blk _ _ [.slice p2 3 c2] _:=e8
 have d0:=hb1.trans i6
 have e2:=d4.only h6 (by decide)
 refine xc 8 (args:=#[.pointer (some ⟨bs,2,none⟩),V0 1,V0 65536,P0 bl]) (Jc B Bx bs bl 2 3 _ s.unit _ _ p2 c2 [1,s.tx,s.time] _ hBm (Nat.le_trans hBx d0.size) (Nat.le_trans hBw d0.size) hBl e2 rfl e8 h2 (by decide)) ?_
 rintro _ W3 ⟨u3,p3,c3,rfl,i8,i0,g8,i3⟩
 have f5:World.ownsRow _ _ _ _ (.slice p3 4 c3) 4 ([1,s.tx,s.time,s.unit].flatMap Tj):=i3
 replace g8:Blk _ _ [.slice p3 4 c3] _:=g8
 have b4:=d0.trans i8
 have e0:=e2.only i0 (by decide)
 refine xc 8 (args:=#[.pointer (some ⟨bs,3,none⟩),V0 0,V0 65536,P0 bl]) (Jc B Bx bs bl 3 4 _ s.data _ _ p3 c3 [1,s.tx,s.time,s.unit] _ hBm (Nat.le_trans hBx b4.size) (Nat.le_trans hBw b4.size) hBl e0 rfl g8 f5 (by decide)) ?_
 rintro _ W4 ⟨u4,p4,c4,rfl,j3,h9,g1,j1⟩
 have h3:World.ownsRow _ _ _ _ (.slice p4 5 c4) 5 ([1,s.tx,s.time,s.unit,s.data].flatMap Tj):=j1
 replace g1:Blk _ _ [.slice p4 5 c4] _:=g1
 have b0:=b4.trans j3
 have d8:=e0.only h9 (by decide)
 refine xc 8 (args:=#[.pointer (some ⟨bs,4,none⟩),V0 2,V0 14400,P0 bl]) (Jc B Bx bs bl 4 5 _ s.blocks _ _ p4 c4 [1,s.tx,s.time,s.unit,s.data] _ hBm (Nat.le_trans hBx b0.size) (Nat.le_trans hBw b0.size) hBl d8 rfl g1 h3 (by decide)) ?_
 rintro _ W5 ⟨u5,p5,c5,rfl,i7,i1,e7,j6⟩
 have f0:World.ownsRow _ _ _ _ (.slice p5 6 c5) 6 ([1,s.tx,s.time,s.unit,s.data,s.blocks].flatMap Tj):=j6
 replace e7:Blk _ _ [.slice p5 6 c5] _:=e7
 refine xd 3 .z ?_
 refine xbs (.o [0,1,2,3,4,5,6,7,8,9,10,11,12,13,14,15,16,17,20] 18) 6 [.pointer (some ⟨bs,5,none⟩),.pointer (some ⟨bs,6,none⟩),.pointer (some ⟨bs,7,none⟩),.pointer (some ⟨bs,8,none⟩),.pointer (some ⟨bs,9,none⟩),.pointer (some ⟨bs,10,none⟩)] 89 fun b6 W6 n6=>?_
 have e4:=blB (b0.trans i7) hBw (Za W5)
 have g6:=n6.ge0 e4
 refine xu (.r [19] 3) 7 ?_
 refine xb 14 0 n6.blk ?_
 have b5:=((d8.only i1 (by decide)).below (Za W5)).below n6.below
 refine xb 9 4 b5 ?_
 refine xw 0 (s.blocks-1) ?_
 have b7:=blB e4 hBw n6.below
 have d7:=(e7.below (Za W5)).below n6.below
 have b3:=Zb (Zb f0 (Za W5)) n6.below
 refine xc 0 (args:=#[.pointer (some ⟨bs,5,none⟩),V0 1,V0 (s.blocks-1),P0 bl]) (Jc B Bx bs bl 5 6 _ s.top _ _ p5 c5 [1,s.tx,s.time,s.unit,s.data,s.blocks] _ hBm (Nat.le_trans hBx b7.size) (Nat.le_trans hBw b7.size) hBl b5 rfl d7 b3 (by decide)) ?_
 rintro _ W7 ⟨u7,p6,c6,rfl,i4,f4,g3,j5⟩
 have g0:World.ownsRow _ _ _ _ (.slice p6 7 c6) 7 ([1,s.tx,s.time,s.unit,s.data,s.blocks,s.top].flatMap Tj):=j5
 replace g3:Blk _ _ [.slice p6 7 c6] _:=g3
 have d3:=n6.blk.only f4 (by decide)
 refine xb 22 1 d3 ?_
 have a5:=b5.only f4 (by decide)
 refine xb 9 4 a5 ?_
 refine xw 0 (s.blocks-1) ?_
 have b9:=b7.trans i4
 refine xc 0 (args:=#[.pointer (some ⟨bs,6,none⟩),V0 1,V0 (s.blocks-1),P0 bl]) (Jc B Bx bs bl 6 7 _ s.details _ _ p6 c6 [1,s.tx,s.time,s.unit,s.data,s.blocks,s.top] _ hBm (Nat.le_trans hBx b9.size) (Nat.le_trans hBw b9.size) hBl a5 rfl g3 g0 (by decide)) ?_
 rintro _ W8 ⟨u8,p7,c7,rfl,j7,h1,g5,j4⟩
 have f1:World.ownsRow _ _ _ _ (.slice p7 8 c7) 8 ([1,s.tx,s.time,s.unit,s.data,s.blocks,s.top,s.details].flatMap Tj):=j4
 replace g5:Blk _ _ [.slice p7 8 c7] _:=g5
 have e3:=d3.only h1 (by decide)
 refine xb 22 2 e3 ?_
 have a3:=a5.only h1 (by decide)
 refine xb 9 4 a3 ?_
 refine xw 0 (s.blocks-1) ?_
 have a6:=b9.trans j7
 refine xc 0 (args:=#[.pointer (some ⟨bs,7,none⟩),V0 1,V0 (s.blocks-1),P0 bl]) (Jc B Bx bs bl 7 8 _ s.dslots _ _ p7 c7 [1,s.tx,s.time,s.unit,s.data,s.blocks,s.top,s.details] _ hBm (Nat.le_trans hBx a6.size) (Nat.le_trans hBw a6.size) hBl a3 rfl g5 f1 (by decide)) ?_
 rintro _ W9 ⟨u9,p8,c8,rfl,j2,g7,h0,i5⟩
 have f3:World.ownsRow _ _ _ _ (.slice p8 9 c8) 9 ([1,s.tx,s.time,s.unit,s.data,s.blocks,s.top,s.details,s.dslots].flatMap Tj):=i5
 replace h0:Blk _ _ [.slice p8 9 c8] _:=h0
 have d6:=e3.only g7 (by decide)
 refine xb 22 3 d6 ?_
 have b1:=a3.only g7 (by decide)
 refine xb 9 4 b1 ?_
 refine xw 0 (s.blocks-1) ?_
 have a4:=a6.trans j2
 refine xc 0 (args:=#[.pointer (some ⟨bs,8,none⟩),V0 1,V0 (s.blocks-1),P0 bl]) (Jc B Bx bs bl 8 9 _ s.dover _ _ p8 c8 [1,s.tx,s.time,s.unit,s.data,s.blocks,s.top,s.details,s.dslots] _ hBm (Nat.le_trans hBx a4.size) (Nat.le_trans hBw a4.size) hBl b1 rfl h0 f3 (by decide)) ?_
 rintro _ j8 ⟨k3,p9,c9,rfl,f7,b2,b8,j0⟩
 have f8:World.ownsRow _ _ _ _ (.slice p9 10 c9) 10 ([1,s.tx,s.time,s.unit,s.data,s.blocks,s.top,s.details,s.dslots,s.dover].flatMap Tj):=j0
 replace b8:Blk _ _ [.slice p9 10 c9] _:=b8
 have d9:=d6.only b2 (by decide)
 refine xb 22 4 d9 ?_
 have a2:=b1.only b2 (by decide)
 refine xb 9 4 a2 ?_
 refine xw 0 (s.blocks-1) ?_
 have a8:=a4.trans f7
 refine xc 0 (args:=#[.pointer (some ⟨bs,9,none⟩),V0 1,V0 (s.blocks-1),P0 bl]) (Jc B Bx bs bl 9 10 _ s.mindex _ _ p9 c9 [1,s.tx,s.time,s.unit,s.data,s.blocks,s.top,s.details,s.dslots,s.dover] _ hBm (Nat.le_trans hBx a8.size) (Nat.le_trans hBw a8.size) hBl a2 rfl b8 f8 (by decide)) ?_
 rintro _ k2 ⟨k1,f2,f6,rfl,e9,a7,d1,g2⟩
 have d2:World.ownsRow _ _ _ _ (.slice f2 11 f6) 11 ([1,s.tx,s.time,s.unit,s.data,s.blocks,s.top,s.details,s.dslots,s.dover,s.mindex].flatMap Tj):=g2
 replace d1:Blk _ _ [.slice f2 11 f6] _:=d1
 have e6:=d9.only a7 (by decide)
 refine xb 22 5 e6 ?_
 have a1:=a2.only a7 (by decide)
 refine xb 9 4 a1 ?_
 refine xw 0 (s.blocks-1) ?_
 have a0:=a8.trans e9
 refine xc 0 (args:=#[.pointer (some ⟨bs,10,none⟩),V0 1,V0 (s.blocks-1),P0 bl]) (Jc B Bx bs bl 10 11 _ s.mover _ _ f2 f6 [1,s.tx,s.time,s.unit,s.data,s.blocks,s.top,s.details,s.dslots,s.dover,s.mindex] _ hBm (Nat.le_trans hBx a0.size) (Nat.le_trans hBw a0.size) hBl a1 rfl d1 d2 (by decide)) ?_
 rintro _ j9 ⟨k0,h8,h7,rfl,h4,g4,a9,e5⟩
 have d5:World.ownsRow _ _ _ _ (.slice h8 12 h7) 12 ([1,s.tx,s.time,s.unit,s.data,s.blocks,s.top,s.details,s.dslots,s.dover,s.mindex,s.mover].flatMap Tj):=e5
 replace a9:Blk _ _ [.slice h8 12 h7] _:=a9
 have e1:=a0.trans h4
 have hO:=((((((((((((show Zf [289,229] w _ from h5).trans h6).trans i0).trans h9).trans i1).trans (Zf.of_below (Za W5))).trans (Zf.of_below n6.below)).trans f4).trans h1).trans g7).trans b2).trans a7).trans g4
 exact xe 19 (.tuple #[]) ⟨_,_,_,rfl,e1,hO,a9,d5⟩
theorem Zg9{N:List Int}{i:Nat}(h:i<N.length):Uq (N.take (i+1))=Uq (N.take i)++leB (N.getD i 0) 4:=by
 unfold Uq
 rw[List.take_succ_eq_append_getElem h,List.flatMap_append]
 simp[List.getD,h]
theorem byte_inj{x y:UInt8}(h:(x.toNat:Int)=(y.toNat:Int)):x=y:=UInt8.toNat_inj.1 (by omega)
theorem bytes_ne{a b:Bl}{i:Nat}(hi:i<a.length)(hl:a.length=b.length)(h:((a.getD i 0).toNat:Int)≠((b.getD i 0).toNat:Int)):(a==b)=false:=by
 apply beq_false_of_ne
 rintro rfl
 exact h rfl
theorem bytes_eq{a b:Bl}(hl:a.length=b.length)(h:∀ j,j<a.length→a.getD j 0=b.getD j 0):(a==b)=true:=by
 rw[beq_iff_eq]
 apply List.ext_getElem hl
 intro j h1 h2
 have:=h j h1
 simpa [List.getD,h1,h2] using this
theorem Il(p q:O0)(c d:Nat)(a b:Bl)(w:World)(hl:a.length≤100000000)(h:Bys w (.slice p a.length c) a)(h2:Bys w (.slice q b.length d) b) :
 C0 148 #[.slice p a.length c,.slice q b.length d] w (Ret (.bool (a==b)) w):=by
 refine zin 26 Tryz.func148 ?_
 refine xin 15 (a.length:Int) (b.length:Int) (fun a6=>?_) (fun a6=>?_)
 ·refine xe 7 (.bool false) ?_
  rw[show(a==b)=false from beq_false_of_ne (fun q=>by subst q;simp at *)];exact⟨rfl,(B3 w)⟩
 have hB:=Below.refl w.heap.size w
 refine zl 11 26 (fun zm a4 V=>∃ (i:Nat),a4=[(0,.slice p a.length c),(1,.slice q b.length d),(12,V0 (a.length:Int)),(13,V0 (i:Int))]∧zm=a.length-((i:Int)).toNat∧B0 w V∧i≤a.length∧(∀ j,j<i→a.getD j 0=b.getD j 0)) ⟨0,rfl,rfl,hB,Nat.zero_le _,?_⟩ ?_
 ·exact fun j hj=>absurd hj (by omega)
 rintro _ _ W2 ⟨i,rfl,rfl,a1,hi,hz⟩ J2 a5 r2
 refine xid 6 ((i:Int)<(a.length:Int)) (fun a3=>?_) (fun a3=>?_)
 ·refine xd 11 .z ?_
  refine xx (.e [0,1] 2) _ a.length i 1 (Bys.elem h (k:=i) (by omega)).1 ?_
  have a0:=bln a1 (Za W2)
  refine xl (.e [] 3) ((Bys.elem (h.below a0) (k:=i) (by omega)).2) ?_
  refine xx (.e [4,5] 6) _ b.length i 1 (Bys.elem h2 (k:=i) (by omega)).1 ?_
  refine xl (.e [] 7) ((Bys.elem (h2.below a0) (k:=i) (by omega)).2) ?_
  refine xin (.r [8] 2) (↑(a.getD i 0).toNat:Int) (↑(b.getD i 0).toNat:Int) (fun a2=>?_) (fun a2=>?_)
  ·refine xe 11 (.bool false) ?_
   rw[bytes_ne (i:=i) (by omega) (by omega) (by assumption)];exact⟨rfl,a0⟩
  refine xwm 4 ((i:Int)+1) (↑(i+1):Int) ?_
  exact ze 2 (a5 _ _ _ ⟨i+1,rfl,rfl,a0,by omega,fun j hj=>(Nat.lt_or_ge j i).elim (hz j) (fun q=>by obtain rfl:j=i:=(by omega);exact byte_inj (by assumption))⟩ (by omega))
 refine xe 11 (.bool true) ?_
 rw[bytes_eq (by omega) (fun j hj=>hz j (by omega))];exact⟨rfl,a1⟩
theorem Ry(p q:O0)(c d m n:Nat)(a b:Bl)(w:World)(hm:a.length=m)(hn:b.length=n)(hl:m≤100000000)(h:Bys w (.slice p m c) a)(h2:Bys w (.slice q n d) b):C0 148 #[.slice p m c,.slice q n d] w (Ret (.bool (a==b)) w):=by
 subst hm hn;exact Il p q c d a b w hl h h2
theorem Pack_4s(p:O0)(c:Nat)(N:List Int)(w:World)(hn2:N.length≤1000)(hN:∀ i,i<N.length→0≤N.getD i 0∧N.getD i 0<4294967296)(hF:Sts Tj w (.slice p N.length c) N) :
 C0 114 #[.slice p N.length c] w (Vy (fun w' r=>∃ q d,r=.tuple #[.slice q (N.length*4) d,V0 0]∧w'.ownsRow w.heap.size 5 1 (.slice q (N.length*4) d) (N.length*4) ((Uq N).map bv)) w):=by
 refine zin 32 Tryz.func114 ?_
 have hB:=Below.refl w.heap.size w
 refine zl 20 32 (fun zm b1 V=>∃ (i m:Nat) (q:O0) (d:Nat),b1=[(4,.slice q m d),(7,.slice p N.length c),(8,V0 (N.length:Int)),(9,V0 (i:Int))]∧zm=N.length-((i:Int)).toNat∧B0 w V∧V.ownsRow w.heap.size 5 1 (.slice q m d) m ((Uq (N.take i)).map bv)∧i≤N.length∧m=i*4) ⟨0,0,_,_,rfl,rfl,hB,World.ownsRow_nil _ _ _ _,Nat.zero_le _,rfl⟩ ?_
 rintro _ _ W1 ⟨i,m,q,d,rfl,rfl,a0,ho,hi,hm⟩ J1 b0 r1
 refine xid 6 ((i:Int)<(N.length:Int)) (fun b2=>?_) (fun b2=>?_)
 ·refine xx 6 _ N.length i 2 (Sts.cell hF Zdt 0 (k:=i) (i:=0) (by omega) rfl).1 ?_
  refine xlv 0 (Sts.rp (k:=i) (hF.below a0) Zdt 0 (by omega) (by decide)) ?_
  refine xa 0 [V0 0,V0 0] 229 fun b3 W3 n3=>?_
  have g3:=n3.ge a0
  refine xsv 0 n3.blk [V0 4,V0 (N.getD i 0)] fun W4 u4 k4=>?_
  refine xb 6 0 k4 ?_
  refine xr 0 (args:=#[V0 4]) (Ic _) fun W5 a6=>?_
  have a2:=k4.below a6
  refine xb 10 1 a2 ?_
  refine xb 1 0 a2 ?_
  refine xr 0 (args:=#[V0 (N.getD i 0),V0 4]) (Zev (N.getD i 0) (hN i (by omega)).1 (hN i (by omega)).2 _) fun W6 a5=>?_
  have a3:=a2.below a5
  refine xb 9 1 a3 ?_
  refine xb 1 0 a3 ?_
  refine xc 0 (args:=#[V0 (N.getD i 0),V0 4]) (Oc (N.getD i 0) (hN i (by omega)).1 _) ?_
  rintro _ W7 ⟨_,rfl,a9,h2⟩
  have b5:=(bln (bln (u4.below (bln a0 n3.below) g3) a6) a5).size
  have a1:=Zg h2 b5
  unfold Nb at a1
  rw[Zt] at a1
  obtain⟨p2,c2,rfl⟩:=(Zh a1).slice
  have a8:=Zb (Zb (Zb (u4.own2 (Zb ho n3.below) n3.blk (by decide)) a6) a5) a9
  have a4:=bln (bln (bln (u4.below (bln a0 n3.below) g3) a6) a5) a9
  refine xbi 0 fun _ _ _ _ zJ zQ zo zx zy zK=>Zu (m:=4) (news:=(leB (N.getD i 0) 4).map bv) (.int .u8 0) 1 1 (m+4) (((Uq (N.take (i+1))).map bv)) zo Tryz.underlying22 (by kernel_rfl) rfl (by decide) zx a8 zy (Zh a1) (by simp[Zt]) (Kf _) (by unfold maxLen;omega) (by omega) a4.size (by rfl) (by rw[Zg9 (by omega),List.map_append]) fun b7 b8 W8 o8 b6 b4=>?_
  refine zK _ _ ?_
  refine xwm 5 ((i:Int)+1) (↑(i+1):Int) ?_
  have a7:=a4.trans b4
  exact ze 2 (b0 _ _ _ ⟨i+1,_,_,_,rfl,rfl,a7,o8,by omega,by omega⟩ (by omega))
 refine xe 13 (.tuple #[.slice q m d,V0 0]) ?_
 obtain rfl:i=N.length:=by omega
 rw[List.take_length] at ho
 subst hm
 exact⟨_,rfl,a0,_,_,rfl,ho⟩
theorem sup_put3(s:Sup):((Wd++List.replicate 236 (0:UInt8)).map bv).take 8++(Uq (1::Zbq s)).map bv++((Wd++List.replicate 236 (0:UInt8)).map bv).drop (8+48)=(Zcd s).map bv:=by
 unfold Zcd
 rw[List.map_append (l₁:=Wd++Uq (1::Zbq s)),List.map_append (l₁:=Wd) (l₂:=Uq (1::Zbq s))]
 congr 1
theorem supN_bd{s:Sup}(h:Yb s=true):∀ i,i<(1::Zbq s).length→0≤(1::Zbq s).getD i 0∧(1::Zbq s).getD i 0<4294967296:=by
 unfold Yb at h
 simp only[Bool.and_eq_true,decide_eq_true_iff,Bool.true_and] at h
 intro i hi
 have a0:i<12:=hi
 obtain rfl|rfl|rfl|rfl|rfl|rfl|rfl|rfl|rfl|rfl|rfl|rfl:i=0∨i=1∨i=2∨i=3∨i=4∨i=5∨i=6∨i=7∨i=8∨i=9∨i=10∨i=11:=by omega
 all_goals simp[Zbq,List.getD]
 all_goals omega
theorem Zb9(s:Sup)(w:World)(hb0:0≤s.blocks)(hb1:s.blocks<9223372036854775808)(hr:Yb s=false) :
 C0 147 #[.agg #[V0 s.tx,V0 s.time,V0 s.unit,V0 s.data,V0 s.blocks,V0 s.top,V0 s.details,V0 s.dslots,V0 s.dover,V0 s.mindex,V0 s.mover]] w (Ret (.tuple #[S0,V0 1]) w):=by
 refine zin 28 Tryz.func147 ?_
 refine xa 2 [V0 s.tx,V0 s.time,V0 s.unit,V0 s.data,V0 s.blocks,V0 s.top,V0 s.details,V0 s.dslots,V0 s.dover,V0 s.mindex,V0 s.mover] 24 fun b1 W1 n1=>?_
 refine xlv 7 n1.blk.rp ?_
 refine xr 0 (args:=#[.agg #[V0 s.tx,V0 s.time,V0 s.unit,V0 s.data,V0 s.blocks,V0 s.top,V0 s.details,V0 s.dslots,V0 s.dover,V0 s.mindex,V0 s.mover]]) (Zah s _ hb0 hb1) fun W2 a0=>?_
 refine xk 3 (show(!(Yb s):Bool)=true from by rw[hr];rfl) ?_
 have hB:=bln n1.below a0
 exact xe 8 (.tuple #[S0,V0 1]) ⟨rfl,hB⟩
theorem Zf1(s:Sup)(w:World)(hb0:0≤s.blocks)(hb1:s.blocks<9223372036854775808)(hr:Yb s=true) :
 C0 147 #[.agg #[V0 s.tx,V0 s.time,V0 s.unit,V0 s.data,V0 s.blocks,V0 s.top,V0 s.details,V0 s.dslots,V0 s.dover,V0 s.mindex,V0 s.mover]] w (Vy (fun w' r=>∃ p c,r=.tuple #[.slice p 244 c,V0 0]∧w'.ownsRow w.heap.size 5 1 (.slice p 244 c) 244 ((Zcd s).map bv)) w):=by
 have hN:=supN_bd hr
 refine zin 28 Tryz.func147 ?_
 refine xa 2 [V0 s.tx,V0 s.time,V0 s.unit,V0 s.data,V0 s.blocks,V0 s.top,V0 s.details,V0 s.dslots,V0 s.dover,V0 s.mindex,V0 s.mover] 24 fun b1 W1 n1=>?_
 refine xlv 7 n1.blk.rp ?_
 refine xr 0 (args:=#[.agg #[V0 s.tx,V0 s.time,V0 s.unit,V0 s.data,V0 s.blocks,V0 s.top,V0 s.details,V0 s.dslots,V0 s.dover,V0 s.mindex,V0 s.mover]]) (Zah s _ hb0 hb1) fun W2 a3=>?_
 refine xk 3 (show(!(Yb s):Bool)=false from by rw[hr];rfl) ?_
 refine xbs 5 1 [V0 4,V0 1] 229 fun b3 W3 n3=>?_
 refine xa 0 [S0] 289 fun b4 W4 n4=>?_
 refine xs 0 n4.blk [.slice (S1 b3) 1 1] fun W5 u5 k5=>?_
 have g4:=n4.ge (bln (bln n1.below a3) n3.below)
 have k3:=u5.blkT (n3.blk.below n4.below) n4.blk (by decide)
 have g3:=n3.ge (bln n1.below a3)
 have a9:World.ownsRow W5 w.heap.size 229 2 (.slice (S1 b3) 1 1) 1 (([1]:List Int).flatMap Tj):=Xa (size:=2) (n:=1) k3 g3 rfl (by decide)
 have hB:=u5.below (bln (bln (bln n1.below a3) n3.below) n4.below) g4
 have b6:=u5.blkT (((n1.blk.below a3).below n3.below).below n4.below) n4.blk (by decide)
 refine xc 5 (args:=#[P0 b1,.func (.func 181) #[] #[P0 b4]]) (Za1 w.heap.size w.heap.size b1 b4 s _ 1 _ (Nat.le_refl _) hB.size hB.size g4 hb0 hb1 b6 k5 a9) ?_
 rintro _ W6 ⟨u6,b8,c1,rfl,c0,d1,c9,b0⟩
 refine xb 4 0 c9 ?_
 refine xc 0 (args:=#[.slice b8 12 c1]) (Pack_4s b8 c1 (1::Zbq s) _ (show 12≤1000 by decide) hN (Zh b0)) ?_
 rintro _ W7 ⟨_,rfl,c5,q2,d2,rfl,h2⟩
 have c7:=(hB.trans c0).size
 have a4:=Zg h2 c7
 replace h2:World.ownsRow _ _ _ _ (.slice q2 48 d2) 48 ((Uq (1::Zbq s)).map bv):=a4
 have a7:=bln (hB.trans c0) c5
 have b7:=a7
 refine xmk 9 fun _ _ _ _ zJ zQ zo zx zy zK=>Gn 244 (.int .u8 0) 1 1 ((List.replicate 244 (0:UInt8)).map bv) zo zx zy Tryz.underlying22 (by kernel_rfl) rfl (by omega) (by omega) (Zer 244) fun b9 W9 n9=>?_
 refine zK _ _ ?_
 have o9:=Xa (size:=1) (n:=244) n9.blk (n9.ge (B3 W7)) (by rw[List.length_map,List.length_replicate]) (by unfold maxLen;omega)
 refine xbi 7 (t2:=9) fun _ _ _ _ zJ zQ zo zx zy zK=>Zel (dLen:=244) (dCap:=244) (off:=0) ([83,67,65,78,84,76,73,78]) (((Wd++List.replicate 236 (0:UInt8)).map bv)) zo Tryz.underlying22 (by kernel_rfl) zx zy o9 (by decide) (by decide) n9.below.size (by rfl) fun d0 c3 c8 b5=>?_
 refine zK _ _ ?_
 have a1:=Zh h2
 have a0:=n9.below.trans b5
 refine xbi 2 (t2:=22) fun _ _ _ _ zJ zQ zo zx zy zK=>Nv (dLen:=236) (dCap:=236) (off:=8) 48 ((Uq (1::Zbq s)).map bv) (((Zcd s).map bv)) zo Tryz.underlying22 (by kernel_rfl) zx zy (a1.below a0) c3 (by rw[List.length_map,Fn];rfl) (by decide) (by decide) (Kf _) a0.size (sup_put3 s) fun c6 c2 c4 b2=>?_
 refine zK _ _ ?_
 have a6:=a0.trans b2
 have a5:B0 W7 c6:=a6
 have a8:w.heap.size≤W7.heap.size:=b7.size
 have hB:=bln b7 a5
 have a2:=Zg c2 a8
 exact xe 10 (.tuple #[.slice (S1 b9) 244 244,V0 0]) ⟨_,rfl,hB,_,_,rfl,a2⟩
end Go.Proofs.YtgphgaehfdfjjaaGreatDoor
