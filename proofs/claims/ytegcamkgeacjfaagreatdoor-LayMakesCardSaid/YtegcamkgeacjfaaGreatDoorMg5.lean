/- The document's answer for layer 21: Split, walked. -/
import Derived.Defers
import Derived.Recover
import Derived.Test.YtegcamkgeacjfaaGreatDoorMg4
namespace Go.Proofs.YtegcamkgeacjfaaGreatDoor
set_option maxHeartbeats 8000000
set_option maxRecDepth 100000
open Go.RowKit Go.Extern.Stop Go.Stop Go.Extern
set_option linter.unusedVariables false
attribute [local irreducible] wpList wpAnyH Code.wp Oper.wp Go
theorem Ow(a:O0)(c:Nat)(l:List Int)(w:World)(h:Sl w (.slice a l.length c) l.length (l.map V0))(hl:l.length≤65536) :
 C0 180 #[.slice a l.length c] w (RSplitP l w):=by
 refine zin 57 Tryz.func180 ?_
 refine xk 15 (show(decide ((l.length:Int)>(65536:Int)):Bool)=false from decide_eq_false (by omega)) ?_
 have hB:=Below.refl w.heap.size w
 refine zl 19 57 (fun zm m8 V=>∃ (i q m nb:Nat) (pb:O0) (cb:Nat) (pl:O0) (cl:Nat) (gs:List (Nat×Nat)) (ko:Nat) (po:O0) (co:Nat),m8=[(0,.slice a l.length c),(5,.slice pb nb cb),(6,.slice po ko co),(7,V0 (i:Int))]∧zm=l.length-((i:Int)).toNat∧B3 w V∧V.ownsRow w.heap.size 33 1 (.slice pb nb cb) nb (((List.range q).map (Bu gs (Zl (Zg l) q)))++(if m=0 then [] else [.slice pl m cl]))∧V.ownsRow w.heap.size 123 3 (.slice po ko co) ko ((Zm l i).flatMap Yj)∧V.ownsRow w.heap.size 3 1 (.slice pl m cl) m ((((Zg l).drop (q*960)).take m).map V0)∧EachS w.heap.size V (.slice pl m cl) gs (Zl (Zg l) q)∧i≤l.length∧i=q*960+m∧m<960∧((m=0→nb=q∧pl=none∧cl=0)∧(m≠0→nb=q+1))∧((∀ k,k<i→Kw (l.getD k 0)))∧ko=(Zm l i).length) ⟨0,0,0,0,none,0,none,0,[],0,none,0,rfl,rfl,hB,World.ownsRow_nil _ _ _ _,World.ownsRow_nil _ _ _ _,World.ownsRow_nil _ _ _ _,EachS.nil _ _,Nat.zero_le _,rfl,by decide,⟨fun _=>⟨rfl,rfl,rfl⟩,fun q=>absurd rfl q⟩,?_,rfl⟩ ?_
 ·exact fun k hk=>absurd hk (by omega)
 rintro _ _ W1 ⟨i,q,m,nb,pb,cb,pl,cl,gs,ko,po,co,rfl,rfl,a3,h4,g9,f1,h6,hi,hq,hm,k0,f8,k5⟩ J1 i7 r1
 have r0:=Ju l i
 refine xid 9 ((i:Int)<(l.length:Int)) (fun n9=>?_) (fun n9=>?_)
 ·refine xx 8 _ l.length i 1 (Ints.elem h (k:=i) (by omega)).1 ?_
  refine xl 0 ((Ints.elem (h.below a3) (k:=i) (by omega)).2) ?_
  refine xg 9 [23,24] (decide ((l.getD i 0)<(0:Int))) (fun h5=>?_) (fun h5=>?_)
  ·have h5:=of_decide_eq_true h5
   exact xe 20 (.tuple #[S0,S0,V0 2]) (.inl ⟨Rb hl (i:=i) (by omega) (fun q=>by unfold Kw at q;omega),rfl,a3⟩)
  have h5:=of_decide_eq_false h5
  refine xid 5 ((l.getD i 0)>(2147483647:Int)) (fun o0=>?_) (fun o0=>?_)
  ·exact xe 14 (.tuple #[S0,S0,V0 2]) (.inl ⟨Rb hl (i:=i) (by omega) (fun q=>by unfold Kw at q;omega),rfl,a3⟩)
  refine xq 6 (congrArg V0 (show(Int.tmod (i:Int) 960:Int)=(m:Int) from(Mg i 960).trans (by rw[show i%960=m by omega]))) ?_
  refine xie 3 (m:Int) (0:Int) (fun n5=>?_) (fun n5=>?_)
  ·have d4:m=0:=by omega
   have l8:=k0.1 d4
   have f4:nb+1=q+1:=by omega
   refine xbs 2 1 [S0] 33 fun b6 W6 n6=>?_
   have g6:=n6.ge a3
   have l1:=Zr h4 n6
   have a0:=Zb h4 n6.below
   have d3:=bln a3 n6.below
   refine xbi 0 fun _ _ _ _ zJ zQ zo zx zy zK=>Zn (m:=1) (news:=[S0]) (S0) 1 24 (nb+1) ((((List.range q).map (Bu gs (Zl (Zg l) q)))++[.slice pl m cl])) zo Tryz.underlying247 (by kernel_rfl) rfl (by decide) zx a0 zy (n6.blk.sl 1 1 (by decide) (by decide)) rfl (by simp[Value.oneCell']) (by unfold maxLen;omega) (by omega) d3.size (by rfl) (by rw[if_pos d4,List.append_nil,l8.2.1,l8.2.2,d4]) fun r4 q6 W7 o7 f0 m1=>?_
   refine zK _ _ ?_
   refine xid 10 ((l.getD i 0)≥(3:Int)) (fun m6=>?_) (fun m6=>?_)
   ·refine xr 5 (args:=#[V0 (l.getD i 0)]) (Lp (l.getD i 0) _ (by omega)) fun W9 g1=>?_
    refine xbs 1 1 [V0 (i:Int),.string ⟨(leB (l.getD i 0) 4).toArray⟩,V0 0] 123 fun r5 p3 c0=>?_
    have f7:=bln (d3.trans m1) g1
    have r7:=c0.ge f7
    have d0:=Zb (Zo (Zb g9 n6.below) f0 a0 (by decide)) g1
    have i4:=Zr d0 c0
    have a6:=Zb d0 c0.below
    have f6:=bln f7 c0.below
    refine xbi 0 fun _ _ _ _ zJ zQ zo zx zy zK=>Zn (m:=1) (news:=[V0 (i:Int),.string ⟨(leB (l.getD i 0) 4).toArray⟩,V0 0]) (.agg #[V0 0,.string ⟨#[]⟩,V0 0]) 3 32 (ko+1) (((Zm l (i+1)).flatMap Yj)) zo Tryz.underlying88 (by kernel_rfl) rfl (by decide) zx a6 zy (c0.blk.sl 1 1 (by decide) (by decide)) rfl (by simp[Value.oneCell']) (by unfold maxLen;omega) (by omega) f6.size (by rfl) (by rw[Kg (by omega),List.flatMap_append];rfl) fun n3 o3 r2 o5 e7 j6=>?_
    refine zK _ _ ?_
    have b5:=Zo (Zb (Zb o7 g1) c0.below) e7 a6 (by decide)
    obtain⟨gb,rfl,k3⟩:=Qf b5 (by omega)
    refine xq 10 (congrArg V0 (show(IntKind.i64.wrap (Int.tdiv (i:Int) 960):Int)=(q:Int) from(Qx i 960 (by omega) (by decide)).trans (by rw[show i/960=q by omega]))) ?_
    refine xq 2 (congrArg V0 (show(IntKind.i64.wrap (Int.tdiv (i:Int) 960):Int)=(q:Int) from(Qx i 960 (by omega) (by decide)).trans (by rw[show i/960=q by omega]))) ?_
    refine xx 0 _ (nb+1) q 1 (Vm (Zf b5) (q:=q) (by simp)).1 ?_
    refine xl 0 ((Vm (Zf b5) (q:=q) (by simp)).2) ?_
    refine xbs 1 1 [V0 3] 3 fun o1 p1 c3=>?_
    have h3:=f6.trans j6
    have o9:=c3.ge h3
    have d1:=Zo (Zb (Zb (Zo (Zb f1 n6.below) f0 a0 (by decide)) g1) c0.below) e7 a6 (by decide)
    have i6:=Zr d1 c3
    have b0:=Zb d1 c3.below
    have h0:=bln h3 c3.below
    refine xbi 0 fun _ _ _ _ zJ zQ zo zx zy zK=>Qh (b:=o1) (c:=1) (m:=1) (news:=[V0 3]) (V0 0) 1 8 (m+1) (((((Zg l).drop (q*960)).take (m+1)).map V0)) zo Tryz.underlying33 (by kernel_rfl) rfl (by decide) zx b0 zy c3.blk rfl (by simp[Value.oneCell']) (by unfold maxLen;omega) (by omega) h0.size (by rfl) (Sm hq (by omega) (by unfold mn3;rw[if_neg (by omega)])) fun j5 l5 o8 n1 d9 j9 j8=>?_
    refine zK _ _ ?_
    have a9:=Zo (Zb b5 c3.below) d9 b0 (by decide)
    refine xx 0 _ (nb+1) q 1 (Vm (Zf a9) (q:=q) (by simp)).1 ?_
    refine xst 0 fun _ _ _ _ zJ zQ zo zx zy zK=>Xz (t:=33) (k:=q) (v:=.slice j5 (m+1) l5) zo zx zy (by kernel_rfl) rfl a9 (by omega) fun q9 j1 m3=>?_
    rw[Sj (by simp)] at m3
    refine zK _ _ ?_
    refine xwm 5 ((i:Int)+1) (↑(i+1):Int) ?_
    have g3:=(((((((h6.below n6.below).only (Zd.of_grown (T:=[33]) f0 a0 (by decide)) (by decide)).below g1).below c0.below).only (Zd.of_grown (T:=[123]) e7 a6 (by decide)) (by decide)).below c3.below).grow d9 j8).only (Zd.of_updRow (T:=[33]) j1 a9 (by decide)) (by decide)
    have h2:=j1.ownRow n1 a9 (by decide)
    obtain⟨q2,m2,e6,d5,e3,e9,e0,e2,e5,d7,e4⟩:=Cp (l:=l) hq hm (by omega) f4 g3 h2 m3
    have l0:=j1.below (h0.trans j9) (Vz a9)
    have h7:=j1.ownRow (Zo (Zb o5 c3.below) d9 b0 (by decide)) a9 (by decide)
    exact ze 2 (i7 _ _ _ ⟨i+1,q2,m2,nb+1,_,_,e6,d5,e3,ko+1,_,_,rfl,rfl,l0,e4,h7,d7,e5,by omega,e9,e0,e2,fun k hk=>(Nat.lt_or_ge k i).elim (f8 k) (fun q=>by obtain rfl:k=i:=(by omega);unfold Kw;omega),by rw[Kg (by omega),List.length_append];simp;omega⟩ (by omega))
   obtain⟨gb,rfl,k3⟩:=Qf o7 (by omega)
   refine xq 5 (congrArg V0 (show(IntKind.i64.wrap (Int.tdiv (i:Int) 960):Int)=(q:Int) from(Qx i 960 (by omega) (by decide)).trans (by rw[show i/960=q by omega]))) ?_
   refine xq 2 (congrArg V0 (show(IntKind.i64.wrap (Int.tdiv (i:Int) 960):Int)=(q:Int) from(Qx i 960 (by omega) (by decide)).trans (by rw[show i/960=q by omega]))) ?_
   refine xx 0 _ (nb+1) q 1 (Vm (Zf o7) (q:=q) (by simp)).1 ?_
   refine xl 0 ((Vm (Zf o7) (q:=q) (by simp)).2) ?_
   refine xbs 1 1 [V0 (l.getD i 0)] 3 fun n4 r3 c5=>?_
   have g0:=d3.trans m1
   have q3:=c5.ge g0
   have b7:=Zo (Zb f1 n6.below) f0 a0 (by decide)
   have i3:=Zr b7 c5
   have b4:=Zb b7 c5.below
   have f5:=bln g0 c5.below
   refine xbi 0 fun _ _ _ _ zJ zQ zo zx zy zK=>Qh (b:=n4) (c:=1) (m:=1) (news:=[V0 (l.getD i 0)]) (V0 0) 1 8 (m+1) (((((Zg l).drop (q*960)).take (m+1)).map V0)) zo Tryz.underlying33 (by kernel_rfl) rfl (by decide) zx b4 zy c5.blk rfl (by simp[Value.oneCell']) (by unfold maxLen;omega) (by omega) f5.size (by rfl) (Sm hq (by omega) (by unfold mn3;rw[if_pos (by omega)])) fun l3 k7 q7 o2 d8 k1 j4=>?_
   refine zK _ _ ?_
   have a8:=Zo (Zb o7 c5.below) d8 b4 (by decide)
   refine xx 0 _ (nb+1) q 1 (Vm (Zf a8) (q:=q) (by simp)).1 ?_
   refine xst 0 fun _ _ _ _ zJ zQ zo zx zy zK=>Xz (t:=33) (k:=q) (v:=.slice l3 (m+1) k7) zo zx zy (by kernel_rfl) rfl a8 (by omega) fun p7 i1 m0=>?_
   rw[Sj (by simp)] at m0
   refine zK _ _ ?_
   refine xwm 5 ((i:Int)+1) (↑(i+1):Int) ?_
   have g5:=((((h6.below n6.below).only (Zd.of_grown (T:=[33]) f0 a0 (by decide)) (by decide)).below c5.below).grow d8 j4).only (Zd.of_updRow (T:=[33]) i1 a8 (by decide)) (by decide)
   have f9:=i1.ownRow o2 a8 (by decide)
   have h9:=i1.ownRow (Zo (Zb (Zo (Zb g9 n6.below) f0 a0 (by decide)) c5.below) d8 b4 (by decide)) a8 (by decide)
   obtain⟨q2,m2,e6,d5,e3,e9,e0,e2,e5,d7,e4⟩:=Cp (l:=l) hq hm (by omega) f4 g5 f9 m0
   have k4:=i1.below (f5.trans k1) (Vz a8)
   exact ze 2 (i7 _ _ _ ⟨i+1,q2,m2,nb+1,_,_,e6,d5,e3,ko,_,_,rfl,rfl,k4,e4,(by rw[Kr (by omega)];exact h9),d7,e5,by omega,e9,e0,e2,fun k hk=>(Nat.lt_or_ge k i).elim (f8 k) (fun q=>by obtain rfl:k=i:=(by omega);unfold Kw;omega),by rw[Kr (by omega)];exact k5⟩ (by omega))
  have d4:m≠0:=by omega
  have f4:nb=q+1:=k0.2 d4
  refine xid 9 ((l.getD i 0)≥(3:Int)) (fun j7=>?_) (fun j7=>?_)
  ·refine xr 5 (args:=#[V0 (l.getD i 0)]) (Lp (l.getD i 0) _ (by omega)) fun q4 b3=>?_
   refine xbs 1 1 [V0 (i:Int),.string ⟨(leB (l.getD i 0) 4).toArray⟩,V0 0] 123 fun p6 p4 c4=>?_
   have c9:=bln a3 b3
   have p2:=c4.ge c9
   have c1:=Zb g9 b3
   have i9:=Zr c1 c4
   have a7:=Zb c1 c4.below
   have c6:=bln c9 c4.below
   refine xbi 0 fun _ _ _ _ zJ zQ zo zx zy zK=>Zn (m:=1) (news:=[V0 (i:Int),.string ⟨(leB (l.getD i 0) 4).toArray⟩,V0 0]) (.agg #[V0 0,.string ⟨#[]⟩,V0 0]) 3 32 (ko+1) (((Zm l (i+1)).flatMap Yj)) zo Tryz.underlying88 (by kernel_rfl) rfl (by decide) zx a7 zy (c4.blk.sl 1 1 (by decide) (by decide)) rfl (by simp[Value.oneCell']) (by unfold maxLen;omega) (by omega) c6.size (by rfl) (by rw[Kg (by omega),List.flatMap_append];rfl) fun o4 n0 p8 n8 e1 k9=>?_
   refine zK _ _ ?_
   have a4:=Zo (Zb (Zb (out_neg d4 h4) b3) c4.below) e1 a7 (by decide)
   obtain⟨gb,rfl,k3⟩:=Qf a4 (by omega)
   refine xq 10 (congrArg V0 (show(IntKind.i64.wrap (Int.tdiv (i:Int) 960):Int)=(q:Int) from(Qx i 960 (by omega) (by decide)).trans (by rw[show i/960=q by omega]))) ?_
   refine xq 2 (congrArg V0 (show(IntKind.i64.wrap (Int.tdiv (i:Int) 960):Int)=(q:Int) from(Qx i 960 (by omega) (by decide)).trans (by rw[show i/960=q by omega]))) ?_
   refine xx 0 _ nb q 1 (Vm (Zf a4) (q:=q) (by simp)).1 ?_
   refine xl 0 ((Vm (Zf a4) (q:=q) (by simp)).2) ?_
   refine xbs 1 1 [V0 3] 3 fun m7 p9 d2=>?_
   have c8:=c6.trans k9
   have p5:=d2.ge c8
   have c7:=Zo (Zb (Zb f1 b3) c4.below) e1 a7 (by decide)
   have j0:=Zr c7 d2
   have b2:=Zb c7 d2.below
   have b8:=bln c8 d2.below
   refine xbi 0 fun _ _ _ _ zJ zQ zo zx zy zK=>Qh (b:=m7) (c:=1) (m:=1) (news:=[V0 3]) (V0 0) 1 8 (m+1) (((((Zg l).drop (q*960)).take (m+1)).map V0)) zo Tryz.underlying33 (by kernel_rfl) rfl (by decide) zx b2 zy d2.blk rfl (by simp[Value.oneCell']) (by unfold maxLen;omega) (by omega) b8.size (by rfl) (Sm hq (by omega) (by unfold mn3;rw[if_neg (by omega)])) fun l6 k8 p0 o6 d6 l4 k2=>?_
   refine zK _ _ ?_
   have a1:=Zo (Zb a4 d2.below) d6 b2 (by decide)
   refine xx 0 _ nb q 1 (Vm (Zf a1) (q:=q) (by simp)).1 ?_
   refine xst 0 fun _ _ _ _ zJ zQ zo zx zy zK=>Xz (t:=33) (k:=q) (v:=.slice l6 (m+1) k8) zo zx zy (by kernel_rfl) rfl a1 (by omega) fun q5 i2 l9=>?_
   rw[Sj (by simp)] at l9
   refine zK _ _ ?_
   refine xwm 5 ((i:Int)+1) (↑(i+1):Int) ?_
   have h1:=(((((h6.below b3).below c4.below).only (Zd.of_grown (T:=[123]) e1 a7 (by decide)) (by decide)).below d2.below).grow d6 k2).only (Zd.of_updRow (T:=[33]) i2 a1 (by decide)) (by decide)
   have f3:=i2.ownRow o6 a1 (by decide)
   obtain⟨q2,m2,e6,d5,e3,e9,e0,e2,e5,d7,e4⟩:=Cp (l:=l) hq hm (by omega) f4 h1 f3 l9
   have g7:=i2.below (b8.trans l4) (Vz a1)
   have h8:=i2.ownRow (Zo (Zb n8 d2.below) d6 b2 (by decide)) a1 (by decide)
   exact ze 2 (i7 _ _ _ ⟨i+1,q2,m2,nb,_,_,e6,d5,e3,ko+1,_,_,rfl,rfl,g7,e4,h8,d7,e5,by omega,e9,e0,e2,fun k hk=>(Nat.lt_or_ge k i).elim (f8 k) (fun q=>by obtain rfl:k=i:=(by omega);unfold Kw;omega),by rw[Kg (by omega),List.length_append];simp;omega⟩ (by omega))
  have a5:=out_neg d4 h4
  obtain⟨gb,rfl,k3⟩:=Qf a5 (by omega)
  refine xq 5 (congrArg V0 (show(IntKind.i64.wrap (Int.tdiv (i:Int) 960):Int)=(q:Int) from(Qx i 960 (by omega) (by decide)).trans (by rw[show i/960=q by omega]))) ?_
  refine xq 2 (congrArg V0 (show(IntKind.i64.wrap (Int.tdiv (i:Int) 960):Int)=(q:Int) from(Qx i 960 (by omega) (by decide)).trans (by rw[show i/960=q by omega]))) ?_
  refine xx 0 _ nb q 1 (Vm (Zf a5) (q:=q) (by simp)).1 ?_
  refine xl 0 ((Vm (Zf a5) (q:=q) (by simp)).2) ?_
  refine xbs 1 1 [V0 (l.getD i 0)] 3 fun n2 q1 c2=>?_
  have r6:=c2.ge a3
  have i5:=Zr f1 c2
  have b1:=Zb f1 c2.below
  have b9:=bln a3 c2.below
  refine xbi 0 fun _ _ _ _ zJ zQ zo zx zy zK=>Qh (b:=n2) (c:=1) (m:=1) (news:=[V0 (l.getD i 0)]) (V0 0) 1 8 (m+1) (((((Zg l).drop (q*960)).take (m+1)).map V0)) zo Tryz.underlying33 (by kernel_rfl) rfl (by decide) zx b1 zy c2.blk rfl (by simp[Value.oneCell']) (by unfold maxLen;omega) (by omega) b9.size (by rfl) (Sm hq (by omega) (by unfold mn3;rw[if_pos (by omega)])) fun l2 j3 q0 m5 e8 k6 j2=>?_
  refine zK _ _ ?_
  have a2:=Zo (Zb a5 c2.below) e8 b1 (by decide)
  refine xx 0 _ nb q 1 (Vm (Zf a2) (q:=q) (by simp)).1 ?_
  refine xst 0 fun _ _ _ _ zJ zQ zo zx zy zK=>Xz (t:=33) (k:=q) (v:=.slice l2 (m+1) j3) zo zx zy (by kernel_rfl) rfl a2 (by omega) fun q8 i8 l7=>?_
  rw[Sj (by simp)] at l7
  refine zK _ _ ?_
  refine xwm 5 ((i:Int)+1) (↑(i+1):Int) ?_
  have i0:=((h6.below c2.below).grow e8 j2).only (Zd.of_updRow (T:=[33]) i8 a2 (by decide)) (by decide)
  have g8:=i8.ownRow m5 a2 (by decide)
  have f2:=i8.ownRow (Zo (Zb g9 c2.below) e8 b1 (by decide)) a2 (by decide)
  obtain⟨q2,m2,e6,d5,e3,e9,e0,e2,e5,d7,e4⟩:=Cp (l:=l) hq hm (by omega) f4 i0 g8 l7
  have g2:=i8.below (b9.trans k6) (Vz a2)
  exact ze 2 (i7 _ _ _ ⟨i+1,q2,m2,nb,_,_,e6,d5,e3,ko,_,_,rfl,rfl,g2,e4,(by rw[Kr (by omega)];exact f2),d7,e5,by omega,e9,e0,e2,fun k hk=>(Nat.lt_or_ge k i).elim (f8 k) (fun q=>by obtain rfl:k=i:=(by omega);unfold Kw;omega),by rw[Kr (by omega)];exact k5⟩ (by omega))
 refine xe 15 (.tuple #[.slice pb nb cb,.slice po ko co,V0 0]) ?_
 obtain rfl:i=l.length:=by omega
 obtain⟨m4,m9,n7⟩:=spl_done (l:=l) hq hm k0 h6 f1 h4
 subst m4
 subst k5
 exact .inr ⟨by unfold Yu;rw[if_neg (by omega),if_pos f8],_,_,m9,_,_,rfl,a3,n7,g9⟩
theorem Pi(a:O0)(c:Nat)(l:List Int)(w:World)(h:Sl w (.slice a l.length c) l.length (l.map V0))(hl:l.length≤65536)(hs:Yu l=0):C0 180 #[.slice a l.length c] w (fun e w'=>∃ pb cb gs po co,e=.returned (.tuple #[.slice pb (bmN l.length) cb,.slice po (Zm l l.length).length co,V0 0])∧B3 w w'∧Lists w' w.heap.size (.slice pb (bmN l.length) cb) gs (Zl (Zg l) (bmN l.length))∧w'.ownsRow w.heap.size 123 3 (.slice po (Zm l l.length).length co) (Zm l l.length).length ((Zm l l.length).flatMap Yj)) :=
 (Ow a c l w h hl).mono fun e w' q=>(q.resolve_left fun z=>z.1 hs).2
theorem Rj(n:Nat)(B bc bm:Nat)(pg:O0)(N cg:Nat)(fa0:O0)(mf0 fc0 f k0:Nat)(p:O0)(K cI:Nat)(bs:Bl)(B2:Nat)(pl:O0)(cl:Nat)(gs:List (Nat×Nat))(L:List (List Int))(w:World)(hn:L.length=n)(hR:RAl B bc bm pg N cg fa0 mf0 fc0 k0 (Qs f N) w)(hJ:RefI B bm p K cI bs w)(hL:Lists w B2 (.slice pl n cl) gs L)(hS:∀ i,i<L.length→Hq (L.getD i [])∧(L.getD i []).length≤960)(hf:f+N≤K)(hk:k0+n≤N)(hLn:n≤1000000)(hBw:B≤w.heap.size) :
 C0 182 #[P0 bc,.slice pl n cl] w (fun e w'=>∃ a c2 fa m fc,e=.returned (.slice a n c2)∧Below B w w'∧Zd [169,9] w w'∧RAl B bc bm pg N cg fa m fc (k0+n) (Qs f N) w'∧RefI B bm p K cI (Kl L (f+k0) bs n) w'∧w'.ownsRow w.heap.size 252 3 (.slice a n c2) n (rsL L (f+k0) n)):=by
 subst hn;exact ref22_lay B bc bm pg N cg fa0 mf0 fc0 f k0 p K cI bs B2 pl cl gs L w hR hJ hL hS hf hk hLn hBw
theorem Uc{l:List Int}(h:∀ k,k<l.length→Kw (l.getD k 0))(n:Nat):∀ i,i<(Zl (Zg l) n).length→Hq ((Zl (Zg l) n).getD i [])∧((Zl (Zg l) n).getD i []).length≤960:=fun i hi=>by
 rw[Xk] at hi
 rw[Ds hi]
 exact⟨Fb (Zbo h) i,by rw[Gd];omega⟩
def rsC (x:Nat×Nat×Nat):List Value:=[V0 (x.1:Int),V0 (x.2.1:Int),V0 (x.2.2:Int)]
theorem We(x:Nat×Nat×Nat):(rsC x).length=3:=rfl
def rsD:Nat×Nat×Nat:=(0,0,0)
def Rs (L:List (List Int))(q n:Nat):List (Nat×Nat×Nat):=(List.range n).map fun i=>(q+i,Yb (L.getD i []),Xd (L.getD i []))
theorem Wh(L:List (List Int))(q n:Nat):(Rs L q n).length=n:=by simp[Rs]
theorem Zf2{L:List (List Int)}{q n i:Nat}(h:i<n):(Rs L q n).getD i rsD=(q+i,Yb (L.getD i []),Xd (L.getD i [])):=by simp[Rs,List.getD,List.getElem?_range h]
theorem rsL_Rs(L:List (List Int))(q n:Nat):rsL L q n=(Rs L q n).flatMap rsC:=by simp[rsL,Rs,List.flatMap_map];rfl
theorem Zd2{v:Nat}{l:List Ent}(E:EntsOk v l):Px v l=true:=Sa fun i hi=>⟨E.last hi,(E.hk i hi).2,E.hw i hi⟩
theorem Zb6{L:List (List Int)}{q n c:Nat}{p:O0}{w:World}(h:Sl w (.slice p n c) n (rsL L q n)):Sts rsC w (.slice p (Rs L q n).length c) (Rs L q n):=by unfold Sts;rw[Wh,←rsL_Rs];exact h
theorem slot_row{L:List (List Int)}{q n i:Nat}(h:i<n):(Xv L q i).flatMap Yj++[V0 (i:Int),.string ⟨(leB ((((Rs L q n).getD i rsD).1:Nat):Int) 8++leB ((((Rs L q n).getD i rsD).2.1:Nat):Int) 4++leB ((((Rs L q n).getD i rsD).2.2:Nat):Int) 4).toArray⟩,V0 0]=(Xv L q (i+1)).flatMap Yj:=by
 rw[Er,List.flatMap_append,Zf2 h];rfl
def slB (x:Nat×Nat×Nat):Bl:=leB (x.1:Int) 8++leB (x.2.1:Int) 4++leB (x.2.2:Int) 4
theorem slB_len(x:Nat×Nat×Nat):(slB x).length=16:=by simp[slB,Zh]
def Mm(S:List (Nat×Nat×Nat))(i:Nat):Bl:=leB (S.length:Int) 4++(List.range i).flatMap fun j=>slB (S.getD j rsD)
theorem De(S:List (Nat×Nat×Nat))(i:Nat):Mm S (i+1)=Mm S i++slB (S.getD i rsD):=by simp[Mm,List.range_succ]
theorem Cl(S:List (Nat×Nat×Nat)):∀ i,(Mm S i).length=4+i*16
 | 0=>by simp[Mm,Zh]
 | i+1=>by rw[De,List.length_append,Cl S i,slB_len];omega
def Rk(S:List (Nat×Nat×Nat)):Bl:=Mm S S.length++List.replicate (244-(4+S.length*16)) 0
theorem Cf{S:List (Nat×Nat×Nat)}(h:S.length≤15):(Rk S).length=244:=by unfold Rk;rw[List.length_append,Cl,List.length_replicate];omega
def Ez(S:List (Nat×Nat×Nat)):Prop:=S.length≤14∧∀ i,i<S.length→1≤(S.getD i rsD).1∧(S.getD i rsD).1≤14399∧(S.getD i rsD).2.1≤960∧(S.getD i rsD).2.2≤960
theorem slB_ne(x:Nat×Nat×Nat):((⟨(leB (x.1:Int) 8++leB (x.2.1:Int) 4++leB (x.2.2:Int) 4).toArray⟩:ByteArray).toList==(⟨#[]⟩:ByteArray).toList)=false:=by
 rw[show(⟨#[]⟩:ByteArray)=⟨([]:Bl).toArray⟩ from rfl,str_beq]
 apply beq_false_of_ne
 intro q
 have h1:=congrArg List.length q
 simp[Zh] at h1
theorem Zhg(a:O0)(c:Nat)(S:List (Nat×Nat×Nat))(w:World)(hS:Ez S)(h:Sts rsC w (.slice a S.length c) S) :
 C0 163 #[.slice a S.length c] w (Qn (fun w' r=>∃ p c,r=.tuple #[.slice p 244 c,V0 0]∧w'.ownsRow w.heap.size 5 1 (.slice p 244 c) 244 ((Rk S).map bv)) w):=by
 have c3:=hS.1
 refine zin 39 Tryz.func163 ?_
 refine xk 14 (show(decide ((S.length:Int)>(15:Int)):Bool)=false from decide_eq_false (by omega)) ?_
 refine xbs 7 1 [V0 4,V0 (S.length:Int)] 271 fun b1 W1 n1=>?_
 refine xc 0 (args:=#[.slice (S1 b1) 1 1]) (Fg b1 (S.length:Int) (by omega) (by omega) _ n1.blk) ?_
 rintro _ W2 ⟨_,rfl,b0,p2,c2,rfl,h2⟩
 have a5:=Ze h2 n1.below.size
 have hB:=bln n1.below b0
 have a9:=n1.blk.below b0
 refine zl 16 39 (fun zm b6 V=>∃ (i:Nat) (p4:O0) (c4:Nat),b6=[(4,.slice p4 (4+i*16) c4),(20,.slice a S.length c),(21,V0 (S.length:Int)),(22,V0 (i:Int))]∧zm=S.length-((i:Int)).toNat∧B3 w V∧Blk V b1 ([V0 4,V0 (S.length:Int)]) 271∧V.ownsRow w.heap.size 5 1 (.slice p4 (4+i*16) c4) (4+i*16) ((Mm S i).map bv)∧i≤S.length) ⟨0,p2,c2,rfl,rfl,hB,a9,(by simpa [Mm] using a5),Nat.zero_le _⟩ ?_
 rintro _ _ W3 ⟨i,p4,c4,rfl,rfl,a0,a4,ho,hi⟩ J3 b4 r3
 refine xid 6 ((i:Int)<(S.length:Int)) (fun b7=>?_) (fun b7=>?_)
 ·refine xx 6 _ S.length i 3 (Sts.cell h We rsD (k:=i) (i:=0) (by omega) rfl).1 ?_
  refine xlv 0 (Sts.rp (k:=i) (h.below a0) We rsD (by omega) (by decide)) ?_
  refine xa 0 [V0 0,V0 0,V0 0] 252 fun b5 W5 n5=>?_
  have g5:=n5.ge a0
  refine xsv 0 n5.blk [V0 (↑(S.getD i rsD).1:Int),V0 (↑(S.getD i rsD).2.1:Int),V0 (↑(S.getD i rsD).2.2:Int)] fun W6 u6 k6=>?_
  refine xlv 4 k6.rp ?_
  refine xr 0 (args:=#[.agg #[V0 (↑(S.getD i rsD).1:Int),V0 (↑(S.getD i rsD).2.1:Int),V0 (↑(S.getD i rsD).2.2:Int)]]) (Jg (↑(S.getD i rsD).1:Int) (↑(S.getD i rsD).2.1:Int) (↑(S.getD i rsD).2.2:Int) (by have:=hS.2 i (by omega);omega) (by have:=hS.2 i (by omega);omega) (by omega) (by have:=hS.2 i (by omega);omega) (by omega) (by have:=hS.2 i (by omega);omega) _) fun W7 a6=>?_
  refine xk 10 (show(((⟨(leB (↑(S.getD i rsD).1:Int) 8++leB (↑(S.getD i rsD).2.1:Int) 4++leB (↑(S.getD i rsD).2.2:Int) 4).toArray⟩:ByteArray).toList==(⟨#[]⟩:ByteArray).toList):Bool)=false from slB_ne _) ?_
  have a2:=Zb (u6.own2 (Zb ho n5.below) n5.blk (by decide)) a6
  have a3:=bln (u6.below (bln a0 n5.below) g5) a6
  refine xbi 5 (t2:=9) fun _ _ _ _ zJ zQ zo zx zy zK=>Tj (leB (↑(S.getD i rsD).1:Int) 8++leB (↑(S.getD i rsD).2.1:Int) 4++leB (↑(S.getD i rsD).2.2:Int) 4) ((4+(i+1)*16)) ((Mm S (i+1)).map bv) zo Tryz.underlying40 Tryz.underlying9 (by kernel_rfl) zx a2 zy (by simp[Zh];omega) a3.size (by simp[Zh];omega) (by simp[De,slB]) fun c6 c1 W8 o8 b3 b2=>?_
  refine zK _ _ ?_
  refine xwm 5 ((i:Int)+1) (↑(i+1):Int) ?_
  have a8:=a3.trans b2
  have a1:=((u6.blkT (a4.below n5.below) n5.blk (by decide)).below a6).grown b3 a2 (by decide)
  exact ze 2 (b4 _ _ _ ⟨i+1,_,_,rfl,rfl,a8,a1,o8,by omega⟩ (by omega))
 refine xwm 10 (244-(↑(4+i*16):Int)) (↑(244-(4+i*16)):Int) ?_
 refine xbi 0 (t2:=3) fun _ _ _ _ zJ zQ zo zx zy zK=>Sw (kq:=.i64) (244-(4+i*16)) (244) ((Rk S).map bv) zo Tryz.underlying40 Tryz.underlying3 (by kernel_rfl) zx ho zy (by omega) (by omega) a0.size (by omega) (by rw[show i=S.length by omega];unfold Rk;rw[List.map_append,List.map_replicate];rfl) fun c0 b8 W9 o9 c5 b9=>?_
 refine zK _ _ ?_
 have a7:=a0.trans b9
 exact xe 5 (.tuple #[.slice c0 244 b8,V0 0]) ⟨_,rfl,a7,_,_,rfl,o9⟩
def RDataP(B bc bm:Nat)(pg:O0)(N cg f k0:Nat)(p:O0)(K c:Nat)(bs:Bl)(l:List Int)(w:World)(e:Ending)(w':World):Prop :=
 ∃ fa m fc,e=.returned (.tuple #[V0 (Zaw l (f+k0) bs).1,V0 (Zaw l (f+k0) bs).2.1,.agg #[S0,V0 0]])∧Below B w w'∧Zd [169,9] w w'∧RAl B bc bm pg N cg fa m fc (k0+Up l) (Qs f N) w'∧RefI B bm p K c (Zaw l (f+k0) bs).2.2 w'
theorem Gz(B bc bm:Nat)(pg:O0)(N cg:Nat)(fa:O0)(mf fc f k0:Nat)(p:O0)(K cI:Nat)(bs:Bl)(t:Int)(a:O0)(c n:Nat)(l:List Ent)(w:World)(hln:l.length=n)(hR:RAl B bc bm pg N cg fa mf fc k0 (Qs f N) w)(hn:l.length≤32768)(h1:1≤t)(h2:t≤5)(hE:EntsOk (Pj t true) l)(hs:k0+Zy t l.length≤N)(hf:f+N≤K)(hJ:RefI B bm p K cI bs w)(hin:∀ W,Below B w W→Zd [169,9] w W→Sl W (.slice a l.length c) l.length (l.flatMap Yj))(hBw:B≤w.heap.size) :
 C0 39 #[P0 bc,V0 t,.slice a n c] w (Zgk B bc bm pg N cg f k0 p K cI bs t l w):=by
 subst hln
 exact Oe B bc bm pg N cg fa mf fc f k0 p K cI bs t a c l w hR hn ⟨h1,h2,Zd2 hE⟩ hs hf hJ hin hBw
def KeptB(W:World)(v:Value)(l:Bl):Prop:=∀ T W',Zd T W W'→T.contains 5=false→Bys W' v l
theorem Zel{P:Program}{a:Act}{w:World}{K:Act→World→Prop}{Q:Exit→Act→World→Prop}{o:Oper}{src dst:TypeId}{x:Operand}(l:Bl)(ho:o.op=.convert src dst x)(hx:a.eval x=.string ⟨l.toArray⟩)
 (hs:P.underlying src=some .string) (hd:P.underlying dst=some (.slice 5)) (he:P.underlying 5=some (.int .u8)) (hl:l.length≤1000000)
 (k:∀ b c W,B3 w W→KeptB W (.slice (S1 b) l.length c) l→K (a.put o.dst (.slice (S1 b) l.length c)) W):o.wp P a w K Q:=by
 have hr:=run_bytes_of_string (P:=P) w src dst 5 ⟨l.toArray⟩ hs hd he
 have a2:(⟨l.toArray⟩:ByteArray).size=l.length:=by simp[ByteArray.size]
 rw[a2] at hr
 obtain⟨W1,a1⟩:∃ W1,W1=w.drew.alloc (.cells (bytesRow ⟨l.toArray⟩ (grownCap w l.length 0 5)) 5 ((bytesRow ⟨l.toArray⟩ (grownCap w l.length 0 5)).size,(bytesRow ⟨l.toArray⟩ (grownCap w l.length 0 5)).size+1)):=⟨_,rfl⟩
 rw[←a1] at hr
 have h2:(execOp a.eval o).run P w=.ok (.value (.slice (some ⟨w.heap.size,0,none⟩) l.length (grownCap w l.length 0 5))) W1:=by
  simp only[execOp,ho,hx,Sem.run_bind,hr];rfl
 refine Gp h2 (k _ _ _ (by rw[a1];exact(Za w).trans (show Below w.drew.heap.size w.drew _ from blx w.drew _)) (fun T W' hO hT=>.inr ⟨w.heap.size,0,_,rfl,grownCap_ge w l.length 0 _,grownCap_le_maxLen w l.length 0 _ (by unfold maxLen;omega),fun j y hj=>?_⟩))
 have a0:j<l.length:=by have:=(List.getElem?_eq_some_iff.1 hj).1;simpa using this
 have hb:=bytesRow_at ⟨l.toArray⟩ (grownCap w l.length 0 5) j (by simpa using a0)
 have hy:y=.int .u8 ((l.toArray[j]'(by simpa using a0)).toNat:Int):=by
  rw[List.getElem?_map,List.getElem?_eq_getElem a0] at hj
  simp only[Option.map_some,Option.some.injEq] at hj
  rw[←hj];rfl
 have hh:W1.heap[w.heap.size]? = some (.cells (bytesRow ⟨l.toArray⟩ (grownCap w l.length 0 5)) 5 ((bytesRow ⟨l.toArray⟩ (grownCap w l.length 0 5)).size,(bytesRow ⟨l.toArray⟩ (grownCap w l.length 0 5)).size+1)):=by rw[a1];exact heap_alloc_new w.drew _
 have a3:=hO _ _ _ _ hh hT
 rw[hy]
 simp[World.cell?,a3,hb]
theorem Zg9(a:O0)(c:Nat)(S:List (Nat×Nat×Nat))(w:World)(hS:Ez S)(h:Sts rsC w (.slice a S.length c) S) :
 C0 185 #[.slice a S.length c] w (Qn (fun w' r=>∃ b c,r=.tuple #[.slice (S1 b) (Rk S).length c,V0 0]∧KeptB w' (.slice (S1 b) (Rk S).length c) (Rk S)) w):=by
 have b5:=hS.1
 refine zin 40 Tryz.func185 ?_
 refine xk 14 (show(decide ((S.length:Int)>(15:Int)):Bool)=false from decide_eq_false (by omega)) ?_
 refine xc 6 (args:=#[V0 (S.length:Int),V0 4]) (Xe (S.length:Int) 4 4 _ (by omega) (by omega) rfl (by decide)) ?_
 rintro _ W1 ⟨_,rfl,b1,p2,c2,rfl,h2⟩
 have a6:=Nat.le_refl w.heap.size
 have a3:=Ze h2 a6
 refine xcv0 0 (fun _ _ _ zo zx=>Yn zo zx (Xp (Zf a3) (Zh _ _)) (Zh _ _) Tryz.underlying40 Tryz.underlying5 Tryz.underlying9) ?_
 refine xv1 10 4 (show(.string ⟨(leB (S.length:Int) 4).toArray⟩:Value)=.string ⟨(Mm S 0).toArray⟩ from by simp[Mm]) ?_
 refine zl 0 40 (fun zm a9 V=>∃ (i:Nat),a9=[(0,.slice a S.length c),(4,.string ⟨(Mm S i).toArray⟩),(5,V0 (i:Int))]∧zm=S.length-((i:Int)).toNat∧B3 w V∧i≤S.length) ⟨0,rfl,rfl,b1,Nat.zero_le _⟩ ?_
 rintro _ _ W2 ⟨i,rfl,rfl,a0,hi⟩ J2 b3 r2
 have b4:=Cl S i
 refine xid 9 ((i:Int)<(S.length:Int)) (fun a8=>?_) (fun a8=>?_)
 ·refine xx 9 _ S.length i 3 (Sts.cell h We rsD (k:=i) (i:=0) (by omega) rfl).1 ?_
  refine xlv 0 (Sts.rp (k:=i) (h.below a0) We rsD (by omega) (by decide)) ?_
  refine xr 0 (args:=#[.agg #[V0 (↑(S.getD i rsD).1:Int),V0 (↑(S.getD i rsD).2.1:Int),V0 (↑(S.getD i rsD).2.2:Int)]]) (Ng (↑(S.getD i rsD).1:Int) (↑(S.getD i rsD).2.1:Int) (↑(S.getD i rsD).2.2:Int) _ (by have:=hS.2 i (by omega);omega) (by have:=hS.2 i (by omega);omega) (by have:=hS.2 i (by omega);omega)) fun W4 a7=>?_
  refine xk 3 (show(((⟨(leB (↑(S.getD i rsD).1:Int) 8++leB (↑(S.getD i rsD).2.1:Int) 4++leB (↑(S.getD i rsD).2.2:Int) 4).toArray⟩:ByteArray).toList==(⟨#[]⟩:ByteArray).toList):Bool)=false from slB_ne _) ?_
  refine xx 6 _ S.length i 3 (Sts.cell h We rsD (k:=i) (i:=0) (by omega) rfl).1 ?_
  have a1:=bln a0 a7
  refine xlv 0 (Sts.rp (k:=i) (h.below a1) We rsD (by omega) (by decide)) ?_
  refine xr 0 (args:=#[.agg #[V0 (↑(S.getD i rsD).1:Int),V0 (↑(S.getD i rsD).2.1:Int),V0 (↑(S.getD i rsD).2.2:Int)]]) (Ng (↑(S.getD i rsD).1:Int) (↑(S.getD i rsD).2.1:Int) (↑(S.getD i rsD).2.2:Int) _ (by have:=hS.2 i (by omega);omega) (by have:=hS.2 i (by omega);omega) (by have:=hS.2 i (by omega);omega)) fun W5 b2=>?_
  refine xbo 0 (t:=9) (t2:=9) (fun _ _ _ _ zo zx zy V hV=>Za9 (l:=Mm S i) (m:=(leB (↑(S.getD i rsD).1:Int) 8++leB (↑(S.getD i rsD).2.1:Int) 4++leB (↑(S.getD i rsD).2.2:Int) 4)) zo zx zy (by simp[Zh];omega) V) ?_
  refine xwm 6 ((i:Int)+1) (↑(i+1):Int) ?_
  refine xv1 2 4 (show(.string ⟨(Mm S i++(leB (↑(S.getD i rsD).1:Int) 8++leB (↑(S.getD i rsD).2.1:Int) 4++leB (↑(S.getD i rsD).2.2:Int) 4)).toArray⟩:Value)=.string ⟨(Mm S (i+1)).toArray⟩ from by rw[De];rfl) ?_
  have a4:=bln a1 b2
  exact ze 0 (b3 _ _ _ ⟨i+1,rfl,rfl,a4,by omega⟩ (by omega))
 refine xwm 10 (244-(↑(Mm S i).length:Int)) (↑(244-((Mm S i).length)):Int) ?_
 refine xmk 0 fun _ _ _ _ zJ zQ zo zx zy zK=>Kn (244-((Mm S i).length)) (.int .u8 0) 1 1 ((List.replicate (244-(Mm S i).length) (0:UInt8)).map bv) zo zx zy Tryz.underlying40 (by kernel_rfl) rfl (by omega) (by omega) (Dr (244-(Mm S i).length)) fun b6 W6 n6=>?_
 have g6:=n6.ge a0
 refine zK _ _ ?_
 have o6:=Zw (size:=1) (n:=(244-((Mm S i).length))) n6.blk g6 (by rw[List.length_map,List.length_replicate,Nat.mul_one]) (by unfold maxLen;omega)
 refine xcv0 0 (fun _ _ _ zo zx=>Yn zo zx (Xp (Zf o6) List.length_replicate) List.length_replicate Tryz.underlying40 Tryz.underlying5 Tryz.underlying9) ?_
 refine xbo 0 (t:=9) (t2:=9) (fun _ _ _ _ zo zx zy V hV=>Za9 (l:=Mm S i) (m:=List.replicate (244-(Mm S i).length) (0:UInt8)) zo zx zy (by rw[List.length_replicate];omega) V) ?_
 refine xcf 0 fun _ _ _ zJ zQ zo zx zK=>Zel (Mm S i++List.replicate (244-(Mm S i).length) (0:UInt8)) zo zx Tryz.underlying9 Tryz.underlying40 Tryz.underlying5 (by rw[List.length_append,List.length_replicate];omega) ?_
 intro bz cz W7 b0 a5
 refine zK _ _ ?_
 have a2:=bln (bln a0 n6.below) b0
 refine xe 5 (.tuple #[.slice (S1 bz) ((Mm S i++List.replicate (244-(Mm S i).length) (0:UInt8)).length) cz,V0 0]) ?_
 have e:(Mm S i++List.replicate (244-(Mm S i).length) (0:UInt8))=Rk S:=by rw[show i=S.length by omega];unfold Rk;rw[Cl]
 rw[e] at a5 ⊢
 exact⟨_,rfl,a2,_,_,rfl,a5⟩
def Ym(l:List Int)(f n:Nat):List Int:=(List.range l.length).map fun i=>l.getD i 0+(if f≤i∧i<f+n then 1 else 0)
theorem Qe(l:List Int)(f n:Nat):(Ym l f n).length=l.length:=by simp[Ym]
theorem Ar{l:List Int}{f n i:Nat}(h:i<l.length):(Ym l f n).getD i 0=l.getD i 0+(if f≤i∧i<f+n then 1 else 0):=by simp[Ym,List.getD,List.getElem?_range h]
theorem Rg(l:List Int)(f:Nat):Ym l f 0=l:=by
 apply List.ext_getElem (by simp[Ym])
 intro i h1 h2
 simp[Ym,List.getD,h2]
 omega
theorem Ot{l:List Int}{f j:Nat}(h:f+j<l.length):((Ym l f j).map V0).set (f+j) (V0 (l.getD (f+j) 0+1))=(Ym l f (j+1)).map V0:=by
 apply List.ext_getElem?
 intro i
 by_cases hi:i<l.length
 ·by_cases e:f+j=i
  ·subst e
   rw[List.getElem?_set_self (by simp[Qe];exact h)]
   simp[Ym,List.getElem?_range h]
  ·rw[List.getElem?_set_ne e]
   have hc:(f≤i∧i<f+j)↔(f≤i∧i<f+(j+1)):=by omega
   simp only[Ym,List.getElem?_map,List.getElem?_range hi,Option.map_some]
   by_cases q:f≤i∧i<f+j
   ·rw[if_pos q,if_pos (hc.1 q)]
   ·rw[if_neg q,if_neg (fun z=>q (hc.2 z))]
 ·rw[List.getElem?_eq_none (by simp[Qe];omega),List.getElem?_eq_none (by simp[Qe];omega)]
def Zb7(l:List Int)(f:Int):Prop:=∀ i,i<l.length→(f≤(i:Int)→l.getD i 0=0)∧l.getD i 0≤1073741824
theorem Cq{l:List Int}{f n:Nat}(h:Zb7 l (f:Int))(hc:∀ k,k<l.length→Kw (l.getD k 0)):∀ k,k<(Ym l f n).length→Kw ((Ym l f n).getD k 0):=by
 intro k hk
 rw[Qe] at hk
 rw[Ar hk]
 have h1:=(h k hk).2
 have h2:=hc k hk
 unfold Kw at h2 ⊢
 split<;>omega
def Xo(l:List Int):Nat:=Zy 5 (Zm l l.length).length+bmN l.length+1
theorem Wx{w:World}{b:O0}{n c f N k i:Nat}(h:Sl w (.slice b n c) n ((((Qs f N).drop k).take n).map V0))(hn:k+n≤N)(hi:i<n):b.isSome=true∧w.cell? (Zz b (i*1))=some (V0 ((f+k+i:Nat):Int)):=by
 have a0:(((Qs f N).drop k).take n).length=n:=by simp[Qs];omega
 have h1:=IntsN.elem h a0 hi
 have e:(((Qs f N).drop k).take n).getD i 0=((f+k+i:Nat):Int):=by
  have h2:=Uh (f:=f) (N:=N) (k:=k+i) (by omega)
  rw[←Nat.add_assoc] at h2
  rw[←h2]
  simp only[List.getD,List.getElem?_take,List.getElem?_drop,if_pos hi]
 rwa [e] at h1
def Ca(l:List Int)(f k0:Nat)(bs:Bl):Int×Int×Bl:=(((f+k0+(Zy 5 (Zm l l.length).length)+(bmN (Ym l (f+k0) (Xo l)).length)):Nat),(Yo 5 (Zm l l.length) (f+k0) bs).1,Vc (Kl (Zl (Zg (Ym l (f+k0) (Xo l))) (bmN (Ym l (f+k0) (Xo l)).length)) (f+k0+(Zy 5 (Zm l l.length).length)) (Yo 5 (Zm l l.length) (f+k0) bs).2 (bmN (Ym l (f+k0) (Xo l)).length)) ((f+k0+(Zy 5 (Zm l l.length).length)+(bmN (Ym l (f+k0) (Xo l)).length))*256) (Xw 4 (((f+k0+(Zy 5 (Zm l l.length).length)+(bmN (Ym l (f+k0) (Xo l)).length)):Nat):Int) (Rk (Rs (Zl (Zg (Ym l (f+k0) (Xo l))) (bmN (Ym l (f+k0) (Xo l)).length)) (f+k0+(Zy 5 (Zm l l.length).length)) (bmN (Ym l (f+k0) (Xo l)).length)))))
theorem Cu(l:List Int)(q n:Nat):bmN (Ym l q n).length=bmN l.length:=by rw[Qe]
theorem Ss(n:Nat)(w:World)(hn:n≤65536) :
 C0 84 #[V0 (n:Int)] w (Ret (V0 (↑(bmN n):Int)) w):=by
 refine zin 9 Tryz.func84 ?_
 refine xid 12 ((n:Int)<(1:Int)) (fun a0=>?_) (fun a0=>?_)
 ·exact xe 7 (V0 0) ⟨by rw[show bmN n=0 from by unfold bmN;omega];rfl,(B4 w)⟩
 refine xwm 5 ((n:Int)+960) (↑(n+960):Int) ?_
 refine xwm 0 ((↑(n+960):Int)-1) (↑((n+960)-1):Int) ?_
 refine xq 0 (congrArg V0 (show(IntKind.i64.wrap (Int.tdiv (↑((n+960)-1):Int) 960):Int)=(↑((n+960-1)/960):Int) from Qx (n+960-1) 960 (by omega) (by decide))) ?_
 exact xe 4 (V0 (↑((n+960-1)/960):Int)) ⟨by rw[show bmN n=(n+960-1)/960 from rfl],(B4 w)⟩
theorem Zef(j:Nat)(B bc bm:Nat)(pg:O0)(N cg:Nat)(fa:O0)(m fc k:Nat)(L:List Int)(w:World)(hA:RAl B bc bm pg N cg fa m fc k L w)(hj:j≤1000000)(hjn:j≤N-k) :
 C0 184 #[P0 bc,V0 (j:Int)] w (Qn (fun w' r=>∃ q c2,r=.slice q j c2∧w'.ownsRow w.heap.size 3 1 (.slice q j c2) j (((L.drop k).take j).map V0)) w):=by
 have h:=Zf8 B bc bm pg N cg fa m fc k j L w hA hj
 rwa [Nat.min_eq_left hjn] at h
theorem Gh{w:World}{b:O0}{n c q i:Nat}{l:List Int}(h:Sl w (.slice b n c) n ((Ym l q i).map V0))(hn:l.length=n)(hi:q+i<n):b.isSome=true∧w.cell? (Zz b ((q+i)*1))=some (V0 (l.getD (q+i) 0)):=by
 have h1:=IntsN.elem h (by rw[Qe];exact hn) hi
 rw[Ar (by omega),if_neg (by omega),Int.add_zero] at h1
 exact h1
theorem Lu(n:Nat)(a:O0)(c:Nat)(l:List Int)(w:World)(hn:l.length=n)(h:Sl w (.slice a n c) n (l.map V0))(hl:n≤65536)(hs:Yu l=0):C0 180 #[.slice a n c] w (fun e w'=>∃ pb cb gs po co,e=.returned (.tuple #[.slice pb (bmN n) cb,.slice po (Zm l n).length co,V0 0])∧B3 w w'∧Lists w' w.heap.size (.slice pb (bmN n) cb) gs (Zl (Zg l) (bmN n))∧w'.ownsRow w.heap.size 123 3 (.slice po (Zm l n).length co) (Zm l n).length ((Zm l n).flatMap Yj)):=by
 subst hn;exact Pi a c l w h hl hs
def ClosM(B Bx bl:Nat)(L:List (List Int))(q i:Nat)(w:World)(e:Ending)(w':World):Prop :=
 ∃ u p c,e=.returned u∧Below B w w'∧Zd [266,252] w w'∧Blk w' bl [.slice p (i+1) c] 266∧w'.ownsRow Bx 252 3 (.slice p (i+1) c) (i+1) (rsL L q (i+1))∧FrB Bx [bl] w w'
theorem Zdb(B Bx bl:Nat)(p:O0)(c:Nat)(L:List (List Int))(q i:Nat)(w:World)(hBm:B≤Bx)(hBx:Bx≤w.heap.size)(hBw:B≤w.heap.size)(hBl:B≤bl)(kl:Blk w bl [.slice p i c] 266)(hup:w.ownsRow Bx 252 3 (.slice p i c) i (rsL L q i))(hi:i≤100000) :
 C0 162 #[.agg #[V0 (↑(q+i):Int),V0 (↑(Yb (L.getD i [])):Int),V0 (↑(Xd (L.getD i [])):Int)],P0 bl] w (ClosM B Bx bl L q i w):=by
 have hZ:FrZ Bx [bl] w w:=FrZ.refl hBx
 refine zin 7 Tryz.func162 ?_
 refine xa 2 [V0 (↑(q+i):Int),V0 (↑(Yb (L.getD i [])):Int),V0 (↑(Xd (L.getD i [])):Int)] 252 fun b1 W1 n1=>?_
 have a6:=Zr hup n1
 have a3:=kl.below n1.below
 refine xb 3 0 a3 ?_
 refine xlv 0 n1.blk.rp ?_
 refine xbs 0 1 [V0 (↑(q+i):Int),V0 (↑(Yb (L.getD i [])):Int),V0 (↑(Xd (L.getD i [])):Int)] 252 fun b2 W2 n2=>?_
 have b0:=n2.ne n1.blk
 have a1:=Zb hup n1.below
 have a4:=Zr a1 n2
 have a0:=Zb a1 n2.below
 have hB:=blB (blB (Below.refl B w) hBw n1.below) hBw n2.below
 refine xbi 0 fun _ _ _ _ zJ zQ zo zx zy zK=>Zn (m:=1) (news:=[V0 (↑(q+i):Int),V0 (↑(Yb (L.getD i [])):Int),V0 (↑(Xd (L.getD i [])):Int)]) (.agg #[V0 0,V0 0,V0 0]) 3 24 (i+1) ((rsL L q (i+1))) zo Tryz.underlying266 (by kernel_rfl) rfl (by decide) zx a0 zy (n2.blk.sl 1 1 (by decide) (by decide)) rfl (by simp[Value.oneCell']) (by unfold maxLen;omega) (by omega) (Nat.le_trans hBx hB.size) (by rfl) (by rw[Zb2];rfl) fun b4 b3 W3 o3 a5 b5=>?_
 refine zK _ _ ?_
 have a2:=(a3.below n2.below).grown a5 a0 (by decide)
 refine xs 0 a2 [.slice b4 (i+1) b3] fun W4 u4 k4=>?_
 have a7:=u4.below (hB.trans (b5.mono hBm)) hBl
 have hO:=(((show Zd [266,252] w _ from(Zd.of_below n1.below)).trans (Zd.of_below n2.below)).trans (Zd.of_grown a5 a0 (by decide))).trans (Zd.of_upd u4 a2 (by decide))
 have a9:=u4.own2 o3 a2 (by decide)
 have a8:=(((hZ.below n1.below).below n2.below).grown a5 a0).upd u4 (by simp)
 exact xe 1 (.tuple #[]) ⟨_,_,_,rfl,a7,hO,k4,a9,a8.fr⟩
def LayPostM(B ba b g nn cc:Nat)(pa:O0)(ca f N k0:Nat)(bs:Bl)(bl:Nat)(L:List (List Int))(w:World)(e:Ending)(w':World):Prop :=
 ∃ p c,e=.returned .nilIface∧Below B w w'∧Zd [153,5,266,252] w w'∧Fr [ba,g,bl] w w'∧Al B ba b g nn cc pa ca f N (k0+L.length) (Kl L (f+k0) bs L.length) w'∧Blk w' bl [.slice p L.length c] 266∧w'.ownsRow w.heap.size 252 3 (.slice p L.length c) L.length (rsL L (f+k0) L.length)
theorem Zhb(B ba b g nn cc:Nat)(pa:O0)(ca f N k0:Nat)(bs:Bl)(bl B2:Nat)(pl:O0)(cl:Nat)(gs:List (Nat×Nat))(L:List (List Int))(w:World)(hC:AlC B ba nn cc ca f N)(hA:Al B ba b g nn cc pa ca f N k0 bs w)(hL:Lists w B2 (.slice pl L.length cl) gs L)(hS:∀ i,i<L.length→Hq (L.getD i [])∧(L.getD i []).length≤960)(hf1:1≤f)(hk:k0+L.length≤N)(kl:Blk w bl [S0] 266)(hBl:B≤bl)(hBw:B≤w.heap.size) :
 C0 151 #[P0 ba,.slice pl L.length cl,.func (.func 162) #[] #[P0 bl]] w (LayPostM B ba b g nn cc pa ca f N k0 bs bl L w):=by
 have d1:=hC.hf
 have d4:=hC.hn
 refine zin 51 Tryz.func151 ?_
 have hB:=Below.refl B w
 refine zl 14 51 (fun zm c6 V=>∃ (i:Nat) (p:O0) (c:Nat),c6=[(0,P0 ba),(2,.func (.func 162) #[] #[P0 bl]),(15,.slice pl L.length cl),(16,V0 (L.length:Int)),(17,V0 (i:Int))]∧zm=L.length-((i:Int)).toNat∧Below B w V∧Fr [ba,g,bl] w V∧Zd [153,5,266,252] w V∧Blk V bl ([.slice p i c]) 266∧Al B ba b g nn cc pa ca f N (k0+i) (Kl L (f+k0) bs i) V∧Lists V B2 (.slice pl L.length cl) gs L∧V.ownsRow w.heap.size 252 3 (.slice p i c) i (rsL L (f+k0) i)∧i≤L.length) ⟨0,none,0,rfl,rfl,hB,(Fr.refl _ _),(Zd.refl _ _),kl,hA,hL,World.ownsRow_nil _ _ _ _,Nat.zero_le _⟩ ?_
 rintro _ _ W1 ⟨i,p,c,rfl,rfl,a3,a7,a8,a1,hA,hL,b2,hi⟩ J1 c5 r1
 refine xid 6 ((i:Int)<(L.length:Int)) (fun d0=>?_) (fun d0=>?_)
 ·refine xx 6 _ L.length i 1 (Lists.elem hL rfl (k:=i) (by omega)).1 ?_
  refine xl 0 ((Lists.elem hL rfl (k:=i) (by omega)).2) ?_
  refine xc 6 (args:=#[.slice (some ⟨(gs.getD i (0,0)).1,0,none⟩) ((L.getD i []).length) ((gs.getD i (0,0)).2)]) (Zcn _ _ (L.getD i []) _ (hS i (by omega)).1 (hS i (by omega)).2 (Zf (hL.each i (by omega)))) ?_
  rintro _ W3 ⟨_,rfl,a4,g6,rfl,h6⟩
  have b5:=hA.below a4
  have a2:=a8.trans (Zd.of_below a4)
  have b6:=Ze h6 a3.size
  have a9:=blB a3 hBw a4
  refine xc 21 (args:=#[P0 ba,V0 3,.slice (S1 g6) 244 244]) (Wu B ba b g nn cc pa ca f N (k0+i) (Kl L (f+k0) bs i) 3 (S1 g6) 244 (Ia (L.getD i [])) (f+k0+i) 244 _ (Nat.add_assoc _ _ _).symm (Kt _ _) hC b5 (by omega) (by decide) (by decide) (fun W _ a2=>Xp (Zf (Zi b6 a2 (by decide))) (Kt _ _)) (by decide) (Nat.le_trans hBw a9.size)) ?_
  rintro _ W4 ⟨rfl,c3,b3,c8,hA⟩
  have b0:=(hL.below a4).only b3 (by decide)
  refine xr 20 (args:=#[.slice (some ⟨(gs.getD i (0,0)).1,0,none⟩) ((L.getD i []).length) ((gs.getD i (0,0)).2)]) (Ap _ _ (L.getD i []) _ (hS i (by omega)).2 (Zf (b0.each i (by omega)))) fun W5 a5=>?_
  have d3:Yb (L.getD i [])≤960:=Nat.le_trans (Wt _ _) (hS i (by omega)).2
  have d2:Xd (L.getD i [])≤960:=Nat.le_trans (Nr _) (hS i (by omega)).2
  have a6:=blB (a9.trans c3) hBw a5
  have a0:=((a1.below a4).only b3 (by decide)).below a5
  have b1:=Zb (Zi (Zb b2 a4) b3 (by decide)) a5
  refine xc 13 (args:=#[.agg #[V0 (↑(f+k0+i):Int),V0 (↑(Yb (L.getD i [])):Int),V0 (↑(Xd (L.getD i [])):Int)],P0 bl]) (Zdb B w.heap.size bl p c L (f+k0) i _ hBw a6.size (Nat.le_trans hBw a6.size) hBl a0 b1 (by omega)) ?_
  rintro _ W6 ⟨_,p9,c9,rfl,c2,c1,c7,b2,c4⟩
  refine xwm 4 ((i:Int)+1) (↑(i+1):Int) ?_
  have b9:=(hA.below a5).only c1 (by decide)
  have b4:=(b0.below a5).only c1 (by decide)
  have c0:=a6.trans c2
  have b7:=(Fr.trans_B (((a7.trans (Fr.of_below a4)).trans (c8.mono (by simp))).trans (Fr.of_below a5)) c4 (by simp))
  have b8:=((a2.trans (b3.wide)).trans (Zd.of_below a5)).trans (c1.wide)
  exact ze 2 (c5 _ _ _ ⟨i+1,_,_,rfl,rfl,c0,b7,b8,c7,b9,b4,b2,by omega⟩ (by omega))
 refine xe 11 .nilIface ?_
 obtain rfl:i=L.length:=by omega
 exact⟨_,_,rfl,a3,a8,a7,hA,a1,b2⟩
structure Sin(w W:World):Prop where
 b:Below w.heap.size w W
theorem Sin.below{w W V:World}(h:Sin w W)(hb:B3 W V):Sin w V:=⟨bln h.b hb⟩
theorem Sin.trans{w W V:World}(h:Sin w W)(hb:Below w.heap.size W V):Sin w V:=⟨h.b.trans hb⟩
theorem Sin.upd{w W V:World}{b:Nat}(h:Sin w W)(u:Upd W b V)(hb:w.heap.size≤b):Sin w V:=⟨u.below h.b hb⟩
def RMetaP(B bc bm:Nat)(pg:O0)(N cg f k0:Nat)(p:O0)(K c:Nat)(bs:Bl)(l:List Int)(w:World)(e:Ending)(w':World):Prop :=
 ∃ fa m fc,e=.returned (.tuple #[V0 (Ca l f k0 bs).1,V0 (Ca l f k0 bs).2.1,.agg #[S0,V0 0]])∧Below B w w'∧Zd [169,9] w w'∧RAl B bc bm pg N cg fa m fc (k0+Xo l) (Qs f N) w'∧RefI B bm p K c (Ca l f k0 bs).2.2 w'
theorem rs_ok{L:List (List Int)}{q n:Nat}(hS:∀ i,i<L.length→Hq (L.getD i [])∧(L.getD i []).length≤960)(hn:L.length=n)(h1:1≤q)(h2:q+n≤14400)(h3:n≤14):Ez (Rs L q n):=by
 refine⟨by rw[Wh];exact h3,fun i hi=>?_⟩
 rw[Wh] at hi
 rw[Zf2 hi]
 have hc:=(hS i (by omega)).2
 exact⟨by show 1≤q+i;omega,by show q+i≤14399;omega,Nat.le_trans (Wt _ _) hc,Nat.le_trans (Nr _) hc⟩
theorem Zdg(n:Nat)(a:O0)(c:Nat)(S:List (Nat×Nat×Nat))(w:World)(hn:S.length=n)(hS:Ez S)(h:Sts rsC w (.slice a S.length c) S):C0 185 #[.slice a n c] w (Qn (fun w' r=>∃ b c,r=.tuple #[.slice (S1 b) (Rk S).length c,V0 0]∧KeptB w' (.slice (S1 b) (Rk S).length c) (Rk S)) w):=by
 subst hn;exact Zg9 a c S w hS h
theorem Aj(j:Nat)(B ba b g nn cc:Nat)(pa:O0)(ca f N k0:Nat)(bs:Bl)(w:World)(hC:AlC B ba nn cc ca f N)(hA:Al B ba b g nn cc pa ca f N k0 bs w)(hk:k0≤N)(hN:N≤1000000)(hj:j≤1000000)(hjn:j≤N-k0) :
 C0 161 #[P0 ba,V0 (j:Int)] w (Qn (fun w' r=>∃ q c2,r=.slice q j c2∧w'.ownsRow w.heap.size 3 1 (.slice q j c2) j ((((Qs f N).drop k0).take j).map V0)) w):=by
 have h:=Zah B ba b pa N ca k0 j (Qs f N) w ⟨hA.blkA,hA.nums,Nk _ _,hC.hB,hN,hk⟩ hj
 rwa [Nat.min_eq_left hjn] at h
theorem Bh(n:Nat)(a:O0)(c:Nat)(l:List Int)(w:World)(hn:l.length=n)(h:Sl w (.slice a n c) n (l.map V0))(hl:n≤65536)(hs:Yu l=0):C0 148 #[.slice a n c] w (fun e w'=>∃ pb cb gs po co,e=.returned (.tuple #[.slice pb (bmN n) cb,.slice po (Zm l n).length co,V0 0])∧B3 w w'∧Lists w' w.heap.size (.slice pb (bmN n) cb) gs (Zl (Zg l) (bmN n))∧w'.ownsRow w.heap.size 123 3 (.slice po (Zm l n).length co) (Zm l n).length ((Zm l n).flatMap Yj)):=by
 subst hn;exact Pm a c l w h hl hs
theorem Zew(n:Nat)(a:O0)(c:Nat)(S:List (Nat×Nat×Nat))(w:World)(hn:S.length=n)(hS:Ez S)(h:Sts rsC w (.slice a S.length c) S):C0 163 #[.slice a n c] w (Qn (fun w' r=>∃ p c,r=.tuple #[.slice p 244 c,V0 0]∧w'.ownsRow w.heap.size 5 1 (.slice p 244 c) 244 ((Rk S).map bv)) w):=by
 subst hn;exact Zhg a c S w hS h
def Yd(u n:Nat):List Int:=(List.range n).map fun i=>if i<u then 1 else 0
theorem Xf(u n:Nat):(Yd u n).length=n:=by simp[Yd]
theorem Ev{u n i:Nat}(h:i<n):(Yd u n).getD i 0=if i<u then 1 else 0:=by simp[Yd,List.getD,List.getElem?_range h]
theorem Zb4(u n i:Nat):0≤(Yd u n).getD i 0∧(Yd u n).getD i 0≤1:=by
 by_cases h:i<n
 ·rw[Ev h];split<;>omega
 ·rw[show(Yd u n).getD i 0=0 from by simp[Yd,List.getD,Nat.le_of_not_lt h]];omega
theorem Lk(u n k:Nat):Zm (Yd u n) k=[]:=by
 induction k with
 | zero=>rfl
 | succ k ih=>rw[Kr (by have:=Zb4 u n k;omega),ih]
theorem Jn{u n:Nat}(h:n≤65536):Yu (Yd u n)=0:=by
 unfold Yu
 rw[if_neg (by rw[Xf];omega),if_pos fun k _=>by have:=Zb4 u n k;unfold Kw;omega]
theorem Gc{u n:Nat}:Zb7 (Yd u n) (u:Int):=fun i hi=>by
 rw[Xf] at hi
 rw[Ev hi]
 constructor
 ·intro h;rw[if_neg (by omega)]
 ·split<;>omega
theorem Zge:Zy 5 0=1:=by
 unfold Zy Qw
 rw[show ovN 0 (Qq 5 true)=1 from by decide,Kq (by decide)]
 rfl
theorem Gi(u n:Nat):Xo (Yd u n)=2+bmN n:=by
 unfold Xo
 rw[Lk,List.length_nil,Zge,Xf];omega
theorem Io(n:Nat):Hs (Value.int .i64 0).cells.toList n=(Yd 0 n).map V0:=by
 rw[show Hs (Value.int .i64 0).cells.toList n=List.replicate n (V0 0) from by
  rw[show(Value.int .i64 0).cells.toList=[Value.int .i64 0] from rfl,Hs]
  induction n with
  | zero=>rfl
  | succ n ih=>rw[List.replicate_succ,List.flatten_cons,ih];rfl]
 apply List.ext_getElem (by simp[Yd])
 intro i h1 h2
 simp[Yd]
theorem Sg{i n:Nat}(h:i<n):((Yd i n).map V0).set i (V0 1)=(Yd (i+1) n).map V0:=by
 apply List.ext_getElem?
 intro j
 by_cases hj:j<n
 ·by_cases e:i=j
  ·subst e
   rw[List.getElem?_set_self (by simp[Yd];exact h)]
   simp[Yd,List.getElem?_range h]
  ·rw[List.getElem?_set_ne e]
   simp only[Yd,List.getElem?_map,List.getElem?_range hj,Option.map_some]
   by_cases q:j<i
   ·rw[if_pos q,if_pos (by omega)]
   ·rw[if_neg q,if_neg (by omega)]
 ·rw[List.getElem?_eq_none (by simp[Yd];omega),List.getElem?_eq_none (by simp[Yd];omega)]
theorem Aq{l:List Int}(h:l.length≤65536)(ho:(Zm l l.length).length≤32768):2≤Up l∧Up l≤80000∧bmN l.length≤69:=by
 have h4:=Yv 4 (bmN l.length)
 have h5:=Yv 5 (Zm l l.length).length
 have a1:=Ue 4 (bmN l.length)
 have a0:=Ue 5 (Zm l l.length).length
 have hb:bmN l.length≤69:=by unfold bmN;omega
 unfold Up
 omega
theorem Li(B ba b g nn cc:Nat)(pa:O0)(ca f N k0:Nat)(bs:Bl)(a:O0)(c:Nat)(l:List Int)(w:World)(hC:AlC B ba nn cc ca f N)(hA:Al B ba b g nn cc pa ca f N k0 bs w)(h:Sl w (.slice a l.length c) l.length (l.map V0))(hl:l.length≤65536)(ho:(Zm l l.length).length≤32768)(hs:Yu l=0)(hf1:1≤f)(hkN:k0≤N)(hk:k0+Up l≤N)(hBw:B≤w.heap.size) :
 C0 75 #[P0 ba,.slice a l.length c] w (DataP B ba b g nn cc pa ca f N k0 bs l w):=by
 have d4:=hC.hf
 have d7:=hC.hn
 have d6:=Aq hl ho
 have d1:=Gk hs
 have d3:=Ju l l.length
 have d9:Up l=(bmN l.length)+Zy 4 (bmN l.length)+Zy 5 (Zm l l.length).length:=rfl
 have d8:=Yv 4 (bmN l.length)
 have d5:=Yv 5 (Zm l l.length).length
 refine zin 70 Tryz.func75 ?_
 refine xr 11 (args:=#[P0 ba]) (Qb ba b _ _ _ hA.blkA) fun W1 a1=>?_
 refine xc 9 (args:=#[.slice a l.length c]) (Pm a c l _ (h.below a1) (by omega) hs) ?_
 rintro _ W2 ⟨pb,cb,gs,po,co,rfl,a4,hL,b3⟩
 have c3:=(blB (Below.refl B w) hBw a1).size
 have a7:=(hA.below a1).below a4
 refine xr 23 (args:=#[P0 ba]) (Lm ba b pa N ca k0 _ a7.blkA hkN) fun W3 a2=>?_
 refine xr 4 (args:=#[V0 4,V0 (↑(bmN l.length):Int)]) (Qj 4 (bmN l.length) _ (by decide) (by decide) (by omega)) fun W4 a0=>?_
 refine xwm 0 ((↑(bmN l.length):Int)+(↑(Zy 4 (bmN l.length)):Int)) (↑((bmN l.length)+(Zy 4 (bmN l.length))):Int) ?_
 refine xr 2 (args:=#[V0 5,V0 (↑((Zm l l.length).length):Int)]) (Qj 5 (Zm l l.length).length _ (by decide) (by decide) (by omega)) fun W5 a3=>?_
 refine xwm 0 ((↑((bmN l.length)+(Zy 4 (bmN l.length))):Int)+(↑(Zy 5 (Zm l l.length).length):Int)) (↑(((bmN l.length)+(Zy 4 (bmN l.length)))+(Zy 5 (Zm l l.length).length)):Int) ?_
 refine xk 3 (show(decide ((↑(N-k0):Int)<(↑(((bmN l.length)+(Zy 4 (bmN l.length)))+(Zy 5 (Zm l l.length).length)):Int)):Bool)=false from decide_eq_false (by omega)) ?_
 refine xa 4 [S0] 88 fun b6 W6 n6=>?_
 have hX:=(((((show Fr [ba,g] w _ from(Fr.of_below a1)).trans (Fr.of_below a4)).trans (Fr.of_below a2)).trans (Fr.of_below a0)).trans (Fr.of_below a3)).trans (Fr.of_below n6.below)
 have a5:=Zb (Zb (Zb (Zb (Ze b3 c3) a2) a0) a3) n6.below
 have a9:=(((a7.below a2).below a0).below a3).below n6.below
 have b2:=fun(W:World) (hX:Fr ([ba,g]++[b6]) _ W)=>own_keep a5 a9 n6.blk hX
 have b5:=(((hL.below a2).below a0).below a3).below n6.below
 have g6:=n6.ge0 (blB (blB (blB (blB (blB (Below.refl B w) hBw a1) hBw a4) hBw a2) hBw a0) hBw a3)
 have hB:=blB (blB (blB (blB (blB (blB (Below.refl B w) hBw a1) hBw a4) hBw a2) hBw a0) hBw a3) hBw n6.below
 refine xc 8 (args:=#[P0 ba,.slice pb (bmN l.length) cb,.func (.func 152) #[] #[P0 b6]]) (Zey B ba b g nn cc pa ca f N k0 bs b6 _ pb cb gs (Zl (Zg l) (bmN l.length)) (bmN l.length) (Xk _ _) _ hC a9 b5 (Bs d1.2 _) hf1 (by omega) n6.blk (Nat.le_trans hBw g6) (Nat.le_trans hBw hB.size)) ?_
 rintro _ W7 ⟨p8,c8,rfl,d0,c2,b9,hA,c9,c0⟩
 have c4:=(blB (blB (blB (blB (blB (blB (Below.refl B w) hBw a1) hBw a4) hBw a2) hBw a0) hBw a3) hBw n6.below).size
 replace b3:=b2 _ b9
 refine xb 15 0 c9 ?_
 have b0:=Ze c0 c4
 have a8:=hB.trans d0
 refine xc 0 (args:=#[P0 ba,V0 4,.slice p8 (bmN l.length) c8]) (Ui B ba b g nn cc pa ca f N (k0+(bmN l.length)) (Kl (Zl (Zg l) (bmN l.length)) (f+k0) bs (bmN l.length)) 4 p8 c8 (Xv (Zl (Zg l) (bmN l.length)) (f+k0) (bmN l.length)) (bmN l.length) _ (Qi _ _ _) hC hA (by decide) (by decide) (Rc _ _ _ (by omega)) (by omega) hf1 (by omega) (by omega) (fun W _ h2=>by unfold Sts;rw[Qi];exact Zf (Zi b0 h2 (by decide))) (Nat.le_trans hBw a8.size)) ?_
 rintro _ W8 ⟨rfl,c6,b8,c7,hA⟩
 rw[Qi] at hA
 have a6:=Zi b3 b8 (by decide)
 have b1:=a8.trans c6
 refine xc 21 (args:=#[P0 ba,V0 5,.slice po ((Zm l l.length).length) co]) (Ui B ba b g nn cc pa ca f N (k0+(bmN l.length)+Zy 4 (bmN l.length)) (Yo 4 (Xv (Zl (Zg l) (bmN l.length)) (f+k0) (bmN l.length)) (f+(k0+(bmN l.length))) (Kl (Zl (Zg l) (bmN l.length)) (f+k0) bs (bmN l.length))).2 5 po co (Zm l l.length) (Zm l l.length).length _ rfl hC hA (by decide) (by decide) (Mh _ _ (by omega)) (by omega) hf1 (by omega) (by omega) (fun W _ h2=>Zf (Zi a6 h2 (by decide))) (Nat.le_trans hBw b1.size)) ?_
 rintro _ W9 ⟨rfl,d2,c5,c1,hA⟩
 have b7:=b1.trans d2
 have hO:=((((((((show Zd [153,5,88,123,29] w _ from(Zd.of_below a1)).trans (Zd.of_below a4)).trans (Zd.of_below a2)).trans (Zd.of_below a0)).trans (Zd.of_below a3)).trans (Zd.of_below n6.below)).trans (c2.wide)).trans (b8.wide)).trans (c5.wide)
 have b4:=((Fr.trans_new hX b9 g6).trans (c7.mono (by simp))).trans (c1.mono (by simp))
 refine xe 27 (.tuple #[V0 ((Yo 4 (Xv (Zl (Zg l) (bmN l.length)) (f+k0) (bmN l.length)) (f+(k0+(bmN l.length))) (Kl (Zl (Zg l) (bmN l.length)) (f+k0) bs (bmN l.length))).1),V0 ((Yo 5 (Zm l l.length) (f+(k0+(bmN l.length)+Zy 4 (bmN l.length))) (Yo 4 (Xv (Zl (Zg l) (bmN l.length)) (f+k0) (bmN l.length)) (f+(k0+(bmN l.length))) (Kl (Zl (Zg l) (bmN l.length)) (f+k0) bs (bmN l.length))).2).1),.nilIface]) ?_
 have e1:f+(k0+(bmN l.length))=f+k0+(bmN l.length):=by omega
 have e2:f+(k0+(bmN l.length)+Zy 4 (bmN l.length))=f+k0+(bmN l.length)+Zy 4 (bmN l.length):=by omega
 rw[e2,e1] at hA ⊢
 have e3:k0+(bmN l.length)+Zy 4 (bmN l.length)+Zy 5 (Zm l l.length).length=k0+Up l:=by omega
 rw[e3] at hA
 exact⟨rfl,b7,hO,b4,hA⟩
theorem Fp(w:World) :
 C0 260 #[] w (Qn (fun w' r=>∃ b,r=.slice (S1 b) 1 1∧w.heap.size≤b∧Blk w' b [V0 8,V0 0,V0 1099511627775] 377) w):=by
 refine zin 3 Tryz.func260 ?_
 refine xbs 8 1 [V0 8,V0 0,V0 1099511627775] 377 fun b1 W1 n1=>?_
 exact xe 4 (.slice (S1 b1) 1 1) ⟨_,rfl,n1.below,b1,rfl,(n1.ge (B4 w)),n1.blk⟩
theorem Pn(w:World) :
 C0 203 #[] w (Qn (fun w' r=>∃ b,r=.slice (S1 b) 4 4∧w.heap.size≤b∧Blk w' b [V0 8,V0 0,V0 16384,V0 8,V0 0,V0 2147483647,V0 4,V0 0,V0 16777215,V0 4,V0 0,V0 16777215] 377) w):=by
 refine zin 6 Tryz.func203 ?_
 refine xbs 11 4 [V0 8,V0 0,V0 16384,V0 8,V0 0,V0 2147483647,V0 4,V0 0,V0 16777215,V0 4,V0 0,V0 16777215] 377 fun b1 W1 n1=>?_
 exact xe 4 (.slice (S1 b1) 4 4) ⟨_,rfl,n1.below,b1,rfl,(n1.ge (B4 w)),n1.blk⟩
theorem Ld(ps:List Tt)(N:List Int)(gl gn:O0)(cl cn n:Nat)(w:World)(hps:Cz ps)(hn:n=ps.length)(hNl:N.length=n)(hP:Sts partC w (.slice gl ps.length cl) ps)(hN:Sl w (.slice gn n cn) n (N.map V0))(h:Nm ps N n=true) :
  C0 222 #[.slice gl ps.length cl,.slice gn n cn] w (Ret (.string ⟨(Zfc ps N ps.length).toArray⟩) w):=(Zal ps N gl gn cl cn n w hps hn hNl hP hN).mono (by
 rintro e W q
 rcases q with ⟨q,_⟩|⟨_,rfl,hb⟩
 ·rw[h] at q;cases q
 ·exact⟨rfl,hb⟩)
theorem map_or{b t:Int}(h1:0≤b∧b≤65535)(h2:0≤t∧t≤16777215):IntKind.i64.wrap (↑(BitVec.ofInt 64 (b*16777216) ||| BitVec.ofInt 64 t).toNat:Int)=b*16777216+t:=by
 obtain⟨p,rfl⟩:∃ p:Nat,b=(p:Int):=⟨b.toNat,by omega⟩
 obtain⟨q,rfl⟩:∃ q:Nat,t=(q:Int):=⟨t.toNat,by omega⟩
 have e:((p:Int)*16777216)=((p*16777216:Nat):Int):=by omega
 rw[e,BitVec.ofInt_natCast,BitVec.ofInt_natCast,BitVec.toNat_or,BitVec.toNat_ofNat,BitVec.toNat_ofNat,Nat.mod_eq_of_lt (by omega),Nat.mod_eq_of_lt (by omega)]
 have h:=Nat.two_pow_add_eq_or_of_lt (i:=24) (b:=q) (by omega) p
 rw[show(2:Nat) ^ 24*p=p*16777216 by omega] at h
 rw[←h]
 exact(IntWalk.i64_in _ (by omega)).trans (by omega)
theorem Zet(m:Mp)(w:World)(h1:0≤m.2.1∧m.2.1≤65535)(h2:0≤m.2.2∧m.2.2≤16777215) :
 C0 221 #[V0 m.2.1,V0 m.2.2] w (Ret (.string ⟨(Zdy m).toArray⟩) w):=by
 refine zin 26 Tryz.func221 ?_
 refine xgk 11 [6,7] (show(decide (m.2.1<(0:Int)):Bool)=false from decide_eq_false (by omega)) ?_
 refine xgk 4 [9,10,11] (show(decide (m.2.1≥(65536:Int)):Bool)=false from decide_eq_false (by omega)) ?_
 refine xgk 4 [13,14,15] (show(decide (m.2.2<(0:Int)):Bool)=false from decide_eq_false (by omega)) ?_
 refine xk 5 (show(decide (m.2.2>(16777215:Int)):Bool)=false from decide_eq_false (by omega)) ?_
 refine xc 4 (args:=#[]) (Fp _) ?_
 rintro _ W4 ⟨_,rfl,a2,gl,rfl,gg,kl⟩
 refine xq 1 (congrArg V0 (show(IntKind.i64.wrap (m.2.1*2 ^ 24):Int)=m.2.1*16777216 from IntWalk.i64_in _ (by omega))) ?_
 refine xq 1 (congrArg V0 (show(IntKind.i64.wrap (↑(BitVec.ofInt 64 (m.2.1*16777216) ||| BitVec.ofInt 64 m.2.2).toNat:Int):Int)=m.2.1*16777216+m.2.2 from map_or h1 h2)) ?_
 refine xbs 0 1 [V0 (m.2.1*16777216+m.2.2)] 3 fun b5 W5 n5=>?_
 have a0:=kl.below n5.below
 refine xr 0 (args:=#[.slice (S1 gl) 1 1,.slice (S1 b5) 1 1]) (Ld mapP [m.2.1*16777216+m.2.2] (S1 gl) (S1 b5) 1 1 1 _ mapP_ok rfl rfl (a0.sl 1 1 (by decide) (by decide)) (n5.blk.sl 1 1 (by decide) (by decide)) (by unfold Nm;rw[show List.range 1=[0] from rfl];simp[inP,mapP,List.getD];omega)) fun W6 a1=>?_
 have hB:=bln (bln a2 n5.below) a1
 exact xe 4 (.string ⟨(Zdy m).toArray⟩) ⟨rfl,hB⟩
theorem Sx(data n:Int)(d:Dv)(w:World)(h:DevOk data d)(hn:0≤n∧n≤16384) :
 C0 147 #[.agg #[V0 n,V0 d.1.2.1,V0 d.1.2.2.1,V0 d.1.2.2.2]] w (Ret (.string ⟨(Kx n d).toArray⟩) w):=by
 refine zin 14 Tryz.func147 ?_
 refine xa 2 [V0 n,V0 d.1.2.1,V0 d.1.2.2.1,V0 d.1.2.2.2] 202 fun b1 W1 n1=>?_
 refine xd 4 .z ?_
 have k1:=n1.blk.below (Za W1)
 refine xb (.e [1] 2) 0 k1 ?_
 refine xb (.e [3] 4) 1 k1 ?_
 refine xb (.e [5] 6) 2 k1 ?_
 refine xb (.e [7] 8) 3 k1 ?_
 refine xm2 0 0 9 ?_ ?_
 ·refine yc 0 (args:=#[]) .z (Pn _) ?_
  rintro _ W2 ⟨_,rfl,a2,gl,rfl,gg,kl⟩
  refine⟨a2,?_⟩
  refine xbs (.o [] 9) 4 [V0 n,V0 d.1.2.1,V0 d.1.2.2.1,V0 d.1.2.2.2] 3 fun b3 W3 n3=>?_
  have a0:=kl.below n3.below
  refine xr (.o [] 10) (args:=#[.slice (S1 gl) 4 4,.slice (S1 b3) 4 4]) (Ld detP [n,d.1.2.1,d.1.2.2.1,d.1.2.2.2] (S1 gl) (S1 b3) 4 4 4 _ detP_ok rfl rfl (a0.sl 4 4 (by decide) (by decide)) (n3.blk.sl 4 4 (by decide) (by decide)) (by have a:=h.tx;have b:=h.made;have c:=h.snap;unfold Nm;rw[show List.range 4=[0,1,2,3] from rfl];simp[inP,detP,List.getD];omega)) fun W4 a4=>?_
  have hB:=bln (bln (bln (bln n1.below (Za W1)) a2) n3.below) a4
  exact xe (.r [11] 3) (.string ⟨(Kx n d).toArray⟩) ⟨rfl,hB⟩
 refine xbs 0 4 [V0 n,V0 d.1.2.1,V0 d.1.2.2.1,V0 d.1.2.2.2] 3 fun b5 W5 n5=>?_
 refine yc (.o [] 0) (args:=#[]) .z (Pn _) ?_
 rintro _ W6 ⟨_,rfl,a1,gl,rfl,gg,kl⟩
 refine⟨a1,?_⟩
 have k5:=n5.blk.below a1
 refine xr (.o [] 10) (args:=#[.slice (S1 gl) 4 4,.slice (S1 b5) 4 4]) (Ld detP [n,d.1.2.1,d.1.2.2.1,d.1.2.2.2] (S1 gl) (S1 b5) 4 4 4 _ detP_ok rfl rfl (kl.sl 4 4 (by decide) (by decide)) (k5.sl 4 4 (by decide) (by decide)) (by have a:=h.tx;have b:=h.made;have c:=h.snap;unfold Nm;rw[show List.range 4=[0,1,2,3] from rfl];simp[inP,detP,List.getD];omega)) fun W7 a3=>?_
 have hB:=bln (bln (bln (bln n1.below (Za W1)) n5.below) a1) a3
 exact xe (.r [11] 3) (.string ⟨(Kx n d).toArray⟩) ⟨rfl,hB⟩
theorem F2_len(L:List Dv):Xc (F2 L)=Qu L+Zy 1 L.length+Zy 3 L.length:=by
 have e1:Xc (F1 L)=Xc (Jd L)+Zy 1 (Uj L (Ql L)).length:=Ka _ _
 have e2:Xc (F2 L)=Xc (F1 L)+Zy 3 (Ud L (Kc L)).length:=Ka _ _
 rw[Yp] at e1
 rw[Yq] at e2
 rw[Zd4] at e1
 omega
theorem Zc5(x:Nat)(L:List Dv):Wi x L=1+Xc (F2 L)+Up (Yi x L):=by
 have h:=F2_len L
 have h2:=Hy x L
 unfold Wi Up
 rw[h2,Xy]
 omega
theorem Ci{x:Nat}{L:List Dv}{k:Nat}(h:Kk x L≤k):1+Xc (F2 L)+Up (Yi x L)+2+bmN k≤k:=by
 have a:=Oq (m:=Wi x L+2) h
 have b:=Zc5 x L
 omega
theorem take_devs(L:List Dv){i n:Nat}(h:i=n)(hl:L.length=n):L.take i=L:=List.take_of_length_le (by omega)
theorem Wn{L:List Dv}(i:Nat):Xc (Jd (L.take i))≤Xc (Jd L):=by
 have e:Jd L=Jd (L.take i)++Jd (L.drop i):=by rw[←Dc,List.take_append_drop]
 rw[e,Ex];omega
theorem Zfg(p:O0)(c n x k:Nat)(t u v:Int)(Z:List Zv)(w:World)(hZ:Z.length=n)(hP:DevsR w p c Z)(hk:PoolOk t u v (x:Int) (Z.map Prod.fst))(h1:Kk x (Z.map Prod.fst)≤k)(h2:k≤14400) :
 C0 31 #[.agg #[V0 t,V0 u,V0 v,V0 (x:Int),.slice p n c],V0 (k:Int)] w (Ret (.bool true) w):=by
 have a1:1≤Kk x (Z.map Prod.fst):=by unfold Kk Uo;omega
 obtain⟨m,hm⟩:∃ y,Kk x (Z.map Prod.fst)=y:=⟨_,rfl⟩
 rw[hm] at h1 a1
 refine zin 19 Tryz.func31 ?_
 refine xa 2 [V0 t,V0 u,V0 v,V0 (x:Int),.slice p n c] 24 fun b1 W1 n1=>?_
 refine xlv 5 n1.blk.rp ?_
 refine xr 0 (args:=#[.agg #[V0 t,V0 u,V0 v,V0 (x:Int),.slice p n c]]) (by have q:=Ie p c n x t u v Z _ hZ (hP.below n1.below) hk;rw[hm] at q;exact q) fun W2 a2=>?_
 refine xgk 8 [9,10] (show(decide ((m:Int)>(0:Int)):Bool)=true from decide_eq_true (by omega)) ?_
 refine xgk 5 [13,14,15] (show(decide ((k:Int)≥(m:Int)):Bool)=true from decide_eq_true (by omega)) ?_
 have a0:=bln n1.below a2
 exact xe 7 (.bool (decide ((k:Int)≤(14400:Int)))) ⟨by rw[decide_eq_true (by omega)],a0⟩
theorem Zdc(p:O0)(c n x k:Nat)(t u v:Int)(Z:List Zv)(w:World)(hZ:Z.length=n)(hP:DevsR w p c Z)(hk:PoolOk t u v (x:Int) (Z.map Prod.fst))(h1:k<Kk x (Z.map Prod.fst)) :
 C0 31 #[.agg #[V0 t,V0 u,V0 v,V0 (x:Int),.slice p n c],V0 (k:Int)] w (Ret (.bool false) w):=by
 have a1:1≤Kk x (Z.map Prod.fst):=by unfold Kk Uo;omega
 obtain⟨m,hm⟩:∃ y,Kk x (Z.map Prod.fst)=y:=⟨_,rfl⟩
 rw[hm] at h1 a1
 refine zin 19 Tryz.func31 ?_
 refine xa 2 [V0 t,V0 u,V0 v,V0 (x:Int),.slice p n c] 24 fun b1 W1 n1=>?_
 refine xlv 5 n1.blk.rp ?_
 refine xr 0 (args:=#[.agg #[V0 t,V0 u,V0 v,V0 (x:Int),.slice p n c]]) (by have q:=Ie p c n x t u v Z _ hZ (hP.below n1.below) hk;rw[hm] at q;exact q) fun W2 a2=>?_
 refine xgk 8 [9,10] (show(decide ((m:Int)>(0:Int)):Bool)=true from decide_eq_true (by omega)) ?_
 refine xgk 5 [13,14,15] (show(decide ((k:Int)≥(m:Int)):Bool)=false from decide_eq_false (by omega)) ?_
 have a0:=bln n1.below a2
 exact xe 7 (.bool false) ⟨rfl,a0⟩
theorem Kb(w:World) :
 C0 33 #[.nilIface] w (Ret (.tuple #[]) w):=by
 refine zin 7 Tryz.func33 ?_
 exact xe 8 (.tuple #[]) ⟨rfl,(B4 w)⟩
theorem Tu(B ba b g nn cc:Nat)(pa:O0)(ca N:Nat)(bs:Bl)(F:List Hg)(t:Int)(a:O0)(c n:Nat)(l:List Ent)(w:World)(hl:l.length=n)(hC:AlC B ba nn cc ca 1 N)(hA:AlF B ba b g nn cc pa ca N bs F w)(hok:Ns (t,l))(hr:Xc (F++[(t,l)])≤N)(hin:∀ W,Below B w W→Zd [153,5,29] w W→Sl W (.slice a n c) n (l.flatMap Yj))(hBw:B≤w.heap.size) :
 C0 144 #[.agg #[P0 ba],V0 t,.slice a n c] w ((fun e w'=>e=.returned (V0 (↑(Xc (F++[(t,l)])):Int))∧Below B w w'∧Zd [153,5,29] w w'∧AlF B ba b g nn cc pa ca N bs (F++[(t,l)]) w')):=by
 refine zin 20 Tryz.func144 ?_
 refine xa 2 [P0 ba] 79 fun b1 W1 n1=>?_
 refine xb 6 0 n1.blk ?_
 have hB:=blB (Below.refl B w) hBw n1.below
 have hO:=(show Zd [153,5,29] w _ from(Zd.of_below n1.below))
 have a4:=hA.below n1.below
 refine xc 2 (args:=#[P0 ba,V0 t,.slice a n c]) (build_F B ba b g nn cc pa ca N bs F t a c n l _ hl hC a4 hok hr (fun W h1 h2=>hin W (hB.trans h1) (hO.trans h2)) (Nat.le_trans hBw hB.size)) ?_
 rintro _ W2 ⟨rfl,a6,a5,a7,hA⟩
 refine xr 10 (args:=#[.nilIface]) (Kb _) fun W3 a2=>?_
 have a3:=blB (hB.trans a6) hBw a2
 have a1:=(hO.trans a5).trans (Zd.of_below a2)
 have a0:=hA.below a2
 exact xe 9 (V0 (↑(Xc (F++[(t,l)])):Int)) ⟨rfl,a3,a1,a0⟩
theorem lay_maps(p:O0)(c:Nat)(data:Int)(m:List Mp)(w:World)(h:Sts mapC w (.slice p m.length c) m)(hok:MapsOk data m)(hd:data≤65536)(hf:m.length≤16384) :
 C0 145 #[.slice p m.length c] w (Qn (fun w' r=>∃ q d,r=.slice q m.length d∧w'.ownsRow w.heap.size 123 3 (.slice q m.length d) m.length ((Hp m).flatMap Yj)) w):=by
 have b5:=Sl.len h
 refine zin 25 Tryz.func145 ?_
 have hB:=Below.refl w.heap.size w
 refine zl 19 25 (fun zm b0 V=>∃ (k:Nat) (p1:O0) (c1:Nat),b0=[(2,S0),(3,.slice p1 k c1),(6,.slice p m.length c),(7,V0 (m.length:Int)),(8,V0 (k:Int))]∧zm=m.length-((k:Int)).toNat∧B3 w V∧V.ownsRow w.heap.size 123 3 (.slice p1 k c1) k (((Hp m).take k).flatMap Yj)∧k≤m.length) ⟨0,none,0,rfl,rfl,hB,World.ownsRow_nil _ _ _ _,Nat.zero_le _⟩ ?_
 rintro _ _ W1 ⟨k,p1,c1,rfl,rfl,a0,hl,hk⟩ J1 b2 r1
 refine xid 6 ((k:Int)<(m.length:Int)) (fun b4=>?_) (fun b4=>?_)
 ·have b7:=hok.each (m.getD k mpD) (Nu _ (by omega))
  refine xx 6 _ m.length k 3 (Sts.cell h Xx mpD (k:=k) (i:=0) (by omega) rfl).1 ?_
  refine xlv 0 (Sts.rp (k:=k) (h.below a0) Xx mpD (by omega) (by decide)) ?_
  refine xa 0 [V0 0,V0 0,V0 0] 164 fun b3 W3 n3=>?_
  have g3:=n3.ge a0
  refine xsv 0 n3.blk [V0 ((m.getD k mpD).1),V0 ((m.getD k mpD).2.1),V0 ((m.getD k mpD).2.2)] fun W4 u4 k4=>?_
  refine xd 2 (.t w.heap.size [123]) ?_
  have a1:=k4.below (Za W4)
  refine xbt (.e [0,1] 2) 0 w.heap.size [123] a1 ?_
  refine xbt (.e [3] 4) 1 w.heap.size [123] a1 ?_
  refine xbt (.e [5] 6) 2 w.heap.size [123] a1 ?_
  refine xr (.o [] 7) (args:=#[V0 ((m.getD k mpD).2.1),V0 ((m.getD k mpD).2.2)]) (Zet (m.getD k mpD) _ ⟨by omega,by omega⟩ ⟨by omega,by omega⟩) fun W5 a9=>?_
  refine xbs (.o [8] 9) 1 [V0 ((m.getD k mpD).1),.string ⟨(Zdy (m.getD k mpD)).toArray⟩,V0 0] 123 fun b6 W6 n6=>?_
  have a5:=bln (bln (u4.below (bln a0 n3.below) g3) (Za W4)) a9
  have g6:=n6.ge a5
  have a2:=Zb (Zb (u4.own2 (Zb hl n3.below) n3.blk (by decide)) (Za W4)) a9
  have a8:=Zr a2 n6
  have a3:=Zb a2 n6.below
  have a4:=bln a5 n6.below
  refine ybi (.o [] 10) (.t w.heap.size [123]) fun _ _ _ _ zJ zQ zo zx zy zK=>Zn (m:=1) (news:=[V0 ((m.getD k mpD).1),.string ⟨(Zdy (m.getD k mpD)).toArray⟩,V0 0]) (.agg #[V0 0,.string ⟨#[]⟩,V0 0]) 3 32 (k+1) ((((Hp m).take (k+1)).flatMap Yj)) zo Tryz.underlying88 (by kernel_rfl) rfl (by decide) zx a3 zy (n6.blk.sl 1 1 (by decide) (by decide)) rfl (by simp[Value.oneCell']) (by unfold maxLen;omega) (by omega) a4.size (by rfl) (by exact Wf (by rw[Qr];omega) (Gb (by omega))) fun b9 b8 W7 o7 b1 a7=>?_
  refine zK _ _ (Zt a7 b1 a3 (by decide)) ?_
  refine xwm (.r [11] 4) ((k:Int)+1) (↑(k+1):Int) ?_
  have a6:=a4.trans a7
  exact ze 2 (b2 _ _ _ ⟨k+1,_,_,rfl,rfl,a6,o7,by omega⟩ (by omega))
 exact xe 12 (.slice p1 k c1) (by obtain rfl:k=m.length:=(by omega);have q:=hl;rw[List.take_of_length_le (by rw[Qr];omega)] at q;exact⟨_,rfl,a0,_,_,rfl,q⟩)
theorem La(B ba b g cc:Nat)(pa:O0)(ca f N k n:Nat)(bs:Bl)(w:World)(hA:Al B ba b g (n*256) cc pa ca f N k bs w)(hk:k+1≤n)(hn:n≤14400) :
 C0 78 #[.agg #[P0 ba]] w (Qn (fun w' r=>∃ q d,r=.slice (some q) n d∧w'.ownsRow w.heap.size 3 1 (.slice (some q) n d) n ((Yd (k+1) n).map V0)) w):=by
 refine zin 22 Tryz.func78 ?_
 refine xa 2 [P0 ba] 79 fun b1 W1 n1=>?_
 refine xb 6 0 n1.blk ?_
 refine xr 0 (args:=#[P0 ba]) (Qb ba b _ _ _ (hA.blkA.below n1.below)) fun W2 b2=>?_
 have a6:=bln n1.below b2
 refine xr 0 (args:=#[P0 b]) (by have q:=Ys b _ (n*256) _ _ (hA.blkI.below a6) (by omega);rw[show n*256/256=n by omega] at q;exact q) fun W3 b3=>?_
 refine xmk 0 fun _ _ _ _ zJ zQ zo zx zy zK=>Kn n (V0 0) 1 8 ((Yd 0 n).map V0) zo zx zy Tryz.underlying33 (by kernel_rfl) rfl (by omega) (by omega) ((Io n)) fun b4 W4 n4=>?_
 have a4:=bln a6 b3
 have g4:=n4.ge a4
 refine zK _ _ ?_
 have a5:=((n1.blk.below b2).below b3).below n4.below
 refine xb 7 0 a5 ?_
 have a2:=bln a4 n4.below
 refine xr 0 (args:=#[P0 ba]) (Zej ba b _ k _ (hA.blkA.below a2)) fun W5 a7=>?_
 refine xwm 0 ((k:Int)+1) (↑(k+1):Int) ?_
 have o4:=Zb (Zw (size:=1) (n:=n) n4.blk g4 (by rw[List.length_map,Xf,Nat.mul_one]) (by unfold maxLen;omega)) a7
 have b0:=bln a2 a7
 have a8:=a5.below a7
 refine zl 4 22 (fun zm b5 V=>∃ (i:Nat),b5=[(2,S0),(3,.slice (S1 b4) n n),(13,V0 (↑(k+1):Int)),(14,V0 (i:Int))]∧zm=(k+1)-((i:Int)).toNat∧B3 w V∧Blk V b1 ([P0 ba]) 79∧V.ownsRow w.heap.size 3 1 (.slice (S1 b4) n n) n ((Yd i n).map V0)∧i≤k+1) ⟨0,rfl,rfl,b0,a8,o4,Nat.zero_le _⟩ ?_
 rintro _ _ W6 ⟨i,rfl,rfl,a3,a1,ho,hi⟩ J6 b6 r6
 refine xid 6 ((i:Int)<(↑(k+1):Int)) (fun b7=>?_) (fun b7=>?_)
 ·refine xx 13 _ n i 1 (show(some (⟨b4,0,none⟩:Addr)).isSome=true from rfl) ?_
  refine xst 0 fun _ _ _ _ zJ zQ zo zx zy zK=>Xz (t:=3) (k:=i) (v:=V0 1) zo zx zy (by kernel_rfl) rfl ho (by omega) fun W8 u8 o8=>?_
  rw[Sg (i:=i) (n:=n) (by omega)] at o8
  refine zK _ _ ?_
  refine xwm 4 ((i:Int)+1) (↑(i+1):Int) ?_
  have a9:=u8.below a3 (Vz ho)
  have a0:=u8.blk a1 (Yx a1 ho (by decide))
  exact ze 2 (b6 _ _ _ ⟨i+1,rfl,rfl,a9,a0,o8,by omega⟩ (by omega))
 exact xe 12 (.slice (S1 b4) n n) (by obtain rfl:i=k+1:=(by omega);exact⟨_,rfl,a3,_,_,rfl,ho⟩)
structure Sup where
 tx:Int
 time:Int
 unit:Int
 data:Int
 blocks:Int
 top:Int
 details:Int
 dslots:Int
 dover:Int
 mindex:Int
 mover:Int
def Ht(s:Sup):List Int:=[s.tx,s.time,s.unit,s.data,s.blocks,s.top,s.details,s.dslots,s.dover,s.mindex,s.mover]
def Xj(s:Sup):Bool:=(((((((((((true&&decide ((0:Int)≤s.tx∧s.tx≤2147483647))&&decide ((0:Int)≤s.time∧s.time≤16777215))&&decide ((1:Int)≤s.unit∧s.unit≤65536))&&decide ((0:Int)≤s.data∧s.data≤65536))&&decide ((2:Int)≤s.blocks∧s.blocks≤14400))&&decide ((1:Int)≤s.top∧s.top≤(s.blocks-1)))&&decide ((1:Int)≤s.details∧s.details≤(s.blocks-1)))&&decide ((1:Int)≤s.dslots∧s.dslots≤(s.blocks-1)))&&decide ((1:Int)≤s.dover∧s.dover≤(s.blocks-1)))&&decide ((1:Int)≤s.mindex∧s.mindex≤(s.blocks-1)))&&decide ((1:Int)≤s.mover∧s.mover≤(s.blocks-1)))
def Vd:Bl:=[83,67,65,78,84,76,73,78]
def Ve(N:List Int):Bl:=N.flatMap fun n=>leB n 4
theorem Ag(N:List Int):(Ve N).length=N.length*4:=by
 unfold Ve
 induction N with
 | nil=>rfl
 | cons n N ih=>rw[List.flatMap_cons,List.length_append,Zh,ih,List.length_cons];omega
def Ao(s:Sup):Bl:=Vd++Ve (1::Ht s)++List.replicate 188 0
theorem Jc(s:Sup):(Ao s).length=244:=by
 unfold Ao;rw[List.length_append,List.length_append,Ag,List.length_replicate];rfl
def Re(n:Int):List Value:=[V0 4,V0 n]
theorem Zcs(n:Int):(Re n).length=2:=rfl
theorem Yy(B bs bo off:Nat)(cs:List Value)(n lo hi:Int)(b:Bool)(w:World)(hBw:B≤w.heap.size)(hBo:B≤bo)(ks:Blk w bs cs 44)(hn:cs[off]? = some (V0 n))(ko:Blk w bo [.bool b] 4) :
 C0 237 #[.pointer (some ⟨bs,off,none⟩),V0 lo,V0 hi,P0 bo] w ((fun e w'=>∃ u,e=.returned u∧Below B w w'∧Zd [4] w w'∧Blk w' bo [.bool (b&&decide ((lo:Int)≤n∧n≤hi))] 4)):=by
 refine zin 22 Tryz.func237 ?_
 refine xb 1 0 ko ?_
 refine xg 1 [7,8] b (fun a1=>?_) (fun a1=>?_)
 ·refine xl 2 (ks.cell (i:=off) hn) ?_
  refine xg 4 [13,14,15] (decide (n≥lo)) (fun a0=>?_) (fun a0=>?_)
  ·have a0:=of_decide_eq_true a0
   refine xl 2 (ks.cell (i:=off) hn) ?_
   refine xs 3 ko [.bool (decide (n≤hi))] fun W3 u3 k3=>?_
   have hB:=u3.below (Below.refl B w) hBo
   have hO:=(show Zd [4] w _ from(Zd.of_upd u3 ko (by decide)))
   exact xe 1 (.tuple #[]) ⟨_,rfl,hB,hO,by rw[show(b&&decide ((lo:Int)≤n∧n≤hi))=decide (n≤hi) from by first|(rw[show decide ((lo:Int)≤n∧n≤hi)=false from decide_eq_false (by omega),Bool.and_false];done)|(simp_all;done)|(simp_all;omega)];exact k3⟩
  have a0:=of_decide_eq_false a0
  refine xs 6 ko [.bool false] fun W4 u4 k4=>?_
  have hB:=u4.below (Below.refl B w) hBo
  have hO:=(show Zd [4] w _ from(Zd.of_upd u4 ko (by decide)))
  exact xe 1 (.tuple #[]) ⟨_,rfl,hB,hO,by rw[show(b&&decide ((lo:Int)≤n∧n≤hi))=false from by first|(rw[show decide ((lo:Int)≤n∧n≤hi)=false from decide_eq_false (by omega),Bool.and_false];done)|(simp_all;done)|(simp_all;omega)];exact k4⟩
 refine xs 13 ko [.bool false] fun W5 u5 k5=>?_
 have hB:=u5.below (Below.refl B w) hBo
 have hO:=(show Zd [4] w _ from(Zd.of_upd u5 ko (by decide)))
 exact xe 1 (.tuple #[]) ⟨_,rfl,hB,hO,by rw[show(b&&decide ((lo:Int)≤n∧n≤hi))=false from by first|(rw[show decide ((lo:Int)≤n∧n≤hi)=false from decide_eq_false (by omega),Bool.and_false];done)|(simp_all;done)|(simp_all;omega)];exact k5⟩
theorem Ft(B bs bo:Nat)(s:Sup)(w:World)(hBw:B≤w.heap.size)(hBo:B≤bo)(hb0:0≤s.blocks)(hb1:s.blocks<9223372036854775808)(ks:Blk w bs [V0 s.tx,V0 s.time,V0 s.unit,V0 s.data,V0 s.blocks,V0 s.top,V0 s.details,V0 s.dslots,V0 s.dover,V0 s.mindex,V0 s.mover] 44)(ko:Blk w bo [.bool true] 4) :
 C0 167 #[P0 bs,.func (.func 237) #[] #[P0 bo]] w ((fun e w'=>∃ u,e=.returned u∧Below B w w'∧Zd [4] w w'∧Blk w' bo [.bool (Xj s)] 4)):=by
 refine zin 64 Tryz.func167 ?_
 refine xc 6 (args:=#[P0 bs,V0 0,V0 2147483647,P0 bo]) (Yy B bs bo 0 _ s.tx 0 2147483647 true _ (Nat.le_trans hBw (Below.refl B _).size) hBo ks rfl ko) ?_
 rintro _ W1 ⟨u1,rfl,hb1,e0,f9⟩
 have c7:=ks.only e0 (by decide)
 refine xc 8 (args:=#[.pointer (some ⟨bs,1,none⟩),V0 0,V0 16777215,P0 bo]) (Yy B bs bo 1 _ s.time 0 16777215 (true&&decide ((0:Int)≤s.tx∧s.tx≤2147483647)) _ (Nat.le_trans hBw hb1.size) hBo c7 rfl f9) ?_
 rintro _ W2 ⟨u2,rfl,e7,e4,f7⟩
 have b7:=hb1.trans e7
 have b1:=c7.only e4 (by decide)
 refine xc 8 (args:=#[.pointer (some ⟨bs,2,none⟩),V0 1,V0 65536,P0 bo]) (Yy B bs bo 2 _ s.unit 1 65536 ((true&&decide ((0:Int)≤s.tx∧s.tx≤2147483647))&&decide ((0:Int)≤s.time∧s.time≤16777215)) _ (Nat.le_trans hBw b7.size) hBo b1 rfl f7) ?_
 rintro _ W3 ⟨u3,rfl,f1,e2,f3⟩
 have c6:=b7.trans f1
 have b9:=b1.only e2 (by decide)
 refine xc 8 (args:=#[.pointer (some ⟨bs,3,none⟩),V0 0,V0 65536,P0 bo]) (Yy B bs bo 3 _ s.data 0 65536 (((true&&decide ((0:Int)≤s.tx∧s.tx≤2147483647))&&decide ((0:Int)≤s.time∧s.time≤16777215))&&decide ((1:Int)≤s.unit∧s.unit≤65536)) _ (Nat.le_trans hBw c6.size) hBo b9 rfl f3) ?_
 rintro _ W4 ⟨u4,rfl,e5,e1,e8⟩
 have c5:=c6.trans e5
 have c0:=b9.only e1 (by decide)
 refine xc 8 (args:=#[.pointer (some ⟨bs,4,none⟩),V0 2,V0 14400,P0 bo]) (Yy B bs bo 4 _ s.blocks 2 14400 ((((true&&decide ((0:Int)≤s.tx∧s.tx≤2147483647))&&decide ((0:Int)≤s.time∧s.time≤16777215))&&decide ((1:Int)≤s.unit∧s.unit≤65536))&&decide ((0:Int)≤s.data∧s.data≤65536)) _ (Nat.le_trans hBw c5.size) hBo c0 rfl e8) ?_
 rintro _ W5 ⟨u5,rfl,f0,e3,f2⟩
 refine xd 3 .z ?_
 refine xbs (.o [0,1,2,3,4,5,6,7,8,9,10,11,12,13,14,15,16,17,20] 18) 6 [.pointer (some ⟨bs,5,none⟩),.pointer (some ⟨bs,6,none⟩),.pointer (some ⟨bs,7,none⟩),.pointer (some ⟨bs,8,none⟩),.pointer (some ⟨bs,9,none⟩),.pointer (some ⟨bs,10,none⟩)] 275 fun b6 W6 n6=>?_
 have c3:=blB (c5.trans f0) hBw (Za W5)
 have g6:=n6.ge0 c3
 refine xu (.r [19] 3) 7 ?_
 refine xb 14 0 n6.blk ?_
 have a7:=((c0.only e3 (by decide)).below (Za W5)).below n6.below
 refine xb 9 4 a7 ?_
 refine xw 0 (s.blocks-1) ?_
 have b8:=blB c3 hBw n6.below
 have b2:=(f2.below (Za W5)).below n6.below
 refine xc 0 (args:=#[.pointer (some ⟨bs,5,none⟩),V0 1,V0 (s.blocks-1),P0 bo]) (Yy B bs bo 5 _ s.top 1 (s.blocks-1) (((((true&&decide ((0:Int)≤s.tx∧s.tx≤2147483647))&&decide ((0:Int)≤s.time∧s.time≤16777215))&&decide ((1:Int)≤s.unit∧s.unit≤65536))&&decide ((0:Int)≤s.data∧s.data≤65536))&&decide ((2:Int)≤s.blocks∧s.blocks≤14400)) _ (Nat.le_trans hBw b8.size) hBo a7 rfl b2) ?_
 rintro _ W7 ⟨u7,rfl,f4,d0,f5⟩
 have b0:=n6.blk.only d0 (by decide)
 refine xb 22 1 b0 ?_
 have a8:=a7.only d0 (by decide)
 refine xb 9 4 a8 ?_
 refine xw 0 (s.blocks-1) ?_
 have c2:=b8.trans f4
 refine xc 0 (args:=#[.pointer (some ⟨bs,6,none⟩),V0 1,V0 (s.blocks-1),P0 bo]) (Yy B bs bo 6 _ s.details 1 (s.blocks-1) ((((((true&&decide ((0:Int)≤s.tx∧s.tx≤2147483647))&&decide ((0:Int)≤s.time∧s.time≤16777215))&&decide ((1:Int)≤s.unit∧s.unit≤65536))&&decide ((0:Int)≤s.data∧s.data≤65536))&&decide ((2:Int)≤s.blocks∧s.blocks≤14400))&&decide ((1:Int)≤s.top∧s.top≤(s.blocks-1))) _ (Nat.le_trans hBw c2.size) hBo a8 rfl f5) ?_
 rintro _ W8 ⟨u8,rfl,e9,d2,e6⟩
 have c1:=b0.only d2 (by decide)
 refine xb 22 2 c1 ?_
 have a4:=a8.only d2 (by decide)
 refine xb 9 4 a4 ?_
 refine xw 0 (s.blocks-1) ?_
 have b3:=c2.trans e9
 refine xc 0 (args:=#[.pointer (some ⟨bs,7,none⟩),V0 1,V0 (s.blocks-1),P0 bo]) (Yy B bs bo 7 _ s.dslots 1 (s.blocks-1) (((((((true&&decide ((0:Int)≤s.tx∧s.tx≤2147483647))&&decide ((0:Int)≤s.time∧s.time≤16777215))&&decide ((1:Int)≤s.unit∧s.unit≤65536))&&decide ((0:Int)≤s.data∧s.data≤65536))&&decide ((2:Int)≤s.blocks∧s.blocks≤14400))&&decide ((1:Int)≤s.top∧s.top≤(s.blocks-1)))&&decide ((1:Int)≤s.details∧s.details≤(s.blocks-1))) _ (Nat.le_trans hBw b3.size) hBo a4 rfl e6) ?_
 rintro _ W9 ⟨u9,rfl,f8,d3,f6⟩
 have c8:=c1.only d3 (by decide)
 refine xb 22 3 c8 ?_
 have a3:=a4.only d3 (by decide)
 refine xb 9 4 a3 ?_
 refine xw 0 (s.blocks-1) ?_
 have c4:=b3.trans f8
 refine xc 0 (args:=#[.pointer (some ⟨bs,8,none⟩),V0 1,V0 (s.blocks-1),P0 bo]) (Yy B bs bo 8 _ s.dover 1 (s.blocks-1) ((((((((true&&decide ((0:Int)≤s.tx∧s.tx≤2147483647))&&decide ((0:Int)≤s.time∧s.time≤16777215))&&decide ((1:Int)≤s.unit∧s.unit≤65536))&&decide ((0:Int)≤s.data∧s.data≤65536))&&decide ((2:Int)≤s.blocks∧s.blocks≤14400))&&decide ((1:Int)≤s.top∧s.top≤(s.blocks-1)))&&decide ((1:Int)≤s.details∧s.details≤(s.blocks-1)))&&decide ((1:Int)≤s.dslots∧s.dslots≤(s.blocks-1))) _ (Nat.le_trans hBw c4.size) hBo a3 rfl f6) ?_
 rintro _ g7 ⟨g1,rfl,d7,a5,d9⟩
 have b4:=c8.only a5 (by decide)
 refine xb 22 4 b4 ?_
 have a6:=a3.only a5 (by decide)
 refine xb 9 4 a6 ?_
 refine xw 0 (s.blocks-1) ?_
 have b5:=c4.trans d7
 refine xc 0 (args:=#[.pointer (some ⟨bs,9,none⟩),V0 1,V0 (s.blocks-1),P0 bo]) (Yy B bs bo 9 _ s.mindex 1 (s.blocks-1) (((((((((true&&decide ((0:Int)≤s.tx∧s.tx≤2147483647))&&decide ((0:Int)≤s.time∧s.time≤16777215))&&decide ((1:Int)≤s.unit∧s.unit≤65536))&&decide ((0:Int)≤s.data∧s.data≤65536))&&decide ((2:Int)≤s.blocks∧s.blocks≤14400))&&decide ((1:Int)≤s.top∧s.top≤(s.blocks-1)))&&decide ((1:Int)≤s.details∧s.details≤(s.blocks-1)))&&decide ((1:Int)≤s.dslots∧s.dslots≤(s.blocks-1)))&&decide ((1:Int)≤s.dover∧s.dover≤(s.blocks-1))) _ (Nat.le_trans hBw b5.size) hBo a6 rfl d9) ?_
 rintro _ g0 ⟨g3,rfl,d5,a2,d8⟩
 have d6:=b4.only a2 (by decide)
 refine xb 22 5 d6 ?_
 have a1:=a6.only a2 (by decide)
 refine xb 9 4 a1 ?_
 refine xw 0 (s.blocks-1) ?_
 have a0:=b5.trans d5
 refine xc 0 (args:=#[.pointer (some ⟨bs,10,none⟩),V0 1,V0 (s.blocks-1),P0 bo]) (Yy B bs bo 10 _ s.mover 1 (s.blocks-1) ((((((((((true&&decide ((0:Int)≤s.tx∧s.tx≤2147483647))&&decide ((0:Int)≤s.time∧s.time≤16777215))&&decide ((1:Int)≤s.unit∧s.unit≤65536))&&decide ((0:Int)≤s.data∧s.data≤65536))&&decide ((2:Int)≤s.blocks∧s.blocks≤14400))&&decide ((1:Int)≤s.top∧s.top≤(s.blocks-1)))&&decide ((1:Int)≤s.details∧s.details≤(s.blocks-1)))&&decide ((1:Int)≤s.dslots∧s.dslots≤(s.blocks-1)))&&decide ((1:Int)≤s.dover∧s.dover≤(s.blocks-1)))&&decide ((1:Int)≤s.mindex∧s.mindex≤(s.blocks-1))) _ (Nat.le_trans hBw a0.size) hBo a1 rfl d8) ?_
 rintro _ g2 ⟨g5,rfl,d4,d1,c9⟩
 have a9:=a0.trans d4
 have hO:=((((((((((((show Zd [4] w _ from e0).trans e4).trans e2).trans e1).trans e3).trans (Zd.of_below (Za W5))).trans (Zd.of_below n6.below)).trans d0).trans d2).trans d3).trans a5).trans a2).trans d1
 exact xe 19 (.tuple #[]) ⟨_,rfl,a9,hO,c9⟩
theorem Ah(s:Sup)(w:World)(hb0:0≤s.blocks)(hb1:s.blocks<9223372036854775808) :
 C0 166 #[.agg #[V0 s.tx,V0 s.time,V0 s.unit,V0 s.data,V0 s.blocks,V0 s.top,V0 s.details,V0 s.dslots,V0 s.dover,V0 s.mindex,V0 s.mover]] w (Ret (.bool (Xj s)) w):=by
 refine zin 7 Tryz.func166 ?_
 refine xa 2 [V0 s.tx,V0 s.time,V0 s.unit,V0 s.data,V0 s.blocks,V0 s.top,V0 s.details,V0 s.dslots,V0 s.dover,V0 s.mindex,V0 s.mover] 44 fun b1 W1 n1=>?_
 refine xa 5 [.bool false] 4 fun b2 W2 n2=>?_
 refine xs 0 n2.blk [.bool true] fun W3 u3 k3=>?_
 have g2:=n2.ge n1.below
 have hB:=u3.below (bln n1.below n2.below) g2
 have k1:=u3.blkT (n1.blk.below n2.below) n2.blk (by decide)
 refine xc 5 (args:=#[P0 b1,.func (.func 237) #[] #[P0 b2]]) (Ft w.heap.size b1 b2 s _ hB.size g2 hb0 hb1 k1 k3) ?_
 rintro _ W4 ⟨u4,rfl,a2,a3,a1⟩
 refine xb 4 0 a1 ?_
 have a0:=hB.trans a2
 exact xe 4 (.bool (Xj s)) ⟨rfl,a0⟩
theorem Kf(B Bx bs bl off n:Nat)(cs:List Value)(x:Int)(lo hi:Value)(p:O0)(c:Nat)(N:List Int)(w:World)(hBm:B≤Bx)(hBx:Bx≤w.heap.size)(hBw:B≤w.heap.size)(hBl:B≤bl)(ks:Blk w bs cs 44)(hn:cs[off]? = some (V0 x))(kl:Blk w bl [.slice p n c] 272)(hup:w.ownsRow Bx 271 2 (.slice p n c) n (N.flatMap Re))(hnn:n≤1000) :
 C0 168 #[.pointer (some ⟨bs,off,none⟩),lo,hi,P0 bl] w ((fun e w'=>∃ u p' c',e=.returned u∧Below B w w'∧Zd [272,271] w w'∧Blk w' bl [.slice p' (n+1) c'] 272∧w'.ownsRow Bx 271 2 (.slice p' (n+1) c') (n+1) ((N++[x]).flatMap Re))):=by
 refine zin 14 Tryz.func168 ?_
 refine xd 0 (.t B [272,271]) ?_
 have b8:=ks.below (Za w)
 refine xlt (.e [1,2] 3) (.t B [272,271]) (fun V hV=>(b8.only hV.2 (by decide)).cell (i:=off) hn) ?_
 refine xm2 (.b [4]) 0 5 ?_ ?_
 ·have a7:=kl.below (Za w)
  refine xb 0 0 a7 ?_
  refine xbs (.o [] 5) 1 [V0 4,V0 x] 271 fun b1 W1 n1=>?_
  have a4:=Zb hup (Za w)
  have b7:=Zr a4 n1
  have a0:=Zb a4 n1.below
  have hB:=blB (blB (Below.refl B w) hBw (Za w)) hBw n1.below
  refine ybi (.o [] 6) (.t B [272,271]) fun _ _ _ _ zJ zQ zo zx zy zK=>Zn (m:=1) (news:=[V0 4,V0 x]) (.agg #[V0 0,V0 0]) 2 16 (n+1) (((N++[x]).flatMap Re)) zo Tryz.underlying272 (by kernel_rfl) rfl (by decide) zx a0 zy (n1.blk.sl 1 1 (by decide) (by decide)) rfl (by simp[Value.oneCell']) (by unfold maxLen;omega) (by omega) (Nat.le_trans hBx hB.size) (by rfl) (by rw[List.flatMap_append];rfl) fun c2 c4 W2 o2 b3 b9=>?_
  refine zK _ _ (Zt (b9.mono hBm) b3 a0 (by decide)) ?_
  have a3:=(a7.below n1.below).grown b3 a0 (by decide)
  refine ys (.o [] 7) a3 [.slice c2 (n+1) c4] (.t B [272,271]) fun W3 u3 k3=>⟨(Zx u3 a3 hBl (by decide)),?_⟩
  have b0:=u3.below (hB.trans (b9.mono hBm)) hBl
  have hO:=(((show Zd [272,271] w _ from(Zd.of_below (Za w))).trans (Zd.of_below n1.below)).trans (Zd.of_grown b3 a0 (by decide))).trans (Zd.of_upd u3 a3 (by decide))
  have b5:=u3.own2 o2 a3 (by decide)
  exact xe 1 (.tuple #[]) ⟨_,_,_,rfl,b0,hO,k3,b5⟩
 refine xbs 0 1 [V0 4,V0 x] 271 fun b4 W4 n4=>?_
 have a5:=Zb hup (Za w)
 have b2:=Zr a5 n4
 have a6:=(kl.below (Za w)).below n4.below
 refine xb (.o [] 0) 0 a6 ?_
 have a1:=Zb a5 n4.below
 have hB:=blB (blB (Below.refl B w) hBw (Za w)) hBw n4.below
 refine ybi (.o [] 6) (.t B [272,271]) fun _ _ _ _ zJ zQ zo zx zy zK=>Zn (m:=1) (news:=[V0 4,V0 x]) (.agg #[V0 0,V0 0]) 2 16 (n+1) (((N++[x]).flatMap Re)) zo Tryz.underlying272 (by kernel_rfl) rfl (by decide) zx a1 zy (n4.blk.sl 1 1 (by decide) (by decide)) rfl (by simp[Value.oneCell']) (by unfold maxLen;omega) (by omega) (Nat.le_trans hBx hB.size) (by rfl) (by rw[List.flatMap_append];rfl) fun c3 c1 W5 o5 a8 c0=>?_
 refine zK _ _ (Zt (c0.mono hBm) a8 a1 (by decide)) ?_
 have a2:=a6.grown a8 a1 (by decide)
 refine ys (.o [] 7) a2 [.slice c3 (n+1) c1] (.t B [272,271]) fun W6 u6 k6=>⟨(Zx u6 a2 hBl (by decide)),?_⟩
 have b6:=u6.below (hB.trans (c0.mono hBm)) hBl
 have hO:=(((show Zd [272,271] w _ from(Zd.of_below (Za w))).trans (Zd.of_below n4.below)).trans (Zd.of_grown a8 a1 (by decide))).trans (Zd.of_upd u6 a2 (by decide))
 have a9:=u6.own2 o5 a2 (by decide)
 exact xe 1 (.tuple #[]) ⟨_,_,_,rfl,b6,hO,k6,a9⟩
theorem Ih(B Bx bs bl:Nat)(s:Sup)(p0:O0)(c0:Nat)(w:World)(hBm:B≤Bx)(hBx:Bx≤w.heap.size)(hBw:B≤w.heap.size)(hBl:B≤bl)(hb0:0≤s.blocks)(hb1:s.blocks<9223372036854775808)(ks:Blk w bs [V0 s.tx,V0 s.time,V0 s.unit,V0 s.data,V0 s.blocks,V0 s.top,V0 s.details,V0 s.dslots,V0 s.dover,V0 s.mindex,V0 s.mover] 44)(kl:Blk w bl [.slice p0 1 c0] 272)(hr0:w.ownsRow Bx 271 2 (.slice p0 1 c0) 1 ([1].flatMap Re)) :
 C0 167 #[P0 bs,.func (.func 168) #[] #[P0 bl]] w ((fun e w'=>∃ u p c,e=.returned u∧Below B w w'∧Zd [272,271] w w'∧Blk w' bl [.slice p 12 c] 272∧w'.ownsRow Bx 271 2 (.slice p 12 c) 12 ((1::Ht s).flatMap Re))):=by
 refine zin 64 Tryz.func167 ?_
 refine xc 6 (args:=#[P0 bs,V0 0,V0 2147483647,P0 bl]) (Kf B Bx bs bl 0 1 _ s.tx _ _ p0 c0 [1] _ hBm (Nat.le_trans hBx (Below.refl B _).size) (Nat.le_trans hBw (Below.refl B _).size) hBl ks rfl kl hr0 (by decide)) ?_
 rintro _ W1 ⟨u1,p1,c1,rfl,hb1,h6,f1,j7⟩
 have h4:World.ownsRow _ _ _ _ (.slice p1 2 c1) 2 ([1,s.tx].flatMap Re):=j7
 replace f1:Blk _ _ [.slice p1 2 c1] _:=f1
 have d5:=ks.only h6 (by decide)
 refine xc 8 (args:=#[.pointer (some ⟨bs,1,none⟩),V0 0,V0 16777215,P0 bl]) (Kf B Bx bs bl 1 2 _ s.time _ _ p1 c1 [1,s.tx] _ hBm (Nat.le_trans hBx hb1.size) (Nat.le_trans hBw hb1.size) hBl d5 rfl f1 h4 (by decide)) ?_
 rintro _ W2 ⟨u2,p2,c2,rfl,i6,h9,h5,j2⟩
 have h2:World.ownsRow _ _ _ _ (.slice p2 3 c2) 3 ([1,s.tx,s.time].flatMap Re):=j2
 replace h5:Blk _ _ [.slice p2 3 c2] _:=h5
 have a4:=hb1.trans i6
 have d7:=d5.only h9 (by decide)
 refine xc 8 (args:=#[.pointer (some ⟨bs,2,none⟩),V0 1,V0 65536,P0 bl]) (Kf B Bx bs bl 2 3 _ s.unit _ _ p2 c2 [1,s.tx,s.time] _ hBm (Nat.le_trans hBx a4.size) (Nat.le_trans hBw a4.size) hBl d7 rfl h5 h2 (by decide)) ?_
 rintro _ W3 ⟨u3,p3,c3,rfl,j6,i2,g5,j5⟩
 have f6:World.ownsRow _ _ _ _ (.slice p3 4 c3) 4 ([1,s.tx,s.time,s.unit].flatMap Re):=j5
 replace g5:Blk _ _ [.slice p3 4 c3] _:=g5
 have a9:=a4.trans j6
 have e3:=d7.only i2 (by decide)
 refine xc 8 (args:=#[.pointer (some ⟨bs,3,none⟩),V0 0,V0 65536,P0 bl]) (Kf B Bx bs bl 3 4 _ s.data _ _ p3 c3 [1,s.tx,s.time,s.unit] _ hBm (Nat.le_trans hBx a9.size) (Nat.le_trans hBw a9.size) hBl e3 rfl g5 f6 (by decide)) ?_
 rintro _ W4 ⟨u4,p4,c4,rfl,i3,h7,g8,j4⟩
 have f8:World.ownsRow _ _ _ _ (.slice p4 5 c4) 5 ([1,s.tx,s.time,s.unit,s.data].flatMap Re):=j4
 replace g8:Blk _ _ [.slice p4 5 c4] _:=g8
 have a7:=a9.trans i3
 have d9:=e3.only h7 (by decide)
 refine xc 8 (args:=#[.pointer (some ⟨bs,4,none⟩),V0 2,V0 14400,P0 bl]) (Kf B Bx bs bl 4 5 _ s.blocks _ _ p4 c4 [1,s.tx,s.time,s.unit,s.data] _ hBm (Nat.le_trans hBx a7.size) (Nat.le_trans hBw a7.size) hBl d9 rfl g8 f8 (by decide)) ?_
 rintro _ W5 ⟨u5,p5,c5,rfl,i4,i0,f9,i5⟩
 have f2:World.ownsRow _ _ _ _ (.slice p5 6 c5) 6 ([1,s.tx,s.time,s.unit,s.data,s.blocks].flatMap Re):=i5
 replace f9:Blk _ _ [.slice p5 6 c5] _:=f9
 refine xd 3 .z ?_
 refine xbs (.o [0,1,2,3,4,5,6,7,8,9,10,11,12,13,14,15,16,17,20] 18) 6 [.pointer (some ⟨bs,5,none⟩),.pointer (some ⟨bs,6,none⟩),.pointer (some ⟨bs,7,none⟩),.pointer (some ⟨bs,8,none⟩),.pointer (some ⟨bs,9,none⟩),.pointer (some ⟨bs,10,none⟩)] 275 fun b6 W6 n6=>?_
 have e0:=blB (a7.trans i4) hBw (Za W5)
 have g6:=n6.ge0 e0
 refine xu (.r [19] 3) 7 ?_
 refine xb 14 0 n6.blk ?_
 have b9:=((d9.only i0 (by decide)).below (Za W5)).below n6.below
 refine xb 9 4 b9 ?_
 refine xw 0 (s.blocks-1) ?_
 have b7:=blB e0 hBw n6.below
 have e1:=(f9.below (Za W5)).below n6.below
 have d1:=Zb (Zb f2 (Za W5)) n6.below
 refine xc 0 (args:=#[.pointer (some ⟨bs,5,none⟩),V0 1,V0 (s.blocks-1),P0 bl]) (Kf B Bx bs bl 5 6 _ s.top _ _ p5 c5 [1,s.tx,s.time,s.unit,s.data,s.blocks] _ hBm (Nat.le_trans hBx b7.size) (Nat.le_trans hBw b7.size) hBl b9 rfl e1 d1 (by decide)) ?_
 rintro _ W7 ⟨u7,p6,c6,rfl,i9,g9,g1,j8⟩
 have g7:World.ownsRow _ _ _ _ (.slice p6 7 c6) 7 ([1,s.tx,s.time,s.unit,s.data,s.blocks,s.top].flatMap Re):=j8
 replace g1:Blk _ _ [.slice p6 7 c6] _:=g1
 have d2:=n6.blk.only g9 (by decide)
 refine xb 22 1 d2 ?_
 have b3:=b9.only g9 (by decide)
 refine xb 9 4 b3 ?_
 refine xw 0 (s.blocks-1) ?_
 have b8:=b7.trans i9
 refine xc 0 (args:=#[.pointer (some ⟨bs,6,none⟩),V0 1,V0 (s.blocks-1),P0 bl]) (Kf B Bx bs bl 6 7 _ s.details _ _ p6 c6 [1,s.tx,s.time,s.unit,s.data,s.blocks,s.top] _ hBm (Nat.le_trans hBx b8.size) (Nat.le_trans hBw b8.size) hBl b3 rfl g1 g7 (by decide)) ?_
 rintro _ W8 ⟨u8,p7,c7,rfl,j3,e6,g3,i8⟩
 have h1:World.ownsRow _ _ _ _ (.slice p7 8 c7) 8 ([1,s.tx,s.time,s.unit,s.data,s.blocks,s.top,s.details].flatMap Re):=i8
 replace g3:Blk _ _ [.slice p7 8 c7] _:=g3
 have d4:=d2.only e6 (by decide)
 refine xb 22 2 d4 ?_
 have d0:=b3.only e6 (by decide)
 refine xb 9 4 d0 ?_
 refine xw 0 (s.blocks-1) ?_
 have b1:=b8.trans j3
 refine xc 0 (args:=#[.pointer (some ⟨bs,7,none⟩),V0 1,V0 (s.blocks-1),P0 bl]) (Kf B Bx bs bl 7 8 _ s.dslots _ _ p7 c7 [1,s.tx,s.time,s.unit,s.data,s.blocks,s.top,s.details] _ hBm (Nat.le_trans hBx b1.size) (Nat.le_trans hBw b1.size) hBl d0 rfl g3 h1 (by decide)) ?_
 rintro _ W9 ⟨u9,p8,c8,rfl,j0,e7,g2,i7⟩
 have h3:World.ownsRow _ _ _ _ (.slice p8 9 c8) 9 ([1,s.tx,s.time,s.unit,s.data,s.blocks,s.top,s.details,s.dslots].flatMap Re):=i7
 replace g2:Blk _ _ [.slice p8 9 c8] _:=g2
 have e4:=d4.only e7 (by decide)
 refine xb 22 3 e4 ?_
 have a5:=d0.only e7 (by decide)
 refine xb 9 4 a5 ?_
 refine xw 0 (s.blocks-1) ?_
 have a6:=b1.trans j0
 refine xc 0 (args:=#[.pointer (some ⟨bs,8,none⟩),V0 1,V0 (s.blocks-1),P0 bl]) (Kf B Bx bs bl 8 9 _ s.dover _ _ p8 c8 [1,s.tx,s.time,s.unit,s.data,s.blocks,s.top,s.details,s.dslots] _ hBm (Nat.le_trans hBx a6.size) (Nat.le_trans hBw a6.size) hBl a5 rfl g2 h3 (by decide)) ?_
 rintro _ k2 ⟨k3,p9,c9,rfl,f4,a8,b4,j1⟩
 have e9:World.ownsRow _ _ _ _ (.slice p9 10 c9) 10 ([1,s.tx,s.time,s.unit,s.data,s.blocks,s.top,s.details,s.dslots,s.dover].flatMap Re):=j1
 replace b4:Blk _ _ [.slice p9 10 c9] _:=b4
 have d8:=e4.only a8 (by decide)
 refine xb 22 4 d8 ?_
 have b0:=a5.only a8 (by decide)
 refine xb 9 4 b0 ?_
 refine xw 0 (s.blocks-1) ?_
 have b5:=a6.trans f4
 refine xc 0 (args:=#[.pointer (some ⟨bs,9,none⟩),V0 1,V0 (s.blocks-1),P0 bl]) (Kf B Bx bs bl 9 10 _ s.mindex _ _ p9 c9 [1,s.tx,s.time,s.unit,s.data,s.blocks,s.top,s.details,s.dslots,s.dover] _ hBm (Nat.le_trans hBx b5.size) (Nat.le_trans hBw b5.size) hBl b0 rfl b4 e9 (by decide)) ?_
 rintro _ k4 ⟨k0,e5,f7,rfl,f0,a2,a3,g0⟩
 have d3:World.ownsRow _ _ _ _ (.slice e5 11 f7) 11 ([1,s.tx,s.time,s.unit,s.data,s.blocks,s.top,s.details,s.dslots,s.dover,s.mindex].flatMap Re):=g0
 replace a3:Blk _ _ [.slice e5 11 f7] _:=a3
 have f3:=d8.only a2 (by decide)
 refine xb 22 5 f3 ?_
 have a1:=b0.only a2 (by decide)
 refine xb 9 4 a1 ?_
 refine xw 0 (s.blocks-1) ?_
 have a0:=b5.trans f0
 refine xc 0 (args:=#[.pointer (some ⟨bs,10,none⟩),V0 1,V0 (s.blocks-1),P0 bl]) (Kf B Bx bs bl 10 11 _ s.mover _ _ e5 f7 [1,s.tx,s.time,s.unit,s.data,s.blocks,s.top,s.details,s.dslots,s.dover,s.mindex] _ hBm (Nat.le_trans hBx a0.size) (Nat.le_trans hBw a0.size) hBl a1 rfl a3 d3 (by decide)) ?_
 rintro _ j9 ⟨k1,i1,h8,rfl,e8,h0,b2,f5⟩
 have e2:World.ownsRow _ _ _ _ (.slice i1 12 h8) 12 ([1,s.tx,s.time,s.unit,s.data,s.blocks,s.top,s.details,s.dslots,s.dover,s.mindex,s.mover].flatMap Re):=f5
 replace b2:Blk _ _ [.slice i1 12 h8] _:=b2
 have d6:=a0.trans e8
 have hO:=((((((((((((show Zd [272,271] w _ from h6).trans h9).trans i2).trans h7).trans i0).trans (Zd.of_below (Za W5))).trans (Zd.of_below n6.below)).trans g9).trans e6).trans e7).trans a8).trans a2).trans h0
 exact xe 19 (.tuple #[]) ⟨_,_,_,rfl,d6,hO,b2,e2⟩
theorem Zc8{N:List Int}{i:Nat}(h:i<N.length):Ve (N.take (i+1))=Ve (N.take i)++leB (N.getD i 0) 4:=by
 unfold Ve
 rw[List.take_succ_eq_append_getElem h,List.flatMap_append]
 simp[List.getD,h]
theorem Pack_4s(p:O0)(c:Nat)(N:List Int)(w:World)(hn2:N.length≤1000)(hN:∀ i,i<N.length→0≤N.getD i 0∧N.getD i 0<4294967296)(hF:Sts Re w (.slice p N.length c) N) :
 C0 169 #[.slice p N.length c] w (Qn (fun w' r=>∃ q d,r=.tuple #[.slice q (N.length*4) d,V0 0]∧w'.ownsRow w.heap.size 5 1 (.slice q (N.length*4) d) (N.length*4) ((Ve N).map bv)) w):=by
 refine zin 32 Tryz.func169 ?_
 have hB:=Below.refl w.heap.size w
 refine zl 20 32 (fun zm b0 V=>∃ (i m:Nat) (q:O0) (d:Nat),b0=[(4,.slice q m d),(7,.slice p N.length c),(8,V0 (N.length:Int)),(9,V0 (i:Int))]∧zm=N.length-((i:Int)).toNat∧B3 w V∧V.ownsRow w.heap.size 5 1 (.slice q m d) m ((Ve (N.take i)).map bv)∧i≤N.length∧m=i*4) ⟨0,0,_,_,rfl,rfl,hB,World.ownsRow_nil _ _ _ _,Nat.zero_le _,rfl⟩ ?_
 rintro _ _ W1 ⟨i,m,q,d,rfl,rfl,a0,ho,hi,hm⟩ J1 b2 r1
 refine xid 6 ((i:Int)<(N.length:Int)) (fun b5=>?_) (fun b5=>?_)
 ·refine xx 6 _ N.length i 2 (Sts.cell hF Zcs 0 (k:=i) (i:=0) (by omega) rfl).1 ?_
  refine xlv 0 (Sts.rp (k:=i) (hF.below a0) Zcs 0 (by omega) (by decide)) ?_
  refine xa 0 [V0 0,V0 0] 271 fun b3 W3 n3=>?_
  have g3:=n3.ge a0
  refine xsv 0 n3.blk [V0 4,V0 (N.getD i 0)] fun W4 u4 k4=>?_
  refine xb 6 0 k4 ?_
  refine xr 0 (args:=#[V0 4]) (Sc _) fun W5 a6=>?_
  have a2:=k4.below a6
  refine xb 10 1 a2 ?_
  refine xb 1 0 a2 ?_
  refine xr 0 (args:=#[V0 (N.getD i 0),V0 4]) (Zcb (N.getD i 0) (hN i (by omega)).1 (hN i (by omega)).2 _) fun W6 a5=>?_
  have a3:=a2.below a5
  refine xb 9 1 a3 ?_
  refine xb 1 0 a3 ?_
  refine xc 0 (args:=#[V0 (N.getD i 0),V0 4]) (Ta (N.getD i 0) (hN i (by omega)).1 _) ?_
  rintro _ W7 ⟨_,rfl,a9,h2⟩
  have b4:=(bln (bln (u4.below (bln a0 n3.below) g3) a6) a5).size
  have a1:=Ze h2 b4
  unfold Pe at a1
  rw[Zh] at a1
  obtain⟨p2,c2,rfl⟩:=(Zf a1).slice
  have a8:=Zb (Zb (Zb (u4.own2 (Zb ho n3.below) n3.blk (by decide)) a6) a5) a9
  have a4:=bln (bln (bln (u4.below (bln a0 n3.below) g3) a6) a5) a9
  refine xbi 0 fun _ _ _ _ zJ zQ zo zx zy zK=>Zn (m:=4) (news:=(leB (N.getD i 0) 4).map bv) (.int .u8 0) 1 1 (m+4) (((Ve (N.take (i+1))).map bv)) zo Tryz.underlying40 (by kernel_rfl) rfl (by decide) zx a8 zy (Zf a1) (by simp[Zh]) (Xs _) (by unfold maxLen;omega) (by omega) a4.size (by rfl) (by rw[Zc8 (by omega),List.map_append]) fun b6 b7 W8 o8 b8 b1=>?_
  refine zK _ _ ?_
  refine xwm 5 ((i:Int)+1) (↑(i+1):Int) ?_
  have a7:=a4.trans b1
  exact ze 2 (b2 _ _ _ ⟨i+1,_,_,_,rfl,rfl,a7,o8,by omega,by omega⟩ (by omega))
 refine xe 13 (.tuple #[.slice q m d,V0 0]) ?_
 obtain rfl:i=N.length:=by omega
 rw[List.take_length] at ho
 subst hm
 exact⟨_,rfl,a0,_,_,rfl,ho⟩
theorem sup_put3(s:Sup):((Vd++List.replicate 236 (0:UInt8)).map bv).take 8++(Ve (1::Ht s)).map bv++((Vd++List.replicate 236 (0:UInt8)).map bv).drop (8+48)=(Ao s).map bv:=by
 unfold Ao
 rw[List.map_append (l₁:=Vd++Ve (1::Ht s)),List.map_append (l₁:=Vd) (l₂:=Ve (1::Ht s))]
 congr 1
theorem supN_bd{s:Sup}(h:Xj s=true):∀ i,i<(1::Ht s).length→0≤(1::Ht s).getD i 0∧(1::Ht s).getD i 0<4294967296:=by
 unfold Xj at h
 simp only[Bool.and_eq_true,decide_eq_true_iff,Bool.true_and] at h
 intro i hi
 have a0:i<12:=hi
 obtain rfl|rfl|rfl|rfl|rfl|rfl|rfl|rfl|rfl|rfl|rfl|rfl:i=0∨i=1∨i=2∨i=3∨i=4∨i=5∨i=6∨i=7∨i=8∨i=9∨i=10∨i=11:=by omega
 all_goals simp[Ht,List.getD]
 all_goals omega
theorem Zao(s:Sup)(w:World)(hb0:0≤s.blocks)(hb1:s.blocks<9223372036854775808)(hr:Xj s=false) :
 C0 79 #[.agg #[V0 s.tx,V0 s.time,V0 s.unit,V0 s.data,V0 s.blocks,V0 s.top,V0 s.details,V0 s.dslots,V0 s.dover,V0 s.mindex,V0 s.mover]] w (Ret (.tuple #[S0,V0 1]) w):=by
 refine zin 28 Tryz.func79 ?_
 refine xa 2 [V0 s.tx,V0 s.time,V0 s.unit,V0 s.data,V0 s.blocks,V0 s.top,V0 s.details,V0 s.dslots,V0 s.dover,V0 s.mindex,V0 s.mover] 44 fun b1 W1 n1=>?_
 refine xlv 7 n1.blk.rp ?_
 refine xr 0 (args:=#[.agg #[V0 s.tx,V0 s.time,V0 s.unit,V0 s.data,V0 s.blocks,V0 s.top,V0 s.details,V0 s.dslots,V0 s.dover,V0 s.mindex,V0 s.mover]]) (Ah s _ hb0 hb1) fun W2 a0=>?_
 refine xk 3 (show(!(Xj s):Bool)=true from by rw[hr];rfl) ?_
 have hB:=bln n1.below a0
 exact xe 8 (.tuple #[S0,V0 1]) ⟨rfl,hB⟩
theorem Zfr(s:Sup)(w:World)(hb0:0≤s.blocks)(hb1:s.blocks<9223372036854775808)(hr:Xj s=true) :
 C0 79 #[.agg #[V0 s.tx,V0 s.time,V0 s.unit,V0 s.data,V0 s.blocks,V0 s.top,V0 s.details,V0 s.dslots,V0 s.dover,V0 s.mindex,V0 s.mover]] w (Qn (fun w' r=>∃ p c,r=.tuple #[.slice p 244 c,V0 0]∧w'.ownsRow w.heap.size 5 1 (.slice p 244 c) 244 ((Ao s).map bv)) w):=by
 have hN:=supN_bd hr
 refine zin 28 Tryz.func79 ?_
 refine xa 2 [V0 s.tx,V0 s.time,V0 s.unit,V0 s.data,V0 s.blocks,V0 s.top,V0 s.details,V0 s.dslots,V0 s.dover,V0 s.mindex,V0 s.mover] 44 fun b1 W1 n1=>?_
 refine xlv 7 n1.blk.rp ?_
 refine xr 0 (args:=#[.agg #[V0 s.tx,V0 s.time,V0 s.unit,V0 s.data,V0 s.blocks,V0 s.top,V0 s.details,V0 s.dslots,V0 s.dover,V0 s.mindex,V0 s.mover]]) (Ah s _ hb0 hb1) fun W2 a3=>?_
 refine xk 3 (show(!(Xj s):Bool)=false from by rw[hr];rfl) ?_
 refine xbs 5 1 [V0 4,V0 1] 271 fun b3 W3 n3=>?_
 refine xa 0 [S0] 272 fun b4 W4 n4=>?_
 refine xs 0 n4.blk [.slice (S1 b3) 1 1] fun W5 u5 k5=>?_
 have g4:=n4.ge (bln (bln n1.below a3) n3.below)
 have k3:=u5.blkT (n3.blk.below n4.below) n4.blk (by decide)
 have g3:=n3.ge (bln n1.below a3)
 have b5:World.ownsRow W5 w.heap.size 271 2 (.slice (S1 b3) 1 1) 1 (([1]:List Int).flatMap Re):=Zw (size:=2) (n:=1) k3 g3 rfl (by decide)
 have hB:=u5.below (bln (bln (bln n1.below a3) n3.below) n4.below) g4
 have b6:=u5.blkT (((n1.blk.below a3).below n3.below).below n4.below) n4.blk (by decide)
 refine xc 5 (args:=#[P0 b1,.func (.func 168) #[] #[P0 b4]]) (Ih w.heap.size w.heap.size b1 b4 s _ 1 _ (Nat.le_refl _) hB.size hB.size g4 hb0 hb1 b6 k5 b5) ?_
 rintro _ W6 ⟨u6,b7,c0,rfl,b8,d1,c8,a5⟩
 refine xb 4 0 c8 ?_
 refine xc 0 (args:=#[.slice b7 12 c0]) (Pack_4s b7 c0 (1::Ht s) _ (show 12≤1000 by decide) hN (Zf a5)) ?_
 rintro _ W7 ⟨_,rfl,c9,q2,d2,rfl,h2⟩
 have c5:=(hB.trans b8).size
 have a6:=Ze h2 c5
 replace h2:World.ownsRow _ _ _ _ (.slice q2 48 d2) 48 ((Ve (1::Ht s)).map bv):=a6
 have a9:=bln (hB.trans b8) c9
 have c1:=a9
 refine xmk 9 fun _ _ _ _ zJ zQ zo zx zy zK=>Kn 244 (.int .u8 0) 1 1 ((List.replicate 244 (0:UInt8)).map bv) zo zx zy Tryz.underlying40 (by kernel_rfl) rfl (by omega) (by omega) (Dr 244) fun b9 W9 n9=>?_
 refine zK _ _ ?_
 have o9:=Zw (size:=1) (n:=244) n9.blk (n9.ge (B4 W7)) (by rw[List.length_map,List.length_replicate]) (by unfold maxLen;omega)
 refine xbi 7 (t2:=9) fun _ _ _ _ zJ zQ zo zx zy zK=>Zcp (dLen:=244) (dCap:=244) (off:=0) ([83,67,65,78,84,76,73,78]) (((Vd++List.replicate 236 (0:UInt8)).map bv)) zo Tryz.underlying40 (by kernel_rfl) zx zy o9 (by decide) (by decide) n9.below.size (by rfl) fun d0 c2 c4 b0=>?_
 refine zK _ _ ?_
 have a0:=Zf h2
 have a1:=n9.below.trans b0
 refine xbi 2 (t2:=40) fun _ _ _ _ zJ zQ zo zx zy zK=>Uw (dLen:=236) (dCap:=236) (off:=8) 48 ((Ve (1::Ht s)).map bv) (((Ao s).map bv)) zo Tryz.underlying40 (by kernel_rfl) zx zy (a0.below a1) c2 (by rw[List.length_map,Ag];rfl) (by decide) (by decide) (Xs _) a1.size (sup_put3 s) fun c3 c7 c6 a7=>?_
 refine zK _ _ ?_
 have b2:=a1.trans a7
 have a8:B3 W7 c3:=b2
 have a4:w.heap.size≤W7.heap.size:=c1.size
 have hB:=bln c1 a8
 have a2:=Ze c7 a4
 exact xe 10 (.tuple #[.slice (S1 b9) 244 244,V0 0]) ⟨_,rfl,hB,_,_,rfl,a2⟩
theorem sup_PutP(s:Sup)(w:World)(hb:0≤s.blocks∧s.blocks<9223372036854775808):C0 79 #[.agg #[V0 s.tx,V0 s.time,V0 s.unit,V0 s.data,V0 s.blocks,V0 s.top,V0 s.details,V0 s.dslots,V0 s.dover,V0 s.mindex,V0 s.mover]] w (fun e w' =>
 (Xj s=false∧e=.returned (.tuple #[S0,V0 1])∧B3 w w') ∨
 (Xj s=true∧∃ p c,e=.returned (.tuple #[.slice p 244 c,V0 0])∧B3 w w'∧w'.ownsRow w.heap.size 5 1 (.slice p 244 c) 244 ((Ao s).map bv))):=by
 cases hr:Xj s with
 | false =>
  refine(Zao s w hb.1 hb.2 hr).mono ?_
  rintro e W ⟨rfl,h⟩
  exact .inl ⟨rfl,rfl,h⟩
 | true =>
  refine(Zfr s w hb.1 hb.2 hr).mono ?_
  rintro e W ⟨_,rfl,h,p,c,rfl,ho⟩
  exact .inr ⟨rfl,p,c,rfl,h,ho⟩
theorem Zdo(B ba b g nn cc:Nat)(pa:O0)(ca f N k0:Nat)(bs:Bl)(bl B2:Nat)(pl:O0)(cl:Nat)(gs:List (Nat×Nat))(L:List (List Int))(n:Nat)(hn:L.length=n)(w:World)(hC:AlC B ba nn cc ca f N)(hA:Al B ba b g nn cc pa ca f N k0 bs w)(hL:Lists w B2 (.slice pl n cl) gs L)(hS:∀ i,i<L.length→Hq (L.getD i [])∧(L.getD i []).length≤960)(hf1:1≤f)(hk:k0+n≤N)(kl:Blk w bl [S0] 266)(hBl:B≤bl)(hBw:B≤w.heap.size) :
 C0 151 #[P0 ba,.slice pl n cl,.func (.func 162) #[] #[P0 bl]] w (fun e w'=>∃ p c,e=.returned .nilIface∧Below B w w'∧Zd [153,5,266,252] w w'∧Fr ([ba,g]++[bl]) w w'∧Al B ba b g nn cc pa ca f N (k0+n) (Kl L (f+k0) bs n) w'∧Blk w' bl [.slice p n c] 266∧w'.ownsRow w.heap.size 252 3 (.slice p n c) n (rsL L (f+k0) n)):=by
 subst hn;exact Zhb B ba b g nn cc pa ca f N k0 bs bl B2 pl cl gs L w hC hA hL hS hf1 hk kl hBl hBw
def MetaP(B ba b g nn cc:Nat)(pa:O0)(ca f N k0:Nat)(bs:Bl)(l:List Int)(w:World)(e:Ending)(w':World):Prop :=
 e=.returned (.tuple #[V0 (Ca l f k0 bs).1,V0 (Ca l f k0 bs).2.1,.nilIface])∧Below B w w'∧Zd [153,5,266,252,29] w w'∧Fr [ba,g] w w'∧Al B ba b g nn cc pa ca f N (k0+Xo l) (Ca l f k0 bs).2.2 w'
theorem Mv(B ba b g nn cc:Nat)(pa:O0)(ca f N k0:Nat)(bs:Bl)(a:Addr)(c:Nat)(l:List Int)(w:World)(hC:AlC B ba nn cc ca f N)(hA:Al B ba b g nn cc pa ca f N k0 bs w)(h:Sl w (.slice (some a) l.length c) l.length (l.map V0))(hl:l.length≤3000)(hlen:l.length=nn/256)(hs:Yu l=0)(hkN:k0≤N)(hk:k0+Xo l≤N)(hf1:1≤f)(hfree2:Zb7 l ((f+k0:Nat):Int))(hBw:B≤w.heap.size) :
 C0 77 #[P0 ba,.slice (some a) l.length c] w (MetaP B ba b g nn cc pa ca f N k0 bs l w):=by
 have hW:Sin w w:=⟨Below.refl _ _⟩
 have k3:=hC.hf
 have j7:=hC.hn
 have g7:=Gk hs
 have k1:=Ju l l.length
 have i7:Xo l=(Zy 5 (Zm l l.length).length)+(bmN l.length)+1:=rfl
 have i9:=Yv 5 (Zm l l.length).length
 have j1:bmN l.length≤4:=by unfold bmN;omega
 have i2:Yu (Ym l (f+k0) (Xo l))=0:=by unfold Yu;rw[if_neg (by rw[Qe];omega),if_pos (Cq hfree2 g7.2)]
 have g8:=Bs (Cq (n:=Xo l) hfree2 g7.2) (bmN l.length)
 refine zin 120 Tryz.func77 ?_
 refine xr 10 (args:=#[P0 ba]) (Qb ba b _ _ _ (hA.below hW.b).blkA) fun W1 b5=>?_
 have c6:=hW.below b5
 refine xr 19 (args:=#[P0 b]) (Ys b _ nn cc _ (hA.below c6.b).blkI (by omega)) fun W2 b0=>?_
 refine xk 3 (show(((l.length:Int) != (↑(nn/256):Int)):Bool)=false from by rw[hlen];simp) ?_
 have c5:=c6.below b0
 refine xc 5 (args:=#[.slice (some a) l.length c]) (Bh l.length (some a) c l _ rfl (Sl.below h c5.b) (by omega) hs) ?_
 rintro _ W3 ⟨k6,j5,k7,po,co,rfl,c0,j8,e0⟩
 have i1:=(blB (blB (Below.refl B w) hBw b5) hBw b0).size
 refine xr 23 (args:=#[V0 5,V0 (↑((Zm l l.length).length):Int)]) (Qj 5 (Zm l l.length).length _ (by decide) (by decide) (by omega)) fun W4 a5=>?_
 refine xr 2 (args:=#[V0 (l.length:Int)]) (Bc l.length _ (by omega)) fun W5 a6=>?_
 refine xwm 0 ((↑(Zy 5 (Zm l l.length).length):Int)+(↑(bmN l.length):Int)) (↑((Zy 5 (Zm l l.length).length)+(bmN l.length)):Int) ?_
 refine xwm 0 ((↑((Zy 5 (Zm l l.length).length)+(bmN l.length)):Int)+1) (↑(((Zy 5 (Zm l l.length).length)+(bmN l.length))+1):Int) ?_
 have d6:=((c5.below c0).below a5).below a6
 refine xr 7 (args:=#[P0 ba]) (Lm ba b pa N ca k0 _ (hA.below d6.b).blkA hkN) fun W6 b4=>?_
 refine xk 4 (show(decide ((↑(N-k0):Int)<(↑(((Zy 5 (Zm l l.length).length)+(bmN l.length))+1):Int)):Bool)=false from decide_eq_false (by omega)) ?_
 have b3:=d6.below b4
 have i0:=b3.b.size
 refine xc 5 (args:=#[.slice (some a) l.length c]) (Mq a l.length c (l.map V0) _ (Sl.below h b3.b) (by simp) (Co _) (by omega)) ?_
 rintro _ W7 ⟨_,rfl,b8,qb,cq,rfl,f1⟩
 have j0:=(blB (blB (blB (blB (blB (blB (Below.refl B w) hBw b5) hBw b0) hBw c0) hBw a5) hBw a6) hBw b4).size
 have a0:=Ze f1 i0
 have b1:=b3.below b8
 have h3:=b1.b.size
 have e4:=a0
 refine xc 8 (args:=#[P0 ba,V0 (↑(((Zy 5 (Zm l l.length).length)+(bmN l.length))+1):Int)]) (Aj (Xo l) B ba b g nn cc pa ca f N k0 bs _ hC (hA.below b1.b) hkN (by omega) (by omega) (by omega)) ?_
 rintro _ W8 ⟨_,rfl,b9,qa,h1,rfl,d1⟩
 have j4:=(blB (blB (blB (blB (blB (blB (blB (Below.refl B w) hBw b5) hBw b0) hBw c0) hBw a5) hBw a6) hBw b4) hBw b8).size
 have h5:=Ko.of_lt e4 d1 (Nat.le_refl _)
 have d7:=Ze d1 h3
 have a3:=Zb a0 b9
 obtain⟨gb,rfl,j3⟩:=Qf a3 (by omega)
 have d3:=Zb (Zb (Zb (Zb (Zb (Ze e0 i1) a5) a6) b4) b8) b9
 have e8:=b1.below b9
 have hB:=blB (blB (blB (blB (blB (blB (blB (blB (Below.refl B w) hBw b5) hBw b0) hBw c0) hBw a5) hBw a6) hBw b4) hBw b8) hBw b9
 have hX:=(((((((show Fr [ba,g] w _ from(Fr.of_below b5)).trans (Fr.of_below b0)).trans (Fr.of_below c0)).trans (Fr.of_below a5)).trans (Fr.of_below a6)).trans (Fr.of_below b4)).trans (Fr.of_below b8)).trans (Fr.of_below b9)
 have hO:=(((((((show Zd [153,5,266,252,29] w _ from(Zd.of_below b5)).trans (Zd.of_below b0)).trans (Zd.of_below c0)).trans (Zd.of_below a5)).trans (Zd.of_below a6)).trans (Zd.of_below b4)).trans (Zd.of_below b8)).trans (Zd.of_below b9)
 refine zl 5 120 (fun zm h4 V=>∃ (i:Nat),h4=[(0,P0 ba),(4,V0 0),(5,V0 0),(6,.nilIface),(9,.slice po ((Zm l l.length).length) co),(10,V0 0),(12,.slice (S1 gb) l.length cq),(61,.slice qa (Xo l) h1),(62,V0 (↑(Xo l):Int)),(63,V0 (i:Int))]∧zm=Xo l-((i:Int)).toNat∧Below B w V∧Fr [ba,g] w V∧Zd [153,5,266,252,29] w V∧V.ownsRow w.heap.size 3 1 (.slice (S1 gb) l.length cq) l.length ((Ym l (f+k0) i).map V0)∧V.ownsRow w.heap.size 3 1 (.slice qa (Xo l) h1) (Xo l) ((((Qs f N).drop k0).take (Xo l)).map V0)∧V.ownsRow w.heap.size 123 3 (.slice po ((Zm l l.length).length) co) ((Zm l l.length).length) ((Zm l l.length).flatMap Yj)∧Sin w V∧i≤Xo l) ⟨0,rfl,rfl,hB,hX,hO,(by rw[Rg];exact a3),d7,d3,e8,Nat.zero_le _⟩ ?_
 rintro _ _ W9 ⟨i,rfl,rfl,b2,d8,d0,a0,d7,e0,hW,hi⟩ J9 i3 r9
 have i5:i<Xo l→l.getD (f+k0+i) 0=0:=fun q=>(hfree2 (f+k0+i) (by omega)).1 (by omega)
 refine xid 6 ((i:Int)<(↑(Xo l):Int)) (fun g5=>?_) (fun g5=>?_)
 ·refine xx 6 _ (Xo l) i 1 (Wx (Zf d7) (by omega) (i:=i) (by omega)).1 ?_
  refine xl 0 ((Wx (Zf d7) (by omega) (i:=i) (by omega)).2) ?_
  refine xx 6 _ l.length (f+k0+i) 1 (Gh (Zf a0) rfl (q:=f+k0) (i:=i) (by omega)).1 ?_
  refine xl 0 ((Gh (Zf a0) rfl (q:=f+k0) (i:=i) (by omega)).2) ?_
  refine xw 0 ((l.getD (f+k0+i) 0)+1) ?_
  refine xx 0 _ l.length (f+k0+i) 1 (Gh (Zf a0) rfl (q:=f+k0) (i:=i) (by omega)).1 ?_
  refine xst 0 fun _ _ _ _ zJ zQ zo zx zy zK=>Xz (t:=3) (k:=(f+k0+i)) (v:=V0 ((l.getD (f+k0+i) 0)+1)) zo zx zy (by kernel_rfl) rfl a0 (by omega) fun k4 b7 g9=>?_
  rw[Ot (l:=l) (f:=f+k0) (j:=i) (by omega)] at g9
  refine zK _ _ ?_
  refine xwm 4 ((i:Int)+1) (↑(i+1):Int) ?_
  have f0:=b7.below b2 (Nat.le_trans hBw (Vz a0))
  have g3:=(Fr.upd_new d8 b7 (Vz a0))
  have g1:=(Zd.upd_new d0 b7 (Vz a0))
  have c3:=b7.own3 d7 (fun j hj e=>h5 _ rfl (e▸hj))
  have c4:=b7.ownRow e0 a0 (by decide)
  have g2:=hW.upd b7 (Vz a0)
  exact ze 2 (i3 _ _ _ ⟨i+1,rfl,rfl,f0,g3,g1,g9,c3,c4,g2,by omega⟩ (by omega))
 refine xc 9 (args:=#[P0 ba,V0 5,.slice po ((Zm l l.length).length) co]) (Ui B ba b g nn cc pa ca f N k0 bs 5 po co (Zm l l.length) (Zm l l.length).length _ rfl hC (hA.below hW.b) (by decide) (by decide) (Mh _ _ (by omega)) (by omega) hf1 (by omega) (by omega) (fun W _ h2=>Zf (Zi e0 h2 (by decide))) (Nat.le_trans hBw b2.size)) ?_
 rintro _ i6 ⟨rfl,e6,d4,e5,b6⟩
 have d5:=Zi a0 d4 (by decide)
 refine xc 20 (args:=#[.slice (S1 gb) l.length cq]) (Bh l.length (S1 gb) cq (Ym l (f+k0) (Xo l)) _ (Qe _ _ _) (by have hh:=Zf d5;rw[show i=Xo l by omega] at hh;exact hh) (by omega) i2) ?_
 rintro _ i4 ⟨pb,cb,gs,k2,i8,rfl,a1,hL,h8⟩
 refine xa 21 [S0] 266 fun h0 j9 a4=>?_
 have a9:=blB (b2.trans e6) hBw a1
 have g6:=a4.ge0 a9
 have c7:=(b6.below a1).below a4.below
 have f2:=hL.below a4.below
 have a8:=blB a9 hBw a4.below
 refine xc 8 (args:=#[P0 ba,.slice pb (bmN l.length) cb,.func (.func 162) #[] #[P0 h0]]) (Zdo B ba b g nn cc pa ca f N (k0+(Zy 5 (Zm l l.length).length)) (Yo 5 (Zm l l.length) (f+k0) bs).2 h0 _ pb cb gs (Zl (Zg (Ym l (f+k0) (Xo l))) (bmN l.length)) (bmN l.length) (Xk _ _) _ hC c7 f2 g8 hf1 (by omega) a4.blk (Nat.le_trans hBw g6) (Nat.le_trans hBw a8.size)) ?_
 rintro _ k5 ⟨p8,c8,rfl,c9,f9,e9,b6,h9,h6⟩
 have e7:=(blB a9 hBw a4.below).size
 refine xb 14 0 h9 ?_
 have d9:=Ze h6 e7
 refine xc 0 (args:=#[.slice p8 (bmN l.length) c8]) (Zew (bmN l.length) p8 c8 (Rs (Zl (Zg (Ym l (f+k0) (Xo l))) (bmN l.length)) (f+(k0+(Zy 5 (Zm l l.length).length))) (bmN l.length)) _ (Wh _ _ _) (rs_ok g8 (Xk _ _) (by omega) (by omega) (by omega)) (Zb6 (Zf d9))) ?_
 rintro _ j6 ⟨_,rfl,a2,pz,cz,rfl,h7⟩
 have f4:=(a8.trans c9).size
 have c2:=b6.below a2
 have a7:=((((d0.trans (d4.wide)).trans (Zd.of_below a1)).trans (Zd.of_below a4.below)).trans (f9.wide)).trans (Zd.of_below a2)
 have c1:=Ze h7 f4
 have d2:=blB (a8.trans c9) hBw a2
 refine xc 21 (args:=#[P0 ba,V0 4,.slice pz 244 cz]) (Wu B ba b g nn cc pa ca f N (k0+(Zy 5 (Zm l l.length).length)+(bmN l.length)) (Kl (Zl (Zg (Ym l (f+k0) (Xo l))) (bmN l.length)) (f+(k0+(Zy 5 (Zm l l.length).length))) (Yo 5 (Zm l l.length) (f+k0) bs).2 (bmN l.length)) 4 pz cz (Rk (Rs (Zl (Zg (Ym l (f+k0) (Xo l))) (bmN l.length)) (f+(k0+(Zy 5 (Zm l l.length).length))) (bmN l.length))) (f+(k0+(Zy 5 (Zm l l.length).length)+(bmN l.length))) 244 _ rfl (Cf (by rw[Wh];omega)) hC c2 (by omega) (by decide) (by decide) (fun W _ a7=>Xp (Zf (Zi c1 a7 (by decide))) (Cf (by rw[Wh];omega))) (by decide) (Nat.le_trans hBw d2.size)) ?_
 rintro _ j2 ⟨rfl,f6,f5,f3,b6⟩
 have f8:=d2.trans f6
 have f7:=a7.trans (f5.wide)
 have g0:=((Fr.trans_new (((d8.trans (e5.mono (by simp))).trans (Fr.of_below a1)).trans (Fr.of_below a4.below)) e9 g6).trans (Fr.of_below a2)).trans (f3.mono (by simp))
 refine xe 27 (.tuple #[V0 (↑(f+(k0+(Zy 5 (Zm l l.length).length)+(bmN l.length))):Int),V0 ((Yo 5 (Zm l l.length) (f+k0) bs).1),.nilIface]) ?_
 have e1:f+(k0+(Zy 5 (Zm l l.length).length)+(bmN l.length))=f+k0+(Zy 5 (Zm l l.length).length)+(bmN l.length):=by omega
 have e2:f+(k0+(Zy 5 (Zm l l.length).length))=f+k0+(Zy 5 (Zm l l.length).length):=by omega
 rw[e1,e2] at b6
 rw[e1]
 have e3:k0+(Zy 5 (Zm l l.length).length)+(bmN l.length)+1=k0+Xo l:=by omega
 rw[e3] at b6
 refine⟨?_,f8,f7,g0,?_⟩
 ·unfold Ca;rw[Cu]
 ·unfold Ca;rw[Cu];exact b6
theorem Cr{Z:List Zv}{L:List Dv}(hL:Z.map Prod.fst=L){i:Nat}(h:i<Z.length):L.getD i dvD=(Z.getD i zvD).1:=by rw[←hL];exact zfst h _
theorem F1_le(L:List Dv):Xc (Jd L)+1≤Xc (F1 L)∧Xc (F1 L)+1≤Xc (F2 L):=by
 have e1:Xc (F1 L)=Xc (Jd L)+By (1,Uj L (Ql L)):=Ka _ _
 have e2:Xc (F2 L)=Xc (F1 L)+By (3,Ud L (Kc L)):=Ka _ _
 have:=Wo (1,Uj L (Ql L))
 have:=Wo (3,Ud L (Kc L))
 omega
theorem Py(B ba b g nn cc:Nat)(pa:O0)(ca N:Nat)(bs:Bl)(p:O0)(c n:Nat)(data:Int)(Z:List Zv)(L:List Dv)(w:World)(hZ:Z.length=n)(hL:Z.map Prod.fst=L)(hD:DevsOk data L)(hd:data≤65536)(hP:∀ W,Below B w W→DevsR W p c Z)(hC:AlC B ba nn cc ca 1 N)(hA:AlF B ba b g nn cc pa ca N bs [] w)(hr:Xc (F2 L)≤N)(hBw:B≤w.heap.size) :
 C0 74 #[.agg #[P0 ba],.slice p n c] w ((fun e w'=>e=.returned (.tuple #[V0 (↑(Xc (F1 L)):Int),V0 (↑(Xc (F2 L)):Int)])∧Below B w w'∧Zd [153,5,29,123] w w'∧AlF B ba b g nn cc pa ca N bs (F2 L) w')):=by
 have i0:∀ W,Below B w W→Zd [153,5,29,123] w W→DevsR W p c Z:=fun W h _=>hP W h
 have l0:L.length=n:=by rw[←hL,List.length_map];exact hZ
 have k6:=F1_le L
 have j9:=hD.few
 have l2:N≤14400:=by have a:=hC.hf;have b:=hC.hn;omega
 have k0:=Sl.len ((hP w (Below.refl _ _)).rowN hZ)
 refine zin 58 Tryz.func74 ?_
 refine xa 2 [P0 ba] 79 fun b1 W1 n1=>?_
 have g3:=hA.below n1.below
 have hB:=blB (Below.refl B w) hBw n1.below
 have hO:=(show Zd [153,5,29,123] w _ from(Zd.of_below n1.below))
 refine zl 19 58 (fun zm i5 V=>∃ (i:Nat) (p7:O0) (c7:Nat) (p8:O0) (c8:Nat),i5=[(2,P0 b1),(4,V0 0),(5,V0 0),(6,.slice p7 i c7),(7,.slice p8 i c8),(13,.slice p n c),(14,V0 (n:Int)),(15,V0 (i:Int))]∧zm=n-((i:Int)).toNat∧Below B w V∧Zd [153,5,29,123] w V∧Blk V b1 ([P0 ba]) 79∧V.ownsRow w.heap.size 123 3 (.slice p7 i c7) i (((Uj L (Ql L)).take i).flatMap Yj)∧V.ownsRow w.heap.size 123 3 (.slice p8 i c8) i (((Ud L (Kc L)).take i).flatMap Yj)∧AlF B ba b g nn cc pa ca N bs (Jd (L.take i)) V∧i≤n∧Ko (.slice p7 i c7) (.slice p8 i c8)) ⟨0,none,0,none,0,rfl,rfl,hB,hO,n1.blk,World.ownsRow_nil _ _ _ _,World.ownsRow_nil _ _ _ _,g3,Nat.zero_le _,Ko.nil _⟩ ?_
 rintro _ _ W2 ⟨i,p7,c7,p8,c8,rfl,rfl,a6,d4,a8,d1,d5,hA,hi,d3⟩ J2 i7 r2
 refine xid 6 ((i:Int)<(n:Int)) (fun j6=>?_) (fun j6=>?_)
 ·have e0:=Cr hL (i:=i) (by omega)
  have i3:=Ph (L:=L) (i:=i) (by omega)
  rw[e0] at i3
  have i4:=hD.sum
  have e7:=(hD.each (L.getD i dvD) (Nu _ (by omega))).maps
  have f8:=hD.each (L.getD i dvD) (Nu _ (by omega))
  rw[e0] at e7 f8
  have i1:Jd (L.take i)++[(2,Hp (Z.getD i zvD).1.2)]=Jd (L.take (i+1)):=by rw[Et (by omega),e0]
  have j0:Ns (2,Hp (Z.getD i zvD).1.2):=by rw[←e0];exact Fx hD (by omega)
  have l1:=Dz (L:=L) (i:=i) (by omega)
  have k4:=Wn (L:=L) (i+1)
  refine xx 6 _ n i 5 ((hP _ (Below.refl _ _)).someN hZ (i:=i) (by omega)) ?_
  refine xlv 0 (Sts.rp (k:=i) (i0 _ a6 d4).row Ye zvD (by omega) (by decide)) ?_
  refine xa 0 [V0 0,V0 0,V0 0,V0 0,S0] 61 fun b4 W4 n4=>?_
  have g4:=n4.ge0 a6
  refine xsv 0 n4.blk [V0 ((Z.getD i zvD).1.1.1),V0 ((Z.getD i zvD).1.1.2.1),V0 ((Z.getD i zvD).1.1.2.2.1),V0 ((Z.getD i zvD).1.1.2.2.2),.slice ((Z.getD i zvD).2.1) ((Z.getD i zvD).1.2.length) ((Z.getD i zvD).2.2)] fun W5 u5 k5=>?_
  refine xd 3 (.t B [153,5,29,123]) ?_
  have a3:=(u5.blkT (a8.below n4.below) n4.blk (by decide)).below (Za W5)
  refine xlvt (.e [] 0) (.t B [153,5,29,123]) (fun V hV=>(a3.only hV.2 (by decide)).rp) ?_
  have e4:=k5.below (Za W5)
  refine xbt (.e [1] 2) 4 B [153,5,29,123] e4 ?_
  have f7:=(Zd.upd_new (d4.trans (Zd.of_below n4.below)) u5 g4).trans (Zd.of_below (Za W5))
  have e2:=blB (u5.below (blB a6 hBw n4.below) (Nat.le_trans hBw g4)) hBw (Za W5)
  refine yc (.o [] 3) (args:=#[.slice ((Z.getD i zvD).2.1) ((Z.getD i zvD).1.2.length) ((Z.getD i zvD).2.2)]) (.t B [153,5,29,123]) (lay_maps (Z.getD i zvD).2.1 (Z.getD i zvD).2.2 data (Z.getD i zvD).1.2 _ ((i0 _ e2 f7).each i (by omega)) e7 hd (by omega)) ?_
  rintro _ W6 ⟨_,rfl,c5,ql,dl,rfl,i9⟩
  have j4:=(blB (u5.below (blB a6 hBw n4.below) (Nat.le_trans hBw g4)) hBw (Za W5)).size
  refine⟨(SF.of_below _ c5),?_⟩
  have c6:=Ze i9 j4
  have h1:=(((hA.below n4.below).only (Zd.of_upd (T:=[61]) u5 n4.blk (by decide)) (by decide)).below (Za W5)).below c5
  have e6:=blB e2 hBw c5
  refine yc (.o [] 4) (args:=#[.agg #[P0 ba],V0 2,.slice ql ((Z.getD i zvD).1.2.length) dl]) (.t B [153,5,29,123]) (by have q:=Tu B ba b g nn cc pa ca N bs (Jd (L.take i)) 2 ql dl (Z.getD i zvD).1.2.length (Hp (Z.getD i zvD).1.2) _ (by rw[Qr]) hC h1 (j0) (by rw[i1];have:=Wn (L:=L) (i+1);omega) (fun W _ h2=>Zf (Zi c6 h2 (by decide))) (Nat.le_trans hBw e6.size);rw[i1] at q;exact q) ?_
  rintro _ W7 ⟨rfl,h9,d8,hA⟩
  refine⟨(Ki h9 d8),?_⟩
  refine xd (.r [5] 3) (.t B [123]) ?_
  have f1:=((e4.below c5).only d8 (by decide)).below (Za W7)
  refine xbt (.e [0,1] 2) 0 B [123] f1 ?_
  refine xr (.o [3] 4) (args:=#[V0 (↑(Xc (Jd (L.take (i+1)))):Int)]) (Fw (↑(Xc (Jd (L.take (i+1)))):Int) (by omega) (by omega) _) fun W8 c9=>?_
  refine xbs (.o [5] 6) 1 [V0 ((Z.getD i zvD).1.1.1),.string ⟨(leB (↑(Xc (Jd (L.take (i+1)))):Int) 4).toArray⟩,V0 0] 123 fun b9 W9 n9=>?_
  have e5:=blB (blB (e6.trans h9) hBw (Za W7)) hBw c9
  have g9:=n9.ge0 e5
  have a9:=Zb (Zb (Zi (Zb (Zb (u5.own2 (Zb d1 n4.below) n4.blk (by decide)) (Za W5)) c5) d8 (by decide)) (Za W7)) c9
  have g2:=Zr a9 n9
  have b2:=Zb (Zb (Zi (Zb (Zb (u5.own2 (Zb d5 n4.below) n4.blk (by decide)) (Za W5)) c5) d8 (by decide)) (Za W7)) c9
  have g0:=Zr b2 n9
  have f0:=Zb (Zb (Zi c6 d8 (by decide)) (Za W7)) c9
  have g7:=Zr f0 n9
  have a0:=Zb a9 n9.below
  have f6:=blB e5 hBw n9.below
  refine ybi (.o [] 7) (.t B [123]) fun _ _ _ _ zJ zQ zo zx zy zK=>Qh (b:=b9) (c:=1) (m:=1) (news:=[V0 ((Z.getD i zvD).1.1.1),.string ⟨(leB (↑(Xc (Jd (L.take (i+1)))):Int) 4).toArray⟩,V0 0]) (.agg #[V0 0,.string ⟨#[]⟩,V0 0]) 3 32 (i+1) ((((Uj L (Ql L)).take (i+1)).flatMap Yj)) zo Tryz.underlying88 (by kernel_rfl) rfl (by decide) zx a0 zy n9.blk rfl (by simp[Value.oneCell']) (by unfold maxLen;omega) (by omega) f6.size (by rfl) (by have e:=Jv (L:=L) (R:=Ql L) (i:=i) (by omega);rw[e0] at e;exact Wf (by rw[Yp];omega) e) fun j7 j3 k7 j1 a4 e3 h6=>?_
  have b3:=Zb b2 n9.below
  have a7:=d3.row b3 a4
  replace d3:=(d3.grow b3 h6)
  have c1:=a7
  refine zK _ _ (Zt (e3.mono hBw) a4 a0 (by decide)) ?_
  have b6:=((f1.below c9).below n9.below).grown a4 a0 (by decide)
  refine xb (.r [8] 5) 4 b6 ?_
  refine xb 2 1 b6 ?_
  refine xb 1 2 b6 ?_
  refine xb 1 3 b6 ?_
  refine xa 1 [V0 0,V0 0,V0 0,V0 0] 202 fun k8 l5 a2=>?_
  have f4:=f6.trans (e3.mono hBw)
  have i2:=a2.ge0 f4
  refine xsv 0 a2.blk [V0 (↑((Z.getD i zvD).1.2.length):Int),V0 ((Z.getD i zvD).1.1.2.1),V0 ((Z.getD i zvD).1.1.2.2.1),V0 ((Z.getD i zvD).1.1.2.2.2)] fun c4 d2 i6=>?_
  refine xd 2 (.t B [123]) ?_
  have h8:=(d2.blkT (b6.below a2.below) a2.blk (by decide)).below (Za c4)
  refine xbt (.e [0,1] 2) 0 B [123] h8 ?_
  have f9:=i6.below (Za c4)
  refine xlvt (.e [] 3) (.t B [123]) (fun V hV=>(f9.only hV.2 (by decide)).rp) ?_
  refine xr (.o [] 4) (args:=#[.agg #[V0 (↑((Z.getD i zvD).1.2.length):Int),V0 ((Z.getD i zvD).1.1.2.1),V0 ((Z.getD i zvD).1.1.2.2.1),V0 ((Z.getD i zvD).1.1.2.2.2)]]) (Sx data (↑(Z.getD i zvD).1.2.length:Int) (Z.getD i zvD).1 _ f8 ⟨by omega,by omega⟩) fun k1 a5=>?_
  refine xbs (.o [5] 6) 1 [V0 ((Z.getD i zvD).1.1.1),.string ⟨(Kx (↑(Z.getD i zvD).1.2.length:Int) (Z.getD i zvD).1).toArray⟩,V0 0] 123 fun j5 l4 b7=>?_
  have f5:=blB (blB (d2.below (blB f4 hBw a2.below) (Nat.le_trans hBw i2)) hBw (Za c4)) hBw a5
  have k2:=b7.ge0 f5
  have b5:=Zb (Zb (d2.own2 (Zb c1 a2.below) a2.blk (by decide)) (Za c4)) a5
  have e1:=Zr b5 b7
  have c3:=Zb (Zb (d2.own2 (Zb j1 a2.below) a2.blk (by decide)) (Za c4)) a5
  have g1:=Zr c3 b7
  have a1:=Zb b5 b7.below
  have e8:=blB f5 hBw b7.below
  refine ybi (.o [] 7) (.t B [123]) fun _ _ _ _ zJ zQ zo zx zy zK=>Qh (b:=j5) (c:=1) (m:=1) (news:=[V0 ((Z.getD i zvD).1.1.1),.string ⟨(Kx (↑(Z.getD i zvD).1.2.length:Int) (Z.getD i zvD).1).toArray⟩,V0 0]) (.agg #[V0 0,.string ⟨#[]⟩,V0 0]) 3 32 (i+1) ((((Ud L (Kc L)).take (i+1)).flatMap Yj)) zo Tryz.underlying88 (by kernel_rfl) rfl (by decide) zx a1 zy b7.blk rfl (by simp[Value.oneCell']) (by unfold maxLen;omega) (by omega) e8.size (by rfl) (by have e:=Jz (L:=L) (C:=Kc L) (i:=i) (by omega);unfold Kc at e;rw[e0] at e;exact Wf (by rw[Yq];omega) e) fun j8 i8 l6 j2 b0 e9 h7=>?_
  have d0:=Zb c3 b7.below
  have c0:=d3.symm.row d0 b0
  replace d3:=(d3.symm.grow d0 h7).symm
  have d9:=c0
  refine zK _ _ (Zt (e9.mono hBw) b0 a1 (by decide)) ?_
  refine xwm (.r [8] 4) ((i:Int)+1) (↑(i+1):Int) ?_
  have g6:=e8.trans (e9.mono hBw)
  have g5:=(Zd.grown_new ((((Zd.upd_new ((Zd.grown_new (((((f7.trans (Zd.of_below c5)).trans (d8.wide (by decide))).trans (Zd.of_below (Za W7))).trans (Zd.of_below c9)).trans (Zd.of_below n9.below)) a4 a0).trans (Zd.of_below a2.below)) d2 i2).trans (Zd.of_below (Za c4))).trans (Zd.of_below a5)).trans (Zd.of_below b7.below)) b0 a1)
  have b8:=((((d2.blkT (((((((a3.below c5).only d8 (by decide)).below (Za W7)).below c9).below n9.below).grown a4 a0 (by decide)).below a2.below) a2.blk (by decide)).below (Za c4)).below a5).below b7.below).grown b0 a1 (by decide)
  have h3:=(((((((((hA.below (Za W7)).below c9).below n9.below).only (Zd.of_grown (T:=[123]) a4 a0 (by decide)) (by decide)).below a2.below).only (Zd.of_upd (T:=[202]) d2 a2.blk (by decide)) (by decide)).below (Za c4)).below a5).below b7.below).only (Zd.of_grown (T:=[123]) b0 a1 (by decide)) (by decide)
  exact ze 2 (i7 _ _ _ ⟨i+1,_,_,_,_,rfl,rfl,g6,g5,b8,d9,j2,h3,by omega,d3⟩ (by omega))
 have k3:i=n:=by omega
 rw[List.take_of_length_le (by rw[Yp];omega)] at d1
 rw[List.take_of_length_le (by rw[Yq];omega)] at d5
 rw[show L.take i=L from List.take_of_length_le (by omega)] at hA
 refine xlv 7 a8.rp ?_
 refine xc 1 (args:=#[.agg #[P0 ba],V0 1,.slice p7 i c7]) (by have q:=Tu B ba b g nn cc pa ca N bs (Jd L) 1 p7 c7 i ((Uj L (Ql L))) _ (by rw[Yp];omega) hC hA (top_ok hD) (by show Xc (F1 L)≤N;omega) (fun W _ h2=>Zf (Zi d1 h2 (by decide))) (Nat.le_trans hBw a6.size);exact q) ?_
 rintro _ l3 ⟨rfl,g8,d7,hA⟩
 have c2:=a8.only d7 (by decide)
 refine xlv 6 c2.rp ?_
 have d6:=Zi d5 d7 (by decide)
 have f2:=a6.trans g8
 refine xc 1 (args:=#[.agg #[P0 ba],V0 3,.slice p8 i c8]) (by have q:=Tu B ba b g nn cc pa ca N bs (F1 L) 3 p8 c8 i ((Ud L (Kc L))) _ (by rw[Yq];omega) hC hA (det_ok hD) (by show Xc (F2 L)≤N;omega) (fun W _ h2=>Zf (Zi d6 h2 (by decide))) (Nat.le_trans hBw f2.size);exact q) ?_
 rintro _ k9 ⟨rfl,h4,h0,hA⟩
 have f3:=f2.trans h4
 have h5:=(d4.trans (d7.wide (by decide))).trans (h0.wide (by decide))
 exact xe 5 (.tuple #[V0 (↑(Xc (F1 L)):Int),V0 (↑(Xc (F2 L)):Int)]) ⟨rfl,f3,h5,hA⟩
def Da(L:List Dv)(k:Nat):Bl:=Lz (F2 L) 1 (List.replicate (k*256) (0:UInt8))
def Hd(x:Nat)(L:List Dv):Nat:=Xc (F2 L)+Up (Yi x L)
def Qp(x:Nat)(L:List Dv)(k:Nat):Int×Int×Bl:=Zaw (Yi x L) (1+Xc (F2 L)) (Da L k)
def Hh(x:Nat)(L:List Dv)(k:Nat):Int×Int×Bl:=Ca (Yd (Hd x L+1) k) 1 (Hd x L) (Qp x L k).2.2
def Od(t u v:Int)(x:Nat)(L:List Dv)(k:Nat):Sup:=⟨t,u,v,(x:Int),(k:Int),(Xc (F1 L):Int),(Xc (F2 L):Int),(Qp x L k).1,(Qp x L k).2.1,(Hh x L k).1,(Hh x L k).2.1⟩
def Je(t u v:Int)(x:Nat)(L:List Dv)(k:Nat):Bl:=Vc (Hh x L k).2.2 (0*256) (Xw 1 (0:Nat) (Ao (Od t u v x L k)))
theorem Zad(L:List (List Int))(f:Nat):∀ n,(Xv L f n).length=n:=fun n=>Qi L f n
theorem layD_in(x:Nat)(L:List Dv)(k:Nat):1≤(Qp x L k).1∧(Qp x L k).1≤(Hd x L:Int)∧1≤(Qp x L k).2.1∧(Qp x L k).2.1≤(Hd x L:Int):=by
 have a:=Gs (t:=4) (l:=Xv (Zl (Zg (Yi x L)) (bmN (Yi x L).length)) (1+Xc (F2 L)) (bmN (Yi x L).length)) (q:=1+Xc (F2 L)+bmN (Yi x L).length) (bs:=Kl (Zl (Zg (Yi x L)) (bmN (Yi x L).length)) (1+Xc (F2 L)) (Da L k) (bmN (Yi x L).length)) (by omega)
 have b:=Gs (t:=5) (l:=Zm (Yi x L) (Yi x L).length) (q:=1+Xc (F2 L)+bmN (Yi x L).length+Zy 4 (bmN (Yi x L).length)) (bs:=(Yo 4 (Xv (Zl (Zg (Yi x L)) (bmN (Yi x L).length)) (1+Xc (F2 L)) (bmN (Yi x L).length)) (1+Xc (F2 L)+bmN (Yi x L).length) (Kl (Zl (Zg (Yi x L)) (bmN (Yi x L).length)) (1+Xc (F2 L)) (Da L k) (bmN (Yi x L).length))).2) (by omega)
 rw[Zad] at a
 have e1:(Qp x L k).1=_:=a
 have e2:(Qp x L k).2.1=_:=b
 have h4:=Ue 4 (bmN (Yi x L).length)
 have h5:=Ue 5 (Zm (Yi x L) (Yi x L).length).length
 have e3:Hd x L=Xc (F2 L)+(bmN (Yi x L).length+Zy 4 (bmN (Yi x L).length)+Zy 5 (Zm (Yi x L) (Yi x L).length).length):=rfl
 rw[e1,e2,e3]
 omega
theorem layM_in(x:Nat)(L:List Dv)(k:Nat):1≤(Hh x L k).1∧(Hh x L k).1≤(Hd x L+2+bmN k:Nat)∧1≤(Hh x L k).2.1∧(Hh x L k).2.1≤(Hd x L+2+bmN k:Nat):=by
 have a:=Gs (t:=5) (l:=Zm (Yd (Hd x L+1) k) (Yd (Hd x L+1) k).length) (q:=1+Hd x L) (bs:=(Qp x L k).2.2) (by omega)
 have e2:(Hh x L k).2.1=_:=a
 have e1:(Hh x L k).1=((1+Hd x L+Zy 5 (Zm (Yd (Hd x L+1) k) (Yd (Hd x L+1) k).length).length+bmN (Ym (Yd (Hd x L+1) k) (1+Hd x L) (Xo (Yd (Hd x L+1) k))).length:Nat):Int):=rfl
 rw[Qe,Xf] at e1
 rw[Lk,List.length_nil,Zge] at e1 e2
 rw[e1,e2]
 omega
theorem Iy{t u v:Int}{x k:Nat}{L:List Dv}(hk:PoolOk t u v (x:Int) L)(hr:Kk x L≤k)(hk2:k≤14400):Xj (Od t u v x L k)=true:=by
 have a:=layD_in x L k
 have b:=layM_in x L k
 have c:=Ci hr
 have d:=F1_le L
 have e:Hd x L=Xc (F2 L)+Up (Yi x L):=rfl
 have h1:=hk.htx
 have h2:=hk.htime
 have h3:=hk.hunit
 have h4:=hk.hdata
 unfold Xj Od
 simp only[Bool.and_eq_true,decide_eq_true_eq,true_and]
 refine⟨⟨⟨⟨⟨⟨⟨⟨⟨⟨?_,?_⟩,?_⟩,?_⟩,?_⟩,?_⟩,?_⟩,?_⟩,?_⟩,?_⟩,?_⟩<;>omega
theorem Tf(t u v:Int)(x k:Nat)(L:List Dv)(w:World)(hr:Xj (Od t u v x L k)=true):C0 79 #[.agg #[V0 t,V0 u,V0 v,V0 (x:Int),V0 (k:Int),V0 (↑(Xc (F1 L)):Int),V0 (↑(Xc (F2 L)):Int),V0 (Qp x L k).1,V0 (Qp x L k).2.1,V0 (Hh x L k).1,V0 (Hh x L k).2.1]] w (Qn (fun w' r=>∃ p c,r=.tuple #[.slice p 244 c,V0 0]∧w'.ownsRow w.heap.size 5 1 (.slice p 244 c) 244 ((Ao (Od t u v x L k)).map bv)) w):=by
 refine(sup_PutP (Od t u v x L k) w ⟨by show(0:Int)≤(k:Int);omega,?_⟩).mono ?_
 ·unfold Xj Od at hr
  simp only[Bool.and_eq_true,decide_eq_true_eq,true_and] at hr
  show(k:Int)<_
  omega
 ·rintro e W q
  rcases q with ⟨h,_⟩|⟨_,p,c,rfl,hb,ho⟩
  ·rw[hr] at h;cases h
  ·exact⟨_,rfl,hb,p,c,rfl,ho⟩
theorem lay_all(B ba b g cc:Nat)(pa:O0)(ca N k:Nat)(p:O0)(c n x:Nat)(t u v:Int)(Z:List Zv)(L:List Dv)(w:World)(hZ:Z.length=n)(hL:Z.map Prod.fst=L)(hk:PoolOk t u v (x:Int) L)(hP:∀ W,Below B w W→DevsR W p c Z)(hN:N=k-1)(hC:AlC B ba (k*256) cc ca 1 N)(hA:AlF B ba b g (k*256) cc pa ca N (List.replicate (k*256) (0:UInt8)) [] w)(hr:Kk x L≤k)(hk3:k≤3000)(hBw:B≤w.heap.size) :
 C0 34 #[.agg #[P0 ba],.agg #[V0 t,V0 u,V0 v,V0 (x:Int),.slice p n c]] w ((fun e w'=>e=.returned (.tuple #[])∧Below B w w'∧ImgR B b (S1 g) (k*256) cc (Je t u v x L k) w')):=by
 have hx:x≤65536:=by have:=hk.hdata;omega
 have t6:=Ci hr
 have y9:Hd x L=Xc (F2 L)+Up (Yi x L):=rfl
 have t5:=Iy hk hr (by omega)
 refine zin 72 Tryz.func34 ?_
 refine xa 2 [P0 ba] 79 fun b1 W1 n1=>?_
 refine xa 0 [V0 t,V0 u,V0 v,V0 (x:Int),.slice p n c] 24 fun b2 W2 n2=>?_
 refine xd 3 (.t B [153,5,29,88,123,266,252,44]) ?_
 have k2:=n2.blk.below (Za W2)
 refine xbt (.e [0] 1) 0 B [153,5,29,88,123,266,252,44] k2 ?_
 refine xbt (.e [2] 3) 1 B [153,5,29,88,123,266,252,44] k2 ?_
 refine xbt (.e [4] 5) 2 B [153,5,29,88,123,266,252,44] k2 ?_
 refine xbt (.e [6] 7) 3 B [153,5,29,88,123,266,252,44] k2 ?_
 have k1:=(n1.blk.below n2.below).below (Za W2)
 refine xbt (.e [8] 9) 0 B [153,5,29,88,123,266,252,44] k1 ?_
 refine xm2 0 10 13 ?_ ?_
 ·have f0:=((hA.below n1.below).below n2.below).below (Za W2)
  refine xr 0 (args:=#[P0 ba]) (Qb ba b _ _ _ f0.blkA) fun W3 d2=>?_
  refine xm2 0 11 13 ?_ ?_
  ·have l3:=f0.below d2
   refine xr 0 (args:=#[P0 b]) (by have q:=Ys b _ (k*256) _ _ l3.blkI (by omega);rw[show k*256/256=k by omega] at q;exact q) fun W4 p8=>?_
   refine xa (.o [12] 13) [V0 0,V0 0,V0 0,V0 0,V0 0,V0 0,V0 0,V0 0,V0 0,V0 0,V0 0] 44 fun b5 W5 n5=>?_
   have hB:=blB (blB (blB (blB (blB (Below.refl B w) hBw n1.below) hBw n2.below) hBw (Za W2)) hBw d2) hBw p8
   have g5:=n5.ge0 hB
   refine ysv (.o [] 14) n5.blk [V0 t,V0 u,V0 v,V0 (x:Int),V0 (k:Int),V0 0,V0 0,V0 0,V0 0,V0 0,V0 0] (.t B [153,5,29,88,123,266,252,44]) fun W6 u6 k6=>⟨(Zx u6 n5.blk (Nat.le_trans hBw g5) (by decide)),?_⟩
   have p5:=u6.blkT (((k1.below d2).below p8).below n5.below) n5.blk (by decide)
   refine xlv 9 p5.rp ?_
   have k0:=u6.blkT (((k2.below d2).below p8).below n5.below) n5.blk (by decide)
   refine xb 1 4 k0 ?_
   have s4:=((l3.below p8).below n5.below).only (Zd.of_upd (T:=[44]) u6 n5.blk (by decide)) (by decide)
   have d1:=u6.below (blB hB hBw n5.below) (Nat.le_trans hBw g5)
   refine xc 0 (args:=#[.agg #[P0 ba],.slice p n c]) (Py B ba b g (k*256) cc pa ca N (List.replicate (k*256) (0:UInt8)) p c n (x:Int) Z L _ hZ hL hk.devs (by omega) (fun W h=>hP W (d1.trans h)) hC s4 (by omega) (Nat.le_trans hBw d1.size)) ?_
   rintro _ W7 ⟨rfl,t7,t2,hA⟩
   have d0:=k6.only t2 (by decide)
   refine xs 4 d0 [V0 t,V0 u,V0 v,V0 (x:Int),V0 (k:Int),V0 (↑(Xc (F1 L)):Int),V0 0,V0 0,V0 0,V0 0,V0 0] fun W8 u8 k8=>?_
   refine xs 1 k8 [V0 t,V0 u,V0 v,V0 (x:Int),V0 (k:Int),V0 (↑(Xc (F1 L)):Int),V0 (↑(Xc (F2 L)):Int),V0 0,V0 0,V0 0,V0 0] fun W9 u9 k9=>?_
   refine xd 3 (.t B [153,5,29,88,123,266,252,44]) ?_
   have n0:=(u9.blkT (u8.blkT (p5.only t2 (by decide)) d0 (by decide)) k8 (by decide)).below (Za W9)
   refine xbt (.e [0] 1) 0 B [153,5,29,88,123,266,252,44] n0 ?_
   have s6:=(u9.blkT (u8.blkT (k0.only t2 (by decide)) d0 (by decide)) k8 (by decide)).below (Za W9)
   refine xlvt (.e [] 2) (.t B [153,5,29,88,123,266,252,44]) (fun V hV=>(s6.only hV.2 (by decide)).rp) ?_
   have j8:=blB (u9.below (u8.below (d1.trans t7) (Nat.le_trans hBw g5)) (Nat.le_trans hBw g5)) hBw (Za W9)
   refine yc (.o [] 3) (args:=#[.agg #[V0 t,V0 u,V0 v,V0 (x:Int),.slice p n c]]) (.t B [153,5,29,88,123,266,252,44]) (by have q:=Md p c n x t u v Z _ hZ (hP _ j8) (by rw[hL];exact hk);rw[hL] at q;exact q) ?_
   rintro _ x0 ⟨_,rfl,b3,q9,d9,rfl,m6⟩
   have s7:=(blB (u9.below (u8.below (d1.trans t7) (Nat.le_trans hBw g5)) (Nat.le_trans hBw g5)) hBw (Za W9)).size
   refine⟨(SF.of_below _ b3),?_⟩
   have o0:=Ze m6 s7
   have r0:=(((hA.only (Zd.of_upd (T:=[44]) u8 d0 (by decide)) (by decide)).only (Zd.of_upd (T:=[44]) u9 k8 (by decide)) (by decide)).below (Za W9)).below b3
   have f5:=blB j8 hBw b3
   refine yc (.o [] 4) (args:=#[P0 ba,.slice q9 x d9]) (.t B [153,5,29,88,123,266,252,44]) (by have q:=Li B ba b g (k*256) cc pa ca 1 N (Xc (F2 L)) (Da L k) q9 d9 (Yi x L) _ hC r0 (by rw[Xy];have q:=Zf o0;rw[←Ey] at q;exact q) (by rw[Xy];omega) (by rw[Hy];have:=Hm hk.devs;omega) (Jy (by omega) hk.devs) (by decide) (by omega) (by omega) (Nat.le_trans hBw f5.size);rw[Xy] at q;exact q) ?_
   rintro _ ae ⟨rfl,f2,e9,u7,hA⟩
   refine⟨(Ki f2 e9),?_⟩
   have d3:=((k9.below (Za W9)).below b3).only e9 (by decide)
   refine ys (.o [5,6,7,8,9] 10) d3 [V0 t,V0 u,V0 v,V0 (x:Int),V0 (k:Int),V0 (↑(Xc (F1 L)):Int),V0 (↑(Xc (F2 L)):Int),V0 ((Qp x L k).1),V0 0,V0 0,V0 0] (.t B [153,5,29,88,123,266,252,44]) fun w5 j5 q0=>⟨(Zx j5 d3 (Nat.le_trans hBw g5) (by decide)),?_⟩
   refine ys (.o [11] 12) q0 [V0 t,V0 u,V0 v,V0 (x:Int),V0 (k:Int),V0 (↑(Xc (F1 L)):Int),V0 (↑(Xc (F2 L)):Int),V0 ((Qp x L k).1),V0 ((Qp x L k).2.1),V0 0,V0 0] (.t B [153,5,29,88,123,266,252,44]) fun w1 j7 v2=>⟨(Zx j7 q0 (Nat.le_trans hBw g5) (by decide)),?_⟩
   refine xr (.r [13] 5) (args:=#[.nilIface]) (Kb _) fun n9 b9=>?_
   refine xd 3 (.t B [153,5,29,88,123,266,252,44]) ?_
   have h2:=((j7.blkT (j5.blkT ((n0.below b3).only e9 (by decide)) d3 (by decide)) q0 (by decide)).below b9).below (Za n9)
   refine xbt (.e [0] 1) 0 B [153,5,29,88,123,266,252,44] h2 ?_
   refine xlvt (.e [] 2) (.t B [153,5,29,88,123,266,252,44]) (fun V hV=>(h2.only hV.2 (by decide)).rp) ?_
   have m1:=(((hA.only (Zd.of_upd (T:=[44]) j5 d3 (by decide)) (by decide)).only (Zd.of_upd (T:=[44]) j7 q0 (by decide)) (by decide)).below b9).below (Za n9)
   refine yc (.o [] 3) (args:=#[.agg #[P0 ba]]) (.t B [153,5,29,88,123,266,252,44]) (La B ba b g cc pa ca 1 N (Hd x L) k _ _ m1 (by omega) (by omega)) ?_
   rintro _ af ⟨_,rfl,c0,q8,d8,rfl,i5⟩
   have r3:=(blB (blB (j7.below (j5.below (f5.trans f2) (Nat.le_trans hBw g5)) (Nat.le_trans hBw g5)) hBw b9) hBw (Za n9)).size
   refine⟨(SF.of_below _ c0),?_⟩
   have t4:=m1.below c0
   have n8:=Ze i5 r3
   have g8:=blB (blB (blB (j7.below (j5.below (f5.trans f2) (Nat.le_trans hBw g5)) (Nat.le_trans hBw g5)) hBw b9) hBw (Za n9)) hBw c0
   refine yc (.o [] 4) (args:=#[P0 ba,.slice (some q8) k d8]) (.t B [153,5,29,88,123,266,252,44]) (by have q:=Mv B ba b g (k*256) cc pa ca 1 N (Hd x L) (Qp x L k).2.2 q8 d8 (Yd (Hd x L+1) k) _ hC t4 (by rw[Xf];exact Zf n8) (by rw[Xf];omega) (by rw[Xf];omega) (Jn (by omega)) (by omega) (by rw[Gi];omega) (by decide) (by rw[Nat.add_comm 1];exact Gc) (Nat.le_trans hBw g8.size);rw[Xf] at q;exact q) ?_
   rintro _ z7 ⟨rfl,g1,g2,v8,hA⟩
   refine⟨(Ki g1 g2),?_⟩
   have a8:=(((v2.below b9).below (Za n9)).below c0).only g2 (by decide)
   refine ys (.o [5,6,7,8,9] 10) a8 [V0 t,V0 u,V0 v,V0 (x:Int),V0 (k:Int),V0 (↑(Xc (F1 L)):Int),V0 (↑(Xc (F2 L)):Int),V0 ((Qp x L k).1),V0 ((Qp x L k).2.1),V0 ((Hh x L k).1),V0 0] (.t B [153,5,29,88,123,266,252,44]) fun x9 i8 q1=>⟨(Zx i8 a8 (Nat.le_trans hBw g5) (by decide)),?_⟩
   refine ys (.o [11] 12) q1 [V0 t,V0 u,V0 v,V0 (x:Int),V0 (k:Int),V0 (↑(Xc (F1 L)):Int),V0 (↑(Xc (F2 L)):Int),V0 ((Qp x L k).1),V0 ((Qp x L k).2.1),V0 ((Hh x L k).1),V0 ((Hh x L k).2.1)] (.t B [153,5,29,88,123,266,252,44]) fun x3 m3 u4=>⟨(Zx m3 q1 (Nat.le_trans hBw g5) (by decide)),?_⟩
   refine xr (.r [13] 5) (args:=#[.nilIface]) (Kb _) fun z2 c7=>?_
   have n3:=u4.below c7
   refine xlv 4 n3.rp ?_
   refine xc 0 (args:=#[.agg #[V0 t,V0 u,V0 v,V0 (x:Int),V0 (k:Int),V0 (↑(Xc (F1 L)):Int),V0 (↑(Xc (F2 L)):Int),V0 ((Qp x L k).1),V0 ((Qp x L k).2.1),V0 ((Hh x L k).1),V0 ((Hh x L k).2.1)]]) (Tf t u v x k L _ t5) ?_
   rintro _ x4 ⟨_,rfl,h6,q7,d7,rfl,i9⟩
   have s0:=(blB (m3.below (i8.below (g8.trans g1) (Nat.le_trans hBw g5)) (Nat.le_trans hBw g5)) hBw c7).size
   have r2:=((m3.blkT (i8.blkT ((h2.below c0).only g2 (by decide)) a8 (by decide)) q1 (by decide)).below c7).below h6
   refine xb 19 0 r2 ?_
   have o3:=(((hA.only (Zd.of_upd (T:=[44]) i8 a8 (by decide)) (by decide)).only (Zd.of_upd (T:=[44]) m3 q1 (by decide)) (by decide)).below c7).below h6
   refine xr 0 (args:=#[P0 ba]) (Qb ba b _ _ _ o3.blkA) fun y1 g7=>?_
   have i7:=Zb (Ze i9 s0) g7
   have m4:=o3.below g7
   have m5:=blB (blB (blB (m3.below (i8.below (g8.trans g1) (Nat.le_trans hBw g5)) (Nat.le_trans hBw g5)) hBw c7) hBw h6) hBw g7
   refine xc 1 (args:=#[P0 b,V0 0,V0 1,.slice q7 244 d7]) (Wq B b (S1 g) (k*256) cc 0 (0:Int) (Hh x L k).2.2 1 q7 d7 244 (Ao (Od t u v x L k)) _ rfl (Jc _) ⟨m4.blkI,m4.data,hC.hn⟩ (by omega) (by decide) (by decide) (Xp (Zf i7) (Jc _)) (by decide) (Nat.le_trans hBw m5.size)) ?_
   rintro _ y3 ⟨rfl,s5,v9,hI⟩
   refine xr 0 (args:=#[.nilIface]) (Kb _) fun w4 p3=>?_
   have t1:=hI.below p3
   have s9:=blB (m5.trans s5) hBw p3
   exact xe 1 (.tuple #[]) ⟨rfl,s9,t1⟩
  refine xa 0 [V0 0,V0 0,V0 0,V0 0,V0 0,V0 0,V0 0,V0 0,V0 0,V0 0,V0 0] 44 fun w3 z4 h9=>?_
  have l9:=(f0.below d2).below h9.below
  refine xr (.o [] 11) (args:=#[P0 b]) (by have q:=Ys b _ (k*256) _ _ l9.blkI (by omega);rw[show k*256/256=k by omega] at q;exact q) fun y8 b4=>?_
  have l6:=h9.blk.below b4
  have a0:=h9.ge0 (blB (blB (blB (blB (Below.refl B w) hBw n1.below) hBw n2.below) hBw (Za W2)) hBw d2)
  refine ysv (.o [12] 14) l6 [V0 t,V0 u,V0 v,V0 (x:Int),V0 (k:Int),V0 0,V0 0,V0 0,V0 0,V0 0,V0 0] (.t B [153,5,29,88,123,266,252,44]) fun y4 o8 u0=>⟨(Zx o8 l6 (Nat.le_trans hBw a0) (by decide)),?_⟩
  have l0:=o8.blkT (((k1.below d2).below h9.below).below b4) l6 (by decide)
  refine xlv 9 l0.rp ?_
  have m8:=o8.blkT (((k2.below d2).below h9.below).below b4) l6 (by decide)
  refine xb 1 4 m8 ?_
  have p4:=(l9.below b4).only (Zd.of_upd (T:=[44]) o8 l6 (by decide)) (by decide)
  have hB:=o8.below (blB (blB (blB (blB (blB (blB (Below.refl B w) hBw n1.below) hBw n2.below) hBw (Za W2)) hBw d2) hBw h9.below) hBw b4) (Nat.le_trans hBw a0)
  refine xc 0 (args:=#[.agg #[P0 ba],.slice p n c]) (Py B ba b g (k*256) cc pa ca N (List.replicate (k*256) (0:UInt8)) p c n (x:Int) Z L _ hZ hL hk.devs (by omega) (fun W h=>hP W (hB.trans h)) hC p4 (by omega) (Nat.le_trans hBw hB.size)) ?_
  rintro _ z8 ⟨rfl,p0,g0,hA⟩
  have a4:=u0.only g0 (by decide)
  refine xs 4 a4 [V0 t,V0 u,V0 v,V0 (x:Int),V0 (k:Int),V0 (↑(Xc (F1 L)):Int),V0 0,V0 0,V0 0,V0 0,V0 0] fun x1 j0 q5=>?_
  refine xs 1 q5 [V0 t,V0 u,V0 v,V0 (x:Int),V0 (k:Int),V0 (↑(Xc (F1 L)):Int),V0 (↑(Xc (F2 L)):Int),V0 0,V0 0,V0 0,V0 0] fun i0 m7 u5=>?_
  refine xd 3 (.t B [153,5,29,88,123,266,252,44]) ?_
  have p2:=(m7.blkT (j0.blkT (l0.only g0 (by decide)) a4 (by decide)) q5 (by decide)).below (Za i0)
  refine xbt (.e [0] 1) 0 B [153,5,29,88,123,266,252,44] p2 ?_
  have r9:=(m7.blkT (j0.blkT (m8.only g0 (by decide)) a4 (by decide)) q5 (by decide)).below (Za i0)
  refine xlvt (.e [] 2) (.t B [153,5,29,88,123,266,252,44]) (fun V hV=>(r9.only hV.2 (by decide)).rp) ?_
  have k4:=blB (m7.below (j0.below (hB.trans p0) (Nat.le_trans hBw a0)) (Nat.le_trans hBw a0)) hBw (Za i0)
  refine yc (.o [] 3) (args:=#[.agg #[V0 t,V0 u,V0 v,V0 (x:Int),.slice p n c]]) (.t B [153,5,29,88,123,266,252,44]) (by have q:=Md p c n x t u v Z _ hZ (hP _ k4) (by rw[hL];exact hk);rw[hL] at q;exact q) ?_
  rintro _ w8 ⟨_,rfl,b6,q9,d9,rfl,m6⟩
  have r5:=(blB (m7.below (j0.below (hB.trans p0) (Nat.le_trans hBw a0)) (Nat.le_trans hBw a0)) hBw (Za i0)).size
  refine⟨(SF.of_below _ b6),?_⟩
  have o5:=Ze m6 r5
  have j1:=(((hA.only (Zd.of_upd (T:=[44]) j0 a4 (by decide)) (by decide)).only (Zd.of_upd (T:=[44]) m7 q5 (by decide)) (by decide)).below (Za i0)).below b6
  have f4:=blB k4 hBw b6
  refine yc (.o [] 4) (args:=#[P0 ba,.slice q9 x d9]) (.t B [153,5,29,88,123,266,252,44]) (by have q:=Li B ba b g (k*256) cc pa ca 1 N (Xc (F2 L)) (Da L k) q9 d9 (Yi x L) _ hC j1 (by rw[Xy];have q:=Zf o5;rw[←Ey] at q;exact q) (by rw[Xy];omega) (by rw[Hy];have:=Hm hk.devs;omega) (Jy (by omega) hk.devs) (by decide) (by omega) (by omega) (Nat.le_trans hBw f4.size);rw[Xy] at q;exact q) ?_
  rintro _ w2 ⟨rfl,h0,f6,u2,hA⟩
  refine⟨(Ki h0 f6),?_⟩
  have a5:=((u5.below (Za i0)).below b6).only f6 (by decide)
  refine ys (.o [5,6,7,8,9] 10) a5 [V0 t,V0 u,V0 v,V0 (x:Int),V0 (k:Int),V0 (↑(Xc (F1 L)):Int),V0 (↑(Xc (F2 L)):Int),V0 ((Qp x L k).1),V0 0,V0 0,V0 0] (.t B [153,5,29,88,123,266,252,44]) fun y0 l1 q4=>⟨(Zx l1 a5 (Nat.le_trans hBw a0) (by decide)),?_⟩
  refine ys (.o [11] 12) q4 [V0 t,V0 u,V0 v,V0 (x:Int),V0 (k:Int),V0 (↑(Xc (F1 L)):Int),V0 (↑(Xc (F2 L)):Int),V0 ((Qp x L k).1),V0 ((Qp x L k).2.1),V0 0,V0 0] (.t B [153,5,29,88,123,266,252,44]) fun al i2 v0=>⟨(Zx i2 q4 (Nat.le_trans hBw a0) (by decide)),?_⟩
  refine xr (.r [13] 5) (args:=#[.nilIface]) (Kb _) fun l5 c8=>?_
  refine xd 3 (.t B [153,5,29,88,123,266,252,44]) ?_
  have f3:=((i2.blkT (l1.blkT ((p2.below b6).only f6 (by decide)) a5 (by decide)) q4 (by decide)).below c8).below (Za l5)
  refine xbt (.e [0] 1) 0 B [153,5,29,88,123,266,252,44] f3 ?_
  refine xlvt (.e [] 2) (.t B [153,5,29,88,123,266,252,44]) (fun V hV=>(f3.only hV.2 (by decide)).rp) ?_
  have e8:=(((hA.only (Zd.of_upd (T:=[44]) l1 a5 (by decide)) (by decide)).only (Zd.of_upd (T:=[44]) i2 q4 (by decide)) (by decide)).below c8).below (Za l5)
  refine yc (.o [] 3) (args:=#[.agg #[P0 ba]]) (.t B [153,5,29,88,123,266,252,44]) (La B ba b g cc pa ca 1 N (Hd x L) k _ _ e8 (by omega) (by omega)) ?_
  rintro _ x5 ⟨_,rfl,c3,q8,d8,rfl,i5⟩
  have s8:=(blB (blB (i2.below (l1.below (f4.trans h0) (Nat.le_trans hBw a0)) (Nat.le_trans hBw a0)) hBw c8) hBw (Za l5)).size
  refine⟨(SF.of_below _ c3),?_⟩
  have j4:=e8.below c3
  have l8:=Ze i5 s8
  have g3:=blB (blB (blB (i2.below (l1.below (f4.trans h0) (Nat.le_trans hBw a0)) (Nat.le_trans hBw a0)) hBw c8) hBw (Za l5)) hBw c3
  refine yc (.o [] 4) (args:=#[P0 ba,.slice (some q8) k d8]) (.t B [153,5,29,88,123,266,252,44]) (by have q:=Mv B ba b g (k*256) cc pa ca 1 N (Hd x L) (Qp x L k).2.2 q8 d8 (Yd (Hd x L+1) k) _ hC j4 (by rw[Xf];exact Zf l8) (by rw[Xf];omega) (by rw[Xf];omega) (Jn (by omega)) (by omega) (by rw[Gi];omega) (by decide) (by rw[Nat.add_comm 1];exact Gc) (Nat.le_trans hBw g3.size);rw[Xf] at q;exact q) ?_
  rintro _ x6 ⟨rfl,g6,f8,u3,hA⟩
  refine⟨(Ki g6 f8),?_⟩
  have a3:=(((v0.below c8).below (Za l5)).below c3).only f8 (by decide)
  refine ys (.o [5,6,7,8,9] 10) a3 [V0 t,V0 u,V0 v,V0 (x:Int),V0 (k:Int),V0 (↑(Xc (F1 L)):Int),V0 (↑(Xc (F2 L)):Int),V0 ((Qp x L k).1),V0 ((Qp x L k).2.1),V0 ((Hh x L k).1),V0 0] (.t B [153,5,29,88,123,266,252,44]) fun w7 j3 p9=>⟨(Zx j3 a3 (Nat.le_trans hBw a0) (by decide)),?_⟩
  refine ys (.o [11] 12) p9 [V0 t,V0 u,V0 v,V0 (x:Int),V0 (k:Int),V0 (↑(Xc (F1 L)):Int),V0 (↑(Xc (F2 L)):Int),V0 ((Qp x L k).1),V0 ((Qp x L k).2.1),V0 ((Hh x L k).1),V0 ((Hh x L k).2.1)] (.t B [153,5,29,88,123,266,252,44]) fun z3 n4 v6=>⟨(Zx n4 p9 (Nat.le_trans hBw a0) (by decide)),?_⟩
  refine xr (.r [13] 5) (args:=#[.nilIface]) (Kb _) fun y5 c1=>?_
  have k7:=v6.below c1
  refine xlv 4 k7.rp ?_
  refine xc 0 (args:=#[.agg #[V0 t,V0 u,V0 v,V0 (x:Int),V0 (k:Int),V0 (↑(Xc (F1 L)):Int),V0 (↑(Xc (F2 L)):Int),V0 ((Qp x L k).1),V0 ((Qp x L k).2.1),V0 ((Hh x L k).1),V0 ((Hh x L k).2.1)]]) (Tf t u v x k L _ t5) ?_
  rintro _ x7 ⟨_,rfl,h5,q7,d7,rfl,i9⟩
  have r7:=(blB (n4.below (j3.below (g3.trans g6) (Nat.le_trans hBw a0)) (Nat.le_trans hBw a0)) hBw c1).size
  have r1:=((n4.blkT (j3.blkT ((f3.below c3).only f8 (by decide)) a3 (by decide)) p9 (by decide)).below c1).below h5
  refine xb 19 0 r1 ?_
  have d6:=(((hA.only (Zd.of_upd (T:=[44]) j3 a3 (by decide)) (by decide)).only (Zd.of_upd (T:=[44]) n4 p9 (by decide)) (by decide)).below c1).below h5
  refine xr 0 (args:=#[P0 ba]) (Qb ba b _ _ _ d6.blkA) fun ag h7=>?_
  have i3:=Zb (Ze i9 r7) h7
  have d4:=d6.below h7
  have e5:=blB (blB (blB (n4.below (j3.below (g3.trans g6) (Nat.le_trans hBw a0)) (Nat.le_trans hBw a0)) hBw c1) hBw h5) hBw h7
  refine xc 1 (args:=#[P0 b,V0 0,V0 1,.slice q7 244 d7]) (Wq B b (S1 g) (k*256) cc 0 (0:Int) (Hh x L k).2.2 1 q7 d7 244 (Ao (Od t u v x L k)) _ rfl (Jc _) ⟨d4.blkI,d4.data,hC.hn⟩ (by omega) (by decide) (by decide) (Xp (Zf i3) (Jc _)) (by decide) (Nat.le_trans hBw e5.size)) ?_
  rintro _ z0 ⟨rfl,t0,v1,hI⟩
  refine xr 0 (args:=#[.nilIface]) (Kb _) fun x2 l7=>?_
  have r4:=hI.below l7
  have m2:=blB (e5.trans t0) hBw l7
  exact xe 1 (.tuple #[]) ⟨rfl,m2,r4⟩
 refine xa 0 [V0 0,V0 0,V0 0,V0 0,V0 0,V0 0,V0 0,V0 0,V0 0,V0 0,V0 0] 44 fun z6 w9 i1=>?_
 have e0:=(((hA.below n1.below).below n2.below).below (Za W2)).below i1.below
 refine xr (.o [] 10) (args:=#[P0 ba]) (Qb ba b _ _ _ e0.blkA) fun ah c9=>?_
 have e2:=e0.below c9
 refine xr (.o [] 11) (args:=#[P0 b]) (by have q:=Ys b _ (k*256) _ _ e2.blkI (by omega);rw[show k*256/256=k by omega] at q;exact q) fun z5 c4=>?_
 have m9:=(i1.blk.below c9).below c4
 have a1:=i1.ge0 (blB (blB (blB (Below.refl B w) hBw n1.below) hBw n2.below) hBw (Za W2))
 refine ysv (.o [12] 14) m9 [V0 t,V0 u,V0 v,V0 (x:Int),V0 (k:Int),V0 0,V0 0,V0 0,V0 0,V0 0,V0 0] (.t B [153,5,29,88,123,266,252,44]) fun y2 o4 t8=>⟨(Zx o4 m9 (Nat.le_trans hBw a1) (by decide)),?_⟩
 have l4:=o4.blkT (((k1.below i1.below).below c9).below c4) m9 (by decide)
 refine xlv 9 l4.rp ?_
 have k5:=o4.blkT (((k2.below i1.below).below c9).below c4) m9 (by decide)
 refine xb 1 4 k5 ?_
 have o6:=(e2.below c4).only (Zd.of_upd (T:=[44]) o4 m9 (by decide)) (by decide)
 have hB:=o4.below (blB (blB (blB (blB (blB (blB (Below.refl B w) hBw n1.below) hBw n2.below) hBw (Za W2)) hBw i1.below) hBw c9) hBw c4) (Nat.le_trans hBw a1)
 refine xc 0 (args:=#[.agg #[P0 ba],.slice p n c]) (Py B ba b g (k*256) cc pa ca N (List.replicate (k*256) (0:UInt8)) p c n (x:Int) Z L _ hZ hL hk.devs (by omega) (fun W h=>hP W (hB.trans h)) hC o6 (by omega) (Nat.le_trans hBw hB.size)) ?_
 rintro _ z9 ⟨rfl,i6,g9,hA⟩
 have a6:=t8.only g9 (by decide)
 refine xs 4 a6 [V0 t,V0 u,V0 v,V0 (x:Int),V0 (k:Int),V0 (↑(Xc (F1 L)):Int),V0 0,V0 0,V0 0,V0 0,V0 0] fun ao j2 q6=>?_
 refine xs 1 q6 [V0 t,V0 u,V0 v,V0 (x:Int),V0 (k:Int),V0 (↑(Xc (F1 L)):Int),V0 (↑(Xc (F2 L)):Int),V0 0,V0 0,V0 0,V0 0] fun h8 j6 v3=>?_
 refine xd 3 (.t B [153,5,29,88,123,266,252,44]) ?_
 have e3:=(j6.blkT (j2.blkT (l4.only g9 (by decide)) a6 (by decide)) q6 (by decide)).below (Za h8)
 refine xbt (.e [0] 1) 0 B [153,5,29,88,123,266,252,44] e3 ?_
 have s3:=(j6.blkT (j2.blkT (k5.only g9 (by decide)) a6 (by decide)) q6 (by decide)).below (Za h8)
 refine xlvt (.e [] 2) (.t B [153,5,29,88,123,266,252,44]) (fun V hV=>(s3.only hV.2 (by decide)).rp) ?_
 have e4:=blB (j6.below (j2.below (hB.trans i6) (Nat.le_trans hBw a1)) (Nat.le_trans hBw a1)) hBw (Za h8)
 refine yc (.o [] 3) (args:=#[.agg #[V0 t,V0 u,V0 v,V0 (x:Int),.slice p n c]]) (.t B [153,5,29,88,123,266,252,44]) (by have q:=Md p c n x t u v Z _ hZ (hP _ e4) (by rw[hL];exact hk);rw[hL] at q;exact q) ?_
 rintro _ ai ⟨_,rfl,c2,q9,d9,rfl,m6⟩
 have s2:=(blB (j6.below (j2.below (hB.trans i6) (Nat.le_trans hBw a1)) (Nat.le_trans hBw a1)) hBw (Za h8)).size
 refine⟨(SF.of_below _ c2),?_⟩
 have n6:=Ze m6 s2
 have p7:=(((hA.only (Zd.of_upd (T:=[44]) j2 a6 (by decide)) (by decide)).only (Zd.of_upd (T:=[44]) j6 q6 (by decide)) (by decide)).below (Za h8)).below c2
 have b0:=blB e4 hBw c2
 refine yc (.o [] 4) (args:=#[P0 ba,.slice q9 x d9]) (.t B [153,5,29,88,123,266,252,44]) (by have q:=Li B ba b g (k*256) cc pa ca 1 N (Xc (F2 L)) (Da L k) q9 d9 (Yi x L) _ hC p7 (by rw[Xy];have q:=Zf n6;rw[←Ey] at q;exact q) (by rw[Xy];omega) (by rw[Hy];have:=Hm hk.devs;omega) (Jy (by omega) hk.devs) (by decide) (by omega) (by omega) (Nat.le_trans hBw b0.size);rw[Xy] at q;exact q) ?_
 rintro _ y6 ⟨rfl,h3,h4,t9,hA⟩
 refine⟨(Ki h3 h4),?_⟩
 have a2:=((v3.below (Za h8)).below c2).only h4 (by decide)
 refine ys (.o [5,6,7,8,9] 10) a2 [V0 t,V0 u,V0 v,V0 (x:Int),V0 (k:Int),V0 (↑(Xc (F1 L)):Int),V0 (↑(Xc (F2 L)):Int),V0 ((Qp x L k).1),V0 0,V0 0,V0 0] (.t B [153,5,29,88,123,266,252,44]) fun ac l2 q3=>⟨(Zx l2 a2 (Nat.le_trans hBw a1) (by decide)),?_⟩
 refine ys (.o [11] 12) q3 [V0 t,V0 u,V0 v,V0 (x:Int),V0 (k:Int),V0 (↑(Xc (F1 L)):Int),V0 (↑(Xc (F2 L)):Int),V0 ((Qp x L k).1),V0 ((Qp x L k).2.1),V0 0,V0 0] (.t B [153,5,29,88,123,266,252,44]) fun w0 p1 v4=>⟨(Zx p1 q3 (Nat.le_trans hBw a1) (by decide)),?_⟩
 refine xr (.r [13] 5) (args:=#[.nilIface]) (Kb _) fun o2 b8=>?_
 refine xd 3 (.t B [153,5,29,88,123,266,252,44]) ?_
 have c6:=((p1.blkT (l2.blkT ((e3.below c2).only h4 (by decide)) a2 (by decide)) q3 (by decide)).below b8).below (Za o2)
 refine xbt (.e [0] 1) 0 B [153,5,29,88,123,266,252,44] c6 ?_
 refine xlvt (.e [] 2) (.t B [153,5,29,88,123,266,252,44]) (fun V hV=>(c6.only hV.2 (by decide)).rp) ?_
 have e7:=(((hA.only (Zd.of_upd (T:=[44]) l2 a2 (by decide)) (by decide)).only (Zd.of_upd (T:=[44]) p1 q3 (by decide)) (by decide)).below b8).below (Za o2)
 refine yc (.o [] 3) (args:=#[.agg #[P0 ba]]) (.t B [153,5,29,88,123,266,252,44]) (La B ba b g cc pa ca 1 N (Hd x L) k _ _ e7 (by omega) (by omega)) ?_
 rintro _ aa ⟨_,rfl,b7,q8,d8,rfl,i5⟩
 have r8:=(blB (blB (p1.below (l2.below (b0.trans h3) (Nat.le_trans hBw a1)) (Nat.le_trans hBw a1)) hBw b8) hBw (Za o2)).size
 refine⟨(SF.of_below _ b7),?_⟩
 have k3:=e7.below b7
 have o1:=Ze i5 r8
 have c5:=blB (blB (blB (p1.below (l2.below (b0.trans h3) (Nat.le_trans hBw a1)) (Nat.le_trans hBw a1)) hBw b8) hBw (Za o2)) hBw b7
 refine yc (.o [] 4) (args:=#[P0 ba,.slice (some q8) k d8]) (.t B [153,5,29,88,123,266,252,44]) (by have q:=Mv B ba b g (k*256) cc pa ca 1 N (Hd x L) (Qp x L k).2.2 q8 d8 (Yd (Hd x L+1) k) _ hC k3 (by rw[Xf];exact Zf o1) (by rw[Xf];omega) (by rw[Xf];omega) (Jn (by omega)) (by omega) (by rw[Gi];omega) (by decide) (by rw[Nat.add_comm 1];exact Gc) (Nat.le_trans hBw c5.size);rw[Xf] at q;exact q) ?_
 rintro _ ad ⟨rfl,f1,f9,u1,hA⟩
 refine⟨(Ki f1 f9),?_⟩
 have a7:=(((v4.below b8).below (Za o2)).below b7).only f9 (by decide)
 refine ys (.o [5,6,7,8,9] 10) a7 [V0 t,V0 u,V0 v,V0 (x:Int),V0 (k:Int),V0 (↑(Xc (F1 L)):Int),V0 (↑(Xc (F2 L)):Int),V0 ((Qp x L k).1),V0 ((Qp x L k).2.1),V0 ((Hh x L k).1),V0 0] (.t B [153,5,29,88,123,266,252,44]) fun aj o7 q2=>⟨(Zx o7 a7 (Nat.le_trans hBw a1) (by decide)),?_⟩
 refine ys (.o [11] 12) q2 [V0 t,V0 u,V0 v,V0 (x:Int),V0 (k:Int),V0 (↑(Xc (F1 L)):Int),V0 (↑(Xc (F2 L)):Int),V0 ((Qp x L k).1),V0 ((Qp x L k).2.1),V0 ((Hh x L k).1),V0 ((Hh x L k).2.1)] (.t B [153,5,29,88,123,266,252,44]) fun ab j9 v7=>⟨(Zx j9 q2 (Nat.le_trans hBw a1) (by decide)),?_⟩
 refine xr (.r [13] 5) (args:=#[.nilIface]) (Kb _) fun w6 a9=>?_
 have o9:=v7.below a9
 refine xlv 4 o9.rp ?_
 refine xc 0 (args:=#[.agg #[V0 t,V0 u,V0 v,V0 (x:Int),V0 (k:Int),V0 (↑(Xc (F1 L)):Int),V0 (↑(Xc (F2 L)):Int),V0 ((Qp x L k).1),V0 ((Qp x L k).2.1),V0 ((Hh x L k).1),V0 ((Hh x L k).2.1)]]) (Tf t u v x k L _ t5) ?_
 rintro _ y7 ⟨_,rfl,h1,q7,d7,rfl,i9⟩
 have s1:=(blB (j9.below (o7.below (c5.trans f1) (Nat.le_trans hBw a1)) (Nat.le_trans hBw a1)) hBw a9).size
 have n7:=((j9.blkT (o7.blkT ((c6.below b7).only f9 (by decide)) a7 (by decide)) q2 (by decide)).below a9).below h1
 refine xb 19 0 n7 ?_
 have e6:=(((hA.only (Zd.of_upd (T:=[44]) o7 a7 (by decide)) (by decide)).only (Zd.of_upd (T:=[44]) j9 q2 (by decide)) (by decide)).below a9).below h1
 refine xr 0 (args:=#[P0 ba]) (Qb ba b _ _ _ e6.blkA) fun z1 f7=>?_
 have i4:=Zb (Ze i9 s1) f7
 have d5:=e6.below f7
 have e1:=blB (blB (blB (j9.below (o7.below (c5.trans f1) (Nat.le_trans hBw a1)) (Nat.le_trans hBw a1)) hBw a9) hBw h1) hBw f7
 refine xc 1 (args:=#[P0 b,V0 0,V0 1,.slice q7 244 d7]) (Wq B b (S1 g) (k*256) cc 0 (0:Int) (Hh x L k).2.2 1 q7 d7 244 (Ao (Od t u v x L k)) _ rfl (Jc _) ⟨d5.blkI,d5.data,hC.hn⟩ (by omega) (by decide) (by decide) (Xp (Zf i4) (Jc _)) (by decide) (Nat.le_trans hBw e1.size)) ?_
 rintro _ ak ⟨rfl,r6,v5,hI⟩
 refine xr 0 (args:=#[.nilIface]) (Kb _) fun x8 p6=>?_
 have t3:=hI.below p6
 have m0:=blB (e1.trans r6) hBw p6
 exact xe 1 (.tuple #[]) ⟨rfl,m0,t3⟩
end Go.Proofs.YtegcamkgeacjfaaGreatDoor
namespace Go.Proofs.YtegcamkgeacjfaaGreatDoor
set_option maxHeartbeats 8000000
set_option maxRecDepth 100000
open Go.RowKit Go.Extern.Stop Go.Stop Go.Extern
set_option linter.unusedVariables false
attribute [local irreducible] wpList wpAnyH Code.wp Oper.wp Go
section
attribute [local semireducible] Oper.wp
theorem Nn{P:Program}{Q:Exit→Act→World→Prop}{a:Act}{w:World}{K:Act→World→Prop}{o:Oper}{c:Operand}{f:FuncId}{cap:Array Value}(ho:o.op=.defer { callee:=.value c,args:=#[],argTypes:=#[] })(hc:a.eval c=.func (.func f) #[] cap)
 (k:K ({ a with defers:={ target:=.fn (.func f) cap,args:=#[] }::a.defers }.put o.dst undef) w):o.wp P a w K Q:=by
 have h2:(execOp a.eval o).run P w=.ok (.defer { target:=.fn (.func f) cap,args:=#[] }) w:=by
  simp[execOp,ho,resolve,hc,Deferred.ofValue]
 simp only[Oper.wp,h2,Oper.upon]
 exact k
end
theorem Zcd{P:Program}{fn:Func}{R:Ending→World→Prop}{a:Act}{w:World}(f:FuncId)(cap:Array Value)(v:Value)(hd:a.defers=[{ target:=.fn (.func f) cap,args:=#[] }])(hi:∀ w,(invoke (.fn (.func f) cap) #[]).run P w=.ok (.enter f cap) w)
 (hc:CallsD P f cap .returning w fun e u w'=>e=.returned (.tuple #[])∧u=.returning∧B3 w w') (h:∀ W,B3 w W→(results fn a.tmps).run P W=.ok v W∧R (.returned v) W):bodyPostD P fn R .ret a w:=by
 show Leaves P fn a.tmps R a.defers .returning w
 rw[hd]
 refine leaves_cons (by simp) (hi w) (hc.mono ?_)
 rintro e u w' ⟨rfl,rfl,hb⟩
 obtain⟨h1,h2⟩:=h w' hb
 exact⟨v,h1,h2⟩
theorem Bp{P:Program}{w:World}{b:Nat}{t:TypeId}{x:Value}(k:Blk w b [x] t)(hu:aggB P t=some false):(loadVar t ⟨b,0,none⟩).run P w=.ok x w:=by
 have hc:w.cell? ⟨b,0,none⟩=some x:=k.cell (i:=0) rfl
 simp[loadVar,Sem.run_bind,As hu,load,Sem.run,hc]
theorem Zcl{P:Program}{fn:Func}{tmps:Array Value}{w:World}{k j:Nat}{t s:TypeId}{b c:Nat}{x y:Value}(hfn:fn.results=#[.cell k t,.cell j s])(e:tmps.getD k undef=P0 b)(e2:tmps.getD j undef=P0 c)
 (hx:Blk w b [x] t) (hy:Blk w c [y] s) (hu:aggB P t=some false) (hu2:aggB P s=some false):(results fn tmps).run P w=.ok (.tuple #[x,y]) w:=by
 have h:=Bp hx hu
 have h2:=Bp hy hu2
 have e':tmps[k]?.getD undef=P0 b:=by simpa using e
 have a0:tmps[j]?.getD undef=P0 c:=by simpa using e2
 simp[results,hfn,e',a0,asAddr,h,h2]
theorem Cn(b c:Nat)(w:World):CallsD Tryz.prog 28 #[P0 b,P0 c] .returning w fun e u w'=>e=.returned (.tuple #[])∧u=.returning∧B3 w w':=by
 refine callsD_of_wpS Tryz.func28 rfl fun c₀ cs hu=>?_
 have a0:∀ w,(Instr.typeAssert .nilIface 20 69 true).run Tryz.prog w=.ok (.tuple #[.agg #[.nilIface],.bool false]) w:=fun w=>by kernel_rfl
 apply wpS_seq
 apply wpS_region
 simp[wpOpsS,go_sem,recoverD,hu,Tryz.ntmps28,Exit.thenS,a0]
 apply wpS_seq
 apply wpS_region
 simp[wpOpsS,go_sem,Exit.thenS]
 refine wpS_cond (t:=false) (by simp[Act.eval,Array.replicate]) ?_
 simp only[Bool.false_eq_true,if_false]
 refine wpS_of_wp (wp_skip ?_)
 cases c₀
 have hb:=blx w (Obj.cells #[Value.nilIface] 69)
 simp_all [bodyPostS,results,Tryz.results28]
end Go.Proofs.YtegcamkgeacjfaaGreatDoor
namespace Go.Proofs.YtegcamkgeacjfaaGreatDoor
set_option maxHeartbeats 8000000
set_option maxRecDepth 100000
open Go.RowKit Go.Extern.Stop Go.Stop Go.Extern
set_option linter.unusedVariables false
attribute [local irreducible] wpList wpAnyH Code.wp Oper.wp Go
theorem Rd(k:Nat)(w:World)(hk:k≤14400) :
 C0 30 #[V0 (k:Int)] w (Qn (fun w' r=>∃ b p c,r=.tuple #[P0 b,V0 0]∧w.heap.size≤b∧ImgR w.heap.size b p (k*256) c (List.replicate (k*256) (0:UInt8)) w') w):=by
 refine zin 15 Tryz.func30 ?_
 refine xgk 12 [5,6] (show(decide ((k:Int)<(0:Int)):Bool)=false from decide_eq_false (by omega)) ?_
 refine xk 5 (show(decide ((k:Int)>(14400:Int)):Bool)=false from decide_eq_false (by omega)) ?_
 refine xwm 5 ((k:Int)*256) (↑(k*256):Int) ?_
 refine xmk 0 fun _ _ _ _ zJ zQ zo zx zy zK=>Kn (k*256) (.int .u8 0) 1 1 ((List.replicate (k*256) (0:UInt8)).map bv) zo zx zy Tryz.underlying40 (by kernel_rfl) rfl (by omega) (by omega) (Dr (k*256)) fun b2 W2 n2=>?_
 refine zK _ _ ?_
 refine xa 1 [.slice (S1 b2) (k*256) (k*256)] 95 fun b3 W3 n3=>?_
 have hB:=bln n2.below n3.below
 have g3:=n3.ge n2.below
 have o2:=Zb (Zw (size:=1) (n:=(k*256)) n2.blk (n2.ge (B4 w)) (by rw[List.length_map,List.length_replicate,Nat.mul_one]) (by unfold maxLen;omega)) n3.below
 exact xe 5 (.tuple #[P0 b3,V0 0]) ⟨_,rfl,hB,_,_,_,rfl,g3,⟨n3.blk,o2,by omega⟩⟩
def LayE(c:Int)(w:World)(e:Ending)(w':World):Prop:=e=.returned (.tuple #[.pointer none,.iface 63 (V0 c)])∧B3 w w'
def LayO(l:Bl)(k:Nat)(w:World)(e:Ending)(w':World):Prop:=∃ bi g ci,e=.returned (.tuple #[P0 bi,.nilIface])∧B3 w w'∧ImgR w.heap.size bi (S1 g) (k*256) ci l w'
theorem lay_LayC(p:O0)(c n:Nat)(t u v x m:Int)(Z:List Zv)(w:World)(hZ:Z.length=n)(hP:DevsR w p c Z)(hk:Xr t u v x (Z.map Prod.fst)≠0) :
 C0 8 #[.agg #[V0 t,V0 u,V0 v,V0 x,.slice p n c],V0 m] w (LayE (Xr t u v x (Z.map Prod.fst)) w):=by
 refine calls_of_wp_defers Tryz.func8 rfl ?_
 refine g_fr ⟨#[.agg #[V0 t,V0 u,V0 v,V0 x,.slice p n c],V0 m,undef,undef,undef,undef,undef,undef,undef,undef,undef,undef,undef,undef,undef,undef,undef,undef,undef,undef,undef,undef,undef,undef,undef,undef,undef,undef,undef,undef,undef,undef,undef,undef,undef,undef,undef,undef,undef,undef,undef,undef],[]⟩ (by kernel_rfl) ?_
 refine wp_seq ?_
 refine wp_region_lit ?_
 refine Qa (by kernel_rfl) (Ry [V0 t,V0 u,V0 v,V0 x,.slice p n c] rfl (by kernel_rfl) ?_)
 intro b1 W1 n1
 have g1:=n1.ge (B4 w)
 have hB:=n1.below
 have k1:=n1.blk
 refine Qa (by kernel_rfl) (Vq [.pointer none] rfl (by kernel_rfl) ?_)
 intro b2 W2 n2
 have a1:=n2.ne k1
 have g2:=n2.ge hB
 replace hB:=bln hB n2.below
 replace k1:=k1.below n2.below
 have k2:=n2.blk
 refine Qa (by kernel_rfl) (Vq [.nilIface] rfl (by kernel_rfl) ?_)
 intro b3 W3 n3
 have a2:=n3.ne k1
 have a0:=n3.ne k2
 have g3:=n3.ge hB
 replace hB:=bln hB n3.below
 replace k1:=k1.below n3.below
 replace k2:=k2.below n3.below
 have k3:=n3.blk
 refine wpList_nil ?_
 refine wp_seq ?_
 refine wp_region_lit ?_
 refine Vy 1 [(9,.func (.func 28) #[] #[P0 b2,P0 b3])] (by kernel_rfl) ?_
 refine Qa (by kernel_rfl) (Nn (f:=28) (cap:=#[P0 b2,P0 b3]) rfl (by kernel_rfl) ?_)
 refine wpList_nil ?_
 refine wp_seq ?_
 refine wp_seq ?_
 refine wp_region_lit ?_
 refine Qa (by kernel_rfl) (Jf (b:=b1) (off:=0) [V0 t,V0 u,V0 v,V0 x,.slice p n c] _ rfl (by kernel_rfl) Tryz.underlying24 rfl (by kernel_rfl) k1.whole ?_)
 refine Qa (by kernel_rfl) (Yl (lb:=#[]) 29 #[.agg #[V0 t,V0 u,V0 v,V0 x,.slice p n c]] rfl (by kernel_rfl) (fun _ _=>by kernel_rfl) (by kernel_rfl) ((Jk p c n t u v x Z _ hZ (hP.below hB)).mono ?_))
 rintro e W4 ⟨rfl,a3⟩
 refine⟨_,rfl,?_⟩
 replace hB:=bln hB a3
 replace k1:=k1.below a3
 replace k2:=k2.below a3
 replace k3:=k3.below a3
 refine Vy 1 [(6,V0 (Xr t u v x (Z.map Prod.fst)))] (by kernel_rfl) ?_
 refine wpList_nil ?_
 refine wp_seq ?_
 refine wp_region_lit ?_
 refine Vy 2 [(12,V0 (Xr t u v x (Z.map Prod.fst))),(13,.bool ((Xr t u v x (Z.map Prod.fst)) != (0:Int)))] (by kernel_rfl) ?_
 refine wpList_nil ?_
 refine wp_cond_split (t:=((Xr t u v x (Z.map Prod.fst)) != (0:Int))) (by kernel_rfl) (fun _=>?_) (fun hh=>absurd (hh.symm.trans (show(((Xr t u v x (Z.map Prod.fst)) != (0:Int)):Bool)=true from(by simpa using hk))) (by decide))
 refine wp_seq ?_
 refine wp_region_lit ?_
 refine Vy 2 [(14,V0 (Xr t u v x (Z.map Prod.fst))),(15,.iface 63 (V0 (Xr t u v x (Z.map Prod.fst))))] (by kernel_rfl) ?_
 refine Qa (by kernel_rfl) (Yh (v:=.pointer none) (b:=b2) (off:=0) rfl (by kernel_rfl) (by kernel_rfl) (by kernel_rfl) rfl k2 (by first|decide|simp) ?_)
 intro W6 u6 k6
 change Blk _ _ [.pointer none] _ at k6
 replace hB:=u6.below hB g2
 replace k1:=u6.blk k1 (Ne.symm (Ne.symm a1))
 replace k3:=u6.blk k3 (Ne.symm a0)
 refine Qa (by kernel_rfl) (Yh (v:=.iface 63 (V0 (Xr t u v x (Z.map Prod.fst)))) (b:=b3) (off:=0) rfl (by kernel_rfl) (by kernel_rfl) (by kernel_rfl) rfl k3 (by first|decide|simp) ?_)
 intro W7 u7 k7
 change Blk _ _ [.iface 63 (V0 (Xr t u v x (Z.map Prod.fst)))] _ at k7
 replace hB:=u7.below hB g3
 replace k1:=u7.blk k1 (Ne.symm (Ne.symm a2))
 replace k6:=u7.blk k6 (Ne.symm (Ne.symm a0))
 refine wpList_nil ?_
 refine wp_ret (Kd ?_)
 refine Zcd 28 #[P0 b2,P0 b3] (.tuple #[.pointer none,.iface 63 (V0 (Xr t u v x (Z.map Prod.fst)))]) rfl (fun _=>by kernel_rfl) (Cn b2 b3 _) fun W9 a4=>⟨Zcl rfl (by kernel_rfl) (by kernel_rfl) (k6.below a4) (k7.below a4) (by kernel_rfl) (by kernel_rfl),?_⟩
 exact⟨rfl,hB.trans (a4.mono hB.size)⟩
theorem Zc9(m:Int)(w:World)(h:m<0∨14400<m) :
 C0 30 #[V0 m] w (Ret (.tuple #[.pointer none,V0 2]) w):=by
 refine zin 15 Tryz.func30 ?_
 refine xg 12 [5,6] (decide (m<(0:Int))) (fun a0=>?_) (fun a0=>?_)
 ·have a0:=of_decide_eq_true a0
  exact xe 14 (.tuple #[.pointer none,V0 2]) ⟨rfl,(B4 w)⟩
 have a0:=of_decide_eq_false a0
 refine xk 5 (show(decide (m>(14400:Int)):Bool)=true from decide_eq_true (by omega)) ?_
 exact xe 8 (.tuple #[.pointer none,V0 2]) ⟨rfl,(B4 w)⟩
theorem lay_LayR(p:O0)(c n:Nat)(t u v x m:Int)(Z:List Zv)(w:World)(hZ:Z.length=n)(hP:DevsR w p c Z)(hk:Xr t u v x (Z.map Prod.fst)=0)(hm:m<0∨14400<m) :
 C0 8 #[.agg #[V0 t,V0 u,V0 v,V0 x,.slice p n c],V0 m] w (LayE 2 w):=by
 refine calls_of_wp_defers Tryz.func8 rfl ?_
 refine g_fr ⟨#[.agg #[V0 t,V0 u,V0 v,V0 x,.slice p n c],V0 m,undef,undef,undef,undef,undef,undef,undef,undef,undef,undef,undef,undef,undef,undef,undef,undef,undef,undef,undef,undef,undef,undef,undef,undef,undef,undef,undef,undef,undef,undef,undef,undef,undef,undef,undef,undef,undef,undef,undef,undef],[]⟩ (by kernel_rfl) ?_
 refine wp_seq ?_
 refine wp_region_lit ?_
 refine Qa (by kernel_rfl) (Ry [V0 t,V0 u,V0 v,V0 x,.slice p n c] rfl (by kernel_rfl) ?_)
 intro b1 W1 n1
 have g1:=n1.ge (B4 w)
 have hB:=n1.below
 have k1:=n1.blk
 refine Qa (by kernel_rfl) (Vq [.pointer none] rfl (by kernel_rfl) ?_)
 intro b2 W2 n2
 have a1:=n2.ne k1
 have g2:=n2.ge hB
 replace hB:=bln hB n2.below
 replace k1:=k1.below n2.below
 have k2:=n2.blk
 refine Qa (by kernel_rfl) (Vq [.nilIface] rfl (by kernel_rfl) ?_)
 intro b3 W3 n3
 have a2:=n3.ne k1
 have a0:=n3.ne k2
 have g3:=n3.ge hB
 replace hB:=bln hB n3.below
 replace k1:=k1.below n3.below
 replace k2:=k2.below n3.below
 have k3:=n3.blk
 refine wpList_nil ?_
 refine wp_seq ?_
 refine wp_region_lit ?_
 refine Vy 1 [(9,.func (.func 28) #[] #[P0 b2,P0 b3])] (by kernel_rfl) ?_
 refine Qa (by kernel_rfl) (Nn (f:=28) (cap:=#[P0 b2,P0 b3]) rfl (by kernel_rfl) ?_)
 refine wpList_nil ?_
 refine wp_seq ?_
 refine wp_seq ?_
 refine wp_region_lit ?_
 refine Qa (by kernel_rfl) (Jf (b:=b1) (off:=0) [V0 t,V0 u,V0 v,V0 x,.slice p n c] _ rfl (by kernel_rfl) Tryz.underlying24 rfl (by kernel_rfl) k1.whole ?_)
 refine Qa (by kernel_rfl) (Yl (lb:=#[]) 29 #[.agg #[V0 t,V0 u,V0 v,V0 x,.slice p n c]] rfl (by kernel_rfl) (fun _ _=>by kernel_rfl) (by kernel_rfl) ((Jk p c n t u v x Z _ hZ (hP.below hB)).mono ?_))
 rintro e W4 ⟨rfl,a4⟩
 refine⟨_,rfl,?_⟩
 replace hB:=bln hB a4
 replace k1:=k1.below a4
 replace k2:=k2.below a4
 replace k3:=k3.below a4
 refine Vy 1 [(6,V0 (Xr t u v x (Z.map Prod.fst)))] (by kernel_rfl) ?_
 refine wpList_nil ?_
 refine wp_seq ?_
 refine wp_region_lit ?_
 refine Vy 2 [(12,V0 (Xr t u v x (Z.map Prod.fst))),(13,.bool ((Xr t u v x (Z.map Prod.fst)) != (0:Int)))] (by kernel_rfl) ?_
 refine wpList_nil ?_
 refine wp_cond_split (t:=((Xr t u v x (Z.map Prod.fst)) != (0:Int))) (by kernel_rfl) (fun hh=>absurd (hh.symm.trans (show(((Xr t u v x (Z.map Prod.fst)) != (0:Int)):Bool)=false from(by rw[hk];rfl))) (by decide)) (fun _=>?_)
 refine wp_skip ?_
 refine wp_seq ?_
 refine wp_region_lit ?_
 refine Vy 1 [(17,V0 m)] (by kernel_rfl) ?_
 refine Qa (by kernel_rfl) (Yl (lb:=#[]) 30 #[V0 m] rfl (by kernel_rfl) (fun _ _=>by kernel_rfl) (by kernel_rfl) ((Zc9 m _ hm).mono ?_))
 rintro e W6 ⟨rfl,a3⟩
 refine⟨_,rfl,?_⟩
 replace hB:=bln hB a3
 replace k1:=k1.below a3
 replace k2:=k2.below a3
 replace k3:=k3.below a3
 refine Vy 3 [(16,.tuple #[.pointer none,V0 2]),(19,.pointer none),(20,V0 2)] (by kernel_rfl) ?_
 refine Qa (by kernel_rfl) (Yh (v:=.pointer none) (b:=b2) (off:=0) rfl (by kernel_rfl) (by kernel_rfl) (by kernel_rfl) rfl k2 (by first|decide|simp) ?_)
 intro W7 u7 k7
 change Blk _ _ [.pointer none] _ at k7
 replace hB:=u7.below hB g2
 replace k1:=u7.blk k1 (Ne.symm (Ne.symm a1))
 replace k3:=u7.blk k3 (Ne.symm a0)
 refine Vy 1 [(7,V0 2)] (by kernel_rfl) ?_
 refine wpList_nil ?_
 refine wp_seq ?_
 refine wp_seq ?_
 refine wp_region_lit ?_
 refine Vy 2 [(21,V0 2),(22,.bool true)] (by kernel_rfl) ?_
 refine wpList_nil ?_
 refine wp_cond_true (by kernel_rfl) ?_
 refine wp_seq ?_
 refine wp_region_lit ?_
 refine Vy 2 [(23,V0 2),(24,.iface 63 (V0 2))] (by kernel_rfl) ?_
 refine Qa (by kernel_rfl) (Yh (v:=.pointer none) (b:=b2) (off:=0) rfl (by kernel_rfl) (by kernel_rfl) (by kernel_rfl) rfl k7 (by first|decide|simp) ?_)
 intro W8 u8 k8
 change Blk _ _ [.pointer none] _ at k8
 replace hB:=u8.below hB g2
 replace k1:=u8.blk k1 (Ne.symm (Ne.symm a1))
 replace k3:=u8.blk k3 (Ne.symm a0)
 refine Qa (by kernel_rfl) (Yh (v:=.iface 63 (V0 2)) (b:=b3) (off:=0) rfl (by kernel_rfl) (by kernel_rfl) (by kernel_rfl) rfl k3 (by first|decide|simp) ?_)
 intro W9 u9 k9
 change Blk _ _ [.iface 63 (V0 2)] _ at k9
 replace hB:=u9.below hB g3
 replace k1:=u9.blk k1 (Ne.symm (Ne.symm a2))
 replace k8:=u9.blk k8 (Ne.symm (Ne.symm a0))
 refine wpList_nil ?_
 refine wp_ret (Kd ?_)
 refine Zcd 28 #[P0 b2,P0 b3] (.tuple #[.pointer none,.iface 63 (V0 2)]) rfl (fun _=>by kernel_rfl) (Cn b2 b3 _) fun W9 a5=>⟨Zcl rfl (by kernel_rfl) (by kernel_rfl) (k8.below a5) (k9.below a5) (by kernel_rfl) (by kernel_rfl),?_⟩
 exact⟨rfl,hB.trans (a5.mono hB.size)⟩
theorem lay_LayN(p:O0)(c n x k:Nat)(t u v:Int)(Z:List Zv)(w:World)(hZ:Z.length=n)(hP:DevsR w p c Z)(hk:PoolOk t u v (x:Int) (Z.map Prod.fst))(hk2:k≤14400)(hr:k<Kk x (Z.map Prod.fst)) :
 C0 8 #[.agg #[V0 t,V0 u,V0 v,V0 (x:Int),.slice p n c],V0 (k:Int)] w (LayE 14 w):=by
 refine calls_of_wp_defers Tryz.func8 rfl ?_
 refine g_fr ⟨#[.agg #[V0 t,V0 u,V0 v,V0 (x:Int),.slice p n c],V0 (k:Int),undef,undef,undef,undef,undef,undef,undef,undef,undef,undef,undef,undef,undef,undef,undef,undef,undef,undef,undef,undef,undef,undef,undef,undef,undef,undef,undef,undef,undef,undef,undef,undef,undef,undef,undef,undef,undef,undef,undef,undef],[]⟩ (by kernel_rfl) ?_
 refine wp_seq ?_
 refine wp_region_lit ?_
 refine Qa (by kernel_rfl) (Ry [V0 t,V0 u,V0 v,V0 (x:Int),.slice p n c] rfl (by kernel_rfl) ?_)
 intro b1 W1 n1
 have g1:=n1.ge (B4 w)
 have hB:=n1.below
 have k1:=n1.blk
 refine Qa (by kernel_rfl) (Vq [.pointer none] rfl (by kernel_rfl) ?_)
 intro b2 W2 n2
 have a1:=n2.ne k1
 have g2:=n2.ge hB
 replace hB:=bln hB n2.below
 replace k1:=k1.below n2.below
 have k2:=n2.blk
 refine Qa (by kernel_rfl) (Vq [.nilIface] rfl (by kernel_rfl) ?_)
 intro b3 W3 n3
 have a3:=n3.ne k1
 have a0:=n3.ne k2
 have g3:=n3.ge hB
 replace hB:=bln hB n3.below
 replace k1:=k1.below n3.below
 replace k2:=k2.below n3.below
 have k3:=n3.blk
 refine wpList_nil ?_
 refine wp_seq ?_
 refine wp_region_lit ?_
 refine Vy 1 [(9,.func (.func 28) #[] #[P0 b2,P0 b3])] (by kernel_rfl) ?_
 refine Qa (by kernel_rfl) (Nn (f:=28) (cap:=#[P0 b2,P0 b3]) rfl (by kernel_rfl) ?_)
 refine wpList_nil ?_
 refine wp_seq ?_
 refine wp_seq ?_
 refine wp_region_lit ?_
 refine Qa (by kernel_rfl) (Jf (b:=b1) (off:=0) [V0 t,V0 u,V0 v,V0 (x:Int),.slice p n c] _ rfl (by kernel_rfl) Tryz.underlying24 rfl (by kernel_rfl) k1.whole ?_)
 refine Qa (by kernel_rfl) (Yl (lb:=#[]) 29 #[.agg #[V0 t,V0 u,V0 v,V0 (x:Int),.slice p n c]] rfl (by kernel_rfl) (fun _ _=>by kernel_rfl) (by kernel_rfl) ((Jk p c n t u v (x:Int) Z _ hZ (hP.below hB)).mono ?_))
 rintro e W4 ⟨rfl,a5⟩
 refine⟨_,rfl,?_⟩
 replace hB:=bln hB a5
 replace k1:=k1.below a5
 replace k2:=k2.below a5
 replace k3:=k3.below a5
 refine Vy 1 [(6,V0 (Xr t u v (x:Int) (Z.map Prod.fst)))] (by kernel_rfl) ?_
 refine wpList_nil ?_
 refine wp_seq ?_
 refine wp_region_lit ?_
 refine Vy 2 [(12,V0 (Xr t u v (x:Int) (Z.map Prod.fst))),(13,.bool ((Xr t u v (x:Int) (Z.map Prod.fst)) != (0:Int)))] (by kernel_rfl) ?_
 refine wpList_nil ?_
 refine wp_cond_split (t:=((Xr t u v (x:Int) (Z.map Prod.fst)) != (0:Int))) (by kernel_rfl) (fun hh=>absurd (hh.symm.trans (show(((Xr t u v (x:Int) (Z.map Prod.fst)) != (0:Int)):Bool)=false from(by rw[Ks.2 hk];rfl))) (by decide)) (fun _=>?_)
 refine wp_skip ?_
 refine wp_seq ?_
 refine wp_region_lit ?_
 refine Vy 1 [(17,V0 (k:Int))] (by kernel_rfl) ?_
 have b5:w.heap.size≤W4.heap.size:=hB.size
 have b0:=k2.lt
 have a9:=k3.lt
 refine Qa (by kernel_rfl) (Yl (lb:=#[]) 30 #[V0 (k:Int)] rfl (by kernel_rfl) (fun _ _=>by kernel_rfl) (by kernel_rfl) ((Rd k _ (by omega)).mono ?_))
 rintro e W6 ⟨_,rfl,a4,bi,pi,ci,rfl,gi,hI⟩
 refine⟨_,rfl,?_⟩
 replace hB:=bln hB a4
 replace k1:=k1.below a4
 replace k2:=k2.below a4
 replace k3:=k3.below a4
 refine Vy 3 [(16,.tuple #[P0 bi,V0 0]),(19,P0 bi),(20,V0 0)] (by kernel_rfl) ?_
 refine Qa (by kernel_rfl) (Yh (v:=P0 bi) (b:=b2) (off:=0) rfl (by kernel_rfl) (by kernel_rfl) (by kernel_rfl) rfl k2 (by first|decide|simp) ?_)
 intro W7 u7 k7
 change Blk _ _ [P0 bi] _ at k7
 replace hB:=u7.below hB g2
 replace k1:=u7.blk k1 (Ne.symm (Ne.symm a1))
 replace k3:=u7.blk k3 (Ne.symm a0)
 replace hI:=hI.only (Zd.of_upd (T:=[27]) u7 k2 (by decide)) (by decide)
 refine Vy 1 [(7,V0 0)] (by kernel_rfl) ?_
 refine wpList_nil ?_
 refine wp_seq ?_
 refine wp_seq ?_
 refine wp_region_lit ?_
 refine Vy 2 [(21,V0 0),(22,.bool false)] (by kernel_rfl) ?_
 refine wpList_nil ?_
 refine wp_cond_false (by kernel_rfl) ?_
 refine wp_skip ?_
 refine wp_seq ?_
 refine wp_seq ?_
 refine wp_region_lit ?_
 refine Qa (by kernel_rfl) (Jf (b:=b1) (off:=0) [V0 t,V0 u,V0 v,V0 (x:Int),.slice p n c] _ rfl (by kernel_rfl) Tryz.underlying24 rfl (by kernel_rfl) k1.whole ?_)
 refine Vy 1 [(26,V0 (k:Int))] (by kernel_rfl) ?_
 refine Qa (by kernel_rfl) (Yl (lb:=#[]) 31 #[.agg #[V0 t,V0 u,V0 v,V0 (x:Int),.slice p n c],V0 (k:Int)] rfl (by kernel_rfl) (fun _ _=>by kernel_rfl) (by kernel_rfl) ((Zdc p c n x k t u v Z _ hZ (hP.below hB) hk hr).mono ?_))
 rintro e W8 ⟨rfl,a2⟩
 refine⟨_,rfl,?_⟩
 replace hB:=bln hB a2
 replace k1:=k1.below a2
 replace k7:=k7.below a2
 replace k3:=k3.below a2
 replace hI:=hI.below a2
 refine Vy 1 [(28,.bool true)] (by kernel_rfl) ?_
 refine wpList_nil ?_
 refine wp_cond_true (by kernel_rfl) ?_
 refine wp_seq ?_
 refine wp_region_lit ?_
 refine Vy 1 [(29,.iface 63 (V0 14))] (by kernel_rfl) ?_
 refine Qa (by kernel_rfl) (Yh (v:=.pointer none) (b:=b2) (off:=0) rfl (by kernel_rfl) (by kernel_rfl) (by kernel_rfl) rfl k7 (by first|decide|simp) ?_)
 intro W9 u9 k9
 change Blk _ _ [.pointer none] _ at k9
 replace hB:=u9.below hB g2
 replace k1:=u9.blk k1 (Ne.symm (Ne.symm a1))
 replace k3:=u9.blk k3 (Ne.symm a0)
 replace hI:=hI.only (Zd.of_upd (T:=[27]) u9 k7 (by decide)) (by decide)
 refine Qa (by kernel_rfl) (Yh (v:=.iface 63 (V0 14)) (b:=b3) (off:=0) rfl (by kernel_rfl) (by kernel_rfl) (by kernel_rfl) rfl k3 (by first|decide|simp) ?_)
 intro b4 a6 a8
 change Blk _ _ [.iface 63 (V0 14)] _ at a8
 replace hB:=a6.below hB g3
 replace k1:=a6.blk k1 (Ne.symm (Ne.symm a3))
 replace k9:=a6.blk k9 (Ne.symm (Ne.symm a0))
 replace hI:=hI.only (Zd.of_upd (T:=[29]) a6 k3 (by decide)) (by decide)
 refine wpList_nil ?_
 refine wp_ret (Kd ?_)
 refine Zcd 28 #[P0 b2,P0 b3] (.tuple #[.pointer none,.iface 63 (V0 14)]) rfl (fun _=>by kernel_rfl) (Cn b2 b3 _) fun W9 a7=>⟨Zcl rfl (by kernel_rfl) (by kernel_rfl) (k9.below a7) (a8.below a7) (by kernel_rfl) (by kernel_rfl),?_⟩
 exact⟨rfl,hB.trans (a7.mono hB.size)⟩
theorem Zb0(p:O0)(c n x k:Nat)(t u v:Int)(Z:List Zv)(w:World)(hZ:Z.length=n)(hP:DevsR w p c Z)(hk:PoolOk t u v (x:Int) (Z.map Prod.fst))(hk3:k≤3000)(hr:Kk x (Z.map Prod.fst)≤k) :
 C0 8 #[.agg #[V0 t,V0 u,V0 v,V0 (x:Int),.slice p n c],V0 (k:Int)] w (LayO (Je t u v x (Z.map Prod.fst) k) k w):=by
 have c4:k≤14400:=by omega
 refine calls_of_wp_defers Tryz.func8 rfl ?_
 refine g_fr ⟨#[.agg #[V0 t,V0 u,V0 v,V0 (x:Int),.slice p n c],V0 (k:Int),undef,undef,undef,undef,undef,undef,undef,undef,undef,undef,undef,undef,undef,undef,undef,undef,undef,undef,undef,undef,undef,undef,undef,undef,undef,undef,undef,undef,undef,undef,undef,undef,undef,undef,undef,undef,undef,undef,undef,undef],[]⟩ (by kernel_rfl) ?_
 refine wp_seq ?_
 refine wp_region_lit ?_
 refine Qa (by kernel_rfl) (Ry [V0 t,V0 u,V0 v,V0 (x:Int),.slice p n c] rfl (by kernel_rfl) ?_)
 intro b1 W1 n1
 have g1:=n1.ge (B4 w)
 have hB:=n1.below
 have k1:=n1.blk
 refine Qa (by kernel_rfl) (Vq [.pointer none] rfl (by kernel_rfl) ?_)
 intro b2 W2 n2
 have a7:=n2.ne k1
 have g2:=n2.ge hB
 replace hB:=bln hB n2.below
 replace k1:=k1.below n2.below
 have k2:=n2.blk
 refine Qa (by kernel_rfl) (Vq [.nilIface] rfl (by kernel_rfl) ?_)
 intro b3 W3 n3
 have a9:=n3.ne k1
 have a0:=n3.ne k2
 have g3:=n3.ge hB
 replace hB:=bln hB n3.below
 replace k1:=k1.below n3.below
 replace k2:=k2.below n3.below
 have k3:=n3.blk
 refine wpList_nil ?_
 refine wp_seq ?_
 refine wp_region_lit ?_
 refine Vy 1 [(9,.func (.func 28) #[] #[P0 b2,P0 b3])] (by kernel_rfl) ?_
 refine Qa (by kernel_rfl) (Nn (f:=28) (cap:=#[P0 b2,P0 b3]) rfl (by kernel_rfl) ?_)
 refine wpList_nil ?_
 refine wp_seq ?_
 refine wp_seq ?_
 refine wp_region_lit ?_
 refine Qa (by kernel_rfl) (Jf (b:=b1) (off:=0) [V0 t,V0 u,V0 v,V0 (x:Int),.slice p n c] _ rfl (by kernel_rfl) Tryz.underlying24 rfl (by kernel_rfl) k1.whole ?_)
 refine Qa (by kernel_rfl) (Yl (lb:=#[]) 29 #[.agg #[V0 t,V0 u,V0 v,V0 (x:Int),.slice p n c]] rfl (by kernel_rfl) (fun _ _=>by kernel_rfl) (by kernel_rfl) ((Jk p c n t u v (x:Int) Z _ hZ (hP.below hB)).mono ?_))
 rintro e W4 ⟨rfl,b4⟩
 refine⟨_,rfl,?_⟩
 replace hB:=bln hB b4
 replace k1:=k1.below b4
 replace k2:=k2.below b4
 replace k3:=k3.below b4
 refine Vy 1 [(6,V0 (Xr t u v (x:Int) (Z.map Prod.fst)))] (by kernel_rfl) ?_
 refine wpList_nil ?_
 refine wp_seq ?_
 refine wp_region_lit ?_
 refine Vy 2 [(12,V0 (Xr t u v (x:Int) (Z.map Prod.fst))),(13,.bool ((Xr t u v (x:Int) (Z.map Prod.fst)) != (0:Int)))] (by kernel_rfl) ?_
 refine wpList_nil ?_
 refine wp_cond_split (t:=((Xr t u v (x:Int) (Z.map Prod.fst)) != (0:Int))) (by kernel_rfl) (fun hh=>absurd (hh.symm.trans (show(((Xr t u v (x:Int) (Z.map Prod.fst)) != (0:Int)):Bool)=false from(by rw[Ks.2 hk];rfl))) (by decide)) (fun _=>?_)
 refine wp_skip ?_
 refine wp_seq ?_
 refine wp_region_lit ?_
 refine Vy 1 [(17,V0 (k:Int))] (by kernel_rfl) ?_
 have b7:w.heap.size≤W4.heap.size:=hB.size
 have c5:=k2.lt
 have c2:=k3.lt
 refine Qa (by kernel_rfl) (Yl (lb:=#[]) 30 #[V0 (k:Int)] rfl (by kernel_rfl) (fun _ _=>by kernel_rfl) (by kernel_rfl) ((Rd k _ (by omega)).mono ?_))
 rintro e W6 ⟨_,rfl,b0,bi,pi,ci,rfl,gi,hI⟩
 refine⟨_,rfl,?_⟩
 replace hB:=bln hB b0
 replace k1:=k1.below b0
 replace k2:=k2.below b0
 replace k3:=k3.below b0
 refine Vy 3 [(16,.tuple #[P0 bi,V0 0]),(19,P0 bi),(20,V0 0)] (by kernel_rfl) ?_
 refine Qa (by kernel_rfl) (Yh (v:=P0 bi) (b:=b2) (off:=0) rfl (by kernel_rfl) (by kernel_rfl) (by kernel_rfl) rfl k2 (by first|decide|simp) ?_)
 intro W7 u7 k7
 change Blk _ _ [P0 bi] _ at k7
 replace hB:=u7.below hB g2
 replace k1:=u7.blk k1 (Ne.symm (Ne.symm a7))
 replace k3:=u7.blk k3 (Ne.symm a0)
 replace hI:=hI.only (Zd.of_upd (T:=[27]) u7 k2 (by decide)) (by decide)
 refine Vy 1 [(7,V0 0)] (by kernel_rfl) ?_
 refine wpList_nil ?_
 refine wp_seq ?_
 refine wp_seq ?_
 refine wp_region_lit ?_
 refine Vy 2 [(21,V0 0),(22,.bool false)] (by kernel_rfl) ?_
 refine wpList_nil ?_
 refine wp_cond_false (by kernel_rfl) ?_
 refine wp_skip ?_
 refine wp_seq ?_
 refine wp_seq ?_
 refine wp_region_lit ?_
 refine Qa (by kernel_rfl) (Jf (b:=b1) (off:=0) [V0 t,V0 u,V0 v,V0 (x:Int),.slice p n c] _ rfl (by kernel_rfl) Tryz.underlying24 rfl (by kernel_rfl) k1.whole ?_)
 refine Vy 1 [(26,V0 (k:Int))] (by kernel_rfl) ?_
 refine Qa (by kernel_rfl) (Yl (lb:=#[]) 31 #[.agg #[V0 t,V0 u,V0 v,V0 (x:Int),.slice p n c],V0 (k:Int)] rfl (by kernel_rfl) (fun _ _=>by kernel_rfl) (by kernel_rfl) ((Zfg p c n x k t u v Z _ hZ (hP.below hB) hk hr c4).mono ?_))
 rintro e W8 ⟨rfl,a6⟩
 refine⟨_,rfl,?_⟩
 replace hB:=bln hB a6
 replace k1:=k1.below a6
 replace k7:=k7.below a6
 replace k3:=k3.below a6
 replace hI:=hI.below a6
 refine Vy 1 [(28,.bool false)] (by kernel_rfl) ?_
 refine wpList_nil ?_
 refine wp_cond_false (by kernel_rfl) ?_
 refine wp_skip ?_
 refine wp_seq ?_
 refine wp_region_lit ?_
 refine Qa (by kernel_rfl) (Kz ⟨b2,0,none⟩ (P0 bi) rfl (by kernel_rfl) (by kernel_rfl) (k7.cell (i:=0) rfl) ?_)
 have d0:Kk x (Z.map Prod.fst)≥3:=by unfold Kk Uo;omega
 have c1:W4.heap.size≤(W8).heap.size:=Nat.le_trans gi (Nat.le_of_lt hI.blk.lt)
 obtain⟨g,rfl,c3⟩:=hI.base (by omega)
 refine Qa (by kernel_rfl) (Yl (lb:=#[]) 32 #[P0 bi,V0 1] rfl (by kernel_rfl) (fun _ _=>by kernel_rfl) (by kernel_rfl) ((Ze9 bi (S1 g) (k*256) ci 1 (k-1) (1:Int) rfl (by omega) _ hI.blk (by omega) (by decide) (by omega)).mono ?_))
 rintro e W9 ⟨_,rfl,a4,ba,pa,ca,rfl,ga,ka,ho⟩
 refine⟨_,rfl,?_⟩
 replace hB:=bln hB a4
 replace k1:=k1.below a4
 replace k7:=k7.below a4
 replace k3:=k3.below a4
 replace hI:=hI.below a4
 have hA:AlF (W4.heap.size) ba bi g (k*256) ci pa ca (k-1) (List.replicate (k*256) (0:UInt8)) [] _:=⟨ka,hI.blk,hI.row,Ze ho c1⟩
 have hC:AlC (W4.heap.size) ba (k*256) ci ca 1 (k-1):=⟨by omega,c3,Ty ho (by omega),by omega,Nat.le_trans c1 ga⟩
 refine Vy 4 [(30,.tuple #[P0 ba,.nilIface]),(33,P0 ba),(34,.nilIface),(8,P0 ba)] (by kernel_rfl) ?_
 refine Qa (by kernel_rfl) (Yh (v:=.nilIface) (b:=b3) (off:=0) rfl (by kernel_rfl) (by kernel_rfl) (by kernel_rfl) rfl k3 (by first|decide|simp) ?_)
 intro c9 b6 a8
 change Blk _ _ [.nilIface] _ at a8
 replace hB:=b6.below hB g3
 replace k1:=b6.blk k1 (Ne.symm (Ne.symm a9))
 replace k7:=b6.blk k7 (Ne.symm (Ne.symm a0))
 replace hA:=hA.only (Zd.of_upd (T:=[29]) b6 k3 (by decide)) (by decide)
 refine wpList_nil ?_
 refine wp_seq ?_
 refine wp_region_lit ?_
 refine Qa (by kernel_rfl) (Kz ⟨b3,0,none⟩ .nilIface rfl (by kernel_rfl) (by kernel_rfl) (a8.cell (i:=0) rfl) ?_)
 refine Qa (by kernel_rfl) (Yl (lb:=#[]) 33 #[.nilIface] rfl (by kernel_rfl) (fun _ _=>by kernel_rfl) (by kernel_rfl) ((Kb _).mono ?_))
 rintro e c7 ⟨rfl,a2⟩
 refine⟨_,rfl,?_⟩
 replace hB:=bln hB a2
 replace k1:=k1.below a2
 replace k7:=k7.below a2
 replace a8:=a8.below a2
 replace hA:=hA.below a2
 refine wpList_nil ?_
 refine wp_seq ?_
 refine wp_region_lit ?_
 refine Vy 2 [(37,P0 ba),(38,.agg #[P0 ba])] (by kernel_rfl) ?_
 refine Qa (by kernel_rfl) (Jf (b:=b1) (off:=0) [V0 t,V0 u,V0 v,V0 (x:Int),.slice p n c] _ rfl (by kernel_rfl) Tryz.underlying24 rfl (by kernel_rfl) k1.whole ?_)
 refine Qa (by kernel_rfl) (Yl (lb:=#[]) 34 #[.agg #[P0 ba],.agg #[V0 t,V0 u,V0 v,V0 (x:Int),.slice p n c]] rfl (by kernel_rfl) (fun _ _=>by kernel_rfl) (by kernel_rfl) ((lay_all (W4.heap.size) ba bi g ci pa ca (k-1) k p c n x t u v Z (Z.map Prod.fst) _ hZ rfl hk (fun W h=>hP.below (hB.trans (h.mono b7))) rfl hC hA hr hk3 (Nat.le_trans gi (Nat.le_of_lt hA.blkI.lt))).mono ?_))
 rintro e c8 ⟨rfl,a5,hI⟩
 refine⟨_,rfl,?_⟩
 have a3:=k7.below' a5 c5
 have a1:=a8.below' a5 c2
 replace hB:=hB.trans (a5.mono b7)
 refine wpList_nil ?_
 refine wp_seq ?_
 refine wp_region_lit ?_
 refine Qa (by kernel_rfl) (Kz ⟨b2,0,none⟩ (P0 bi) rfl (by kernel_rfl) (by kernel_rfl) (a3.cell (i:=0) rfl) ?_)
 refine Qa (by kernel_rfl) (Yh (v:=P0 bi) (b:=b2) (off:=0) rfl (by kernel_rfl) (by kernel_rfl) (by kernel_rfl) rfl a3 (by first|decide|simp) ?_)
 intro c6 b8 b5
 change Blk _ _ [P0 bi] _ at b5
 replace hB:=b8.below hB g2
 replace a1:=b8.blk a1 (Ne.symm a0)
 replace hI:=hI.only (Zd.of_upd (T:=[27]) b8 a3 (by decide)) (by decide)
 refine Qa (by kernel_rfl) (Yh (v:=.nilIface) (b:=b3) (off:=0) rfl (by kernel_rfl) (by kernel_rfl) (by kernel_rfl) rfl a1 (by first|decide|simp) ?_)
 intro d1 b9 c0
 change Blk _ _ [.nilIface] _ at c0
 replace hB:=b9.below hB g3
 replace b5:=b9.blk b5 (Ne.symm (Ne.symm a0))
 replace hI:=hI.only (Zd.of_upd (T:=[29]) b9 a1 (by decide)) (by decide)
 refine wpList_nil ?_
 refine wp_ret ?_
 refine Zcd 28 #[P0 b2,P0 b3] (.tuple #[P0 bi,.nilIface]) rfl (fun _=>by kernel_rfl) (Cn b2 b3 _) fun W9 a4=>⟨Zcl rfl (by kernel_rfl) (by kernel_rfl) (b5.below a4) (c0.below a4) (by kernel_rfl) (by kernel_rfl),?_⟩
 exact⟨_,_,_,rfl,hB.trans (a4.mono hB.size),⟨hI.blk.below a4,Ze (Zb hI.row a4) b7,hI.hn⟩⟩
def Zgs(x y z u:Int):Bool:=decide (0≤x∧x≤16384)&&decide (0≤y∧y≤2147483647)&&decide (0≤z∧z≤16777215)&&decide (0≤u∧u≤16777215)
def DetStrP(x y z u:Int)(w:World)(e:Ending)(w':World):Prop :=
 (Zgs x y z u=false∧e=.returned (.string ⟨#[]⟩)∧B3 w w')∨(Zgs x y z u=true∧e=.returned (.string ⟨(Fc [x,y,z,u] [8,8,4,4] 4).toArray⟩)∧B3 w w')
theorem detQ_ok{x y z u:Int}(h:Zgs x y z u=true):Zc7 [x,y,z,u] [8,8,4,4]:=by
 unfold Zgs at h
 simp only[Bool.and_eq_true,decide_eq_true_iff] at h
 refine⟨show 4≤100 from by decide,rfl,fun i hi=>?_⟩
 have a0:i<4:=hi
 obtain rfl|rfl|rfl|rfl:i=0∨i=1∨i=2∨i=3:=by omega
 all_goals simp[List.getD]
 all_goals omega
theorem Af(x y z u:Int)(w:World) :
 C0 179 #[.agg #[V0 x,V0 y,V0 z,V0 u]] w (DetStrP x y z u w):=by
 refine zin 36 Tryz.func179 ?_
 refine xa 2 [V0 x,V0 y,V0 z,V0 u] 202 fun b1 W1 n1=>?_
 refine xb 7 0 n1.blk ?_
 refine xr 0 (args:=#[V0 x,V0 0,V0 16384]) (Qv x 0 16384 _) fun W2 b0=>?_
 refine xg 2 [6,7] (!(decide ((0:Int)≤x∧x≤16384))) (fun b9=>?_) (fun b9=>?_)
 ·have c3:(decide ((0:Int)≤x∧x≤16384))=false:=Va b9
  have hB:=bln n1.below b0
  exact xe 27 (.string ⟨#[]⟩) (.inl ⟨by unfold Zgs;first|(rw[c3];done)|(rw[c3];rfl)|(rw[c3];simp),rfl,hB⟩)
 have a0:(decide ((0:Int)≤x∧x≤16384))=true:=Vb b9
 have b6:=n1.blk.below b0
 refine xb 1 1 b6 ?_
 refine xr 0 (args:=#[V0 y,V0 0,V0 2147483647]) (Qv y 0 2147483647 _) fun W6 b2=>?_
 refine xg 3 [11,12,13] (!(decide ((0:Int)≤y∧y≤2147483647))) (fun c4=>?_) (fun c4=>?_)
 ·have c2:(decide ((0:Int)≤y∧y≤2147483647))=false:=Va c4
  have hB:=bln (bln n1.below b0) b2
  exact xe 21 (.string ⟨#[]⟩) (.inl ⟨by unfold Zgs;first|(rw[a0,c2];done)|(rw[a0,c2];rfl)|(rw[a0,c2];simp),rfl,hB⟩)
 have a6:(decide ((0:Int)≤y∧y≤2147483647))=true:=Vb c4
 have b5:=b6.below b2
 refine xb 1 2 b5 ?_
 refine xr 0 (args:=#[V0 z,V0 0,V0 16777215]) (Qv z 0 16777215 _) fun d0 a3=>?_
 refine xg 3 [17,18,19] (!(decide ((0:Int)≤z∧z≤16777215))) (fun a9=>?_) (fun a9=>?_)
 ·have a7:(decide ((0:Int)≤z∧z≤16777215))=false:=Va a9
  have hB:=bln (bln (bln n1.below b0) b2) a3
  exact xe 15 (.string ⟨#[]⟩) (.inl ⟨by unfold Zgs;first|(rw[a0,a6,a7];done)|(rw[a0,a6,a7];rfl)|(rw[a0,a6,a7];simp),rfl,hB⟩)
 have a2:(decide ((0:Int)≤z∧z≤16777215))=true:=Vb a9
 have b3:=b5.below a3
 refine xb 1 3 b3 ?_
 refine xr 0 (args:=#[V0 u,V0 0,V0 16777215]) (Qv u 0 16777215 _) fun d2 a4=>?_
 refine xi 4 (!(decide ((0:Int)≤u∧u≤16777215))) (fun a5=>?_) (fun a5=>?_)
 ·have a8:(decide ((0:Int)≤u∧u≤16777215))=false:=Va a5
  have hB:=bln (bln (bln (bln n1.below b0) b2) a3) a4
  exact xe 7 (.string ⟨#[]⟩) (.inl ⟨by unfold Zgs;first|(rw[a0,a6,a2,a8];done)|(rw[a0,a6,a2,a8];rfl)|(rw[a0,a6,a2,a8];simp),rfl,hB⟩)
 have c0:(decide ((0:Int)≤u∧u≤16777215))=true:=Vb a5
 have a1:=b3.below a4
 refine xb 5 0 a1 ?_
 refine xb 1 1 a1 ?_
 refine xb 1 2 a1 ?_
 refine xb 1 3 a1 ?_
 refine xbs 0 4 [V0 x,V0 y,V0 z,V0 u] 3 fun c7 d1 c1=>?_
 refine xbs 0 4 [V0 8,V0 8,V0 4,V0 4] 3 fun c8 c9 b7=>?_
 have b8:=b7.ne c1.blk
 have c6:Zgs x y z u=true:=by
  unfold Zgs
  rw[a0,a6,a2,c0];rfl
 have b4:=c1.blk.below b7.below
 refine xr 0 (args:=#[.slice (S1 c7) 4 4,.slice (S1 c8) 4 4]) (Jq [x,y,z,u] [8,8,4,4] (S1 c7) (S1 c8) 4 4 _ (detQ_ok c6) (b4.sl 4 4 (by decide) (by decide)) (b7.blk.sl 4 4 (by decide) (by decide))) fun d3 c5=>?_
 have hB:=bln (bln (bln (bln (bln (bln (bln n1.below b0) b2) a3) a4) c1.below) b7.below) c5
 exact xe 4 (.string ⟨(Fc [x,y,z,u] [8,8,4,4] 4).toArray⟩) (.inr ⟨c6,rfl,hB⟩)
theorem txt1(x:Int)(w:Nat):Fc [x] [w] 1=leB x w:=by simp[Fc,List.range,List.range.loop]
theorem mapV_leB(m:Mp):Zdy m=leB (m.2.1*16777216+m.2.2) 8:=by simp[Zdy,Zfc,mapP,List.range,List.range.loop]
theorem txtOk1{x:Int}{w:Nat}(h:0≤x∧x<9223372036854775808)(hw:w≤8):Zc7 [x] [w]:=⟨show 1≤100 from by decide,rfl,fun i hi=>by
 have a0:i<1:=hi
 obtain rfl:i=0:=by omega
 exact⟨h.1,h.2,hw⟩⟩
theorem Ei(r:Int)(w:World)(h:1≤r∧r≤14399) :
 C0 93 #[V0 r] w (Ret (.string ⟨(leB r 4).toArray⟩) w):=by
 refine zin 10 Tryz.func93 ?_
 refine xr 9 (args:=#[V0 r,V0 1,V0 14399]) (Qv r 1 14399 _) fun W1 a2=>?_
 refine xk 3 (show(!(decide ((1:Int)≤r∧r≤14399)):Bool)=false from by rw[decide_eq_true (by omega)];rfl) ?_
 refine xbs 5 1 [V0 r] 3 fun b2 W2 n2=>?_
 refine xbs 0 1 [V0 4] 3 fun b3 W3 n3=>?_
 have a1:=n3.ne n2.blk
 have a0:=n2.blk.below n3.below
 refine xr 0 (args:=#[.slice (S1 b2) 1 1,.slice (S1 b3) 1 1]) (by have q:=Jq [r] [4] (S1 b2) (S1 b3) 1 1 _ (txtOk1 ⟨by omega,by omega⟩ (by decide)) (a0.sl 1 1 (by decide) (by decide)) (n3.blk.sl 1 1 (by decide) (by decide));rw[show Fc [r] [4] [r].length=leB r 4 from txt1 _ _] at q;exact q) fun W4 a3=>?_
 have hB:=bln (bln (bln a2 n2.below) n3.below) a3
 exact xe 4 (.string ⟨(leB r 4).toArray⟩) ⟨rfl,hB⟩
theorem Zfb(m:Mp)(w:World)(h1:0≤m.2.1∧m.2.1≤65535)(h2:0≤m.2.2∧m.2.2≤16777215) :
 C0 92 #[V0 m.2.1,V0 m.2.2] w (Ret (.string ⟨(Zdy m).toArray⟩) w):=by
 refine zin 20 Tryz.func92 ?_
 refine xr 9 (args:=#[V0 m.2.1,V0 0,V0 65535]) (Qv m.2.1 0 65535 _) fun W1 a3=>?_
 refine xgk 2 [7,8] (show(!(decide ((0:Int)≤m.2.1∧m.2.1≤65535)):Bool)=false from by rw[decide_eq_true (by omega)];rfl) ?_
 refine xr 1 (args:=#[V0 m.2.2,V0 0,V0 16777215]) (Qv m.2.2 0 16777215 _) fun W3 a4=>?_
 refine xk 4 (show(!(decide ((0:Int)≤m.2.2∧m.2.2≤16777215)):Bool)=false from by rw[decide_eq_true (by omega)];rfl) ?_
 refine xw 5 (m.2.1*16777216) ?_
 refine xw 1 (m.2.1*16777216+m.2.2) ?_
 refine xbs 0 1 [V0 (m.2.1*16777216+m.2.2)] 3 fun b4 W4 n4=>?_
 refine xbs 0 1 [V0 8] 3 fun b5 W5 n5=>?_
 have a1:=n5.ne n4.blk
 have a0:=n4.blk.below n5.below
 refine xr 0 (args:=#[.slice (S1 b4) 1 1,.slice (S1 b5) 1 1]) (by have q:=Jq [m.2.1*16777216+m.2.2] [8] (S1 b4) (S1 b5) 1 1 _ (txtOk1 ⟨by omega,by omega⟩ (by decide)) (a0.sl 1 1 (by decide) (by decide)) (n5.blk.sl 1 1 (by decide) (by decide));rw[show Fc [m.2.1*16777216+m.2.2] [8] [m.2.1*16777216+m.2.2].length=leB (m.2.1*16777216+m.2.2) 8 from txt1 _ _] at q;exact q) fun W6 a2=>?_
 have hB:=bln (bln (bln (bln a3 a4) n4.below) n5.below) a2
 exact xe 4 (.string ⟨(leB (m.2.1*16777216+m.2.2) 8).toArray⟩) ⟨by rw[mapV_leB],hB⟩
theorem Ts(data n:Int)(d:Dv)(w:World)(h:DevOk data d)(hn:0≤n∧n≤16384):C0 179 #[.agg #[V0 n,V0 d.1.2.1,V0 d.1.2.2.1,V0 d.1.2.2.2]] w (Ret (.string ⟨(Kx n d).toArray⟩) w):=by
 refine(Af n d.1.2.1 d.1.2.2.1 d.1.2.2.2 w).mono ?_
 rintro e W q
 have h1:=h.tx
 have h2:=h.made
 have h3:=h.snap
 rcases q with ⟨hq,_⟩|⟨_,rfl,hb⟩
 ·unfold Zgs at hq
  rw[decide_eq_true hn,decide_eq_true h1,decide_eq_true h2,decide_eq_true h3] at hq
  cases hq
 ·exact⟨rfl,hb⟩
theorem Tr(p:O0)(c:Nat)(data:Int)(m:List Mp)(w:World)(h:Sts mapC w (.slice p m.length c) m)(hok:MapsOk data m)(hd:data≤65536)(hf:m.length≤16384) :
 C0 40 #[.slice p m.length c] w (Qn (fun w' r=>∃ q d,r=.slice q m.length d∧w'.ownsRow w.heap.size 123 3 (.slice q m.length d) m.length ((Hp m).flatMap Yj)) w):=by
 have b6:=Sl.len h
 refine zin 32 Tryz.func40 ?_
 have hB:=Below.refl w.heap.size w
 refine zl 17 32 (fun zm b0 V=>∃ (k:Nat) (p1:O0) (c1:Nat),b0=[(0,.slice p m.length c),(2,S0),(3,.slice p1 k c1),(4,V0 (k:Int))]∧zm=m.length-((k:Int)).toNat∧B3 w V∧V.ownsRow w.heap.size 123 3 (.slice p1 k c1) k (((Hp m).take k).flatMap Yj)∧k≤m.length) ⟨0,none,0,rfl,rfl,hB,World.ownsRow_nil _ _ _ _,Nat.zero_le _⟩ ?_
 rintro _ _ W1 ⟨k,p1,c1,rfl,rfl,a5,hl,hk⟩ J1 b2 r1
 refine xid 9 ((k:Int)<(m.length:Int)) (fun b3=>?_) (fun b3=>?_)
 ·have b7:=hok.each (m.getD k mpD) (Nu _ (by omega))
  refine xd 4 (.t w.heap.size [123]) ?_
  refine xx (.e [0,1,2] 3) _ m.length k 3 (Sts.cell h Xx mpD (k:=k) (i:=0) (by omega) rfl).1 ?_
  have a0:=bln a5 (Za W1)
  refine xlt (.e [4] 5) (.t w.heap.size [123]) (fun V hV=>(Sts.cell (h.below (Vr a0 hV (Nat.le_refl _))) Xx mpD (k:=k) (i:=0) (by omega) rfl).2) ?_
  refine xx (.e [6,7] 8) _ m.length k 3 (Sts.cell h Xx mpD (k:=k) (i:=0) (by omega) rfl).1 ?_
  refine xlt (.e [9] 10) (.t w.heap.size [123]) (fun V hV=>(Sts.cell (h.below (Vr a0 hV (Nat.le_refl _))) Xx mpD (k:=k) (i:=1) (by omega) rfl).2) ?_
  refine xx (.e [11,12] 13) _ m.length k 3 (Sts.cell h Xx mpD (k:=k) (i:=0) (by omega) rfl).1 ?_
  refine xlt (.e [14] 15) (.t w.heap.size [123]) (fun V hV=>(Sts.cell (h.below (Vr a0 hV (Nat.le_refl _))) Xx mpD (k:=k) (i:=2) (by omega) rfl).2) ?_
  refine xr (.o [] 16) (args:=#[V0 ((m.getD k mpD).2.1),V0 ((m.getD k mpD).2.2)]) (Zfb (m.getD k mpD) _ ⟨by omega,by omega⟩ ⟨by omega,by omega⟩) fun W3 a8=>?_
  refine xbs (.o [17] 18) 1 [V0 ((m.getD k mpD).1),.string ⟨(Zdy (m.getD k mpD)).toArray⟩,V0 0] 123 fun b4 W4 n4=>?_
  have a4:=bln a0 a8
  have g4:=n4.ge a4
  have a1:=Zb (Zb hl (Za W1)) a8
  have a7:=Zr a1 n4
  have a2:=Zb a1 n4.below
  have a3:=bln a4 n4.below
  refine ybi (.o [] 19) (.t w.heap.size [123]) fun _ _ _ _ zJ zQ zo zx zy zK=>Zn (m:=1) (news:=[V0 ((m.getD k mpD).1),.string ⟨(Zdy (m.getD k mpD)).toArray⟩,V0 0]) (.agg #[V0 0,.string ⟨#[]⟩,V0 0]) 3 32 (k+1) ((((Hp m).take (k+1)).flatMap Yj)) zo Tryz.underlying88 (by kernel_rfl) rfl (by decide) zx a2 zy (n4.blk.sl 1 1 (by decide) (by decide)) rfl (by simp[Value.oneCell']) (by unfold maxLen;omega) (by omega) a3.size (by rfl) (by exact Wf (by rw[Qr];omega) (Gb (by omega))) fun b8 b5 W5 o5 b1 a9=>?_
  refine zK _ _ (Zt a9 b1 a2 (by decide)) ?_
  refine xwm (.r [20] 5) ((k:Int)+1) (↑(k+1):Int) ?_
  have a6:=a3.trans a9
  exact ze 2 (b2 _ _ _ ⟨k+1,_,_,rfl,rfl,a6,o5,by omega⟩ (by omega))
 exact xe 12 (.slice p1 k c1) (by obtain rfl:k=m.length:=(by omega);have q:=hl;rw[List.take_of_length_le (by rw[Qr];omega)] at q;exact⟨_,rfl,a5,_,_,rfl,q⟩)
theorem Bb(z:Zv)(data:Int)(w:World)(h:DevOk data z.1)(hf:z.1.2.length≤16384) :
 C0 94 #[.agg #[V0 z.1.1.1,V0 z.1.1.2.1,V0 z.1.1.2.2.1,V0 z.1.1.2.2.2,.slice z.2.1 z.1.2.length z.2.2]] w (Ret (.agg #[V0 z.1.1.1,.string ⟨(Kx (↑z.1.2.length:Int) z.1).toArray⟩,V0 0]) w):=by
 refine zin 17 Tryz.func94 ?_
 refine xa 2 [V0 z.1.1.1,V0 z.1.1.2.1,V0 z.1.1.2.2.1,V0 z.1.1.2.2.2,.slice z.2.1 z.1.2.length z.2.2] 61 fun b1 W1 n1=>?_
 refine xa 0 [V0 0,.string ⟨#[]⟩,V0 0] 123 fun b2 W2 n2=>?_
 refine xd 3 (.t w.heap.size [123]) ?_
 have k1:=(n1.blk.below n2.below).below (Za W2)
 refine xbt (.e [0] 1) 0 w.heap.size [123] k1 ?_
 refine xbt (.e [2] 3) 4 w.heap.size [123] k1 ?_
 refine xbt (.e [4,5] 6) 1 w.heap.size [123] k1 ?_
 refine xbt (.e [7] 8) 2 w.heap.size [123] k1 ?_
 refine xbt (.e [9] 10) 3 w.heap.size [123] k1 ?_
 refine xr (.o [11] 12) (args:=#[.agg #[V0 (↑z.1.2.length:Int),V0 z.1.1.2.1,V0 z.1.1.2.2.1,V0 z.1.1.2.2.2]]) (Ts data (↑z.1.2.length:Int) z.1 _ h ⟨by omega,by omega⟩) fun W3 a0=>?_
 have k2:=(n2.blk.below (Za W2)).below a0
 have g2:=n2.ge n1.below
 refine ysv (.o [13] 14) k2 [V0 z.1.1.1,.string ⟨(Kx (↑z.1.2.length:Int) z.1).toArray⟩,V0 0] (.t w.heap.size [123]) fun W4 u4 k4=>⟨(Zx u4 k2 g2 (by decide)),?_⟩
 have hB:=u4.below (bln (bln (bln n1.below n2.below) (Za W2)) a0) g2
 exact xec 3 k4 (.agg #[V0 z.1.1.1,.string ⟨(Kx (↑z.1.2.length:Int) z.1).toArray⟩,V0 0]) ⟨rfl,hB⟩
end Go.Proofs.YtegcamkgeacjfaaGreatDoor
