/- The document's answer for layer 47: Links. -/
import Derived.RangeFuncNested
import Derived.RangeFuncBound
import Derived.RangeFuncCalls
import Derived.RangeFuncLeaves
import Derived.Shelf.Abstract
import Derived.Shelf.RegionOpen
import Derived.OwnWalkIn
import Derived.TacticsInMore
import Derived.LoopNIn
import Derived.LoopIn
import Derived.Sort.BigQuietIn
import Derived.Test.YtceeiinepijokaaGreatDoorMg5
namespace Go.Proofs.YtceeiinepijokaaGreatDoor
set_option maxHeartbeats 8000000
set_option maxRecDepth 100000
open Go.RowKit Go.Extern.Stop Go.Stop Go.Extern
set_option linter.unusedVariables false
attribute [local irreducible] wpList wpAnyH Code.wp Oper.wp Go
def Zep(O:Kx)(w:World)(e:Ending)(w':World):Prop :=
 (O.2.2≠0∧∃ a m d,m=O.2.1.length∧e=.returned (.tuple #[S0,.agg #[.slice a m d,V0 O.2.2]])∧B3 w w'∧w'.ownsRow w.heap.size 3 1 (.slice a m d) m (O.2.1.map V0)) ∨
 (O.2.2=0∧∃ p c,e=.returned (.tuple #[.slice p O.1.length c,.agg #[S0,V0 0]])∧B3 w w'∧w'.ownsRow w.heap.size 81 3 (.slice p O.1.length c) O.1.length (O.1.flatMap lrC))
theorem Uc{O:Kx}{c:List Lk}{bl:List Int}{er:Int}{m d:Nat}{a:O0}{w W:World}(h:O=(c,bl,er))(her:er≠0)(hm:m=bl.length)(hb:B3 w W)(ho:W.ownsRow w.heap.size 3 1 (.slice a m d) m (bl.map V0)):Zep O w (.returned (.tuple #[S0,.agg #[.slice a m d,V0 er]])) W:=by
 subst h;exact .inl ⟨her,a,m,d,hm,rfl,hb,ho⟩
theorem rlink_ok{O:Kx}{c:List Lk}{n d:Nat}{p:O0}{w W:World}(h:O.2.2=0)(h1:O.1=c)(hn:c.length=n)(hb:B3 w W)(ho:W.ownsRow w.heap.size 81 3 (.slice p n d) n (c.flatMap lrC)):Zep O w (.returned (.tuple #[.slice p n d,.agg #[S0,V0 0]])) W:=by
 subst h1 hn;exact .inr ⟨h,p,d,rfl,hb,ho⟩
theorem supKs_ge{s:Sup}(h:Zp s=true):∀ x∈Az s,0≤x.2.1:=by
 unfold Zp at h
 simp only[Bool.and_eq_true,decide_eq_true_eq,true_and] at h
 intro x hx
 simp only[Az,List.mem_cons,List.not_mem_nil,or_false] at hx
 rcases hx with rfl|rfl|rfl|rfl|rfl|rfl<;>simp only<;>omega
theorem hasJ_ge{l:Bl}{no ak:Int}:∀ x∈Mc l no ak,0≤x.2.1:=by
 intro x hx
 unfold Mc at hx
 split at hx
 ·obtain⟨s,_,rfl⟩:=List.mem_map.1 hx;show(0:Int)≤((_:Nat):Int);omega
 ·split at hx
  ·cases hx
  ·unfold Zea at hx
   split at hx
   ·cases hx
   ·obtain⟨v,_,rfl⟩:=List.mem_map.1 hx
    unfold Uz
    split<;>(show(0:Int)≤((_:Nat):Int);omega)
theorem Mx(Bi bm:Nat)(p:O0)(k cm:Nat)(l:Bl)(s:Sup)(w:World)(hI:RefI Bi bm p k cm l w) :
 C0 8 #[P0 bm,.agg #[V0 s.tx,V0 s.time,V0 s.unit,V0 s.data,V0 s.blocks,V0 s.top,V0 s.details,V0 s.dslots,V0 s.dover,V0 s.mindex,V0 s.mover]] w (Zep (Xr l s) w):=by
 refine zin 101 Tryz.func8 ?_
 refine xa 2 [V0 s.tx,V0 s.time,V0 s.unit,V0 s.data,V0 s.blocks,V0 s.top,V0 s.details,V0 s.dslots,V0 s.dover,V0 s.mindex,V0 s.mover] 24 fun b1 W1 n1=>?_
 refine xa 1 [S0,V0 0] 36 fun b2 W2 n2=>?_
 have k1:=n1.blk.below n2.below
 refine xlv 5 k1.rp ?_
 refine xr 0 (args:=#[.agg #[V0 s.tx,V0 s.time,V0 s.unit,V0 s.data,V0 s.blocks,V0 s.top,V0 s.details,V0 s.dslots,V0 s.dover,V0 s.mindex,V0 s.mover]]) (Zen s _) fun W3 e5=>?_
 refine xi 3 (!(Zp s)) (fun i7=>?_) (fun i7=>?_)
 ·have h0:Zp s=false:=Kb i7
  have k2:=n2.blk.below e5
  refine xsv 4 k2 [S0,V0 1] fun W5 u5 k5=>?_
  have g2:=n2.ge n1.below
  have hB:=u5.below (bln (bln n1.below n2.below) e5) g2
  refine xec 4 k5 (.tuple #[S0,.agg #[S0,V0 1]]) ?_
  exact Uc (bl:=[]) (show Xr l s=([],[],1) from if_pos h0) (by decide) rfl hB (World.ownsRow_nil _ _ _ _)
 have h0:Zp s=true:=Ka i7
 have h5:=Th h0
 obtain⟨nb,l2⟩:∃ nb:Nat,s.blocks=(nb:Int):=⟨s.blocks.toNat,by omega⟩
 have e2:Xr l s=(Wg l nb [] (Az s)):=by unfold Xr;rw[if_neg (by rw[h0];decide),l2,Int.toNat_natCast]
 have n8:=Zb8 [] nb
 have j2:=k1.below e5
 have d2:=j2
 rw[l2] at d2
 refine xb 5 5 d2 ?_
 refine xb 3 6 d2 ?_
 refine xb 3 7 d2 ?_
 refine xb 3 8 d2 ?_
 refine xb 3 9 d2 ?_
 refine xb 3 10 d2 ?_
 refine xbs 2 6 [V0 0,V0 s.top,V0 1,V0 0,V0 0,V0 s.details,V0 3,V0 0,V0 0,V0 s.dslots,V0 4,V0 0,V0 0,V0 s.dover,V0 5,V0 0,V0 0,V0 s.mindex,V0 6,V0 0,V0 0,V0 s.mover,V0 5,V0 0] 83 fun b6 W6 n6=>?_
 have g6:=n6.ge (bln (bln n1.below n2.below) e5)
 have j4:=(((hI.below n1.below).below n2.below).below e5).below n6.below
 have hB:=bln (bln (bln n1.below n2.below) e5) n6.below
 have g7:=d2.below n6.below
 have k2:=(n2.blk.below e5).below n6.below
 refine zl 10 101 (fun zm m1 V=>∃ (c:List Lk) (po:O0) (co:Nat) (ts:List Lk) (aw:O0) (cw:Nat),m1=[(0,P0 bm),(3,P0 b1),(5,P0 b2),(6,.slice aw ts.length cw),(7,.slice po c.length co)]∧zm=1001*unt c nb+ts.length∧B3 w V∧Blk V b1 ([V0 s.tx,V0 s.time,V0 s.unit,V0 s.data,V0 (nb:Int),V0 s.top,V0 s.details,V0 s.dslots,V0 s.dover,V0 s.mindex,V0 s.mover]) 24∧Blk V b2 ([S0,V0 0]) 36∧V.ownsRow w.heap.size 81 3 (.slice po c.length co) c.length (c.flatMap lrC)∧Zc1 w.heap.size V aw cw ts∧RefI Bi bm p k cm l V∧Wg l nb c ts=(Wg l nb [] (Az s))∧Ql nb c+ts.length≤Ql nb []+6∧((∀ x∈ts,0≤x.2.1))) ⟨[],none,0,(Az s),(S1 b6),6,rfl,rfl,hB,g7,k2,World.ownsRow_nil _ _ _ _,(Zc1.of (Xb (size:=4) (n:=6) n6.blk g6 rfl (by decide)) rfl),j4,rfl,Nat.le_refl _,?_⟩ ?_
 ·exact supKs_ge h0
 rintro _ _ W7 ⟨c,po,co,ts,aw,cw,rfl,rfl,b4,h3,a4,ho,l3,hI,a3,h5,i5⟩ J7 k9 r7
 have i6:Ql nb []≤1001*nb:=by unfold Ql;simp only[List.length_nil];omega
 have n4:c.length+ts.length≤20000000:=by have q:=h5;unfold Ql at q i6;omega
 refine xid 8 ((ts.length:Int)>(0:Int)) (fun i2=>?_) (fun i2=>?_)
 ·obtain⟨⟨fq,tq,kq,a1⟩,r,c5⟩:∃ x r,ts=x::r:=List.exists_cons_of_ne_nil (fun q=>by rw[q] at i2;simp at i2)
  have k4:ts.length=r.length+1:=by rw[c5];rfl
  rw[c5] at a3
  have n5:0≤tq:=i5 (fq,tq,kq,a1) (by rw[c5];simp)
  have h7:=l3.at_
  refine xx 6 _ ts.length 0 4 (Sts.cell (f:=wkC) (l:=(fq,tq,kq,a1)::r) (h7.sts c5) Zbi (0,0,0,0) (k:=0) (i:=0) (Nat.succ_pos _) rfl).1 ?_
  refine xlv 0 (Sts.rp (k:=0) (h7.sts c5) Zbi (0,0,0,0) (Nat.succ_pos _) (by decide)) ?_
  refine xa 0 [V0 0,V0 0,V0 0,V0 0] 83 fun b9 W9 n9=>?_
  have g9:=n9.ge b4
  refine xsv 0 n9.blk [V0 fq,V0 tq,V0 kq,V0 a1] fun n3 b3 e1=>?_
  refine xsL 5 (fun _ _ _ _ zo zx zy V=>Xv (k:=1) (b:=aw) (n:=ts.length) (c:=cw) (i:=1) (ki:=.i64) 4 zo zx zy rfl (by omega) Tryz.underlying84 (by kernel_rfl) V) ?_
  refine xb 7 3 e1 ?_
  refine xin 3 a1 (0:Int) (fun i0=>?_) (fun i0=>?_)
  ·refine xb 4 0 e1 ?_
   refine xb 1 3 e1 ?_
   refine xc 0 (args:=#[V0 fq,V0 a1]) (Zcx fq a1 _ (by omega)) ?_
   rintro _ o4 ⟨pa,ca,rfl,f6,j6⟩
   have i8:=(b3.below (bln b4 n9.below) g9).size
   have c2:=(b3.blkT (a4.below n9.below) n9.blk (by decide)).below f6
   refine xsv 1 c2 [.slice pa 1 ca,V0 a1] fun n7 k8 m3=>?_
   have g2:=n2.ge n1.below
   have d4:=k8.own2 (Zd j6 i8) c2 (by decide)
   have f1:=k8.below (bln (b3.below (bln b4 n9.below) g9) f6) g2
   refine xec 8 m3 (.tuple #[S0,.agg #[.slice pa 1 ca,V0 a1]]) ?_
   first|exact Uc (e2.trans (a3.symm.trans (Zdk (x:=(fq,tq,kq,a1)) (by assumption)))) (by assumption) rfl f1 d4|exact Uc (e2.trans (a3.symm.trans (Zej (x:=(fq,tq,kq,a1)) (by assumption) (fun q=>by have q1:=q.1;have q2:=q.2;simp only at q1 q2;omega)))) (by decide) rfl f1 d4
  refine xb 7 1 e1 ?_
  have a8:=b3.blkT (h3.below n9.below) n9.blk (by decide)
  refine xb 1 4 a8 ?_
  refine xid 3 (tq≥(nb:Int)) (fun k0=>?_) (fun k0=>?_)
  ·refine xb 4 1 e1 ?_
   refine xc 0 (args:=#[V0 tq,V0 3]) (Zcx tq 3 _ (by omega)) ?_
   rintro _ p3 ⟨pa,ca,rfl,f4,j6⟩
   have j0:=(b3.below (bln b4 n9.below) g9).size
   have b8:=(b3.blkT (a4.below n9.below) n9.blk (by decide)).below f4
   refine xsv 1 b8 [.slice pa 1 ca,V0 3] fun o8 k6 l5=>?_
   have g2:=n2.ge n1.below
   have d5:=k6.own2 (Zd j6 j0) b8 (by decide)
   have f3:=k6.below (bln (b3.below (bln b4 n9.below) g9) f4) g2
   refine xec 8 l5 (.tuple #[S0,.agg #[.slice pa 1 ca,V0 3]]) ?_
   first|exact Uc (e2.trans (a3.symm.trans (Zdk (x:=(fq,tq,kq,a1)) (by assumption)))) (by assumption) rfl f3 d5|exact Uc (e2.trans (a3.symm.trans (Zej (x:=(fq,tq,kq,a1)) (by assumption) (fun q=>by have q1:=q.1;have q2:=q.2;simp only at q1 q2;omega)))) (by decide) rfl f3 d5
  have j8:a1=0:=by assumption
  have g5:0≤tq∧tq<(nb:Int):=by omega
  refine xb 7 1 e1 ?_
  have f7:=b3.own2 (Zb ho n9.below) n9.blk (by decide)
  refine xr 0 (args:=#[.slice po c.length co,V0 tq]) (ref47_told _ _ c tq _ (Ze f7)) fun o1 a0=>?_
  have d3:=e1.below a0
  refine xlv 8 (d3.rpp 0 3) ?_
  refine xbs 0 1 [V0 fq,V0 tq,V0 kq] 81 fun p1 o9 b5=>?_
  have f2:=bln (b3.below (bln b4 n9.below) g9) a0
  have n0:=b5.ge f2
  have g1:=Zb f7 a0
  have i1:=Zn g1 b5
  have a2:=Zb g1 b5.below
  have c3:=bln f2 b5.below
  refine xbi 0 fun _ _ _ _ zJ zQ zo zx zy zK=>Zr (m:=1) (news:=[V0 fq,V0 tq,V0 kq]) (.agg #[V0 0,V0 0,V0 0]) 3 24 ((c++[(fq,tq,kq,a1)]).length) (((c++[(fq,tq,kq,a1)]).flatMap lrC)) zo Tryz.underlying33 (by kernel_rfl) rfl (by decide) zx a2 zy (b5.blk.sl 1 1 (by decide) (by decide)) rfl (by simp[Value.oneCell']) (by unfold maxLen;omega) (by omega) c3.size (by simp) (by rw[List.flatMap_append];rfl) fun l6 m5 p4 l1 a5 c4=>?_
  refine zK _ _ ?_
  refine xi 10 (!(!(Vg c tq))) (fun e3=>?_) (fun e3=>?_)
  ·have e8:Vg c tq=true:=by simpa using e3
   have h4:=((((h7.below n9.below).updN b3 n9 (by omega)).below a0).below b5.below).only (Zf.of_grown (T:=[81]) a5 a2 (by decide)) (by decide)
   refine xv1 3 6 (show(.slice (Qu aw 1 cw 4) (ts.length-1) (cw-1):Value)=.slice (Qu aw 1 cw 4) r.length (cw-1) from by rw[c5];rfl) ?_
   have j3:=c3.trans c4
   have d1:=((a8.below a0).below b5.below).grown a5 a2 (by decide)
   have c7:=(((b3.blkT (a4.below n9.below) n9.blk (by decide)).below a0).below b5.below).grown a5 a2 (by decide)
   have j1:=((((hI.below n9.below).only (Zf.of_upd (T:=[83]) b3 n9.blk (by decide)) (by decide)).below a0).below b5.below).only (Zf.of_grown (T:=[81]) a5 a2 (by decide)) (by decide)
   refine ze 0 (k9 _ _ _ ⟨(c++[(fq,tq,kq,a1)]),_,_,r,(Qu aw 1 cw 4),(cw-1),rfl,rfl,j3,d1,c7,l1,(Wr.tail h4 c5),j1,(by subst j8;exact(linkO_more (x:=(fq,tq,kq,0)) rfl g5 e8).symm.trans a3),(by have:=Za2 c (fq,tq,kq,a1) nb;unfold Ql at h5 ⊢;rw[List.length_append];simp only[List.length_singleton];omega),(fun x hx=>i5 x (by rw[c5];exact List.mem_cons_of_mem _ hx))⟩ ?_)
   have:=Za2 c (fq,tq,kq,a1) nb
   show 1001*unt (c++[(fq,tq,kq,a1)]) nb+r.length<1001*unt c nb+ts.length
   omega
  have e8:Vg c tq=false:=by simpa using e3
  have d6:=(d3.below b5.below).grown a5 a2 (by decide)
  refine xb 7 1 d6 ?_
  refine xb 2 2 d6 ?_
  have f5:=((((hI.below n9.below).only (Zf.of_upd (T:=[83]) b3 n9.blk (by decide)) (by decide)).below a0).below b5.below).only (Zf.of_grown (T:=[81]) a5 a2 (by decide)) (by decide)
  refine xc 0 (args:=#[P0 bm,V0 tq,V0 kq]) (ref47_has Bi bm p k cm l tq kq _ f5) ?_
  rintro e o7 h9
  rcases h9 with ⟨e7,p9,m9,c9,a9,d9,rfl,a7,m2⟩|⟨e7,p9,c9,a9,d9,rfl,a7,m8⟩
  ·have d7:=(c3.trans c4).size
   refine xa 3 [S0,V0 0] 36 fun o2 o5 e0=>?_
   have c1:=((((b3.blkT (a4.below n9.below) n9.blk (by decide)).below a0).below b5.below).grown a5 a2 (by decide)).below a7
   have e6:=e0.ne c1
   have h1:=bln (c3.trans c4) a7
   have m4:=e0.ge h1
   refine xsv 1 e0.blk [.slice a9 1 d9,V0 (Wx l tq kq)] fun h6 j5 k7=>?_
   refine xb 6 1 k7 ?_
   refine xk 3 (show(((Wx l tq kq) != (0:Int)):Bool)=true from bne_iff_ne.2 e7) ?_
   refine xd 1 (.t w.heap.size [36]) ?_
   have f0:=k7.below (Za h6)
   refine xlv (.o [1] 0) f0.rp ?_
   have a6:=(j5.blk (c1.below e0.below) (Ne.symm (Ne.symm e6))).below (Za h6)
   have g2:=n2.ge n1.below
   refine ysv (.o [] 2) a6 [.slice a9 1 d9,V0 (Wx l tq kq)] (.t w.heap.size [36]) fun o6 i9 m0=>⟨(Zl i9 a6 g2 (by decide)),?_⟩
   have h2:=i9.own2 (Zb (j5.own2 (Zb (Zd m2 d7) e0.below) e0.blk (by decide)) (Za h6)) a6 (by decide)
   have i3:=i9.below (bln (j5.below (bln h1 e0.below) m4) (Za h6)) g2
   refine xec 8 m0 (.tuple #[S0,.agg #[.slice a9 1 d9,V0 (Wx l tq kq)]]) ?_
   subst j8
   exact Uc (e2.trans (a3.symm.trans (linkO_bad (x:=(fq,tq,kq,0)) rfl g5 e8 e7))) e7 rfl i3 h2
  have d7:=(c3.trans c4).size
  have m7:=Zg9 e7
  refine xa 3 [S0,V0 0] 36 fun p2 o0 b7=>?_
  have c0:=((((b3.blkT (a4.below n9.below) n9.blk (by decide)).below a0).below b5.below).grown a5 a2 (by decide)).below a7
  have d8:=b7.ne c0
  have e9:=bln (c3.trans c4) a7
  have l4:=b7.ge e9
  refine xsv 1 b7.blk [.slice a9 0 d9,V0 0] fun o3 e4 m6=>?_
  refine xb 6 1 m6 ?_
  have g0:=(((((((h7.below n9.below).updN b3 n9 (by omega)).below a0).below b5.below).only (Zf.of_grown (T:=[81]) a5 a2 (by decide)) (by decide)).below a7).below b7.below).only (Zf.of_upd (T:=[36]) e4 b7.blk (by decide)) (by decide)
  have b0:=e4.own2 (Zb (Zd m8 d7) b7.below) b7.blk (by decide)
  have f8:=e4.below (bln e9 b7.below) l4
  refine xbi 9 fun _ _ _ _ zJ zQ zo zx zy zK=>Zr (m:=(ts.length-1)) (news:=(r.flatMap wkC)) (.agg #[V0 0,V0 0,V0 0,V0 0]) 4 32 (((Mc l tq kq)++r).length) ((((Mc l tq kq)++r).flatMap wkC)) zo Tryz.underlying84 (by kernel_rfl) rfl (by decide) zx b0 zy (g0.slN c5) (by rw[Lf Zbi,k4];rfl) (wk_one r) (by unfold maxLen;omega) (by omega) f8.size (by rw[List.length_append,k4];rfl) (by rw[List.flatMap_append]) fun k3 i4 p0 l8 d0 j7=>?_
  refine zK _ _ ?_
  have g8:=Xj (e4.own2 (Zb (Zb l1 a7) b7.below) b7.blk (by decide)) d0 b0 (by decide)
  have g3:=f8.trans j7
  have c6:=(e4.blkT (((((a8.below a0).below b5.below).grown a5 a2 (by decide)).below a7).below b7.below) b7.blk (by decide)).grown d0 b0 (by decide)
  have c8:=(e4.blk (c0.below b7.below) (Ne.symm (Ne.symm d8))).grown d0 b0 (by decide)
  have h8:=(((f5.below a7).below b7.below).only (Zf.of_upd (T:=[36]) e4 b7.blk (by decide)) (by decide)).only (Zf.of_grown (T:=[83]) d0 b0 (by decide)) (by decide)
  refine ze 3 (k9 _ _ _ ⟨(c++[(fq,tq,kq,a1)]),_,_,((Mc l tq kq)++r),k3,i4,rfl,rfl,g3,c6,c8,g8,(Zc1.of l8 rfl),h8,(by subst j8;exact(Rr (x:=(fq,tq,kq,0)) rfl g5 e8 e7).symm.trans a3),(by have:=Vb (x:=(fq,tq,kq,a1)) g5 e8;rw[List.length_append];unfold Ql at h5 ⊢;rw[List.length_append];simp only[List.length_singleton];omega),(fun x hx=>(List.mem_append.1 hx).elim (hasJ_ge x) (fun q=>i5 x (by rw[c5];exact List.mem_cons_of_mem _ q)))⟩ ?_)
  have:=Vb (x:=(fq,tq,kq,a1)) g5 e8
  show 1001*unt (c++[(fq,tq,kq,a1)]) nb+((Mc l tq kq)++r).length<1001*unt c nb+ts.length
  rw[List.length_append]
  omega
 have l7:ts=[]:=List.eq_nil_of_length_eq_zero (by omega)
 refine xsv 10 a4 [S0,V0 0] fun p5 l0 l9=>?_
 have g2:=n2.ge n1.below
 have j9:=l0.own2 ho a4 (by decide)
 have f9:=l0.below b4 g2
 refine xec 3 l9 (.tuple #[.slice po c.length co,.agg #[S0,V0 0]]) ?_
 rw[l7] at a3
 exact rlink_ok (c:=c) (by rw[e2,←a3];rfl) (by rw[e2,←a3];rfl) rfl f9 j9
def ljC (x:Int×Int×Int):List Value:=[V0 x.1,V0 x.2.1,V0 x.2.2]
def ljE:Int×Int×Int:=(0,0,0)
theorem Gs(x:Int×Int×Int):(ljC x).length=3:=rfl
theorem lj_take{L:List (Int×Int×Int)}{i:Nat}(hi:i<L.length):(L.take (i+1)).flatMap ljC=(L.take i).flatMap ljC++[V0 (L.getD i ljE).1,V0 (L.getD i ljE).2.1,V0 (L.getD i ljE).2.2]:=by
 rw[List.take_succ_eq_append_getElem hi,List.flatMap_append,show L.getD i ljE=L[i] from by simp[List.getD,hi]];simp[ljC]
theorem run_lneq{a:Act}{o:Oper}{p q:Operand}(x0 x1 x2:Int)(ho:o.op=.binOp .neq 81 p q 81)(hx:a.eval p=.agg #[V0 x0,V0 x1,V0 x2])(hy:a.eval q=.agg #[V0 x0,V0 x1,V0 x2])(V:World) :
 (execOp a.eval o).run Tryz.prog V=.ok (.value (.bool false)) V:=by
 have h1:=Tryz.underlying81
 have h2:=Tryz.underlying3
 have h4:Tryz.prog.stoodInHeld 81=false:=by kernel_rfl
 have hb:(binOp .neq 81 (.agg #[V0 x0,V0 x1,V0 x2]) (.agg #[V0 x0,V0 x1,V0 x2])).run Tryz.prog V=.ok (.bool false) V:=by
  simp[go_sem,Program.fieldsOf,h1,h2,h4,Op.eqFields]
 have hg:=run_eqGuard_agg (P:=Tryz.prog) (w:=V) .neq 81 p q #[V0 x0,V0 x1,V0 x2] #[V0 x0,V0 x1,V0 x2] (by kernel_rfl)
 simp only[execOp,ho,hx,hy,Sem.run_bind,hg,Result.andThen_ok,hb]
 rfl
theorem Tf(pl:O0)(cl:Nat)(L:List (Int×Int×Int))(w:World)(hL:Sts ljC w (.slice pl L.length cl) L)(hl:L.length≤100000000) :
 C0 11 #[.slice pl L.length cl] w (Qe (fun w' r=>∃ p c,r=.slice p L.length c∧w'.ownsRow w.heap.size 81 3 (.slice p L.length c) L.length (L.flatMap ljC)) w):=by
 refine zin 19 Tryz.func11 ?_
 have hB:=Below.refl w.heap.size w
 refine zl 17 19 (fun zm a7 V=>∃ (i:Nat) (p:O0) (c:Nat),a7=[(0,.slice pl L.length cl),(2,S0),(3,.slice p i c),(4,V0 (i:Int))]∧zm=L.length-((i:Int)).toNat∧B3 w V∧V.ownsRow w.heap.size 81 3 (.slice p i c) i ((L.take i).flatMap ljC)∧i≤L.length) ⟨0,none,0,rfl,rfl,hB,World.ownsRow_nil _ _ _ _,Nat.zero_le _⟩ ?_
 rintro _ _ W1 ⟨i,p,c,rfl,rfl,a0,ho,hi⟩ J1 a8 r1
 refine xid 9 ((i:Int)<(L.length:Int)) (fun a6=>?_) (fun a6=>?_)
 ·refine xx 8 _ L.length i 3 (Sts.cell (f:=ljC) hL Gs ljE (k:=i) (i:=0) (by omega) rfl).1 ?_
  refine xlv 0 (Sts.rp (k:=i) (hL.below a0) Gs ljE (by omega) (by decide)) ?_
  refine xbs 0 1 [V0 ((L.getD i ljE).1),V0 ((L.getD i ljE).2.1),V0 ((L.getD i ljE).2.2)] 81 fun b3 W3 n3=>?_
  have g3:=n3.ge a0
  have a4:=Zn ho n3
  have a3:=Zb ho n3.below
  have a1:=bln a0 n3.below
  refine xbi 0 fun _ _ _ _ zJ zQ zo zx zy zK=>Zr (m:=1) (news:=[V0 ((L.getD i ljE).1),V0 ((L.getD i ljE).2.1),V0 ((L.getD i ljE).2.2)]) (.agg #[V0 0,V0 0,V0 0]) 3 24 (i+1) (((L.take (i+1)).flatMap ljC)) zo Tryz.underlying33 (by kernel_rfl) rfl (by decide) zx a3 zy (n3.blk.sl 1 1 (by decide) (by decide)) rfl (by simp[Value.oneCell']) (by unfold maxLen;omega) (by omega) a1.size (rfl) (by rw[lj_take (by omega)]) fun a9 b1 W4 o4 b0 a5=>?_
  refine zK _ _ ?_
  refine xwm 6 ((i:Int)+1) (↑(i+1):Int) ?_
  have a2:=a1.trans a5
  exact ze 2 (a8 _ _ _ ⟨i+1,_,_,rfl,rfl,a2,o4,by omega⟩ (by omega))
 refine xe 12 (.slice p i c) ?_
 obtain rfl:i=L.length:=by omega
 rw[List.take_length] at ho
 exact⟨_,rfl,a0,_,_,rfl,ho⟩
theorem Dt(pa pb:O0)(ca cb:Nat)(L:List (Int×Int×Int))(w:World)(ha:Sts ljC w (.slice pa L.length ca) L)(hb:Sts ljC w (.slice pb L.length cb) L) :
 C0 10 #[.slice pa L.length ca,.slice pb L.length cb] w (Ret (.bool true) w):=by
 have a5:=Sl.len ha
 refine zin 26 Tryz.func10 ?_
 refine xk 15 (show(((L.length:Int) != (L.length:Int)):Bool)=false from bne_self_eq_false _) ?_
 have hB:=Below.refl w.heap.size w
 refine zl 9 26 (fun zm a3 V=>∃ (i:Nat),a3=[(0,.slice pa L.length ca),(1,.slice pb L.length cb),(5,V0 (i:Int))]∧zm=L.length-((i:Int)).toNat∧B3 w V∧i≤L.length) ⟨0,rfl,rfl,hB,Nat.zero_le _⟩ ?_
 rintro _ _ W1 ⟨i,rfl,rfl,a1,hi⟩ J1 a4 r1
 refine xid 9 ((i:Int)<(L.length:Int)) (fun a2=>?_) (fun a2=>?_)
 ·refine xd 5 .z ?_
  refine xx (.e [0,1] 2) _ L.length i 3 (Sts.cell (f:=ljC) ha Gs ljE (k:=i) (i:=0) (by omega) rfl).1 ?_
  have a0:=bln a1 (Za W1)
  refine xlv (.e [] 3) (Sts.rp (k:=i) (ha.below a0) Gs ljE (by omega) (by decide)) ?_
  refine xx (.e [4,5] 6) _ L.length i 3 (Sts.cell (f:=ljC) hb Gs ljE (k:=i) (i:=0) (by omega) rfl).1 ?_
  refine xlv (.e [] 7) (Sts.rp (k:=i) (hb.below a0) Gs ljE (by omega) (by decide)) ?_
  refine xbo (.e [] 8) (t:=81) (t2:=81) (fun _ _ _ _ zo zx zy V hV=>run_lneq ((L.getD i ljE).1) ((L.getD i ljE).2.1) ((L.getD i ljE).2.2) zo zx zy V) ?_
  refine xwm 8 ((i:Int)+1) (↑(i+1):Int) ?_
  exact ze 2 (a4 _ _ _ ⟨i+1,rfl,rfl,a0,by omega⟩ (by omega))
 exact xe 11 (.bool true) ⟨rfl,a1⟩
end Go.Proofs.YtceeiinepijokaaGreatDoor
namespace Go.Proofs.YtceeiinepijokaaGreatDoor
set_option maxHeartbeats 8000000
set_option maxRecDepth 100000
open Go.RowKit
set_option linter.unusedVariables false
def rdPost(B:Nat)(Kp:World→World→Prop)(I:Nat→World→Prop)(Ix:Code→Nat→World→Prop)(k:Nat)(W:World):Exit→Act→World→Prop
 | .normal,_,V=>KeepsFrom B W V∧Kp W V∧I (k+1) V
 | .ret,_,V=>KeepsFrom B W V∧Ix .ret k V
 | .exit id,_,V=>KeepsFrom B W V∧Ix (.exit id) k V
 | .goto _,_,_=>False
 | .panic _,_,_=>False
 | .outgrown,_,_=>False
structure RecAt(n:Nat)(r:Loop)(W:World):Prop where
 l:W.heap[n+1]? = some (.loop r)
 d:W.heap[n]? = some (.deferred (some []))
theorem RecAt.lt{n:Nat}{r:Loop}{W:World}(h:RecAt n r W):n+1<W.heap.size:=(Array.getElem?_eq_some_iff.1 h.l).1
theorem RecAt.kept{n:Nat}{r:Loop}{A B:World}{row:Option Nat}(h:RecAt n r A)(hg:A.grownBy B row)(hr:∀ k,row=some k→k<n):RecAt n r B :=
 ⟨(hg.block _ h.lt (fun e=>by have:=hr _ e.symm;omega)).trans h.l,(hg.block _ (by have:=h.lt;omega) (fun e=>by have:=hr _ e.symm;omega)).trans h.d⟩
theorem RecAt.from{n:Nat}{r:Loop}{A B:World}(h:RecAt n r A)(k:KeepsFrom n A B):RecAt n r B:=⟨k.same _ _ (by omega) h.l rfl,k.same _ _ (Nat.le_refl _) h.d rfl⟩
theorem RecAt.put{n:Nat}{r:Loop}{A:World}(h:RecAt n r A)(r':Loop):RecAt n r' (A.putObj (n+1) (.loop r')) :=
 ⟨World.putObj_heap_same h.lt,(World.putObj_heap_other (by omega)).trans h.d⟩
def SeqB{α:Type}(P:Program)(g:Nat)(lb:Array Value)(encs:α→Array Value)(Kp:World→World→Prop)(R:List α)(w:World):Prop :=
 ∀ (l:Nat) (J Jx:Nat→World→Prop) (W:World),B3 w W →
  (∀ k A B,J k A→Below A.heap.size A B→J k B) →
  (∀ k x V,R[k]? = some x→J k V→YieldAt Fence.wide 2 P l (encs x) V fun e U =>
   (e=.returned (.bool true)∧J (k+1) U∧Kp V U)∨(e=.returned (.bool false)∧Jx k U)) →
  J 0 W →
  CallsIn Fence.wide 3 P g (#[.func (.yield l) #[] #[]]++lb) W fun e U=>(∃ v,e=.returned v)∧(J R.length U∨∃ k,k<R.length∧Jx k U)
theorem RecAt.bel{n:Nat}{r:Loop}{A B:World}(h:RecAt n r A)(k:Below A.heap.size A B):RecAt n r B:=⟨(k.block _ h.lt).trans h.l,(k.block _ (by have:=h.lt;omega)).trans h.d⟩
theorem wp_rangeD{α:Type}{P:Program}{g:Operand}{ps:Array Tmp}{assign body:Code}{Q:Exit→Act→World→Prop}{a:Act}{w:World}{gf:Nat}{lb:Array Value}
  (hg:a.eval g=.func (.func gf) #[] lb) (eg:∀ args w,(callFunc gf args).run P w=.ok (.enter gf args) w) {encs:α→Array Value} {R:List α} (p:Nat→Prop) (hp:∀ b,p b→b<w.heap.size)
  (hseq:SeqB P gf lb encs (Keeps p) R w) (hps:∀ x,(encs x).size=ps.size)
  (I:Nat→World→Prop) (Ix:Code→Nat→World→Prop) (hIb:∀ k A B,I k A→Below A.heap.size A B→I k B) (hI:∀ k A B row,I k A→A.grownBy B row→(∀ r,row=some r→w.heap.size≤r∧∃ o:Obj,A.heap[r]? = some o∧o.isCells=false)→I k B)
  (hIx:∀ c k A B row,Ix c k A→A.grownBy B row→(∀ r,row=some r→w.heap.size≤r∧∃ o:Obj,A.heap[r]? = some o∧o.isCells=false)→Ix c k B) (h0:I 0 w) (A2:α→Act→World→Prop)
  (hA2:∀ x a A B row,A2 x a A→A.grownBy B row→(∀ r,row=some r→w.heap.size≤r∧∃ o:Obj,A.heap[r]? = some o∧o.isCells=false)→A2 x a B)
  (hassign:∀ (l k:Nat) (x:α) (W:World) (K:Act→World→Prop),R[k]? = some x→I k W→(∀ a2 W2,B3 W W2→A2 x a2 W2→K a2 W2) →
   assign.wpIn (Fence.wide.inRound l) 2 P (Exit.then K (fun _ _ _=>False)) { tmps:=(ps.zip (encs x)).foldl (fun t (p,v)=>t.setIfInBounds p v) a.tmps,defers:=[] } W)
  (hbody:∀ (l k:Nat) (x:α) (a2:Act) (W:World),w.heap.size≤l→R[k]? = some x→I k W→A2 x a2 W→body.wpIn (Fence.wide.inRound l) 2 P (rdPost w.heap.size (Keeps p) I Ix k W) a2 W)
  (hdone:∀ (D:Nat) (W:World),w.heap.size≤D→I R.length W→W.heap[D]? = some (.deferred (some []))→Q .normal { a with defers:={ target:=.collected D,args:=#[] }::a.defers } W)
  (hstop:∀ (D:Nat) (c:Code) (k:Nat) (W:World),w.heap.size≤D→k<R.length→Ix c k W→W.heap[D]? = some (.deferred (some []))→c.wp P Q { a with defers:={ target:=.collected D,args:=#[] }::a.defers } W) :
  (Code.rangeFunc g ps assign body).wp P Q a w:=by
 refine(wpIn_wide (n:=4)).1 (wpIn_rangeFunc fun fn _=>?_)
 obtain⟨a4,a0⟩:∃ a4:LoopState→Option Code→Loop,a4=fun st pe=>{ state:=st,pending:=pe,fn,tmps:=a.tmps,params:=ps,assign,body,defers:=w.heap.size }:=⟨_,rfl⟩
 obtain⟨W1,b2⟩:∃ W1,(w.alloc (.deferred (some []))).alloc (.loop (a4 .ready none))=W1:=⟨_,rfl⟩
 have b7:RecAt w.heap.size (a4 .ready none) W1:=by
  rw[←b2]
  refine⟨?_,(Below.heap_alloc _ _ _ (by simp)).trans (World.alloc_heap_new w _)⟩
  have:=World.alloc_heap_new (w.alloc (.deferred (some []))) (.loop (a4 .ready none))
  rwa [World.size_alloc] at this
 have c0:I 0 W1:=by
  rw[←b2]
  exact hI _ _ _ none (hI _ _ _ none h0 (World.grownBy_alloc _ _ _) (fun _ e=>by cases e)) (World.grownBy_alloc _ _ _) (fun _ e=>by cases e)
 have c3:B3 w W1:=by
  rw[←b2];exact((Below.refl _ w).alloc (Nat.le_refl _) _).alloc (by simp) _
 refine⟨w.heap.size+1,[{ target:=.collected w.heap.size,args:=#[] }],W1,{ target:=.fn (.func gf) lb,args:=#[.func (.yield (w.heap.size+1)) #[] #[]] },W1,gf,
  #[.func (.yield (w.heap.size+1)) #[] #[]]++lb,W1,?_,?_,fun _ _=>trivial,?_,fun _=>by omega,?_⟩
 ·rw[←b2,a0];exact run_enterLoop_outer _ _ _ _ _
 ·simp only[resolve,hg]
  simp[go_sem]
 ·simp[invoke,go_sem,eg]
 refine(hseq (w.heap.size+1) (fun k W=>I k W∧RecAt w.heap.size (a4 .ready none) W) (fun k W=>∃ c,Ix c k W∧RecAt w.heap.size (a4 .done (some c)) W) W1 c3
  (fun k A B hs hb=>⟨hIb _ _ _ hs.1 hb,hs.2.bel hb⟩) ?_ ⟨c0,b7⟩).mono ?_
 ·rintro k x W hx ⟨hi,hl⟩
  have hy:=run_yield (P:=P) (args:=encs x) hl.l (by rw[a0];exact hps x)
  rw[a0] at hy
  refine⟨fn,_,assign,body,hy,roundIn_of_wpIn trivial (hassign _ k x W _ hx hi fun a2 W2 a7 c4=>⟨_,run_beginRound (hl.bel a7).l (by rw[a0]),?_⟩)⟩
  have b3:=hl.bel a7
  obtain⟨Wb,a5⟩:∃ Wb,W2.putObj (w.heap.size+1) (.loop { a4 .ready none with state:=.busy })=Wb:=⟨_,rfl⟩
  have b9:RecAt w.heap.size (a4 .busy none) Wb:=by
   have:=b3.put (a4 .busy none)
   rw[a0] at this a5
   rw[a5] at this
   rw[a0]
   exact this
  have c1:I k Wb:=by
   rw[←a5]
   exact hI _ _ _ _ (hIb _ _ _ hi a7) (grownBy_putObj' W2 _ _) (fun r e=>by cases e;exact⟨by omega,_,b3.l,rfl⟩)
  have c2:A2 x a2 Wb:=by
   rw[←a5]
   exact hA2 _ _ _ _ _ c4 (grownBy_putObj' W2 _ _) (fun r e=>by cases e;exact⟨by omega,_,b3.l,rfl⟩)
  have b8:Keeps p W Wb:=by
   have h1:Keeps p W W2:=⟨a7.size,fun b hb=>a7.block b (Nat.lt_trans (hp b hb) (by have:=hl.lt;omega))⟩
   rw[←a5]
   exact h1.trans (Zgu hp W2 _ _ _ (by omega) b3.l rfl rfl)
  rw[a5]
  refine wpIn_mono (hbody _ k x a2 Wb (by omega) hx c1 c2) ?_
  have b4:∀ (a1:Option Code) (V:World),KeepsFrom w.heap.size Wb V→RecAt w.heap.size (a4 .busy none) V∧∃ U,U=V.putObj (w.heap.size+1) (.loop (a4 (if a1.isNone then .ready else .done) a1)) ∧
    (Instr.endRound (w.heap.size+1) a1).run P V=.ok (.bool a1.isNone) U∧RecAt w.heap.size (a4 (if a1.isNone then .ready else .done) a1) U:=fun a1 V hk=>by
   have hv:=b9.from hk
   have he:=run_endRound (P:=P) a1 hv.l
   refine⟨hv,_,rfl,?_,hv.put _⟩
   rw[a0] at he ⊢
   exact he
  have b6:∀ {V:World} {r r':Loop} {k:Nat},RecAt w.heap.size r V→I k V→I k (V.putObj (w.heap.size+1) (.loop r')):=fun hv h=>hI _ _ _ _ h (grownBy_putObj' _ _ _) (fun r e=>(by cases e;exact⟨by omega,_,hv.l,rfl⟩))
  have b1:∀ {V:World} {r r':Loop} {c:Code} {k:Nat},RecAt w.heap.size r V→Ix c k V→Ix c k (V.putObj (w.heap.size+1) (.loop r')):=fun hv h=>hIx _ _ _ _ _ h (grownBy_putObj' _ _ _) (fun r e=>by cases e;exact⟨by omega,_,hv.l,rfl⟩)
  rintro e a3 V a6
  cases e with
  | normal =>
   obtain⟨b0,b5,a9⟩:=a6
   obtain⟨hv,U,rfl,hr,a8⟩:=b4 none V b0
   exact⟨_,_,hr,.inl ⟨rfl,⟨b6 hv a9,a8⟩,(b8.trans b5).trans (Zgu hp V _ _ _ (by omega) hv.l rfl rfl)⟩⟩
  | ret =>
   obtain⟨b0,a9⟩:=a6
   obtain⟨hv,U,rfl,hr,a8⟩:=b4 (some .ret) V b0
   exact⟨_,_,hr,.inr ⟨rfl,.ret,b1 hv a9,a8⟩⟩
  | exit id =>
   obtain⟨b0,a9⟩:=a6
   obtain⟨hv,U,rfl,hr,a8⟩:=b4 (some (.exit id)) V b0
   exact⟨_,_,hr,.inr ⟨rfl,.exit id,b1 hv a9,a8⟩⟩
  | goto t=>exact a6.elim
  | panic ch=>exact a6.elim
  | outgrown=>exact a6.elim
 ·rintro e W2 ⟨⟨v,rfl⟩,(⟨hi,hl⟩|⟨k,hk,c,hi,hl⟩)⟩
  ·have he:=run_endLoop (P:=P) hl.l (by rw[a0];simp)
   rw[show(a4 .ready none).pending=none by rw[a0]] at he
   exact⟨none,_,he,hdone _ _ (Nat.le_refl _) (hI _ _ _ _ hi (grownBy_putObj' _ _ _) (fun r e=>(by cases e;exact⟨by omega,_,hl.l,rfl⟩))) ((World.putObj_heap_other (by omega)).trans hl.d)⟩
  ·have he:=run_endLoop (P:=P) hl.l (by rw[a0];simp)
   rw[show(a4 .done (some c)).pending=some c by rw[a0]] at he
   exact⟨some c,_,he,wpIn_wide.2 (hstop _ c k _ (Nat.le_refl _) hk (hIx _ _ _ _ _ hi (grownBy_putObj' _ _ _) (fun r e=>by cases e;exact⟨by omega,_,hl.l,rfl⟩)) ((World.putObj_heap_other (by omega)).trans hl.d))⟩
end Go.Proofs.YtceeiinepijokaaGreatDoor
namespace Go.Proofs.YtceeiinepijokaaGreatDoor
set_option maxHeartbeats 8000000
set_option maxRecDepth 100000
open Go.RowKit Go.Extern.Stop Go.Stop Go.Extern
set_option linter.unusedVariables false
attribute [local irreducible] wpList wpAnyH Code.wp Oper.wp Go
def mapP:List Nz:=[(8,0,1099511627775)]
theorem mapP_ok:Hn mapP:=by
 refine⟨by decide,fun i hi=>?_⟩
 have a0:i<1:=hi
 obtain rfl:i=0:=by omega
 simp[mapP,List.getD]
def detP:List Nz:=[(8,0,16384),(8,0,2147483647),(4,0,16777215),(4,0,16777215)]
theorem detP_ok:Hn detP:=by
 refine⟨by decide,fun i hi=>?_⟩
 have a0:i<4:=hi
 obtain rfl|rfl|rfl|rfl:i=0∨i=1∨i=2∨i=3:=by omega
 all_goals simp[detP,List.getD]
abbrev Mp:=Int×Int×Int
def mapC(m:Mp):List Value:=[V0 m.1,V0 m.2.1,V0 m.2.2]
theorem Cj(m:Mp):(mapC m).length=3:=rfl
abbrev Dv:=(Int×Int×Int×Int)×List Mp
structure MapsOk(data:Int)(M:List Mp):Prop where
 rise:M.Pairwise (fun x y=>x.1<y.1)
 each:∀ m∈M,(0≤m.1∧m.1≤281474976710655)∧(0≤m.2.1∧m.2.1<data)∧0≤m.2.2∧m.2.2≤16777215
theorem MapsOk.nil(data:Int):MapsOk data []:=⟨.nil,fun _ h=>by cases h⟩
structure DevOk(data:Int)(d:Dv):Prop where
 id:0≤d.1.1∧d.1.1≤16777215
 tx:0≤d.1.2.1∧d.1.2.1≤2147483647
 made:0≤d.1.2.2.1∧d.1.2.2.1≤16777215
 snap:0≤d.1.2.2.2∧d.1.2.2.2≤16777215
 maps:MapsOk data d.2
def Pg(L:List Dv):Nat:=(L.map fun d=>d.2.length).sum
structure DevsOk(data:Int)(L:List Dv):Prop where
 few:L.length≤4096
 sum:Pg L≤16384
 rise:L.Pairwise (fun x y=>x.1.1<y.1.1)
 each:∀ d∈L,DevOk data d
theorem DevsOk.nil(data:Int):DevsOk data []:=⟨by decide,by decide,.nil,fun _ h=>by cases h⟩
def mapN(v:Bl):Nat:=(Yo mapP v).getD 0 0
def mapB(v:Bl):Nat:=mapN v/16777216
def mapT(v:Bl):Nat:=mapN v%16777216
def mapE(data:Int)(v:Bl):Int:=if Ye mapP v≠0 then Ye mapP v else if data≤(mapB v:Int) then 2 else 0
def mpD:Mp:=(0,0,0)
def inZ (n lo hi:Int):Bool:=decide (lo≤n∧n≤hi)
theorem inZ_t{n lo hi:Int}:inZ n lo hi=true↔lo≤n∧n≤hi:=decide_eq_true_iff
def dvE (d:Dv)(last:Int):Int:=if inZ d.1.1 0 16777215&&(inZ d.1.2.1 0 2147483647&&(inZ d.1.2.2.1 0 16777215&&inZ d.1.2.2.2 0 16777215)) then(if d.1.1≤last then 8 else 0) else 2
def mpE (data:Int)(m:Mp)(last:Int):Int:=if inZ m.1 0 281474976710655&&(inZ m.2.1 0 (data-1)&&inZ m.2.2 0 16777215) then(if m.1≤last then 8 else 0) else 2
def On(data:Int):List Mp→Int→Int
 | [],_=>0
 | m::r,last=>if mpE data m last≠0 then mpE data m last else On data r m.1
def dvsE(data:Int):List Dv→Int→Int
 | [],_=>0
 | d::r,last=>if dvE d last≠0 then dvE d last else if On data d.2 (-1)≠0 then On data d.2 (-1) else dvsE data r d.1.1
def wsum(L:List Dv):Int:=IntKind.i64.wrap (Pg L:Int)
def Gw(tx time unit data:Int)(L:List Dv):Int :=
 if(inZ tx 0 2147483647&&inZ time 0 16777215)&&(inZ unit 1 65536&&inZ data 0 65536) then(if 4096<L.length∨16384<wsum L then 2 else dvsE data L (-1)) else 2
theorem mpE_2{data:Int}{m:Mp}{last:Int}(h:(inZ m.1 0 281474976710655&&(inZ m.2.1 0 (data-1)&&inZ m.2.2 0 16777215))=false):mpE data m last=2:=if_neg (by rw[h];decide)
theorem mpE_8{data:Int}{m:Mp}{last:Int}(h:(inZ m.1 0 281474976710655&&(inZ m.2.1 0 (data-1)&&inZ m.2.2 0 16777215))=true)(h2:m.1≤last):mpE data m last=8:=(if_pos h).trans (if_pos h2)
theorem mpE_0{data:Int}{m:Mp}{last:Int}(h:(inZ m.1 0 281474976710655&&(inZ m.2.1 0 (data-1)&&inZ m.2.2 0 16777215))=true)(h2:¬ m.1≤last):mpE data m last=0:=(if_pos h).trans (if_neg h2)
theorem dvE_2{d:Dv}{last:Int}(h:(inZ d.1.1 0 16777215&&(inZ d.1.2.1 0 2147483647&&(inZ d.1.2.2.1 0 16777215&&inZ d.1.2.2.2 0 16777215)))=false):dvE d last=2:=if_neg (by rw[h];decide)
theorem dvE_8{d:Dv}{last:Int}(h:(inZ d.1.1 0 16777215&&(inZ d.1.2.1 0 2147483647&&(inZ d.1.2.2.1 0 16777215&&inZ d.1.2.2.2 0 16777215)))=true)(h2:d.1.1≤last):dvE d last=8:=(if_pos h).trans (if_pos h2)
theorem dvE_0{d:Dv}{last:Int}(h:(inZ d.1.1 0 16777215&&(inZ d.1.2.1 0 2147483647&&(inZ d.1.2.2.1 0 16777215&&inZ d.1.2.2.2 0 16777215)))=true)(h2:¬ d.1.1≤last):dvE d last=0:=(if_pos h).trans (if_neg h2)
theorem mpE_ok{data:Int}{m:Mp}{last:Int}:mpE data m last=0↔((0≤m.1∧m.1≤281474976710655)∧(0≤m.2.1∧m.2.1<data)∧0≤m.2.2∧m.2.2≤16777215)∧last<m.1:=by
 unfold mpE
 simp only[Bool.and_eq_true,inZ_t]
 split
 ·split
  ·exact⟨fun h=>absurd h (by decide),fun h=>by omega⟩
  ·exact⟨fun _=>by omega,fun _=>rfl⟩
 ·exact⟨fun h=>absurd h (by decide),fun h=>by omega⟩
theorem dvE_ok{d:Dv}{last:Int}:dvE d last=0↔((0≤d.1.1∧d.1.1≤16777215)∧(0≤d.1.2.1∧d.1.2.1≤2147483647)∧(0≤d.1.2.2.1∧d.1.2.2.1≤16777215)∧0≤d.1.2.2.2∧d.1.2.2.2≤16777215)∧last<d.1.1:=by
 unfold dvE
 simp only[Bool.and_eq_true,inZ_t]
 split
 ·split
  ·exact⟨fun h=>absurd h (by decide),fun h=>by omega⟩
  ·exact⟨fun _=>by omega,fun _=>rfl⟩
 ·exact⟨fun h=>absurd h (by decide),fun h=>by omega⟩
theorem Zgy{data:Int}:∀ {M:List Mp} {last:Int},On data M last=0↔MapsOk data M∧∀ m∈M,last<m.1
 | [],last=>⟨fun _=>⟨.nil _,fun _ h=>by cases h⟩,fun _=>rfl⟩
 | m::r,last=>by
  have ih:=@Zgy data r m.1
  show(if mpE data m last≠0 then mpE data m last else On data r m.1)=0↔_
  by_cases h:mpE data m last=0
  ·rw[if_neg (fun q=>q h),ih]
   have h2:=mpE_ok.1 h
   constructor
   ·rintro⟨a,b⟩
    refine⟨⟨.cons b a.rise,fun x hx=>?_⟩,fun x hx=>?_⟩
    ·rcases List.mem_cons.1 hx with rfl|hx
     ·exact h2.1
     ·exact a.each x hx
    ·rcases List.mem_cons.1 hx with rfl|hx
     ·exact h2.2
     ·have:=b x hx;omega
   ·rintro⟨a,_⟩
    obtain⟨c1,c2⟩:=List.pairwise_cons.1 a.rise
    exact⟨⟨c2,fun x hx=>a.each x (List.mem_cons_of_mem _ hx)⟩,c1⟩
  ·rw[if_pos h]
   exact⟨fun q=>absurd q h,fun q=>absurd (mpE_ok.2 ⟨q.1.each m (List.mem_cons_self ..),q.2 m (List.mem_cons_self ..)⟩) h⟩
theorem dvsE_ok{data:Int}:∀ {L:List Dv} {last:Int},dvsE data L last=0↔(L.Pairwise (fun x y=>x.1.1<y.1.1)∧∀ d∈L,DevOk data d)∧∀ d∈L,last<d.1.1
  | [],last=>⟨fun _=>⟨⟨.nil,fun _ h=>by cases h⟩,fun _ h=>by cases h⟩,fun _=>rfl⟩
  | d :: r, last => by
    have ih:=@dvsE_ok data r d.1.1
    show(if dvE d last≠0 then dvE d last else if On data d.2 (-1)≠0 then On data d.2 (-1) else dvsE data r d.1.1)=0↔_
    by_cases h:dvE d last=0
    · rw[if_neg (fun q=>q h)]
      have h2:=dvE_ok.1 h
      by_cases g:On data d.2 (-1)=0
      · rw[if_neg (fun q=>q g),ih]
        have g2:=Zgy.1 g
        constructor
        · rintro⟨⟨a1,a2⟩,b⟩
          refine⟨⟨.cons b a1,fun x hx=>?_⟩,fun x hx=>?_⟩
          · rcases List.mem_cons.1 hx with rfl|hx
            · exact⟨h2.1.1,h2.1.2.1,h2.1.2.2.1,h2.1.2.2.2,g2.1⟩
            · exact a2 x hx
          · rcases List.mem_cons.1 hx with rfl|hx
            · exact h2.2
            · have:=b x hx;omega
        · rintro⟨⟨a1,a2⟩,_⟩
          obtain⟨c1,c2⟩:=List.pairwise_cons.1 a1
          exact⟨⟨c2,fun x hx=>a2 x (List.mem_cons_of_mem _ hx)⟩,c1⟩
      · rw[if_pos g]
        refine⟨fun q=>absurd q g,fun q=>absurd (Zgy.2 ⟨(q.1.2 d (List.mem_cons_self ..)).maps,fun m hm=>?_⟩) g⟩
        have:=(q.1.2 d (List.mem_cons_self ..)).maps.each m hm;omega
    · rw[if_pos h]
      refine⟨fun q=>absurd q h,fun q=>absurd (dvE_ok.2 ⟨?_,q.2 d (List.mem_cons_self ..)⟩) h⟩
      have:=q.1.2 d (List.mem_cons_self ..)
      exact⟨this.id,this.tx,this.made,this.snap⟩
structure PoolOk(tx time unit data:Int)(L:List Dv):Prop where
 htx:0≤tx∧tx≤2147483647
 htime:0≤time∧time≤16777215
 hunit:1≤unit∧unit≤65536
 hdata:0≤data∧data≤65536
 devs:DevsOk data L
theorem rise_ge{M:List Mp}(h:M.Pairwise (fun x y=>x.1<y.1))(h0:∀ m∈M,0≤m.1):∀ i (hi:i<M.length),(i:Int)≤M[i].1
 | 0,hi=>h0 _ (List.getElem_mem hi)
 | i+1,hi=>by
  have ih:=rise_ge h h0 i (by omega)
  have:=List.pairwise_iff_getElem.1 h i (i+1) (by omega) hi (by omega)
  omega
theorem maps_few{data:Int}{M:List Mp}(h:MapsOk data M):M.length≤281474976710656:=by
 by_cases h0:M.length=0
 ·omega
 ·have h1:=rise_ge h.rise (fun m hm=>(h.each m hm).1.1) (M.length-1) (by omega)
  have h2:=(h.each _ (List.getElem_mem (show M.length-1<M.length by omega))).1.2
  omega
theorem sum_few{L:List Dv}{k:Nat}(h:∀ d∈L,d.2.length≤k):Pg L≤L.length*k:=by
 induction L with
 | nil=>exact Nat.zero_le _
 | cons d r ih =>
  have h1:=h d (List.mem_cons_self ..)
  have h2:=ih fun x hx=>h x (List.mem_cons_of_mem _ hx)
  have e:Pg (d::r)=d.2.length+Pg r:=rfl
  rw[e,List.length_cons,Nat.add_mul];omega
theorem wsum_ok{data:Int}{L:List Dv}(hf:L.length≤4096)(h:∀ d∈L,DevOk data d):wsum L=(Pg L:Int):=by
 have h1:=sum_few fun d hd=>maps_few (h d hd).maps
 have h2:L.length*281474976710656≤4096*281474976710656:=Nat.mul_le_mul_right _ hf
 exact IntWalk.i64_in _ (by omega)
theorem wrap_add(a b:Int):IntKind.i64.wrap (IntKind.i64.wrap a+b)=IntKind.i64.wrap (a+b):=by
 simp only[IntKind.wrap,IntKind.signed,IntKind.bits]
 simp
 try omega
theorem Zbz{tx time unit data:Int}{L:List Dv}:Gw tx time unit data L=0↔PoolOk tx time unit data L:=by
 unfold Gw
 simp only[Bool.and_eq_true,inZ_t]
 split
 ·rename_i h
  split
  ·rename_i g
   refine⟨fun q=>absurd q (by decide),fun q=>?_⟩
   have a:=q.devs.few
   have b:=q.devs.sum
   rw[wsum_ok a q.devs.each] at g
   omega
  ·rename_i g
   rw[dvsE_ok]
   constructor
   ·rintro⟨⟨a,b⟩,_⟩
    have hw:=wsum_ok (L:=L) (by omega) b
    exact⟨h.1.1,h.1.2,h.2.1,h.2.2,by omega,by omega,a,b⟩
   ·intro q
    exact⟨⟨q.devs.rise,q.devs.each⟩,fun d hd=>by have:=(q.devs.each d hd).id;omega⟩
 ·rename_i h
  exact⟨fun q=>absurd q (by decide),fun q=>absurd ⟨⟨q.htx,q.htime⟩,q.hunit,q.hdata⟩ h⟩
theorem sumM_take{L:List Dv}{n:Nat}(h:n<L.length){x:Dv}:Pg (L.take (n+1))=Pg (L.take n)+(L.getD n x).2.length:=by
 unfold Pg
 rw[List.take_succ_eq_append_getElem h,List.map_append,List.sum_append]
 simp[List.getD,h]
theorem Pv{data:Int}{M:List Mp}{i:Nat}{x:Mp}{last:Int}(h:i<M.length):On data (M.drop i) last=if mpE data (M.getD i x) last≠0 then mpE data (M.getD i x) last else On data (M.drop (i+1)) (M.getD i x).1:=by
 rw[List.drop_eq_getElem_cons h,show M.getD i x=M[i] from by simp[List.getD,h]];rfl
theorem mpsE_end{data:Int}{M:List Mp}{i:Nat}{last:Int}(h:M.length≤i):On data (M.drop i) last=0:=by
 rw[List.drop_eq_nil_of_le h];rfl
theorem dvsE_drop{data:Int}{L:List Dv}{i:Nat}{x:Dv}{last:Int}(h:i<L.length):dvsE data (L.drop i) last=if dvE (L.getD i x) last≠0 then dvE (L.getD i x) last else if On data (L.getD i x).2 (-1)≠0 then On data (L.getD i x).2 (-1) else dvsE data (L.drop (i+1)) (L.getD i x).1.1:=by
 rw[List.drop_eq_getElem_cons h,show L.getD i x=L[i] from by simp[List.getD,h]];rfl
theorem dvsE_end{data:Int}{L:List Dv}{i:Nat}{last:Int}(h:L.length≤i):dvsE data (L.drop i) last=0:=by
 rw[List.drop_eq_nil_of_le h];rfl
abbrev Zv:=Dv×O0×Nat
def zvD:Zv:=(((0,0,0,0),[]),none,0)
def devZ(z:Zv):List Value:=[V0 z.1.1.1,V0 z.1.1.2.1,V0 z.1.1.2.2.1,V0 z.1.1.2.2.2,.slice z.2.1 z.1.2.length z.2.2]
theorem Nt(z:Zv):(devZ z).length=5:=rfl
structure DevsR(w:World)(p:Option Addr)(c:Nat)(Z:List Zv):Prop where
 row:Sts devZ w (.slice p Z.length c) Z
 each:∀ i,i<Z.length→Sts mapC w (.slice (Z.getD i zvD).2.1 (Z.getD i zvD).1.2.length (Z.getD i zvD).2.2) (Z.getD i zvD).1.2
theorem DevsR.below{w W:World}{p:O0}{c:Nat}{Z:List Zv}(h:DevsR w p c Z)(hb:B3 w W):DevsR W p c Z:=⟨h.row.below hb,fun i hi=>(h.each i hi).below hb⟩
theorem DevsR.rowN{w:World}{p:O0}{c n:Nat}{Z:List Zv}(h:DevsR w p c Z)(hn:Z.length=n):Sl w (.slice p n c) n (Z.flatMap devZ):=by subst hn;exact h.row
theorem DevsR.someN{w:World}{p:O0}{c n i:Nat}{Z:List Zv}(h:DevsR w p c Z)(hn:Z.length=n)(hi:i<n):p.isSome=true:=by subst hn;exact(Sts.cell h.row Nt zvD (k:=i) (i:=0) hi rfl).1
theorem Wq(n lo hi:Int)(w:World) :
 C0 46 #[V0 n,V0 lo,V0 hi] w (Ret (.bool (inZ n lo hi)) w):=by
 refine zin 15 Tryz.func46 ?_
 refine xg 11 [9,10] (decide (lo≤n)) (fun a0=>?_) (fun a0=>?_)
 ·have a0:=of_decide_eq_true a0
  exact xe 8 (.bool (decide (n≤hi))) ⟨by rw[show inZ n lo hi=decide (n≤hi) from by unfold inZ;exact decide_eq_decide.2 (by omega)],(B4 w)⟩
 have a0:=of_decide_eq_false a0
 exact xe 8 (.bool false) ⟨by rw[show inZ n lo hi=false from decide_eq_false (by omega)],(B4 w)⟩
theorem Lp(t:Int)(w:World) :
 C0 94 #[V0 t] w (Ret (.bool !(inZ t 0 16777215)) w):=by
 refine zin 6 Tryz.func94 ?_
 refine xr 8 (args:=#[V0 t,V0 0,V0 16777215]) (Wq t 0 16777215 _) fun W1 a0=>?_
 exact xe 5 (.bool (!(inZ t 0 16777215))) ⟨rfl,a0⟩
theorem indexT1(t:Int)(b:Nat)(w:World)(k:Blk w b [V0 t] 3) :
 C0 150 #[.slice (S1 b) 1 1,.func (.func 94) #[] #[]] w ((fun e w'=>((inZ t 0 16777215)=true∧e=.returned (V0 (-1))∧B3 w w')∨((inZ t 0 16777215)=false∧∃ i:Nat,e=.returned (V0 (i:Int))∧B3 w w'))):=by
 refine zin 19 Tryz.func150 ?_
 refine xu 14 2 ?_
 refine xb 23 0 k ?_
 refine xr 0 (args:=#[V0 t]) (Lp t _) fun W1 a0=>?_
 refine xi 2 (!(inZ t 0 16777215)) (fun a1=>?_) (fun a1=>?_)
 ·exact xe 12 (V0 0) (.inr ⟨by simp_all,0,rfl,a0⟩)
 exact xe 26 (V0 (-1)) (.inl ⟨by simp_all,rfl,a0⟩)
theorem containsT1(t:Int)(b:Nat)(w:World)(k:Blk w b [V0 t] 3) :
 C0 93 #[.slice (S1 b) 1 1,.func (.func 94) #[] #[]] w (Ret (.bool !(inZ t 0 16777215)) w):=by
 refine zin 9 Tryz.func93 ?_
 refine xc 9 (args:=#[.slice (S1 b) 1 1,.func (.func 94) #[] #[]]) (indexT1 t b _ k) ?_
 rintro e W1 a1
 rcases a1 with ⟨hz,rfl,a0⟩|⟨hz,i0,rfl,a0⟩
 ·exact xe 5 (.bool false) ⟨by first|(rw[hz];rfl)|(rw[hz,decide_eq_true (by omega)];rfl),a0⟩
 exact xe 5 (.bool (decide ((i0:Int)≥(0:Int)))) ⟨by first|(rw[hz];rfl)|(rw[hz,decide_eq_true (by omega)];rfl),a0⟩
theorem Zc6(tx:Int)(t:Int)(b:Nat)(w:World)(k:Blk w b [V0 t] 3) :
 C0 45 #[V0 tx,.slice (S1 b) 1 1] w (Ret (.bool ((inZ tx 0 2147483647)&&(inZ t 0 16777215))) w):=by
 refine zin 12 Tryz.func45 ?_
 refine xr 8 (args:=#[V0 tx,V0 0,V0 2147483647]) (Wq tx 0 2147483647 _) fun W1 a0=>?_
 refine xg 1 [6,7] (inZ tx 0 2147483647) (fun a3=>?_) (fun a3=>?_)
 ·have a1:=k.below a0
  refine xr 1 (args:=#[.slice (S1 b) 1 1,.func (.func 94) #[] #[]]) (containsT1 t b _ a1) fun W3 a2=>?_
  have hB:=bln a0 a2
  exact xe 6 (.bool (!(!(inZ t 0 16777215)))) ⟨by simp_all,hB⟩
 exact xe 8 (.bool false) ⟨by simp_all,a0⟩
theorem indexT2(t u:Int)(b:Nat)(w:World)(k:Blk w b [V0 t,V0 u] 3) :
 C0 150 #[.slice (S1 b) 2 2,.func (.func 94) #[] #[]] w ((fun e w'=>(((inZ t 0 16777215)&&(inZ u 0 16777215))=true∧e=.returned (V0 (-1))∧B3 w w')∨(((inZ t 0 16777215)&&(inZ u 0 16777215))=false∧∃ i:Nat,e=.returned (V0 (i:Int))∧B3 w w'))):=by
 refine zin 19 Tryz.func150 ?_
 refine xu 14 3 ?_
 refine xb 23 0 k ?_
 refine xr 0 (args:=#[V0 t]) (Lp t _) fun W1 a0=>?_
 refine xi 2 (!(inZ t 0 16777215)) (fun a3=>?_) (fun a3=>?_)
 ·exact xe 12 (V0 0) (.inr ⟨by simp_all,0,rfl,a0⟩)
 have a2:=k.below a0
 refine xb 31 1 a2 ?_
 refine xr 0 (args:=#[V0 u]) (Lp u _) fun W3 a1=>?_
 refine xi 2 (!(inZ u 0 16777215)) (fun a4=>?_) (fun a4=>?_)
 ·have hB:=bln a0 a1
  exact xe 12 (V0 1) (.inr ⟨by simp_all,1,rfl,hB⟩)
 have hB:=bln a0 a1
 exact xe 26 (V0 (-1)) (.inl ⟨by simp_all,rfl,hB⟩)
theorem containsT2(t u:Int)(b:Nat)(w:World)(k:Blk w b [V0 t,V0 u] 3) :
 C0 93 #[.slice (S1 b) 2 2,.func (.func 94) #[] #[]] w (Ret (.bool !((inZ t 0 16777215)&&(inZ u 0 16777215))) w):=by
 refine zin 9 Tryz.func93 ?_
 refine xc 9 (args:=#[.slice (S1 b) 2 2,.func (.func 94) #[] #[]]) (indexT2 t u b _ k) ?_
 rintro e W1 a1
 rcases a1 with ⟨hz,rfl,a0⟩|⟨hz,i0,rfl,a0⟩
 ·exact xe 5 (.bool false) ⟨by first|(rw[hz];rfl)|(rw[hz,decide_eq_true (by omega)];rfl),a0⟩
 exact xe 5 (.bool (decide ((i0:Int)≥(0:Int)))) ⟨by first|(rw[hz];rfl)|(rw[hz,decide_eq_true (by omega)];rfl),a0⟩
theorem Zei(tx:Int)(t u:Int)(b:Nat)(w:World)(k:Blk w b [V0 t,V0 u] 3) :
 C0 45 #[V0 tx,.slice (S1 b) 2 2] w (Ret (.bool ((inZ tx 0 2147483647)&&((inZ t 0 16777215)&&(inZ u 0 16777215)))) w):=by
 refine zin 12 Tryz.func45 ?_
 refine xr 8 (args:=#[V0 tx,V0 0,V0 2147483647]) (Wq tx 0 2147483647 _) fun W1 a0=>?_
 refine xg 1 [6,7] (inZ tx 0 2147483647) (fun a3=>?_) (fun a3=>?_)
 ·have a1:=k.below a0
  refine xr 1 (args:=#[.slice (S1 b) 2 2,.func (.func 94) #[] #[]]) (containsT2 t u b _ a1) fun W3 a2=>?_
  have hB:=bln a0 a2
  exact xe 6 (.bool (!(!((inZ t 0 16777215)&&(inZ u 0 16777215))))) ⟨by simp_all,hB⟩
 exact xe 8 (.bool false) ⟨by simp_all,a0⟩
theorem Zgb(d:Dv)(last:Int)(a:O0)(n c:Nat)(w:World) :
 C0 48 #[.agg #[V0 d.1.1,V0 d.1.2.1,V0 d.1.2.2.1,V0 d.1.2.2.2,.slice a n c],V0 last] w (Ret (V0 (dvE d last)) w):=by
 refine zin 26 Tryz.func48 ?_
 refine xa 2 [V0 d.1.1,V0 d.1.2.1,V0 d.1.2.2.1,V0 d.1.2.2.2,.slice a n c] 95 fun b1 W1 n1=>?_
 refine xb 8 0 n1.blk ?_
 refine xr 0 (args:=#[V0 d.1.1,V0 0,V0 16777215]) (Wq d.1.1 0 16777215 _) fun W2 a3=>?_
 refine xg 2 [9,10] (!(inZ d.1.1 0 16777215)) (fun a0=>?_) (fun a0=>?_)
 ·have a0:=Kb a0
  have hB:=bln n1.below a3
  exact xe 22 (V0 2) ⟨by rw[dvE_2 (by rw[a0];rfl)],hB⟩
 have a0:=Ka a0
 have a1:=n1.blk.below a3
 refine xb 1 1 a1 ?_
 refine xb 1 2 a1 ?_
 refine xb 1 3 a1 ?_
 refine xbs 0 2 [V0 d.1.2.2.1,V0 d.1.2.2.2] 3 fun b4 W4 n4=>?_
 refine xr 0 (args:=#[V0 d.1.2.1,.slice (S1 b4) 2 2]) (Zei d.1.2.1 d.1.2.2.1 d.1.2.2.2 b4 _ n4.blk) fun W5 a4=>?_
 refine xi 5 (!((inZ d.1.2.1 0 2147483647)&&((inZ d.1.2.2.1 0 16777215)&&(inZ d.1.2.2.2 0 16777215)))) (fun a2=>?_) (fun a2=>?_)
 ·have a2:=Kb a2
  have hB:=bln (bln (bln n1.below a3) n4.below) a4
  exact xe 8 (V0 2) ⟨by rw[dvE_2 (by rw[a0,a2];rfl)],hB⟩
 have a2:=Ka a2
 have a5:=(a1.below n4.below).below a4
 refine xb 3 0 a5 ?_
 refine xid 5 (d.1.1≤last) (fun a6=>?_) (fun a6=>?_)
 ·have hB:=bln (bln (bln n1.below a3) n4.below) a4
  exact xe 8 (V0 8) ⟨by rw[dvE_8 (by rw[a0,a2];rfl) (by omega)],hB⟩
 have hB:=bln (bln (bln n1.below a3) n4.below) a4
 exact xe 9 (V0 0) ⟨by rw[dvE_0 (by rw[a0,a2];rfl) (by omega)],hB⟩
theorem Zev(a:O0)(c:Nat)(L:List Mp)(data:Int)(w:World)(hd:0≤data∧data≤65536)(ha:Sts mapC w (.slice a L.length c) L) :
 C0 49 #[.slice a L.length c,V0 data] w (Ret (V0 (On data L (-1))) w):=by
 have c1:=Sl.len ha
 refine zin 41 Tryz.func49 ?_
 have hB:=Below.refl w.heap.size w
 refine zl 19 41 (fun zm b8 V=>∃ (i:Nat) (a3:Int),b8=[(1,V0 data),(5,V0 a3),(8,.slice a L.length c),(9,V0 (L.length:Int)),(10,V0 (i:Int))]∧zm=L.length-((i:Int)).toNat∧B3 w V∧i≤L.length∧On data L (-1)=On data (L.drop i) a3) ⟨0,(-1),rfl,rfl,hB,Nat.zero_le _,rfl⟩ ?_
 rintro _ _ W1 ⟨i,a3,rfl,rfl,a0,hi,he⟩ J1 b9 r1
 refine xid 6 ((i:Int)<(L.length:Int)) (fun c0=>?_) (fun c0=>?_)
 ·refine xx 6 _ L.length i 3 (Sts.cell ha Cj mpD (k:=i) (i:=0) (by omega) rfl).1 ?_
  refine xlv 0 (Sts.rp (k:=i) (ha.below a0) Cj mpD (by omega) (by decide)) ?_
  refine xa 0 [V0 0,V0 0,V0 0] 159 fun b3 W3 n3=>?_
  have g3:=n3.ge a0
  refine xsv 0 n3.blk [V0 ((L.getD i mpD).1),V0 ((L.getD i mpD).2.1),V0 ((L.getD i mpD).2.2)] fun W4 u4 k4=>?_
  refine xb 7 0 k4 ?_
  refine xr 0 (args:=#[V0 ((L.getD i mpD).1),V0 0,V0 281474976710655]) (Wq ((L.getD i mpD).1) 0 281474976710655 _) fun W5 a5=>?_
  refine xg 2 [18,19] (!(inZ ((L.getD i mpD).1) 0 281474976710655)) (fun a2=>?_) (fun a2=>?_)
  ·have a2:=Kb a2
   have b1:=bln (u4.below (bln a0 n3.below) g3) a5
   exact xe 30 (V0 2) ⟨by rw[he,Pv (x:=mpD) (by omega),mpE_2 (by rw[a2];rfl)];rfl,b1⟩
  have a2:=Ka a2
  have a9:=k4.below a5
  refine xb 1 1 a9 ?_
  refine xw 1 (data-1) ?_
  refine xr 0 (args:=#[V0 ((L.getD i mpD).2.1),V0 0,V0 (data-1)]) (Wq ((L.getD i mpD).2.1) 0 (data-1) _) fun W7 a6=>?_
  refine xg 3 [25,26,27] (!(inZ ((L.getD i mpD).2.1) 0 (data-1))) (fun a4=>?_) (fun a4=>?_)
  ·have a4:=Kb a4
   have b6:=bln (bln (u4.below (bln a0 n3.below) g3) a5) a6
   exact xe 22 (V0 2) ⟨by rw[he,Pv (x:=mpD) (by omega),mpE_2 (by rw[a2,a4];rfl)];rfl,b6⟩
  have a4:=Ka a4
  have a7:=a9.below a6
  refine xb 1 2 a7 ?_
  refine xr 0 (args:=#[V0 ((L.getD i mpD).2.2),V0 0,V0 16777215]) (Wq ((L.getD i mpD).2.2) 0 16777215 _) fun W9 b0=>?_
  refine xi 5 (!(inZ ((L.getD i mpD).2.2) 0 16777215)) (fun a1=>?_) (fun a1=>?_)
  ·have a1:=Kb a1
   have b4:=bln (bln (bln (u4.below (bln a0 n3.below) g3) a5) a6) b0
   exact xe 13 (V0 2) ⟨by rw[he,Pv (x:=mpD) (by omega),mpE_2 (by rw[a2,a4,a1];rfl)];rfl,b4⟩
  have a1:=Ka a1
  have a8:=a7.below b0
  refine xb 3 0 a8 ?_
  refine xid 5 ((L.getD i mpD).1≤a3) (fun b2=>?_) (fun b2=>?_)
  ·have b7:=bln (bln (bln (u4.below (bln a0 n3.below) g3) a5) a6) b0
   exact xe 13 (V0 8) ⟨by rw[he,Pv (x:=mpD) (by omega),mpE_8 (by rw[a2,a4,a1];rfl) (by omega)];rfl,b7⟩
  refine xb 5 0 a8 ?_
  refine xwm 5 ((i:Int)+1) (↑(i+1):Int) ?_
  have b5:=bln (bln (bln (u4.below (bln a0 n3.below) g3) a5) a6) b0
  exact ze 2 (b9 _ _ _ ⟨i+1,(L.getD i mpD).1,rfl,rfl,b5,by omega,by rw[he,Pv (x:=mpD) (by omega),mpE_0 (by rw[a2,a4,a1];rfl) (by omega)];rfl⟩ (by omega))
 exact xe 11 (V0 0) ⟨by rw[he,mpsE_end (by omega)],a0⟩
theorem zfst{Z:List Zv}{i:Nat}(h:i<Z.length)(x:Dv):(Z.map Prod.fst).getD i x=(Z.getD i zvD).1:=by simp[List.getD,h]
theorem Dy{data:Int}{Z:List Zv}{i:Nat}{last:Int}(h:i<Z.length):dvsE data ((Z.map Prod.fst).drop i) last=if dvE (Z.getD i zvD).1 last≠0 then dvE (Z.getD i zvD).1 last else if On data (Z.getD i zvD).1.2 (-1)≠0 then On data (Z.getD i zvD).1.2 (-1) else dvsE data ((Z.map Prod.fst).drop (i+1)) (Z.getD i zvD).1.1.1:=by
 rw[dvsE_drop (x:=zvD.1) (by rw[List.length_map];exact h),zfst h]
theorem Oq{Z:List Zv}{i:Nat}(h:i<Z.length):Pg ((Z.map Prod.fst).take (i+1))=Pg ((Z.map Prod.fst).take i)+(Z.getD i zvD).1.2.length:=by
 rw[sumM_take (x:=zvD.1) (by rw[List.length_map];exact h),zfst h]
theorem pool_Count(p:O0)(c n:Nat)(t u v x:Int)(Z:List Zv)(w:World)(hZ:Z.length=n)(hP:DevsR w p c Z) :
 C0 47 #[.agg #[V0 t,V0 u,V0 v,V0 x,.slice p n c]] w (Ret (V0 (wsum (Z.map Prod.fst))) w):=by
 have a7:=Sl.len (hP.rowN hZ)
 refine zin 20 Tryz.func47 ?_
 refine xa 2 [V0 t,V0 u,V0 v,V0 x,.slice p n c] 48 fun b1 W1 n1=>?_
 refine xb 12 4 n1.blk ?_
 refine zl 5 20 (fun zm a6 V=>∃ (i:Nat),a6=[(2,V0 0),(3,V0 (IntKind.i64.wrap (↑(Pg ((Z.map Prod.fst).take i)):Int))),(7,.slice p n c),(8,V0 (n:Int)),(9,V0 (i:Int))]∧zm=n-((i:Int)).toNat∧B3 w V∧Blk V b1 ([V0 t,V0 u,V0 v,V0 x,.slice p n c]) 48∧i≤n) ⟨0,rfl,rfl,n1.below,n1.blk,Nat.zero_le _⟩ ?_
 rintro _ _ W2 ⟨i,rfl,rfl,a1,a2,hi⟩ J2 a4 r2
 refine xid 6 ((i:Int)<(n:Int)) (fun a5=>?_) (fun a5=>?_)
 ·refine xx 6 _ n i 5 (hP.someN hZ (i:=i) (by omega)) ?_
  refine xlv 0 (Sts.rp (k:=i) (hP.below a1).row Nt zvD (by omega) (by decide)) ?_
  refine xa 0 [V0 0,V0 0,V0 0,V0 0,S0] 95 fun b4 W4 n4=>?_
  have g4:=n4.ge a1
  refine xsv 0 n4.blk [V0 ((Z.getD i zvD).1.1.1),V0 ((Z.getD i zvD).1.1.2.1),V0 ((Z.getD i zvD).1.1.2.2.1),V0 ((Z.getD i zvD).1.1.2.2.2),.slice ((Z.getD i zvD).2.1) ((Z.getD i zvD).1.2.length) ((Z.getD i zvD).2.2)] fun W5 u5 k5=>?_
  refine xb 5 4 k5 ?_
  refine xwm 7 ((i:Int)+1) (↑(i+1):Int) ?_
  refine xv1 2 3 (show(V0 (IntKind.i64.wrap ((IntKind.i64.wrap (↑(Pg ((Z.map Prod.fst).take i)):Int))+(↑((Z.getD i zvD).1.2.length):Int))):Value)=V0 (IntKind.i64.wrap (↑(Pg ((Z.map Prod.fst).take (i+1))):Int)) from congrArg V0 ((wrap_add _ _).trans (congrArg IntKind.i64.wrap (by have:=Oq (Z:=Z) (i:=i) (by omega);omega)))) ?_
  have a3:=u5.below (bln a1 n4.below) g4
  have a0:=u5.blkT (a2.below n4.below) n4.blk (by decide)
  exact ze 0 (a4 _ _ _ ⟨i+1,rfl,rfl,a3,a0,by omega⟩ (by omega))
 exact xe 12 (V0 (IntKind.i64.wrap (↑(Pg ((Z.map Prod.fst).take i)):Int))) ⟨by unfold wsum;rw[List.take_of_length_le (by rw[List.length_map];omega)],a1⟩
theorem Sf{tx time unit data:Int}{L:List Dv}(h:((inZ tx 0 2147483647&&inZ time 0 16777215)&&(inZ unit 1 65536&&inZ data 0 65536))=false):Gw tx time unit data L=2:=if_neg (by rw[h];decide)
theorem Zcw{tx time unit data:Int}{L:List Dv}(h:((inZ tx 0 2147483647&&inZ time 0 16777215)&&(inZ unit 1 65536&&inZ data 0 65536))=true)(h2:4096<L.length∨16384<wsum L):Gw tx time unit data L=2:=(if_pos h).trans (if_pos h2)
theorem Dh{tx time unit data:Int}{L:List Dv}(h:((inZ tx 0 2147483647&&inZ time 0 16777215)&&(inZ unit 1 65536&&inZ data 0 65536))=true)(h2:¬ (4096<L.length∨16384<wsum L)):Gw tx time unit data L=dvsE data L (-1):=(if_pos h).trans (if_neg h2)
theorem Ct(p:O0)(c n:Nat)(t u v x:Int)(Z:List Zv)(w:World)(hZ:Z.length=n)(hP:DevsR w p c Z) :
 C0 17 #[.agg #[V0 t,V0 u,V0 v,V0 x,.slice p n c]] w (Ret (V0 (Gw t u v x (Z.map Prod.fst))) w):=by
 have e3:=Sl.len (hP.rowN hZ)
 refine zin 60 Tryz.func17 ?_
 refine xa 2 [V0 t,V0 u,V0 v,V0 x,.slice p n c] 48 fun b1 W1 n1=>?_
 refine xb 7 0 n1.blk ?_
 refine xb 1 1 n1.blk ?_
 refine xbs 0 1 [V0 u] 3 fun b2 W2 n2=>?_
 refine xr 0 (args:=#[V0 t,.slice (S1 b2) 1 1]) (Zc6 t u b2 _ n2.blk) fun W3 c1=>?_
 refine xg 2 [14,15] (!((inZ t 0 2147483647)&&(inZ u 0 16777215))) (fun a3=>?_) (fun a3=>?_)
 ·have a3:=Kb a3
  have hB:=bln (bln n1.below n2.below) c1
  exact xe 21 (V0 2) ⟨by rw[Sf (by rw[a3];rfl)],hB⟩
 have a3:=Ka a3
 have c6:=(n1.blk.below n2.below).below c1
 refine xb 1 2 c6 ?_
 refine xr 0 (args:=#[V0 v,V0 1,V0 65536]) (Wq v 1 65536 _) fun W5 c2=>?_
 refine xg 3 [19,20,21] (!(inZ v 1 65536)) (fun a4=>?_) (fun a4=>?_)
 ·have a4:=Kb a4
  have hB:=bln (bln (bln n1.below n2.below) c1) c2
  exact xe 15 (V0 2) ⟨by rw[Sf (by rw[a3,a4];rfl)],hB⟩
 have a4:=Ka a4
 have c8:=c6.below c2
 refine xb 1 3 c8 ?_
 refine xr 0 (args:=#[V0 x,V0 0,V0 65536]) (Wq x 0 65536 _) fun W7 c7=>?_
 refine xi 4 (!(inZ x 0 65536)) (fun a5=>?_) (fun a5=>?_)
 ·have a5:=Kb a5
  have hB:=bln (bln (bln (bln n1.below n2.below) c1) c2) c7
  exact xe 7 (V0 2) ⟨by rw[Sf (by rw[a3,a4,a5];rfl)],hB⟩
 have a5:=Ka a5
 have b8:=c8.below c7
 refine xb 6 4 b8 ?_
 refine xg 3 [30,31] (decide ((n:Int)>(4096:Int))) (fun c5=>?_) (fun c5=>?_)
 ·have c5:=of_decide_eq_true c5
  have hB:=bln (bln (bln (bln n1.below n2.below) c1) c2) c7
  exact xe 14 (V0 2) ⟨by rw[Zcw (by rw[a3,a4,a5];rfl) (by rw[List.length_map];omega)],hB⟩
 have c5:=of_decide_eq_false c5
 refine xlv 0 b8.rp ?_
 have hB:=bln (bln (bln (bln n1.below n2.below) c1) c2) c7
 refine xr 0 (args:=#[.agg #[V0 t,V0 u,V0 v,V0 x,.slice p n c]]) (pool_Count p c n t u v x Z _ hZ (hP.below hB)) fun e5 b3=>?_
 refine xid 4 ((wsum (Z.map Prod.fst))>(16384:Int)) (fun d3=>?_) (fun d3=>?_)
 ·have d2:=bln hB b3
  exact xe 7 (V0 2) ⟨by rw[Zcw (by rw[a3,a4,a5];rfl) (by rw[List.length_map];omega)],d2⟩
 have d0:¬ (4096<(Z.map Prod.fst).length∨16384<wsum (Z.map Prod.fst)):=by rw[List.length_map];omega
 have c3:=b8.below b3
 refine xb 11 4 c3 ?_
 have d8:=bln hB b3
 have d1:=(((n2.blk.below c1).below c2).below c7).below b3
 refine zl 5 60 (fun zm e2 V=>∃ (i:Nat) (a2:Int),e2=[(1,P0 b1),(3,V0 a2),(37,.slice p n c),(38,V0 (n:Int)),(39,V0 (i:Int))]∧zm=n-((i:Int)).toNat∧B3 w V∧Blk V b1 ([V0 t,V0 u,V0 v,V0 x,.slice p n c]) 48∧Blk V b2 ([V0 u]) 3∧i≤n∧dvsE x (Z.map Prod.fst) (-1)=dvsE x ((Z.map Prod.fst).drop i) a2) ⟨0,(-1),rfl,rfl,d8,c3,d1,Nat.zero_le _,rfl⟩ ?_
 rintro _ _ e4 ⟨i,a2,rfl,rfl,a1,c0,b7,hi,he⟩ f0 d6 e9
 have hx:=inZ_t.1 a5
 refine xid 6 ((i:Int)<(n:Int)) (fun d9=>?_) (fun d9=>?_)
 ·refine xx 6 _ n i 5 (hP.someN hZ (i:=i) (by omega)) ?_
  refine xlv 0 (Sts.rp (k:=i) (hP.below a1).row Nt zvD (by omega) (by decide)) ?_
  refine xa 0 [V0 0,V0 0,V0 0,V0 0,S0] 95 fun f1 e6 b5=>?_
  have e0:=b5.ge a1
  refine xsv 0 b5.blk [V0 ((Z.getD i zvD).1.1.1),V0 ((Z.getD i zvD).1.1.2.1),V0 ((Z.getD i zvD).1.1.2.2.1),V0 ((Z.getD i zvD).1.1.2.2.2),.slice ((Z.getD i zvD).2.1) ((Z.getD i zvD).1.2.length) ((Z.getD i zvD).2.2)] fun f2 c9 e1=>?_
  refine xlv 5 e1.rp ?_
  refine xr 1 (args:=#[.agg #[V0 ((Z.getD i zvD).1.1.1),V0 ((Z.getD i zvD).1.1.2.1),V0 ((Z.getD i zvD).1.1.2.2.1),V0 ((Z.getD i zvD).1.1.2.2.2),.slice ((Z.getD i zvD).2.1) ((Z.getD i zvD).1.2.length) ((Z.getD i zvD).2.2)],V0 a2]) (Zgb (Z.getD i zvD).1 a2 _ _ _ _) fun e7 a7=>?_
  refine xin 9 (dvE (Z.getD i zvD).1 a2) (0:Int) (fun b0=>?_) (fun b0=>?_)
  ·have d4:=bln (c9.below (bln a1 b5.below) e0) a7
   exact xe 13 (V0 (dvE (Z.getD i zvD).1 a2)) ⟨by rw[Dh (by rw[a3,a4,a5];rfl) d0,he,Dy (by omega),if_pos b0],d4⟩
  have b4:=e1.below a7
  refine xb 6 4 b4 ?_
  have a0:=(c9.blkT (c0.below b5.below) b5.blk (by decide)).below a7
  refine xb 1 3 a0 ?_
  have b9:=bln (c9.below (bln a1 b5.below) e0) a7
  refine xr 0 (args:=#[.slice ((Z.getD i zvD).2.1) ((Z.getD i zvD).1.2.length) ((Z.getD i zvD).2.2),V0 x]) (Zev _ _ (Z.getD i zvD).1.2 x _ hx ((hP.below b9).each i (by omega))) fun e8 a6=>?_
  refine xin 9 (On x (Z.getD i zvD).1.2 (-1)) (0:Int) (fun b6=>?_) (fun b6=>?_)
  ·have d5:=bln b9 a6
   exact xe 13 (V0 (On x (Z.getD i zvD).1.2 (-1))) ⟨by rw[Dh (by rw[a3,a4,a5];rfl) d0,he,Dy (by omega),if_neg (fun q=>q b0),if_pos b6],d5⟩
  have c4:=b4.below a6
  refine xb 4 0 c4 ?_
  refine xwm 5 ((i:Int)+1) (↑(i+1):Int) ?_
  have d7:=bln b9 a6
  have a9:=a0.below a6
  have a8:=((c9.blkT (b7.below b5.below) b5.blk (by decide)).below a7).below a6
  exact ze 2 (d6 _ _ _ ⟨i+1,(Z.getD i zvD).1.1.1,rfl,rfl,d7,a9,a8,by omega,by rw[he,Dy (by omega),if_neg (fun q=>q b0),if_neg (fun q=>q b6)]⟩ (by omega))
 exact xe 11 (V0 0) ⟨by rw[Dh (by rw[a3,a4,a5];rfl) d0,he,dvsE_end (by rw[List.length_map];omega)],a1⟩
theorem getD_app{P Q:Bl}{k i:Nat}(hk:P.length=k):(P++Q).getD (k+i) 0=Q.getD i 0:=by
 subst hk
 simp[List.getD,List.getElem?_append_right]
theorem getD_hd{P Q:Bl}{i:Nat}(hi:i<P.length):(P++Q).getD i 0=P.getD i 0:=by
 simp[List.getD,List.getElem?_append_left hi]
theorem Gh{P Q:Bl}{k w:Nat}{x:Int}(hk:P.length=k)(h0:0≤x)(hb:x.toNat<256 ^ w):(Zg (P++(leB x w++Q)) k w:Int)=x:=by
 rw[Gx w k x.toNat,Nat.mod_eq_of_lt hb]
 ·omega
 ·intro i hi
  rw[getD_app hk,getD_hd (by rw[Zi];exact hi)]
  simp[leB,Zw,List.getD,List.getElem?_range hi]
theorem Zb1{P Q:Bl}{k:Nat}(hk:P.length=k):(P++Q).drop k=Q:=List.drop_left' hk
theorem Zec(n m:Nat):Yt ((List.replicate n (0:UInt8)).take m)=true:=by
 unfold Yt;rw[List.all_eq_true]
 intro x hx
 have:=List.mem_of_mem_take hx
 rw[(List.mem_replicate.1 this).2];rfl
theorem So(K:List Int)(n j:Nat):∀ d,∃ X,Qo K n (j+d)=Qo K n j++X
 | 0=>⟨[],by simp⟩
 | d+1=>by
  obtain⟨X,hX⟩:=So K n j d
  exact⟨_,by rw[←Nat.add_assoc,Vv,hX,List.append_assoc]⟩
theorem Tk(Vs:List Bl)(j:Nat):∀ d,∃ X,Vn Vs (j+d)=Vn Vs j++X
 | 0=>⟨[],by simp⟩
 | d+1=>by
  obtain⟨X,hX⟩:=Tk Vs j d
  exact⟨_,by rw[←Nat.add_assoc,We,hX,List.append_assoc]⟩
theorem Er{l:Bl}:∀ {n:Nat},(∀ i,i<n→Be l i=0)→Ve l n=0
 | 0,_=>rfl
 | n+1,h=>Va (Er fun i hi=>h i (by omega)) (h n (by omega))
theorem getD_ext{l l':List Int}(h:l.length=l'.length)(h2:∀ j,j<l.length→l.getD j 0=l'.getD j 0):l=l':=by
 apply List.ext_getElem h
 intro j h3 h4
 have:=h2 j h3
 simpa [List.getD,h3,h4] using this
theorem getD_extV{l l':List Bl}(h:l.length=l'.length)(h2:∀ j,j<l.length→l.getD j []=l'.getD j []):l=l':=by
 apply List.ext_getElem h
 intro j h3 h4
 have:=h2 j h3
 simpa [List.getD,h3,h4] using this
structure NodBack(b:List UInt8)(t:Int)(leaf:Bool)(n m v:Nat)(K:List Int)(Vs:List (List UInt8)):Prop where
 len:b.length=244
 e:Qd b=0
 t:Xz b=t
 l:Yi b=leaf
 c:Xh b=n
 k:Ha b n=K
 v:He b n=Vs
theorem Zg1{t:Int}{leaf:Bool}{n m v:Nat}{K:List Int}{Vs:List Bl}(N:NodeOk t leaf n m v K Vs):NodBack (Gd m v (Kk t leaf n m v) K Vs n) t leaf n m v K Vs:=by
 have b0:=Qq t leaf
 rw[N.hm] at b0
 have b1:=Si t leaf
 rw[N.hv] at b1
 have a2:=fitN t leaf
 rw[N.hm,N.hv] at a2
 have a8:=N.ht1
 have a7:=N.ht2
 have a6:=N.hn
 have a0:=Iq (H:=Kk t leaf n m v) (K:=K) (Vs:=Vs) (Ki _ _ _ _ _) a2 a6 (fun j hj=>N.hw j hj)
 have a3:=Sd (H:=Kk t leaf n m v) (K:=K) (Vs:=Vs) (Ki _ _ _ _ _) a2 a6 (fun j hj=>N.hw j hj)
 generalize Gd m v (Kk t leaf n m v) K Vs n=b at a0 a3
 obtain⟨R,hR⟩:∃ R,b=Kk t leaf n m v++R:=⟨_,by rw[a0,List.append_assoc,List.append_assoc]⟩
 have a9:=Zaq leaf
 have r0:(Zg b 0 1:Int)=Wf leaf:=by
  rw[hR,Kk];simp only[List.append_assoc]
  exact Gh (P:=[]) (k:=0) (w:=1) (x:=Wf leaf) rfl a9.1 (Nat.lt_of_le_of_lt (show(Wf leaf).toNat≤255 by omega) (by decide))
 have r1:(Zg b 1 1:Int)=t:=by
  rw[hR,Kk];simp only[List.append_assoc]
  exact Gh (P:=leB (Wf leaf) 1) (by rw[Zi]) (by omega) (by omega)
 have r2:(Zg b 2 2:Int)=(n:Int):=by
  rw[hR,Kk];simp only[List.append_assoc]
  rw[←List.append_assoc]
  exact Gh (P:=leB (Wf leaf) 1++leB t 1) (by simp[Zi]) (by omega) (by omega)
 have r4:(Zg b 4 2:Int)=(v:Int):=by
  rw[hR,Kk];simp only[List.append_assoc]
  rw[←List.append_assoc,←List.append_assoc]
  exact Gh (P:=leB (Wf leaf) 1++leB t 1++leB (n:Int) 2) (by simp[Zi]) (by omega) (by omega)
 have r6:(Zg b 6 2:Int)=(m:Int):=by
  rw[hR,Kk];simp only[List.append_assoc]
  rw[←List.append_assoc,←List.append_assoc,←List.append_assoc]
  exact Gh (P:=leB (Wf leaf) 1++leB t 1++leB (n:Int) 2++leB (v:Int) 2) (by simp[Zi]) (by omega) (by omega)
 have r8:(Zg b 8 4:Int)=0:=by
  rw[hR,Kk];simp only[List.append_assoc]
  rw[←List.append_assoc,←List.append_assoc,←List.append_assoc,←List.append_assoc]
  exact Gh (P:=leB (Wf leaf) 1++leB t 1++leB (n:Int) 2++leB (v:Int) 2++leB (m:Int) 2) (by simp[Zi]) (by omega) (by decide)
 have eT:Xz b=t:=r1
 have eL:Yi b=leaf:=by
  unfold Yi;rw[r0];cases leaf<;>rfl
 have eC:Xh b=n:=by unfold Xh;omega
 have eW:Xg b=v:=by unfold Xg;rw[eT,eL,widG,if_pos ⟨a8,a7⟩];exact N.hv
 have eM:Xi b=m:=by unfold Xi;rw[eT,eL,maxG,if_pos ⟨a8,a7⟩];exact N.hm
 have a1:∀ i,i<n→(Ri b i:Int)=K.getD i 0:=by
  intro i hi
  obtain⟨X,hX⟩:=So K n (i+1) (m-(i+1))
  rw[show i+1+(m-(i+1))=m by omega,Vv,if_pos hi] at hX
  unfold Ri
  rw[a0,hX]
  have hk:=N.hk0 i hi
  have:=Gh (P:=Kk t leaf n m v++Qo K n i) (Q:=X++(Vn Vs n++List.replicate (232-m*8-n*v) 0)) (k:=12+i*8) (w:=8) (x:=K.getD i 0) (by rw[List.length_append,Ki,Hi]) hk.1 (Nat.lt_of_le_of_lt (show(K.getD i 0).toNat≤281474976710655 by omega) (by decide))
  simp only[List.append_assoc] at this ⊢
  exact this
 have a4:∀ i,i<n→Fq b i=Vs.getD i []:=by
  intro i hi
  obtain⟨X,hX⟩:=Tk Vs (i+1) (n-(i+1))
  rw[show i+1+(n-(i+1))=n by omega,We] at hX
  have a5:(Vn Vs i).length=i*v:=Nu fun j hj=>N.hw j (by omega)
  unfold Fq
  rw[eM,eW,a0,hX]
  have:=Zb1 (P:=Kk t leaf n m v++Qo K n m++Vn Vs i) (Q:=Vs.getD i []++(X++List.replicate (232-m*8-n*v) 0)) (k:=12+m*8+i*v) (by rw[List.length_append,List.length_append,Ki,Hi,a5])
  simp only[List.append_assoc] at this ⊢
  rw[this]
  exact List.take_left' (N.hw i hi)
 have b2:n*v≤m*v:=Nat.mul_le_mul_right v a6
 refine⟨a3,?_,eT,eL,eC,?_,?_⟩
 ·have hs:Vt b=true:=by
   unfold Vt
   rw[eW,eM]
   refine decide_eq_true ⟨?_,by omega,by omega,by omega,by omega,by omega,?_⟩
   ·cases leaf<;>simp only[Wf] at r0<;>simp at r0<;>omega
   ·cases leaf with
    | true=>left;simp only[Wf] at r0;simp at r0;omega
    | false=>right;have:=N.hl rfl;omega
  have hz:Bk b=true:=by
   unfold Bk Sw Zdx Te
   rw[eC,eM,eW,Bool.and_eq_true]
   constructor
   ·have hk:=Hs K n (m-n)
    rw[show n+(m-n)=m by omega] at hk
    have:=Zb1 (P:=Kk t leaf n m v++Qo K n n) (Q:=List.replicate ((m-n)*8) 0++(Vn Vs n++List.replicate (232-m*8-n*v) 0)) (k:=12+n*8) (by rw[List.length_append,Ki,Hi])
    rw[a0,hk]
    simp only[List.append_assoc] at this ⊢
    rw[this,List.take_append_of_le_length (by rw[List.length_replicate];omega)]
    exact Zec _ _
   ·have a5:(Vn Vs n).length=n*v:=Nu fun j hj=>N.hw j hj
    have:=Zb1 (P:=Kk t leaf n m v++Qo K n m++Vn Vs n) (Q:=List.replicate (232-m*8-n*v) 0) (k:=12+m*8+n*v) (by rw[List.length_append,List.length_append,Ki,Hi,a5])
    rw[a0,this]
    exact Zec _ _
  unfold Qd
  rw[if_pos hs,if_pos hz,eC]
  refine Er fun i hi=>?_
  have h1:=a1 i hi
  have h2:=N.hk0 i hi
  unfold Be
  rw[if_neg (by omega),if_neg ?_]
  rintro⟨h3,h4⟩
  have h5:=a1 (i-1) (by omega)
  have h6:=N.hk1 (i-1) (by omega)
  rw[show i-1+1=i by omega] at h6
  omega
 ·exact getD_ext (by rw[Ng,N.hK]) fun j hj=>by rw[Ng] at hj;rw[Ck b hj];exact a1 j hj
 ·exact getD_extV (by rw[Uw,N.hV]) fun j hj=>by rw[Uw] at hj;rw[Zci b hj];exact a4 j hj
theorem blk_back{t:Int}{leaf:Bool}{n m v:Nat}{K:List Int}{Vs:List Bl}(N:NodeOk t leaf n m v K Vs){l:Bl}{j len:Nat}(hl:l.length=len)(hj:j<len/256)(h4:j<14400)(hb:Yx l j=Xs 2 (j:Int) (Gd m v (Kk t leaf n m v) K Vs n))(tree:Int)(ht:tree=0∨t=tree) :
 Xl l (j:Int) tree=0∧inB l (j:Int)=Gd m v (Kk t leaf n m v) K Vs n:=by
 have B:=Zg1 N
 have a0:inB l (j:Int)=Gd m v (Kk t leaf n m v) K Vs n:=by
  rw[Oc (no:=(j:Int)) (j:=j) rfl,hb,in_seal (by rw[B.len];decide)]
  unfold Zd4;rw[B.len];simp
 refine⟨?_,a0⟩
 unfold Xl
 rw[Zaa (no:=(j:Int)) (j:=j) hl rfl hj,hb,if_pos (Zc2 (by decide) (by decide) (by omega) (by omega) (by rw[B.len];decide)),a0]
 unfold Qn
 rw[if_pos B.e,if_pos (by rw[B.t];exact ht)]
def mapV(m:Mp):Bl:=putL mapP [m.2.1*16777216+m.2.2] 1
theorem mapV_len(m:Mp):(mapV m).length=8:=by unfold mapV;rw[Rf];rfl
def Bg(n:Int)(d:Dv):Bl:=putL detP [n,d.1.2.1,d.1.2.2.1,d.1.2.2.2] 4
theorem detVal_len(n:Int)(d:Dv):(Bg n d).length=24:=by unfold Bg;rw[Rf];rfl
def Lv(M:List Mp):List Ent:=M.map fun m=>(m.1,mapV m,0)
theorem Jg(M:List Mp):(Lv M).length=M.length:=List.length_map ..
def dvD:Dv:=((0,0,0,0),[])
def Ec(L:List Dv)(R:Nat→Nat):List Ent:=(List.range L.length).map fun i=>((L.getD i dvD).1.1,leB (R i:Int) 4,0)
def El(L:List Dv)(C:Nat→Int):List Ent:=(List.range L.length).map fun i=>((L.getD i dvD).1.1,Bg (C i) (L.getD i dvD),0)
theorem Js(L:List Dv)(R:Nat→Nat):(Ec L R).length=L.length:=by simp[Ec]
theorem Jp(L:List Dv)(C:Nat→Int):(El L C).length=L.length:=by simp[El]
theorem Na{L:List Dv}{R:Nat→Nat}{i:Nat}(h:i<L.length):(Ec L R).getD i Kd=((L.getD i dvD).1.1,leB (R i:Int) 4,0):=by simp[Ec,List.getD,List.getElem?_range h]
theorem Px{L:List Dv}{C:Nat→Int}{i:Nat}(h:i<L.length):(El L C).getD i Kd=((L.getD i dvD).1.1,Bg (C i) (L.getD i dvD),0):=by simp[El,List.getD,List.getElem?_range h]
theorem Nh{M:List Mp}{i:Nat}(h:i<M.length):(Lv M).getD i Kd=((M.getD i (0,0,0)).1,mapV (M.getD i (0,0,0)),0):=by simp[Lv,List.getD,h]
theorem mapEs_ok{data:Int}{M:List Mp}(h:MapsOk data M):EntsOk 8 (Lv M):=by
 refine⟨fun i hi=>?_,fun j hj=>?_,fun i hi=>?_⟩
 ·rw[Jg] at hi
  rw[Nh hi]
  have:=h.each (M.getD i (0,0,0)) (by simp[List.getD,hi])
  exact this.1
 ·rw[Jg] at hj
  rw[Nh (by omega),Nh hj]
  have:=List.pairwise_iff_getElem.1 h.rise j (j+1) (by omega) hj (by omega)
  simpa [List.getD,hj,show j<M.length by omega] using this
 ·rw[Jg] at hi
  rw[Nh hi];exact mapV_len _
theorem Zg4{data:Int}{L:List Dv}(h:DevsOk data L):(∀ i,i<L.length→0≤(L.getD i dvD).1.1∧(L.getD i dvD).1.1≤281474976710655)∧∀ j,j+1<L.length→(L.getD j dvD).1.1<(L.getD (j+1) dvD).1.1:=by
 refine⟨fun i hi=>?_,fun j hj=>?_⟩
 ·have:=(h.each (L.getD i dvD) (by simp[List.getD,hi])).id;omega
 ·have:=List.pairwise_iff_getElem.1 h.rise j (j+1) (by omega) hj (by omega)
  simpa [List.getD,hj,show j<L.length by omega] using this
theorem topEs_ok{data:Int}{L:List Dv}{R:Nat→Nat}(h:DevsOk data L):EntsOk 4 (Ec L R):=by
 obtain⟨h1,h2⟩:=Zg4 h
 refine⟨fun i hi=>?_,fun j hj=>?_,fun i hi=>?_⟩
 ·rw[Js] at hi
  rw[Na hi];exact h1 i hi
 ·rw[Js] at hj
  rw[Na (by omega),Na hj];exact h2 j hj
 ·rw[Js] at hi
  rw[Na hi];exact Zi _ _
theorem detEs_ok{data:Int}{L:List Dv}{C:Nat→Int}(h:DevsOk data L):EntsOk 24 (El L C):=by
 obtain⟨h1,h2⟩:=Zg4 h
 refine⟨fun i hi=>?_,fun j hj=>?_,fun i hi=>?_⟩
 ·rw[Jp] at hi
  rw[Px hi];exact h1 i hi
 ·rw[Jp] at hj
  rw[Px (by omega),Px hj];exact h2 j hj
 ·rw[Jp] at hi
  rw[Px hi];exact detVal_len _ _
def LevelPost(B ba b g nn cc:Nat)(pa:O0)(ca f N k0:Nat)(bs:Bl)(t:Int)(leaf:Bool)(m v:Nat)(l:List Ent)(w:World)(e:Ending)(w':World):Prop :=
 ∃ p c,e=.returned (.tuple #[.slice p (ovN l.length m) c,.nilIface])∧Below B w w'∧Zf [200,5] w w'∧Fr [ba,g] w w'∧Al B ba b g nn cc pa ca f N (k0+ovN l.length m) (Zdo t leaf m v l (f+k0) bs (ovN l.length m)) w'∧w'.ownsRow w.heap.size 132 3 (.slice p (ovN l.length m) c) (ovN l.length m) ((upE l m (f+k0) (ovN l.length m)).flatMap Jv)
theorem Zfl(B ba b g nn cc:Nat)(pa:O0)(ca f N k0:Nat)(bs:Bl)(t:Int)(leaf:Bool)(m v:Nat)(a:O0)(c:Nat)(l:List Ent)(w:World)(hC:AlC B ba nn cc ca f N)(hA:Al B ba b g nn cc pa ca f N k0 bs w)(ht1:1≤t)(ht2:t≤5)(hm:Qs t leaf=m)(hv:Pd t leaf=v)(E:EntsOk v l)(hl:leaf=false→1≤l.length)(hn:l.length≤32768)(hf1:1≤f)(hk:k0+ovN l.length m≤N)(hin:∀ W,Below B w W→Zf [200,5] w W→Sts Jv W (.slice a l.length c) l)(hBw:B≤w.heap.size) :
 C0 222 #[P0 ba,V0 t,.bool leaf,.slice a l.length c] w (LevelPost B ba b g nn cc pa ca f N k0 bs t leaf m v l w):=by
 have n0:=Qq t leaf
 rw[hm] at n0
 have o6:=hC.hf
 have p2:=hC.hn
 refine zin 96 Tryz.func222 ?_
 refine xr 18 (args:=#[V0 t,.bool leaf]) (Tl t leaf m hm ht1 ht2 _) fun W1 i1=>?_
 refine xc 0 (args:=#[V0 (l.length:Int),V0 (m:Int)]) (tall_Sizes l.length m _ hn (by omega) (by omega)) ?_
 rintro _ W2 ⟨_,rfl,i9,ps,cs,rfl,e5⟩
 have n7:=(blB (Below.refl B w) hBw i1).size
 have h0:=Zd e5 n7
 have k8:=(hA.below i1).below i9
 have hB:=blB (blB (Below.refl B w) hBw i1) hBw i9
 have hX:=(show Fr [ba,g] w _ from(Fr.of_below i1)).trans (Fr.of_below i9)
 have hO:=(show Zf [200,5] w _ from(Zf.of_below i1)).trans (Zf.of_below i9)
 refine zl 5 96 (fun zm k9 V=>∃ (i:Nat) (a2:O0) (c2:Nat) (l2:List Ent) (p4:O0) (c4:Nat),k9=[(0,P0 ba),(1,V0 t),(2,.bool leaf),(3,.slice a2 l2.length c2),(10,.slice p4 i c4),(26,.slice ps (ovN l.length m) cs),(27,V0 (↑(ovN l.length m):Int)),(28,V0 (i:Int))]∧zm=ovN l.length m-((i:Int)).toNat∧Below B w V∧Fr [ba,g] w V∧Zf [200,5] w V∧V.ownsRow w.heap.size 3 1 (.slice ps (ovN l.length m) cs) (ovN l.length m) ((sizL l.length m).map nv)∧V.ownsRow w.heap.size 132 3 (.slice p4 i c4) i ((upE l m (f+k0) i).flatMap Jv)∧Al B ba b g nn cc pa ca f N (k0+i) (Zdo t leaf m v l (f+k0) bs i) V∧(∀ W,Below B w W→Zf [200,5] w W→Sts Jv W (.slice a2 l2.length c2) l2)∧i≤ovN l.length m∧l2=l.drop (i*m)) ⟨0,a,c,l,none,0,rfl,rfl,hB,hX,hO,h0,World.ownsRow_nil _ _ _ _,k8,?_,Nat.zero_le _,by simp⟩ ?_
 ·exact hin
 rintro _ _ W3 ⟨i,a2,c2,l2,p4,c4,rfl,rfl,d7,g8,e4,e5,m2,hA,i6,hi,h8⟩ J3 m0 r3
 have n8:=Sl.cap (i6 _ d7 e4)
 have q4:i<ovN l.length m→i*m≤l.length:=siz_le (by omega)
 have l6:l2.length=l.length-i*m:=by rw[h8];simp
 have g1:Jj l.length m i≤l2.length:=by rw[l6];unfold Jj;omega
 refine xid 6 ((i:Int)<(↑(ovN l.length m):Int)) (fun m8=>?_) (fun m8=>?_)
 ·refine xx 6 _ (ovN l.length m) i 1 (siz_elem (Ze e5) (k:=i) (by omega)).1 ?_
  refine xl 0 ((siz_elem (Ze e5) (k:=i) (by omega)).2) ?_
  have i7:=d7
  have d6:=e4
  have c9:=g8
  refine xa 8 [V0 0,.bool false,S0,S0] 181 fun b6 W6 n6=>?_
  refine xsv 0 n6.blk [V0 t,.bool leaf,S0,S0] fun W7 u7 k7=>?_
  have g6:=n6.ge (B4 W3)
  refine xsH 7 (fun _ _ _ _ zo zx zy V=>Vm (k:=(Jj l.length m i)) (b:=a2) (n:=l2.length) (c:=c2) (i:=(↑(Jj l.length m i):Int)) (ki:=.i64) zo zx zy rfl (by omega) Tryz.underlying123 (by kernel_rfl) V) ?_
  have hB:=u7.below n6.below g6
  refine zl 5 96 (fun zm k9 V=>∃ (j:Nat) (kp:O0) (kc:Nat) (vp:O0) (vc:Nat),k9=[(0,P0 ba),(1,V0 t),(2,.bool leaf),(3,.slice a2 l2.length c2),(10,.slice p4 i c4),(12,V0 (↑(Jj l.length m i):Int)),(13,P0 b6),(26,.slice ps (ovN l.length m) cs),(27,V0 (↑(ovN l.length m):Int)),(28,V0 (i:Int)),(37,.slice a2 (Jj l.length m i) c2),(38,V0 (↑(Jj l.length m i):Int)),(39,V0 (j:Int))]∧zm=Jj l.length m i-((j:Int)).toNat∧B3 W3 V∧Blk V b6 ([V0 t,.bool leaf,.slice kp j kc,.slice vp j vc]) 181∧V.ownsRow W3.heap.size 3 1 (.slice kp j kc) j (((Kl l2).take j).map V0)∧V.ownsRow W3.heap.size 9 1 (.slice vp j vc) j (((Hu l2).take j).map sv)∧j≤Jj l.length m i) ⟨0,none,0,none,0,rfl,rfl,hB,k7,World.ownsRow_nil _ _ _ _,World.ownsRow_nil _ _ _ _,Nat.zero_le _⟩ ?_
  rintro _ _ W8 ⟨j,kp,kc,vp,vc,rfl,rfl,c5,b4,hK,hV,hj⟩ J8 m7 r8
  refine xid 6 ((j:Int)<(↑(Jj l.length m i):Int)) (fun n3=>?_) (fun n3=>?_)
  ·have b0:=i6 _ i7 d6
   refine xx 6 _ (Jj l.length m i) j 3 (Sts.cell b0 Gq Kd (k:=j) (i:=0) (by omega) rfl).1 ?_
   refine xlv 0 (Sts.rp (k:=j) (b0.below c5) Gq Kd (by omega) (by decide)) ?_
   refine xa 0 [V0 0,.string ⟨#[]⟩,V0 0] 132 fun p7 o7 c1=>?_
   have n9:=c1.ge c5
   refine xsv 0 c1.blk [V0 ((l2.getD j Kd).1),.string ⟨((l2.getD j Kd).2.1).toArray⟩,V0 ((l2.getD j Kd).2.2)] fun p0 i5 m1=>?_
   have b1:=i5.blkT (b4.below c1.below) c1.blk (by decide)
   refine xb 5 2 b1 ?_
   refine xb 1 0 m1 ?_
   refine xbs 0 1 [V0 ((l2.getD j Kd).1)] 3 fun q6 q3 d2=>?_
   have f0:=i5.below (bln c5 c1.below) n9
   have o9:=d2.ge f0
   have g3:=i5.own2 (Zb hK c1.below) c1.blk (by decide)
   have j9:=Zn g3 d2
   have c0:=Zb g3 d2.below
   have f8:=bln f0 d2.below
   refine xbi 0 fun _ _ _ _ zJ zQ zo zx zy zK=>Zr (m:=1) (news:=[V0 ((l2.getD j Kd).1)]) (V0 0) 1 8 (j+1) (((Kl l2).take (j+1)).map V0) zo Tryz.underlying34 (by kernel_rfl) rfl (by decide) zx c0 zy (d2.blk.sl 1 1 (by decide) (by decide)) rfl (by simp[Value.oneCell']) (by unfold maxLen;omega) (by omega) f8.size (by rfl) ((keys_take (by omega)).symm) fun f5 f7 p1 m6 e2 j4=>?_
   refine zK _ _ ?_
   have a1:=(b1.below d2.below).grown e2 c0 (by decide)
   refine xs 1 a1 [V0 t,.bool leaf,.slice f5 (j+1) f7,.slice vp j vc] fun o8 j0 l8=>?_
   refine xb 4 3 l8 ?_
   have i0:=j0.blkT ((m1.below d2.below).grown e2 c0 (by decide)) a1 (by decide)
   refine xb 1 1 i0 ?_
   refine xbs 0 1 [.string ⟨((l2.getD j Kd).2.1).toArray⟩] 9 fun p8 r4 d9=>?_
   have f2:=j0.below (f8.trans j4) g6
   have o3:=d9.ge f2
   have h7:=j0.own2 (Xj (Zb (i5.own2 (Zb hV c1.below) c1.blk (by decide)) d2.below) e2 c0 (by decide)) a1 (by decide)
   have k5:=Zn h7 d9
   have d8:=Zb h7 d9.below
   have g5:=bln f2 d9.below
   refine xbi 0 fun _ _ _ _ zJ zQ zo zx zy zK=>Zr (m:=1) (news:=[.string ⟨((l2.getD j Kd).2.1).toArray⟩]) (.string ⟨#[]⟩) 1 16 (j+1) (((Hu l2).take (j+1)).map sv) zo Tryz.underlying89 (by kernel_rfl) rfl (by decide) zx d8 zy (d9.blk.sl 1 1 (by decide) (by decide)) rfl (by simp[Value.oneCell']) (by unfold maxLen;omega) (by omega) g5.size (by rfl) ((vals_take (by omega)).symm) fun j6 l7 q8 n1 f3 k2=>?_
   refine zK _ _ ?_
   have b3:=(l8.below d9.below).grown f3 d8 (by decide)
   refine xs 1 b3 [V0 t,.bool leaf,.slice f5 (j+1) f7,.slice j6 (j+1) l7] fun p9 k6 m3=>?_
   refine xwm 4 ((j:Int)+1) (↑(j+1):Int) ?_
   have l1:=k6.below (g5.trans k2) g6
   have e9:=k6.own2 (Xj (Zb (j0.own2 m6 a1 (by decide)) d9.below) f3 d8 (by decide)) b3 (by decide)
   have h9:=k6.own2 n1 b3 (by decide)
   exact ze 2 (m7 _ _ _ ⟨j+1,_,_,_,_,rfl,rfl,l1,m3,e9,h9,by omega⟩ (by omega))
  refine xsL 9 (fun _ _ _ _ zo zx zy V=>Xv (k:=(Jj l.length m i)) (b:=a2) (n:=l2.length) (c:=c2) (i:=(↑(Jj l.length m i):Int)) (ki:=.i64) 3 zo zx zy rfl (by omega) Tryz.underlying123 (by kernel_rfl) V) ?_
  refine xlv 5 b4.rp ?_
  have a6:B3 W3 W8:=c5
  have f1:w.heap.size≤W3.heap.size:=i7.size
  have e8:Jj l.length m i=j:=by omega
  have n5:(Kl l2).take j=Kl (Xo l m i):=by rw[h8];exact keys_chunk e8
  have o0:(Hu l2).take j=Hu (Xo l m i):=by rw[h8];exact vals_chunk e8
  have i4:(Xo l m i).length=j:=by rw[Bn,e8]
  have e0:=Zd hK f1
  rw[n5] at e0
  have h4:=Zd hV f1
  rw[o0] at h4
  have hN:=Fx E ht1 ht2 hm hv hl (show i<ovN l.length m by omega)
  have i2:=Zbf hN
  rw[i4] at hN
  have n4:Gd m v (Kk t leaf j m v) (Kl (Xo l m i)) (Hu (Xo l m i)) j=nodB t leaf m v (Xo l m i):=by rw[←i4];rfl
  refine xc 0 (args:=#[.agg #[V0 t,.bool leaf,.slice kp j kc,.slice vp j vc]]) (node_Put t leaf j m v (Kl (Xo l m i)) (Hu (Xo l m i)) kp vp kc vc _ hN (Ze e0) (Ze h4)) ?_
  rintro _ r5 ⟨_,rfl,a4,p6,c6,rfl,h6⟩
  have j5:=(blB i7 hBw a6).size
  have g9:=Zd h6 j5
  rw[n4] at g9
  have l0:=(hA.below a6).below a4
  have hO:=(d6.trans (Zf.of_below a6)).trans (Zf.of_below a4)
  have hB:=blB (blB i7 hBw a6) hBw a4
  refine xc 21 (args:=#[P0 ba,V0 2,.slice p6 244 c6]) (Ma B ba b g nn cc pa ca f N (k0+i) (Zdo t leaf m v l (f+k0) bs i) 2 p6 c6 (nodB t leaf m v (Xo l m i)) (f+k0+i) 244 _ (Nat.add_assoc _ _ _).symm i2 hC l0 (by omega) (by decide) (by decide) (fun W _ hO=>Yk (Ze (Zj g9 hO (by decide))) i2) (by decide) (Nat.le_trans hBw hB.size)) ?_
  rintro _ r2 ⟨rfl,k3,a9,g0,hA⟩
  refine xr 20 (args:=#[V0 (↑(f+k0+i):Int)]) (Oe ((f+k0+i:Nat):Int) (by omega) (by omega) _) fun q7 a0=>?_
  refine xa 2 [V0 0,.string ⟨#[]⟩,V0 0] 132 fun q0 q5 a3=>?_
  have e3:=blB (hB.trans k3) hBw a0
  have c7:=a3.ge0 e3
  have b5:=Zb (Zj (Zb (Zb m2 a6) a4) a9 (by decide)) a0
  have a5:=Zn b5 a3
  refine xsv 0 a3.blk [V0 0,.string ⟨(leB (↑(f+k0+i):Int) 4).toArray⟩,V0 (↑(f+k0+i):Int)] fun p5 b2 g2=>?_
  refine xid 9 ((↑(Jj l.length m i):Int)>(0:Int)) (fun j7=>?_) (fun j7=>?_)
  ·have f6:((Kl (Xo l m i))).getD 0 0=((Xo l m i).getD 0 Kd).1:=chunk_key e8 (by omega)
   have c3:=b2.blkT ((((b4.below a4).only a9 (by decide)).below a0).below a3.below) a3.blk (by decide)
   refine xb 2 2 c3 ?_
   have g7:=b2.own2 (Zb (Zb (Zj (Zb e0 a4) a9 (by decide)) a0) a3.below) a3.blk (by decide)
   refine xx 0 _ j 0 1 (IntsN.elem (Ze g7) (by rw[Bt,i4]) (k:=0) (by omega)).1 ?_
   refine xl 0 ((IntsN.elem (Ze g7) (by rw[Bt,i4]) (k:=0) (by omega)).2) ?_
   refine xs 1 g2 [V0 ((Kl (Xo l m i)).getD 0 0),.string ⟨(leB (↑(f+k0+i):Int) 4).toArray⟩,V0 (↑(f+k0+i):Int)] fun p3 e6 l9=>?_
   refine xlv 4 l9.rp ?_
   refine xbs 0 1 [V0 ((Kl (Xo l m i)).getD 0 0),.string ⟨(leB (↑(f+k0+i):Int) 4).toArray⟩,V0 (↑(f+k0+i):Int)] 132 fun o4 q1 b7=>?_
   have j1:=b7.ne l9
   have f9:=e6.below (b2.below (blB e3 hBw a3.below) (Nat.le_trans hBw c7)) (Nat.le_trans hBw c7)
   have o5:=b7.ge0 f9
   have d1:=e6.own3 (b2.own3 (Zb b5 a3.below) a5) a5
   have i8:=Zn d1 b7
   have a8:=Zb d1 b7.below
   have e7:=blB f9 hBw b7.below
   refine xbi 0 fun _ _ _ _ zJ zQ zo zx zy zK=>Zr (m:=1) (news:=[V0 ((Kl (Xo l m i)).getD 0 0),.string ⟨(leB (↑(f+k0+i):Int) 4).toArray⟩,V0 (↑(f+k0+i):Int)]) (.agg #[V0 0,.string ⟨#[]⟩,V0 0]) 3 32 (i+1) ((upE l m (f+k0) (i+1)).flatMap Jv) zo Tryz.underlying123 (by kernel_rfl) rfl (by decide) zx a8 zy (b7.blk.sl 1 1 (by decide) (by decide)) rfl (by simp[Value.oneCell']) (by unfold maxLen;omega) (by omega) e7.size (by rfl) (up_row (by first|exact f6|exact d5)) fun o2 m5 q9 m4 c8 l4=>?_
   refine zK _ _ ?_
   refine xwm 5 ((i:Int)+1) (↑(i+1):Int) ?_
   refine xv1 2 3 (show(.slice (Qu a2 (Jj l.length m i) c2 3) (l2.length-(Jj l.length m i)) (c2-(Jj l.length m i)):Value)=.slice (Qu a2 (Jj l.length m i) c2 3) ((l2.drop (Jj l.length m i)).length) (c2-Jj l.length m i) from by rw[List.length_drop]) ?_
   have j3:=(((((hA.below a0).below a3.below).only (Zf.of_upd (T:=[132]) b2 a3.blk (by decide)) (by decide)).only (Zf.of_upd (T:=[132]) e6 g2 (by decide)) (by decide)).below b7.below).only (Zf.of_grown (T:=[132]) c8 a8 (by decide)) (by decide)
   have e1:l2.drop (Jj l.length m i)=l.drop ((i+1)*m):=by
    rw[h8,List.drop_drop,Nat.add_mul,Nat.one_mul]
    unfold Jj
    rcases Nat.le_total m (l.length-i*m) with q|q
    ·rw[Nat.min_eq_left q]
    ·rw[Nat.min_eq_right q,List.drop_eq_nil_of_le (by omega),List.drop_eq_nil_of_le (by omega)]
   have k4:=e7.trans (l4.mono hBw)
   have hX:=(Fr.grown_new ((Fr.upd_new (Fr.upd_new (((((c9.trans (Fr.of_below a6)).trans (Fr.of_below a4)).trans (g0.mono (by simp))).trans (Fr.of_below a0)).trans (Fr.of_below a3.below)) b2 c7) e6 c7).trans (Fr.of_below b7.below)) c8 a8)
   have k1:=(Zf.grown_new ((Zf.upd_new (Zf.upd_new (((hO.trans a9).trans (Zf.of_below a0)).trans (Zf.of_below a3.below)) b2 c7) e6 c7).trans (Zf.of_below b7.below)) c8 a8)
   have h3:=Xj (Zb (e6.own2 (b2.own2 (Zb (Zb (Zj (Zb (Zb e5 a6) a4) a9 (by decide)) a0) a3.below) a3.blk (by decide)) g2 (by decide)) b7.below) c8 a8 (by decide)
   exact ze 0 (m0 _ _ _ ⟨i+1,_,_,(l2.drop (Jj l.length m i)),_,_,rfl,rfl,k4,hX,k1,h3,m4,j3,fun W h1 h2=>Sts.cut Gq (i6 W h1 h2) _ g1,by omega,e1⟩ (by omega))
  have d5:(0:Int)=((Xo l m i).getD 0 Kd).1:=Zgd e8 (by omega)
  refine xlv 4 g2.rp ?_
  refine xbs 0 1 [V0 0,.string ⟨(leB (↑(f+k0+i):Int) 4).toArray⟩,V0 (↑(f+k0+i):Int)] 132 fun r0 r6 b8=>?_
  have i3:=b8.ne g2
  have d4:=b2.below (blB e3 hBw a3.below) (Nat.le_trans hBw c7)
  have r1:=b8.ge0 d4
  have d0:=b2.own3 (Zb b5 a3.below) a5
  have j2:=Zn d0 b8
  have a7:=Zb d0 b8.below
  have d3:=blB d4 hBw b8.below
  refine xbi 0 fun _ _ _ _ zJ zQ zo zx zy zK=>Zr (m:=1) (news:=[V0 0,.string ⟨(leB (↑(f+k0+i):Int) 4).toArray⟩,V0 (↑(f+k0+i):Int)]) (.agg #[V0 0,.string ⟨#[]⟩,V0 0]) 3 32 (i+1) ((upE l m (f+k0) (i+1)).flatMap Jv) zo Tryz.underlying123 (by kernel_rfl) rfl (by decide) zx a7 zy (b8.blk.sl 1 1 (by decide) (by decide)) rfl (by simp[Value.oneCell']) (by unfold maxLen;omega) (by omega) d3.size (by rfl) (up_row (by first|exact f6|exact d5)) fun o1 m9 q2 n2 b9 j8=>?_
  refine zK _ _ ?_
  refine xwm 5 ((i:Int)+1) (↑(i+1):Int) ?_
  refine xv1 2 3 (show(.slice (Qu a2 (Jj l.length m i) c2 3) (l2.length-(Jj l.length m i)) (c2-(Jj l.length m i)):Value)=.slice (Qu a2 (Jj l.length m i) c2 3) ((l2.drop (Jj l.length m i)).length) (c2-Jj l.length m i) from by rw[List.length_drop]) ?_
  have l3:=((((hA.below a0).below a3.below).only (Zf.of_upd (T:=[132]) b2 a3.blk (by decide)) (by decide)).below b8.below).only (Zf.of_grown (T:=[132]) b9 a7 (by decide)) (by decide)
  have e1:l2.drop (Jj l.length m i)=l.drop ((i+1)*m):=by
   rw[h8,List.drop_drop,Nat.add_mul,Nat.one_mul]
   unfold Jj
   rcases Nat.le_total m (l.length-i*m) with q|q
   ·rw[Nat.min_eq_left q]
   ·rw[Nat.min_eq_right q,List.drop_eq_nil_of_le (by omega),List.drop_eq_nil_of_le (by omega)]
  have h5:=d3.trans (j8.mono hBw)
  have hX:=(Fr.grown_new ((Fr.upd_new (((((c9.trans (Fr.of_below a6)).trans (Fr.of_below a4)).trans (g0.mono (by simp))).trans (Fr.of_below a0)).trans (Fr.of_below a3.below)) b2 c7).trans (Fr.of_below b8.below)) b9 a7)
  have l5:=(Zf.grown_new ((Zf.upd_new (((hO.trans a9).trans (Zf.of_below a0)).trans (Zf.of_below a3.below)) b2 c7).trans (Zf.of_below b8.below)) b9 a7)
  have f4:=Xj (Zb (b2.own2 (Zb (Zb (Zj (Zb (Zb e5 a6) a4) a9 (by decide)) a0) a3.below) a3.blk (by decide)) b8.below) b9 a7 (by decide)
  exact ze 0 (m0 _ _ _ ⟨i+1,_,_,(l2.drop (Jj l.length m i)),_,_,rfl,rfl,h5,hX,l5,f4,n2,l3,fun W h1 h2=>Sts.cut Gq (i6 W h1 h2) _ g1,by omega,e1⟩ (by omega))
 refine xe 13 (.tuple #[.slice p4 i c4,.nilIface]) ?_
 obtain rfl:i=ovN l.length m:=by omega
 exact⟨_,_,rfl,d7,e4,g8,hA,m2⟩
theorem only_a3{w w':World}(h:Zf [200,5] w w'):Zf [200,5,28] w w':=h.mono fun t ht=>by simp at ht ⊢;exact⟨ht.1,ht.2.1⟩
def Tree1Post(B ba b g nn cc:Nat)(pa:O0)(ca f N k0:Nat)(bs:Bl)(t:Int)(leaf:Bool)(m v:Nat)(l:List Ent)(b8:Nat)(w:World)(e:Ending)(w':World):Prop :=
 ∃ p c,e=.returned (.slice p (ovN l.length m) c)∧Below B w w'∧Zf [200,5,28] w w'∧Fr [ba,g,b8] w w'∧Blk w' b8 [.nilIface] 28∧Al B ba b g nn cc pa ca f N (k0+ovN l.length m) (Zdo t leaf m v l (f+k0) bs (ovN l.length m)) w'∧w'.ownsRow w.heap.size 132 3 (.slice p (ovN l.length m) c) (ovN l.length m) ((upE l m (f+k0) (ovN l.length m)).flatMap Jv)
theorem Ad(B ba b g nn cc:Nat)(pa:O0)(ca f N k0:Nat)(bs:Bl)(t:Int)(leaf:Bool)(m v:Nat)(a:O0)(c:Nat)(l:List Ent)(b3 b4 b8:Nat)(w:World)(k3:Blk w b3 [P0 ba] 110)(k4:Blk w b4 [V0 t] 3)(k8:Blk w b8 [.nilIface] 28)(h38:b3≠b8)(h48:b4≠b8)(hB8:B≤b8)(hC:AlC B ba nn cc ca f N)(hA:Al B ba b g nn cc pa ca f N k0 bs w)(ht1:1≤t)(ht2:t≤5)(hm:Qs t leaf=m)(hv:Pd t leaf=v)(E:EntsOk v l)(hl:leaf=false→1≤l.length)(hn:l.length≤32768)(hf1:1≤f)(hk:k0+ovN l.length m≤N)(hin:∀ W,Below B w W→Zf [200,5,28] w W→Sts Jv W (.slice a l.length c) l)(hBw:B≤w.heap.size) :
 C0 221 #[.bool leaf,.slice a l.length c,P0 b3,P0 b4,P0 b8] w (Tree1Post B ba b g nn cc pa ca f N k0 bs t leaf m v l b8 w):=by
 refine zin 20 Tryz.func221 ?_
 refine xb 7 0 k3 ?_
 refine xb 0 0 k4 ?_
 refine xc 2 (args:=#[P0 ba,V0 t,.bool leaf,.slice a l.length c]) (Zfl B ba b g nn cc pa ca f N k0 bs t leaf m v a c l _ hC hA ht1 ht2 hm hv E hl hn hf1 hk (fun W h1 h2=>hin W ((Below.refl B _).trans h1) ((Zf.refl _ _).trans (only_a3 h2))) (Nat.le_trans hBw (Below.refl B _).size)) ?_
 rintro _ W1 ⟨p4,c4,rfl,a7,a3,a5,hA,a4⟩
 have a6:=Nat.le_refl w.heap.size
 have a0:=k8.only a3 (by decide)
 refine xs 10 a0 [.nilIface] fun W2 u2 k2=>?_
 have hB:=u2.below a7 hB8
 have hO:=(show Zf [200,5,28] w _ from(only_a3 a3)).trans (Zf.of_upd u2 a0 (by decide))
 have hX:=(show Fr [ba,g,b8] w _ from(a5.mono (by simp))).trans (Fr.of_upd u2 (by simp))
 have a2:=hA.only (Zf.of_upd (T:=[28]) u2 a0 (by decide)) (by decide)
 have a1:=u2.own2 (Zd a4 a6) a0 (by decide)
 exact xe 9 (.slice p4 (ovN l.length m) c4) ⟨_,_,rfl,hB,hO,hX,k2,a2,a1⟩
def Zhm(B ba b g nn cc:Nat)(pa:O0)(ca f N k0:Nat)(bs:Bl)(t:Int)(l:List Ent)(w:World)(e:Ending)(w':World):Prop :=
 e=.returned (.tuple #[V0 (Yl t l (f+k0) bs).1,.nilIface])∧Below B w w'∧Zf [200,5,28] w w'∧Fr [ba,g] w w'∧Al B ba b g nn cc pa ca f N (k0+Xx t l.length) (Yl t l (f+k0) bs).2 w'
theorem build_Tree(B ba b g nn cc:Nat)(pa:O0)(ca f N k0:Nat)(bs:Bl)(t:Int)(a:O0)(c:Nat)(l:List Ent)(w:World)(hC:AlC B ba nn cc ca f N)(hA:Al B ba b g nn cc pa ca f N k0 bs w)(ht1:1≤t)(ht2:t≤5)(E:EntsOk (Pd t true) l)(hn:l.length≤32768)(hf1:1≤f)(hkN:k0≤N)(hk:k0+Xx t l.length≤N)(hin:∀ W,Below B w W→Zf [200,5,28] w W→Sts Jv W (.slice a l.length c) l)(hBw:B≤w.heap.size) :
 C0 161 #[P0 ba,V0 t,.slice a l.length c] w (Zhm B ba b g nn cc pa ca f N k0 bs t l w):=by
 have f8:=Wl t l.length
 have f7:(ovN l.length (Qs t true))≤Xx t l.length:=Lc _
 have g3:=Zed l.length (Qs t true) (Qq t true).1
 have f2:=Vx l.length (Qs t true)
 have g0:=hC.hf
 have f6:=hC.hn
 refine zin 52 Tryz.func161 ?_
 refine xa 2 [P0 ba] 110 fun b1 W1 n1=>?_
 refine xa 0 [V0 t] 3 fun b2 W2 n2=>?_
 have k1:=n1.blk.below n2.below
 refine xb 8 0 k1 ?_
 have b9:=(hA.below n1.below).below n2.below
 refine xr 0 (args:=#[P0 ba]) (Qp ba b _ _ _ b9.blkA) fun W3 b8=>?_
 have k2:=n2.blk.below b8
 refine xb 7 0 k2 ?_
 have hB:=blB (blB (blB (Below.refl B w) hBw n1.below) hBw n2.below) hBw b8
 have hO:=((show Zf [200,5,28] w _ from(Zf.of_below n1.below)).trans (Zf.of_below n2.below)).trans (Zf.of_below b8)
 refine xr 1 (args:=#[V0 t,.slice a l.length c]) (Zfn t (Pd t true) a c l _ ht1 ht2 rfl E (hin _ hB hO) hn) fun W4 b4=>?_
 refine xd 6 .z ?_
 have c4:=((k1.below b8).below b4).below (Za W4)
 refine xb (.e [] 0) 0 c4 ?_
 have c0:=(k2.below b4).below (Za W4)
 refine xb (.e [] 2) 0 c0 ?_
 have c3:=((b9.below b8).below b4).below (Za W4)
 refine xr (.o [3,4] 1) (args:=#[P0 ba]) (Cw ba b pa N ca k0 _ c3.blkA hkN) fun W5 b6=>?_
 refine xr (.o [] 5) (args:=#[V0 t,V0 (l.length:Int)]) (Qx t l.length _ ht1 ht2 hn) fun W6 b5=>?_
 refine xk (.r [6,7] 2) (show(decide ((↑(N-k0):Int)<(↑(Xx t l.length):Int)):Bool)=false from decide_eq_false (by omega)) ?_
 refine xa 5 [.nilIface] 28 fun b7 W7 n7=>?_
 have a7:=blB (blB (blB (blB hB hBw b4) hBw (Za W4)) hBw b6) hBw b5
 have g7:=n7.ge0 a7
 have b3:=((c4.below b6).below b5).below n7.below
 have a8:=((c0.below b6).below b5).below n7.below
 have d1:=((c3.below b6).below b5).below n7.below
 have b0:=blB a7 hBw n7.below
 have c1:=((((hO.trans (Zf.of_below b4)).trans (Zf.of_below (Za W4))).trans (Zf.of_below b6)).trans (Zf.of_below b5)).trans (Zf.of_below n7.below)
 refine xc 12 (args:=#[.bool true,.slice a l.length c,P0 b1,P0 b2,P0 b7]) (Ad B ba b g nn cc pa ca f N k0 bs t true (Qs t true) (Pd t true) a c l b1 b2 b7 _ b3 a8 n7.blk (Blk.tne b3 n7.blk (by decide)) (Blk.tne a8 n7.blk (by decide)) (Nat.le_trans hBw g7) hC d1 ht1 ht2 rfl rfl E (by simp) hn hf1 (by omega) (fun W h1 h2=>hin W (b0.trans h1) (c1.trans h2)) (Nat.le_trans hBw b0.size)) ?_
 rintro _ W8 ⟨e3,e1,rfl,f3,e4,f4,d5,hA,a9⟩
 have f1:=(blB a7 hBw n7.below).size
 refine xv1 5 10 (show(.slice e3 (ovN l.length (Qs t true)) e1:Value)=.slice e3 ((upE l (Qs t true) (f+k0) (ovN l.length (Qs t true))).length) e1 from by rw[Yf]) ?_
 have c7:=Zd a9 f1
 have d3:=b0.trans f3
 have hX:=(Fr.trans_new ((((((((show Fr [ba,g] w _ from(Fr.of_below n1.below)).trans (Fr.of_below n2.below)).trans (Fr.of_below b8)).trans (Fr.of_below b4)).trans (Fr.of_below (Za W4))).trans (Fr.of_below b6)).trans (Fr.of_below b5)).trans (Fr.of_below n7.below)) f4 g7)
 have d7:=c1.trans e4
 have d6:=b3.only e4 (by decide)
 have e6:=a8.only e4 (by decide)
 refine zl 0 52 (fun zm f0 V=>∃ (u:List Ent) (K:Nat) (d0:Bl) (p:O0) (c2:Nat),f0=[(6,V0 0),(7,.nilIface),(8,P0 b7),(9,.func (.func 221) #[] #[P0 b1,P0 b2,P0 b7]),(10,.slice p u.length c2)]∧zm=u.length∧Below B w V∧Fr [ba,g] w V∧Zf [200,5,28] w V∧Blk V b1 ([P0 ba]) 110∧Blk V b2 ([V0 t]) 3∧Blk V b7 ([.nilIface]) 28∧V.ownsRow w.heap.size 132 3 (.slice p u.length c2) u.length (u.flatMap Jv)∧Al B ba b g nn cc pa ca f N K d0 V∧K+(Zbs u.length).sum=k0+Xx t l.length+u.length∧1≤u.length∧u.length≤32768∧EntsOk 4 u∧Nj t u (f+K) d0=Yl t l (f+k0) bs) ⟨(upE l (Qs t true) (f+k0) (ovN l.length (Qs t true))),(k0+(ovN l.length (Qs t true))),(Zdo t true (Qs t true) (Pd t true) l (f+k0) bs (ovN l.length (Qs t true))),e3,e1,rfl,rfl,d3,hX,d7,d6,e6,d5,(by rw[Yf];exact c7),hA,(by rw[Yf];unfold Xx Uy;omega),(by rw[Yf];exact f2),(by rw[Yf];omega),up_ok E (Qq t true).1,(by rw[←Nat.add_assoc];rfl)⟩ ?_
 rintro _ _ W9 ⟨u,K,d0,p,c2,rfl,rfl,a3,c5,c8,a2,a1,a0,a9,hA,hK,f5,g6,hE,c9⟩ J9 e9 r9
 have f9:¬ u.length≤1→(Zbs u.length).sum=u.length+(Zbs (ovN u.length 18)).sum:=fun h=>by rw[Hz h];rfl
 have g2:=Lc (ovN u.length 18)
 have g1:2≤u.length→ovN u.length 18≤u.length/2:=ov18
 have d9:=Vx u.length 18
 refine xb 3 0 a0 ?_
 refine xid 8 ((u.length:Int)>(1:Int)) (fun e5=>?_) (fun e5=>?_)
 ·refine xc 6 (args:=#[.bool false,.slice p u.length c2,P0 b1,P0 b2,P0 b7]) (Ad B ba b g nn cc pa ca f N K d0 t false 18 4 p c2 u b1 b2 b7 _ a2 a1 a0 (Blk.tne a2 a0 (by decide)) (Blk.tne a1 a0 (by decide)) (Nat.le_trans hBw g7) hC hA ht1 ht2 rfl rfl hE (fun _=>f5) (by omega) hf1 (by omega) (fun W _ h2=>Ze (Zj a9 h2 (by decide))) (Nat.le_trans hBw a3.size)) ?_
  rintro _ g5 ⟨e7,e8,rfl,e2,a6,d8,d5,hA,a9⟩
  refine xv1 3 10 (show(.slice e7 (ovN u.length 18) e8:Value)=.slice e7 ((upE u 18 (f+K) (ovN u.length 18)).length) e8 from by rw[Yf]) ?_
  have c6:=Zd a9 a3.size
  have e0:=a3.trans e2
  have d4:=(Fr.trans_new c5 d8 g7)
  have d2:=c8.trans a6
  have a4:=a2.only a6 (by decide)
  have a5:=a1.only a6 (by decide)
  refine ze 0 (e9 _ _ _ ⟨(upE u 18 (f+K) (ovN u.length 18)),(K+ovN u.length 18),_,_,_,rfl,rfl,e0,d4,d2,a4,a5,d5,(by rw[Yf];exact c6),hA,(by rw[Yf];omega),(by rw[Yf];exact d9),(by rw[Yf];omega),up_ok hE (by decide),(by rw[←c9,←Nat.add_assoc];exact(Lh (by omega)).symm)⟩ ?_)
  show((upE u 18 (f+K) (ovN u.length 18)).length)<u.length
  rw[Yf];omega
 refine xb 8 0 a0 ?_
 refine xx 9 _ u.length 0 3 (Sts.cell (Ze a9) Gq Kd (k:=0) (i:=0) (by omega) rfl).1 ?_
 refine xl 1 ((Sts.cell (Ze a9) Gq Kd (k:=0) (i:=2) (by omega) rfl).2) ?_
 refine xe 5 (.tuple #[V0 ((u.getD 0 Kd).2.2),.nilIface]) ?_
 have h1:u.length≤1:=by omega
 rw[Md h1] at c9
 rw[Gm h1] at hK
 simp only[List.sum_cons,List.sum_nil] at hK
 obtain rfl:K=k0+Xx t l.length:=by omega
 refine⟨by rw[←c9],a3,c8,c5,by rw[←c9];exact hA⟩
theorem Al.mono{B B' ba b g n c:Nat}{pa:O0}{ca f N k:Nat}{l:Bl}{w:World}(h:Al B' ba b g n c pa ca f N k l w)(hB:B≤B'):Al B ba b g n c pa ca f N k l w:=⟨h.blkA,h.blkI,Zd h.data hB,Zd h.nums hB⟩
theorem AlC.mono{B B' ba n c ca f N:Nat}(h:AlC B' ba n c ca f N)(hB:B≤B'):AlC B ba n c ca f N:=⟨h.hn,h.hc,h.hca,h.hf,Nat.le_trans hB h.hB⟩
theorem row_at{w:World}{base g n c size:Nat}{e:TypeId}{xs:List Value}(h:w.ownsRow base e size (.slice (S1 g) n c) n xs):∃ cur,w.heap[g]? = some (.cells cur e (0,0)):=by
 rcases h.2 with ⟨hv,_⟩|⟨g2,a0,cur,hv,_,hh,_⟩
 ·cases hv
 ·simp only[Value.slice.injEq,Option.some.injEq,Addr.mk.injEq] at hv
  obtain⟨⟨rfl,_,_⟩,_⟩:=hv
  exact⟨cur,hh⟩
theorem Al.ne{B ba b g n c:Nat}{pa:O0}{ca f N k:Nat}{l:Bl}{B2 ba2 b2 g2 n2 c2:Nat}{pa2:O0}{ca2 f2 N2 k2:Nat}{l2:Bl}{w:World}(h:Al B ba b g n c pa ca f N k l w)(h2:Al B2 ba2 b2 g2 n2 c2 pa2 ca2 f2 N2 k2 l2 w):b2≠ba∧b2≠g:=by
 constructor
 ·rintro rfl
  exact absurd (h.blkA.ty h2.blkI) (by decide)
 ·rintro rfl
  obtain⟨a0,hh⟩:=row_at h.data
  have h3:w.heap[b2]? = some (.cells [.slice (S1 g2) n2 c2].toArray 80 (0,0)):=h2.blkI
  rw[hh] at h3
  simp only[Option.some.injEq,Obj.cells.injEq] at h3
  exact absurd h3.2.1 (by decide)
theorem Al.apart{B2 ba2 b2 g2 n2 c2:Nat}{pa2:O0}{ca2 f2 N2 k2:Nat}{l2:Bl}{w W:World}{ba g:Nat}(h:Al B2 ba2 b2 g2 n2 c2 pa2 ca2 f2 N2 k2 l2 w)(hC:AlC B2 ba2 n2 c2 ca2 f2 N2)(h1:ba<B2)(h2:g<B2)(hne:b2≠ba∧b2≠g)(hX:Fr [ba,g] w W):Al B2 ba2 b2 g2 n2 c2 pa2 ca2 f2 N2 k2 l2 W:=by
 have hB:=hC.hB
 refine⟨h.blkA.fr hX (by simp;omega),h.blkI.fr hX (by simp;exact hne),own_fr h.data hX fun k hk=>?_,own_fr h.nums hX fun k hk=>?_⟩
 ·have:=(h.data.lt k hk).1;simp;omega
 ·have:=(h.nums.lt k hk).1;simp;omega
theorem Wo(B ba b g nn cc:Nat)(pa:O0)(ca f N k0:Nat)(bs:Bl)(t:Int)(a:O0)(c:Nat)(l:List Ent)(n:Nat)(w:World)(hl:l.length=n)(hC:AlC B ba nn cc ca f N)(hA:Al B ba b g nn cc pa ca f N k0 bs w)(ht1:1≤t)(ht2:t≤5)(E:EntsOk (Pd t true) l)(hn:n≤32768)(hf1:1≤f)(hkN:k0≤N)(hk:k0+Xx t n≤N)(hin:∀ W,Below B w W→Zf [200,5,28] w W→Sts Jv W (.slice a l.length c) l)(hBw:B≤w.heap.size) :
 C0 161 #[P0 ba,V0 t,.slice a n c] w (Zhm B ba b g nn cc pa ca f N k0 bs t l w):=by
 subst hl;exact build_Tree B ba b g nn cc pa ca f N k0 bs t a c l w hC hA ht1 ht2 E hn hf1 hkN hk hin hBw
theorem Mf{t:Int}{l:List Ent}{q:Nat}{bs:Bl}(hq:1≤q):(Yl t l q bs).1=((q+Xx t l.length-1:Nat):Int):=by
 have hp:=Vx l.length (Qs t true)
 have hg:=Lc (ovN l.length (Qs t true))
 unfold Yl
 rw[Zgv (by rw[Yf];exact hp) (by rw[Yf,Pp (by omega)];simp only[upX];congr 1;omega) (by omega),Yf]
 unfold Xx Uy
 congr 1;omega
abbrev Gu:=Int×List Ent
def Ca(x:Gu):Prop:=1≤x.1∧x.1≤5∧EntsOk (Pd x.1 true) x.2∧x.2.length≤32768
def Lu(x:Gu):Nat:=Xx x.1 x.2.length
def Xw:List Gu→Nat
 | []=>0
 | x::r=>Lu x+Xw r
def Zbq:List Gu→Nat→Bl→Bl
 | [],_,bs=>bs
 | x::r,q,bs=>Zbq r (q+Lu x) (Yl x.1 x.2 q bs).2
theorem Ac(a b:List Gu):Xw (a++b)=Xw a+Xw b:=by
 induction a with
 | nil=>simp[Xw]
 | cons x a ih=>simp only[List.cons_append,Xw,ih];omega
theorem Zfc(a b:List Gu):∀ (q:Nat) (bs:Bl),Zbq (a++b) q bs=Zbq b (q+Xw a) (Zbq a q bs):=by
 induction a with
 | nil=>intro q bs;simp[Zbq,Xw]
 | cons x a ih =>
  intro q bs
  simp only[List.cons_append,Zbq,Xw,ih]
  rw[show q+Lu x+Xw a=q+(Lu x+Xw a) by omega]
theorem Zd3(L:List Dv)(i:Nat):Pg (L.take i)≤Pg L:=by
 conv=>rhs;rw[←List.take_append_drop i L]
 unfold Pg
 rw[List.map_append,List.sum_append];omega
theorem gd_mem{α:Type}{l:List α}{k:Nat}(d:α)(h:k<l.length):l.getD k d∈l:=by
 rw[show l.getD k d=l[k] from by simp[List.getD,h]];exact List.getElem_mem _
def Lx(L:List Dv):List Gu:=L.map fun d=>(2,Lv d.2)
def Zct(L:List Dv)(i:Nat):Nat:=Xw (Lx (L.take (i+1)))
theorem Tr(a b:List Dv):Lx (a++b)=Lx a++Lx b:=List.map_append ..
theorem Zdy{L:List Dv}{i:Nat}(h:i<L.length):Lx (L.take (i+1))=Lx (L.take i)++[(2,Lv (L.getD i dvD).2)]:=by
 rw[List.take_succ_eq_append_getElem h,Tr]
 simp[Lx,List.getD,h]
theorem le_sum_mem{l:List Nat}{a:Nat}(h:a∈l):a≤l.sum:=by
 induction l with
 | nil=>cases h
 | cons b l ih =>
  rw[List.sum_cons]
  rcases List.mem_cons.1 h with rfl|h
  ·omega
  ·have:=ih h;omega
theorem devT_ok{data:Int}{L:List Dv}(h:DevsOk data L):∀ x∈Lx L,Ca x:=by
 intro x hx
 obtain⟨d,hd,rfl⟩:=List.mem_map.1 hx
 have hs:d.2.length≤Pg L:=by
  unfold Pg
  exact le_sum_mem (List.mem_map.2 ⟨d,hd,rfl⟩)
 have:=h.sum
 exact⟨show(1:Int)≤2 by decide,show(2:Int)≤5 by decide,mapEs_ok (h.each d hd).maps,by rw[Jg];omega⟩
theorem forN_one(x:Gu):Xw [x]=Lu x:=by show Lu x+0=_;omega
theorem Jo(F:List Gu)(x:Gu):Xw (F++[x])=Xw F+Lu x:=by rw[Ac,forN_one]
theorem forB_snoc(F:List Gu)(x:Gu)(q:Nat)(bs:Bl):Zbq (F++[x]) q bs=(Yl x.1 x.2 (q+Xw F) (Zbq F q bs)).2:=by rw[Zfc];rfl
theorem Ly(x:Gu):1≤Lu x:=Wl _ _
def AlF (B ba b g nn cc:Nat)(pa:O0)(ca N:Nat)(bs:Bl)(F:List Gu)(w:World):Prop:=Al B ba b g nn cc pa ca 1 N (Xw F) (Zbq F 1 bs) w
theorem AlF.below{B ba b g nn cc:Nat}{pa:O0}{ca N:Nat}{bs:Bl}{F:List Gu}{w W:World}(h:AlF B ba b g nn cc pa ca N bs F w)(hb:B3 w W):AlF B ba b g nn cc pa ca N bs F W:=Al.below h hb
theorem AlF.only{B ba b g nn cc:Nat}{pa:O0}{ca N:Nat}{bs:Bl}{F:List Gu}{w W:World}{T:List TypeId}(h:AlF B ba b g nn cc pa ca N bs F w)(hO:Zf T w W)(hT:(T.contains 200||(T.contains 80||(T.contains 5||T.contains 3)))=false):AlF B ba b g nn cc pa ca N bs F W:=by
 simp only[Bool.or_eq_false_iff] at hT
 exact⟨h.blkA.only hO hT.1,h.blkI.only hO hT.2.1,Zj h.data hO hT.2.2.1,Zj h.nums hO hT.2.2.2⟩
theorem build_F(B ba b g nn cc:Nat)(pa:O0)(ca N:Nat)(bs:Bl)(F:List Gu)(t:Int)(a:O0)(c n:Nat)(l:List Ent)(w:World)(hl:l.length=n)(hC:AlC B ba nn cc ca 1 N)(hA:AlF B ba b g nn cc pa ca N bs F w)(hok:Ca (t,l))(hr:Xw (F++[(t,l)])≤N)
 (hin:∀ W,Below B w W→Zf [200,5,28] w W→Sl W (.slice a n c) n (l.flatMap Jv)) (hBw:B≤w.heap.size) :
 C0 161 #[P0 ba,V0 t,.slice a n c] w (fun e w'=>e=.returned (.tuple #[V0 (Xw (F++[(t,l)]):Int),.nilIface])∧Below B w w'∧Zf [200,5,28] w w'∧Fr [ba,g] w w'∧AlF B ba b g nn cc pa ca N bs (F++[(t,l)]) w'):=by
 subst hl
 have hn:=Ly (t,l)
 rw[Jo] at hr
 refine(Wo B ba b g nn cc pa ca 1 N (Xw F) (Zbq F 1 bs) t a c l l.length w rfl hC hA hok.1 hok.2.1 hok.2.2.1 (Nat.le_trans hok.2.2.2 (by decide)) (Nat.le_refl _) (by omega) hr hin hBw).mono ?_
 rintro e w' ⟨rfl,hb,hO,hX,a1⟩
 have a0:(Yl t l (1+Xw F) (Zbq F 1 bs)).1=((Xw (F++[(t,l)]):Nat):Int):=by
  rw[Mf (by omega),Jo]
  show((1+Xw F+Lu (t,l)-1:Nat):Int)=_
  omega
 refine⟨by rw[a0],hb,hO,hX,?_⟩
 unfold AlF
 rw[Jo,forB_snoc]
 exact a1
theorem top_ok{data:Int}{L:List Dv}{R:Nat→Nat}(h:DevsOk data L):Ca (1,Ec L R):=by
 have:=h.few
 exact⟨show(1:Int)≤1 by decide,show(1:Int)≤5 by decide,topEs_ok h,by rw[Js];omega⟩
theorem det_ok{data:Int}{L:List Dv}{C:Nat→Int}(h:DevsOk data L):Ca (3,El L C):=by
 have:=h.few
 exact⟨show(1:Int)≤3 by decide,show(3:Int)≤5 by decide,detEs_ok h,by rw[Jp];omega⟩
theorem Ze4{E:List Ent}{i:Nat}(h:i<E.length){x:Ent}(hx:E.getD i Kd=x):(E.take i).flatMap Jv++Jv x=(E.take (i+1)).flatMap Jv:=by
 subst hx
 rw[List.take_succ_eq_append_getElem h,List.flatMap_append]
 simp[List.getD,h]
theorem rootR_pos{L:List Dv}{i:Nat}(h:i<L.length):1≤Xw (Lx (L.take (i+1))):=by
 rw[Zdy h,Jo]
 have:=Ly (2,Lv (L.getD i dvD).2);omega
theorem dev_treeOk{data:Int}{L:List Dv}(hD:DevsOk data L){i:Nat}(h:i<L.length):Ca (2,Lv (L.getD i dvD).2):=devT_ok hD _ (List.mem_map.2 ⟨L.getD i dvD,by simp[List.getD,h],rfl⟩)
theorem maps_sum{L:List Dv}{i:Nat}(h:i<L.length):(L.getD i dvD).2.length≤Pg L:=by
 have a:=Zd3 L (i+1)
 have e:Pg (L.take (i+1))=Pg (L.take i)+(L.getD i dvD).2.length:=by
  unfold Pg
  rw[List.take_succ_eq_append_getElem h,List.map_append,List.sum_append]
  simp[List.getD,h]
 omega
def Bz(L:List Dv):Nat→Int:=fun i=>((L.getD i dvD).2.length:Int)
def F1 (L:List Dv):List Gu:=Lx L++[(1,Ec L (Zct L))]
def F2 (L:List Dv):List Gu:=F1 L++[(3,El L (Bz L))]
def Hf:Nat→List Dv→List (Nat×Mp)
 | _,[]=>[]
 | i,d::r=>d.2.map (fun m=>(i,m))++Hf (i+1) r
theorem Sv(L:List Dv):∀ i,(Hf i L).length=Pg L:=by
 induction L with
 | nil=>intro i;rfl
 | cons d r ih=>intro i;rw[Hf,List.length_append,List.length_map,ih];rfl
theorem mapsR_drop(L:List Dv):∀ (b i:Nat),i≤L.length→(Hf b L).drop (Pg (L.take i))=Hf (b+i) (L.drop i):=by
 induction L with
 | nil =>
  intro b i hi;obtain rfl:i=0:=by simpa using hi
  rfl
 | cons d r ih =>
   intro b i hi
   cases i with
   | zero=>rfl
   | succ i =>
    have e:Pg ((d::r).take (i+1))=d.2.length+Pg (r.take i):=rfl
    rw[e,Hf,List.drop_append,List.length_map,show d.2.length+Pg (r.take i)-d.2.length=Pg (r.take i) by omega,List.drop_eq_nil_of_le (by rw[List.length_map];omega),List.nil_append,ih (b+1) i (by simpa using hi)]
    rw[show b+1+i=b+(i+1) by omega];rfl
theorem mapsR_at{L:List Dv}{i j:Nat}(hi:i<L.length)(hj:j<(L.getD i dvD).2.length):(Hf 0 L)[Pg (L.take i)+j]? = some (i,(L.getD i dvD).2.getD j (0,0,0)):=by
 have h:=mapsR_drop L 0 i (by omega)
 rw[←List.getElem?_drop,h,List.drop_eq_getElem_cons hi,Hf,Nat.zero_add]
 have e:L.getD i dvD=L[i]:=by simp[List.getD,hi]
 rw[e] at hj ⊢
 rw[List.getElem?_append_left (by rw[List.length_map];exact hj),List.getElem?_map,List.getElem?_eq_getElem hj]
 simp[List.getD,hj]
def Ft(cs:List Nat)(R:List (Nat×Mp)):List Nat:=R.foldl (fun c x=>Zhh c x.2.2.1) cs
def Hd(data:Nat)(L:List Dv):List Nat:=Ft (List.replicate data 0) (Hf 0 L)
theorem Zcl(R:List (Nat×Mp)):∀ cs,(Ft cs R).length=cs.length:=by
 induction R with
 | nil=>intro cs;rfl
 | cons x r ih=>intro cs;show(Ft (Zhh cs x.2.2.1) r).length=_;rw[ih,Zax]
theorem Ke(data:Nat)(L:List Dv):(Hd data L).length=data:=by unfold Hd;rw[Zcl,List.length_replicate]
theorem refsF_take(cs:List Nat)(R:List (Nat×Mp)){k:Nat}{x:Nat×Mp}(h:R[k]? = some x):Ft cs (R.take (k+1))=Zhh (Ft cs (R.take k)) x.2.2.1:=by
 have hk:k<R.length:=by
  rcases Nat.lt_or_ge k R.length with q|q
  ·exact q
  ·rw[List.getElem?_eq_none q] at h;cases h
 rw[List.getElem?_eq_getElem hk,Option.some.injEq] at h
 unfold Ft
 rw[List.take_succ_eq_append_getElem hk,List.foldl_append,h];rfl
theorem Zd8{data:Int}:∀ (L:List Dv),(∀ d∈L,DevOk data d)→∀ (b:Nat),∀ x∈Hf b L,0≤x.2.2.1∧x.2.2.1<data
 | [],_,_,x,hx=>by cases hx
 | d::r,he,b,x,hx=>by
  rw[Hf] at hx
  rcases List.mem_append.1 hx with hx|hx
  ·obtain⟨m,hm,rfl⟩:=List.mem_map.1 hx
   exact((he d (List.mem_cons_self ..)).maps.each m hm).2.1
  ·exact Zd8 r (fun y hy=>he y (List.mem_cons_of_mem _ hy)) (b+1) x hx
theorem mapsR_in{data:Int}{L:List Dv}(h:DevsOk data L)(b:Nat):∀ x∈Hf b L,0≤x.2.2.1∧x.2.2.1<data:=Zd8 L h.each b
theorem Zce{data:Nat}(R:List (Nat×Mp))(h:∀ x∈R,0≤x.2.2.1∧x.2.2.1<(data:Int)):∀ cs,cs.length=data→(Ft cs R).sum=cs.sum+R.length:=by
 induction R with
 | nil=>intro cs _;rfl
 | cons x r ih =>
  intro cs hc
  have hx:=h x (List.mem_cons_self ..)
  show(Ft (Zhh cs x.2.2.1) r).sum=_
  rw[ih (fun y hy=>h y (List.mem_cons_of_mem _ hy)) _ (by rw[Zax];exact hc),bump_sum hx.1 (by omega),List.length_cons];omega
theorem Zel{data:Nat}{L:List Dv}(h:DevsOk (data:Int) L):(Hd data L).sum=Pg L:=by
 unfold Hd
 rw[Zce _ (mapsR_in h 0) _ List.length_replicate,List.sum_replicate_nat,Sv];omega
theorem Su(l:List Nat)(i:Nat):l.getD i 0≤l.sum:=by
 induction l generalizing i with
 | nil=>simp[List.getD]
 | cons a l ih =>
  cases i with
  | zero=>simp[List.getD]
  | succ i=>have:=ih i;simp only[List.getD_cons_succ,List.sum_cons];omega
def Ys(data:Nat)(L:List Dv):List Int:=(Hd data L).map fun n:Nat=>(n:Int)
theorem Qf(data:Nat)(L:List Dv):(Ys data L).length=data:=by unfold Ys;rw[List.length_map,Ke]
theorem Tg(data:Nat)(L:List Dv)(i:Nat):(Ys data L).getD i 0=((Hd data L).getD i 0:Nat):=by
 unfold Ys
 simp only[List.getD,List.getElem?_map]
 cases (Hd data L)[i]? <;> rfl
theorem Ld{data:Nat}{L:List Dv}(hd:data≤65536)(h:DevsOk (data:Int) L):Jk (Ys data L)=0:=by
 unfold Jk
 rw[Qf,if_neg (by omega),if_pos]
 intro k hk
 rw[Tg]
 have a:=Su (Hd data L) k
 rw[Zel h] at a
 have b:=h.sum
 unfold Nd;omega
def Zb4(cs:List Nat)(k:Nat):Nat:=((cs.take k).filter fun n=>decide (3≤n)).length
theorem Cc{cs:List Nat}{k:Nat}(h:k<cs.length):Zb4 cs (k+1)=Zb4 cs k+if 3≤cs.getD k 0 then 1 else 0:=by
 unfold Zb4
 rw[List.take_succ_eq_append_getElem h,List.filter_append,List.length_append,show cs.getD k 0=cs[k] from by simp[List.getD,h]]
 congr 1
 by_cases q:3≤cs[k]<;>simp[q]
theorem oftN_sum(cs:List Nat):∀ k,k≤cs.length→3*Zb4 cs k≤(cs.take k).sum
 | 0,_=>by simp[Zb4]
 | k+1,h=>by
  have ih:=oftN_sum cs k (by omega)
  rw[Cc (by omega),List.take_succ_eq_append_getElem (by omega),List.sum_append]
  have e:cs.getD k 0=cs[k]:=by simp[List.getD,show k<cs.length by omega]
  rw[e]
  simp only[List.sum_cons,List.sum_nil,Nat.add_zero]
  split<;>omega
theorem Zhp(data:Nat)(L:List Dv):∀ k,k≤data→(Zy (Ys data L) k).length=Zb4 (Hd data L) k
 | 0,_=>by simp[Zy,Zb4]
 | k+1,h=>by
  have ih:=Zhp data L k (by omega)
  rw[Cc (by rw[Ke];omega),←ih]
  by_cases q:3≤(Ys data L).getD k 0
  ·rw[Py q,List.length_append,if_pos (by rw[Tg] at q;omega)];rfl
  ·rw[Np q,if_neg (by rw[Tg] at q;omega),Nat.add_zero]
def oftL(data:Nat)(L:List Dv):Nat:=Zb4 (Hd data L) data
theorem Bf(data:Nat)(L:List Dv):(Zy (Ys data L) (Ys data L).length).length=oftL data L:=by rw[Qf];exact Zhp data L data (Nat.le_refl _)
theorem Cr{data:Nat}{L:List Dv}(h:DevsOk (data:Int) L):oftL data L≤5462:=by
 have a:=oftN_sum (Hd data L) data (by rw[Ke];exact Nat.le_refl _)
 rw[List.take_of_length_le (by rw[Ke];exact Nat.le_refl _),Zel h] at a
 have:=h.sum
 unfold oftL;omega
def Ds(L:List Dv):Nat:=(L.map fun d=>Xx 2 d.2.length).sum
def Di(data:Nat)(L:List Dv):Nat:=1+Xx 3 L.length+Xx 1 L.length+Ds L+bmN data+Xx 4 (bmN data)+Xx 5 (oftL data L)
theorem devsN_forN(L:List Dv):Xw (Lx L)=Ds L:=by
 induction L with
 | nil=>rfl
 | cons d r ih =>
  have e:Xw (Lx (d::r))=Xx 2 (Lv d.2).length+Xw (Lx r):=rfl
  have e2:Ds (d::r)=Xx 2 d.2.length+Ds r:=rfl
  rw[e,e2,ih,Jg]
def Zf0(m:Nat):Nat:=m+(m-1)/959+1
def Mi(data:Nat)(L:List Dv):Nat:=Zf0 (Di data L+2)
theorem Zg6{L:List Dv}:Ds L≤2*Pg L+2*L.length:=by
 induction L with
 | nil=>exact Nat.zero_le _
 | cons d r ih =>
  have e2:Ds (d::r)=Xx 2 d.2.length+Ds r:=rfl
  have e3:Pg (d::r)=d.2.length+Pg r:=rfl
  have:=Hr 2 d.2.length
  rw[e2,e3,List.length_cons];omega
theorem baseN_bd{data:Nat}{L:List Dv}(hd:data≤65536)(h:DevsOk (data:Int) L):1≤Di data L∧Di data L≤100000:=by
 have a:=Hr 3 L.length
 have b:=Hr 1 L.length
 have c:=@Zg6 L
 have d:=Hr 4 (bmN data)
 have e:=Hr 5 (oftL data L)
 have f:=Cr h
 have g:=h.few
 have i:=h.sum
 have j:bmN data≤69:=by unfold bmN;omega
 unfold Di;omega
theorem need_room{m n:Nat}(h:Zf0 m≤n):m+bmN n≤n:=by unfold Zf0 at h;unfold bmN;omega
end Go.Proofs.YtceeiinepijokaaGreatDoor
namespace Go.Proofs.YtceeiinepijokaaGreatDoor
set_option maxHeartbeats 8000000
set_option maxRecDepth 100000
open Go.RowKit
set_option linter.unusedVariables false
attribute [local go_sem] Oper.semAt_some
theorem Sl.to{w W:World}{v:Value}{n:Nat}{xs:List Value}(h:Sl w v n xs)(hk:∀ a x,w.cell? a=some x→W.cell? a=some x):Sl W v n xs:=by
 rcases h with h|⟨b,a0,a1,h1,h2,h3,h4⟩
 ·exact .inl h
 ·exact .inr ⟨b,a0,a1,h1,h2,h3,fun j x hj=>hk _ _ (h4 j x hj)⟩
theorem DevsR.to{w W:World}{p:O0}{c:Nat}{Z:List Zv}(h:DevsR w p c Z)(hk:∀ a x,w.cell? a=some x→W.cell? a=some x):DevsR W p c Z:=⟨Sl.to h.row hk,fun i hi=>Sl.to (h.each i hi) hk⟩
def encM(x:Nat×Mp):Array Value:=#[V0 (x.1:Int),.agg #[V0 x.2.1,V0 x.2.2.1,V0 x.2.2.2]]
theorem Td{q:Nat→Prop}{W V:World}(h:Keeps q W V)(hq:∀ b,q b→b<W.heap.size)(o:Obj):Keeps q W (V.alloc o):=by
 have hb:=(Below.refl V.heap.size V).alloc (Nat.le_refl _) o
 exact⟨Nat.le_trans h.size hb.size,fun b a0=>(hb.block b (Nat.lt_of_lt_of_le (hq b a0) h.size)).trans (h.block b a0)⟩
theorem sl_lit{α:Type}{f:α→List Value}{w:World}{p:O0}{n c:Nat}{l:List α}(h:Sl w (.slice p n c) n (l.flatMap f))(hn:0<n):∃ pb po,p=some ⟨pb,po,none⟩∧∀ j x,(l.flatMap f)[j]? = some x→w.cell? ⟨pb,po+j,none⟩=some x:=by
 rcases h with ⟨a,cc,h1,h2,_⟩|⟨pb,po,a0,h1,_,_,h4⟩
 ·omega
 ·simp only[Value.slice.injEq] at h1
  exact⟨pb,po,h1.1,h4⟩
theorem maps1_in(l B1:Nat)(pp:O0)(n c:Nat)(t u v x:Int)(Z:List Zv)(w:World)(hZ:Z.length=n)(hP:DevsR w pp c Z)(hn:n≤1000000000)(q:Nat→Prop)(hq:∀ b,b<w.heap.size→q b)(J Jx:Nat→World→Prop)(hJ:∀ k A B,J k A→Below A.heap.size A B→J k B)
 (hY:∀ k x V,(Hf 0 (Z.map Prod.fst))[k]? = some x→J k V→YieldAt Fence.wide 2 Tryz.prog l (encM x) V fun e U =>
 (e=.returned (.bool true)∧J (k+1) U∧Keeps q V U)∨(e=.returned (.bool false)∧Jx k U))
 (W:World) (hW:B3 w W) (hqlt:∀ b,q b→b<W.heap.size) (hk1:Blk W B1 [V0 t,V0 u,V0 v,V0 x,.slice pp n c] 48) (h0:J 0 W) :
 CallsIn Fence.wide 3 Tryz.prog 120 #[.func (.yield l) #[] #[],P0 B1] W fun e U=>(∃ v,e=.returned v)∧(J (Hf 0 (Z.map Prod.fst)).length U∨∃ k,k<(Hf 0 (Z.map Prod.fst)).length∧Jx k U):=by
 refine callsIn_of_wp Tryz.func120 rfl trivial ?_ rfl
 simp only[Tryz.ntmps120,List.size_toArray,List.length_cons,List.length_nil,Nat.reduceAdd,Nat.reduceSub,Array.replicate_succ,Array.replicate_zero,List.push_toArray,List.append_toArray,List.nil_append,List.cons_append]
 have z4:=hk1.cell (i:=4) rfl
 have c5:(Z.map Prod.fst).length=n:=by rw[List.length_map];exact hZ
 gi_wp2
 gi_loopw [10] (fun i wr=>∃ k:Nat,k≤n∧i=V0 (k:Int)∧J (Pg ((Z.map Prod.fst).take k)) wr∧Keeps q W wr)
  (fun i _=>(n-(intOf i)).toNat)
 case atStart=>exact⟨0,Nat.zero_le _,rfl,h0,Keeps.refl _ _⟩
 case round =>
  obtain⟨k,hk,rfl,a0,b6⟩:=hrel
  by_cases hlt:k<n
  ·have b0:∀ {V:World},Keeps q W V→DevsR V pp c Z:=fun hV=>hP.to (fun a x ha=>(hV.cell (a:=a) (hq _ (ltC ha))).trans (getC hW ha))
   have b1:=b0 b6
   have a1:Sl wr (.slice pp n c) n (Z.flatMap devZ):=b1.rowN hZ
   obtain⟨pb,po,b9,hc⟩:=sl_lit a1 (by omega)
   have gz:∀ i x,i<5→(devZ (Z.getD k zvD))[i]? = some x→wr.cell? ⟨pb,po+k*5+i,none⟩=some x:=fun i x hi hx=>by
    rw[Nat.add_assoc]
    exact hc _ _ ((Rk Nt Z k i zvD (by omega) hi).trans hx)
   have a2:=fun j hj=>mapsR_at (L:=Z.map Prod.fst) (i:=k) (j:=j) (by omega) hj
   rw[zfst (by omega)] at a2
   have a4:=Oq (Z:=Z) (i:=k) (by omega)
   have b4:=fun {V:World} (hV:Keeps q W V)=>(b0 hV).each k (by omega)
   obtain⟨⟨⟨⟨i0,i1,i2,i3⟩,M⟩,mp,mc⟩,hz⟩:∃ z,Z.getD k zvD=z:=⟨_,rfl⟩
   rw[hz] at gz a2 a4
   simp only[hz] at b4
   have z5:=gz 0 _ (by decide) rfl
   have z6:=gz 1 _ (by decide) rfl
   have z7:=gz 2 _ (by decide) rfl
   have z8:=gz 3 _ (by decide) rfl
   have z9:=gz 4 _ (by decide) rfl
   rw[Nat.add_zero] at z5
   clear gz hc hz a1 b1
   subst b9
   obtain⟨S,hS⟩:∃ S,Pg ((Z.map Prod.fst).take k)=S:=⟨_,rfl⟩
   rw[hS] at a0 a2 a4
   gi_wp2
   gi_loopw [18] (fun j b3=>∃ m:Nat,m≤M.length∧j=V0 (m:Int)∧J (S+m) b3∧Keeps q W b3)
    (fun j _=>(M.length-(intOf j)).toNat)
   case atStart=>exact⟨0,Nat.zero_le _,rfl,hJ _ _ _ a0 ((Below.refl _ wr).alloc (Nat.le_refl _) _),Td b6 hqlt _⟩
   case round =>
    obtain⟨m,hm,rfl,b5,a6⟩:=hrel
    have hM:=b4 a6
    have c6:M.length≤9223372036854775807:=Sl.len hM
    by_cases hmt:m<M.length
    ·have a9:Sl wr (.slice mp M.length mc) M.length (M.flatMap mapC):=hM
     obtain⟨mb,mo,c2,b2⟩:=sl_lit a9 (by omega)
     have gm:∀ i x,i<3→(mapC (M.getD m (0,0,0)))[i]? = some x→wr.cell? ⟨mb,mo+m*3+i,none⟩=some x:=fun i x hi hx=>by
      rw[Nat.add_assoc]
      exact b2 _ _ ((Rk Cj M m i (0,0,0) hmt hi).trans hx)
     have hx:=a2 m hmt
     obtain⟨⟨m1,m2,m3⟩,a3⟩:∃ y,M.getD m (0,0,0)=y:=⟨_,rfl⟩
     rw[a3] at gm
     have a7:(Hf 0 (Z.map Prod.fst))[S+m]? = some (k,(m1,m2,m3)):=by rw[hx];exact congrArg (fun y=>some (k,y)) a3
     have y1:=gm 0 _ (by decide) rfl
     have y2:=gm 1 _ (by decide) rfl
     have y3:=gm 2 _ (by decide) rfl
     rw[Nat.add_zero] at y1
     clear gm b2 a9 hM hx a3
     subst c2
     have c3:=(Below.refl wr.heap.size wr).alloc (Nat.le_refl _) (.cells #[V0 m1,V0 m2,V0 m3] 159)
     obtain⟨fn,c0,a8,c4,hy,hR⟩:=hY _ _ (wr.alloc (.cells #[V0 m1,V0 m2,V0 m3] 159)) a7 (hJ _ _ _ b5 c3)
     have b8:=Td a6 hqlt (.cells #[V0 m1,V0 m2,V0 m3] 159)
     simp only[encM] at hy
     gi_wp2
     refine hR.mono ?_
     rintro e W3 (⟨rfl,b7,c1⟩|⟨rfl,a5⟩)
     ·gi_wp2
      go_roundw
      case rel =>
       refine⟨m+1,by omega,?_,b7,b8.trans c1⟩
       exact congrArg V0 (by omega)
      case measure=>simp only[intOf];omega
     ·gi_wp2
      refine bodyPost_ret (results_none rfl _ _ _) rfl ?_
      refine⟨⟨_,rfl⟩,.inr ⟨_,?_,a5⟩⟩
      rcases Nat.lt_or_ge (S+m) (Hf 0 (Z.map Prod.fst)).length with h|h
      ·exact h
      ·rw[List.getElem?_eq_none h] at a7;cases a7
    ·obtain rfl:m=M.length:=by omega
     gi_wp2
     go_roundw
     case rel =>
      refine⟨k+1,by omega,?_,by rw[a4];exact b5,a6⟩
      exact congrArg V0 (by omega)
     case measure=>simp only[intOf];omega
  ·obtain rfl:k=n:=by omega
   have HJ:=Lib.hid a0;clear a0
   gi_wp2
   go_end0
   have a0:=HJ.out
   rw[List.take_of_length_le (by omega)] at a0
   exact⟨⟨_,rfl⟩,.inl (by rw[Sv];exact a0)⟩
end Go.Proofs.YtceeiinepijokaaGreatDoor
namespace Go.Proofs.YtceeiinepijokaaGreatDoor
set_option maxHeartbeats 8000000
set_option maxRecDepth 100000
open Go.RowKit
set_option linter.unusedVariables false
theorem Zfu{P:Program}{l n:Nat}{ops:Array Oper}{Q:Exit→Act→World→Prop}(hQ:¬ LetsOut Q):∀ (r:List Oper) (a:Act) (w:World),(∀ o∈r,∀ c,o.op≠.defer c)→wpList P ops Q r a w→wpListIn (Fence.wide.inRound l) n P ops Q r a w
 | [],_,_,_,h=>h
 | o::r,a,w,hd,h=>by
  unfold wpList at h
  unfold wpListIn
  split at h
  ·rename_i hw
   rw[if_pos hw]
   exact Oper.wpIn_mono (fun a w=>Zfu hQ r a w (fun o ho=>hd o (by simp[ho]))) (oper_in (hd o (by simp)) (h.resolve_right fun q=>hQ q.2))
  ·rename_i hw
   rw[if_neg hw]
   exact⟨fun _ _=>trivial,Zfu hQ r _ _ (fun o ho=>hd o (by simp[ho])) h⟩
theorem reg_in{P:Program}{l0 n0 id:Nat}{l:List Oper}{Q:Exit→Act→World→Prop}{a:Act}{w:World}(hQ:¬ LetsOut Q)(hd:∀ o∈l,∀ c,o.op≠.defer c)(h:wpList P l.toArray Q l a w):(Code.region id l.toArray false).wpIn (Fence.wide.inRound l0) n0 P Q a w :=
 wpIn_region_lit (Zfu hQ l a w hd h)
def Turns(q:Nat→Prop)(n:Nat)(A:World)(row:Option Nat):Prop:=∀ r,row=some r→q r∨n≤r∧∃ o:Obj,A.heap[r]? = some o∧o.isCells=false
theorem below_ab{n m:Nat}{q:Nat→Prop}{w A B:World}{row:Option Nat}(h:Below n w A)(hg:A.grownBy B row)(hr:Turns q m A row)(hn:n≤w.heap.size)(hm:n≤m)(hq:∀ r,q r→n≤r):Below n w B :=
 h.grown hg (Nat.le_trans hn h.size) (fun r e=>by rcases hr r e with h1|h1;exact hq _ h1;omega)
theorem own_ab{q:Nat→Prop}{A B:World}{row:Option Nat}{base size n m:Nat}{e:TypeId}{v:Value}{xs:List Value}(k:A.ownsRow base e size v n xs)(hg:A.grownBy B row)(hr:Turns q m A row)(hq:∀ r,q r→r<base):B.ownsRow base e size v n xs:=by
 obtain⟨h1,h2⟩:=k
 refine⟨h1,?_⟩
 rcases h2 with h2|⟨g,a1,a0,hv,hb,hh,r⟩
 ·exact Or.inl h2
 ·refine Or.inr ⟨g,a1,a0,hv,hb,?_,r⟩
  rw[hg.block g (Array.getElem?_eq_some_iff.1 hh).1 (fun q=>by
   rcases hr g q.symm with h3|⟨_,o,ho,hc⟩
   ·have:=hq _ h3;omega
   ·rw[hh] at ho
    cases ho
    cases hc)]
  exact hh
theorem blk_ab{q:Nat→Prop}{A B:World}{row:Option Nat}{b m:Nat}{cs:List Value}{t:TypeId}(k:Blk A b cs t)(hg:A.grownBy B row)(hr:Turns q m A row)(hq:∀ r,q r→b≠r):Blk B b cs t :=
 k.kept hg (fun e'=>by
  rcases hr b e'.symm with h3|⟨_,o,ho,hc⟩
  ·exact hq _ h3 rfl
  ·rw[show A.heap[b]? = _ from k] at ho;cases ho;cases hc)
theorem zi_fr{F:Fence}{n:Nat}{P:Program}{c:Code}{Q:Exit→Act→World→Prop}{a:Act}{w:World}(a':Act)(h:a=a')(k:c.wpIn F n P Q a' w):c.wpIn F n P Q a w:=h▸k
theorem Dfr.put{D D2:Nat}{w:World}(h:Dfr D w)(hne:D≠D2)(o:Obj):Dfr D (w.putObj D2 o):=(World.putObj_heap_other hne).trans h
end Go.Proofs.YtceeiinepijokaaGreatDoor
namespace Go.Proofs.YtceeiinepijokaaGreatDoor
set_option maxHeartbeats 8000000
set_option maxRecDepth 100000
open Go.RowKit Go.Extern.Stop Go.Stop Go.Extern
set_option linter.unusedVariables false
attribute [local irreducible] wpList wpAnyH Code.wp Oper.wp Go
theorem maps_seq(B1:Nat)(p:O0)(n c:Nat)(t u v x:Int)(Z:List Zv)(w w0:World)(hZ:Z.length=n)(hP:DevsR w p c Z)(hn:n≤1000000000)(hW:B3 w w0)(q:Nat→Prop)(hq:∀ b,b<w.heap.size→q b)(hqlt:∀ b,q b→b<w0.heap.size)(hk1:Blk w0 B1 [V0 t,V0 u,V0 v,V0 x,.slice p n c] 48) :
  SeqB Tryz.prog 120 #[P0 B1] encM (Keeps q) (Hf 0 (Z.map Prod.fst)) w0:=fun l J Jx W hw hJ hY h0 =>
 maps1_in l B1 p n c t u v x Z w hZ hP hn q hq J Jx hJ hY W (bln hW hw) (fun b hb=>Nat.lt_of_lt_of_le (hqlt b hb) hw.size) (hk1.below hw) h0
theorem frg_ko{g:Nat}{W V:World}{cs:List Value}{t:TypeId}(h:Fr [g] W V)(k:Blk W g cs t):KeepsOthers W V:=⟨h.size,fun i o hi ho=>(h.block i (Array.getElem?_eq_some_iff.1 hi).1 (by
 simp only[List.mem_singleton]
 rintro rfl
 rw[show W.heap[i]? = _ from k] at hi
 cases hi;cases ho)).trans hi⟩
theorem frg_keeps{p:Nat→Prop}{g:Nat}{W V:World}(h:Fr [g] W V)(hp:∀ b,p b→b<W.heap.size)(hg:¬ p g):Keeps p W V:=⟨h.size,fun b hb=>h.block b (hp b hb) (by simp only[List.mem_singleton];rintro rfl;exact hg hb)⟩
theorem pool_maps(t u v x:Int)(p:O0)(n c:Nat)(w:World) :
 C0 69 #[.agg #[V0 t,V0 u,V0 v,V0 x,.slice p n c]] w (Qe (fun w' r=>∃ b,r=.func (.func 120) #[] #[P0 b]∧w.heap.size≤b∧Blk w' b [V0 t,V0 u,V0 v,V0 x,.slice p n c] 48) w):=by
 refine zin 4 Tryz.func69 ?_
 refine xa 2 [V0 t,V0 u,V0 v,V0 x,.slice p n c] 48 fun b1 W1 n1=>?_
 exact xe 10 (.func (.func 120) #[] #[P0 b1]) ⟨_,rfl,n1.below,b1,rfl,(n1.ge (B4 w)),n1.blk⟩
theorem Lz(p:O0)(c n x:Nat)(t u v:Int)(Z:List Zv)(w:World)(hZ:Z.length=n)(hP:DevsR w p c Z)(hk:PoolOk t u v (x:Int) (Z.map Prod.fst)) :
 C0 25 #[.agg #[V0 t,V0 u,V0 v,V0 (x:Int),.slice p n c]] w (Qe (fun w' r=>∃ q d,r=.slice q x d∧w'.ownsRow w.heap.size 3 1 (.slice q x d) x ((Hd x (Z.map Prod.fst)).map nv)) w):=by
 have hx:x≤65536:=by have:=hk.hdata;omega
 have c7:n≤1000000000:=by have:=hk.devs.few;rw[List.length_map] at this;omega
 have a5:=mapsR_in hk.devs 0
 have d0:=hk.devs.sum
 refine Mo Tryz.func25 rfl ?_
 refine g_fr ⟨#[.agg #[V0 t,V0 u,V0 v,V0 (x:Int),.slice p n c],undef,undef,undef,undef,undef,undef,undef,undef,undef,undef,undef,undef,undef,undef,undef,undef,undef,undef,undef,undef,undef,undef,undef,undef,undef],[]⟩ (by kernel_rfl) ?_
 refine wp_seq ?_
 refine wp_region_lit ?_
 refine Hg (by kernel_rfl) (op_box [V0 t,V0 u,V0 v,V0 (x:Int),.slice p n c] rfl (by kernel_rfl) ?_)
 intro b1 W1 n1
 have g1:=n1.ge (B4 w)
 have hB:=n1.below
 have k1:=n1.blk
 refine Uh 1 [(2,S0)] (by kernel_rfl) ?_
 refine wpList_nil ?_
 refine wp_seq ?_
 refine wp_seq ?_
 refine wp_region_lit ?_
 refine Hg (by kernel_rfl) (Ce (b:=b1) (off:=0) [V0 t,V0 u,V0 v,V0 (x:Int),.slice p n c] _ rfl (by kernel_rfl) Tryz.underlying48 rfl (by kernel_rfl) k1.whole ?_)
 refine Hg (by kernel_rfl) (Vp (lb:=#[]) 17 #[.agg #[V0 t,V0 u,V0 v,V0 (x:Int),.slice p n c]] rfl (by kernel_rfl) (fun _ _=>by kernel_rfl) (by kernel_rfl) ((Ct p c n t u v (x:Int) Z _ hZ (hP.below hB)).mono ?_))
 rintro e W2 ⟨rfl,b9⟩
 refine⟨_,rfl,?_⟩
 replace hB:=bln hB b9
 replace k1:=k1.below b9
 refine Uh 1 [(9,.bool ((Gw t u v (x:Int) (Z.map Prod.fst)) != (0:Int)))] (by kernel_rfl) ?_
 refine wpList_nil ?_
 refine wp_cond_split (t:=((Gw t u v (x:Int) (Z.map Prod.fst)) != (0:Int))) (by kernel_rfl) (fun hh=>absurd (hh.symm.trans (show(((Gw t u v (x:Int) (Z.map Prod.fst)) != (0:Int)):Bool)=false from by rw[Zbz.2 hk];rfl)) (by decide)) (fun _=>?_)
 refine wp_skip ?_
 refine wp_seq ?_
 refine wp_region_lit ?_
 refine Uh 1 [(11,.pointer (some ⟨b1,3,none⟩))] (by kernel_rfl) ?_
 refine Hg (by kernel_rfl) (Jz ⟨b1,3,none⟩ (V0 (x:Int)) rfl (by kernel_rfl) (by kernel_rfl) (k1.cell (i:=3) rfl) ?_)
 have d1:=hB.size
 have d4:w.heap.size≤(W2).heap.size:=hB.size
 refine Hg (by kernel_rfl) (Vp (lb:=#[]) 65 #[V0 (x:Int)] rfl (by kernel_rfl) (fun _ _=>by kernel_rfl) (by kernel_rfl) ((refs_NewI x _ hx).mono ?_))
 rintro e W4 ⟨_,rfl,c5,br,g,rfl,c0,a1,hc⟩
 refine⟨_,rfl,?_⟩
 replace hB:=bln hB c5
 replace k1:=k1.below c5
 replace hc:=Zd hc d4
 replace c0:=Nat.le_trans d1 c0
 refine Uh 3 [(10,.tuple #[P0 br,V0 0]),(14,P0 br),(15,V0 0)] (by kernel_rfl) ?_
 refine Hg (by kernel_rfl) (Nn [.pointer none] rfl (by kernel_rfl) ?_)
 intro b5 W5 n5
 have a3:=n5.ne k1
 have a6:=n5.ne a1
 have g5:=n5.ge hB
 replace hB:=bln hB n5.below
 replace k1:=k1.below n5.below
 replace a1:=a1.below n5.below
 replace hc:=Zb hc n5.below
 have k5:=n5.blk
 refine Hg (by kernel_rfl) (Jc (v:=P0 br) (b:=b5) (off:=0) rfl (by kernel_rfl) (by kernel_rfl) (by kernel_rfl) rfl k5 (by first|decide|simp) ?_)
 intro W6 u6 k6
 change Blk _ _ [P0 br] _ at k6
 replace hB:=u6.below hB g5
 replace k1:=u6.blk k1 (Ne.symm (Ne.symm a3))
 replace a1:=u6.blk a1 (Ne.symm (Ne.symm a6))
 replace hc:=u6.own2 hc k5 (by decide)
 refine Uh 1 [(4,V0 0)] (by kernel_rfl) ?_
 refine wpList_nil ?_
 refine wp_seq ?_
 refine wp_seq ?_
 refine wp_region_lit ?_
 refine Hg (by kernel_rfl) (Ce (b:=b1) (off:=0) [V0 t,V0 u,V0 v,V0 (x:Int),.slice p n c] _ rfl (by kernel_rfl) Tryz.underlying48 rfl (by kernel_rfl) k1.whole ?_)
 have d5:=hB.size
 refine Hg (by kernel_rfl) (Vp (lb:=#[]) 69 #[.agg #[V0 t,V0 u,V0 v,V0 (x:Int),.slice p n c]] rfl (by kernel_rfl) (fun _ _=>by kernel_rfl) (by kernel_rfl) ((pool_maps t u v (x:Int) p n c _).mono ?_))
 rintro e W7 ⟨_,rfl,a4,bm,rfl,c4,c6⟩
 refine⟨_,rfl,?_⟩
 replace hB:=bln hB a4
 replace k1:=k1.below a4
 replace a1:=a1.below a4
 replace k6:=k6.below a4
 replace hc:=Zb hc a4
 replace c4:=Nat.le_trans d5 c4
 refine wpList_nil ?_
 refine wp_block ?_
 have b0:=hB
 have a9:w.heap.size≤W7.heap.size:=b0.size
 have m3:=k6
 have mr:=a1
 have mm:=c6
 have mc:=hc
 have c8:w.heap.size≤g∧g<W7.heap.size:=mc.lt g rfl
 have hq:=maps_seq bm p n c t u v (x:Int) Z w W7 hZ hP c7 b0 (fun b=>b<w.heap.size) (fun b h=>h) (fun b h=>Nat.lt_of_lt_of_le h a9) mm
 refine g_fr ⟨#[.agg #[V0 t,V0 u,V0 v,V0 (x:Int),.slice p n c],P0 b1,S0,P0 b5,V0 0,undef,undef,.agg #[V0 t,V0 u,V0 v,V0 (x:Int),.slice p n c],V0 (Gw t u v (x:Int) (Z.map Prod.fst)),.bool ((Gw t u v (x:Int) (Z.map Prod.fst)) != (0:Int)),.tuple #[P0 br,V0 0],.pointer (some ⟨b1,3,none⟩),V0 (x:Int),.tuple #[P0 br,V0 0],P0 br,V0 0,.agg #[V0 t,V0 u,V0 v,V0 (x:Int),.slice p n c],.func (.func 120) #[] #[P0 bm],undef,undef,undef,undef,undef,undef,undef,undef],[]⟩ (by kernel_rfl) ?_
 refine wp_rangeD (g:=.tmp 17) (gf:=120) (lb:=#[P0 bm]) rfl (enters_of Tryz.func120 (by kernel_rfl) rfl) (fun b=>b<w.heap.size) (fun b h=>Nat.lt_of_lt_of_le h a9) hq (fun _=>rfl)
  (fun k V=>B3 w V∧Blk V b5 [P0 br] 143∧Blk V br [.slice (S1 g) x x] 232∧V.ownsRow w.heap.size 3 1 (.slice (S1 g) x x) x ((Ft (List.replicate x 0) ((Hf 0 (Z.map Prod.fst)).take k)).map nv))
  (fun _ _ _=>False) ?bel ?own (fun _ _ _ _ _ h _ _=>h.elim) ⟨b0,m3,mr,mc⟩
  (fun y a' V=>∃ b6,a'={ tmps:=#[.agg #[V0 t,V0 u,V0 v,V0 (x:Int),.slice p n c],P0 b1,S0,P0 b5,V0 0,undef,P0 b6,.agg #[V0 t,V0 u,V0 v,V0 (x:Int),.slice p n c],V0 (Gw t u v (x:Int) (Z.map Prod.fst)),.bool ((Gw t u v (x:Int) (Z.map Prod.fst)) != (0:Int)),.tuple #[P0 br,V0 0],.pointer (some ⟨b1,3,none⟩),V0 (x:Int),.tuple #[P0 br,V0 0],P0 br,V0 0,.agg #[V0 t,V0 u,V0 v,V0 (x:Int),.slice p n c],.func (.func 120) #[] #[P0 bm],V0 (y.1:Int),.agg #[V0 y.2.1,V0 y.2.2.1,V0 y.2.2.2],undef,undef,undef,undef,undef,undef],defers:=[] }∧Blk V b6 [V0 y.2.1,V0 y.2.2.1,V0 y.2.2.2] 159) ?two ?assign ?body ?done (fun _ _ _ _ _ _ h _=>h.elim)
 case bel=>exact fun k A B h hb=>⟨bln h.1 hb,h.2.1.below hb,h.2.2.1.below hb,Zb h.2.2.2 hb⟩
 case own=>exact fun k A B c9 h hg hr=>⟨below_ab (q:=fun _=>False) h.1 hg (fun r e=>.inr (hr r e)) (Nat.le_refl _) a9 (fun _ q=>q.elim),blk_ab (q:=fun _=>False) (m:=W7.heap.size) h.2.1 hg (fun r e=>.inr (hr r e)) (fun _ q=>q.elim),blk_ab (q:=fun _=>False) (m:=W7.heap.size) h.2.2.1 hg (fun r e=>.inr (hr r e)) (fun _ q=>q.elim),own_ab (q:=fun _=>False) (m:=W7.heap.size) h.2.2.2 hg (fun r e=>.inr (hr r e)) (fun _ q=>q.elim)⟩
 case two=>exact fun y a' A B c9 ⟨b6,ha,h6⟩ hg hr=>⟨b6,ha,blk_ab (q:=fun _=>False) (m:=W7.heap.size) h6 hg (fun r e=>.inr (hr r e)) (fun _ q=>q.elim)⟩
 case assign =>
  rintro lr k y W K hy hI hK
  refine zi_fr { tmps:=#[.agg #[V0 t,V0 u,V0 v,V0 (x:Int),.slice p n c],P0 b1,S0,P0 b5,V0 0,undef,undef,.agg #[V0 t,V0 u,V0 v,V0 (x:Int),.slice p n c],V0 (Gw t u v (x:Int) (Z.map Prod.fst)),.bool ((Gw t u v (x:Int) (Z.map Prod.fst)) != (0:Int)),.tuple #[P0 br,V0 0],.pointer (some ⟨b1,3,none⟩),V0 (x:Int),.tuple #[P0 br,V0 0],P0 br,V0 0,.agg #[V0 t,V0 u,V0 v,V0 (x:Int),.slice p n c],.func (.func 120) #[] #[P0 bm],V0 (y.1:Int),.agg #[V0 y.2.1,V0 y.2.2.1,V0 y.2.2.2],undef,undef,undef,undef,undef,undef],defers:=[] } (by kernel_rfl) ?_
  refine reg_in (fun⟨_,_,q⟩=>q) (by simp) ?_
  refine Hg (by kernel_rfl) (Nn [V0 0,V0 0,V0 0] rfl (by kernel_rfl) ?_)
  intro b8 W8 n8
  have g8:=n8.ge (B4 W)
  have hB:=n8.below
  have k8:=n8.blk
  refine Hg (by kernel_rfl) (Zcg (b:=b8) (off:=0) [V0 y.2.1,V0 y.2.2.1,V0 y.2.2.2] rfl (by kernel_rfl) (by kernel_rfl) (by kernel_rfl) (by first|decide|simp[Value.oneCell']) k8 (by first|decide|simp) ?_)
  intro W9 u9 k9
  change Blk _ _ [V0 y.2.1,V0 y.2.2.1,V0 y.2.2.2] _ at k9
  replace hB:=u9.below hB g8
  refine wpList_nil ?_
  exact hK _ _ hB ⟨_,rfl,k9⟩
 case body =>
  rintro lr k y a' W d7 hy ⟨a7,n3,nr,nc⟩ ⟨b6,rfl,n6⟩
  have c1:w.heap.size≤W.heap.size:=a7.size
  obtain⟨d8,d6⟩:=a5 y (List.mem_of_getElem? hy)
  obtain⟨j,hj⟩:∃ j:Nat,y.2.2.1=(j:Int):=⟨y.2.2.1.toNat,by omega⟩
  have d3:(Ft (List.replicate x 0) ((Hf 0 (Z.map Prod.fst)).take k)).length=x:=by rw[Zcl,List.length_replicate]
  have e1:=Su (Ft (List.replicate x 0) ((Hf 0 (Z.map Prod.fst)).take k)) j
  have c3:=Zce (data:=x) ((Hf 0 (Z.map Prod.fst)).take k) (fun z hz=>a5 z (List.mem_of_mem_take hz)) (List.replicate x 0) List.length_replicate
  rw[List.sum_replicate_nat,List.length_take] at c3
  have d2:=Nat.min_le_right k (Hf 0 (Z.map Prod.fst)).length
  rw[Sv] at d2 c3
  rw[hj] at n6
  obtain⟨cg,kg⟩:=Sc nc
  refine wpIn_block ?_
  refine reg_in (fun⟨_,_,q⟩=>q) (by simp) ?_
  refine Hg (by kernel_rfl) (Jz ⟨b5,0,none⟩ (P0 br) rfl (by kernel_rfl) (by kernel_rfl) (n3.cell (i:=0) rfl) ?_)
  refine Uh 1 [(21,.pointer (some ⟨b6,1,none⟩))] (by kernel_rfl) ?_
  refine Hg (by kernel_rfl) (Jz ⟨b6,1,none⟩ (V0 (j:Int)) rfl (by kernel_rfl) (by kernel_rfl) (n6.cell (i:=1) rfl) ?_)
  refine Hg (by kernel_rfl) (Vp (lb:=#[]) 66 #[P0 br,V0 (j:Int)] rfl (by kernel_rfl) (fun _ _=>by kernel_rfl) (by kernel_rfl) ((refs_AddX w.heap.size br g x j (Ft (List.replicate x 0) ((Hf 0 (Z.map Prod.fst)).take k)) _ nr (Nat.le_trans c1 (Below.refl w.heap.size _).size) nc d3 (by omega) (by omega)).mono ?_))
  rintro e e0 ⟨rfl,b4,a2,b2,b7⟩
  refine⟨_,rfl,?_⟩
  have hX:Fr [g] W _:=b2
  have hB:=b4
  replace n3:=n3.only a2 (by decide)
  replace nr:=nr.only a2 (by decide)
  replace n6:=n6.only a2 (by decide)
  refine wpList_nil ?_
  exact⟨(frg_ko hX kg).from _,frg_keeps hX (fun b hb=>Nat.lt_of_lt_of_le hb c1) (Nat.not_lt.2 c8.1),a7.trans hB,n3,nr,by rw[refsF_take _ _ hy,hj];exact b7⟩
 case done =>
  rintro D W hD ⟨a7,n3,nr,nc⟩ c2
  have hK:Dfr D W:=c2;clear c2
  rw[List.take_of_length_le (Nat.le_refl _)] at nc
  refine g_nopan ?_
  have hB:=a7
  refine wp_seq ?_
  refine wp_region_lit ?_
  refine Hg (by kernel_rfl) (Jz ⟨b5,0,none⟩ (P0 br) rfl (by kernel_rfl) (by kernel_rfl) (n3.cell (i:=0) rfl) ?_)
  have b3:w.heap.size≤(W).heap.size:=hB.size
  refine Hg (by kernel_rfl) (Vp (lb:=#[]) 68 #[P0 br] rfl (by kernel_rfl) (fun _ _=>by kernel_rfl) (by kernel_rfl) ((refs_List br g x w.heap.size (Hd x (Z.map Prod.fst)) _ nr nc (Ke _ _) (by omega)).mono ?_))
  rintro e e2 ⟨_,rfl,a0,q9,d9,rfl,a8⟩
  refine⟨_,rfl,?_⟩
  replace hB:=bln hB a0
  replace n3:=n3.below a0
  replace nr:=nr.below a0
  replace nc:=Zb nc a0
  replace hK:=hK.below a0
  replace a8:=Zd a8 b3
  refine Uh 1 [(2,.slice q9 x d9)] (by kernel_rfl) ?_
  refine wpList_nil ?_
  refine wp_ret ?_
  exact g_endM hK (.slice q9 x d9) (by kernel_rfl) (by kernel_rfl) ⟨_,rfl,(Upd.of_put _ _ _).below hB (Nat.le_trans a9 hD),_,_,rfl,(Upd.of_put _ _ _).own3 a8 (hK.row a8)⟩
def ClosP(B Bx bl:Nat)(L:List (List Int))(q i:Nat)(w:World)(e:Ending)(w':World):Prop :=
 ∃ u p c,e=.returned u∧Below B w w'∧Zf [123,132] w w'∧Blk w' bl [.slice p (i+1) c] 123∧w'.ownsRow Bx 132 3 (.slice p (i+1) c) (i+1) ((Yj L q (i+1)).flatMap Jv)∧FrB Bx [bl] w w'
theorem Jr(L:List (List Int))(q i:Nat):(Yj L q i).flatMap Jv++[V0 (i:Int),.string ⟨(leB ((q+i:Nat):Int) 8++leB (Yy (L.getD i []):Int) 4++leB (Xq (L.getD i []):Int) 4).toArray⟩,V0 0]=(Yj L q (i+1)).flatMap Jv:=by
 rw[Zgr];simp[Jv,slotX,slotB]
structure FrZ(Bx:Nat)(S:List Nat)(a w:World):Prop where
 fr:FrB Bx S a w
 le:Bx≤a.heap.size
theorem FrZ.refl{Bx:Nat}{S:List Nat}{w:World}(h:Bx≤w.heap.size):FrZ Bx S w w:=⟨⟨Nat.le_refl _,fun _ _ _=>rfl⟩,h⟩
theorem FrZ.below{Bx:Nat}{S:List Nat}{a w W:World}(h:FrZ Bx S a w)(hb:B3 w W):FrZ Bx S a W:=⟨⟨Nat.le_trans h.fr.1 hb.size,fun k hk hn=>(hb.block k (by have:=h.fr.1;have:=h.le;omega)).trans (h.fr.2 k hk hn)⟩,h.le⟩
theorem FrZ.upd{Bx b:Nat}{S:List Nat}{a w W:World}(h:FrZ Bx S a w)(u:Upd w b W)(hb:b∈S):FrZ Bx S a W:=⟨⟨Nat.le_trans h.fr.1 (Nat.le_of_eq u.size.symm),fun k hk hn=>(u.block k fun e=>hn (e▸hb)).trans (h.fr.2 k hk hn)⟩,h.le⟩
theorem FrZ.grown{Bx:Nat}{S:List Nat}{a w W:World}{size n:Nat}{e:TypeId}{v:Value}{xs:List Value}(h:FrZ Bx S a w)(hg:w.grownBy W v.ownBlock)(hown:w.ownsRow Bx e size v n xs):FrZ Bx S a W:=⟨⟨Nat.le_trans h.fr.1 hg.size,fun k hk hn=>(hg.block k (by have:=h.fr.1;have:=h.le;omega) (fun e=>by have:=(hown.lt k e.symm).1;omega)).trans (h.fr.2 k hk hn)⟩,h.le⟩
theorem plot_data1(B Bx bl:Nat)(p:O0)(c:Nat)(L:List (List Int))(q i:Nat)(w:World)(hBm:B≤Bx)(hBx:Bx≤w.heap.size)(hBw:B≤w.heap.size)(hBl:B≤bl)(kl:Blk w bl [.slice p i c] 123)(hup:w.ownsRow Bx 132 3 (.slice p i c) i ((Yj L q i).flatMap Jv))(hq:1≤q+i)(hq2:q+i≤14399)(hi:i≤100000)(hf:Yy (L.getD i [])≤960)(hg:Xq (L.getD i [])≤960) :
 C0 159 #[.agg #[V0 (↑(q+i):Int),V0 (↑(Yy (L.getD i [])):Int),V0 (↑(Xq (L.getD i [])):Int)],P0 bl] w (ClosP B Bx bl L q i w):=by
 have hZ:FrZ Bx [bl] w w:=FrZ.refl hBx
 refine zin 11 Tryz.func159 ?_
 refine xa 2 [V0 (↑(q+i):Int),V0 (↑(Yy (L.getD i [])):Int),V0 (↑(Xq (L.getD i [])):Int)] 134 fun b1 W1 n1=>?_
 refine xd 2 (.t B [123,132]) ?_
 have k1:=n1.blk.below (Za W1)
 refine xlvt (.e [] 3) (.t B [123,132]) (fun V hV=>(k1.only hV.2 (by decide)).rp) ?_
 refine xm3 0 0 1 4 ?_ ?_ ?_
 ·have c8:=(kl.below n1.below).below (Za W1)
  refine xb 0 0 c8 ?_
  refine xm2 0 1 4 ?_ ?_
  ·refine xb 0 0 c8 ?_
   refine xr (.o [2] 4) (args:=#[.agg #[V0 (↑(q+i):Int),V0 (↑(Yy (L.getD i [])):Int),V0 (↑(Xq (L.getD i [])):Int)]]) (Hh (↑(q+i):Int) (↑(Yy (L.getD i [])):Int) (↑(Xq (L.getD i [])):Int) (by omega) (by omega) (by omega) (by omega) (by omega) (by omega) _) fun W2 g2=>?_
   refine xbs (.o [5] 6) 1 [V0 (i:Int),.string ⟨(leB (↑(q+i):Int) 8++leB (↑(Yy (L.getD i [])):Int) 4++leB (↑(Xq (L.getD i [])):Int) 4).toArray⟩,V0 0] 132 fun b3 W3 n3=>?_
   have d9:=Zb (Zb (Zb hup n1.below) (Za W1)) g2
   have i1:=Zn d9 n3
   have a8:=Zb d9 n3.below
   have hB:=blB (blB (blB (blB (Below.refl B w) hBw n1.below) hBw (Za W1)) hBw g2) hBw n3.below
   refine ybi (.o [] 7) (.t B [123,132]) fun _ _ _ _ zJ zQ zo zx zy zK=>Zr (m:=1) (news:=[V0 (i:Int),.string ⟨(leB (↑(q+i):Int) 8++leB (↑(Yy (L.getD i [])):Int) 4++leB (↑(Xq (L.getD i [])):Int) 4).toArray⟩,V0 0]) (.agg #[V0 0,.string ⟨#[]⟩,V0 0]) 3 32 (i+1) ((Yj L q (i+1)).flatMap Jv) zo Tryz.underlying123 (by kernel_rfl) rfl (by decide) zx a8 zy (n3.blk.sl 1 1 (by decide) (by decide)) rfl (by simp[Value.oneCell']) (by unfold maxLen;omega) (by omega) (Nat.le_trans hBx hB.size) (by rfl) (Jr L q i) fun m4 l9 W4 o4 h4 l4=>?_
   refine zK _ _ (Zx (l4.mono hBm) h4 a8 (by decide)) ?_
   have d2:=((c8.below g2).below n3.below).grown h4 a8 (by decide)
   refine ys (.o [] 8) d2 [.slice m4 (i+1) l9] (.t B [123,132]) fun W5 u5 k5=>⟨(Zl u5 d2 hBl (by decide)),?_⟩
   have i0:=u5.below (hB.trans (l4.mono hBm)) hBl
   have hO:=(((((show Zf [123,132] w _ from(Zf.of_below n1.below)).trans (Zf.of_below (Za W1))).trans (Zf.of_below g2)).trans (Zf.of_below n3.below)).trans (Zf.of_grown h4 a8 (by decide))).trans (Zf.of_upd u5 d2 (by decide))
   have k0:=u5.own2 o4 d2 (by decide)
   have k8:=(((((hZ.below n1.below).below (Za W1)).below g2).below n3.below).grown h4 a8).upd u5 (by simp)
   exact xe 1 (.tuple #[]) ⟨_,_,_,rfl,i0,hO,k5,k0,k8.fr⟩
  refine xr 0 (args:=#[.agg #[V0 (↑(q+i):Int),V0 (↑(Yy (L.getD i [])):Int),V0 (↑(Xq (L.getD i [])):Int)]]) (Hh (↑(q+i):Int) (↑(Yy (L.getD i [])):Int) (↑(Xq (L.getD i [])):Int) (by omega) (by omega) (by omega) (by omega) (by omega) (by omega) _) fun W6 e8=>?_
  have e9:=c8.below e8
  refine xb (.o [] 1) 0 e9 ?_
  refine xbs (.o [2,5] 6) 1 [V0 (i:Int),.string ⟨(leB (↑(q+i):Int) 8++leB (↑(Yy (L.getD i [])):Int) 4++leB (↑(Xq (L.getD i [])):Int) 4).toArray⟩,V0 0] 132 fun b7 W7 n7=>?_
  have d8:=Zb (Zb (Zb hup n1.below) (Za W1)) e8
  have j3:=Zn d8 n7
  have a7:=Zb d8 n7.below
  have hB:=blB (blB (blB (blB (Below.refl B w) hBw n1.below) hBw (Za W1)) hBw e8) hBw n7.below
  refine ybi (.o [] 7) (.t B [123,132]) fun _ _ _ _ zJ zQ zo zx zy zK=>Zr (m:=1) (news:=[V0 (i:Int),.string ⟨(leB (↑(q+i):Int) 8++leB (↑(Yy (L.getD i [])):Int) 4++leB (↑(Xq (L.getD i [])):Int) 4).toArray⟩,V0 0]) (.agg #[V0 0,.string ⟨#[]⟩,V0 0]) 3 32 (i+1) ((Yj L q (i+1)).flatMap Jv) zo Tryz.underlying123 (by kernel_rfl) rfl (by decide) zx a7 zy (n7.blk.sl 1 1 (by decide) (by decide)) rfl (by simp[Value.oneCell']) (by unfold maxLen;omega) (by omega) (Nat.le_trans hBx hB.size) (by rfl) (Jr L q i) fun l7 n2 W8 o8 h6 l5=>?_
  refine zK _ _ (Zx (l5.mono hBm) h6 a7 (by decide)) ?_
  have c9:=(e9.below n7.below).grown h6 a7 (by decide)
  refine ys (.o [] 8) c9 [.slice l7 (i+1) n2] (.t B [123,132]) fun W9 u9 k9=>⟨(Zl u9 c9 hBl (by decide)),?_⟩
  have i4:=u9.below (hB.trans (l5.mono hBm)) hBl
  have hO:=(((((show Zf [123,132] w _ from(Zf.of_below n1.below)).trans (Zf.of_below (Za W1))).trans (Zf.of_below e8)).trans (Zf.of_below n7.below)).trans (Zf.of_grown h6 a7 (by decide))).trans (Zf.of_upd u9 c9 (by decide))
  have j5:=u9.own2 o8 c9 (by decide)
  have j0:=(((((hZ.below n1.below).below (Za W1)).below e8).below n7.below).grown h6 a7).upd u9 (by simp)
  exact xe 1 (.tuple #[]) ⟨_,_,_,rfl,i4,hO,k9,j5,j0.fr⟩
 ·have c3:=(kl.below n1.below).below (Za W1)
  refine xb 0 0 c3 ?_
  refine xm2 (.b [2]) 0 4 ?_ ?_
  ·refine xb 0 0 c3 ?_
   refine xr (.o [] 4) (args:=#[.agg #[V0 (↑(q+i):Int),V0 (↑(Yy (L.getD i [])):Int),V0 (↑(Xq (L.getD i [])):Int)]]) (Hh (↑(q+i):Int) (↑(Yy (L.getD i [])):Int) (↑(Xq (L.getD i [])):Int) (by omega) (by omega) (by omega) (by omega) (by omega) (by omega) _) fun n4 c0=>?_
   refine xbs (.o [5] 6) 1 [V0 (i:Int),.string ⟨(leB (↑(q+i):Int) 8++leB (↑(Yy (L.getD i [])):Int) 4++leB (↑(Xq (L.getD i [])):Int) 4).toArray⟩,V0 0] 132 fun p6 n6 e3=>?_
   have d6:=Zb (Zb (Zb hup n1.below) (Za W1)) c0
   have h8:=Zn d6 e3
   have a9:=Zb d6 e3.below
   have hB:=blB (blB (blB (blB (Below.refl B w) hBw n1.below) hBw (Za W1)) hBw c0) hBw e3.below
   refine ybi (.o [] 7) (.t B [123,132]) fun _ _ _ _ zJ zQ zo zx zy zK=>Zr (m:=1) (news:=[V0 (i:Int),.string ⟨(leB (↑(q+i):Int) 8++leB (↑(Yy (L.getD i [])):Int) 4++leB (↑(Xq (L.getD i [])):Int) 4).toArray⟩,V0 0]) (.agg #[V0 0,.string ⟨#[]⟩,V0 0]) 3 32 (i+1) ((Yj L q (i+1)).flatMap Jv) zo Tryz.underlying123 (by kernel_rfl) rfl (by decide) zx a9 zy (e3.blk.sl 1 1 (by decide) (by decide)) rfl (by simp[Value.oneCell']) (by unfold maxLen;omega) (by omega) (Nat.le_trans hBx hB.size) (by rfl) (Jr L q i) fun k2 k4 o9 m5 d1 f1=>?_
   refine zK _ _ (Zx (f1.mono hBm) d1 a9 (by decide)) ?_
   have d3:=((c3.below c0).below e3.below).grown d1 a9 (by decide)
   refine ys (.o [] 8) d3 [.slice k2 (i+1) k4] (.t B [123,132]) fun n8 f9 m8=>⟨(Zl f9 d3 hBl (by decide)),?_⟩
   have i2:=f9.below (hB.trans (f1.mono hBm)) hBl
   have hO:=(((((show Zf [123,132] w _ from(Zf.of_below n1.below)).trans (Zf.of_below (Za W1))).trans (Zf.of_below c0)).trans (Zf.of_below e3.below)).trans (Zf.of_grown d1 a9 (by decide))).trans (Zf.of_upd f9 d3 (by decide))
   have f7:=f9.own2 m5 d3 (by decide)
   have l3:=(((((hZ.below n1.below).below (Za W1)).below c0).below e3.below).grown d1 a9).upd f9 (by simp)
   exact xe 1 (.tuple #[]) ⟨_,_,_,rfl,i2,hO,m8,f7,l3.fr⟩
  refine xr 0 (args:=#[.agg #[V0 (↑(q+i):Int),V0 (↑(Yy (L.getD i [])):Int),V0 (↑(Xq (L.getD i [])):Int)]]) (Hh (↑(q+i):Int) (↑(Yy (L.getD i [])):Int) (↑(Xq (L.getD i [])):Int) (by omega) (by omega) (by omega) (by omega) (by omega) (by omega) _) fun n5 a5=>?_
  refine xm2 (.b [5]) 0 6 ?_ ?_
  ·have g9:=c3.below a5
   refine xb 0 0 g9 ?_
   refine xbs (.o [] 6) 1 [V0 (i:Int),.string ⟨(leB (↑(q+i):Int) 8++leB (↑(Yy (L.getD i [])):Int) 4++leB (↑(Xq (L.getD i [])):Int) 4).toArray⟩,V0 0] 132 fun o1 q1 e2=>?_
   have d5:=Zb (Zb (Zb hup n1.below) (Za W1)) a5
   have h5:=Zn d5 e2
   have a6:=Zb d5 e2.below
   have hB:=blB (blB (blB (blB (Below.refl B w) hBw n1.below) hBw (Za W1)) hBw a5) hBw e2.below
   refine ybi (.o [] 7) (.t B [123,132]) fun _ _ _ _ zJ zQ zo zx zy zK=>Zr (m:=1) (news:=[V0 (i:Int),.string ⟨(leB (↑(q+i):Int) 8++leB (↑(Yy (L.getD i [])):Int) 4++leB (↑(Xq (L.getD i [])):Int) 4).toArray⟩,V0 0]) (.agg #[V0 0,.string ⟨#[]⟩,V0 0]) 3 32 (i+1) ((Yj L q (i+1)).flatMap Jv) zo Tryz.underlying123 (by kernel_rfl) rfl (by decide) zx a6 zy (e2.blk.sl 1 1 (by decide) (by decide)) rfl (by simp[Value.oneCell']) (by unfold maxLen;omega) (by omega) (Nat.le_trans hBx hB.size) (by rfl) (Jr L q i) fun i5 l1 p3 m1 c4 f2=>?_
   refine zK _ _ (Zx (f2.mono hBm) c4 a6 (by decide)) ?_
   have d4:=(g9.below e2.below).grown c4 a6 (by decide)
   refine ys (.o [] 8) d4 [.slice i5 (i+1) l1] (.t B [123,132]) fun o2 f8 l6=>⟨(Zl f8 d4 hBl (by decide)),?_⟩
   have j1:=f8.below (hB.trans (f2.mono hBm)) hBl
   have hO:=(((((show Zf [123,132] w _ from(Zf.of_below n1.below)).trans (Zf.of_below (Za W1))).trans (Zf.of_below a5)).trans (Zf.of_below e2.below)).trans (Zf.of_grown c4 a6 (by decide))).trans (Zf.of_upd f8 d4 (by decide))
   have g8:=f8.own2 m1 d4 (by decide)
   have j7:=(((((hZ.below n1.below).below (Za W1)).below a5).below e2.below).grown c4 a6).upd f8 (by simp)
   exact xe 1 (.tuple #[]) ⟨_,_,_,rfl,j1,hO,l6,g8,j7.fr⟩
  refine xbs 0 1 [V0 (i:Int),.string ⟨(leB (↑(q+i):Int) 8++leB (↑(Yy (L.getD i [])):Int) 4++leB (↑(Xq (L.getD i [])):Int) 4).toArray⟩,V0 0] 132 fun p7 p4 e4=>?_
  have d7:=Zb (Zb (Zb hup n1.below) (Za W1)) a5
  have h3:=Zn d7 e4
  have h0:=(c3.below a5).below e4.below
  refine xb (.o [] 0) 0 h0 ?_
  have a4:=Zb d7 e4.below
  have hB:=blB (blB (blB (blB (Below.refl B w) hBw n1.below) hBw (Za W1)) hBw a5) hBw e4.below
  refine ybi (.o [] 7) (.t B [123,132]) fun _ _ _ _ zJ zQ zo zx zy zK=>Zr (m:=1) (news:=[V0 (i:Int),.string ⟨(leB (↑(q+i):Int) 8++leB (↑(Yy (L.getD i [])):Int) 4++leB (↑(Xq (L.getD i [])):Int) 4).toArray⟩,V0 0]) (.agg #[V0 0,.string ⟨#[]⟩,V0 0]) 3 32 (i+1) ((Yj L q (i+1)).flatMap Jv) zo Tryz.underlying123 (by kernel_rfl) rfl (by decide) zx a4 zy (e4.blk.sl 1 1 (by decide) (by decide)) rfl (by simp[Value.oneCell']) (by unfold maxLen;omega) (by omega) (Nat.le_trans hBx hB.size) (by rfl) (Jr L q i) fun i3 k3 q2 m9 c7 g5=>?_
  refine zK _ _ (Zx (g5.mono hBm) c7 a4 (by decide)) ?_
  have b0:=h0.grown c7 a4 (by decide)
  refine ys (.o [] 8) b0 [.slice i3 (i+1) k3] (.t B [123,132]) fun q0 g6 m6=>⟨(Zl g6 b0 hBl (by decide)),?_⟩
  have j6:=g6.below (hB.trans (g5.mono hBm)) hBl
  have hO:=(((((show Zf [123,132] w _ from(Zf.of_below n1.below)).trans (Zf.of_below (Za W1))).trans (Zf.of_below a5)).trans (Zf.of_below e4.below)).trans (Zf.of_grown c7 a4 (by decide))).trans (Zf.of_upd g6 b0 (by decide))
  have g7:=g6.own2 m9 b0 (by decide)
  have l0:=(((((hZ.below n1.below).below (Za W1)).below a5).below e4.below).grown c7 a4).upd g6 (by simp)
  exact xe 1 (.tuple #[]) ⟨_,_,_,rfl,j6,hO,m6,g7,l0.fr⟩
 refine xr 0 (args:=#[.agg #[V0 (↑(q+i):Int),V0 (↑(Yy (L.getD i [])):Int),V0 (↑(Xq (L.getD i [])):Int)]]) (Hh (↑(q+i):Int) (↑(Yy (L.getD i [])):Int) (↑(Xq (L.getD i [])):Int) (by omega) (by omega) (by omega) (by omega) (by omega) (by omega) _) fun p2 a0=>?_
 refine xm2 0 0 1 ?_ ?_
 ·have c2:=((kl.below n1.below).below (Za W1)).below a0
  refine xb 0 0 c2 ?_
  refine xb (.o [] 1) 0 c2 ?_
  refine xbs (.o [2,5] 6) 1 [V0 (i:Int),.string ⟨(leB (↑(q+i):Int) 8++leB (↑(Yy (L.getD i [])):Int) 4++leB (↑(Xq (L.getD i [])):Int) 4).toArray⟩,V0 0] 132 fun o3 p0 e1=>?_
  have b9:=Zb (Zb (Zb hup n1.below) (Za W1)) a0
  have h1:=Zn b9 e1
  have a2:=Zb b9 e1.below
  have hB:=blB (blB (blB (blB (Below.refl B w) hBw n1.below) hBw (Za W1)) hBw a0) hBw e1.below
  refine ybi (.o [] 7) (.t B [123,132]) fun _ _ _ _ zJ zQ zo zx zy zK=>Zr (m:=1) (news:=[V0 (i:Int),.string ⟨(leB (↑(q+i):Int) 8++leB (↑(Yy (L.getD i [])):Int) 4++leB (↑(Xq (L.getD i [])):Int) 4).toArray⟩,V0 0]) (.agg #[V0 0,.string ⟨#[]⟩,V0 0]) 3 32 (i+1) ((Yj L q (i+1)).flatMap Jv) zo Tryz.underlying123 (by kernel_rfl) rfl (by decide) zx a2 zy (e1.blk.sl 1 1 (by decide) (by decide)) rfl (by simp[Value.oneCell']) (by unfold maxLen;omega) (by omega) (Nat.le_trans hBx hB.size) (by rfl) (Jr L q i) fun i8 j8 o0 m0 c6 g0=>?_
  refine zK _ _ (Zx (g0.mono hBm) c6 a2 (by decide)) ?_
  have b6:=(c2.below e1.below).grown c6 a2 (by decide)
  refine ys (.o [] 8) b6 [.slice i8 (i+1) j8] (.t B [123,132]) fun p1 f6 l8=>⟨(Zl f6 b6 hBl (by decide)),?_⟩
  have k7:=f6.below (hB.trans (g0.mono hBm)) hBl
  have hO:=(((((show Zf [123,132] w _ from(Zf.of_below n1.below)).trans (Zf.of_below (Za W1))).trans (Zf.of_below a0)).trans (Zf.of_below e1.below)).trans (Zf.of_grown c6 a2 (by decide))).trans (Zf.of_upd f6 b6 (by decide))
  have f4:=f6.own2 m0 b6 (by decide)
  have j9:=(((((hZ.below n1.below).below (Za W1)).below a0).below e1.below).grown c6 a2).upd f6 (by simp)
  exact xe 1 (.tuple #[]) ⟨_,_,_,rfl,k7,hO,l8,f4,j9.fr⟩
 have b2:=((kl.below n1.below).below (Za W1)).below a0
 refine xb 0 0 b2 ?_
 refine xm2 (.b [2,5]) 0 6 ?_ ?_
 ·refine xb 0 0 b2 ?_
  refine xbs (.o [] 6) 1 [V0 (i:Int),.string ⟨(leB (↑(q+i):Int) 8++leB (↑(Yy (L.getD i [])):Int) 4++leB (↑(Xq (L.getD i [])):Int) 4).toArray⟩,V0 0] 132 fun p9 n9 e6=>?_
  have c1:=Zb (Zb (Zb hup n1.below) (Za W1)) a0
  have h2:=Zn c1 e6
  have a1:=Zb c1 e6.below
  have hB:=blB (blB (blB (blB (Below.refl B w) hBw n1.below) hBw (Za W1)) hBw a0) hBw e6.below
  refine ybi (.o [] 7) (.t B [123,132]) fun _ _ _ _ zJ zQ zo zx zy zK=>Zr (m:=1) (news:=[V0 (i:Int),.string ⟨(leB (↑(q+i):Int) 8++leB (↑(Yy (L.getD i [])):Int) 4++leB (↑(Xq (L.getD i [])):Int) 4).toArray⟩,V0 0]) (.agg #[V0 0,.string ⟨#[]⟩,V0 0]) 3 32 (i+1) ((Yj L q (i+1)).flatMap Jv) zo Tryz.underlying123 (by kernel_rfl) rfl (by decide) zx a1 zy (e6.blk.sl 1 1 (by decide) (by decide)) rfl (by simp[Value.oneCell']) (by unfold maxLen;omega) (by omega) (Nat.le_trans hBx hB.size) (by rfl) (Jr L q i) fun j4 i7 o5 m3 d0 f3=>?_
  refine zK _ _ (Zx (f3.mono hBm) d0 a1 (by decide)) ?_
  have b4:=(b2.below e6.below).grown d0 a1 (by decide)
  refine ys (.o [] 8) b4 [.slice j4 (i+1) i7] (.t B [123,132]) fun p5 g3 n0=>⟨(Zl g3 b4 hBl (by decide)),?_⟩
  have i6:=g3.below (hB.trans (f3.mono hBm)) hBl
  have hO:=(((((show Zf [123,132] w _ from(Zf.of_below n1.below)).trans (Zf.of_below (Za W1))).trans (Zf.of_below a0)).trans (Zf.of_below e6.below)).trans (Zf.of_grown d0 a1 (by decide))).trans (Zf.of_upd g3 b4 (by decide))
  have g1:=g3.own2 m3 b4 (by decide)
  have k6:=(((((hZ.below n1.below).below (Za W1)).below a0).below e6.below).grown d0 a1).upd g3 (by simp)
  exact xe 1 (.tuple #[]) ⟨_,_,_,rfl,i6,hO,n0,g1,k6.fr⟩
 refine xbs 0 1 [V0 (i:Int),.string ⟨(leB (↑(q+i):Int) 8++leB (↑(Yy (L.getD i [])):Int) 4++leB (↑(Xq (L.getD i [])):Int) 4).toArray⟩,V0 0] 132 fun p8 q3 e5=>?_
 have b8:=Zb (Zb (Zb hup n1.below) (Za W1)) a0
 have h7:=Zn b8 e5
 have e0:=b2.below e5.below
 refine xb (.o [] 0) 0 e0 ?_
 have a3:=Zb b8 e5.below
 have hB:=blB (blB (blB (blB (Below.refl B w) hBw n1.below) hBw (Za W1)) hBw a0) hBw e5.below
 refine ybi (.o [] 7) (.t B [123,132]) fun _ _ _ _ zJ zQ zo zx zy zK=>Zr (m:=1) (news:=[V0 (i:Int),.string ⟨(leB (↑(q+i):Int) 8++leB (↑(Yy (L.getD i [])):Int) 4++leB (↑(Xq (L.getD i [])):Int) 4).toArray⟩,V0 0]) (.agg #[V0 0,.string ⟨#[]⟩,V0 0]) 3 32 (i+1) ((Yj L q (i+1)).flatMap Jv) zo Tryz.underlying123 (by kernel_rfl) rfl (by decide) zx a3 zy (e5.blk.sl 1 1 (by decide) (by decide)) rfl (by simp[Value.oneCell']) (by unfold maxLen;omega) (by omega) (Nat.le_trans hBx hB.size) (by rfl) (Jr L q i) fun l2 j2 o7 m2 c5 f0=>?_
 refine zK _ _ (Zx (f0.mono hBm) c5 a3 (by decide)) ?_
 have b5:=e0.grown c5 a3 (by decide)
 refine ys (.o [] 8) b5 [.slice l2 (i+1) j2] (.t B [123,132]) fun o6 e7 m7=>⟨(Zl e7 b5 hBl (by decide)),?_⟩
 have h9:=e7.below (hB.trans (f0.mono hBm)) hBl
 have hO:=(((((show Zf [123,132] w _ from(Zf.of_below n1.below)).trans (Zf.of_below (Za W1))).trans (Zf.of_below a0)).trans (Zf.of_below e5.below)).trans (Zf.of_grown c5 a3 (by decide))).trans (Zf.of_upd e7 b5 (by decide))
 have f5:=e7.own2 m2 b5 (by decide)
 have i9:=(((((hZ.below n1.below).below (Za W1)).below a0).below e5.below).grown c5 a3).upd e7 (by simp)
 exact xe 1 (.tuple #[]) ⟨_,_,_,rfl,h9,hO,m7,f5,i9.fr⟩
def LayPost(B ba b g nn cc:Nat)(pa:O0)(ca f N k0:Nat)(bs:Bl)(bl:Nat)(L:List (List Int))(w:World)(e:Ending)(w':World):Prop :=
 ∃ p c,e=.returned .nilIface∧Below B w w'∧Zf [200,5,123,132] w w'∧Fr [ba,g,bl] w w'∧Al B ba b g nn cc pa ca f N (k0+L.length) (Ks L (f+k0) bs L.length) w'∧Blk w' bl [.slice p L.length c] 123∧w'.ownsRow w.heap.size 132 3 (.slice p L.length c) L.length ((Yj L (f+k0) L.length).flatMap Jv)
theorem plot_layD(B ba b g nn cc:Nat)(pa:O0)(ca f N k0:Nat)(bs:Bl)(bl B2:Nat)(pl:O0)(cl:Nat)(gs:List (Nat×Nat))(L:List (List Int))(w:World)(hC:AlC B ba nn cc ca f N)(hA:Al B ba b g nn cc pa ca f N k0 bs w)(hL:Lists w B2 (.slice pl L.length cl) gs L)(hS:∀ i,i<L.length→Jy (L.getD i [])∧(L.getD i []).length≤960)(hf1:1≤f)(hk:k0+L.length≤N)(kl:Blk w bl [S0] 123)(hBl:B≤bl)(hBw:B≤w.heap.size) :
 C0 158 #[P0 ba,.slice pl L.length cl,.func (.func 159) #[] #[P0 bl]] w (LayPost B ba b g nn cc pa ca f N k0 bs bl L w):=by
 have d4:=hC.hf
 have d3:=hC.hn
 refine zin 51 Tryz.func158 ?_
 have hB:=Below.refl B w
 refine zl 14 51 (fun zm c3 V=>∃ (i:Nat) (p:O0) (c:Nat),c3=[(0,P0 ba),(2,.func (.func 159) #[] #[P0 bl]),(15,.slice pl L.length cl),(16,V0 (L.length:Int)),(17,V0 (i:Int))]∧zm=L.length-((i:Int)).toNat∧Below B w V∧Fr [ba,g,bl] w V∧Zf [200,5,123,132] w V∧Blk V bl ([.slice p i c]) 123∧Al B ba b g nn cc pa ca f N (k0+i) (Ks L (f+k0) bs i) V∧Lists V B2 (.slice pl L.length cl) gs L∧V.ownsRow w.heap.size 132 3 (.slice p i c) i ((Yj L (f+k0) i).flatMap Jv)∧i≤L.length) ⟨0,none,0,rfl,rfl,hB,(Fr.refl _ _),(Zf.refl _ _),kl,hA,hL,World.ownsRow_nil _ _ _ _,Nat.zero_le _⟩ ?_
 rintro _ _ W1 ⟨i,p,c,rfl,rfl,a4,b0,b1,a1,hA,hL,b3,hi⟩ J1 c4 r1
 refine xid 6 ((i:Int)<(L.length:Int)) (fun d2=>?_) (fun d2=>?_)
 ·refine xx 6 _ L.length i 1 (Lists.elem hL rfl (k:=i) (by omega)).1 ?_
  refine xl 0 ((Lists.elem hL rfl (k:=i) (by omega)).2) ?_
  refine xc 6 (args:=#[.slice (some ⟨(gs.getD i (0,0)).1,0,none⟩) ((L.getD i []).length) ((gs.getD i (0,0)).2)]) (bits_Put _ _ (L.getD i []) _ (hS i (by omega)).1 (hS i (by omega)).2 (Ze (hL.each i (by omega)))) ?_
  rintro _ W3 ⟨_,rfl,a6,g6,rfl,h6⟩
  have b5:=hA.below a6
  have a2:=b1.trans (Zf.of_below a6)
  have b4:=Zd h6 a4.size
  have a7:=blB a4 hBw a6
  refine xc 21 (args:=#[P0 ba,V0 3,.slice (S1 g6) 244 244]) (Ma B ba b g nn cc pa ca f N (k0+i) (Ks L (f+k0) bs i) 3 (S1 g6) 244 (Vw (L.getD i [])) (f+k0+i) 244 _ (Nat.add_assoc _ _ _).symm (Qi _ _) hC b5 (by omega) (by decide) (by decide) (fun W _ a2=>Yk (Ze (Zj b4 a2 (by decide))) (Qi _ _)) (by decide) (Nat.le_trans hBw a7.size)) ?_
  rintro _ W4 ⟨rfl,d0,b2,c5,hA⟩
  have a8:=(hL.below a6).only b2 (by decide)
  refine xr 20 (args:=#[.slice (some ⟨(gs.getD i (0,0)).1,0,none⟩) ((L.getD i []).length) ((gs.getD i (0,0)).2)]) (Zdl _ _ (L.getD i []) _ (hS i (by omega)).2 (Ze (a8.each i (by omega)))) fun W5 a5=>?_
  have c7:Yy (L.getD i [])≤960:=Nat.le_trans (Rn _ _) (hS i (by omega)).2
  have c6:Xq (L.getD i [])≤960:=Nat.le_trans (Sq _) (hS i (by omega)).2
  have a3:=blB (a7.trans d0) hBw a5
  have a0:=((a1.below a6).only b2 (by decide)).below a5
  have a9:=Zb (Zj (Zb b3 a6) b2 (by decide)) a5
  refine xc 13 (args:=#[.agg #[V0 (↑(f+k0+i):Int),V0 (↑(Yy (L.getD i [])):Int),V0 (↑(Xq (L.getD i [])):Int)],P0 bl]) (plot_data1 B w.heap.size bl p c L (f+k0) i _ hBw a3.size (Nat.le_trans hBw a3.size) hBl a0 a9 (by omega) (by omega) (by omega) c7 c6) ?_
  rintro _ W6 ⟨_,p9,c9,rfl,d1,c1,c2,b3,c8⟩
  refine xwm 4 ((i:Int)+1) (↑(i+1):Int) ?_
  have b6:=(hA.below a5).only c1 (by decide)
  have b9:=(a8.below a5).only c1 (by decide)
  have b7:=a3.trans d1
  have b8:=(Fr.trans_B (((b0.trans (Fr.of_below a6)).trans (c5.mono (by simp))).trans (Fr.of_below a5)) c8 (by simp))
  have c0:=((a2.trans (b2.wide)).trans (Zf.of_below a5)).trans (c1.wide)
  exact ze 2 (c4 _ _ _ ⟨i+1,_,_,rfl,rfl,b7,b8,c0,c2,b6,b9,b3,by omega⟩ (by omega))
 refine xe 11 .nilIface ?_
 obtain rfl:i=L.length:=by omega
 exact⟨_,_,rfl,a4,b1,b0,hA,a1,b3⟩
theorem Mm(a:O0)(c:Nat)(l:List Int)(w:World)(h:Sl w (.slice a l.length c) l.length (l.map V0))(hl:l.length≤65536)(hs:Jk l=0):C0 156 #[.slice a l.length c] w (fun e w'=>∃ pb cb gs po co,e=.returned (.tuple #[.slice pb (bmN l.length) cb,.slice po (Zy l l.length).length co,V0 0])∧B3 w w'∧Lists w' w.heap.size (.slice pb (bmN l.length) cb) gs (Xp (Zu l) (bmN l.length))∧w'.ownsRow w.heap.size 132 3 (.slice po (Zy l l.length).length co) (Zy l l.length).length ((Zy l l.length).flatMap Jv)) :=
 (Zf3 a c l w h hl).mono fun e w' q=>(q.resolve_left fun z=>z.1 hs).2
theorem plot_layDN(B ba b g nn cc:Nat)(pa:O0)(ca f N k0:Nat)(bs:Bl)(bl B2:Nat)(pl:O0)(cl:Nat)(gs:List (Nat×Nat))(L:List (List Int))(n:Nat)(hn:L.length=n)(w:World)(hC:AlC B ba nn cc ca f N)(hA:Al B ba b g nn cc pa ca f N k0 bs w)(hL:Lists w B2 (.slice pl n cl) gs L)(hS:∀ i,i<L.length→Jy (L.getD i [])∧(L.getD i []).length≤960)(hf1:1≤f)(hk:k0+n≤N)(kl:Blk w bl [S0] 123)(hBl:B≤bl)(hBw:B≤w.heap.size) :
 C0 158 #[P0 ba,.slice pl n cl,.func (.func 159) #[] #[P0 bl]] w (fun e w'=>∃ p c,e=.returned .nilIface∧Below B w w'∧Zf [200,5,123,132] w w'∧Fr ([ba,g]++[bl]) w w'∧Al B ba b g nn cc pa ca f N (k0+n) (Ks L (f+k0) bs n) w'∧Blk w' bl [.slice p n c] 123∧w'.ownsRow w.heap.size 132 3 (.slice p n c) n ((Yj L (f+k0) n).flatMap Jv)):=by
 subst hn;exact plot_layD B ba b g nn cc pa ca f N k0 bs bl B2 pl cl gs L w hC hA hL hS hf1 hk kl hBl hBw
theorem Fi{l:List Int}(h:∀ k,k<l.length→Nd (l.getD k 0))(n:Nat):∀ i,i<(Xp (Zu l) n).length→Jy ((Xp (Zu l) n).getD i [])∧((Xp (Zu l) n).getD i []).length≤960:=fun i hi=>by
 rw[Gc] at hi
 rw[Zgh hi]
 exact⟨Zfg (small_ok h) i,by rw[Ik];omega⟩
theorem own_keep{w W:World}{B ba b g nn cc:Nat}{pa:O0}{ca f N k0 bl:Nat}{bs:Bl}{cs:List Value}{base n:Nat}{v:Value}{xs:List Value}(k:w.ownsRow base 132 3 v n xs)(hA:Al B ba b g nn cc pa ca f N k0 bs w)(kl:Blk w bl cs 123)(hX:Fr ([ba,g]++[bl]) w W):W.ownsRow base 132 3 v n xs:=own_fr k hX fun j hj hm=>by
 obtain⟨a0,kb⟩:=Sc hA.data
 simp only[List.cons_append,List.nil_append,List.mem_cons,List.not_mem_nil,or_false] at hm
 rcases hm with h|h|h
 ·exact Rt k hA.blkA (by decide) _ hj h
 ·exact Rt k kb (by decide) _ hj h
 ·exact Rt k kl (by decide) _ hj h
def DataP(B ba b g nn cc:Nat)(pa:O0)(ca f N k0:Nat)(bs:Bl)(l:List Int)(w:World)(e:Ending)(w':World):Prop :=
 e=.returned (.tuple #[V0 (Za7 l (f+k0) bs).1,V0 (Za7 l (f+k0) bs).2.1,.nilIface])∧Below B w w'∧Zf [200,5,123,132,28] w w'∧Fr [ba,g] w w'∧Al B ba b g nn cc pa ca f N (k0+Ni l) (Za7 l (f+k0) bs).2.2 w'
theorem Es(n:Nat)(w:World)(hn:n≤65536) :
 C0 27 #[V0 (n:Int)] w (Ret (V0 (↑(bmN n):Int)) w):=by
 refine zin 9 Tryz.func27 ?_
 refine xid 12 ((n:Int)<(1:Int)) (fun a0=>?_) (fun a0=>?_)
 ·exact xe 7 (V0 0) ⟨by rw[show bmN n=0 from by unfold bmN;omega];rfl,(B4 w)⟩
 refine xwm 5 ((n:Int)-1) (↑(n-1):Int) ?_
 refine xq 0 (congrArg V0 (show(IntKind.i64.wrap (Int.tdiv (↑(n-1):Int) 960):Int)=(↑((n-1)/960):Int) from Wv (n-1) 960 (by omega) (by decide))) ?_
 refine xw 0 ((↑((n-1)/960):Int)+1) ?_
 exact xe 4 (V0 ((↑((n-1)/960):Int)+1)) ⟨by rw[show bmN n=(n-1)/960+1 from by unfold bmN;omega,Int.natCast_add];rfl,(B4 w)⟩
theorem Ey{cs:List Nat}{i:Nat}(h:i<cs.length):(cs.take (i+1)).sum=(cs.take i).sum+cs.getD i 0:=by
 rw[List.take_succ_eq_append_getElem h,List.sum_append];simp[List.getD,h]
theorem nat_sum_le(cs:List Nat)(i:Nat):(cs.take i).sum≤cs.sum:=by
 conv=>rhs;rw[←List.take_append_drop i cs]
 rw[List.sum_append];omega
theorem Bj{w:World}{pc:O0}{n m:Nat}{cs:List Nat}(h:Sl w (.slice pc n m) n (cs.map nv))(hn:cs.length=n){k:Nat}(hk:k<n):pc.isSome=true∧w.cell? (Xd pc (k*1))=some (V0 ((cs.getD k 0:Nat):Int)):=Nl h (by omega)
theorem size_sum(a:O0)(n c:Nat)(cs:List Nat)(w:World)(hn:cs.length=n)(h:Sl w (.slice a n c) n (cs.map nv))(hs:cs.sum≤1000000000) :
 C0 71 #[.slice a n c] w (Ret (V0 (cs.sum:Int)) w):=by
 have a4:=Sl.len h
 refine zin 17 Tryz.func71 ?_
 have hB:=Below.refl w.heap.size w
 refine zl 19 17 (fun zm a2 V=>∃ (i:Nat),a2=[(2,V0 0),(3,V0 (↑((cs.take i).sum):Int)),(6,.slice a n c),(7,V0 (n:Int)),(8,V0 (i:Int))]∧zm=n-((i:Int)).toNat∧B3 w V∧i≤n) ⟨0,rfl,rfl,hB,Nat.zero_le _⟩ ?_
 rintro _ _ W1 ⟨i,rfl,rfl,a0,hi⟩ J1 a3 r1
 have a5:=nat_sum_le cs (i+1)
 refine xid 6 ((i:Int)<(n:Int)) (fun a1=>?_) (fun a1=>?_)
 ·have a6:=Ey (cs:=cs) (i:=i) (by omega)
  refine xx 6 _ n i 1 (Bj h hn (k:=i) (by omega)).1 ?_
  refine xl 0 ((Bj (h.below a0) hn (k:=i) (by omega)).2) ?_
  refine xwm 6 ((↑((cs.take i).sum):Int)+(↑(cs.getD i 0):Int)) (↑(((cs.take i).sum)+(cs.getD i 0)):Int) ?_
  refine xwm 5 ((i:Int)+1) (↑(i+1):Int) ?_
  refine xv1 2 3 (show(V0 (↑(((cs.take i).sum)+(cs.getD i 0)):Int):Value)=V0 (↑((cs.take (i+1)).sum):Int) from by rw[Ey (i:=i) (by omega)]) ?_
  exact ze 0 (a3 _ _ _ ⟨i+1,rfl,rfl,a0,by omega⟩ (by omega))
 exact xe 12 (V0 (↑((cs.take i).sum):Int)) ⟨by rw[List.take_of_length_le (by omega)],a0⟩
theorem size_often(p:O0)(c n x:Nat)(t u v:Int)(Z:List Zv)(w:World)(hZ:Z.length=n)(hP:DevsR w p c Z)(hk:PoolOk t u v (x:Int) (Z.map Prod.fst)) :
 C0 72 #[.agg #[V0 t,V0 u,V0 v,V0 (x:Int),.slice p n c]] w (Ret (V0 (↑(oftL x (Z.map Prod.fst)):Int)) w):=by
 have hx:x≤65536:=by have:=hk.hdata;omega
 refine zin 19 Tryz.func72 ?_
 refine xa 2 [V0 t,V0 u,V0 v,V0 (x:Int),.slice p n c] 48 fun b1 W1 n1=>?_
 refine xlv 11 n1.blk.rp ?_
 refine xc 0 (args:=#[.agg #[V0 t,V0 u,V0 v,V0 (x:Int),.slice p n c]]) (Lz p c n x t u v Z _ hZ (hP.below n1.below) hk) ?_
 rintro _ W2 ⟨_,rfl,a6,q9,d9,rfl,a2⟩
 have a3:=Zd a2 n1.below.size
 have a5:=bln n1.below a6
 have a4:=n1.blk.below a6
 refine zl 5 19 (fun zm a8 V=>∃ (i:Nat),a8=[(2,V0 0),(3,V0 (↑(Zb4 (Hd x (Z.map Prod.fst)) i):Int)),(7,.slice q9 x d9),(8,V0 (x:Int)),(9,V0 (i:Int))]∧zm=x-((i:Int)).toNat∧B3 w V∧Blk V b1 ([V0 t,V0 u,V0 v,V0 (x:Int),.slice p n c]) 48∧V.ownsRow w.heap.size 3 1 (.slice q9 x d9) x ((Hd x (Z.map Prod.fst)).map nv)∧i≤x) ⟨0,rfl,rfl,a5,a4,a3,Nat.zero_le _⟩ ?_
 rintro _ _ W3 ⟨i,rfl,rfl,a1,a0,a2,hi⟩ J3 a7 r3
 refine xid 6 ((i:Int)<(x:Int)) (fun b0=>?_) (fun b0=>?_)
 ·have b2:Zb4 (Hd x (Z.map Prod.fst)) i≤i:=by unfold Zb4;exact Nat.le_trans (List.length_filter_le _ _) (by rw[List.length_take];exact Nat.min_le_left _ _)
  refine xx 6 _ x i 1 (Bj (Ze a2) (Ke _ _) (k:=i) (by omega)).1 ?_
  refine xl 0 ((Bj (Ze a2) (Ke _ _) (k:=i) (by omega)).2) ?_
  refine xid 9 ((↑((Hd x (Z.map Prod.fst)).getD i 0):Int)≥(3:Int)) (fun a9=>?_) (fun a9=>?_)
  ·refine xwm 2 ((↑(Zb4 (Hd x (Z.map Prod.fst)) i):Int)+1) (↑((Zb4 (Hd x (Z.map Prod.fst)) i)+1):Int) ?_
   refine xwm 5 ((i:Int)+1) (↑(i+1):Int) ?_
   refine xv1 2 3 (show(V0 (↑((Zb4 (Hd x (Z.map Prod.fst)) i)+1):Int):Value)=V0 (↑(Zb4 (Hd x (Z.map Prod.fst)) (i+1)):Int) from by rw[Cc (k:=i) (by rw[Ke];omega),if_pos (by omega)]) ?_
   exact ze 0 (a7 _ _ _ ⟨i+1,rfl,rfl,a1,a0,a2,by omega⟩ (by omega))
  refine xwm 4 ((i:Int)+1) (↑(i+1):Int) ?_
  refine xv1 2 3 (show(V0 (↑(Zb4 (Hd x (Z.map Prod.fst)) i):Int):Value)=V0 (↑(Zb4 (Hd x (Z.map Prod.fst)) (i+1)):Int) from by rw[Cc (k:=i) (by rw[Ke];omega),if_neg (by omega),Nat.add_zero]) ?_
  exact ze 0 (a7 _ _ _ ⟨i+1,rfl,rfl,a1,a0,a2,by omega⟩ (by omega))
 exact xe 12 (V0 (↑(Zb4 (Hd x (Z.map Prod.fst)) i):Int)) ⟨by obtain rfl:i=x:=(by omega);rfl,a1⟩
theorem devs_row{Z:List Zv}{i:Nat}(h:i<Z.length):((((Z.map Prod.fst).map fun d=>Xx 2 d.2.length).take i).map nv)++[V0 (↑(Xx 2 (Z.getD i zvD).1.2.length):Int)]=((((Z.map Prod.fst).map fun d=>Xx 2 d.2.length).take (i+1)).map nv):=by
 rw[List.take_succ_eq_append_getElem (by simpa using h),List.map_append]
 simp[List.getD,h,nv]
theorem dev_few{data:Int}{Z:List Zv}(hk:DevsOk data (Z.map Prod.fst)){i:Nat}(h:i<Z.length):(Z.getD i zvD).1.2.length≤16384:=by
 have a:=hk.sum
 have b:=maps_sum (L:=Z.map Prod.fst) (i:=i) (by rw[List.length_map];exact h)
 rw[zfst h] at b
 omega
theorem devs_len{L:List Dv}:(L.map fun d=>Xx 2 d.2.length).length=L.length:=List.length_map ..
theorem size_sum7(b a1 a2 a3 a4 a5 a6:Nat)(w:World)(k:Blk w b [V0 1,V0 (a1:Int),V0 (a2:Int),V0 (a3:Int),V0 (a4:Int),V0 (a5:Int),V0 (a6:Int)] 3)(h:1+a1+a2+a3+a4+a5+a6≤1000000000) :
 C0 71 #[.slice (S1 b) 7 7] w (Ret (V0 (↑(1+a1+a2+a3+a4+a5+a6):Int)) w):=by
 have e:[1,a1,a2,a3,a4,a5,a6].sum=1+a1+a2+a3+a4+a5+a6:=by simp only[List.sum_cons,List.sum_nil];omega
 have q:=size_sum (S1 b) 7 7 [1,a1,a2,a3,a4,a5,a6] w rfl (k.sl 7 7 (by decide) (by decide)) (by rw[e];exact h)
 rw[e] at q
 exact q
theorem base_eq{x n:Nat}{L:List Dv}(h:L.length=n):1+Xx 3 n+Xx 1 n+Ds L+bmN x+Xx 4 (bmN x)+Xx 5 (oftL x L)=Di x L:=by
 subst h;rfl
theorem size_Base(p:O0)(c n x:Nat)(t u v:Int)(Z:List Zv)(w:World)(hZ:Z.length=n)(hP:DevsR w p c Z)(hk:PoolOk t u v (x:Int) (Z.map Prod.fst)) :
 C0 26 #[.agg #[V0 t,V0 u,V0 v,V0 (x:Int),.slice p n c]] w (Ret (V0 (↑(Di x (Z.map Prod.fst)):Int)) w):=by
 have hx:x≤65536:=by have:=hk.hdata;omega
 have d2:(Z.map Prod.fst).length=n:=by rw[List.length_map];exact hZ
 have e1:=hk.devs.few
 have f7:=hk.devs.sum
 rw[d2] at e1
 have f6:=Cr hk.devs
 have f2:=baseN_bd hx hk.devs
 have e5:bmN x≤69:=by unfold bmN;omega
 have e3:=Sl.len (hP.rowN hZ)
 refine zin 46 Tryz.func26 ?_
 refine xa 2 [V0 t,V0 u,V0 v,V0 (x:Int),.slice p n c] 48 fun b1 W1 n1=>?_
 refine xlv 6 n1.blk.rp ?_
 refine xr 0 (args:=#[.agg #[V0 t,V0 u,V0 v,V0 (x:Int),.slice p n c]]) (Ct p c n t u v (x:Int) Z _ hZ (hP.below n1.below)) fun W2 d3=>?_
 refine xk 3 (show(((Gw t u v (x:Int) (Z.map Prod.fst)) != (0:Int)):Bool)=false from by rw[Zbz.2 hk];rfl) ?_
 have b0:=n1.blk.below d3
 refine xb 11 4 b0 ?_
 have c6:=bln n1.below d3
 refine zl 5 46 (fun zm d7 V=>∃ (i:Nat) (p3:O0) (c3:Nat),d7=[(1,P0 b1),(2,V0 0),(3,.slice p3 i c3),(11,.slice p n c),(12,V0 (n:Int)),(13,V0 (i:Int))]∧zm=n-((i:Int)).toNat∧B3 w V∧Blk V b1 ([V0 t,V0 u,V0 v,V0 (x:Int),.slice p n c]) 48∧V.ownsRow w.heap.size 3 1 (.slice p3 i c3) i ((((Z.map Prod.fst).map fun d=>Xx 2 d.2.length).take i).map nv)∧i≤n) ⟨0,none,0,rfl,rfl,c6,b0,World.ownsRow_nil _ _ _ _,Nat.zero_le _⟩ ?_
 rintro _ _ W3 ⟨i,p3,c3,rfl,rfl,a2,a1,hl,hi⟩ J3 d6 r3
 refine xid 6 ((i:Int)<(n:Int)) (fun d9=>?_) (fun d9=>?_)
 ·have e6:=dev_few hk.devs (i:=i) (by omega)
  refine xx 6 _ n i 5 (hP.someN hZ (i:=i) (by omega)) ?_
  refine xlv 0 (Sts.rp (k:=i) (hP.below a2).row Nt zvD (by omega) (by decide)) ?_
  refine xa 0 [V0 0,V0 0,V0 0,V0 0,S0] 95 fun b5 W5 n5=>?_
  have g5:=n5.ge a2
  refine xsv 0 n5.blk [V0 ((Z.getD i zvD).1.1.1),V0 ((Z.getD i zvD).1.1.2.1),V0 ((Z.getD i zvD).1.1.2.2.1),V0 ((Z.getD i zvD).1.1.2.2.2),.slice ((Z.getD i zvD).2.1) ((Z.getD i zvD).1.2.length) ((Z.getD i zvD).2.2)] fun W6 u6 k6=>?_
  refine xb 5 4 k6 ?_
  refine xr 1 (args:=#[V0 2,V0 (↑((Z.getD i zvD).1.2.length):Int)]) (Qx 2 ((Z.getD i zvD).1.2.length) _ (by decide) (by decide) (by omega)) fun W7 c9=>?_
  refine xbs 0 1 [V0 (↑(Xx 2 ((Z.getD i zvD).1.2.length)):Int)] 3 fun b8 W8 n8=>?_
  have b6:=bln (u6.below (bln a2 n5.below) g5) c9
  have g8:=n8.ge b6
  have c0:=Zb (u6.own2 (Zb hl n5.below) n5.blk (by decide)) c9
  have d4:=Zn c0 n8
  have a6:=Zb c0 n8.below
  have a9:=bln b6 n8.below
  refine xbi 0 fun _ _ _ _ zJ zQ zo zx zy zK=>Zr (m:=1) (news:=[V0 (↑(Xx 2 ((Z.getD i zvD).1.2.length)):Int)]) (V0 0) 1 8 (i+1) (((((Z.map Prod.fst).map fun d=>Xx 2 d.2.length).take (i+1)).map nv)) zo Tryz.underlying34 (by kernel_rfl) rfl (by decide) zx a6 zy (n8.blk.sl 1 1 (by decide) (by decide)) rfl (by simp[Value.oneCell']) (by unfold maxLen;omega) (by omega) a9.size (by rfl) (by exact devs_row (by omega)) fun e8 f3 W9 o9 d8 e0=>?_
  refine zK _ _ ?_
  refine xwm 5 ((i:Int)+1) (↑(i+1):Int) ?_
  have d0:=a9.trans e0
  have a3:=(((u6.blkT (a1.below n5.below) n5.blk (by decide)).below c9).below n8.below).grown d8 a6 (by decide)
  exact ze 2 (d6 _ _ _ ⟨i+1,_,_,rfl,rfl,d0,a3,o9,by omega⟩ (by omega))
 obtain rfl:n=i:=by omega
 rw[List.take_of_length_le (by rw[devs_len,List.length_map];omega)] at hl
 refine xb 8 3 a1 ?_
 refine xr 0 (args:=#[V0 (x:Int)]) (Es x _ hx) fun c8 a4=>?_
 refine xd 4 .z ?_
 have a0:=(a1.below a4).below (Za c8)
 refine xb (.e [0] 1) 4 a0 ?_
 refine xb (.e [2,4] 5) 4 a0 ?_
 refine xlv (.e [6,8,10,11] 13) a0.rp ?_
 refine xr (.o [] 3) (args:=#[V0 3,V0 (n:Int)]) (Qx 3 n _ (by decide) (by decide) (by omega)) fun f5 c1=>?_
 refine xr (.o [] 7) (args:=#[V0 1,V0 (n:Int)]) (Qx 1 n _ (by decide) (by decide) (by omega)) fun e4 a7=>?_
 have a5:=Zb (Zb (Zb (Zb hl a4) (Za c8)) c1) a7
 refine xr (.o [] 9) (args:=#[.slice p3 n c3]) (size_sum p3 n c3 ((Z.map Prod.fst).map fun d=>Xx 2 d.2.length) _ (by rw[devs_len,List.length_map];exact hZ) (Ze a5) (by have:=Zg6 (L:=(Z.map Prod.fst));unfold Ds at this;omega)) fun f8 b7=>?_
 refine xr (.o [] 12) (args:=#[V0 4,V0 (↑(bmN x):Int)]) (Qx 4 (bmN x) _ (by decide) (by decide) (by omega)) fun e9 b4=>?_
 have b2:=bln (bln (bln (bln (bln (bln a2 a4) (Za c8)) c1) a7) b7) b4
 refine xr (.o [] 14) (args:=#[.agg #[V0 t,V0 u,V0 v,V0 (x:Int),.slice p n c]]) (size_often p c n x t u v Z _ hZ (hP.below b2) hk) fun f4 b9=>?_
 refine xr (.o [] 15) (args:=#[V0 5,V0 (↑(oftL x (Z.map Prod.fst)):Int)]) (Qx 5 (oftL x (Z.map Prod.fst)) _ (by decide) (by decide) (by omega)) fun f0 a8=>?_
 refine xbs (.o [] 16) 7 [V0 1,V0 (↑(Xx 3 n):Int),V0 (↑(Xx 1 n):Int),V0 (↑(Ds (Z.map Prod.fst)):Int),V0 (↑(bmN x):Int),V0 (↑(Xx 4 (bmN x)):Int),V0 (↑(Xx 5 (oftL x (Z.map Prod.fst))):Int)] 3 fun d5 e7 c2=>?_
 have b3:=bln (bln b2 b9) a8
 have e2:=c2.ge b3
 have c7:=Zb (Zb (Zb (Zb a5 b7) b4) b9) a8
 have c4:=Zn c7 c2
 refine xr (.o [] 17) (args:=#[.slice (S1 d5) 7 7]) (by have q:=size_sum7 d5 (Xx 3 n) (Xx 1 n) (Ds (Z.map Prod.fst)) (bmN x) (Xx 4 (bmN x)) (Xx 5 (oftL x (Z.map Prod.fst))) _ c2.blk (by rw[base_eq d2];omega);rw[base_eq d2] at q;exact q) fun f1 c5=>?_
 have d1:=bln (bln b3 c2.below) c5
 exact xe (.r [18] 3) (V0 (↑(Di x (Z.map Prod.fst)):Int)) ⟨rfl,d1⟩
theorem need_quo(bs:Nat)(h:bs≤100000):IntKind.i64.wrap (Int.tdiv (↑(bs+1):Int) 959)=(↑((bs+1)/959):Int):=by
 rw[show(959:Int)=((959:Nat):Int) from rfl,←Int.ofNat_tdiv]
 exact IntWalk.i64_in _ (by omega)
theorem size_Need(p:O0)(c n x:Nat)(t u v:Int)(Z:List Zv)(w:World)(hZ:Z.length=n)(hP:DevsR w p c Z)(hk:PoolOk t u v (x:Int) (Z.map Prod.fst)) :
 C0 16 #[.agg #[V0 t,V0 u,V0 v,V0 (x:Int),.slice p n c]] w (Ret (V0 (↑(Mi x (Z.map Prod.fst)):Int)) w):=by
 have hx:x≤65536:=by have:=hk.hdata;omega
 have a2:=baseN_bd hx hk.devs
 obtain⟨bs,a0⟩:∃ y,Di x (Z.map Prod.fst)=y:=⟨_,rfl⟩
 rw[a0] at a2
 refine zin 17 Tryz.func16 ?_
 refine xa 2 [V0 t,V0 u,V0 v,V0 (x:Int),.slice p n c] 48 fun b1 W1 n1=>?_
 refine xlv 5 n1.blk.rp ?_
 refine xr 0 (args:=#[.agg #[V0 t,V0 u,V0 v,V0 (x:Int),.slice p n c]]) (by have q:=size_Base p c n x t u v Z _ hZ (hP.below n1.below) hk;rw[a0] at q;exact q) fun W2 a3=>?_
 refine xk 10 (show(((bs:Int)==(0:Int)):Bool)=false from beq_false_of_ne (by omega)) ?_
 refine xwm 5 ((bs:Int)+2) (↑(bs+2):Int) ?_
 refine xwm 7 ((↑(bs+2):Int)-1) (↑((bs+2)-1):Int) ?_
 refine xq 0 (congrArg V0 (show(IntKind.i64.wrap (Int.tdiv (↑((bs+2)-1):Int) 959):Int)=(↑((bs+1)/959):Int) from need_quo bs a2.2)) ?_
 refine xwm 0 ((↑(bs+2):Int)+(↑((bs+1)/959):Int)) (↑((bs+2)+((bs+1)/959)):Int) ?_
 refine xwm 0 ((↑((bs+2)+((bs+1)/959)):Int)+1) (↑(((bs+2)+((bs+1)/959))+1):Int) ?_
 have a1:=bln n1.below a3
 exact xe 4 (V0 (↑(((bs+2)+((bs+1)/959))+1):Int)) ⟨by unfold Mi Zf0;rw[a0];exact congrArg (fun z:Int=>Ending.returned (Value.int .i64 z)) (by omega),a1⟩
def entE(v:Nat)(l:List Ent)(i:Nat):Prop:=lastK l i<(l.getD i Kd).1∧(l.getD i Kd).1≤281474976710655∧(l.getD i Kd).2.1.length=v
instance (v:Nat) (l:List Ent) (i:Nat):Decidable (entE v l i):=by unfold entE;infer_instance
structure AlG(B ba b:Nat)(pa:Option Addr)(N ca k:Nat)(L:List Int)(w:World):Prop where
 blk:Blk w ba [.slice pa N ca,.int .i64 (k:Int),.pointer (some ⟨b,0,none⟩)] 200
 nums:w.ownsRow B 3 1 (.slice pa N ca) N (L.map (Value.int .i64))
 hL:L.length=N
 hB:B≤ba
 hN:N≤1000000
 hk:k≤N
theorem AlG.below{B ba b:Nat}{pa:O0}{N ca k:Nat}{L:List Int}{w W:World}(h:AlG B ba b pa N ca k L w)(hb:B3 w W):AlG B ba b pa N ca k L W:=⟨h.blk.below hb,Zb h.nums hb,h.hL,h.hB,h.hN,h.hk⟩
theorem AlG.only{B ba b:Nat}{pa:O0}{N ca k:Nat}{L:List Int}{w W:World}{T:List TypeId}(h:AlG B ba b pa N ca k L w)(hO:Zf T w W)(hT:T.contains 200=false∧T.contains 3=false):AlG B ba b pa N ca k L W:=⟨h.blk.only hO hT.1,Zj h.nums hO hT.2,h.hL,h.hB,h.hN,h.hk⟩
theorem AlG.mono{B B' ba b:Nat}{pa:O0}{N ca k:Nat}{L:List Int}{w:World}(h:AlG B ba b pa N ca k L w)(hB:B'≤B):AlG B' ba b pa N ca k L w:=⟨h.blk,Zd h.nums hB,h.hL,Nat.le_trans hB h.hB,h.hN,h.hk⟩
theorem clone_ints(p:Addr)(N c:Nat)(xs:List Value)(w:World)(h:Sl w (.slice (some p) N c) N xs)(hl:xs.length=N)(h1:∀ u∈xs,u.oneCell'=true)(hn:N≤1000000) :
 C0 118 #[.slice (some p) N c] w (Qe (fun w' r=>∃ q c2,r=.slice q N c2∧w'.ownsRow w.heap.size 3 1 (.slice q N c2) N xs) w):=by
 refine zin 8 Tryz.func118 ?_
 refine xb0 17 3 fun b1 W1 n1=>?_
 have o1:=Xb (size:=1) (n:=0) n1.blk (n1.ge (B4 w)) rfl (by decide)
 refine xbi 1 fun _ _ _ _ zJ zQ zo zx zy zK=>Zr (m:=N) (news:=xs) (V0 0) 1 8 (N) (xs) zo Tryz.underlying34 (by kernel_rfl) rfl (by decide) zx o1 zy (h.below n1.below) (by rw[hl,Nat.mul_one]) h1 (by unfold maxLen;omega) (by omega) n1.below.size (by omega) (by rfl) fun a3 a2 W2 o2 a4 a1=>?_
 refine zK _ _ ?_
 have a0:=n1.below.trans a1
 exact xe 4 (.slice a3 N a2) ⟨_,rfl,a0,_,_,rfl,o2⟩
theorem Ib(w:World) :
 C0 118 #[S0] w (Ret (S0) w):=by
 refine zin 8 Tryz.func118 ?_
 exact xe 20 (S0) ⟨rfl,(B4 w)⟩
theorem Zgp(a:O0)(N c:Nat)(xs:List Value)(w:World)(h:Sl w (.slice a N c) N xs)(hc:a=none→c=0)(hl:xs.length=N)(h1:∀ u∈xs,u.oneCell'=true)(hn:N≤1000000) :
 C0 118 #[.slice a N c] w (Qe (fun w' r=>∃ q c2,r=.slice q N c2∧w'.ownsRow w.heap.size 3 1 (.slice q N c2) N xs) w):=by
 cases a with
 | some p=>exact clone_ints p N c xs w h hl h1 hn
 | none =>
  have hN:N=0∧xs=[]:=by
   rcases h with ⟨a',c',h2,h3,h4⟩|⟨b',a0,a1,h2,_⟩
   ·simp only[Value.slice.injEq] at h2;exact⟨h2.2.1,h4⟩
   ·cases h2
  obtain⟨rfl,rfl⟩:=hN
  obtain rfl:=hc rfl
  refine(Ib w).mono ?_
  rintro e W ⟨rfl,hb⟩
  exact⟨_,rfl,hb,none,0,rfl,World.ownsRow_nil _ _ _ _⟩
theorem sl_cut{w:World}{b:O0}{n c:Nat}{xs:List Value}(h:Sl w (.slice b n c) n xs)(hl:xs.length=n)(k:Nat)(hk:k≤n):Sl w (.slice (Qu b k c 1) (n-k) (c-k)) (n-k) (xs.drop k):=by
 rcases h with ⟨a',c',h1,h2,h3⟩|⟨g,a0,a1,h1,h2,h3,h4⟩
 ·obtain rfl:k=0:=by omega
  subst h3 h2
  exact .inl ⟨Qu b 0 c 1,c-0,rfl,rfl,rfl⟩
 ·simp only[Value.slice.injEq] at h1
  obtain⟨rfl,_,rfl⟩:=h1
  by_cases hz:n-k=0
  ·refine .inl ⟨Qu (some ⟨g,a0,none⟩) k c 1,c-k,by rw[hz],by omega,?_⟩
   exact List.drop_eq_nil_of_le (by omega)
  ·refine .inr ⟨g,a0+k*1,c-k,?_,by omega,by omega,fun j x hj=>?_⟩
   ·rw[Qu,if_neg (by omega)];simp[Addr.add]
   ·rw[List.getElem?_drop] at hj
    have:=h4 (k+j) x hj
    rwa [Nat.mul_one,Nat.add_assoc]
theorem sl_take{w:World}{b:O0}{n c:Nat}{xs:List Value}(h:Sl w (.slice b n c) n xs)(hl:xs.length=n)(m:Nat)(hm:m≤n):Sl w (.slice b m c) m (xs.take m):=Sl.head h hl m hm
theorem aheadSl{w:World}{b:O0}{n c k i:Nat}{L:List Int}(h:Sl w (.slice b n c) n (L.map V0))(hl:L.length=n)(hk:k≤n):Sl w (.slice (Qu b k c 1) (min i (n-k)) (c-k)) (min i (n-k)) (((L.drop k).take i).map V0):=by
 have h1:=sl_cut h (by simpa using hl) k hk
 have h2:=sl_take h1 (by simp[hl]) (min i (n-k)) (by omega)
 rw[←List.map_drop,←List.map_take] at h2
 have e:(L.drop k).take (min i (n-k))=(L.drop k).take i:=by
  rcases Nat.le_total i (n-k) with q|q
  ·rw[Nat.min_eq_left q]
  ·rw[Nat.min_eq_right q,List.take_of_length_le (by simp[hl]),List.take_of_length_le (by simp[hl];omega)]
 rw[e] at h2
 exact h2
theorem aheadN{w:World}{B:Nat}{b:O0}{n c k:Nat}{xs:List Value}{e size:Nat}(h:w.ownsRow B e size (.slice b n c) n xs):Qu b k c 1=none→c-k=0:=by
 intro hn
 have hb:b=none:=by
  unfold Qu at hn
  split at hn
  ·exact hn
  ·simpa using hn
 subst hb
 rcases h.2 with ⟨h2,_⟩|⟨g,a1,a0,h2,_⟩
 ·simp only[Value.slice.injEq] at h2;omega
 ·cases h2
theorem Zeu(B ba b:Nat)(p0:O0)(N ca k i:Nat)(L:List Int)(w:World)(hA:AlG B ba b p0 N ca k L w)(hi:i≤1000000) :
 C0 162 #[P0 ba,V0 (i:Int)] w (Qe (fun w' r=>∃ q c2,r=.slice q (min i (N-k)) c2∧w'.ownsRow w.heap.size 3 1 (.slice q (min i (N-k)) c2) (min i (N-k)) (((L.drop k).take i).map V0)) w):=by
 have hk:=hA.blk
 have a4:=hA.hk
 have hL:=hA.hL
 have hN:=hA.hN
 have a9:N≤ca:=by
  rcases Nat.eq_zero_or_pos N with q|q
  ·omega
  ·exact Zfx hA.nums q
 refine zin 23 Tryz.func162 ?_
 refine xr 9 (args:=#[P0 ba]) (Jh ba b _ _ _ hk) fun W1 a0=>?_
 refine xid 6 ((i:Int)<(1:Int)) (fun a8=>?_) (fun a8=>?_)
 ·refine xe 7 (S0) ?_
  obtain rfl:i=0:=by omega
  exact⟨_,rfl,a0,none,0,by rw[Nat.zero_min],by rw[Nat.zero_min,List.take_zero];exact World.ownsRow_nil _ _ _ _⟩
 have a1:=hk.below a0
 refine xr 7 (args:=#[P0 ba]) (Ol ba p0 N ca k _ _ a1 a4) fun W3 a5=>?_
 refine xq 9 (congrArg V0 (show(if(↑(N-k):Int)<(i:Int) then(↑(N-k):Int) else(i:Int):Int)=(↑(min i (N-k)):Int) from Zbj i (N-k))) ?_
 refine xsH 0 (fun _ _ _ _ zo zx zy V=>Vm (k:=(min i (N-k))) (b:=(Qu p0 k ca 1)) (n:=(N-k)) (c:=(ca-k)) (i:=(↑(min i (N-k)):Int)) (ki:=.i64) zo zx zy rfl (by omega) Tryz.underlying34 (by kernel_rfl) V) ?_
 have hB:=bln a0 a5
 refine xc 0 (args:=#[.slice (Qu p0 k ca 1) (min i (N-k)) (ca-k)]) (Zgp (Qu p0 k ca 1) (min i (N-k)) (ca-k) (((L.drop k).take i).map V0) _ (aheadSl (Ze (Zb hA.nums hB)) hL a4) (aheadN hA.nums) (by simp;omega) (ints_one _) (by omega)) ?_
 rintro _ W4 ⟨_,rfl,a7,pq,cq,rfl,hq⟩
 have a6:=(bln a0 a5).size
 have a3:=bln hB a7
 have a2:=Zd hq a6
 exact xe 4 (.slice pq (min i (N-k)) cq) ⟨_,rfl,a3,_,_,rfl,a2⟩
def rsV (L:List (List Int))(q i:Nat):List Value:=[V0 ((q+i:Nat):Int),V0 (Yy (L.getD i []):Int),V0 (Xq (L.getD i []):Int)]
def rsL (L:List (List Int))(q n:Nat):List Value:=(List.range n).flatMap (rsV L q)
theorem rsL_succ(L:List (List Int))(q n:Nat):rsL L q (n+1)=rsL L q n++rsV L q n:=by simp[rsL,List.range_succ]
def rsC (x:Nat×Nat×Nat):List Value:=[V0 (x.1:Int),V0 (x.2.1:Int),V0 (x.2.2:Int)]
theorem rsC_len(x:Nat×Nat×Nat):(rsC x).length=3:=rfl
def rsD:Nat×Nat×Nat:=(0,0,0)
def Rs (L:List (List Int))(q n:Nat):List (Nat×Nat×Nat):=(List.range n).map fun i=>(q+i,Yy (L.getD i []),Xq (L.getD i []))
theorem Ag(L:List (List Int))(q n:Nat):(Rs L q n).length=n:=by simp[Rs]
theorem Rs_get{L:List (List Int)}{q n i:Nat}(h:i<n):(Rs L q n).getD i rsD=(q+i,Yy (L.getD i []),Xq (L.getD i [])):=by simp[Rs,List.getD,List.getElem?_range h]
theorem rsL_Rs(L:List (List Int))(q n:Nat):rsL L q n=(Rs L q n).flatMap rsC:=by simp[rsL,Rs,List.flatMap_map];rfl
theorem Rs_sts{L:List (List Int)}{q n c:Nat}{p:O0}{w:World}(h:Sl w (.slice p n c) n (rsL L q n)):Sts rsC w (.slice p (Rs L q n).length c) (Rs L q n):=by unfold Sts;rw[Ag,←rsL_Rs];exact h
def slB (x:Nat×Nat×Nat):Bl:=leB (x.1:Int) 8++leB (x.2.1:Int) 4++leB (x.2.2:Int) 4
theorem Zfv(x:Nat×Nat×Nat):(slB x).length=16:=by simp[slB,Zi]
def idxP(S:List (Nat×Nat×Nat))(i:Nat):Bl:=leB (S.length:Int) 4++(List.range i).flatMap fun j=>slB (S.getD j rsD)
theorem Cq(S:List (Nat×Nat×Nat))(i:Nat):idxP S (i+1)=idxP S i++slB (S.getD i rsD):=by simp[idxP,List.range_succ]
theorem Rb(S:List (Nat×Nat×Nat)):∀ i,(idxP S i).length=4+i*16
 | 0=>by simp[idxP,Zi]
 | i+1=>by rw[Cq,List.length_append,Rb S i,Zfv];omega
def Dp(S:List (Nat×Nat×Nat)):Bl:=idxP S S.length++List.replicate (244-(4+S.length*16)) 0
theorem Bq{S:List (Nat×Nat×Nat)}(h:S.length≤15):(Dp S).length=244:=by unfold Dp;rw[List.length_append,Rb,List.length_replicate];omega
def Tq(S:List (Nat×Nat×Nat)):Prop:=S.length≤14∧∀ i,i<S.length→1≤(S.getD i rsD).1∧(S.getD i rsD).1≤14399∧(S.getD i rsD).2.1≤960∧(S.getD i rsD).2.2≤960
theorem slB_ne(x:Nat×Nat×Nat):((⟨(leB (x.1:Int) 8++leB (x.2.1:Int) 4++leB (x.2.2:Int) 4).toArray⟩:ByteArray).toList==(⟨#[]⟩:ByteArray).toList)=false:=by
 rw[show(⟨#[]⟩:ByteArray)=⟨([]:Bl).toArray⟩ from rfl,Wk]
 apply beq_false_of_ne
 intro q
 have h1:=congrArg List.length q
 simp[Zi] at h1
theorem slots_Put(a:O0)(c:Nat)(S:List (Nat×Nat×Nat))(w:World)(hS:Tq S)(h:Sts rsC w (.slice a S.length c) S) :
 C0 164 #[.slice a S.length c] w (Qe (fun w' r=>∃ p c,r=.tuple #[.slice p 244 c,V0 0]∧w'.ownsRow w.heap.size 5 1 (.slice p 244 c) 244 ((Dp S).map bv)) w):=by
 have c1:=hS.1
 refine zin 39 Tryz.func164 ?_
 refine xk 14 (show(decide ((S.length:Int)>(15:Int)):Bool)=false from decide_eq_false (by omega)) ?_
 refine xbs 7 1 [V0 4,V0 (S.length:Int)] 292 fun b1 W1 n1=>?_
 refine xc 0 (args:=#[.slice (S1 b1) 1 1]) (Ep b1 (S.length:Int) (by omega) (by omega) _ n1.blk) ?_
 rintro _ W2 ⟨_,rfl,b0,p2,c2,rfl,h2⟩
 have a9:=Zd h2 n1.below.size
 have hB:=bln n1.below b0
 have a6:=n1.blk.below b0
 refine zl 16 39 (fun zm b3 V=>∃ (i:Nat) (p4:O0) (c4:Nat),b3=[(4,.slice p4 (4+i*16) c4),(20,.slice a S.length c),(21,V0 (S.length:Int)),(22,V0 (i:Int))]∧zm=S.length-((i:Int)).toNat∧B3 w V∧Blk V b1 ([V0 4,V0 (S.length:Int)]) 292∧V.ownsRow w.heap.size 5 1 (.slice p4 (4+i*16) c4) (4+i*16) ((idxP S i).map bv)∧i≤S.length) ⟨0,p2,c2,rfl,rfl,hB,a6,(by simpa [idxP] using a9),Nat.zero_le _⟩ ?_
 rintro _ _ W3 ⟨i,p4,c4,rfl,rfl,a0,a3,ho,hi⟩ J3 b2 r3
 refine xid 6 ((i:Int)<(S.length:Int)) (fun b7=>?_) (fun b7=>?_)
 ·refine xx 6 _ S.length i 3 (Sts.cell h rsC_len rsD (k:=i) (i:=0) (by omega) rfl).1 ?_
  refine xlv 0 (Sts.rp (k:=i) (h.below a0) rsC_len rsD (by omega) (by decide)) ?_
  refine xa 0 [V0 0,V0 0,V0 0] 134 fun b5 W5 n5=>?_
  have g5:=n5.ge a0
  refine xsv 0 n5.blk [V0 (↑(S.getD i rsD).1:Int),V0 (↑(S.getD i rsD).2.1:Int),V0 (↑(S.getD i rsD).2.2:Int)] fun W6 u6 k6=>?_
  refine xlv 4 k6.rp ?_
  refine xr 0 (args:=#[.agg #[V0 (↑(S.getD i rsD).1:Int),V0 (↑(S.getD i rsD).2.1:Int),V0 (↑(S.getD i rsD).2.2:Int)]]) (Hh (↑(S.getD i rsD).1:Int) (↑(S.getD i rsD).2.1:Int) (↑(S.getD i rsD).2.2:Int) (by have:=hS.2 i (by omega);omega) (by have:=hS.2 i (by omega);omega) (by omega) (by have:=hS.2 i (by omega);omega) (by omega) (by have:=hS.2 i (by omega);omega) _) fun W7 a7=>?_
  refine xk 10 (show(((⟨(leB (↑(S.getD i rsD).1:Int) 8++leB (↑(S.getD i rsD).2.1:Int) 4++leB (↑(S.getD i rsD).2.2:Int) 4).toArray⟩:ByteArray).toList==(⟨#[]⟩:ByteArray).toList):Bool)=false from slB_ne _) ?_
  have a4:=Zb (u6.own2 (Zb ho n5.below) n5.blk (by decide)) a7
  have a2:=bln (u6.below (bln a0 n5.below) g5) a7
  refine xbi 5 (t2:=9) fun _ _ _ _ zJ zQ zo zx zy zK=>op_appS (leB (↑(S.getD i rsD).1:Int) 8++leB (↑(S.getD i rsD).2.1:Int) 4++leB (↑(S.getD i rsD).2.2:Int) 4) ((4+(i+1)*16)) ((idxP S (i+1)).map bv) zo Tryz.underlying22 Tryz.underlying9 (by kernel_rfl) zx a4 zy (by simp[Zi];omega) a2.size (by simp[Zi];omega) (by simp[Cq,slB]) fun c5 c6 W8 o8 c0 b6=>?_
  refine zK _ _ ?_
  refine xwm 5 ((i:Int)+1) (↑(i+1):Int) ?_
  have a8:=a2.trans b6
  have a1:=((u6.blkT (a3.below n5.below) n5.blk (by decide)).below a7).grown c0 a4 (by decide)
  exact ze 2 (b2 _ _ _ ⟨i+1,_,_,rfl,rfl,a8,a1,o8,by omega⟩ (by omega))
 refine xwm 10 (244-(↑(4+i*16):Int)) (↑(244-(4+i*16)):Int) ?_
 refine xbi 0 (t2:=3) fun _ _ _ _ zJ zQ zo zx zy zK=>op_appZo (kq:=.i64) (244-(4+i*16)) (244) ((Dp S).map bv) zo Tryz.underlying22 Tryz.underlying3 (by kernel_rfl) zx ho zy (by omega) (by omega) a0.size (by omega) (by rw[show i=S.length by omega];unfold Dp;rw[List.map_append,List.map_replicate];rfl) fun b4 b8 W9 o9 c3 b9=>?_
 refine zK _ _ ?_
 have a5:=a0.trans b9
 exact xe 5 (.tuple #[.slice b4 244 b8,V0 0]) ⟨_,rfl,a5,_,_,rfl,o9⟩
def Vf(l:List Int)(f n:Nat):List Int:=(List.range l.length).map fun i=>l.getD i 0+(if f≤i∧i<f+n then 1 else 0)
theorem Vd(l:List Int)(f n:Nat):(Vf l f n).length=l.length:=by simp[Vf]
theorem Zdn{l:List Int}{f n i:Nat}(h:i<l.length):(Vf l f n).getD i 0=l.getD i 0+(if f≤i∧i<f+n then 1 else 0):=by simp[Vf,List.getD,List.getElem?_range h]
theorem bumpL_zero(l:List Int)(f:Nat):Vf l f 0=l:=by
 apply List.ext_getElem (by simp[Vf])
 intro i h1 h2
 simp[Vf,List.getD,h2]
 omega
theorem bumpL_set{l:List Int}{f j:Nat}(h:f+j<l.length):((Vf l f j).map V0).set (f+j) (V0 (l.getD (f+j) 0+1))=(Vf l f (j+1)).map V0:=by
 apply List.ext_getElem?
 intro i
 by_cases hi:i<l.length
 ·by_cases e:f+j=i
  ·subst e
   rw[List.getElem?_set_self (by simp[Vd];exact h)]
   simp[Vf,List.getElem?_range h]
  ·rw[List.getElem?_set_ne e]
   have hc:(f≤i∧i<f+j)↔(f≤i∧i<f+(j+1)):=by omega
   simp only[Vf,List.getElem?_map,List.getElem?_range hi,Option.map_some]
   by_cases q:f≤i∧i<f+j
   ·rw[if_pos q,if_pos (hc.1 q)]
   ·rw[if_neg q,if_neg (fun z=>q (hc.2 z))]
 ·rw[List.getElem?_eq_none (by simp[Vd];omega),List.getElem?_eq_none (by simp[Vd];omega)]
def FreeOk(l:List Int)(f:Int):Prop:=∀ i,i<l.length→(f≤(i:Int)→l.getD i 0=0)∧l.getD i 0≤1073741824
theorem bumpL_ok{l:List Int}{f n:Nat}(h:FreeOk l (f:Int))(hc:∀ k,k<l.length→Nd (l.getD k 0)):∀ k,k<(Vf l f n).length→Nd ((Vf l f n).getD k 0):=by
 intro k hk
 rw[Vd] at hk
 rw[Zdn hk]
 have h1:=(h k hk).2
 have h2:=hc k hk
 unfold Nd at h2 ⊢
 split<;>omega
def Qa(l:List Int):Nat:=Xx 5 (Zy l l.length).length+bmN l.length+1
theorem Il{w:World}{b:O0}{n c f N k i:Nat}(h:Sl w (.slice b n c) n ((((Og f N).drop k).take n).map V0))(hn:k+n≤N)(hi:i<n):b.isSome=true∧w.cell? (Xd b (i*1))=some (V0 ((f+k+i:Nat):Int)):=by
 have a0:(((Og f N).drop k).take n).length=n:=by simp[Og];omega
 have h1:=IntsN.elem h a0 hi
 have e:(((Og f N).drop k).take n).getD i 0=((f+k+i:Nat):Int):=by
  have h2:=rngJ_get (f:=f) (N:=N) (k:=k+i) (by omega)
  rw[←Nat.add_assoc] at h2
  rw[←h2]
  simp only[List.getD,List.getElem?_take,List.getElem?_drop,if_pos hi]
 rwa [e] at h1
def Dq(l:List Int)(f k0:Nat)(bs:Bl):Int×Int×Bl:=(((f+k0+(Xx 5 (Zy l l.length).length)+(bmN (Vf l (f+k0) (Qa l)).length)):Nat),(Yl 5 (Zy l l.length) (f+k0) bs).1,Vq (Ks (Xp (Zu (Vf l (f+k0) (Qa l))) (bmN (Vf l (f+k0) (Qa l)).length)) (f+k0+(Xx 5 (Zy l l.length).length)) (Yl 5 (Zy l l.length) (f+k0) bs).2 (bmN (Vf l (f+k0) (Qa l)).length)) ((f+k0+(Xx 5 (Zy l l.length).length)+(bmN (Vf l (f+k0) (Qa l)).length))*256) (Xs 4 (((f+k0+(Xx 5 (Zy l l.length).length)+(bmN (Vf l (f+k0) (Qa l)).length)):Nat):Int) (Dp (Rs (Xp (Zu (Vf l (f+k0) (Qa l))) (bmN (Vf l (f+k0) (Qa l)).length)) (f+k0+(Xx 5 (Zy l l.length).length)) (bmN (Vf l (f+k0) (Qa l)).length)))))
theorem Zhi(l:List Int)(q n:Nat):bmN (Vf l q n).length=bmN l.length:=by rw[Vd]
theorem Aa{w:World}{b:O0}{n c q i:Nat}{l:List Int}(h:Sl w (.slice b n c) n ((Vf l q i).map V0))(hn:l.length=n)(hi:q+i<n):b.isSome=true∧w.cell? (Xd b ((q+i)*1))=some (V0 (l.getD (q+i) 0)):=by
 have h1:=IntsN.elem h (by rw[Vd];exact hn) hi
 rw[Zdn (by omega),if_neg (by omega),Int.add_zero] at h1
 exact h1
def ClosM(B Bx bl:Nat)(L:List (List Int))(q i:Nat)(w:World)(e:Ending)(w':World):Prop :=
 ∃ u p c,e=.returned u∧Below B w w'∧Zf [140,134] w w'∧Blk w' bl [.slice p (i+1) c] 140∧w'.ownsRow Bx 134 3 (.slice p (i+1) c) (i+1) (rsL L q (i+1))∧FrB Bx [bl] w w'
theorem plot_meta1(B Bx bl:Nat)(p:O0)(c:Nat)(L:List (List Int))(q i:Nat)(w:World)(hBm:B≤Bx)(hBx:Bx≤w.heap.size)(hBw:B≤w.heap.size)(hBl:B≤bl)(kl:Blk w bl [.slice p i c] 140)(hup:w.ownsRow Bx 134 3 (.slice p i c) i (rsL L q i))(hi:i≤100000) :
 C0 163 #[.agg #[V0 (↑(q+i):Int),V0 (↑(Yy (L.getD i [])):Int),V0 (↑(Xq (L.getD i [])):Int)],P0 bl] w (ClosM B Bx bl L q i w):=by
 have hZ:FrZ Bx [bl] w w:=FrZ.refl hBx
 refine zin 7 Tryz.func163 ?_
 refine xa 2 [V0 (↑(q+i):Int),V0 (↑(Yy (L.getD i [])):Int),V0 (↑(Xq (L.getD i [])):Int)] 134 fun b1 W1 n1=>?_
 have a5:=Zn hup n1
 have a3:=kl.below n1.below
 refine xb 3 0 a3 ?_
 refine xlv 0 n1.blk.rp ?_
 refine xbs 0 1 [V0 (↑(q+i):Int),V0 (↑(Yy (L.getD i [])):Int),V0 (↑(Xq (L.getD i [])):Int)] 134 fun b2 W2 n2=>?_
 have b0:=n2.ne n1.blk
 have a1:=Zb hup n1.below
 have a8:=Zn a1 n2
 have a0:=Zb a1 n2.below
 have hB:=blB (blB (Below.refl B w) hBw n1.below) hBw n2.below
 refine xbi 0 fun _ _ _ _ zJ zQ zo zx zy zK=>Zr (m:=1) (news:=[V0 (↑(q+i):Int),V0 (↑(Yy (L.getD i [])):Int),V0 (↑(Xq (L.getD i [])):Int)]) (.agg #[V0 0,V0 0,V0 0]) 3 24 (i+1) ((rsL L q (i+1))) zo Tryz.underlying140 (by kernel_rfl) rfl (by decide) zx a0 zy (n2.blk.sl 1 1 (by decide) (by decide)) rfl (by simp[Value.oneCell']) (by unfold maxLen;omega) (by omega) (Nat.le_trans hBx hB.size) (by rfl) (by rw[rsL_succ];rfl) fun b3 b4 W3 o3 a4 b5=>?_
 refine zK _ _ ?_
 have a2:=(a3.below n2.below).grown a4 a0 (by decide)
 refine xs 0 a2 [.slice b3 (i+1) b4] fun W4 u4 k4=>?_
 have a9:=u4.below (hB.trans (b5.mono hBm)) hBl
 have hO:=(((show Zf [140,134] w _ from(Zf.of_below n1.below)).trans (Zf.of_below n2.below)).trans (Zf.of_grown a4 a0 (by decide))).trans (Zf.of_upd u4 a2 (by decide))
 have a6:=u4.own2 o3 a2 (by decide)
 have a7:=(((hZ.below n1.below).below n2.below).grown a4 a0).upd u4 (by simp)
 exact xe 1 (.tuple #[]) ⟨_,_,_,rfl,a9,hO,k4,a6,a7.fr⟩
def LayPostM(B ba b g nn cc:Nat)(pa:O0)(ca f N k0:Nat)(bs:Bl)(bl:Nat)(L:List (List Int))(w:World)(e:Ending)(w':World):Prop :=
 ∃ p c,e=.returned .nilIface∧Below B w w'∧Zf [200,5,140,134] w w'∧Fr [ba,g,bl] w w'∧Al B ba b g nn cc pa ca f N (k0+L.length) (Ks L (f+k0) bs L.length) w'∧Blk w' bl [.slice p L.length c] 140∧w'.ownsRow w.heap.size 134 3 (.slice p L.length c) L.length (rsL L (f+k0) L.length)
theorem plot_layM(B ba b g nn cc:Nat)(pa:O0)(ca f N k0:Nat)(bs:Bl)(bl B2:Nat)(pl:O0)(cl:Nat)(gs:List (Nat×Nat))(L:List (List Int))(w:World)(hC:AlC B ba nn cc ca f N)(hA:Al B ba b g nn cc pa ca f N k0 bs w)(hL:Lists w B2 (.slice pl L.length cl) gs L)(hS:∀ i,i<L.length→Jy (L.getD i [])∧(L.getD i []).length≤960)(hf1:1≤f)(hk:k0+L.length≤N)(kl:Blk w bl [S0] 140)(hBl:B≤bl)(hBw:B≤w.heap.size) :
 C0 158 #[P0 ba,.slice pl L.length cl,.func (.func 163) #[] #[P0 bl]] w (LayPostM B ba b g nn cc pa ca f N k0 bs bl L w):=by
 have d2:=hC.hf
 have d1:=hC.hn
 refine zin 51 Tryz.func158 ?_
 have hB:=Below.refl B w
 refine zl 14 51 (fun zm c3 V=>∃ (i:Nat) (p:O0) (c:Nat),c3=[(0,P0 ba),(2,.func (.func 163) #[] #[P0 bl]),(15,.slice pl L.length cl),(16,V0 (L.length:Int)),(17,V0 (i:Int))]∧zm=L.length-((i:Int)).toNat∧Below B w V∧Fr [ba,g,bl] w V∧Zf [200,5,140,134] w V∧Blk V bl ([.slice p i c]) 140∧Al B ba b g nn cc pa ca f N (k0+i) (Ks L (f+k0) bs i) V∧Lists V B2 (.slice pl L.length cl) gs L∧V.ownsRow w.heap.size 134 3 (.slice p i c) i (rsL L (f+k0) i)∧i≤L.length) ⟨0,none,0,rfl,rfl,hB,(Fr.refl _ _),(Zf.refl _ _),kl,hA,hL,World.ownsRow_nil _ _ _ _,Nat.zero_le _⟩ ?_
 rintro _ _ W1 ⟨i,p,c,rfl,rfl,a4,b0,b1,a1,hA,hL,b3,hi⟩ J1 c4 r1
 refine xid 6 ((i:Int)<(L.length:Int)) (fun d0=>?_) (fun d0=>?_)
 ·refine xx 6 _ L.length i 1 (Lists.elem hL rfl (k:=i) (by omega)).1 ?_
  refine xl 0 ((Lists.elem hL rfl (k:=i) (by omega)).2) ?_
  refine xc 6 (args:=#[.slice (some ⟨(gs.getD i (0,0)).1,0,none⟩) ((L.getD i []).length) ((gs.getD i (0,0)).2)]) (bits_Put _ _ (L.getD i []) _ (hS i (by omega)).1 (hS i (by omega)).2 (Ze (hL.each i (by omega)))) ?_
  rintro _ W3 ⟨_,rfl,a6,g6,rfl,h6⟩
  have b5:=hA.below a6
  have a2:=b1.trans (Zf.of_below a6)
  have b4:=Zd h6 a4.size
  have a7:=blB a4 hBw a6
  refine xc 21 (args:=#[P0 ba,V0 3,.slice (S1 g6) 244 244]) (Ma B ba b g nn cc pa ca f N (k0+i) (Ks L (f+k0) bs i) 3 (S1 g6) 244 (Vw (L.getD i [])) (f+k0+i) 244 _ (Nat.add_assoc _ _ _).symm (Qi _ _) hC b5 (by omega) (by decide) (by decide) (fun W _ a2=>Yk (Ze (Zj b4 a2 (by decide))) (Qi _ _)) (by decide) (Nat.le_trans hBw a7.size)) ?_
  rintro _ W4 ⟨rfl,c7,b2,c5,hA⟩
  have a8:=(hL.below a6).only b2 (by decide)
  refine xr 20 (args:=#[.slice (some ⟨(gs.getD i (0,0)).1,0,none⟩) ((L.getD i []).length) ((gs.getD i (0,0)).2)]) (Zdl _ _ (L.getD i []) _ (hS i (by omega)).2 (Ze (a8.each i (by omega)))) fun W5 a5=>?_
  have d4:Yy (L.getD i [])≤960:=Nat.le_trans (Rn _ _) (hS i (by omega)).2
  have d3:Xq (L.getD i [])≤960:=Nat.le_trans (Sq _) (hS i (by omega)).2
  have a3:=blB (a7.trans c7) hBw a5
  have a0:=((a1.below a6).only b2 (by decide)).below a5
  have a9:=Zb (Zj (Zb b3 a6) b2 (by decide)) a5
  refine xc 13 (args:=#[.agg #[V0 (↑(f+k0+i):Int),V0 (↑(Yy (L.getD i [])):Int),V0 (↑(Xq (L.getD i [])):Int)],P0 bl]) (plot_meta1 B w.heap.size bl p c L (f+k0) i _ hBw a3.size (Nat.le_trans hBw a3.size) hBl a0 a9 (by omega)) ?_
  rintro _ W6 ⟨_,p9,c9,rfl,c8,c1,c2,b3,c6⟩
  refine xwm 4 ((i:Int)+1) (↑(i+1):Int) ?_
  have b6:=(hA.below a5).only c1 (by decide)
  have b9:=(a8.below a5).only c1 (by decide)
  have b7:=a3.trans c8
  have b8:=(Fr.trans_B (((b0.trans (Fr.of_below a6)).trans (c5.mono (by simp))).trans (Fr.of_below a5)) c6 (by simp))
  have c0:=((a2.trans (b2.wide)).trans (Zf.of_below a5)).trans (c1.wide)
  exact ze 2 (c4 _ _ _ ⟨i+1,_,_,rfl,rfl,b7,b8,c0,c2,b6,b9,b3,by omega⟩ (by omega))
 refine xe 11 .nilIface ?_
 obtain rfl:i=L.length:=by omega
 exact⟨_,_,rfl,a4,b1,b0,hA,a1,b3⟩
structure Sin(w W:World):Prop where
 b:Below w.heap.size w W
theorem Sin.below{w W V:World}(h:Sin w W)(hb:B3 W V):Sin w V:=⟨bln h.b hb⟩
theorem Sin.trans{w W V:World}(h:Sin w W)(hb:Below w.heap.size W V):Sin w V:=⟨h.b.trans hb⟩
theorem Sin.upd{w W V:World}{b:Nat}(h:Sin w W)(u:Upd W b V)(hb:w.heap.size≤b):Sin w V:=⟨u.below h.b hb⟩
theorem rs_ok{L:List (List Int)}{q n:Nat}(hS:∀ i,i<L.length→Jy (L.getD i [])∧(L.getD i []).length≤960)(hn:L.length=n)(h1:1≤q)(h2:q+n≤14400)(h3:n≤14):Tq (Rs L q n):=by
 refine⟨by rw[Ag];exact h3,fun i hi=>?_⟩
 rw[Ag] at hi
 rw[Rs_get hi]
 have hc:=(hS i (by omega)).2
 exact⟨by show 1≤q+i;omega,by show q+i≤14399;omega,Nat.le_trans (Rn _ _) hc,Nat.le_trans (Sq _) hc⟩
theorem Zcr(j:Nat)(B ba b g nn cc:Nat)(pa:O0)(ca f N k0:Nat)(bs:Bl)(w:World)(hC:AlC B ba nn cc ca f N)(hA:Al B ba b g nn cc pa ca f N k0 bs w)(hk:k0≤N)(hN:N≤1000000)(hj:j≤1000000)(hjn:j≤N-k0) :
 C0 162 #[P0 ba,V0 (j:Int)] w (Qe (fun w' r=>∃ q c2,r=.slice q j c2∧w'.ownsRow w.heap.size 3 1 (.slice q j c2) j ((((Og f N).drop k0).take j).map V0)) w):=by
 have h:=Zeu B ba b pa N ca k0 j (Og f N) w ⟨hA.blkA,hA.nums,rngJ_len _ _,hC.hB,hN,hk⟩ hj
 rwa [Nat.min_eq_left hjn] at h
theorem Fp(n:Nat)(a:O0)(c:Nat)(l:List Int)(w:World)(hn:l.length=n)(h:Sl w (.slice a n c) n (l.map V0))(hl:n≤65536)(hs:Jk l=0):C0 156 #[.slice a n c] w (fun e w'=>∃ pb cb gs po co,e=.returned (.tuple #[.slice pb (bmN n) cb,.slice po (Zy l n).length co,V0 0])∧B3 w w'∧Lists w' w.heap.size (.slice pb (bmN n) cb) gs (Xp (Zu l) (bmN n))∧w'.ownsRow w.heap.size 132 3 (.slice po (Zy l n).length co) (Zy l n).length ((Zy l n).flatMap Jv)):=by
 subst hn;exact Mm a c l w h hl hs
theorem slots_PutN(n:Nat)(a:O0)(c:Nat)(S:List (Nat×Nat×Nat))(w:World)(hn:S.length=n)(hS:Tq S)(h:Sts rsC w (.slice a S.length c) S):C0 164 #[.slice a n c] w (Qe (fun w' r=>∃ p c,r=.tuple #[.slice p 244 c,V0 0]∧w'.ownsRow w.heap.size 5 1 (.slice p 244 c) 244 ((Dp S).map bv)) w):=by
 subst hn;exact slots_Put a c S w hS h
theorem leB_get{n w i:Nat}(h:i<w):(leB (n:Int) w).getD i 0=UInt8.ofNat (n/256 ^ i):=by simp[leB,Zw,List.getD,List.getElem?_range h]
theorem Cm{a b:Bl}{m w:Nat}(hm:m<256 ^ w):Zg (a++(leB (m:Int) w++b)) a.length w=m:=by
 rw[Gx w a.length m (fun i hi=>?_),Nat.mod_eq_of_lt hm]
 rw[List.getD,List.getElem?_append_right (by omega),List.getElem?_append_left (by rw[Zi];omega),show a.length+i-a.length=i by omega]
 exact leB_get hi
theorem slB_raws{x:Nat×Nat×Nat}(h1:x.1≤14399)(h2:x.2.1≤960)(h3:x.2.2≤960):Fu Xk (slB x)=[x.1,x.2.1,x.2.2]:=by
 have e0:Zg (slB x) 0 8=x.1:=by
  have h:=Cm (a:=[]) (b:=leB (x.2.1:Int) 4++leB (x.2.2:Int) 4) (m:=x.1) (w:=8) (by omega)
  simpa [slB,List.append_assoc] using h
 have e1:Zg (slB x) 8 4=x.2.1:=by
  have h:=Cm (a:=leB (x.1:Int) 8) (b:=leB (x.2.2:Int) 4) (m:=x.2.1) (w:=4) (by omega)
  rw[Zi] at h
  simpa [slB,List.append_assoc] using h
 have e2:Zg (slB x) 12 4=x.2.2:=by
  have h:=Cm (a:=leB (x.1:Int) 8++leB (x.2.1:Int) 4) (b:=[]) (m:=x.2.2) (w:=4) (by omega)
  rw[List.length_append,Zi,Zi] at h
  simpa [slB,List.append_assoc] using h
 show Je (slB x) 0 [8,4,4]=_
 simp only[Je]
 rw[e0,e1,e2]
theorem slB_ok{x:Nat×Nat×Nat}(h0:1≤x.1)(h1:x.1≤14399)(h2:x.2.1≤960)(h3:x.2.2≤960):Ye Xk (slB x)=0:=by
 have hr:Pa Xk (slB x)=true:=by
  unfold Pa
  rw[slB_raws h1 h2 h3,show Xk.length=3 from rfl]
  unfold Pe
  rw[show List.range 3=[0,1,2] from rfl]
  simp[inP,Xk]
  omega
 unfold Ye
 rw[if_pos (by rw[Zfv];rfl),if_pos hr]
theorem slB_val{x:Nat×Nat×Nat}(h0:1≤x.1)(h1:x.1≤14399)(h2:x.2.1≤960)(h3:x.2.2≤960):Yo Xk (slB x)=[x.1,x.2.1,x.2.2]:=by
 unfold Yo
 rw[if_pos (slB_ok h0 h1 h2 h3),slB_raws h1 h2 h3]
theorem Zbp(S:List (Nat×Nat×Nat))(i:Nat):∀ k,∃ t,idxP S (i+k)=idxP S i++t
 | 0=>⟨[],by simp⟩
 | k+1=>by
  obtain⟨t,h⟩:=Zbp S i k
  exact⟨t++slB (S.getD (i+k) rsD),by rw[←Nat.add_assoc,Cq,h,List.append_assoc]⟩
theorem Zd0{S:List (Nat×Nat×Nat)}{i:Nat}(hi:i<S.length):Qy (Dp S) i=slB (S.getD i rsD):=by
 obtain⟨t,h⟩:=Zbp S (i+1) (S.length-(i+1))
 rw[show i+1+(S.length-(i+1))=S.length by omega,Cq] at h
 unfold Qy Dp
 rw[h,List.append_assoc,List.append_assoc,List.drop_left' (Rb S i),List.take_left' (Zfv _)]
theorem idxB_cnt{S:List (Nat×Nat×Nat)}(h:S.length≤15):Zg (Dp S) 0 4=S.length:=by
 obtain⟨t,ht⟩:=Zbp S 0 S.length
 rw[Nat.zero_add] at ht
 have h2:=Cm (a:=[]) (b:=t++List.replicate (244-(4+S.length*16)) 0) (m:=S.length) (w:=4) (by omega)
 unfold Dp
 rw[ht,show idxP S 0=leB (S.length:Int) 4 from by simp[idxP],List.append_assoc]
 simpa using h2
theorem Zc3{S:List (Nat×Nat×Nat)}(h:Tq S):Mz (Dp S)=0∧Mk (Dp S) S.length=S:=by
 have a0:=h.1
 have hv:∀ i,i<S.length→Ye Xk (Qy (Dp S) i)=0∧sltX (Dp S) i=S.getD i rsD:=fun i hi=>by
  obtain⟨h0,h1,h2,h3⟩:=h.2 i hi
  constructor
  ·rw[Zd0 hi];exact slB_ok h0 h1 h2 h3
  ·unfold sltX Qj
   rw[Zd0 hi,slB_val h0 h1 h2 h3]
   rfl
 have hz:Yt ((Dp S).drop (4+S.length*16))=true:=by
  unfold Dp
  rw[List.drop_left' (Rb _ _)]
  exact Dc fun j _=>Bo _ j
 have hs:∀ n,n≤S.length→Pm (Dp S) n=0:=by
  intro n
  induction n with
  | zero=>intro _;rfl
  | succ n ih=>intro hn;exact Cy (ih (by omega)) (hv n (by omega)).1
 constructor
 ·unfold Mz Ls
  rw[idxB_cnt (by omega),hz,decide_eq_true (by omega)]
  exact hs _ (Nat.le_refl _)
 ·apply List.ext_getElem (by rw[Zc0])
  intro i h1 h2
  have:=(hv i h2).2
  rw[show S.getD i rsD=S[i] from by simp[List.getD,h2]] at this
  simp[Mk,this]
theorem Tp{l:List Int}(h:l.length≤960):Zg (Vw l) 0 4=l.length:=by
 have h2:=Cm (a:=[]) (b:=(List.range 240).map (g4B l l.length)) (m:=l.length) (w:=4) (by omega)
 simpa [Vw,Ph] using h2
theorem Zao(l:List Int)(j:Nat):atI l l.length j=l.getD j 0:=by
 unfold atI
 split
 ·rfl
 ·simp[List.getD,Nat.le_of_not_lt (by assumption)]
theorem bitsB_at{l:List Int}(h:Jy l){i:Nat}(hi:i<960):(Ay (Vw l) i:Int)=l.getD i 0:=by
 unfold Ay
 rw[show(Vw l).getD (4+i/4) 0=g4B l l.length (i/4) from Zhj l l.length (by omega)]
 have b0:=Kz h (4*(i/4))
 have b1:=Kz h (4*(i/4)+1)
 have b2:=Kz h (4*(i/4)+2)
 have b3:=Kz h (4*(i/4)+3)
 unfold g4B g4
 rw[Zao,Zao,Zao,Zao,UInt8.toNat_ofNat']
 obtain e|e|e|e:i%4=0∨i%4=1∨i%4=2∨i%4=3:=by omega
 ·rw[show l.getD i 0=l.getD (4*(i/4)) 0 by rw[show 4*(i/4)=i by omega],e,show 2 ^ (0*2)=1 from rfl];omega
 ·rw[show l.getD i 0=l.getD (4*(i/4)+1) 0 by rw[show 4*(i/4)+1=i by omega],e,show 2 ^ (1*2)=4 from rfl];omega
 ·rw[show l.getD i 0=l.getD (4*(i/4)+2) 0 by rw[show 4*(i/4)+2=i by omega],e,show 2 ^ (2*2)=16 from rfl];omega
 ·rw[show l.getD i 0=l.getD (4*(i/4)+3) 0 by rw[show 4*(i/4)+3=i by omega],e,show 2 ^ (3*2)=64 from rfl];omega
theorem bitsB_ok{l:List Int}(h:Jy l)(hl:l.length≤960):Ww (Vw l)=true:=by
 rw[Ga]
 refine⟨Qi _ _,by rw[Tp hl];exact hl,fun i hi hc=>?_⟩
 rw[Tp hl] at hc
 have:=bitsB_at h hi
 rw[show l.getD i 0=0 from by simp[List.getD,hc]] at this
 omega
theorem Zf1{l:Bl}{kind:Int}{k:Nat}{li:Bl}(h1:1≤kind)(h2:kind≤4)(hk:k<l.length/256)(h4:k<14400)(hli:li.length=244)(hb:Yx l k=Xs kind (k:Int) li):inE l kind (k:Int)=0∧inB l (k:Int)=li:=by
 constructor
 ·rw[Zaa rfl rfl hk,hb];exact Zc2 h1 h2 (by omega) (by omega) (by omega)
 ·rw[Oc rfl,hb,in_seal (by omega)];unfold Zd4;rw[hli,Nat.sub_self];simp
def Qh(u n:Nat):List Int:=(List.range n).map fun i=>if i<u then 1 else 0
theorem Xt(u n:Nat):(Qh u n).length=n:=by simp[Qh]
theorem Zde{u n i:Nat}(h:i<n):(Qh u n).getD i 0=if i<u then 1 else 0:=by simp[Qh,List.getD,List.getElem?_range h]
theorem selfL_bd(u n i:Nat):0≤(Qh u n).getD i 0∧(Qh u n).getD i 0≤1:=by
 by_cases h:i<n
 ·rw[Zde h];split<;>omega
 ·rw[show(Qh u n).getD i 0=0 from by simp[Qh,List.getD,Nat.le_of_not_lt h]];omega
theorem Uq(u n k:Nat):Zy (Qh u n) k=[]:=by
 induction k with
 | zero=>rfl
 | succ k ih=>rw[Np (by have:=selfL_bd u n k;omega),ih]
theorem My{u n:Nat}(h:n≤65536):Jk (Qh u n)=0:=by
 unfold Jk
 rw[if_neg (by rw[Xt];omega),if_pos fun k _=>by have:=selfL_bd u n k;unfold Nd;omega]
theorem Cv{u n:Nat}:FreeOk (Qh u n) (u:Int):=fun i hi=>by
 rw[Xt] at hi
 rw[Zde hi]
 constructor
 ·intro h;rw[if_neg (by omega)]
 ·split<;>omega
theorem Zah:Xx 5 0=1:=by
 unfold Xx Uy
 rw[show ovN 0 (Qs 5 true)=1 from by decide,Gm (by decide)]
 rfl
theorem Dd(u n:Nat):Qa (Qh u n)=2+bmN n:=by
 unfold Qa
 rw[Uq,List.length_nil,Zah,Xt];omega
theorem self_make(n:Nat):Hy (Value.int .i64 0).cells.toList n=(Qh 0 n).map V0:=by
 rw[show Hy (Value.int .i64 0).cells.toList n=List.replicate n (V0 0) from by
  rw[show(Value.int .i64 0).cells.toList=[Value.int .i64 0] from rfl,Hy]
  induction n with
  | zero=>rfl
  | succ n ih=>rw[List.replicate_succ,List.flatten_cons,ih];rfl]
 apply List.ext_getElem (by simp[Qh])
 intro i h1 h2
 simp[Qh]
theorem self_set{i n:Nat}(h:i<n):((Qh i n).map V0).set i (V0 1)=(Qh (i+1) n).map V0:=by
 apply List.ext_getElem?
 intro j
 by_cases hj:j<n
 ·by_cases e:i=j
  ·subst e
   rw[List.getElem?_set_self (by simp[Qh];exact h)]
   simp[Qh,List.getElem?_range h]
  ·rw[List.getElem?_set_ne e]
   simp only[Qh,List.getElem?_map,List.getElem?_range hj,Option.map_some]
   by_cases q:j<i
   ·rw[if_pos q,if_pos (by omega)]
   ·rw[if_neg q,if_neg (by omega)]
 ·rw[List.getElem?_eq_none (by simp[Qh];omega),List.getElem?_eq_none (by simp[Qh];omega)]
end Go.Proofs.YtceeiinepijokaaGreatDoor
