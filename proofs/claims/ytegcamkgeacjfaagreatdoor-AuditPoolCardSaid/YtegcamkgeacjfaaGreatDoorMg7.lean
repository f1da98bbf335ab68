/- Package audit: Pool. -/
import Derived.Test.YtegcamkgeacjfaaGreatDoorMg6
namespace Go.Proofs.YtegcamkgeacjfaaGreatDoor
set_option maxHeartbeats 8000000
set_option maxRecDepth 100000
open Go.RowKit Go.Extern.Stop Go.Stop Go.Extern
set_option linter.unusedVariables false
attribute [local irreducible] wpList wpAnyH Code.wp Oper.wp Go
noncomputable def audX (l:Bl) (s:Sup) (fuel:Int):List Dg×List Dv:=audO l s fuel (Classical.choose (Zbi (Zd l s.details 3 fuel).es (Zd l s.top 1 fuel).es))
theorem Ju{l:Bl}{s:Sup}{fuel:Int}{P:List Int}(h:Rv (Zd l s.details 3 fuel).es (Zd l s.top 1 fuel).es P):audX l s fuel=audO l s fuel P:=by
 unfold audX
 rw[(Classical.choose_spec (Zbi (Zd l s.details 3 fuel).es (Zd l s.top 1 fuel).es)).eq h]
theorem Fm{l:Bl}{s:Sup}{fuel:Int}(h:Xs l s fuel≠[]):audX l s fuel=(Xs l s fuel,[]):=Ze4 h
theorem Rx{l:Bl}{s:Sup}{fuel:Int}{P:List Int}(h:Xs l s fuel=[])(h2:Ye l s.data fuel (Zd l s.details 3 fuel).es (Zd l s.top 1 fuel).es P≠[]):audO l s fuel P=(Ye l s.data fuel (Zd l s.details 3 fuel).es (Zd l s.top 1 fuel).es P,[]):=by
 unfold audO;rw[if_neg (fun q=>q h),if_pos h2]
theorem Pv{l:Bl}{s:Sup}{fuel:Int}{P:List Int}(h:Xs l s fuel=[])(h2:Ye l s.data fuel (Zd l s.details 3 fuel).es (Zd l s.top 1 fuel).es P=[])(h3:4096<(Vi l s.data fuel (Zd l s.details 3 fuel).es (Zd l s.top 1 fuel).es P).length∨16384<Kt (Vi l s.data fuel (Zd l s.details 3 fuel).es (Zd l s.top 1 fuel).es P)):audO l s fuel P=([((4:Int),(0:Int),(2:Int))],[]):=by
 unfold audO;rw[if_neg (fun q=>q h),if_neg (fun q=>q h2),if_pos h3]
theorem Ot{l:Bl}{s:Sup}{fuel:Int}{P:List Int}(h:Xs l s fuel=[])(h2:Ye l s.data fuel (Zd l s.details 3 fuel).es (Zd l s.top 1 fuel).es P=[])(h3:¬ (4096<(Vi l s.data fuel (Zd l s.details 3 fuel).es (Zd l s.top 1 fuel).es P).length∨16384<Kt (Vi l s.data fuel (Zd l s.details 3 fuel).es (Zd l s.top 1 fuel).es P))):audO l s fuel P=([],Vi l s.data fuel (Zd l s.details 3 fuel).es (Zd l s.top 1 fuel).es P):=by
 unfold audO;rw[if_neg (fun q=>q h),if_neg (fun q=>q h2),if_neg h3]
def Ut(O:List Dg×List Dv)(s:Sup)(w:World)(e:Ending)(w':World):Prop :=
 (O.1≠[]∧∃ q d,e=.returned (.tuple #[.agg #[V0 0,V0 0,V0 0,V0 0,S0],.slice q O.1.length d])∧B0 w w'∧w'.ownsRow w.heap.size 100 3 (.slice q O.1.length d) O.1.length (O.1.flatMap dmc)) ∨
 (O.1=[]∧∃ p c Z,e=.returned (.tuple #[.agg #[V0 s.tx,V0 s.time,V0 s.unit,V0 s.data,.slice p O.2.length c],S0])∧B0 w w'∧Wg ([],0,O.2) w' p c Z)
theorem Kq{O:List Dg×List Dv}{D D':List Dg}{s:Sup}{n d:Nat}{q:O0}{w W:World}(h:O=(D,[]))(hD:D≠[])(he:D'=D)(hn:D'.length=n)(hb:B0 w W)(ho:W.ownsRow w.heap.size 100 3 (.slice q n d) n (D'.flatMap dmc)):Ut O s w (.returned (.tuple #[.agg #[V0 0,V0 0,V0 0,V0 0,S0],.slice q n d])) W:=by
 subst h he hn;exact .inl ⟨hD,q,d,rfl,hb,ho⟩
theorem Oi{O:List Dg×List Dv}{L:List Dv}{Z:List Zv}{s:Sup}{n c:Nat}{p:O0}{w W:World}(h:O=([],L))(hZ:Z.map Prod.fst=L)(hn:Z.length=n)(hb:B0 w W)(hM:Yj w.heap.size W Z)(ho:W.ownsRow w.heap.size 61 5 (.slice p n c) n (Z.flatMap Lg)):Ut O s w (.returned (.tuple #[.agg #[V0 s.tx,V0 s.time,V0 s.unit,V0 s.data,.slice p n c],S0])) W:=by
 subst h
 have hl:L.length=n:=by rw[←hZ,List.length_map,hn]
 subst hl
 exact .inr ⟨rfl,p,c,Z,rfl,hb,devsQ_of hZ hM ho⟩
theorem Ae{l:Bl}{s:Sup}{fuel:Int}(h:Xs l s fuel=[]):(∀ x∈(Zd l s.details 3 fuel).es,Wi x=0)∧(∀ x∈(Zd l s.top 1 fuel).es,Xo x.2.1=0):=by
 unfold Xs at h
 rw[List.append_eq_nil_iff,List.append_eq_nil_iff,List.append_eq_nil_iff] at h
 obtain⟨⟨⟨_,h2⟩,_⟩,h4⟩:=h
 refine⟨fun x hx=>?_,?_⟩
 ·unfold Yy at h2
  rw[List.flatMap_eq_nil_iff] at h2
  have:=h2 x hx
  unfold Tw at this
  split at this
  ·assumption
  ·cases this
 ·generalize ([]:List Int)=seen at h4
  generalize (Zd l s.top 1 fuel).es=T at h4
  induction T generalizing seen with
  | nil=>intro x hx;cases hx
  | cons y T ih =>
   change Lj l s.data fuel seen y++Gx l s.data fuel T (Dx seen y)=[] at h4
   rw[List.append_eq_nil_iff] at h4
   intro x hx
   rcases List.mem_cons.1 hx with rfl|hx
   ·have:=h4.1
    unfold Lj at this
    split at this
    ·assumption
    ·cases this
   ·exact ih _ h4.2 x hx
theorem detK_all{L:List Ent}(h:∀ x∈L,Wi x=0):Oz L=L.map fun x=>(x.1,Hc x):=by
 induction L with
 | nil=>rfl
 | cons x L ih =>
  show Zd5 x++Oz L=_
  rw[Zbl (h x List.mem_cons_self),ih fun y hy=>h y (List.mem_cons_of_mem _ hy)];rfl
theorem rootK_all{L:List Ent}(h:∀ x∈L,Xo x.2.1=0):Nn L=L.map fun x=>(x.1,V0 ((Zo x.2.1:Nat):Int)):=by
 induction L with
 | nil=>rfl
 | cons x L ih =>
  show Fx x++Nn L=_
  rw[Iq (h x List.mem_cons_self),ih fun y hy=>h y (List.mem_cons_of_mem _ hy)];rfl
theorem Rf(l:Bl)(s:Sup)(fuel:Int)(hf:fuel≤1000):(Xs l s fuel).length≤400000000:=by
 have h1:=Yp l s.details 3 fuel hf
 have h2:=Yp l s.top 1 fuel hf
 have h3:=Lw (Zd l s.details 3 fuel).es
 have h4:=Bb l s.data fuel hf (Zd l s.top 1 fuel).es []
 have h5:18001*(Zd l s.top 1 fuel).es.length≤18001*18001:=Nat.mul_le_mul_left _ (by omega)
 unfold Xs
 simp only[List.length_append,List.length_map];omega
theorem NewMV.ne{w W:World}{r r2:Nat}{kv:List (Int×Value)}(h:NewMV V0 w r2 W)(m:Kn V0 w r kv):r≠r2:=by have:=m.lt;have:=h.at_;omega
theorem wsum_few{L:List Dv}{n:Nat}(h:∀ d∈L,d.2.length≤n)(h2:L.length*n≤1000000000000):wsum L=(Kt L:Int):=by
 have h3:Kt L≤L.length*n:=by
  clear h2
  unfold Kt
  induction L with
  | nil=>simp
  | cons d L ih =>
   have:=h d List.mem_cons_self
   have:=ih fun x hx=>h x (List.mem_cons_of_mem _ hx)
   simp only[List.map_cons,List.sum_cons,List.length_cons,Nat.add_mul];omega
 unfold wsum
 exact IntWalk.i64_in _ (by omega)
theorem Zcg{l:Bl}{data fuel:Int}{D T:List Ent}{P:List Int}(hf:fuel≤1000):∀ d∈Vi l data fuel D T P,d.2.length≤18001:=fun d hd=>by
 obtain⟨x,_,h⟩:=List.mem_flatMap.1 hd
 unfold Zer at h
 split at h
 ·obtain rfl:=List.mem_singleton.1 h
  exact Zbt _ _ _ _ hf
 ·cases h
theorem Zd4(Bi b:Nat)(pi:O0)(ni ci:Nat)(l:Bl)(s:Sup)(fuel:Int)(w:World)(hI:ImgR Bi b pi ni ci l w)(hfu:fuel≤1000)(hg:Sm w) :
 C0 19 #[P0 b,.agg #[V0 s.tx,V0 s.time,V0 s.unit,V0 s.data,V0 s.blocks,V0 s.top,V0 s.details,V0 s.dslots,V0 s.dover,V0 s.mindex,V0 s.mover],V0 fuel] w (Ut (audX l s fuel) s w):=by
 have q0:=Rf l s fuel hfu
 refine zin 77 Tryz.func19 ?_
 refine xa 2 [V0 s.tx,V0 s.time,V0 s.unit,V0 s.data,V0 s.blocks,V0 s.top,V0 s.details,V0 s.dslots,V0 s.dover,V0 s.mindex,V0 s.mover] 44 fun b1 W1 n1=>?_
 refine xa 0 [V0 0,V0 0,V0 0,V0 0,S0] 24 fun b2 W2 n2=>?_
 have k1:=n1.blk.below n2.below
 refine xlv 6 k1.rp ?_
 refine xmmV V0 1 108 fun r3 W3 m3=>?_
 have hB:=bln n1.below n2.below
 have p0:=m3.ge hB
 refine xmmV V0 0 109 fun r4 W4 m4=>?_
 have n8:=m4.ne m3.map
 have h3:=bln hB m3.below
 have n4:=m4.ge h3
 refine xmmV V0 0 110 fun r5 W5 m5=>?_
 have c8:=m3.map.below m4.below
 have o6:=m5.ne c8
 have o2:=m5.ne m4.map
 have f0:=bln h3 m4.below
 have p9:=m5.ge f0
 refine xa 1 [S0,P0 b,V0 s.tx,V0 s.time,V0 s.unit,V0 s.data,V0 s.blocks,V0 s.top,V0 s.details,V0 s.dslots,V0 s.dover,V0 s.mindex,V0 s.mover,V0 fuel,.map (some r3),.map (some r4),.map (some r5)] 114 fun b6 W6 n6=>?_
 have f7:=bln f0 m5.below
 have g6:=n6.ge f7
 have f6:=(c8.below m5.below).below n6.below
 have h6:=(m4.map.below m5.below).below n6.below
 have m2:=m5.map.below n6.below
 have hM:Maps3 w.heap.size r3 r4 r5 [] [] [] _:=⟨f6,h6,m2,n8,o6,o2,p0,n4,p9⟩
 have f9:=(((((hI.below n1.below).below n2.below).below m3.below).below m4.below).below m5.below).below n6.below
 have e9:=g6
 have d8:=bln f7 n6.below
 refine xc 6 (args:=#[P0 b6]) (Ej w.heap.size b6 none 0 [] r3 r4 r5 _ _ pi ni ci Bi b l s fuel _ n6.blk (World.ownsRow_nil _ _ _ _) hM f9 hfu (fun W hb=>hg.below (Below.trans d8 hb)) e9 d8.size (by simp)) ?_
 rintro _ W7 ⟨⟨u7,rfl⟩,p1,c1,n0,i8,l7,l6,hM⟩
 rw[List.nil_append] at l7 l6
 have l3:=f9.only i8 (by decide)
 have d2:=d8.trans n0
 refine xc 5 (args:=#[P0 b6]) (Ol w.heap.size b6 p1 c1 ((Zd l s.details 3 fuel).fs.map (Xk 2)++Yy (Zd l s.details 3 fuel).es) r3 r4 r5 _ pi ni ci Bi b l s fuel _ l7 l6 hM l3 hfu (fun W hb=>hg.below (Below.trans d2 hb)) e9 d2.size (by have:=Yp l s.details 3 fuel hfu;have:=Lw (Zd l s.details 3 fuel).es;rw[List.length_append,List.length_map];omega)) ?_
 rintro _ W8 ⟨u8,km,rfl,⟨p2,c2,o7,l5,m0,i6,hM⟩,hR,o8⟩
 change Blk _ _ (.slice p2 (Xs l s fuel).length c2::_) _ at m0
 change World.ownsRow _ _ _ 3 (.slice p2 (Xs l s fuel).length c2) (Xs l s fuel).length ((Xs l s fuel).flatMap dmc) at i6
 have b7:=(((((k1.below m3.below).below m4.below).below m5.below).below n6.below).only i8 (by decide)).only l5 (by decide)
 refine xb 5 0 b7 ?_
 refine xb 1 1 b7 ?_
 refine xb 1 2 b7 ?_
 refine xb 1 3 b7 ?_
 refine xa 1 [V0 0,V0 0,V0 0,V0 0,S0] 24 fun b9 W9 n9=>?_
 have k2:=(((((n2.blk.below m3.below).below m4.below).below m5.below).below n6.below).only i8 (by decide)).only l5 (by decide)
 have a0:=n9.ne k2
 have b8:=d2.trans o7
 have g9:=n9.ge b8
 refine xsv 0 n9.blk [V0 s.tx,V0 s.time,V0 s.unit,V0 s.data,S0] fun i3 a6 m1=>?_
 have a7:=a6.blkT (m0.below n9.below) n9.blk (by decide)
 refine xb 9 0 a7 ?_
 refine xie 4 (↑((Xs l s fuel).length):Int) (0:Int) (fun b5=>?_) (fun b5=>?_)
 ·have a8:(Xs l s fuel)=[]:=List.eq_nil_of_length_eq_zero (by omega)
  have k8:=Ae a8
  have l2:=(hM.below n9.below).updBlk a6 n9.blk
  have l8:=l2
  rw[detK_all k8.1,rootK_all k8.2] at l8
  have o1:=Yp l s.details 3 fuel hfu
  have m9:=Yp l s.top 1 fuel hfu
  have e4:=a6.own2 (Zb i6 n9.below) n9.blk (by decide)
  have j2:=(hR.below n9.below).only (Ze.of_upd (T:=[24]) a6 n9.blk (by decide)) (by decide)
  have e5:=a6.below (bln b8 n9.below) g9
  refine xc 2 (args:=#[P0 b6]) (Cc w.heap.size b6 p2 c2 (Xs l s fuel) r3 r4 r5 km pi ni ci Bi b l s fuel (Zd l s.details 3 fuel).es (Zd l s.top 1 fuel).es _ a7 e4 l8 j2 (fun y hy=>by rw[o8,Tu];exact⟨y,hy,k8.2 y hy,rfl⟩) hfu e9 e5.size (by rw[a8];simp) (by omega) (by omega)) ?_
  rintro _ q8 ⟨P,q3,d3,Z,hP,rfl,⟨p3,c3,j4,a5,p5,i9,hM⟩,hZ,j1,l1⟩
  have b0:=e5.trans j4
  have e3:=(a6.below (bln b8 n9.below) g9).size
  have q5:=b0.size
  replace l1:=Zg l1 e3
  replace j1:=j1.mono e3
  have o0:=congrArg List.length hZ
  rw[List.length_map] at o0
  have r7:=Lu l s.data fuel (Zd l s.details 3 fuel).es (Zd l s.top 1 fuel).es P
  have s3:=Bg l s.data fuel (Zd l s.details 3 fuel).es (Zd l s.top 1 fuel).es P
  have q4:=Zhk hP
  have n7:wsum (Z.map Prod.fst)=(Kt (Z.map Prod.fst):Int):=wsum_few (n:=18001) (by rw[hZ];exact Zcg hfu) (by rw[List.length_map];have:Z.length*18001≤36002*18001:=Nat.mul_le_mul_right _ (by omega);omega)
  have a2:=m1.only a5 (by decide)
  refine xs 1 a2 [V0 s.tx,V0 s.time,V0 s.unit,V0 s.data,.slice q3 Z.length d3] fun i1 a3 d9=>?_
  have a4:=a3.blkT p5 a2 (by decide)
  refine xb 9 0 a4 ?_
  refine xg 3 [47,48] ((↑(((Xs l s fuel)++Ye l s.data fuel (Zd l s.details 3 fuel).es (Zd l s.top 1 fuel).es P).length):Int)==(0:Int)) (fun a9=>?_) (fun a9=>?_)
  ·have a9:=eq_of_beq a9
   have p6:((Xs l s fuel)++Ye l s.data fuel (Zd l s.details 3 fuel).es (Zd l s.top 1 fuel).es P).length=(Ye l s.data fuel (Zd l s.details 3 fuel).es (Zd l s.top 1 fuel).es P).length:=by rw[a8];rfl
   have b4:Ye l s.data fuel (Zd l s.details 3 fuel).es (Zd l s.top 1 fuel).es P=[]:=List.eq_nil_of_length_eq_zero (by omega)
   refine xb 1 4 d9 ?_
   refine xg 3 [52,53] (decide ((Z.length:Int)>(4096:Int))) (fun b3=>?_) (fun b3=>?_)
   ·have b3:=of_decide_eq_true b3
    have g8:=a3.own2 i9 a2 (by decide)
    have k7:=hM.updBlk a3 a2
    have f3:=a3.below b0 g9
    refine xc 12 (args:=#[P0 b6,V0 4,V0 0,V0 2]) (Xy w.heap.size b6 _ _ ((Xs l s fuel)++Ye l s.data fuel (Zd l s.details 3 fuel).es (Zd l s.top 1 fuel).es P) r3 r4 r5 _ _ _ _ _ _ _ _ _ _ _ _ _ _ _ _ _ _ _ 4 0 2 _ (by decide) a4 g8 k7 e9 f3.size (by omega)) ?_
    rintro _ i0 ⟨rfl,p4,c4,j6,d4,e2,k5,hM⟩
    refine xb 9 0 e2 ?_
    refine xid 4 ((↑((((Xs l s fuel)++Ye l s.data fuel (Zd l s.details 3 fuel).es (Zd l s.top 1 fuel).es P)++[((4:Int),(0:Int),(2:Int))]).length):Int)>(0:Int)) (fun k6=>?_) (fun k6=>?_)
    ·refine xd 1 (.t w.heap.size [24]) ?_
     have f4:=e2.below (Za i0)
     refine xbt (.e [0,1,2,3,4] 5) 0 w.heap.size [24] f4 ?_
     have d1:=((a3.blk ((a6.blk (k2.below n9.below) (Ne.symm (Ne.symm a0))).only a5 (by decide)) (Ne.symm (Ne.symm a0))).only d4 (by decide)).below (Za i0)
     have g2:=n2.ge n1.below
     refine ysv (.o [] 6) d1 [V0 0,V0 0,V0 0,V0 0,S0] (.t w.heap.size [24]) fun r8 j0 m8=>⟨(Zp j0 d1 g2 (by decide)),?_⟩
     have f2:=j0.own2 (Zb k5 (Za i0)) d1 (by decide)
     have e7:=j0.below (bln (f3.trans j6) (Za i0)) g2
     exact xec (.r [7] 4) m8 (.tuple #[.agg #[V0 0,V0 0,V0 0,V0 0,S0],.slice p4 ((((Xs l s fuel)++Ye l s.data fuel (Zd l s.details 3 fuel).es (Zd l s.top 1 fuel).es P)++[((4:Int),(0:Int),(2:Int))]).length) c4]) (Kq ((Ju hP).trans (Pv a8 b4 (by rw[←hZ,List.length_map];omega))) (by simp) (by rw[a8,b4];rfl) rfl e7 f2)
    have e0:=d9.only d4 (by decide)
    refine xlv 4 e0.rp ?_
    have i5:=(a3.blk ((a6.blk (k2.below n9.below) (Ne.symm (Ne.symm a0))).only a5 (by decide)) (Ne.symm (Ne.symm a0))).only d4 (by decide)
    refine xsv 0 i5 [V0 s.tx,V0 s.time,V0 s.unit,V0 s.data,.slice q3 Z.length d3] fun s1 r9 m6=>?_
    have g2:=n2.ge n1.below
    refine xec 4 m6 (.tuple #[.agg #[V0 s.tx,V0 s.time,V0 s.unit,V0 s.data,.slice q3 Z.length d3],S0]) ?_
    exfalso;have h9:(((Xs l s fuel)++Ye l s.data fuel (Zd l s.details 3 fuel).es (Zd l s.top 1 fuel).es P)++[((4:Int),(0:Int),(2:Int))]).length=((Xs l s fuel)++Ye l s.data fuel (Zd l s.details 3 fuel).es (Zd l s.top 1 fuel).es P).length+1:=List.length_append (bs:=[_]);omega
   have b3:=of_decide_eq_false b3
   refine xlv 0 d9.rp ?_
   have c6:=j1.only (Ze.of_upd (T:=[24]) a3 a2 (by decide)) (by decide)
   have c5:=a3.own2 l1 a2 (by decide)
   refine xr 0 (args:=#[.agg #[V0 s.tx,V0 s.time,V0 s.unit,V0 s.data,.slice q3 Z.length d3]]) ((Zcz q3 d3 _ s.tx s.time s.unit s.data Z _ rfl (Tt c6 c5)).mono (fun e W q=>(by rw[n7] at q;exact q))) fun l9 a1=>?_
   refine xid 5 ((↑(Kt (Z.map Prod.fst)):Int)>(16384:Int)) (fun l4=>?_) (fun l4=>?_)
   ·have g0:=Zb (a3.own2 i9 a2 (by decide)) a1
    have i4:=(hM.updBlk a3 a2).below a1
    have e8:=a4.below a1
    have c7:=bln (a3.below b0 g9) a1
    refine xc 4 (args:=#[P0 b6,V0 4,V0 0,V0 2]) (Xy w.heap.size b6 _ _ ((Xs l s fuel)++Ye l s.data fuel (Zd l s.details 3 fuel).es (Zd l s.top 1 fuel).es P) r3 r4 r5 _ _ _ _ _ _ _ _ _ _ _ _ _ _ _ _ _ _ _ 4 0 2 _ (by decide) e8 g0 i4 e9 c7.size (by omega)) ?_
    rintro _ i2 ⟨rfl,p4,c4,l0,d7,e2,k5,hM⟩
    refine xb 9 0 e2 ?_
    refine xid 4 ((↑((((Xs l s fuel)++Ye l s.data fuel (Zd l s.details 3 fuel).es (Zd l s.top 1 fuel).es P)++[((4:Int),(0:Int),(2:Int))]).length):Int)>(0:Int)) (fun j8=>?_) (fun j8=>?_)
    ·refine xd 1 (.t w.heap.size [24]) ?_
     have e6:=e2.below (Za i2)
     refine xbt (.e [0,1,2,3,4] 5) 0 w.heap.size [24] e6 ?_
     have d5:=(((a3.blk ((a6.blk (k2.below n9.below) (Ne.symm (Ne.symm a0))).only a5 (by decide)) (Ne.symm (Ne.symm a0))).below a1).only d7 (by decide)).below (Za i2)
     have g2:=n2.ge n1.below
     refine ysv (.o [] 6) d5 [V0 0,V0 0,V0 0,V0 0,S0] (.t w.heap.size [24]) fun q6 i7 o9=>⟨(Zp i7 d5 g2 (by decide)),?_⟩
     have h4:=i7.own2 (Zb k5 (Za i2)) d5 (by decide)
     have h5:=i7.below (bln (c7.trans l0) (Za i2)) g2
     exact xec (.r [7] 4) o9 (.tuple #[.agg #[V0 0,V0 0,V0 0,V0 0,S0],.slice p4 ((((Xs l s fuel)++Ye l s.data fuel (Zd l s.details 3 fuel).es (Zd l s.top 1 fuel).es P)++[((4:Int),(0:Int),(2:Int))]).length) c4]) (Kq ((Ju hP).trans (Pv a8 b4 (by rw[←hZ,List.length_map];omega))) (by simp) (by rw[a8,b4];rfl) rfl h5 h4)
    have g7:=(d9.below a1).only d7 (by decide)
    refine xlv 4 g7.rp ?_
    have k9:=((a3.blk ((a6.blk (k2.below n9.below) (Ne.symm (Ne.symm a0))).only a5 (by decide)) (Ne.symm (Ne.symm a0))).below a1).only d7 (by decide)
    refine xsv 0 k9 [V0 s.tx,V0 s.time,V0 s.unit,V0 s.data,.slice q3 Z.length d3] fun r2 q1 o5=>?_
    have g2:=n2.ge n1.below
    refine xec 4 o5 (.tuple #[.agg #[V0 s.tx,V0 s.time,V0 s.unit,V0 s.data,.slice q3 Z.length d3],S0]) ?_
    exfalso;have h9:(((Xs l s fuel)++Ye l s.data fuel (Zd l s.details 3 fuel).es (Zd l s.top 1 fuel).es P)++[((4:Int),(0:Int),(2:Int))]).length=((Xs l s fuel)++Ye l s.data fuel (Zd l s.details 3 fuel).es (Zd l s.top 1 fuel).es P).length+1:=List.length_append (bs:=[_]);omega
   have c0:=a4.below a1
   refine xb 9 0 c0 ?_
   refine xid 4 ((↑(((Xs l s fuel)++Ye l s.data fuel (Zd l s.details 3 fuel).es (Zd l s.top 1 fuel).es P).length):Int)>(0:Int)) (fun j3=>?_) (fun j3=>?_)
   ·refine xd 1 (.t w.heap.size [24]) ?_
    have h2:=c0.below (Za l9)
    refine xbt (.e [0,1,2,3,4] 5) 0 w.heap.size [24] h2 ?_
    have g5:=((a3.blk ((a6.blk (k2.below n9.below) (Ne.symm (Ne.symm a0))).only a5 (by decide)) (Ne.symm (Ne.symm a0))).below a1).below (Za l9)
    have g2:=n2.ge n1.below
    refine ysv (.o [] 6) g5 [V0 0,V0 0,V0 0,V0 0,S0] (.t w.heap.size [24]) fun r0 n3 o3=>⟨(Zp n3 g5 g2 (by decide)),?_⟩
    refine xec (.r [7] 4) o3 (.tuple #[.agg #[V0 0,V0 0,V0 0,V0 0,S0],.slice p3 (((Xs l s fuel)++Ye l s.data fuel (Zd l s.details 3 fuel).es (Zd l s.top 1 fuel).es P).length) c3]) ?_
    exfalso;have h9:=congrArg List.length b4;simp only[List.length_nil] at h9;omega
   have g4:=d9.below a1
   refine xlv 4 g4.rp ?_
   have d0:=(a3.blk ((a6.blk (k2.below n9.below) (Ne.symm (Ne.symm a0))).only a5 (by decide)) (Ne.symm (Ne.symm a0))).below a1
   refine xsv 0 d0 [V0 s.tx,V0 s.time,V0 s.unit,V0 s.data,.slice q3 Z.length d3] fun q2 k3 m7=>?_
   have g2:=n2.ge n1.below
   have h7:=(c6.below a1).only (Ze.of_upd (T:=[24]) k3 d0 (by decide)) (by decide)
   have h1:=k3.own2 (Zb c5 a1) d0 (by decide)
   have e1:=k3.below (bln (a3.below b0 g9) a1) g2
   exact xec 4 m7 (.tuple #[.agg #[V0 s.tx,V0 s.time,V0 s.unit,V0 s.data,.slice q3 Z.length d3],S0]) (Oi ((Ju hP).trans (Ot a8 b4 (by rw[←hZ,List.length_map];omega))) hZ rfl e1 h7 h1)
  have a9:=Xl a9
  have p6:((Xs l s fuel)++Ye l s.data fuel (Zd l s.details 3 fuel).es (Zd l s.top 1 fuel).es P).length=(Ye l s.data fuel (Zd l s.details 3 fuel).es (Zd l s.top 1 fuel).es P).length:=by rw[a8];rfl
  have b4:Ye l s.data fuel (Zd l s.details 3 fuel).es (Zd l s.top 1 fuel).es P≠[]:=fun q=>by have h9:=congrArg List.length q;simp only[List.length_nil] at h9;omega
  refine xb 22 0 a4 ?_
  refine xid 4 ((↑(((Xs l s fuel)++Ye l s.data fuel (Zd l s.details 3 fuel).es (Zd l s.top 1 fuel).es P).length):Int)>(0:Int)) (fun k0=>?_) (fun k0=>?_)
  ·refine xd 1 (.t w.heap.size [24]) ?_
   have f5:=a4.below (Za i1)
   refine xbt (.e [0,1,2,3,4] 5) 0 w.heap.size [24] f5 ?_
   have d6:=(a3.blk ((a6.blk (k2.below n9.below) (Ne.symm (Ne.symm a0))).only a5 (by decide)) (Ne.symm (Ne.symm a0))).below (Za i1)
   have g2:=n2.ge n1.below
   refine ysv (.o [] 6) d6 [V0 0,V0 0,V0 0,V0 0,S0] (.t w.heap.size [24]) fun q9 j9 p8=>⟨(Zp j9 d6 g2 (by decide)),?_⟩
   have h8:=j9.own2 (Zb (a3.own2 i9 a2 (by decide)) (Za i1)) d6 (by decide)
   have h0:=j9.below (bln (a3.below b0 g9) (Za i1)) g2
   exact xec (.r [7] 4) p8 (.tuple #[.agg #[V0 0,V0 0,V0 0,V0 0,S0],.slice p3 (((Xs l s fuel)++Ye l s.data fuel (Zd l s.details 3 fuel).es (Zd l s.top 1 fuel).es P).length) c3]) (Kq ((Ju hP).trans (Rx a8 b4)) b4 (by rw[a8];rfl) rfl h0 h8)
  refine xlv 4 d9.rp ?_
  have j5:=a3.blk ((a6.blk (k2.below n9.below) (Ne.symm (Ne.symm a0))).only a5 (by decide)) (Ne.symm (Ne.symm a0))
  refine xsv 0 j5 [V0 s.tx,V0 s.time,V0 s.unit,V0 s.data,.slice q3 Z.length d3] fun q7 s0 p7=>?_
  have g2:=n2.ge n1.below
  refine xec 4 p7 (.tuple #[.agg #[V0 s.tx,V0 s.time,V0 s.unit,V0 s.data,.slice q3 Z.length d3],S0]) ?_
  exfalso;have h9:=List.length_pos_iff.2 b4;omega
 have a8:(Xs l s fuel)≠[]:=fun q=>by rw[q] at b5;exact b5 rfl
 refine xb 9 0 a7 ?_
 refine xgk 3 [37,47,48] (show(((↑((Xs l s fuel).length):Int)==(0:Int)):Bool)=false from(beq_false_of_ne b5)) ?_
 refine xb 22 0 a7 ?_
 refine xid 4 ((↑((Xs l s fuel).length):Int)>(0:Int)) (fun j7=>?_) (fun j7=>?_)
 ·refine xd 1 (.t w.heap.size [24]) ?_
  have f8:=a7.below (Za i3)
  refine xbt (.e [0,1,2,3,4] 5) 0 w.heap.size [24] f8 ?_
  have c9:=(a6.blk (k2.below n9.below) (Ne.symm (Ne.symm a0))).below (Za i3)
  have g2:=n2.ge n1.below
  refine ysv (.o [] 6) c9 [V0 0,V0 0,V0 0,V0 0,S0] (.t w.heap.size [24]) fun s2 k4 o4=>⟨(Zp k4 c9 g2 (by decide)),?_⟩
  have g3:=k4.own2 (Zb (a6.own2 (Zb i6 n9.below) n9.blk (by decide)) (Za i3)) c9 (by decide)
  have f1:=k4.below (bln (a6.below (bln b8 n9.below) g9) (Za i3)) g2
  exact xec (.r [7] 4) o4 (.tuple #[.agg #[V0 0,V0 0,V0 0,V0 0,S0],.slice p2 ((Xs l s fuel).length) c2]) (Kq (Fm a8) a8 rfl rfl f1 g3)
 refine xlv 4 m1.rp ?_
 have g1:=a6.blk (k2.below n9.below) (Ne.symm (Ne.symm a0))
 refine xsv 0 g1 [V0 s.tx,V0 s.time,V0 s.unit,V0 s.data,S0] fun r1 r6 n5=>?_
 have g2:=n2.ge n1.below
 refine xec 4 n5 (.tuple #[.agg #[V0 s.tx,V0 s.time,V0 s.unit,V0 s.data,S0],S0]) ?_
 exfalso;have h9:=List.length_pos_iff.2 a8;omega
def FsR (B:Nat)(W:World)(fv:List Ft):Prop:=∀ f∈fv,Qr B W f.fa f.fc f.bl
theorem FsR.below{B:Nat}{w W:World}{fv:List Ft}(h:FsR B w fv)(hb:B0 w W):FsR B W fv:=fun f hf=>(h f hf).below hb
theorem FsR.only{B:Nat}{w W:World}{fv:List Ft}{T:List TypeId}(h:FsR B w fv)(k:Ze T w W)(hT:T.contains 3=false):FsR B W fv:=fun f hf=>(h f hf).only k hT
theorem FsR.mono{B C:Nat}{w:World}{fv:List Ft}(h:FsR B w fv)(hB:C≤B):FsR C w fv:=fun f hf=>Zg (h f hf) hB
theorem Ga(B bm:Nat)(p:O0)(k c:Nat)(l:Bl)(root tree fuel:Int)(w:World)(hI:RefI B bm p k c l w)(hfu:fuel≤1000) :
 C0 54 #[P0 bm,V0 root,V0 tree,V0 fuel] w (fun e w'=>∃ (pe pb pf:O0) (ce cb cf:Nat) (fv:List Ft),e=.returned (.agg #[.slice pe (Zd l root tree fuel).es.length ce,.slice pb (Zd l root tree fuel).bs.length cb,V0 (Zd l root tree fuel).deep,V0 ((Zd l root tree fuel).looked:Int),.slice pf fv.length cf])∧B0 w w' ∧
 w'.ownsRow w.heap.size 123 3 (.slice pe (Zd l root tree fuel).es.length ce) (Zd l root tree fuel).es.length ((Zd l root tree fuel).es.flatMap Vt)∧w'.ownsRow w.heap.size 35 2 (.slice pf fv.length cf) fv.length (fv.flatMap Bu)∧fv.map Yd=(Zd l root tree fuel).fs∧FsR w.heap.size w' fv):=by
 refine(Ze7 B bm p k c l root tree fuel w hI hfu).mono ?_
 rintro e W ⟨pe,pb,pf,ce,cb,cf,fv,rfl,hb,h1,h2,h3,h4,h5⟩
 exact⟨pe,pb,pf,ce,cb,cf,fv,rfl,hb,h1,h3,h4,fun f hf=>(h5 _ (List.mem_map.2 ⟨f,hf,rfl⟩)).1⟩
def ftD:Ft:=⟨[],0,none,0⟩
theorem fltR_snoc(kind:Int){fv:List Ft}{i:Nat}(hi:i<fv.length):(((fv.take (i+1)).map Yd).map (Xk kind)).flatMap dmc=(((fv.take i).map Yd).map (Xk kind)).flatMap dmc++[V0 kind,V0 (Kr (fv.getD i ftD).bl),V0 (fv.getD i ftD).c]:=by
 rw[List.take_succ_eq_append_getElem hi,List.map_append,List.map_append,List.flatMap_append,show fv.getD i ftD=fv[i] from by simp[List.getD,hi]]
 simp[Xk,Yd,dmc]
theorem Gs(B:Nat)(kind:Int)(pf:O0)(cf:Nat)(fv:List Ft)(w:World)(hF:Sts Bu w (.slice pf fv.length cf) fv)(hK:FsR B w fv)(hl:fv.length≤1000000) :
 C0 119 #[V0 kind,.slice pf fv.length cf] w (Ko (fun w' r=>∃ p c,r=.slice p fv.length c∧w'.ownsRow w.heap.size 100 3 (.slice p fv.length c) fv.length (((fv.map Yd).map (Xk kind)).flatMap dmc)) w):=by
 refine zin 23 Tryz.func119 ?_
 have hB:=Below.refl w.heap.size w
 refine zl 17 23 (fun zm b1 V=>∃ (i:Nat) (p:O0) (c:Nat),b1=[(0,V0 kind),(1,.slice pf fv.length cf),(4,S0),(5,.slice p i c),(6,V0 (i:Int))]∧zm=fv.length-((i:Int)).toNat∧B0 w V∧V.ownsRow w.heap.size 100 3 (.slice p i c) i ((((fv.take i).map Yd).map (Xk kind)).flatMap dmc)∧FsR B V fv∧i≤fv.length) ⟨0,none,0,rfl,rfl,hB,World.ownsRow_nil _ _ _ _,hK,Nat.zero_le _⟩ ?_
 rintro _ _ W1 ⟨i,p,c,rfl,rfl,a0,ho,hK,hi⟩ J1 b0 r1
 refine xid 9 ((i:Int)<(fv.length:Int)) (fun b2=>?_) (fun b2=>?_)
 ·refine xx 9 _ fv.length i 2 (Sts.cell (f:=Bu) hF Zbv ftD (k:=i) (i:=0) (by omega) rfl).1 ?_
  refine xlv 0 (Sts.rp (k:=i) (hF.below a0) Zbv ftD (by omega) (by decide)) ?_
  refine xr 0 (args:=#[V0 kind,.agg #[.slice ((fv.getD i ftD).fa) ((fv.getD i ftD).bl.length) ((fv.getD i ftD).fc),V0 ((fv.getD i ftD).c)]]) (Tc kind (fv.getD i ftD).c (fv.getD i ftD).bl (fv.getD i ftD).fa (fv.getD i ftD).fc _ (Zh (hK _ (Md (by omega))))) fun W3 a6=>?_
  refine xbs 0 1 [V0 kind,V0 (Kr (fv.getD i ftD).bl),V0 ((fv.getD i ftD).c)] 100 fun b4 W4 n4=>?_
  have a1:=bln a0 a6
  have g4:=n4.ge a1
  have a4:=Zb ho a6
  have a8:=Zx a4 n4
  have a2:=Zb a4 n4.below
  have a3:=bln a1 n4.below
  refine xbi 0 fun _ _ _ _ zJ zQ zo zx zy zK=>Zw (m:=1) (news:=[V0 kind,V0 (Kr (fv.getD i ftD).bl),V0 ((fv.getD i ftD).c)]) (.agg #[V0 0,V0 0,V0 0]) 3 24 ((i+1)) (((((fv.take (i+1)).map Yd).map (Xk kind)).flatMap dmc)) zo Tryz.underlying47 (by kernel_rfl) rfl (by decide) zx a2 zy (n4.blk.sl 1 1 (by decide) (by decide)) rfl (by simp[Value.oneCell']) (by unfold maxLen;omega) (by omega) a3.size (rfl) (by rw[fltR_snoc kind (by omega)]) fun b6 b7 W5 o5 b3 b5=>?_
  refine zK _ _ ?_
  refine xwm 6 ((i:Int)+1) (↑(i+1):Int) ?_
  have a5:=a3.trans b5
  have a7:=((hK.below a6).below n4.below).only (Ze.of_grown (T:=[100]) b3 a2 (by decide)) (by decide)
  exact ze 2 (b0 _ _ _ ⟨i+1,_,_,rfl,rfl,a5,o5,a7,by omega⟩ (by omega))
 refine xe 12 (.slice p i c) ?_
 obtain rfl:i=fv.length:=by omega
 have a9:=ho
 rw[List.take_of_length_le (Nat.le_refl _)] at a9
 exact⟨_,rfl,a0,_,_,rfl,a9⟩
theorem Ip(x:Ent)(w:World)(hs:x.2.1.length≤1000) :
 C0 120 #[.agg #[V0 x.1,.string ⟨x.2.1.toArray⟩,V0 x.2.2]] w (Ret (V0 (Wi x)) w):=by
 refine zin 15 Tryz.func120 ?_
 refine xa 2 [V0 x.1,.string ⟨x.2.1.toArray⟩,V0 x.2.2] 123 fun b1 W1 n1=>?_
 refine xb 7 0 n1.blk ?_
 refine xid 3 (x.1>(16777215:Int)) (fun a1=>?_) (fun a1=>?_)
 ·exact xe 7 (V0 9) ⟨by rw[show Wi x=9 from if_pos (by omega)],n1.below⟩
 refine xb 5 1 n1.blk ?_
 refine xr 0 (args:=#[.string ⟨x.2.1.toArray⟩]) (Gn x.2.1 _ hs) fun W3 a0=>?_
 refine xa 3 [V0 0,V0 0,V0 0,V0 0] 202 fun b4 W4 n4=>?_
 refine xsv 0 n4.blk [V0 (↑(Xu x.2.1 0):Int),V0 (↑(Xu x.2.1 1):Int),V0 (↑(Xu x.2.1 2):Int),V0 (↑(Xu x.2.1 3):Int)] fun W5 u5 k5=>?_
 have g4:=n4.ge (bln n1.below a0)
 have hB:=u5.below (bln (bln n1.below a0) n4.below) g4
 exact xe 10 (V0 (Xt Ky x.2.1)) ⟨by rw[show Wi x=Xt Ky x.2.1 from if_neg (by omega)],hB⟩
theorem St(x:Ent)(data:Int)(w:World)(hs:x.2.1.length≤1000) :
 C0 122 #[.agg #[V0 x.1,.string ⟨x.2.1.toArray⟩,V0 x.2.2],V0 data] w (Ret (V0 (Vj data x.2.1)) w):=by
 refine zin 23 Tryz.func122 ?_
 refine xa 2 [V0 x.1,.string ⟨x.2.1.toArray⟩,V0 x.2.2] 123 fun b1 W1 n1=>?_
 refine xb 6 1 n1.blk ?_
 refine xr 0 (args:=#[.string ⟨x.2.1.toArray⟩]) (Pd x.2.1 _ hs) fun W2 a1=>?_
 refine xg 15 [16,17] ((Xt Vn x.2.1)==(0:Int)) (fun a0=>?_) (fun a0=>?_)
 ·have a0:=eq_of_beq a0
  refine xid 6 ((↑(Mb x.2.1):Int)≥data) (fun a2=>?_) (fun a2=>?_)
  ·have hB:=bln n1.below a1
   refine xe 7 (V0 2) ?_
   first|exact⟨by rw[show Vj data x.2.1=2 from Ua (by omega) (by omega)],hB⟩|(have e9:Vj data x.2.1=Xt Vn x.2.1:=Hl (by omega);exact⟨by rw[e9],hB⟩)|(have e9:Vj data x.2.1=Xt Vn x.2.1:=(Pf (by omega) (by omega)).trans (by omega);exact⟨by rw[e9],hB⟩)
  have hB:=bln n1.below a1
  refine xe 9 (V0 (Xt Vn x.2.1)) ?_
  first|exact⟨by rw[show Vj data x.2.1=2 from Ua (by omega) (by omega)],hB⟩|(have e9:Vj data x.2.1=Xt Vn x.2.1:=Hl (by omega);exact⟨by rw[e9],hB⟩)|(have e9:Vj data x.2.1=Xt Vn x.2.1:=(Pf (by omega) (by omega)).trans (by omega);exact⟨by rw[e9],hB⟩)
 have a0:=Xl a0
 have hB:=bln n1.below a1
 refine xe 16 (V0 (Xt Vn x.2.1)) ?_
 first|exact⟨by rw[show Vj data x.2.1=2 from Ua (by omega) (by omega)],hB⟩|(have e9:Vj data x.2.1=Xt Vn x.2.1:=Hl (by omega);exact⟨by rw[e9],hB⟩)|(have e9:Vj data x.2.1=Xt Vn x.2.1:=(Pf (by omega) (by omega)).trans (by omega);exact⟨by rw[e9],hB⟩)
def Zab(T:List Ent)(i:Nat):Bool:=(List.range i).any fun k=>(T.getD k Zj).2.1==(T.getD i Zj).2.1
theorem Ak{T:List Ent}{i:Nat}(hi:i<T.length)(h0:Xo (T.getD i Zj).2.1=0):Zab T i=true↔((Zo (T.getD i Zj).2.1:Nat):Int)∈Qm (T.take i):=by
 unfold Zab
 rw[Tu,List.any_eq_true]
 constructor
 ·rintro⟨k,hk,h⟩
  have hk:=List.mem_range.1 hk
  have e:(T.getD k Zj).2.1=(T.getD i Zj).2.1:=by simpa using h
  exact⟨T.getD k Zj,by rw[show T.getD k Zj=T[k] from by simp[List.getD,show k<T.length by omega]];exact List.mem_take_iff_getElem.2 ⟨k,by omega,rfl⟩,by rw[e];exact h0,by rw[e]⟩
 ·rintro⟨x,hx,h1,h2⟩
  obtain⟨k,hk,rfl⟩:=List.mem_take_iff_getElem.1 hx
  have e:=Zgz h1 h0 h2
  exact⟨k,List.mem_range.2 (by omega),by rw[show T.getD k Zj=T[k]'(by omega) from by simp[List.getD,show k<T.length by omega],e];simp⟩
theorem Se(pt:O0)(ct:Nat)(T:List Ent)(i:Nat)(w:World)(hT:Sts Vt w (.slice pt T.length ct) T)(hi:i<T.length)(hl:T.length≤1000000) :
 C0 121 #[.slice pt T.length ct,V0 (i:Int)] w (Ret (.bool (Zab T i)) w):=by
 refine zin 22 Tryz.func121 ?_
 have hB:=Below.refl w.heap.size w
 refine zl 12 22 (fun zm a2 V=>∃ (k:Nat),a2=[(0,.slice pt T.length ct),(1,V0 (i:Int)),(5,V0 (k:Int))]∧zm=i-((k:Int)).toNat∧B0 w V∧k≤i∧(∀ j,j<k→((T.getD j Zj).2.1==(T.getD i Zj).2.1)=false)) ⟨0,rfl,rfl,hB,Nat.zero_le _,?_⟩ ?_
 ·exact fun j hj=>absurd hj (by omega)
 rintro _ _ W1 ⟨k,rfl,rfl,a1,hk,hn⟩ J1 a5 r1
 refine xid 8 ((k:Int)<(i:Int)) (fun a4=>?_) (fun a4=>?_)
 ·refine xd 5 .z ?_
  refine xx (.e [0,1] 2) _ T.length k 3 (Sts.cell (f:=Vt) hT Zy Zj (k:=k) (i:=0) (by omega) rfl).1 ?_
  have a0:=bln a1 (Za W1)
  refine xl (.e [3] 4) ((Sts.cell (hT.below a0) Zy Zj (k:=k) (i:=1) (by omega) rfl).2) ?_
  refine xx (.e [5,6] 7) _ T.length i 3 (Sts.cell (f:=Vt) hT Zy Zj (k:=i) (i:=0) (by omega) rfl).1 ?_
  refine xl (.e [8] 9) ((Sts.cell (hT.below a0) Zy Zj (k:=i) (i:=1) (by omega) rfl).2) ?_
  refine xi (.r [10] 2) ((⟨((T.getD k Zj).2.1).toArray⟩:ByteArray).toList==(⟨((T.getD i Zj).2.1).toArray⟩:ByteArray).toList) (fun a3=>?_) (fun a3=>?_)
  ·refine xe 11 (.bool true) ?_
   have e9:Zab T i=true:=List.any_eq_true.2 ⟨k,List.mem_range.2 (by omega),by rw[←Ue];assumption⟩
   exact⟨by rw[e9],a0⟩
  refine xwm 5 ((k:Int)+1) (↑(k+1):Int) ?_
  exact ze 2 (a5 _ _ _ ⟨k+1,rfl,rfl,a0,by omega,fun j hj=>if q:j=k then(by subst q;rw[←Ue];assumption) else hn j (by omega)⟩ (by omega))
 refine xe 11 (.bool false) ?_
 have e9:Zab T i=false:=by
   unfold Zab;rw[List.any_eq_false];intro j hj;have:=hn j (by have:=List.mem_range.1 hj;omega);simpa using this
 exact⟨by rw[e9],a1⟩
theorem Zfm(L:List Dg):∀ u∈L.flatMap dmc,u.oneCell'=true:=fun u hu=>by
 obtain⟨m,_,h⟩:=List.mem_flatMap.1 hu
 simp only[dmc,List.mem_cons,List.not_mem_nil,or_false] at h
 rcases h with rfl|rfl|rfl<;>rfl
theorem Zbw(L:List Dg):(L.flatMap dmc).length=L.length*3:=by
 induction L with
 | nil=>rfl
 | cons x L ih=>rw[List.flatMap_cons,List.length_append,ih,List.length_cons];show 3+_=_;omega
theorem dg_app(A C:List Dg):A.flatMap dmc++C.flatMap dmc=(A++C).flatMap dmc:=(List.flatMap_append ..).symm
theorem Jd(A:List Dg)(x:Dg):A.flatMap dmc++dmc x=(A++[x]).flatMap dmc:=by rw[List.flatMap_append];simp
theorem Zcr(data:Int)(es:List Ent)(A:List Dg){i:Nat}(hi:i<es.length)(h:Vj data (es.getD i Zj).2.1=0):A++Jm data (es.take (i+1))=A++Jm data (es.take i):=by rw[Dk hi h]
theorem Ir{es:List Ent}{i:Nat}(D:List Dg)(hi:i<es.length)(h:Wi (es.getD i Zj)≠0):D++Yy (es.take (i+1))=D++Yy (es.take i)++[((2:Int),(es.getD i Zj).2.2,Wi (es.getD i Zj))]:=Sj D hi h
theorem Fz{es:List Ent}{i:Nat}(hi:i<es.length)(h:Wi (es.getD i Zj)=0):Yy (es.take (i+1))=Yy (es.take i):=by
 rw[Ds hi,Zbm h,List.append_nil]
theorem G_lenR{l:Bl}{data fuel:Int}{T:List Ent}{i:Nat}{G:List Dg}(hf:fuel≤1000)(hT:T.length≤18001)(h:G++Gx l data fuel (T.drop i) (Qm (T.take i))=Gx l data fuel T []):G.length≤324036001:=by
 have h1:=congrArg List.length h
 have h2:=Bb l data fuel hf T []
 rw[List.length_append] at h1
 have h3:18001*T.length≤18001*18001:=Nat.mul_le_mul_left _ hT
 omega
theorem D_appR(A G H:List Dg):(A++G)++H=A++(G++H):=List.append_assoc A G H
theorem Zaj(B Bi bm:Nat)(pi:O0)(ni ci:Nat)(l:Bl)(s:Sup)(fuel:Int)(pe3 pb3 pf3 pe1 pb1 pf1:O0)(ce3 cb3 cf3 ce1 cb1 cf1 nb3 nb1:Nat)(dp3 lk3 dp1 lk1:Int)(E3 E1:List Ent)(f3 f1:List Ft)(w:World)(hI:RefI Bi bm pi ni ci l w)(hfu:fuel≤1000)(hE3':E3.length≤18001)(hE1':E1.length≤18001)(hE3:Sts Vt w (.slice pe3 E3.length ce3) E3)(hE1:Sts Vt w (.slice pe1 E1.length ce1) E1)(hF3:Sts Bu w (.slice pf3 f3.length cf3) f3)(hF1:Sts Bu w (.slice pf1 f1.length cf1) f1)(hK3:FsR B w f3)(hK1:FsR B w f1)(hl3:f3.length≤18001)(hl1:f1.length≤18001)(hs3:∀ x∈E3,x.2.1.length≤1000)(hs1:∀ x∈E1,x.2.1.length≤1000) :
 C0 55 #[P0 bm,.agg #[V0 s.tx,V0 s.time,V0 s.unit,V0 s.data,V0 s.blocks,V0 s.top,V0 s.details,V0 s.dslots,V0 s.dover,V0 s.mindex,V0 s.mover],V0 fuel,.agg #[.slice pe3 E3.length ce3,.slice pb3 nb3 cb3,V0 dp3,V0 lk3,.slice pf3 f3.length cf3],.agg #[.slice pe1 E1.length ce1,.slice pb1 nb1 cb1,V0 dp1,V0 lk1,.slice pf1 f1.length cf1]] w (Ko (fun w' r=>∃ p c,r=.slice p (((f3.map Yd).map (Xk 2))++Yy E3++((f1.map Yd).map (Xk 3))++Gx l s.data fuel E1 []).length c∧w'.ownsRow w.heap.size 100 3 (.slice p (((f3.map Yd).map (Xk 2))++Yy E3++((f1.map Yd).map (Xk 3))++Gx l s.data fuel E1 []).length c) (((f3.map Yd).map (Xk 2))++Yy E3++((f1.map Yd).map (Xk 3))++Gx l s.data fuel E1 []).length ((((f3.map Yd).map (Xk 2))++Yy E3++((f1.map Yd).map (Xk 3))++Gx l s.data fuel E1 []).flatMap dmc)) w):=by
 have w1:=Lw E3
 refine zin 126 Tryz.func55 ?_
 refine xa 2 [V0 s.tx,V0 s.time,V0 s.unit,V0 s.data,V0 s.blocks,V0 s.top,V0 s.details,V0 s.dslots,V0 s.dover,V0 s.mindex,V0 s.mover] 44 fun b1 W1 n1=>?_
 refine xa 0 [.slice pe3 E3.length ce3,.slice pb3 nb3 cb3,V0 dp3,V0 lk3,.slice pf3 f3.length cf3] 119 fun b2 W2 n2=>?_
 refine xa 0 [.slice pe1 E1.length ce1,.slice pb1 nb1 cb1,V0 dp1,V0 lk1,.slice pf1 f1.length cf1] 119 fun b3 W3 n3=>?_
 have s5:=n3.ne n2.blk
 have k9:=n2.blk.below n3.below
 refine xb 6 4 k9 ?_
 have l5:=((hK3.below n1.below).below n2.below).below n3.below
 have hB:=bln (bln n1.below n2.below) n3.below
 refine xc 0 (args:=#[V0 2,.slice pf3 f3.length cf3]) (Gs B 2 pf3 cf3 f3 _ (hF3.below hB) l5 (by omega)) ?_
 rintro _ W5 ⟨_,rfl,m7,r8,r9,rfl,m9⟩
 have t7:=(bln (bln n1.below n2.below) n3.below).size
 have i2:=Zg m9 t7
 refine xv1 10 11 (show(.slice r8 f3.length r9:Value)=.slice r8 ((((f3.map Yd).map (Xk 2))++Yy (E3.take 0)).length) r9 from(by simp[Yy])) ?_
 have m1:=(((hK1.below n1.below).below n2.below).below n3.below).below m7
 have q7:=bln hB m7
 have k1:=((n1.blk.below n2.below).below n3.below).below m7
 have p1:=k9.below m7
 have k3:=n3.blk.below m7
 refine zl 0 126 (fun zm l6 V=>∃ (i:Nat) (p:O0) (c:Nat),l6=[(0,P0 bm),(2,V0 fuel),(6,P0 b1),(8,P0 b2),(9,P0 b3),(10,S0),(11,.slice p ((((f3.map Yd).map (Xk 2))++Yy (E3.take i)).length) c),(12,V0 (i:Int))]∧zm=E3.length-((i:Int)).toNat∧B0 w V∧Blk V b1 ([V0 s.tx,V0 s.time,V0 s.unit,V0 s.data,V0 s.blocks,V0 s.top,V0 s.details,V0 s.dslots,V0 s.dover,V0 s.mindex,V0 s.mover]) 44∧Blk V b2 ([.slice pe3 E3.length ce3,.slice pb3 nb3 cb3,V0 dp3,V0 lk3,.slice pf3 f3.length cf3]) 119∧Blk V b3 ([.slice pe1 E1.length ce1,.slice pb1 nb1 cb1,V0 dp1,V0 lk1,.slice pf1 f1.length cf1]) 119∧V.ownsRow w.heap.size 100 3 (.slice p (((f3.map Yd).map (Xk 2))++Yy (E3.take i)).length c) (((f3.map Yd).map (Xk 2))++Yy (E3.take i)).length ((((f3.map Yd).map (Xk 2))++Yy (E3.take i)).flatMap dmc)∧FsR B V f1∧i≤E3.length) ⟨0,_,_,rfl,rfl,q7,k1,p1,k3,(by simpa [Yy] using i2),m1,Nat.zero_le _⟩ ?_
 rintro _ _ W6 ⟨i,p,c,rfl,rfl,d2,e0,b4,c4,ho,hK1,hi⟩ J6 s0 r6
 have u1:=Dq E3 i
 refine xb 5 0 b4 ?_
 refine xid 4 ((i:Int)<(E3.length:Int)) (fun u0=>?_) (fun u0=>?_)
 ·refine xb 7 0 b4 ?_
  refine xx 1 _ E3.length i 3 (Sts.cell (f:=Vt) hE3 Zy Zj (k:=i) (i:=0) (by omega) rfl).1 ?_
  refine xlv 0 (Sts.rp (k:=i) (hE3.below d2) Zy Zj (by omega) (by decide)) ?_
  refine xr 0 (args:=#[.agg #[V0 ((E3.getD i Zj).1),.string ⟨((E3.getD i Zj).2.1).toArray⟩,V0 ((E3.getD i Zj).2.2)]]) (Ip (E3.getD i Zj) _ (hs3 _ (Md (by omega)))) fun W8 d5=>?_
  refine xin 9 (Wi (E3.getD i Zj)) (0:Int) (fun t0=>?_) (fun t0=>?_)
  ·have c5:=b4.below d5
   refine xb 3 0 c5 ?_
   refine xx 1 _ E3.length i 3 (Sts.cell (f:=Vt) hE3 Zy Zj (k:=i) (i:=0) (by omega) rfl).1 ?_
   have l1:=bln d2 d5
   refine xl 1 ((Sts.cell (hE3.below l1) Zy Zj (k:=i) (i:=2) (by omega) rfl).2) ?_
   refine xr 1 (args:=#[V0 2,V0 ((E3.getD i Zj).2.2),V0 (Wi (E3.getD i Zj))]) (Xx 2 ((E3.getD i Zj).2.2) (Wi (E3.getD i Zj)) _) fun x5 d1=>?_
   refine xbs 0 1 [V0 2,V0 ((E3.getD i Zj).2.2),V0 (Wi (E3.getD i Zj))] 100 fun x6 v9 g9=>?_
   have m0:=bln l1 d1
   have v0:=g9.ge m0
   have m4:=Zb (Zb ho d5) d1
   have q0:=Zx m4 g9
   have e4:=Zb m4 g9.below
   have n9:=bln m0 g9.below
   refine xbi 0 fun _ _ _ _ zJ zQ zo zx zy zK=>Zw (m:=1) (news:=[V0 2,V0 ((E3.getD i Zj).2.2),V0 (Wi (E3.getD i Zj))]) (.agg #[V0 0,V0 0,V0 0]) 3 24 (((((f3.map Yd).map (Xk 2))++Yy (E3.take i))++[((2:Int),(E3.getD i Zj).2.2,(Wi (E3.getD i Zj)))]).length) ((((((f3.map Yd).map (Xk 2))++Yy (E3.take i))++[((2:Int),(E3.getD i Zj).2.2,(Wi (E3.getD i Zj)))]).flatMap dmc)) zo Tryz.underlying47 (by kernel_rfl) rfl (by decide) zx e4 zy (g9.blk.sl 1 1 (by decide) (by decide)) rfl (by simp[Value.oneCell']) (by unfold maxLen;simp only[List.length_append,List.length_map];omega) (by simp only[List.length_append,List.length_map];omega) n9.size (by simp only[List.length_append,List.length_cons,List.length_nil]) (Jd _ ((2:Int),(E3.getD i Zj).2.2,(Wi (E3.getD i Zj)))) fun o5 k4 v1 s7 h8 p9=>?_
   refine zK _ _ ?_
   refine xwm 6 ((i:Int)+1) (↑(i+1):Int) ?_
   refine xv1 2 11 (show(.slice o5 (((((f3.map Yd).map (Xk 2))++Yy (E3.take i))++[((2:Int),(E3.getD i Zj).2.2,(Wi (E3.getD i Zj)))]).length) k4:Value)=.slice o5 ((((f3.map Yd).map (Xk 2))++Yy (E3.take (i+1))).length) k4 from(by rw[Ir _ (by omega) (by omega)])) ?_
   have p3:=n9.trans p9
   have h5:=(((e0.below d5).below d1).below g9.below).grown h8 e4 (by decide)
   have h1:=((c5.below d1).below g9.below).grown h8 e4 (by decide)
   have i1:=(((c4.below d5).below d1).below g9.below).grown h8 e4 (by decide)
   have m5:=(((hK1.below d5).below d1).below g9.below).only (Ze.of_grown (T:=[100]) h8 e4 (by decide)) (by decide)
   exact ze 0 (s0 _ _ _ ⟨i+1,_,_,rfl,rfl,p3,h5,h1,i1,(by rw[Ir _ (by omega) (by omega)];exact s7),m5,by omega⟩ (by omega))
  refine xwm 5 ((i:Int)+1) (↑(i+1):Int) ?_
  have q1:=Zb ho d5
  refine xv1 2 11 (show(.slice p ((((f3.map Yd).map (Xk 2))++Yy (E3.take i)).length) c:Value)=.slice p ((((f3.map Yd).map (Xk 2))++Yy (E3.take (i+1))).length) c from(by rw[Fz (by omega) (by omega)])) ?_
  have q4:=bln d2 d5
  have h7:=e0.below d5
  have i3:=b4.below d5
  have i0:=c4.below d5
  have m2:=hK1.below d5
  exact ze 0 (s0 _ _ _ ⟨i+1,_,_,rfl,rfl,q4,h7,i3,i0,(by rw[Fz (by omega) (by omega)];exact q1),m2,by omega⟩ (by omega))
 refine xb 9 4 c4 ?_
 refine xc 0 (args:=#[V0 3,.slice pf1 f1.length cf1]) (Gs B 3 pf1 cf1 f1 _ (hF1.below d2) hK1 (by omega)) ?_
 rintro _ u4 ⟨_,rfl,f6,t9,s8,rfl,j6⟩
 have e2:=Zg j6 d2.size
 have h6:=Zb ho f6
 have k8:=bln d2 f6
 refine xbi 0 fun _ _ _ _ zJ zQ zo zx zy zK=>Zw (m:=f1.length) (news:=(((f1.map Yd).map (Xk 3)).flatMap dmc)) (.agg #[V0 0,V0 0,V0 0]) 3 24 (((((f3.map Yd).map (Xk 2))++Yy (E3.take i))++((f1.map Yd).map (Xk 3))).length) ((((((f3.map Yd).map (Xk 2))++Yy (E3.take i))++((f1.map Yd).map (Xk 3))).flatMap dmc)) zo Tryz.underlying47 (by kernel_rfl) rfl (by decide) zx h6 zy (Zh e2) ((Zbw _).trans (by rw[List.length_map,List.length_map])) (Zfm _) (by unfold maxLen;simp only[List.length_append,List.length_map];omega) (by simp only[List.length_append,List.length_map];omega) k8.size (by simp only[List.length_append,List.length_map]) (dg_app _ _) fun k2 m3 w9 t3 j7 q2=>?_
 refine zK _ _ ?_
 have r5:i=E3.length:=by omega
 have s1:=t3
 rw[r5,List.take_length] at s1
 refine xv1 10 11 (show(.slice k2 (((((f3.map Yd).map (Xk 2))++Yy (E3.take i))++((f1.map Yd).map (Xk 3))).length) m3:Value)=.slice k2 ((((f3.map Yd).map (Xk 2))++Yy E3++((f1.map Yd).map (Xk 3))++([]:List Dg)).length) m3 from(by rw[r5,List.append_nil,List.take_length])) ?_
 have p2:=k8.trans q2
 have h3:=(e0.below f6).grown j7 h6 (by decide)
 have h2:=(b4.below f6).grown j7 h6 (by decide)
 have h9:=(c4.below f6).grown j7 h6 (by decide)
 refine zl 0 126 (fun zm l6 V=>∃ (i:Nat) (p:O0) (c:Nat) (G:List Dg),l6=[(0,P0 bm),(2,V0 fuel),(6,P0 b1),(9,P0 b3),(10,S0),(11,.slice p ((((f3.map Yd).map (Xk 2))++Yy E3++((f1.map Yd).map (Xk 3))++G).length) c),(14,V0 (i:Int))]∧zm=E1.length-((i:Int)).toNat∧B0 w V∧Blk V b1 ([V0 s.tx,V0 s.time,V0 s.unit,V0 s.data,V0 s.blocks,V0 s.top,V0 s.details,V0 s.dslots,V0 s.dover,V0 s.mindex,V0 s.mover]) 44∧Blk V b2 ([.slice pe3 E3.length ce3,.slice pb3 nb3 cb3,V0 dp3,V0 lk3,.slice pf3 f3.length cf3]) 119∧Blk V b3 ([.slice pe1 E1.length ce1,.slice pb1 nb1 cb1,V0 dp1,V0 lk1,.slice pf1 f1.length cf1]) 119∧V.ownsRow w.heap.size 100 3 (.slice p (((f3.map Yd).map (Xk 2))++Yy E3++((f1.map Yd).map (Xk 3))++G).length c) (((f3.map Yd).map (Xk 2))++Yy E3++((f1.map Yd).map (Xk 3))++G).length ((((f3.map Yd).map (Xk 2))++Yy E3++((f1.map Yd).map (Xk 3))++G).flatMap dmc)∧i≤E1.length∧G++Gx l s.data fuel (E1.drop i) (Qm (E1.take i))=Gx l s.data fuel E1 []) ⟨0,_,_,[],rfl,rfl,p2,h3,h2,h9,(by rw[List.append_nil];exact s1),Nat.zero_le _,rfl⟩ ?_
 rintro _ _ u5 ⟨i,p,c,G,rfl,rfl,c7,b9,c1,a8,ho,w2,d3⟩ x3 j5 u9
 have u1:=G_lenR hfu hE1' d3
 refine xb 5 0 a8 ?_
 refine xid 4 ((i:Int)<(E1.length:Int)) (fun q5=>?_) (fun q5=>?_)
 ·refine xb 7 0 a8 ?_
  refine xx 1 _ E1.length i 3 (Sts.cell (f:=Vt) hE1 Zy Zj (k:=i) (i:=0) (by omega) rfl).1 ?_
  refine xl 1 ((Sts.cell (hE1.below c7) Zy Zj (k:=i) (i:=1) (by omega) rfl).2) ?_
  refine xr 0 (args:=#[.string ⟨((E1.getD i Zj).2.1).toArray⟩]) (Hr (E1.getD i Zj).2.1 _ (hs1 _ (Md (by omega)))) fun w7 a2=>?_
  refine xin 14 (Xo (E1.getD i Zj).2.1) (0:Int) (fun j2=>?_) (fun j2=>?_)
  ·have k0:=j2
   have b5:=a8.below a2
   refine xb 4 0 b5 ?_
   refine xx 1 _ E1.length i 3 (Sts.cell (f:=Vt) hE1 Zy Zj (k:=i) (i:=0) (by omega) rfl).1 ?_
   have l4:=bln c7 a2
   refine xl 1 ((Sts.cell (hE1.below l4) Zy Zj (k:=i) (i:=2) (by omega) rfl).2) ?_
   refine xr 1 (args:=#[V0 3,V0 ((E1.getD i Zj).2.2),V0 (Xo (E1.getD i Zj).2.1)]) (Xx 3 ((E1.getD i Zj).2.2) (Xo (E1.getD i Zj).2.1) _) fun x2 d7=>?_
   refine xbs 0 1 [V0 3,V0 ((E1.getD i Zj).2.2),V0 (Xo (E1.getD i Zj).2.1)] 100 fun v5 u3 i5=>?_
   have i4:=bln l4 d7
   have w6:=i5.ge i4
   have n4:=Zb (Zb ho a2) d7
   have r0:=Zx n4 i5
   have h4:=Zb n4 i5.below
   have i8:=bln i4 i5.below
   refine xbi 0 fun _ _ _ _ zJ zQ zo zx zy zK=>Zw (m:=1) (news:=[V0 3,V0 ((E1.getD i Zj).2.2),V0 (Xo (E1.getD i Zj).2.1)]) (.agg #[V0 0,V0 0,V0 0]) 3 24 (((((f3.map Yd).map (Xk 2))++Yy E3++((f1.map Yd).map (Xk 3))++G)++[((3:Int),(E1.getD i Zj).2.2,(Xo (E1.getD i Zj).2.1))]).length) ((((((f3.map Yd).map (Xk 2))++Yy E3++((f1.map Yd).map (Xk 3))++G)++[((3:Int),(E1.getD i Zj).2.2,(Xo (E1.getD i Zj).2.1))]).flatMap dmc)) zo Tryz.underlying47 (by kernel_rfl) rfl (by decide) zx h4 zy (i5.blk.sl 1 1 (by decide) (by decide)) rfl (by simp[Value.oneCell']) (by unfold maxLen;simp only[List.length_append,List.length_map];omega) (by simp only[List.length_append,List.length_map];omega) i8.size (by simp only[List.length_append,List.length_cons,List.length_nil]) (Jd _ ((3:Int),(E1.getD i Zj).2.2,(Xo (E1.getD i Zj).2.1))) fun o3 l0 x0 t4 j8 q9=>?_
   refine zK _ _ ?_
   refine xwm 9 ((i:Int)+1) (↑(i+1):Int) ?_
   refine xv1 2 11 (show(.slice o3 (((((f3.map Yd).map (Xk 2))++Yy E3++((f1.map Yd).map (Xk 3))++G)++[((3:Int),(E1.getD i Zj).2.2,(Xo (E1.getD i Zj).2.1))]).length) l0:Value)=.slice o3 ((((f3.map Yd).map (Xk 2))++Yy E3++((f1.map Yd).map (Xk 3))++(G++[((3:Int),(E1.getD i Zj).2.2,Xo (E1.getD i Zj).2.1)])).length) l0 from(by rw[D_appR])) ?_
   have o1:=i8.trans q9
   have f9:=(((b9.below a2).below d7).below i5.below).grown j8 h4 (by decide)
   have e3:=(((c1.below a2).below d7).below i5.below).grown j8 h4 (by decide)
   have f0:=((b5.below d7).below i5.below).grown j8 h4 (by decide)
   exact ze 0 (j5 _ _ _ ⟨i+1,_,_,(G++[((3:Int),(E1.getD i Zj).2.2,Xo (E1.getD i Zj).2.1)]),rfl,rfl,o1,f9,e3,f0,(by rw[←D_appR];exact t4),by omega,Zaa (by omega) d3 k0⟩ (by omega))
  have k0:=j2
  have a3:=a8.below a2
  refine xb 6 0 a3 ?_
  have c3:=bln c7 a2
  refine xr 1 (args:=#[.slice pe1 E1.length ce1,V0 (i:Int)]) (Se pe1 ce1 E1 i _ (hE1.below c3) (by omega) (by omega)) fun w4 a5=>?_
  refine xi 2 (Zab E1 i) (fun j3=>?_) (fun j3=>?_)
  ·have r1:=j3
   refine xwm 6 ((i:Int)+1) (↑(i+1):Int) ?_
   have p4:=Zb (Zb ho a2) a5
   have n5:=bln c3 a5
   have e5:=(b9.below a2).below a5
   have f7:=(c1.below a2).below a5
   have d6:=a3.below a5
   exact ze 2 (j5 _ _ _ ⟨i+1,_,_,G,rfl,rfl,n5,e5,f7,d6,p4,by omega,Zag (by omega) d3 k0 ((Ak (by omega) k0).1 r1)⟩ (by omega))
  have r1:=j3
  have i6:=bln c3 a5
  refine xc 7 (args:=#[P0 bm,V0 (↑(Zo (E1.getD i Zj).2.1):Int),V0 2,V0 fuel]) (Ga Bi bm pi ni ci l (Zo (E1.getD i Zj).2.1:Nat) 2 fuel _ (hI.below i6) hfu) ?_
  rintro _ v8 ⟨p6,r4,o6,q8,s3,o7,fq,rfl,g6,o9,t6,s4,s6⟩
  have o2:=(bln c3 a5).size
  have w8:=Yp l (Zo (E1.getD i Zj).2.1:Nat) 2 fuel hfu
  have q3:=congrArg List.length s4
  rw[List.length_map] at q3
  refine xa 0 [S0,S0,V0 0,V0 0,S0] 119 fun r2 x4 a9=>?_
  have b0:=((c1.below a2).below a5).below g6
  have j4:=a9.ne b0
  have b6:=(a3.below a5).below g6
  have j9:=a9.ne b6
  have g1:=bln i6 g6
  have r3:=a9.ge g1
  refine xsv 0 a9.blk [.slice p6 ((Zd l (↑(Zo (E1.getD i Zj).2.1):Int) 2 fuel).es.length) q8,.slice r4 ((Zd l (↑(Zo (E1.getD i Zj).2.1):Int) 2 fuel).bs.length) s3,V0 ((Zd l (↑(Zo (E1.getD i Zj).2.1):Int) 2 fuel).deep),V0 (↑(Zd l (↑(Zo (E1.getD i Zj).2.1):Int) 2 fuel).looked:Int),.slice o6 fq.length o7] fun v4 h0 r7=>?_
  refine xb 6 4 r7 ?_
  have l7:=h0.own2 (Zb (Zg t6 o2) a9.below) a9.blk (by decide)
  have n7:=(s6.below a9.below).only (Ze.of_upd (T:=[119]) h0 a9.blk (by decide)) (by decide)
  refine xc 0 (args:=#[V0 3,.slice o6 fq.length o7]) (Gs _ 3 o6 o7 fq _ (Zh l7) n7 (by omega)) ?_
  rintro _ v6 ⟨_,rfl,c2,u2,t2,rfl,j1⟩
  have p8:=(h0.below (bln g1 a9.below) r3).size
  have d8:=Zg j1 p8
  have c9:=Zb (h0.own2 (Zb (Zb (Zb (Zb ho a2) a5) g6) a9.below) a9.blk (by decide)) c2
  have i7:=bln (h0.below (bln g1 a9.below) r3) c2
  refine xbi 0 fun _ _ _ _ zJ zQ zo zx zy zK=>Zw (m:=fq.length) (news:=(((fq.map Yd).map (Xk 3)).flatMap dmc)) (.agg #[V0 0,V0 0,V0 0]) 3 24 (((((f3.map Yd).map (Xk 2))++Yy E3++((f1.map Yd).map (Xk 3))++G)++((fq.map Yd).map (Xk 3))).length) ((((((f3.map Yd).map (Xk 2))++Yy E3++((f1.map Yd).map (Xk 3))++G)++((fq.map Yd).map (Xk 3))).flatMap dmc)) zo Tryz.underlying47 (by kernel_rfl) rfl (by decide) zx c9 zy (Zh d8) ((Zbw _).trans (by rw[List.length_map,List.length_map])) (Zfm _) (by unfold maxLen;simp only[List.length_append,List.length_map];omega) (by simp only[List.length_append,List.length_map];omega) i7.size (by simp only[List.length_append,List.length_map]) (dg_app _ _) fun o0 k7 v3 t8 f5 p5=>?_
  refine zK _ _ ?_
  refine xv1 9 11 (show(.slice o0 (((((f3.map Yd).map (Xk 2))++Yy E3++((f1.map Yd).map (Xk 3))++G)++((fq.map Yd).map (Xk 3))).length) k7:Value)=.slice o0 ((((f3.map Yd).map (Xk 2))++Yy E3++((f1.map Yd).map (Xk 3))++G++((fq.map Yd).map (Xk 3))++Jm s.data ((Zd l (↑(Zo (E1.getD i Zj).2.1):Int) 2 fuel).es.take 0)).length) k7 from(by simp[Jm])) ?_
  have m8:=Zf (Zb (h0.own2 (Zb (Zg o9 o2) a9.below) a9.blk (by decide)) c2) f5 c9 (by decide)
  have l2:=i7.trans p5
  have d9:=((h0.blkT ((((b9.below a2).below a5).below g6).below a9.below) a9.blk (by decide)).below c2).grown f5 c9 (by decide)
  have g2:=((h0.blk (b0.below a9.below) (Ne.symm (Ne.symm j4))).below c2).grown f5 c9 (by decide)
  have g5:=((h0.blk (b6.below a9.below) (Ne.symm (Ne.symm j9))).below c2).grown f5 c9 (by decide)
  have k5:=(r7.below c2).grown f5 c9 (by decide)
  refine zl 0 126 (fun zm l6 V=>∃ (k:Nat) (p:O0) (c:Nat),l6=[(0,P0 bm),(2,V0 fuel),(6,P0 b1),(9,P0 b3),(10,S0),(11,.slice p ((((f3.map Yd).map (Xk 2))++Yy E3++((f1.map Yd).map (Xk 3))++G++((fq.map Yd).map (Xk 3))++Jm s.data ((Zd l (↑(Zo (E1.getD i Zj).2.1):Int) 2 fuel).es.take k)).length) c),(14,V0 (i:Int)),(17,P0 r2),(18,V0 (k:Int))]∧zm=(Zd l (↑(Zo (E1.getD i Zj).2.1):Int) 2 fuel).es.length-((k:Int)).toNat∧B0 w V∧Blk V b1 ([V0 s.tx,V0 s.time,V0 s.unit,V0 s.data,V0 s.blocks,V0 s.top,V0 s.details,V0 s.dslots,V0 s.dover,V0 s.mindex,V0 s.mover]) 44∧Blk V b2 ([.slice pe3 E3.length ce3,.slice pb3 nb3 cb3,V0 dp3,V0 lk3,.slice pf3 f3.length cf3]) 119∧Blk V b3 ([.slice pe1 E1.length ce1,.slice pb1 nb1 cb1,V0 dp1,V0 lk1,.slice pf1 f1.length cf1]) 119∧Blk V r2 ([.slice p6 ((Zd l (↑(Zo (E1.getD i Zj).2.1):Int) 2 fuel).es.length) q8,.slice r4 ((Zd l (↑(Zo (E1.getD i Zj).2.1):Int) 2 fuel).bs.length) s3,V0 ((Zd l (↑(Zo (E1.getD i Zj).2.1):Int) 2 fuel).deep),V0 (↑(Zd l (↑(Zo (E1.getD i Zj).2.1):Int) 2 fuel).looked:Int),.slice o6 fq.length o7]) 119∧V.ownsRow w.heap.size 100 3 (.slice p (((f3.map Yd).map (Xk 2))++Yy E3++((f1.map Yd).map (Xk 3))++G++((fq.map Yd).map (Xk 3))++Jm s.data ((Zd l (↑(Zo (E1.getD i Zj).2.1):Int) 2 fuel).es.take k)).length c) (((f3.map Yd).map (Xk 2))++Yy E3++((f1.map Yd).map (Xk 3))++G++((fq.map Yd).map (Xk 3))++Jm s.data ((Zd l (↑(Zo (E1.getD i Zj).2.1):Int) 2 fuel).es.take k)).length ((((f3.map Yd).map (Xk 2))++Yy E3++((f1.map Yd).map (Xk 3))++G++((fq.map Yd).map (Xk 3))++Jm s.data ((Zd l (↑(Zo (E1.getD i Zj).2.1):Int) 2 fuel).es.take k)).flatMap dmc)∧V.ownsRow w.heap.size 123 3 (.slice p6 (Zd l (↑(Zo (E1.getD i Zj).2.1):Int) 2 fuel).es.length q8) (Zd l (↑(Zo (E1.getD i Zj).2.1):Int) 2 fuel).es.length ((Zd l (↑(Zo (E1.getD i Zj).2.1):Int) 2 fuel).es.flatMap Vt)∧k≤(Zd l (↑(Zo (E1.getD i Zj).2.1):Int) 2 fuel).es.length) ⟨0,_,_,rfl,rfl,l2,d9,g2,g5,k5,(by simpa [Jm] using t8),m8,Nat.zero_le _⟩ ?_
  rintro _ _ e1 ⟨k,p,c,rfl,rfl,g3,e6,b8,b7,c6,ho,o9,hk⟩ w0 l9 v2
  have u8:=Cv s.data (Zd l (↑(Zo (E1.getD i Zj).2.1):Int) 2 fuel).es k
  refine xb 5 0 c6 ?_
  refine xid 4 ((k:Int)<(↑((Zd l (↑(Zo (E1.getD i Zj).2.1):Int) 2 fuel).es.length):Int)) (fun q6=>?_) (fun q6=>?_)
  ·refine xd 5 .z ?_
   have a1:=c6.below (Za e1)
   refine xb (.e [0] 1) 0 a1 ?_
   have c8:=Zb o9 (Za e1)
   refine xx (.e [2] 3) _ ((Zd l (↑(Zo (E1.getD i Zj).2.1):Int) 2 fuel).es.length) k 3 (Sts.cell (f:=Vt) (Zh c8) Zy Zj (k:=k) (i:=0) (by omega) rfl).1 ?_
   refine xlv (.e [] 4) (Sts.rp (k:=k) (Zh c8) Zy Zj (by omega) (by decide)) ?_
   have a4:=e6.below (Za e1)
   refine xb (.e [5] 6) 3 a4 ?_
   refine xr (.o [] 7) (args:=#[.agg #[V0 (((Zd l (↑(Zo (E1.getD i Zj).2.1):Int) 2 fuel).es.getD k Zj).1),.string ⟨(((Zd l (↑(Zo (E1.getD i Zj).2.1):Int) 2 fuel).es.getD k Zj).2.1).toArray⟩,V0 (((Zd l (↑(Zo (E1.getD i Zj).2.1):Int) 2 fuel).es.getD k Zj).2.2)],V0 s.data]) (St ((Zd l (↑(Zo (E1.getD i Zj).2.1):Int) 2 fuel).es.getD k Zj) s.data _ (Yq _ _ _ _ k (by omega))) fun u7 a0=>?_
   refine xin (.r [8] 8) (Vj s.data ((Zd l (↑(Zo (E1.getD i Zj).2.1):Int) 2 fuel).es.getD k Zj).2.1) (0:Int) (fun o8=>?_) (fun o8=>?_)
   ·have a6:=a1.below a0
    refine xb 3 0 a6 ?_
    have e7:=Zb c8 a0
    refine xx 1 _ ((Zd l (↑(Zo (E1.getD i Zj).2.1):Int) 2 fuel).es.length) k 3 (Sts.cell (f:=Vt) (Zh e7) Zy Zj (k:=k) (i:=0) (by omega) rfl).1 ?_
    refine xl 1 ((Sts.cell (Zh e7) Zy Zj (k:=k) (i:=2) (by omega) rfl).2) ?_
    refine xr 1 (args:=#[V0 3,V0 (((Zd l (↑(Zo (E1.getD i Zj).2.1):Int) 2 fuel).es.getD k Zj).2.2),V0 (Vj s.data ((Zd l (↑(Zo (E1.getD i Zj).2.1):Int) 2 fuel).es.getD k Zj).2.1)]) (Xx 3 (((Zd l (↑(Zo (E1.getD i Zj).2.1):Int) 2 fuel).es.getD k Zj).2.2) (Vj s.data ((Zd l (↑(Zo (E1.getD i Zj).2.1):Int) 2 fuel).es.getD k Zj).2.1) _) fun v7 c0=>?_
    refine xbs 0 1 [V0 3,V0 (((Zd l (↑(Zo (E1.getD i Zj).2.1):Int) 2 fuel).es.getD k Zj).2.2),V0 (Vj s.data ((Zd l (↑(Zo (E1.getD i Zj).2.1):Int) 2 fuel).es.getD k Zj).2.1)] 100 fun x1 w5 g8=>?_
    have i9:=bln (bln (bln g3 (Za e1)) a0) c0
    have u6:=g8.ge i9
    have o4:=Zb (Zb (Zb ho (Za e1)) a0) c0
    have p0:=Zx o4 g8
    have a7:=Zb o4 g8.below
    have j0:=bln i9 g8.below
    refine xbi 0 fun _ _ _ _ zJ zQ zo zx zy zK=>Zw (m:=1) (news:=[V0 3,V0 (((Zd l (↑(Zo (E1.getD i Zj).2.1):Int) 2 fuel).es.getD k Zj).2.2),V0 (Vj s.data ((Zd l (↑(Zo (E1.getD i Zj).2.1):Int) 2 fuel).es.getD k Zj).2.1)]) (.agg #[V0 0,V0 0,V0 0]) 3 24 (((((f3.map Yd).map (Xk 2))++Yy E3++((f1.map Yd).map (Xk 3))++G++((fq.map Yd).map (Xk 3))++Jm s.data ((Zd l (↑(Zo (E1.getD i Zj).2.1):Int) 2 fuel).es.take k))++[((3:Int),((Zd l (↑(Zo (E1.getD i Zj).2.1):Int) 2 fuel).es.getD k Zj).2.2,(Vj s.data ((Zd l (↑(Zo (E1.getD i Zj).2.1):Int) 2 fuel).es.getD k Zj).2.1))]).length) ((((((f3.map Yd).map (Xk 2))++Yy E3++((f1.map Yd).map (Xk 3))++G++((fq.map Yd).map (Xk 3))++Jm s.data ((Zd l (↑(Zo (E1.getD i Zj).2.1):Int) 2 fuel).es.take k))++[((3:Int),((Zd l (↑(Zo (E1.getD i Zj).2.1):Int) 2 fuel).es.getD k Zj).2.2,(Vj s.data ((Zd l (↑(Zo (E1.getD i Zj).2.1):Int) 2 fuel).es.getD k Zj).2.1))]).flatMap dmc)) zo Tryz.underlying47 (by kernel_rfl) rfl (by decide) zx a7 zy (g8.blk.sl 1 1 (by decide) (by decide)) rfl (by simp[Value.oneCell']) (by unfold maxLen;simp only[List.length_append,List.length_map];omega) (by simp only[List.length_append,List.length_map];omega) j0.size (by simp only[List.length_append,List.length_cons,List.length_nil]) (Jd _ ((3:Int),((Zd l (↑(Zo (E1.getD i Zj).2.1):Int) 2 fuel).es.getD k Zj).2.2,(Vj s.data ((Zd l (↑(Zo (E1.getD i Zj).2.1):Int) 2 fuel).es.getD k Zj).2.1))) fun l8 n0 w3 t1 f4 p7=>?_
    refine zK _ _ ?_
    refine xwm 6 ((k:Int)+1) (↑(k+1):Int) ?_
    refine xv1 2 11 (show(.slice l8 (((((f3.map Yd).map (Xk 2))++Yy E3++((f1.map Yd).map (Xk 3))++G++((fq.map Yd).map (Xk 3))++Jm s.data ((Zd l (↑(Zo (E1.getD i Zj).2.1):Int) 2 fuel).es.take k))++[((3:Int),((Zd l (↑(Zo (E1.getD i Zj).2.1):Int) 2 fuel).es.getD k Zj).2.2,(Vj s.data ((Zd l (↑(Zo (E1.getD i Zj).2.1):Int) 2 fuel).es.getD k Zj).2.1))]).length) n0:Value)=.slice l8 ((((f3.map Yd).map (Xk 2))++Yy E3++((f1.map Yd).map (Xk 3))++G++((fq.map Yd).map (Xk 3))++Jm s.data ((Zd l (↑(Zo (E1.getD i Zj).2.1):Int) 2 fuel).es.take (k+1))).length) n0 from(by rw[Uy _ (by omega) (by omega)])) ?_
    have n8:=j0.trans p7
    have e8:=(((a4.below a0).below c0).below g8.below).grown f4 a7 (by decide)
    have g0:=((((b8.below (Za e1)).below a0).below c0).below g8.below).grown f4 a7 (by decide)
    have g7:=((((b7.below (Za e1)).below a0).below c0).below g8.below).grown f4 a7 (by decide)
    have d4:=((a6.below c0).below g8.below).grown f4 a7 (by decide)
    have l3:=Zf (Zb (Zb e7 c0) g8.below) f4 a7 (by decide)
    exact ze 0 (l9 _ _ _ ⟨k+1,_,_,rfl,rfl,n8,e8,g0,g7,d4,(by rw[Uy _ (by omega) (by omega)];exact t1),l3,by omega⟩ (by omega))
   refine xwm 5 ((k:Int)+1) (↑(k+1):Int) ?_
   have k6:=Zb (Zb ho (Za e1)) a0
   refine xv1 2 11 (show(.slice p ((((f3.map Yd).map (Xk 2))++Yy E3++((f1.map Yd).map (Xk 3))++G++((fq.map Yd).map (Xk 3))++Jm s.data ((Zd l (↑(Zo (E1.getD i Zj).2.1):Int) 2 fuel).es.take k)).length) c:Value)=.slice p ((((f3.map Yd).map (Xk 2))++Yy E3++((f1.map Yd).map (Xk 3))++G++((fq.map Yd).map (Xk 3))++Jm s.data ((Zd l (↑(Zo (E1.getD i Zj).2.1):Int) 2 fuel).es.take (k+1))).length) c from(by rw[Zcr _ _ _ (by omega) (by omega)])) ?_
   have m6:=bln (bln g3 (Za e1)) a0
   have f2:=a4.below a0
   have g4:=(b8.below (Za e1)).below a0
   have f8:=(b7.below (Za e1)).below a0
   have d0:=a1.below a0
   have n6:=Zb c8 a0
   exact ze 0 (l9 _ _ _ ⟨k+1,_,_,rfl,rfl,m6,f2,g4,f8,d0,(by rw[Zcr _ _ _ (by omega) (by omega)];exact k6),n6,by omega⟩ (by omega))
  refine xwm 8 ((i:Int)+1) (↑(i+1):Int) ?_
  have t5:k=(Zd l (↑(Zo (E1.getD i Zj).2.1):Int) 2 fuel).es.length:=by omega
  have e9:(((f3.map Yd).map (Xk 2))++Yy E3++((f1.map Yd).map (Xk 3))++G++((fq.map Yd).map (Xk 3))++Jm s.data ((Zd l (↑(Zo (E1.getD i Zj).2.1):Int) 2 fuel).es.take k))=(((f3.map Yd).map (Xk 2))++Yy E3++((f1.map Yd).map (Xk 3))++(G++Zak l s.data fuel (Zo (E1.getD i Zj).2.1:Nat))):=by rw[t5,List.take_length];unfold Zak;rw[s4];simp only[List.append_assoc]
  have s2:=ho
  rw[e9] at s2
  refine xv1 2 11 (show(.slice p ((((f3.map Yd).map (Xk 2))++Yy E3++((f1.map Yd).map (Xk 3))++G++((fq.map Yd).map (Xk 3))++Jm s.data ((Zd l (↑(Zo (E1.getD i Zj).2.1):Int) 2 fuel).es.take k)).length) c:Value)=.slice p ((((f3.map Yd).map (Xk 2))++Yy E3++((f1.map Yd).map (Xk 3))++(G++Zak l s.data fuel (Zo (E1.getD i Zj).2.1:Nat))).length) c from(by rw[e9])) ?_
  exact ze 0 (j5 _ _ _ ⟨i+1,_,_,(G++Zak l s.data fuel (Zo (E1.getD i Zj).2.1:Nat)),rfl,rfl,g3,e6,b8,b7,s2,by omega,Cn (by omega) d3 k0 (fun q=>by have:=(Ak (by omega) k0).2 q;rw[r1] at this;cases this)⟩ (by omega))
 refine xe 12 (.slice p ((((f3.map Yd).map (Xk 2))++Yy E3++((f1.map Yd).map (Xk 3))++G).length) c) ?_
 obtain rfl:i=E1.length:=by omega
 have s9:=ho
 rw[List.drop_length] at d3
 obtain rfl:G=Gx l s.data fuel E1 []:=by rw[←d3];exact(List.append_nil _).symm
 exact⟨_,rfl,c7,_,_,rfl,s9⟩
theorem Zaq{L:List Ent}(hs:L.Pairwise (fun x y=>x.1<y.1)){i:Nat}(hi:i<L.length):Pi L (L.getD i Zj).1=some (L.getD i Zj):=by
 rw[show L.getD i Zj=L[i] from by simp[List.getD,hi]]
 induction L generalizing i with
 | nil=>simp at hi
 | cons x L ih =>
  unfold Pi at ih ⊢
  rw[List.pairwise_cons] at hs
  cases i with
  | zero=>simp
  | succ i =>
   have h2:i<L.length:=by simpa using hi
   have:=hs.1 _ (List.getElem_mem h2)
   rw[List.getElem_cons_succ,List.find?_cons,show(x.1==L[i].1)=false from by simpa using fun e=>by omega]
   exact ih hs.2 h2
theorem keyF_no{L:List Ent}{id:Int}(h:∀ x∈L,x.1≠id):Pi L id=none:=List.find?_eq_none.2 fun x hx=>by simpa using h x hx
structure MergeI(D T:List Ent)(i k:Nat)(P:List Int):Prop where
  rise:P.Pairwise (·<·)
  mem:∀ z,z∈P↔(∃ x∈D.take i,x.1=z)∨(∃ x∈T.take k,x.1=z)
  lt:∀ z∈P,(∀ x∈D.drop i,z<x.1)∧(∀ x∈T.drop k,z<x.1)
theorem MergeI.nil(D T:List Ent):MergeI D T 0 0 []:=⟨.nil,fun z=>by simp,fun _ h=>by cases h⟩
theorem MergeI.ids{D T:List Ent}{P:List Int}(h:MergeI D T D.length T.length P):Rv D T P:=⟨h.rise,fun z=>by
 rw[h.mem,List.take_length,List.take_length,List.mem_map,List.mem_map]⟩
theorem MergeI.symm{D T:List Ent}{i k:Nat}{P:List Int}(h:MergeI D T i k P):MergeI T D k i P:=⟨h.rise,fun z=>(h.mem z).trans or_comm,fun z hz=>(h.lt z hz).symm⟩
theorem Aq{P:List Int}{a:Int}(h:P.Pairwise (·<·))(h2:∀ z∈P,z<a):(P++[a]).Pairwise (·<·):=List.pairwise_append.2 ⟨h,by simp,fun x hx y hy=>by rw[List.mem_singleton.1 hy];exact h2 x hx⟩
theorem Pu{L:List Ent}{i:Nat}(hi:i<L.length):L.getD i Zj∈L.drop i∧L.take (i+1)=L.take i++[L.getD i Zj]∧L.drop i=L.getD i Zj::L.drop (i+1):=by
 have e:L.getD i Zj=L[i]:=by simp[List.getD,hi]
 rw[e]
 exact⟨by rw[List.drop_eq_getElem_cons hi];exact List.mem_cons_self,List.take_succ_eq_append_getElem hi,List.drop_eq_getElem_cons hi⟩
theorem Sf{L:List Ent}(hs:L.Pairwise (fun x y=>x.1<y.1)){i:Nat}(hi:i<L.length):∀ x∈L.drop (i+1),(L.getD i Zj).1<x.1:=by
 have h:=hs.sublist (List.drop_sublist i L)
 rw[(Pu hi).2.2,List.pairwise_cons] at h
 exact h.1
theorem MergeI.left{D T:List Ent}{i k:Nat}{P:List Int}(hD:D.Pairwise (fun x y=>x.1<y.1))(hT:T.Pairwise (fun x y=>x.1<y.1))(h:MergeI D T i k P)(hi:i<D.length)(hk:∀ x∈T.drop k,(D.getD i Zj).1<x.1):MergeI D T (i+1) k (P++[(D.getD i Zj).1])∧Pi D (D.getD i Zj).1=some (D.getD i Zj)∧Pi T (D.getD i Zj).1=none:=by
 obtain⟨h1,h2,h3⟩:=Pu hi
 have hl:∀ z∈P,z<(D.getD i Zj).1:=fun z hz=>(h.lt z hz).1 _ h1
 refine⟨⟨Aq h.rise hl,fun z=>?_,fun z hz=>?_⟩,Zaq hD hi,keyF_no fun x hx e=>?_⟩
 ·rw[List.mem_append,List.mem_singleton,h.mem,h2]
  constructor
  ·rintro((⟨x,hx,rfl⟩|h)|rfl)
   ·exact .inl ⟨x,List.mem_append_left _ hx,rfl⟩
   ·exact .inr h
   ·exact .inl ⟨_,List.mem_append_right _ (List.mem_singleton.2 rfl),rfl⟩
  ·rintro(⟨x,hx,rfl⟩|h)
   ·rcases List.mem_append.1 hx with hx|hx
    ·exact .inl (.inl ⟨x,hx,rfl⟩)
    ·rw[List.mem_singleton.1 hx];exact .inr rfl
   ·exact .inl (.inr h)
 ·rcases List.mem_append.1 hz with hz|hz
  ·exact⟨fun x hx=>(h.lt z hz).1 x (by rw[h3];exact List.mem_cons_of_mem _ hx),(h.lt z hz).2⟩
  ·rw[List.mem_singleton.1 hz];exact⟨Sf hD hi,hk⟩
 ·rw[←List.take_append_drop k T] at hx
  rcases List.mem_append.1 hx with hx|hx
  ·have:=hl x.1 ((h.mem _).2 (.inr ⟨x,hx,rfl⟩));omega
  ·have:=hk x hx;omega
theorem MergeI.both{D T:List Ent}{i k:Nat}{P:List Int}(hD:D.Pairwise (fun x y=>x.1<y.1))(hT:T.Pairwise (fun x y=>x.1<y.1))(h:MergeI D T i k P)(hi:i<D.length)(hk:k<T.length)(he:(D.getD i Zj).1=(T.getD k Zj).1):MergeI D T (i+1) (k+1) (P++[(D.getD i Zj).1])∧Pi D (D.getD i Zj).1=some (D.getD i Zj)∧Pi T (D.getD i Zj).1=some (T.getD k Zj):=by
 obtain⟨h1,h2,h3⟩:=Pu hi
 obtain⟨k1,k2,k3⟩:=Pu hk
 have hl:∀ z∈P,z<(D.getD i Zj).1:=fun z hz=>(h.lt z hz).1 _ h1
 refine⟨⟨Aq h.rise hl,fun z=>?_,fun z hz=>?_⟩,Zaq hD hi,by rw[he];exact Zaq hT hk⟩
 ·rw[List.mem_append,List.mem_singleton,h.mem,h2,k2]
  constructor
  ·rintro((⟨x,hx,rfl⟩|⟨x,hx,rfl⟩)|rfl)
   ·exact .inl ⟨x,List.mem_append_left _ hx,rfl⟩
   ·exact .inr ⟨x,List.mem_append_left _ hx,rfl⟩
   ·exact .inl ⟨_,List.mem_append_right _ (List.mem_singleton.2 rfl),rfl⟩
  ·rintro(⟨x,hx,rfl⟩|⟨x,hx,rfl⟩)
   ·rcases List.mem_append.1 hx with hx|hx
    ·exact .inl (.inl ⟨x,hx,rfl⟩)
    ·rw[List.mem_singleton.1 hx];exact .inr rfl
   ·rcases List.mem_append.1 hx with hx|hx
    ·exact .inl (.inr ⟨x,hx,rfl⟩)
    ·rw[List.mem_singleton.1 hx];exact .inr he.symm
 ·rcases List.mem_append.1 hz with hz|hz
  ·exact⟨fun x hx=>(h.lt z hz).1 x (by rw[h3];exact List.mem_cons_of_mem _ hx),fun x hx=>(h.lt z hz).2 x (by rw[k3];exact List.mem_cons_of_mem _ hx)⟩
  ·rw[List.mem_singleton.1 hz];exact⟨Sf hD hi,by rw[he];exact Sf hT hk⟩
theorem Bc{L:List Ent}(hs:L.Pairwise (fun x y=>x.1<y.1)){k:Nat}{a:Int}(h:k<L.length→a<(L.getD k Zj).1):∀ x∈L.drop k,a<x.1:=fun x hx=>by
 by_cases hk:k<L.length
 ·rw[(Pu hk).2.2] at hx
  rcases List.mem_cons.1 hx with rfl|hx
  ·exact h hk
  ·have:=Sf hs hk x hx;have:=h hk;omega
 ·rw[List.drop_eq_nil_of_le (by omega)] at hx;cases hx
theorem Ty{l:Bl}{s:Sup}{fuel:Int}(h:Xs l s fuel=[]):∀ y∈(Zd l s.top 1 fuel).es,Zak l s.data fuel (Zo y.2.1:Nat)=[]:=by
 have hz:=(Ae h).2
 unfold Xs at h
 rw[List.append_eq_nil_iff] at h
 have h4:=h.2
 clear h
 suffices H:∀ (T:List Ent) (a0:List Int),(∀ x∈T,Xo x.2.1=0)→Gx l s.data fuel T a0=[]→∀ y∈T,((Zo y.2.1:Nat):Int)∉a0→Zak l s.data fuel (Zo y.2.1:Nat)=[] from fun y hy=>H _ [] hz h4 y hy (by simp)
 intro T
 induction T with
 | nil=>intro _ _ _ y hy;cases hy
 | cons x T ih =>
  intro a0 h0 h y hy hn
  change Lj l s.data fuel a0 x++Gx l s.data fuel T (Dx a0 x)=[] at h
  rw[List.append_eq_nil_iff] at h
  have hx:((Zo x.2.1:Nat):Int)∉a0→Zak l s.data fuel (Zo x.2.1:Nat)=[]:=fun q=>by
   have:=h.1
   unfold Lj at this
   rwa [if_pos (h0 x List.mem_cons_self),if_neg q] at this
  rcases List.mem_cons.1 hy with rfl|hy
  ·exact hx hn
  ·by_cases q:((Zo y.2.1:Nat):Int)∈Dx a0 x
   ·unfold Dx at q
    split at q
    ·rename_i hc
     rcases List.mem_append.1 q with q|q
     ·exact absurd q hn
     ·rw[List.mem_singleton.1 q];exact hx hc.2
    ·exact absurd q hn
   ·exact ih _ (fun z hz=>h0 z (List.mem_cons_of_mem _ hz)) h.2 y hy q
theorem Zcp{l:Bl}{data fuel r:Int}(h:Zak l data fuel r=[]):(Zd l r 2 fuel).es.map Zfn=Jl l data fuel r:=by
 unfold Zak at h
 rw[List.append_eq_nil_iff] at h
 have h2:=h.2
 unfold Jm at h2
 rw[List.flatMap_eq_nil_iff] at h2
 unfold Jl mapM
 generalize (Zd l r 2 fuel).es=L at h2
 induction L with
 | nil=>rfl
 | cons x L ih =>
  have h3:=h2 x List.mem_cons_self
  have h4:Vj data x.2.1=0:=by
   unfold Ah at h3
   split at h3
   ·assumption
   ·cases h3
  rw[List.map_cons,List.flatMap_cons,Zcj h4,ih fun y hy=>h2 y (List.mem_cons_of_mem _ hy)];rfl
theorem Jr(l:Bl)(data fuel:Int)(D T:List Ent)(P:List Int)(a:Int):Ye l data fuel D T (P++[a])=Ye l data fuel D T P++Zbf l data fuel D T a:=by
 unfold Ye;rw[List.flatMap_append];simp
theorem Js(l:Bl)(data fuel:Int)(D T:List Ent)(P:List Int)(a:Int):Vi l data fuel D T (P++[a])=Vi l data fuel D T P++Zer l data fuel D T a:=by
 unfold Vi;rw[List.flatMap_append];simp
theorem Jp(L:List Dv)(d:Dv):Kt (L++[d])=Kt L+d.2.length:=by unfold Kt;simp
theorem Zbx{es:List Ent}{i:Nat}(hi:i<es.length):((es.take (i+1)).map Zfn).flatMap Hs=((es.take i).map Zfn).flatMap Hs++Hs (Zfn (es.getD i Zj)):=by
 rw[List.take_succ_eq_append_getElem hi,List.map_append,List.flatMap_append,show es.getD i Zj=es[i] from by simp[List.getD,hi]]
 simp
def RDevP(l:Bl)(fuel:Int)(x y:Ent)(w:World)(e:Ending)(w':World):Prop :=
 ∃ q d,e=.returned (.tuple #[.agg #[V0 x.1,V0 (↑(Xu x.2.1 1):Int),V0 (↑(Xu x.2.1 2):Int),V0 (↑(Xu x.2.1 3):Int),.slice q (Zd l (↑(Zo y.2.1):Int) 2 fuel).es.length d],V0 (↑(Xu x.2.1 0):Int)])∧B0 w w'∧w'.ownsRow w.heap.size 164 3 (.slice q (Zd l (↑(Zo y.2.1):Int) 2 fuel).es.length d) (Zd l (↑(Zo y.2.1):Int) 2 fuel).es.length (((Zd l (↑(Zo y.2.1):Int) 2 fuel).es.map Zfn).flatMap Hs)
theorem Mg(Bi bm:Nat)(pi:O0)(ni ci:Nat)(l:Bl)(fuel:Int)(x y:Ent)(w:World)(hI:RefI Bi bm pi ni ci l w)(hfu:fuel≤1000)(hx:x.2.1.length≤1000)(hy:y.2.1.length≤1000) :
 C0 57 #[P0 bm,.agg #[V0 x.1,.string ⟨x.2.1.toArray⟩,V0 x.2.2],.agg #[V0 y.1,.string ⟨y.2.1.toArray⟩,V0 y.2.2],V0 fuel] w (RDevP l fuel x y w):=by
 refine zin 80 Tryz.func57 ?_
 refine xa 2 [V0 x.1,.string ⟨x.2.1.toArray⟩,V0 x.2.2] 123 fun b1 W1 n1=>?_
 refine xa 0 [V0 y.1,.string ⟨y.2.1.toArray⟩,V0 y.2.2] 123 fun b2 W2 n2=>?_
 have j6:=n2.ne n1.blk
 refine xa 0 [V0 0,V0 0,V0 0,V0 0,S0] 61 fun b3 W3 n3=>?_
 have g8:=(n1.blk.below n2.below).below n3.below
 refine xb 6 1 g8 ?_
 refine xr 0 (args:=#[.string ⟨x.2.1.toArray⟩]) (Gn x.2.1 _ hx) fun W4 e9=>?_
 refine xa 3 [V0 0,V0 0,V0 0,V0 0] 202 fun b5 W5 n5=>?_
 refine xsv 0 n5.blk [V0 (↑(Xu x.2.1 0):Int),V0 (↑(Xu x.2.1 1):Int),V0 (↑(Xu x.2.1 2):Int),V0 (↑(Xu x.2.1 3):Int)] fun W6 u6 k6=>?_
 have g5:=n5.ge (bln (bln (bln n1.below n2.below) n3.below) e9)
 have k2:=u6.blkT (((n2.blk.below n3.below).below e9).below n5.below) n5.blk (by decide)
 refine xb 6 1 k2 ?_
 refine xr 0 (args:=#[.string ⟨y.2.1.toArray⟩]) (Hr y.2.1 _ hy) fun W7 e7=>?_
 have hB:=bln (u6.below (bln (bln (bln (bln n1.below n2.below) n3.below) e9) n5.below) g5) e7
 refine xc 12 (args:=#[P0 bm,V0 (↑(Zo y.2.1):Int),V0 2,V0 fuel]) (Ga Bi bm pi ni ci l (↑(Zo y.2.1):Int) 2 fuel _ (hI.below hB) hfu) ?_
 rintro _ W8 ⟨i1,j4,j5,i8,j8,j9,fq,rfl,g6,f0,m4,m9,l4⟩
 have k8:=(bln (u6.below (bln (bln (bln (bln n1.below n2.below) n3.below) e9) n5.below) g5) e7).size
 have m7:=Yp l (↑(Zo y.2.1):Int) 2 fuel hfu
 refine xa 0 [S0,S0,V0 0,V0 0,S0] 119 fun b9 W9 n9=>?_
 have h1:=bln hB g6
 have g9:=n9.ge h1
 refine xsv 0 n9.blk [.slice i1 ((Zd l (↑(Zo y.2.1):Int) 2 fuel).es.length) i8,.slice j4 ((Zd l (↑(Zo y.2.1):Int) 2 fuel).bs.length) j8,V0 ((Zd l (↑(Zo y.2.1):Int) 2 fuel).deep),V0 (↑(Zd l (↑(Zo y.2.1):Int) 2 fuel).looked:Int),.slice j5 fq.length j9] fun n6 e8 l2=>?_
 have h4:=e8.blkT ((((u6.blkT ((g8.below e9).below n5.below) n5.blk (by decide)).below e7).below g6).below n9.below) n9.blk (by decide)
 refine xb 5 0 h4 ?_
 have e3:=e8.blkT (((k6.below e7).below g6).below n9.below) n9.blk (by decide)
 refine xb 1 1 e3 ?_
 refine xb 1 2 e3 ?_
 refine xb 1 3 e3 ?_
 refine xa 1 [V0 0,V0 0,V0 0,V0 0,S0] 61 fun k0 m3 b8=>?_
 have k3:=e8.blkT ((((u6.blkT ((n3.blk.below e9).below n5.below) n5.blk (by decide)).below e7).below g6).below n9.below) n9.blk (by decide)
 have c1:=b8.ne k3
 have f4:=e8.below (bln h1 n9.below) g9
 have f5:=b8.ge f4
 refine xsv 0 b8.blk [V0 x.1,V0 (↑(Xu x.2.1 1):Int),V0 (↑(Xu x.2.1 2):Int),V0 (↑(Xu x.2.1 3):Int),S0] fun l9 e6 l1=>?_
 have g4:=e6.own2 (Zb (e8.own2 (Zb (Zg f0 k8) n9.below) n9.blk (by decide)) b8.below) b8.blk (by decide)
 have i3:=e6.below (bln f4 b8.below) f5
 have i9:=e6.blkT (h4.below b8.below) b8.blk (by decide)
 have h9:=e6.blkT ((e8.blkT (((k2.below e7).below g6).below n9.below) n9.blk (by decide)).below b8.below) b8.blk (by decide)
 have i2:=e6.blk (k3.below b8.below) (Ne.symm (Ne.symm c1))
 have j2:=e6.blkT (e3.below b8.below) b8.blk (by decide)
 have g1:=e6.blkT (l2.below b8.below) b8.blk (by decide)
 refine zl 9 80 (fun zm k5 V=>∃ (i:Nat) (pm:O0) (cm:Nat),k5=[(8,P0 b3),(9,V0 0),(10,P0 b5),(14,P0 b9),(15,P0 k0),(16,V0 (i:Int))]∧zm=(Zd l (↑(Zo y.2.1):Int) 2 fuel).es.length-((i:Int)).toNat∧B0 w V∧Blk V b1 ([V0 x.1,.string ⟨x.2.1.toArray⟩,V0 x.2.2]) 123∧Blk V b2 ([V0 y.1,.string ⟨y.2.1.toArray⟩,V0 y.2.2]) 123∧Blk V b3 ([V0 0,V0 0,V0 0,V0 0,S0]) 61∧Blk V b5 ([V0 (↑(Xu x.2.1 0):Int),V0 (↑(Xu x.2.1 1):Int),V0 (↑(Xu x.2.1 2):Int),V0 (↑(Xu x.2.1 3):Int)]) 202∧Blk V b9 ([.slice i1 ((Zd l (↑(Zo y.2.1):Int) 2 fuel).es.length) i8,.slice j4 ((Zd l (↑(Zo y.2.1):Int) 2 fuel).bs.length) j8,V0 ((Zd l (↑(Zo y.2.1):Int) 2 fuel).deep),V0 (↑(Zd l (↑(Zo y.2.1):Int) 2 fuel).looked:Int),.slice j5 fq.length j9]) 119∧Blk V k0 ([V0 x.1,V0 (↑(Xu x.2.1 1):Int),V0 (↑(Xu x.2.1 2):Int),V0 (↑(Xu x.2.1 3):Int),.slice pm i cm]) 61∧V.ownsRow w.heap.size 123 3 (.slice i1 (Zd l (↑(Zo y.2.1):Int) 2 fuel).es.length i8) (Zd l (↑(Zo y.2.1):Int) 2 fuel).es.length ((Zd l (↑(Zo y.2.1):Int) 2 fuel).es.flatMap Vt)∧V.ownsRow w.heap.size 164 3 (.slice pm i cm) i ((((Zd l (↑(Zo y.2.1):Int) 2 fuel).es.take i).map Zfn).flatMap Hs)∧i≤(Zd l (↑(Zo y.2.1):Int) 2 fuel).es.length) ⟨0,none,0,rfl,rfl,i3,i9,h9,i2,j2,g1,l1,g4,World.ownsRow_nil _ _ _ _,Nat.zero_le _⟩ ?_
 rintro _ _ g7 ⟨i,pm,cm,rfl,rfl,d5,d3,d1,c2,c0,b7,a9,f0,j0,hi⟩ l5 h5 m0
 refine xb 5 0 b7 ?_
 refine xid 4 ((i:Int)<(↑((Zd l (↑(Zo y.2.1):Int) 2 fuel).es.length):Int)) (fun h8=>?_) (fun h8=>?_)
 ·refine xb 7 0 b7 ?_
  refine xx 1 _ ((Zd l (↑(Zo y.2.1):Int) 2 fuel).es.length) i 3 (Sts.cell (f:=Vt) (Zh f0) Zy Zj (k:=i) (i:=0) (by omega) rfl).1 ?_
  refine xl 1 ((Sts.cell (Zh f0) Zy Zj (k:=i) (i:=1) (by omega) rfl).2) ?_
  refine xr 0 (args:=#[.string ⟨(((Zd l (↑(Zo y.2.1):Int) 2 fuel).es.getD i Zj).2.1).toArray⟩]) (Pd ((Zd l (↑(Zo y.2.1):Int) 2 fuel).es.getD i Zj).2.1 _ (Yq _ _ _ _ i (by omega))) fun b6 a2=>?_
  refine xd 9 (.t w.heap.size [164,61]) ?_
  have a5:=(b7.below a2).below (Za b6)
  refine xbt (.e [0,2] 3) 0 w.heap.size [164,61] a5 ?_
  have c3:=Zb (Zb f0 a2) (Za b6)
  refine xx (.e [4] 5) _ ((Zd l (↑(Zo y.2.1):Int) 2 fuel).es.length) i 3 (Sts.cell (f:=Vt) (Zh c3) Zy Zj (k:=i) (i:=0) (by omega) rfl).1 ?_
  refine xlt (.e [6] 7) (.t w.heap.size [164,61]) (fun V hV=>(Sts.cell (Zh (Zn c3 hV.2 (by decide))) Zy Zj (k:=i) (i:=0) (by omega) rfl).2) ?_
  refine xm2 (.b [8,9,10]) 1 11 ?_ ?_
  ·have a7:=(a9.below a2).below (Za b6)
   refine xb 0 4 a7 ?_
   refine xbs (.o [] 11) 1 [V0 (((Zd l (↑(Zo y.2.1):Int) 2 fuel).es.getD i Zj).1),V0 (↑(Mb ((Zd l (↑(Zo y.2.1):Int) 2 fuel).es.getD i Zj).2.1):Int),V0 (↑(Ef ((Zd l (↑(Zo y.2.1):Int) 2 fuel).es.getD i Zj).2.1):Int)] 164 fun m1 l6 c5=>?_
   have h2:=bln (bln d5 a2) (Za b6)
   have m2:=c5.ge h2
   have e5:=Zb (Zb j0 a2) (Za b6)
   have h7:=Zx e5 c5
   have a3:=Zb e5 c5.below
   have f8:=bln h2 c5.below
   refine ybi (.o [] 12) (.t w.heap.size [164,61]) fun _ _ _ _ zJ zQ zo zx zy zK=>Zw (m:=1) (news:=[V0 (((Zd l (↑(Zo y.2.1):Int) 2 fuel).es.getD i Zj).1),V0 (↑(Mb ((Zd l (↑(Zo y.2.1):Int) 2 fuel).es.getD i Zj).2.1):Int),V0 (↑(Ef ((Zd l (↑(Zo y.2.1):Int) 2 fuel).es.getD i Zj).2.1):Int)]) (.agg #[V0 0,V0 0,V0 0]) 3 24 ((i+1)) (((((Zd l (↑(Zo y.2.1):Int) 2 fuel).es.take (i+1)).map Zfn).flatMap Hs)) zo Tryz.underlying59 (by kernel_rfl) rfl (by decide) zx a3 zy (c5.blk.sl 1 1 (by decide) (by decide)) rfl (by simp[Value.oneCell']) (by unfold maxLen;omega) (by omega) f8.size (rfl) (by rw[Zbx (by omega)];rfl) fun i5 i6 m5 k4 b4 g0=>?_
   refine zK _ _ (Zu g0 b4 a3 (by decide)) ?_
   have a0:=(a7.below c5.below).grown b4 a3 (by decide)
   refine ys (.o [13] 14) a0 [V0 x.1,V0 (↑(Xu x.2.1 1):Int),V0 (↑(Xu x.2.1 2):Int),V0 (↑(Xu x.2.1 3):Int),.slice i5 (i+1) i6] (.t w.heap.size [164,61]) fun m6 e1 k1=>⟨(Zp e1 a0 f5 (by decide)),?_⟩
   refine xwm 5 ((i:Int)+1) (↑(i+1):Int) ?_
   have i7:=e1.below (f8.trans g0) f5
   have c9:=e1.blkT ((((d3.below a2).below (Za b6)).below c5.below).grown b4 a3 (by decide)) a0 (by decide)
   have d2:=e1.blkT ((((d1.below a2).below (Za b6)).below c5.below).grown b4 a3 (by decide)) a0 (by decide)
   have d8:=e1.blk ((((c2.below a2).below (Za b6)).below c5.below).grown b4 a3 (by decide)) (Ne.symm (Ne.symm c1))
   have d6:=e1.blkT ((((c0.below a2).below (Za b6)).below c5.below).grown b4 a3 (by decide)) a0 (by decide)
   have c8:=e1.blkT ((a5.below c5.below).grown b4 a3 (by decide)) a0 (by decide)
   have f9:=e1.own2 (Zf (Zb c3 c5.below) b4 a3 (by decide)) a0 (by decide)
   have g2:=e1.own2 k4 a0 (by decide)
   exact ze 2 (h5 _ _ _ ⟨i+1,_,_,rfl,rfl,i7,c9,d2,d8,d6,c8,k1,f9,g2,by omega⟩ (by omega))
  refine xbs 0 1 [V0 (((Zd l (↑(Zo y.2.1):Int) 2 fuel).es.getD i Zj).1),V0 (↑(Mb ((Zd l (↑(Zo y.2.1):Int) 2 fuel).es.getD i Zj).2.1):Int),V0 (↑(Ef ((Zd l (↑(Zo y.2.1):Int) 2 fuel).es.getD i Zj).2.1):Int)] 164 fun l8 n4 c6=>?_
  have f2:=bln (bln d5 a2) (Za b6)
  have l7:=c6.ge f2
  have e4:=Zb (Zb j0 a2) (Za b6)
  have h6:=Zx e4 c6
  have a8:=((a9.below a2).below (Za b6)).below c6.below
  refine xb (.o [] 1) 4 a8 ?_
  have a4:=Zb e4 c6.below
  have f7:=bln f2 c6.below
  refine ybi (.o [] 12) (.t w.heap.size [164,61]) fun _ _ _ _ zJ zQ zo zx zy zK=>Zw (m:=1) (news:=[V0 (((Zd l (↑(Zo y.2.1):Int) 2 fuel).es.getD i Zj).1),V0 (↑(Mb ((Zd l (↑(Zo y.2.1):Int) 2 fuel).es.getD i Zj).2.1):Int),V0 (↑(Ef ((Zd l (↑(Zo y.2.1):Int) 2 fuel).es.getD i Zj).2.1):Int)]) (.agg #[V0 0,V0 0,V0 0]) 3 24 ((i+1)) (((((Zd l (↑(Zo y.2.1):Int) 2 fuel).es.take (i+1)).map Zfn).flatMap Hs)) zo Tryz.underlying59 (by kernel_rfl) rfl (by decide) zx a4 zy (c6.blk.sl 1 1 (by decide) (by decide)) rfl (by simp[Value.oneCell']) (by unfold maxLen;omega) (by omega) f7.size (rfl) (by rw[Zbx (by omega)];rfl) fun j1 j3 n0 k9 b0 f1=>?_
  refine zK _ _ (Zu f1 b0 a4 (by decide)) ?_
  have a1:=a8.grown b0 a4 (by decide)
  refine ys (.o [13] 14) a1 [V0 x.1,V0 (↑(Xu x.2.1 1):Int),V0 (↑(Xu x.2.1 2):Int),V0 (↑(Xu x.2.1 3):Int),.slice j1 (i+1) j3] (.t w.heap.size [164,61]) fun l3 e2 k7=>⟨(Zp e2 a1 f5 (by decide)),?_⟩
  refine xwm 5 ((i:Int)+1) (↑(i+1):Int) ?_
  have i0:=e2.below (f7.trans f1) f5
  have d0:=e2.blkT ((((d3.below a2).below (Za b6)).below c6.below).grown b0 a4 (by decide)) a1 (by decide)
  have d4:=e2.blkT ((((d1.below a2).below (Za b6)).below c6.below).grown b0 a4 (by decide)) a1 (by decide)
  have d9:=e2.blk ((((c2.below a2).below (Za b6)).below c6.below).grown b0 a4 (by decide)) (Ne.symm (Ne.symm c1))
  have d7:=e2.blkT ((((c0.below a2).below (Za b6)).below c6.below).grown b0 a4 (by decide)) a1 (by decide)
  have e0:=e2.blkT ((a5.below c6.below).grown b0 a4 (by decide)) a1 (by decide)
  have f6:=e2.own2 (Zf (Zb c3 c6.below) b0 a4 (by decide)) a1 (by decide)
  have h0:=e2.own2 k9 a1 (by decide)
  exact ze 2 (h5 _ _ _ ⟨i+1,_,_,rfl,rfl,i0,d0,d4,d9,d7,e0,k7,f6,h0,by omega⟩ (by omega))
 refine xd 6 (.t w.heap.size [61]) ?_
 have c7:=c0.below (Za g7)
 refine xbt (.e [1] 2) 0 w.heap.size [61] c7 ?_
 have c4:=a9.below (Za g7)
 refine xlv (.o [] 0) c4.rp ?_
 have a6:=c2.below (Za g7)
 have g3:=n3.ge (bln n1.below n2.below)
 refine ysv (.o [] 3) a6 [V0 x.1,V0 (↑(Xu x.2.1 1):Int),V0 (↑(Xu x.2.1 2):Int),V0 (↑(Xu x.2.1 3):Int),.slice pm i cm] (.t w.heap.size [61]) fun m8 i4 l0=>⟨(Zp i4 a6 g3 (by decide)),?_⟩
 have h3:=i4.own2 (Zb j0 (Za g7)) a6 (by decide)
 have f3:=i4.below (bln d5 (Za g7)) g3
 refine xec (.r [4] 3) l0 (.tuple #[.agg #[V0 x.1,V0 (↑(Xu x.2.1 1):Int),V0 (↑(Xu x.2.1 2):Int),V0 (↑(Xu x.2.1 3):Int),.slice pm i cm],V0 (↑(Xu x.2.1 0):Int)]) ?_
 obtain rfl:i=(Zd l (↑(Zo y.2.1):Int) 2 fuel).es.length:=by omega
 have j7:=h3
 rw[List.take_length] at j7
 exact⟨_,_,rfl,f3,j7⟩
theorem Zbs(l:Bl)(root tree fuel:Int):∀ x∈(Zd l root tree fuel).es,x.2.1.length≤1000:=fun x hx=>by
 obtain⟨i,hi,rfl⟩:=List.mem_iff_getElem.1 hx
 have:=Yq l root tree fuel i hi
 rwa [show(Zd l root tree fuel).es.getD i Zj=(Zd l root tree fuel).es[i] from by simp[List.getD,hi]] at this
theorem sumM_few{L:List Dv}{n:Nat}(h:∀ d∈L,d.2.length≤n):Kt L≤L.length*n:=by
 unfold Kt
 induction L with
 | nil=>simp
 | cons d L ih =>
  have:=h d List.mem_cons_self
  have:=ih fun x hx=>h x (List.mem_cons_of_mem _ hx)
  simp only[List.map_cons,List.sum_cons,List.length_cons,Nat.add_mul];omega
theorem Fl(Bi bm:Nat)(pi:O0)(ni ci:Nat)(l:Bl)(s:Sup)(fuel:Int)(w:World)(hI:RefI Bi bm pi ni ci l w)(hfu:fuel≤1000) :
 C0 20 #[P0 bm,.agg #[V0 s.tx,V0 s.time,V0 s.unit,V0 s.data,V0 s.blocks,V0 s.top,V0 s.details,V0 s.dslots,V0 s.dover,V0 s.mindex,V0 s.mover],V0 fuel] w (Ut (audX l s fuel) s w):=by
 have lv:=Rf l s fuel hfu
 refine zin 195 Tryz.func20 ?_
 refine xa 2 [V0 s.tx,V0 s.time,V0 s.unit,V0 s.data,V0 s.blocks,V0 s.top,V0 s.details,V0 s.dslots,V0 s.dover,V0 s.mindex,V0 s.mover] 44 fun b1 W1 n1=>?_
 refine xa 0 [V0 0,V0 0,V0 0,V0 0,S0] 24 fun b2 W2 n2=>?_
 have k1:=n1.blk.below n2.below
 refine xb 7 6 k1 ?_
 have hB:=bln n1.below n2.below
 refine xc 1 (args:=#[P0 bm,V0 s.details,V0 3,V0 fuel]) (Ga Bi bm pi ni ci l s.details 3 fuel _ (hI.below hB) hfu) ?_
 rintro _ W3 ⟨cj,eh,ec,dg,dz,dv,f3,rfl,dt,z4,hv,gz,jb⟩
 have gw:=(bln n1.below n2.below).size
 have mb:=Yp l s.details 3 fuel hfu
 have en:=congrArg List.length gz
 rw[List.length_map] at en
 refine xa 0 [S0,S0,V0 0,V0 0,S0] 119 fun b4 W4 n4=>?_
 have y1:=bln hB dt
 have g4:=n4.ge y1
 refine xsv 0 n4.blk [.slice cj ((Zd l s.details 3 fuel).es.length) dg,.slice eh ((Zd l s.details 3 fuel).bs.length) dz,V0 ((Zd l s.details 3 fuel).deep),V0 (↑(Zd l s.details 3 fuel).looked:Int),.slice ec f3.length dv] fun W5 u5 k5=>?_
 have dk:=u5.blkT ((k1.below dt).below n4.below) n4.blk (by decide)
 refine xb 6 5 dk ?_
 have cv:=u5.below (bln y1 n4.below) g4
 refine xc 1 (args:=#[P0 bm,V0 s.top,V0 1,V0 fuel]) (Ga Bi bm pi ni ci l s.top 1 fuel _ (hI.below cv) hfu) ?_
 rintro _ W6 ⟨cc,ds,eb,bx,ea,ed,f1,rfl,s7,ce,ht,gx,iy⟩
 have gv:=(u5.below (bln y1 n4.below) g4).size
 have kw:=Yp l s.top 1 fuel hfu
 have fu:=congrArg List.length gx
 rw[List.length_map] at fu
 refine xa 0 [S0,S0,V0 0,V0 0,S0] 119 fun b7 W7 n7=>?_
 have cm:=k5.below s7
 have db:=n7.ne cm
 have w4:=bln cv s7
 have g7:=n7.ge w4
 refine xsv 0 n7.blk [.slice cc ((Zd l s.top 1 fuel).es.length) bx,.slice ds ((Zd l s.top 1 fuel).bs.length) ea,V0 ((Zd l s.top 1 fuel).deep),V0 (↑(Zd l s.top 1 fuel).looked:Int),.slice eb f1.length ed] fun W8 u8 k8=>?_
 have co:=u8.blkT ((dk.below s7).below n7.below) n7.blk (by decide)
 refine xlv 5 co.rp ?_
 have ac:=u8.blk (cm.below n7.below) (Ne.symm (Ne.symm db))
 refine xlv 1 ac.rp ?_
 refine xlv 0 k8.rp ?_
 have da:=((((jb.below n4.below).only (Ze.of_upd (T:=[119]) u5 n4.blk (by decide)) (by decide)).below s7).below n7.below).only (Ze.of_upd (T:=[119]) u8 n7.blk (by decide)) (by decide)
 have z8:=(iy.below n7.below).only (Ze.of_upd (T:=[119]) u8 n7.blk (by decide)) (by decide)
 have v5:=u8.own2 (Zb (Zb (u5.own2 (Zb (Zg z4 gw) n4.below) n4.blk (by decide)) s7) n7.below) n7.blk (by decide)
 have t3:=u8.own2 (Zb (Zg ce gv) n7.below) n7.blk (by decide)
 have ai:=u8.own2 (Zb (Zb (u5.own2 (Zb (Zg hv gw) n4.below) n4.blk (by decide)) s7) n7.below) n7.blk (by decide)
 have bk:=u8.own2 (Zb (Zg ht gv) n7.below) n7.blk (by decide)
 have gn:=da.mono (Nat.zero_le _)
 have ga:=z8.mono (Nat.zero_le _)
 have y2:=u8.below (bln w4 n7.below) g7
 refine xc 0 (args:=#[P0 bm,.agg #[V0 s.tx,V0 s.time,V0 s.unit,V0 s.data,V0 s.blocks,V0 s.top,V0 s.details,V0 s.dslots,V0 s.dover,V0 s.mindex,V0 s.mover],V0 fuel,.agg #[.slice cj ((Zd l s.details 3 fuel).es.length) dg,.slice eh ((Zd l s.details 3 fuel).bs.length) dz,V0 ((Zd l s.details 3 fuel).deep),V0 (↑(Zd l s.details 3 fuel).looked:Int),.slice ec f3.length dv],.agg #[.slice cc ((Zd l s.top 1 fuel).es.length) bx,.slice ds ((Zd l s.top 1 fuel).bs.length) ea,V0 ((Zd l s.top 1 fuel).deep),V0 (↑(Zd l s.top 1 fuel).looked:Int),.slice eb f1.length ed]]) (Zaj 0 Bi bm pi ni ci l s fuel cj eh ec cc ds eb dg dz dv bx ea ed _ _ _ _ _ _ (Zd l s.details 3 fuel).es (Zd l s.top 1 fuel).es f3 f1 _ (hI.below y2) hfu (by omega) (by omega) (Zh v5) (Zh t3) (Zh ai) (Zh bk) gn ga (by omega) (by omega) (Zbs _ _ _ _) (Zbs _ _ _ _)) ?_
 rintro _ W9 ⟨_,rfl,s1,pt,ct,rfl,ih⟩
 have ja:=(u8.below (bln w4 n7.below) g7).size
 have r7:=Zg ih ja
 have e8:(((f3.map Yd).map (Xk 2))++Yy (Zd l s.details 3 fuel).es++((f1.map Yd).map (Xk 3))++Gx l s.data fuel (Zd l s.top 1 fuel).es [])=(Xs l s fuel):=by unfold Xs;rw[gz,gx]
 rw[e8] at r7
 refine xv1 5 10 (show(.slice pt ((((f3.map Yd).map (Xk 2))++Yy (Zd l s.details 3 fuel).es++((f1.map Yd).map (Xk 3))++Gx l s.data fuel (Zd l s.top 1 fuel).es []).length) ct:Value)=.slice pt ((Xs l s fuel).length) ct from(by rw[e8])) ?_
 refine xid 6 ((↑((Xs l s fuel).length):Int)>(0:Int)) (fun fa=>?_) (fun fa=>?_)
 ·have m0:(Xs l s fuel)≠[]:=fun q=>by have h9:=congrArg List.length q;simp only[List.length_nil] at h9;omega
  have k2:=(u8.blkT (((u5.blkT ((n2.blk.below dt).below n4.below) n4.blk (by decide)).below s7).below n7.below) n7.blk (by decide)).below s1
  refine xsv 4 k2 [V0 0,V0 0,V0 0,V0 0,S0] fun md hh hm=>?_
  have g2:=n2.ge n1.below
  have dj:=hh.own2 r7 k2 (by decide)
  have eu:=hh.below (bln y2 s1) g2
  exact xec 5 hm (.tuple #[.agg #[V0 0,V0 0,V0 0,V0 0,S0],.slice pt ((Xs l s fuel).length) ct]) (Kq (Fm m0) m0 rfl rfl eu dj)
 have m0:(Xs l s fuel)=[]:=List.eq_nil_of_length_eq_zero (by omega)
 have t1:=(Hz l s.details 3 fuel).2.2.2.1
 have u7:=(Hz l s.top 1 fuel).2.2.2.1
 have p5:=co.below s1
 refine xb 5 0 p5 ?_
 refine xb 1 1 p5 ?_
 refine xb 1 2 p5 ?_
 refine xb 1 3 p5 ?_
 refine xa 1 [V0 0,V0 0,V0 0,V0 0,S0] 24 fun ha ki i8=>?_
 have k2:=(u8.blkT (((u5.blkT ((n2.blk.below dt).below n4.below) n4.blk (by decide)).below s7).below n7.below) n7.blk (by decide)).below s1
 have f4:=i8.ne k2
 have bg:=bln y2 s1
 have bd:=i8.ge bg
 refine xsv 0 i8.blk [V0 s.tx,V0 s.time,V0 s.unit,V0 s.data,S0] fun lm t2 iz=>?_
 have ae:=t2.own2 (Zb r7 i8.below) i8.blk (by decide)
 have cu:=ae
 rw[m0] at cu
 refine xv1 19 10 (show(.slice pt ((Xs l s fuel).length) ct:Value)=.slice pt ((Ye l s.data fuel (Zd l s.details 3 fuel).es (Zd l s.top 1 fuel).es []).length) ct from(by rw[m0];rfl)) ?_
 have bp:=t2.own2 (Zb (Zb v5 s1) i8.below) i8.blk (by decide)
 have z7:=t2.own2 (Zb (Zb t3 s1) i8.below) i8.blk (by decide)
 have fz:=t2.below (bln bg i8.below) bd
 have ey:=t2.blkT (p5.below i8.below) i8.blk (by decide)
 have ep:=t2.blk (k2.below i8.below) (Ne.symm (Ne.symm f4))
 have gj:=t2.blkT ((ac.below s1).below i8.below) i8.blk (by decide)
 have fq:=t2.blkT ((k8.below s1).below i8.below) i8.blk (by decide)
 refine zl 0 195 (fun zm ig V=>∃ (i k:Nat) (P:List Int) (pt:O0) (ct:Nat) (pz:O0) (cz:Nat) (Z:List Zv),ig=[(0,P0 bm),(2,V0 fuel),(6,P0 b2),(7,S0),(8,P0 b4),(9,P0 b7),(10,.slice pt ((Ye l s.data fuel (Zd l s.details 3 fuel).es (Zd l s.top 1 fuel).es P).length) ct),(11,P0 ha),(12,V0 (↑(Kt (Vi l s.data fuel (Zd l s.details 3 fuel).es (Zd l s.top 1 fuel).es P)):Int)),(13,V0 (i:Int)),(14,V0 (k:Int))]∧zm=((Zd l s.details 3 fuel).es.length+(Zd l s.top 1 fuel).es.length)-(((i:Int)).toNat+((k:Int)).toNat)∧B0 w V∧Blk V b1 ([V0 s.tx,V0 s.time,V0 s.unit,V0 s.data,V0 s.blocks,V0 s.top,V0 s.details,V0 s.dslots,V0 s.dover,V0 s.mindex,V0 s.mover]) 44∧Blk V b2 ([V0 0,V0 0,V0 0,V0 0,S0]) 24∧Blk V b4 ([.slice cj ((Zd l s.details 3 fuel).es.length) dg,.slice eh ((Zd l s.details 3 fuel).bs.length) dz,V0 ((Zd l s.details 3 fuel).deep),V0 (↑(Zd l s.details 3 fuel).looked:Int),.slice ec f3.length dv]) 119∧Blk V b7 ([.slice cc ((Zd l s.top 1 fuel).es.length) bx,.slice ds ((Zd l s.top 1 fuel).bs.length) ea,V0 ((Zd l s.top 1 fuel).deep),V0 (↑(Zd l s.top 1 fuel).looked:Int),.slice eb f1.length ed]) 119∧Blk V ha ([V0 s.tx,V0 s.time,V0 s.unit,V0 s.data,.slice pz Z.length cz]) 24∧V.ownsRow w.heap.size 123 3 (.slice cj (Zd l s.details 3 fuel).es.length dg) (Zd l s.details 3 fuel).es.length ((Zd l s.details 3 fuel).es.flatMap Vt)∧V.ownsRow w.heap.size 123 3 (.slice cc (Zd l s.top 1 fuel).es.length bx) (Zd l s.top 1 fuel).es.length ((Zd l s.top 1 fuel).es.flatMap Vt)∧V.ownsRow w.heap.size 100 3 (.slice pt (Ye l s.data fuel (Zd l s.details 3 fuel).es (Zd l s.top 1 fuel).es P).length ct) (Ye l s.data fuel (Zd l s.details 3 fuel).es (Zd l s.top 1 fuel).es P).length ((Ye l s.data fuel (Zd l s.details 3 fuel).es (Zd l s.top 1 fuel).es P).flatMap dmc)∧V.ownsRow w.heap.size 61 5 (.slice pz Z.length cz) Z.length (Z.flatMap Lg)∧Yj w.heap.size V Z∧i≤(Zd l s.details 3 fuel).es.length∧k≤(Zd l s.top 1 fuel).es.length∧MergeI (Zd l s.details 3 fuel).es (Zd l s.top 1 fuel).es i k P∧Z.map Prod.fst=(Vi l s.data fuel (Zd l s.details 3 fuel).es (Zd l s.top 1 fuel).es P)∧P.length≤i+k) ⟨0,0,[],_,_,none,0,[],rfl,rfl,fz,ey,ep,gj,fq,iz,bp,z7,cu,World.ownsRow_nil _ _ _ _,Yj.nil _ _,Nat.zero_le _,Nat.zero_le _,MergeI.nil _ _,rfl,Nat.le_refl _⟩ ?_
 rintro _ _ a0 ⟨i,k,P,pt,ct,pz,cz,Z,rfl,rfl,b5,c4,a1,i3,k0,a6,z4,ce,ho,v9,s0,hi,hk,l2,hZ,mc⟩ lg j0 mj
 have kc:=Bg l s.data fuel (Zd l s.details 3 fuel).es (Zd l s.top 1 fuel).es P
 have mh:=Lu l s.data fuel (Zd l s.details 3 fuel).es (Zd l s.top 1 fuel).es P
 have ix:=congrArg List.length hZ
 rw[List.length_map] at ix
 have kg:=sumM_few (n:=18001) (L:=(Vi l s.data fuel (Zd l s.details 3 fuel).es (Zd l s.top 1 fuel).es P)) (Zcg hfu)
 have ip:(Vi l s.data fuel (Zd l s.details 3 fuel).es (Zd l s.top 1 fuel).es P).length*18001≤36002*18001:=Nat.mul_le_mul_right _ (by omega)
 refine xb 5 0 i3 ?_
 refine xg 3 [51,52] (decide ((i:Int)<(↑((Zd l s.details 3 fuel).es.length):Int))) (fun p1=>?_) (fun p1=>?_)
 ·have p1:=of_decide_eq_true p1
  refine xd 14 .z ?_
  have c2:=k0.below (Za a0)
  refine xb (.e [0,1] 2) 0 c2 ?_
  refine xg (.b [3,4,5]) [63,64] ((k:Int)==(↑((Zd l s.top 1 fuel).es.length):Int)) (fun n3=>?_) (fun n3=>?_)
  ·have n3:=eq_of_beq n3
   have j2:=i3.below (Za a0)
   refine xb (.r [6,7,8,9,10,11,12,13,14,15,16,17,18,19,20,21,22,23,24,25,26] 7) 0 j2 ?_
   have r8:=Zb z4 (Za a0)
   refine xx 1 _ ((Zd l s.details 3 fuel).es.length) i 3 (Sts.cell (f:=Vt) (Zh r8) Zy Zj (k:=i) (i:=0) (by omega) rfl).1 ?_
   refine xl 1 ((Sts.cell (Zh r8) Zy Zj (k:=i) (i:=0) (by omega) rfl).2) ?_
   refine xr 0 (args:=#[V0 4,V0 (((Zd l s.details 3 fuel).es.getD i Zj).1),V0 18]) (Xx 4 (((Zd l s.details 3 fuel).es.getD i Zj).1) 18 _) fun jo e5=>?_
   refine xbs 0 1 [V0 4,V0 (((Zd l s.details 3 fuel).es.getD i Zj).1),V0 18] 100 fun jc ju k7=>?_
   have z1:=bln (bln b5 (Za a0)) e5
   have ke:=k7.ge z1
   have az:=Zb (Zb ho (Za a0)) e5
   have fn:=Zx az k7
   have f8:=Zb az k7.below
   have cy:=bln z1 k7.below
   refine xbi 0 fun _ _ _ _ zJ zQ zo zx zy zK=>Zw (m:=1) (news:=[V0 4,V0 (((Zd l s.details 3 fuel).es.getD i Zj).1),V0 18]) (.agg #[V0 0,V0 0,V0 0]) 3 24 (((Ye l s.data fuel (Zd l s.details 3 fuel).es (Zd l s.top 1 fuel).es P)++[((4:Int),((Zd l s.details 3 fuel).es.getD i Zj).1,(18:Int))]).length) ((((Ye l s.data fuel (Zd l s.details 3 fuel).es (Zd l s.top 1 fuel).es P)++[((4:Int),((Zd l s.details 3 fuel).es.getD i Zj).1,(18:Int))]).flatMap dmc)) zo Tryz.underlying47 (by kernel_rfl) rfl (by decide) zx f8 zy (k7.blk.sl 1 1 (by decide) (by decide)) rfl (by simp[Value.oneCell']) (by unfold maxLen;omega) (by omega) cy.size ((List.length_append (bs:=[_])).symm) (Jd _ ((4:Int),((Zd l s.details 3 fuel).es.getD i Zj).1,(18:Int))) fun de cl kx hy i2 ex=>?_
   refine zK _ _ ?_
   refine xwm 6 ((i:Int)+1) (↑(i+1):Int) ?_
   have b6:=l2.left t1 u7 (by omega) (Bc u7 (fun q=>by omega))
   have eg:Ye l s.data fuel (Zd l s.details 3 fuel).es (Zd l s.top 1 fuel).es (P++[((Zd l s.details 3 fuel).es.getD i Zj).1])=_:=(Jr _ _ _ _ _ _ _).trans (congrArg (_++·) (Nm b6.2.1 b6.2.2))
   have ev:Vi l s.data fuel (Zd l s.details 3 fuel).es (Zd l s.top 1 fuel).es (P++[((Zd l s.details 3 fuel).es.getD i Zj).1])=_:=(Js _ _ _ _ _ _ _).trans (congrArg (_++·) (Nw b6.2.1 b6.2.2))
   rw[List.append_nil] at ev
   have dc:=Zf (Zb (Zb r8 e5) k7.below) i2 f8 (by decide)
   have dn:=Zf (Zb (Zb (Zb ce (Za a0)) e5) k7.below) i2 f8 (by decide)
   refine xv1 6 10 (show(.slice de (((Ye l s.data fuel (Zd l s.details 3 fuel).es (Zd l s.top 1 fuel).es P)++[((4:Int),((Zd l s.details 3 fuel).es.getD i Zj).1,(18:Int))]).length) cl:Value)=.slice de ((Ye l s.data fuel (Zd l s.details 3 fuel).es (Zd l s.top 1 fuel).es (P++[((Zd l s.details 3 fuel).es.getD i Zj).1])).length) cl from(by first|rw[eg]|rw[ev])) ?_
   refine xv1 0 12 (show(V0 (↑(Kt (Vi l s.data fuel (Zd l s.details 3 fuel).es (Zd l s.top 1 fuel).es P)):Int):Value)=V0 (↑(Kt (Vi l s.data fuel (Zd l s.details 3 fuel).es (Zd l s.top 1 fuel).es (P++[((Zd l s.details 3 fuel).es.getD i Zj).1]))):Int) from(by first|rw[eg]|rw[ev])) ?_
   have y9:=cy.trans ex
   have r1:=(((c4.below (Za a0)).below e5).below k7.below).grown i2 f8 (by decide)
   have q3:=(((a1.below (Za a0)).below e5).below k7.below).grown i2 f8 (by decide)
   have q5:=((j2.below e5).below k7.below).grown i2 f8 (by decide)
   have p9:=((c2.below e5).below k7.below).grown i2 f8 (by decide)
   have l8:=(((a6.below (Za a0)).below e5).below k7.below).grown i2 f8 (by decide)
   have cw:=Zf (Zb (Zb (Zb v9 (Za a0)) e5) k7.below) i2 f8 (by decide)
   have bt:=(((s0.below (Za a0)).below e5).below k7.below).only (Ze.of_grown (T:=[100]) i2 f8 (by decide)) (by decide)
   exact ze 0 (j0 _ _ _ ⟨i+1,k,(P++[((Zd l s.details 3 fuel).es.getD i Zj).1]),_,_,_,_,Z,rfl,rfl,y9,r1,q3,q5,p9,l8,dc,dn,(by rw[eg];exact hy),cw,bt,by omega,by omega,b6.1,hZ.trans ev.symm,by rw[List.length_append,List.length_singleton];omega⟩ (by omega))
  have n3:=Xl n3
  have c1:=i3.below (Za a0)
  refine xb (.e [6,7] 8) 0 c1 ?_
  refine xgk (.b [9,10,11]) [69,70] (show(decide ((i:Int)<(↑((Zd l s.details 3 fuel).es.length):Int)):Bool)=true from(decide_eq_true (by omega))) ?_
  refine xb (.e [12] 13) 0 c1 ?_
  have h7:=Zb z4 (Za a0)
  refine xx (.e [14] 15) _ ((Zd l s.details 3 fuel).es.length) i 3 (Sts.cell (f:=Vt) (Zh h7) Zy Zj (k:=i) (i:=0) (by omega) rfl).1 ?_
  refine xl (.e [16] 17) ((Sts.cell (Zh h7) Zy Zj (k:=i) (i:=0) (by omega) rfl).2) ?_
  refine xb (.e [18] 19) 0 c2 ?_
  have l0:=Zb ce (Za a0)
  refine xx (.e [20] 21) _ ((Zd l s.top 1 fuel).es.length) k 3 (Sts.cell (f:=Vt) (Zh l0) Zy Zj (k:=k) (i:=0) (by omega) rfl).1 ?_
  refine xl (.e [22] 23) ((Sts.cell (Zh l0) Zy Zj (k:=k) (i:=0) (by omega) rfl).2) ?_
  refine xid (.r [24,25,26] 2) (((Zd l s.details 3 fuel).es.getD i Zj).1<((Zd l s.top 1 fuel).es.getD k Zj).1) (fun fx=>?_) (fun fx=>?_)
  ·refine xb 4 0 c1 ?_
   refine xx 1 _ ((Zd l s.details 3 fuel).es.length) i 3 (Sts.cell (f:=Vt) (Zh h7) Zy Zj (k:=i) (i:=0) (by omega) rfl).1 ?_
   refine xl 1 ((Sts.cell (Zh h7) Zy Zj (k:=i) (i:=0) (by omega) rfl).2) ?_
   refine xr 0 (args:=#[V0 4,V0 (((Zd l s.details 3 fuel).es.getD i Zj).1),V0 18]) (Xx 4 (((Zd l s.details 3 fuel).es.getD i Zj).1) 18 _) fun mm e3=>?_
   refine xbs 0 1 [V0 4,V0 (((Zd l s.details 3 fuel).es.getD i Zj).1),V0 18] 100 fun jf kt l4=>?_
   have s5:=bln (bln b5 (Za a0)) e3
   have lc:=l4.ge s5
   have ba:=Zb (Zb ho (Za a0)) e3
   have et:=Zx ba l4
   have f9:=Zb ba l4.below
   have v3:=bln s5 l4.below
   refine xbi 0 fun _ _ _ _ zJ zQ zo zx zy zK=>Zw (m:=1) (news:=[V0 4,V0 (((Zd l s.details 3 fuel).es.getD i Zj).1),V0 18]) (.agg #[V0 0,V0 0,V0 0]) 3 24 (((Ye l s.data fuel (Zd l s.details 3 fuel).es (Zd l s.top 1 fuel).es P)++[((4:Int),((Zd l s.details 3 fuel).es.getD i Zj).1,(18:Int))]).length) ((((Ye l s.data fuel (Zd l s.details 3 fuel).es (Zd l s.top 1 fuel).es P)++[((4:Int),((Zd l s.details 3 fuel).es.getD i Zj).1,(18:Int))]).flatMap dmc)) zo Tryz.underlying47 (by kernel_rfl) rfl (by decide) zx f9 zy (l4.blk.sl 1 1 (by decide) (by decide)) rfl (by simp[Value.oneCell']) (by unfold maxLen;omega) (by omega) v3.size ((List.length_append (bs:=[_])).symm) (Jd _ ((4:Int),((Zd l s.details 3 fuel).es.getD i Zj).1,(18:Int))) fun dp ap je hq i0 fr=>?_
   refine zK _ _ ?_
   refine xwm 6 ((i:Int)+1) (↑(i+1):Int) ?_
   have b6:=l2.left t1 u7 (by omega) (Bc u7 (fun q=>by omega))
   have eg:Ye l s.data fuel (Zd l s.details 3 fuel).es (Zd l s.top 1 fuel).es (P++[((Zd l s.details 3 fuel).es.getD i Zj).1])=_:=(Jr _ _ _ _ _ _ _).trans (congrArg (_++·) (Nm b6.2.1 b6.2.2))
   have ev:Vi l s.data fuel (Zd l s.details 3 fuel).es (Zd l s.top 1 fuel).es (P++[((Zd l s.details 3 fuel).es.getD i Zj).1])=_:=(Js _ _ _ _ _ _ _).trans (congrArg (_++·) (Nw b6.2.1 b6.2.2))
   rw[List.append_nil] at ev
   have bu:=Zf (Zb (Zb h7 e3) l4.below) i0 f9 (by decide)
   have ao:=Zf (Zb (Zb l0 e3) l4.below) i0 f9 (by decide)
   refine xv1 6 10 (show(.slice dp (((Ye l s.data fuel (Zd l s.details 3 fuel).es (Zd l s.top 1 fuel).es P)++[((4:Int),((Zd l s.details 3 fuel).es.getD i Zj).1,(18:Int))]).length) ap:Value)=.slice dp ((Ye l s.data fuel (Zd l s.details 3 fuel).es (Zd l s.top 1 fuel).es (P++[((Zd l s.details 3 fuel).es.getD i Zj).1])).length) ap from(by first|rw[eg]|rw[ev])) ?_
   refine xv1 0 12 (show(V0 (↑(Kt (Vi l s.data fuel (Zd l s.details 3 fuel).es (Zd l s.top 1 fuel).es P)):Int):Value)=V0 (↑(Kt (Vi l s.data fuel (Zd l s.details 3 fuel).es (Zd l s.top 1 fuel).es (P++[((Zd l s.details 3 fuel).es.getD i Zj).1]))):Int) from(by first|rw[eg]|rw[ev])) ?_
   have cq:=v3.trans fr
   have o5:=(((c4.below (Za a0)).below e3).below l4.below).grown i0 f9 (by decide)
   have r9:=(((a1.below (Za a0)).below e3).below l4.below).grown i0 f9 (by decide)
   have r2:=((c1.below e3).below l4.below).grown i0 f9 (by decide)
   have o7:=((c2.below e3).below l4.below).grown i0 f9 (by decide)
   have m3:=(((a6.below (Za a0)).below e3).below l4.below).grown i0 f9 (by decide)
   have bh:=Zf (Zb (Zb (Zb v9 (Za a0)) e3) l4.below) i0 f9 (by decide)
   have al:=(((s0.below (Za a0)).below e3).below l4.below).only (Ze.of_grown (T:=[100]) i0 f9 (by decide)) (by decide)
   exact ze 0 (j0 _ _ _ ⟨i+1,k,(P++[((Zd l s.details 3 fuel).es.getD i Zj).1]),_,_,_,_,Z,rfl,rfl,cq,o5,r9,r2,o7,m3,bu,ao,(by rw[eg];exact hq),bh,al,by omega,by omega,b6.1,hZ.trans ev.symm,by rw[List.length_append,List.length_singleton];omega⟩ (by omega))
  refine xd 4 .z ?_
  have d0:=c1.below (Za a0.drew)
  refine xb (.e [0,1] 2) 0 d0 ?_
  refine xgk (.b [3,4,5]) [102,103] (show(((i:Int)==(↑((Zd l s.details 3 fuel).es.length):Int)):Bool)=false from(beq_false_of_ne (by omega))) ?_
  have c9:=c2.below (Za a0.drew)
  refine xb (.e [6] 7) 0 c9 ?_
  have h4:=Zb l0 (Za a0.drew)
  refine xx (.e [8] 9) _ ((Zd l s.top 1 fuel).es.length) k 3 (Sts.cell (f:=Vt) (Zh h4) Zy Zj (k:=k) (i:=0) (by omega) rfl).1 ?_
  refine xl (.e [10] 11) ((Sts.cell (Zh h4) Zy Zj (k:=k) (i:=0) (by omega) rfl).2) ?_
  refine xb (.e [12] 13) 0 d0 ?_
  have l3:=Zb h7 (Za a0.drew)
  refine xx (.e [14] 15) _ ((Zd l s.details 3 fuel).es.length) i 3 (Sts.cell (f:=Vt) (Zh l3) Zy Zj (k:=i) (i:=0) (by omega) rfl).1 ?_
  refine xl (.e [16] 17) ((Sts.cell (Zh l3) Zy Zj (k:=i) (i:=0) (by omega) rfl).2) ?_
  refine xid (.r [18,19] 2) (((Zd l s.top 1 fuel).es.getD k Zj).1<((Zd l s.details 3 fuel).es.getD i Zj).1) (fun gk=>?_) (fun gk=>?_)
  ·refine xb 4 0 c9 ?_
   refine xx 1 _ ((Zd l s.top 1 fuel).es.length) k 3 (Sts.cell (f:=Vt) (Zh h4) Zy Zj (k:=k) (i:=0) (by omega) rfl).1 ?_
   refine xl 1 ((Sts.cell (Zh h4) Zy Zj (k:=k) (i:=0) (by omega) rfl).2) ?_
   refine xr 0 (args:=#[V0 4,V0 (((Zd l s.top 1 fuel).es.getD k Zj).1),V0 18]) (Xx 4 (((Zd l s.top 1 fuel).es.getD k Zj).1) 18 _) fun le e7=>?_
   refine xbs 0 1 [V0 4,V0 (((Zd l s.top 1 fuel).es.getD k Zj).1),V0 18] 100 fun jv lw l5=>?_
   have u2:=bln (bln (bln b5 (Za a0)) (Za a0.drew)) e7
   have jz:=l5.ge u2
   have cf:=Zb (Zb (Zb ho (Za a0)) (Za a0.drew)) e7
   have gf:=Zx cf l5
   have g0:=Zb cf l5.below
   have s3:=bln u2 l5.below
   refine xbi 0 fun _ _ _ _ zJ zQ zo zx zy zK=>Zw (m:=1) (news:=[V0 4,V0 (((Zd l s.top 1 fuel).es.getD k Zj).1),V0 18]) (.agg #[V0 0,V0 0,V0 0]) 3 24 (((Ye l s.data fuel (Zd l s.details 3 fuel).es (Zd l s.top 1 fuel).es P)++[((4:Int),((Zd l s.top 1 fuel).es.getD k Zj).1,(18:Int))]).length) ((((Ye l s.data fuel (Zd l s.details 3 fuel).es (Zd l s.top 1 fuel).es P)++[((4:Int),((Zd l s.top 1 fuel).es.getD k Zj).1,(18:Int))]).flatMap dmc)) zo Tryz.underlying47 (by kernel_rfl) rfl (by decide) zx g0 zy (l5.blk.sl 1 1 (by decide) (by decide)) rfl (by simp[Value.oneCell']) (by unfold maxLen;omega) (by omega) s3.size ((List.length_append (bs:=[_])).symm) (Jd _ ((4:Int),((Zd l s.top 1 fuel).es.getD k Zj).1,(18:Int))) fun di ad lj hw h8 fw=>?_
   refine zK _ _ ?_
   refine xwm 6 ((k:Int)+1) (↑(k+1):Int) ?_
   have b6:=l2.symm.left u7 t1 (by omega) (Bc t1 (fun q=>by omega))
   have eg:Ye l s.data fuel (Zd l s.details 3 fuel).es (Zd l s.top 1 fuel).es (P++[((Zd l s.top 1 fuel).es.getD k Zj).1])=_:=(Jr _ _ _ _ _ _ _).trans (congrArg (_++·) (Ux b6.2.2))
   have ev:Vi l s.data fuel (Zd l s.details 3 fuel).es (Zd l s.top 1 fuel).es (P++[((Zd l s.top 1 fuel).es.getD k Zj).1])=_:=(Js _ _ _ _ _ _ _).trans (congrArg (_++·) (Wc b6.2.2))
   rw[List.append_nil] at ev
   have au:=Zf (Zb (Zb l3 e7) l5.below) h8 g0 (by decide)
   have y6:=Zf (Zb (Zb h4 e7) l5.below) h8 g0 (by decide)
   refine xv1 6 10 (show(.slice di (((Ye l s.data fuel (Zd l s.details 3 fuel).es (Zd l s.top 1 fuel).es P)++[((4:Int),((Zd l s.top 1 fuel).es.getD k Zj).1,(18:Int))]).length) ad:Value)=.slice di ((Ye l s.data fuel (Zd l s.details 3 fuel).es (Zd l s.top 1 fuel).es (P++[((Zd l s.top 1 fuel).es.getD k Zj).1])).length) ad from(by first|rw[eg]|rw[ev])) ?_
   refine xv1 0 12 (show(V0 (↑(Kt (Vi l s.data fuel (Zd l s.details 3 fuel).es (Zd l s.top 1 fuel).es P)):Int):Value)=V0 (↑(Kt (Vi l s.data fuel (Zd l s.details 3 fuel).es (Zd l s.top 1 fuel).es (P++[((Zd l s.top 1 fuel).es.getD k Zj).1]))):Int) from(by first|rw[eg]|rw[ev])) ?_
   have ah:=s3.trans fw
   have o2:=((((c4.below (Za a0)).below (Za a0.drew)).below e7).below l5.below).grown h8 g0 (by decide)
   have q7:=((((a1.below (Za a0)).below (Za a0.drew)).below e7).below l5.below).grown h8 g0 (by decide)
   have q4:=((d0.below e7).below l5.below).grown h8 g0 (by decide)
   have o9:=((c9.below e7).below l5.below).grown h8 g0 (by decide)
   have l6:=((((a6.below (Za a0)).below (Za a0.drew)).below e7).below l5.below).grown h8 g0 (by decide)
   have cg:=Zf (Zb (Zb (Zb (Zb v9 (Za a0)) (Za a0.drew)) e7) l5.below) h8 g0 (by decide)
   have ck:=((((s0.below (Za a0)).below (Za a0.drew)).below e7).below l5.below).only (Ze.of_grown (T:=[100]) h8 g0 (by decide)) (by decide)
   exact ze 0 (j0 _ _ _ ⟨i,k+1,(P++[((Zd l s.top 1 fuel).es.getD k Zj).1]),_,_,_,_,Z,rfl,rfl,ah,o2,q7,q4,o9,l6,au,y6,(by rw[eg];exact hw),cg,ck,by omega,by omega,b6.1.symm,hZ.trans ev.symm,by rw[List.length_append,List.length_singleton];omega⟩ (by omega))
  refine xd 3 (.t w.heap.size [61]) ?_
  have b9:=d0.below (Za a0.drew.drew)
  refine xbt (.e [0,1] 2) 0 w.heap.size [61] b9 ?_
  have g1:=Zb l3 (Za a0.drew.drew)
  refine xx (.e [3] 4) _ ((Zd l s.details 3 fuel).es.length) i 3 (Sts.cell (f:=Vt) (Zh g1) Zy Zj (k:=i) (i:=0) (by omega) rfl).1 ?_
  refine xlvt (.e [] 5) (.t w.heap.size [61]) (fun V hV=>(Sts.rp (k:=i) (Zh (Zn g1 hV.2 (by decide))) Zy Zj (by omega) (by decide))) ?_
  have c0:=c9.below (Za a0.drew.drew)
  refine xbt (.e [6] 7) 0 w.heap.size [61] c0 ?_
  have h6:=Zb h4 (Za a0.drew.drew)
  refine xx (.e [8] 9) _ ((Zd l s.top 1 fuel).es.length) k 3 (Sts.cell (f:=Vt) (Zh h6) Zy Zj (k:=k) (i:=0) (by omega) rfl).1 ?_
  refine xlvt (.e [] 10) (.t w.heap.size [61]) (fun V hV=>(Sts.rp (k:=k) (Zh (Zn h6 hV.2 (by decide))) Zy Zj (by omega) (by decide))) ?_
  refine xm2 (.b [11]) 12 16 ?_ ?_
  ·have b6:=l2.both t1 u7 (by omega) (by omega) (by omega)
   have s4:=bln (bln (bln b5 (Za a0)) (Za a0.drew)) (Za a0.drew.drew)
   refine yc 0 (args:=#[P0 bm,.agg #[V0 (((Zd l s.details 3 fuel).es.getD i Zj).1),.string ⟨(((Zd l s.details 3 fuel).es.getD i Zj).2.1).toArray⟩,V0 (((Zd l s.details 3 fuel).es.getD i Zj).2.2)],.agg #[V0 (((Zd l s.top 1 fuel).es.getD k Zj).1),.string ⟨(((Zd l s.top 1 fuel).es.getD k Zj).2.1).toArray⟩,V0 (((Zd l s.top 1 fuel).es.getD k Zj).2.2)],V0 fuel]) (.t w.heap.size [61]) (Mg Bi bm pi ni ci l fuel ((Zd l s.details 3 fuel).es.getD i Zj) ((Zd l s.top 1 fuel).es.getD k Zj) _ (hI.below s4) hfu (Yq _ _ _ _ i (by omega)) (Yq _ _ _ _ k (by omega))) ?_
   rintro _ jg ⟨q8,d8,rfl,b3,aw⟩
   have y8:=(bln (bln (bln b5 (Za a0)) (Za a0.drew)) (Za a0.drew.drew)).size
   refine⟨(SF.of_below _ b3),?_⟩
   have s2:=Zcp (Ty m0 ((Zd l s.top 1 fuel).es.getD k Zj) (Md (by omega)))
   obtain⟨i1,c8⟩:∃ d:Dv,d=((((Zd l s.details 3 fuel).es.getD i Zj).1,((Xu ((Zd l s.details 3 fuel).es.getD i Zj).2.1 1:Nat):Int),((Xu ((Zd l s.details 3 fuel).es.getD i Zj).2.1 2:Nat):Int),((Xu ((Zd l s.details 3 fuel).es.getD i Zj).2.1 3:Nat):Int)),Jl l s.data fuel (↑(Zo ((Zd l s.top 1 fuel).es.getD k Zj).2.1):Int)):=⟨_,rfl⟩
   have c5:i1.2.length=(Zd l (↑(Zo ((Zd l s.top 1 fuel).es.getD k Zj).2.1):Int) 2 fuel).es.length:=by rw[c8,←s2,List.length_map]
   have r6:(Jl l s.data fuel (↑(Zo ((Zd l s.top 1 fuel).es.getD k Zj).2.1):Int)).length=(Zd l (↑(Zo ((Zd l s.top 1 fuel).es.getD k Zj).2.1):Int) 2 fuel).es.length:=by rw[←s2,List.length_map]
   have hu:=Yp l (↑(Zo ((Zd l s.top 1 fuel).es.getD k Zj).2.1):Int) 2 fuel hfu
   refine xa (.o [13,14,15] 16) [V0 0,V0 0,V0 0,V0 0,S0] 61 fun jr ld a8=>?_
   have o4:=bln s4 b3
   have fo:=a8.ge o4
   have p7:=Zb (Zb (Zb (Zb v9 (Za a0)) (Za a0.drew)) (Za a0.drew.drew)) b3
   have d7:=Zx p7 a8
   refine ysv (.o [] 17) a8.blk [V0 (((Zd l s.details 3 fuel).es.getD i Zj).1),V0 (↑(Xu ((Zd l s.details 3 fuel).es.getD i Zj).2.1 1):Int),V0 (↑(Xu ((Zd l s.details 3 fuel).es.getD i Zj).2.1 2):Int),V0 (↑(Xu ((Zd l s.details 3 fuel).es.getD i Zj).2.1 3):Int),.slice q8 ((Zd l (↑(Zo ((Zd l s.top 1 fuel).es.getD k Zj).2.1):Int) 2 fuel).es.length) d8] (.t w.heap.size [61]) fun kd d5 y3=>⟨(Zp d5 a8.blk fo (by decide)),?_⟩
   refine xb (.r [18] 7) 4 y3 ?_
   refine xin 4 (↑(Xu ((Zd l s.details 3 fuel).es.getD i Zj).2.1 0):Int) (↑((Zd l (↑(Zo ((Zd l s.top 1 fuel).es.getD k Zj).2.1):Int) 2 fuel).es.length):Int) (fun x9=>?_) (fun x9=>?_)
   ·have j8:((Xu ((Zd l s.details 3 fuel).es.getD i Zj).2.1 0:Nat):Int)≠((Jl l s.data fuel (Zo ((Zd l s.top 1 fuel).es.getD k Zj).2.1:Nat)).length:Nat):=by rw[r6];exact x9
    refine xb 3 0 y3 ?_
    refine xr 0 (args:=#[V0 4,V0 (((Zd l s.details 3 fuel).es.getD i Zj).1),V0 13]) (Xx 4 (((Zd l s.details 3 fuel).es.getD i Zj).1) 13 _) fun mn d2=>?_
    refine xbs 0 1 [V0 4,V0 (((Zd l s.details 3 fuel).es.getD i Zj).1),V0 13] 100 fun ma jm j3=>?_
    have u1:=bln (d5.below (bln o4 a8.below) fo) d2
    have kj:=j3.ge u1
    have ar:=Zb (d5.own2 (Zb (Zb (Zb (Zb (Zb ho (Za a0)) (Za a0.drew)) (Za a0.drew.drew)) b3) a8.below) a8.blk (by decide)) d2
    have ft:=Zx ar j3
    have d6:=Zb ar j3.below
    have w0:=bln u1 j3.below
    refine xbi 0 fun _ _ _ _ zJ zQ zo zx zy zK=>Zw (m:=1) (news:=[V0 4,V0 (((Zd l s.details 3 fuel).es.getD i Zj).1),V0 13]) (.agg #[V0 0,V0 0,V0 0]) 3 24 (((Ye l s.data fuel (Zd l s.details 3 fuel).es (Zd l s.top 1 fuel).es P)++[((4:Int),((Zd l s.details 3 fuel).es.getD i Zj).1,(13:Int))]).length) ((((Ye l s.data fuel (Zd l s.details 3 fuel).es (Zd l s.top 1 fuel).es P)++[((4:Int),((Zd l s.details 3 fuel).es.getD i Zj).1,(13:Int))]).flatMap dmc)) zo Tryz.underlying47 (by kernel_rfl) rfl (by decide) zx d6 zy (j3.blk.sl 1 1 (by decide) (by decide)) rfl (by simp[Value.oneCell']) (by unfold maxLen;omega) (by omega) w0.size ((List.length_append (bs:=[_])).symm) (Jd _ ((4:Int),((Zd l s.details 3 fuel).es.getD i Zj).1,(13:Int))) fun ca dq lo hx e0 fe=>?_
    refine zK _ _ ?_
    have h3:=(((d5.blkT (((((a6.below (Za a0)).below (Za a0.drew)).below (Za a0.drew.drew)).below b3).below a8.below) a8.blk (by decide)).below d2).below j3.below).grown e0 d6 (by decide)
    refine xb 6 4 h3 ?_
    have r4:=((y3.below d2).below j3.below).grown e0 d6 (by decide)
    refine xlv 0 r4.rp ?_
    refine xbs 0 1 [V0 (((Zd l s.details 3 fuel).es.getD i Zj).1),V0 (↑(Xu ((Zd l s.details 3 fuel).es.getD i Zj).2.1 1):Int),V0 (↑(Xu ((Zd l s.details 3 fuel).es.getD i Zj).2.1 2):Int),V0 (↑(Xu ((Zd l s.details 3 fuel).es.getD i Zj).2.1 3):Int),.slice q8 ((Zd l (↑(Zo ((Zd l s.top 1 fuel).es.getD k Zj).2.1):Int) 2 fuel).es.length) d8] 61 fun lq jq i7=>?_
    have ef:=i7.ne r4
    have v2:=w0.trans fe
    have ka:=i7.ge v2
    have s6:=Zf (Zb (Zb (d5.own3 (Zb p7 a8.below) d7) d2) j3.below) e0 d6 (by decide)
    have dr:=Zx s6 i7
    have c6:=Zb s6 i7.below
    have u9:=bln v2 i7.below
    refine xbi 0 fun _ _ _ _ zJ zQ zo zx zy zK=>Zw (m:=1) (news:=[V0 (((Zd l s.details 3 fuel).es.getD i Zj).1),V0 (↑(Xu ((Zd l s.details 3 fuel).es.getD i Zj).2.1 1):Int),V0 (↑(Xu ((Zd l s.details 3 fuel).es.getD i Zj).2.1 2):Int),V0 (↑(Xu ((Zd l s.details 3 fuel).es.getD i Zj).2.1 3):Int),.slice q8 ((Zd l (↑(Zo ((Zd l s.top 1 fuel).es.getD k Zj).2.1):Int) 2 fuel).es.length) d8]) (.agg #[V0 0,V0 0,V0 0,V0 0,S0]) 5 56 ((Z.length+1)) ((Z.flatMap Lg++[(i1,q8,d8)].flatMap Lg)) zo Tryz.underlying22 (by kernel_rfl) rfl (by decide) zx c6 zy (i7.blk.sl 1 1 (by decide) (by decide)) rfl (by simp[Value.oneCell']) (by unfold maxLen;omega) (by omega) u9.size (rfl) (by rw[List.flatMap_cons,List.flatMap_nil,List.append_nil];unfold Lg;rw[c5,c8]) fun ff gl mi hz e2 em=>?_
    refine zK _ _ ?_
    have a3:=(h3.below i7.below).grown e2 c6 (by decide)
    refine xs 1 a3 [V0 s.tx,V0 s.time,V0 s.unit,V0 s.data,.slice ff (Z.length+1) gl] fun lu m5 ia=>?_
    have ch:=m5.blkT ((r4.below i7.below).grown3 e2 d7) a3 (by decide)
    refine xb 6 4 ch ?_
    refine xwm 1 ((↑(Kt (Vi l s.data fuel (Zd l s.details 3 fuel).es (Zd l s.top 1 fuel).es P)):Int)+(↑((Zd l (↑(Zo ((Zd l s.top 1 fuel).es.getD k Zj).2.1):Int) 2 fuel).es.length):Int)) (↑((Kt (Vi l s.data fuel (Zd l s.details 3 fuel).es (Zd l s.top 1 fuel).es P))+((Zd l (↑(Zo ((Zd l s.top 1 fuel).es.getD k Zj).2.1):Int) 2 fuel).es.length)):Int) ?_
    refine xwm 6 ((i:Int)+1) (↑(i+1):Int) ?_
    refine xwm 5 ((k:Int)+1) (↑(k+1):Int) ?_
    have bc:=m5.own2 (Zf (Zb hx i7.below) e2 c6 (by decide)) a3 (by decide)
    have eg:Ye l s.data fuel (Zd l s.details 3 fuel).es (Zd l s.top 1 fuel).es (P++[((Zd l s.details 3 fuel).es.getD i Zj).1])=_:=(Jr _ _ _ _ _ _ _).trans (congrArg (_++·) (Sb b6.2.1 b6.2.2 j8))
    have ev:Vi l s.data fuel (Zd l s.details 3 fuel).es (Zd l s.top 1 fuel).es (P++[((Zd l s.details 3 fuel).es.getD i Zj).1])=_:=(Js _ _ _ _ _ _ _).trans (congrArg (_++·) (Nr b6.2.1 b6.2.2))
    rw[←c8] at ev
    have x6:=m5.own2 (Zf (Zb (Zf (Zb (Zb (d5.own2 (Zb (Zb g1 b3) a8.below) a8.blk (by decide)) d2) j3.below) e0 d6 (by decide)) i7.below) e2 c6 (by decide)) a3 (by decide)
    have cd:=m5.own2 (Zf (Zb (Zf (Zb (Zb (d5.own2 (Zb (Zb h6 b3) a8.below) a8.blk (by decide)) d2) j3.below) e0 d6 (by decide)) i7.below) e2 c6 (by decide)) a3 (by decide)
    have z9:=(((((((((((s0.below (Za a0)).below (Za a0.drew)).below (Za a0.drew.drew)).below b3).below a8.below).only (Ze.of_upd (T:=[61]) d5 a8.blk (by decide)) (by decide)).below d2).below j3.below).only (Ze.of_grown (T:=[100]) e0 d6 (by decide)) (by decide)).below i7.below).only (Ze.of_grown (T:=[61]) e2 c6 (by decide)) (by decide)).only (Ze.of_upd (T:=[24]) m5 a3 (by decide)) (by decide)
    have cx:=m5.own2 hz a3 (by decide)
    have j7:=cx
    have cs:=m5.own2 (Zf (Zb (Zf (Zb (Zb (d5.own2 (Zb (Zg aw y8) a8.below) a8.blk (by decide)) d2) j3.below) e0 d6 (by decide)) i7.below) e2 c6 (by decide)) a3 (by decide)
    have f2:=cs
    rw[←c5,s2,show Jl l s.data fuel (↑(Zo ((Zd l s.top 1 fuel).es.getD k Zj).2.1):Int)=i1.2 from by rw[c8]] at f2
    have e4:=ia
    rw[show Z.length+1=(Z++[(i1,q8,d8)]).length from(List.length_append (bs:=[_])).symm] at e4
    refine xv1 3 10 (show(.slice ca (((Ye l s.data fuel (Zd l s.details 3 fuel).es (Zd l s.top 1 fuel).es P)++[((4:Int),((Zd l s.details 3 fuel).es.getD i Zj).1,(13:Int))]).length) dq:Value)=.slice ca ((Ye l s.data fuel (Zd l s.details 3 fuel).es (Zd l s.top 1 fuel).es (P++[((Zd l s.details 3 fuel).es.getD i Zj).1])).length) dq from(by first|rw[eg]|(rw[ev,Jp,c5]))) ?_
    refine xv1 0 12 (show(V0 (↑((Kt (Vi l s.data fuel (Zd l s.details 3 fuel).es (Zd l s.top 1 fuel).es P))+((Zd l (↑(Zo ((Zd l s.top 1 fuel).es.getD k Zj).2.1):Int) 2 fuel).es.length)):Int):Value)=V0 (↑(Kt (Vi l s.data fuel (Zd l s.details 3 fuel).es (Zd l s.top 1 fuel).es (P++[((Zd l s.details 3 fuel).es.getD i Zj).1]))):Int) from(by first|rw[eg]|(rw[ev,Jp,c5]))) ?_
    have ab:=m5.below (u9.trans em) bd
    have p8:=m5.blkT ((((((d5.blkT (((((c4.below (Za a0)).below (Za a0.drew)).below (Za a0.drew.drew)).below b3).below a8.below) a8.blk (by decide)).below d2).below j3.below).grown e0 d6 (by decide)).below i7.below).grown e2 c6 (by decide)) a3 (by decide)
    have q1:=m5.blk ((((((d5.blkT (((((a1.below (Za a0)).below (Za a0.drew)).below (Za a0.drew.drew)).below b3).below a8.below) a8.blk (by decide)).below d2).below j3.below).grown e0 d6 (by decide)).below i7.below).grown e2 c6 (by decide)) (Ne.symm (Ne.symm f4))
    have n6:=m5.blkT ((((((d5.blkT ((b9.below b3).below a8.below) a8.blk (by decide)).below d2).below j3.below).grown e0 d6 (by decide)).below i7.below).grown e2 c6 (by decide)) a3 (by decide)
    have n9:=m5.blkT ((((((d5.blkT ((c0.below b3).below a8.below) a8.blk (by decide)).below d2).below j3.below).grown e0 d6 (by decide)).below i7.below).grown e2 c6 (by decide)) a3 (by decide)
    exact ze 0 (j0 _ _ _ ⟨i+1,k+1,(P++[((Zd l s.details 3 fuel).es.getD i Zj).1]),_,_,_,_,Z++[(i1,q8,d8)],rfl,rfl,ab,p8,q1,n6,n9,e4,x6,cd,(by rw[eg];exact bc),(by rw[List.length_append,List.flatMap_append];exact j7),(z9.snoc rfl f2),by omega,by omega,b6.1,by rw[List.map_append,hZ,ev];rfl,by rw[List.length_append,List.length_singleton];omega⟩ (by omega))
   have j8:((Xu ((Zd l s.details 3 fuel).es.getD i Zj).2.1 0:Nat):Int)=((Jl l s.data fuel (Zo ((Zd l s.top 1 fuel).es.getD k Zj).2.1:Nat)).length:Nat):=by rw[r6];exact x9
   have g8:=d5.blkT (((((a6.below (Za a0)).below (Za a0.drew)).below (Za a0.drew.drew)).below b3).below a8.below) a8.blk (by decide)
   refine xb 5 4 g8 ?_
   refine xlv 0 y3.rp ?_
   refine xbs 0 1 [V0 (((Zd l s.details 3 fuel).es.getD i Zj).1),V0 (↑(Xu ((Zd l s.details 3 fuel).es.getD i Zj).2.1 1):Int),V0 (↑(Xu ((Zd l s.details 3 fuel).es.getD i Zj).2.1 2):Int),V0 (↑(Xu ((Zd l s.details 3 fuel).es.getD i Zj).2.1 3):Int),.slice q8 ((Zd l (↑(Zo ((Zd l s.top 1 fuel).es.getD k Zj).2.1):Int) 2 fuel).es.length) d8] 61 fun jj jw i5=>?_
   have ei:=i5.ne y3
   have v4:=d5.below (bln o4 a8.below) fo
   have ll:=i5.ge v4
   have u4:=d5.own3 (Zb p7 a8.below) d7
   have dy:=Zx u4 i5
   have c3:=Zb u4 i5.below
   have s8:=bln v4 i5.below
   refine xbi 0 fun _ _ _ _ zJ zQ zo zx zy zK=>Zw (m:=1) (news:=[V0 (((Zd l s.details 3 fuel).es.getD i Zj).1),V0 (↑(Xu ((Zd l s.details 3 fuel).es.getD i Zj).2.1 1):Int),V0 (↑(Xu ((Zd l s.details 3 fuel).es.getD i Zj).2.1 2):Int),V0 (↑(Xu ((Zd l s.details 3 fuel).es.getD i Zj).2.1 3):Int),.slice q8 ((Zd l (↑(Zo ((Zd l s.top 1 fuel).es.getD k Zj).2.1):Int) 2 fuel).es.length) d8]) (.agg #[V0 0,V0 0,V0 0,V0 0,S0]) 5 56 ((Z.length+1)) ((Z.flatMap Lg++[(i1,q8,d8)].flatMap Lg)) zo Tryz.underlying22 (by kernel_rfl) rfl (by decide) zx c3 zy (i5.blk.sl 1 1 (by decide) (by decide)) rfl (by simp[Value.oneCell']) (by unfold maxLen;omega) (by omega) s8.size (rfl) (by rw[List.flatMap_cons,List.flatMap_nil,List.append_nil];unfold Lg;rw[c5,c8]) fun gg fg jp im e9 gd=>?_
   refine zK _ _ ?_
   have a4:=(g8.below i5.below).grown e9 c3 (by decide)
   refine xs 1 a4 [V0 s.tx,V0 s.time,V0 s.unit,V0 s.data,.slice gg (Z.length+1) fg] fun ly m6 il=>?_
   have y7:=m6.blkT ((y3.below i5.below).grown3 e9 d7) a4 (by decide)
   refine xb 6 4 y7 ?_
   refine xwm 1 ((↑(Kt (Vi l s.data fuel (Zd l s.details 3 fuel).es (Zd l s.top 1 fuel).es P)):Int)+(↑((Zd l (↑(Zo ((Zd l s.top 1 fuel).es.getD k Zj).2.1):Int) 2 fuel).es.length):Int)) (↑((Kt (Vi l s.data fuel (Zd l s.details 3 fuel).es (Zd l s.top 1 fuel).es P))+((Zd l (↑(Zo ((Zd l s.top 1 fuel).es.getD k Zj).2.1):Int) 2 fuel).es.length)):Int) ?_
   refine xwm 6 ((i:Int)+1) (↑(i+1):Int) ?_
   refine xwm 5 ((k:Int)+1) (↑(k+1):Int) ?_
   have gh:=m6.own2 (Zf (Zb (d5.own2 (Zb (Zb (Zb (Zb (Zb ho (Za a0)) (Za a0.drew)) (Za a0.drew.drew)) b3) a8.below) a8.blk (by decide)) i5.below) e9 c3 (by decide)) a4 (by decide)
   have eg:Ye l s.data fuel (Zd l s.details 3 fuel).es (Zd l s.top 1 fuel).es (P++[((Zd l s.details 3 fuel).es.getD i Zj).1])=_:=(Jr _ _ _ _ _ _ _).trans (congrArg (_++·) (Ow b6.2.1 b6.2.2 j8))
   have ev:Vi l s.data fuel (Zd l s.details 3 fuel).es (Zd l s.top 1 fuel).es (P++[((Zd l s.details 3 fuel).es.getD i Zj).1])=_:=(Js _ _ _ _ _ _ _).trans (congrArg (_++·) (Nr b6.2.1 b6.2.2))
   rw[←c8] at ev
   rw[List.append_nil] at eg
   have w7:=m6.own2 (Zf (Zb (d5.own2 (Zb (Zb g1 b3) a8.below) a8.blk (by decide)) i5.below) e9 c3 (by decide)) a4 (by decide)
   have x4:=m6.own2 (Zf (Zb (d5.own2 (Zb (Zb h6 b3) a8.below) a8.blk (by decide)) i5.below) e9 c3 (by decide)) a4 (by decide)
   have aa:=((((((((s0.below (Za a0)).below (Za a0.drew)).below (Za a0.drew.drew)).below b3).below a8.below).only (Ze.of_upd (T:=[61]) d5 a8.blk (by decide)) (by decide)).below i5.below).only (Ze.of_grown (T:=[61]) e9 c3 (by decide)) (by decide)).only (Ze.of_upd (T:=[24]) m6 a4 (by decide)) (by decide)
   have dd:=m6.own2 im a4 (by decide)
   have j7:=dd
   have bn:=m6.own2 (Zf (Zb (d5.own2 (Zb (Zg aw y8) a8.below) a8.blk (by decide)) i5.below) e9 c3 (by decide)) a4 (by decide)
   have f2:=bn
   rw[←c5,s2,show Jl l s.data fuel (↑(Zo ((Zd l s.top 1 fuel).es.getD k Zj).2.1):Int)=i1.2 from by rw[c8]] at f2
   have e4:=il
   rw[show Z.length+1=(Z++[(i1,q8,d8)]).length from(List.length_append (bs:=[_])).symm] at e4
   refine xv1 3 10 (show(.slice pt ((Ye l s.data fuel (Zd l s.details 3 fuel).es (Zd l s.top 1 fuel).es P).length) ct:Value)=.slice pt ((Ye l s.data fuel (Zd l s.details 3 fuel).es (Zd l s.top 1 fuel).es (P++[((Zd l s.details 3 fuel).es.getD i Zj).1])).length) ct from(by first|rw[eg]|(rw[ev,Jp,c5]))) ?_
   refine xv1 0 12 (show(V0 (↑((Kt (Vi l s.data fuel (Zd l s.details 3 fuel).es (Zd l s.top 1 fuel).es P))+((Zd l (↑(Zo ((Zd l s.top 1 fuel).es.getD k Zj).2.1):Int) 2 fuel).es.length)):Int):Value)=V0 (↑(Kt (Vi l s.data fuel (Zd l s.details 3 fuel).es (Zd l s.top 1 fuel).es (P++[((Zd l s.details 3 fuel).es.getD i Zj).1]))):Int) from(by first|rw[eg]|(rw[ev,Jp,c5]))) ?_
   have ak:=m6.below (s8.trans gd) bd
   have o6:=m6.blkT (((d5.blkT (((((c4.below (Za a0)).below (Za a0.drew)).below (Za a0.drew.drew)).below b3).below a8.below) a8.blk (by decide)).below i5.below).grown e9 c3 (by decide)) a4 (by decide)
   have p3:=m6.blk (((d5.blkT (((((a1.below (Za a0)).below (Za a0.drew)).below (Za a0.drew.drew)).below b3).below a8.below) a8.blk (by decide)).below i5.below).grown e9 c3 (by decide)) (Ne.symm (Ne.symm f4))
   have n8:=m6.blkT (((d5.blkT ((b9.below b3).below a8.below) a8.blk (by decide)).below i5.below).grown e9 c3 (by decide)) a4 (by decide)
   have o8:=m6.blkT (((d5.blkT ((c0.below b3).below a8.below) a8.blk (by decide)).below i5.below).grown e9 c3 (by decide)) a4 (by decide)
   exact ze 0 (j0 _ _ _ ⟨i+1,k+1,(P++[((Zd l s.details 3 fuel).es.getD i Zj).1]),_,_,_,_,Z++[(i1,q8,d8)],rfl,rfl,ak,o6,p3,n8,o8,e4,w7,x4,(by rw[eg];exact gh),(by rw[List.length_append,List.flatMap_append];exact j7),(aa.snoc rfl f2),by omega,by omega,b6.1,by rw[List.map_append,hZ,ev];rfl,by rw[List.length_append,List.length_singleton];omega⟩ (by omega))
  refine xa 0 [V0 0,V0 0,V0 0,V0 0,S0] 61 fun kz jl d3=>?_
  have o3:=bln (bln (bln b5 (Za a0)) (Za a0.drew)) (Za a0.drew.drew)
  have gs:=d3.ge o3
  have m9:=Zb (Zb (Zb v9 (Za a0)) (Za a0.drew)) (Za a0.drew.drew)
  have d9:=Zx m9 d3
  have b6:=l2.both t1 u7 (by omega) (by omega) (by omega)
  have p0:=bln o3 d3.below
  refine yc (.o [] 12) (args:=#[P0 bm,.agg #[V0 (((Zd l s.details 3 fuel).es.getD i Zj).1),.string ⟨(((Zd l s.details 3 fuel).es.getD i Zj).2.1).toArray⟩,V0 (((Zd l s.details 3 fuel).es.getD i Zj).2.2)],.agg #[V0 (((Zd l s.top 1 fuel).es.getD k Zj).1),.string ⟨(((Zd l s.top 1 fuel).es.getD k Zj).2.1).toArray⟩,V0 (((Zd l s.top 1 fuel).es.getD k Zj).2.2)],V0 fuel]) (.t w.heap.size [61]) (Mg Bi bm pi ni ci l fuel ((Zd l s.details 3 fuel).es.getD i Zj) ((Zd l s.top 1 fuel).es.getD k Zj) _ (hI.below p0) hfu (Yq _ _ _ _ i (by omega)) (Yq _ _ _ _ k (by omega))) ?_
  rintro _ kf ⟨q8,d8,rfl,a7,aw⟩
  have z0:=(bln o3 d3.below).size
  refine⟨(SF.of_below _ a7),?_⟩
  have s2:=Zcp (Ty m0 ((Zd l s.top 1 fuel).es.getD k Zj) (Md (by omega)))
  obtain⟨i1,c8⟩:∃ d:Dv,d=((((Zd l s.details 3 fuel).es.getD i Zj).1,((Xu ((Zd l s.details 3 fuel).es.getD i Zj).2.1 1:Nat):Int),((Xu ((Zd l s.details 3 fuel).es.getD i Zj).2.1 2:Nat):Int),((Xu ((Zd l s.details 3 fuel).es.getD i Zj).2.1 3:Nat):Int)),Jl l s.data fuel (↑(Zo ((Zd l s.top 1 fuel).es.getD k Zj).2.1):Int)):=⟨_,rfl⟩
  have c5:i1.2.length=(Zd l (↑(Zo ((Zd l s.top 1 fuel).es.getD k Zj).2.1):Int) 2 fuel).es.length:=by rw[c8,←s2,List.length_map]
  have r6:(Jl l s.data fuel (↑(Zo ((Zd l s.top 1 fuel).es.getD k Zj).2.1):Int)).length=(Zd l (↑(Zo ((Zd l s.top 1 fuel).es.getD k Zj).2.1):Int) 2 fuel).es.length:=by rw[←s2,List.length_map]
  have hu:=Yp l (↑(Zo ((Zd l s.top 1 fuel).es.getD k Zj).2.1):Int) 2 fuel hfu
  have f7:=d3.blk.below a7
  refine ysv (.o [13,14,15] 17) f7 [V0 (((Zd l s.details 3 fuel).es.getD i Zj).1),V0 (↑(Xu ((Zd l s.details 3 fuel).es.getD i Zj).2.1 1):Int),V0 (↑(Xu ((Zd l s.details 3 fuel).es.getD i Zj).2.1 2):Int),V0 (↑(Xu ((Zd l s.details 3 fuel).es.getD i Zj).2.1 3):Int),.slice q8 ((Zd l (↑(Zo ((Zd l s.top 1 fuel).es.getD k Zj).2.1):Int) 2 fuel).es.length) d8] (.t w.heap.size [61]) fun mg d4 y4=>⟨(Zp d4 f7 gs (by decide)),?_⟩
  refine xb (.r [18] 7) 4 y4 ?_
  refine xin 4 (↑(Xu ((Zd l s.details 3 fuel).es.getD i Zj).2.1 0):Int) (↑((Zd l (↑(Zo ((Zd l s.top 1 fuel).es.getD k Zj).2.1):Int) 2 fuel).es.length):Int) (fun w5=>?_) (fun w5=>?_)
  ·have j8:((Xu ((Zd l s.details 3 fuel).es.getD i Zj).2.1 0:Nat):Int)≠((Jl l s.data fuel (Zo ((Zd l s.top 1 fuel).es.getD k Zj).2.1:Nat)).length:Nat):=by rw[r6];exact w5
   refine xb 3 0 y4 ?_
   refine xr 0 (args:=#[V0 4,V0 (((Zd l s.details 3 fuel).es.getD i Zj).1),V0 13]) (Xx 4 (((Zd l s.details 3 fuel).es.getD i Zj).1) 13 _) fun kl d1=>?_
   refine xbs 0 1 [V0 4,V0 (((Zd l s.details 3 fuel).es.getD i Zj).1),V0 13] 100 fun mf km j4=>?_
   have v6:=bln (d4.below (bln p0 a7) gs) d1
   have kk:=j4.ge v6
   have v1:=Zb (d4.own2 (Zb (Zb (Zb (Zb (Zb ho (Za a0)) (Za a0.drew)) (Za a0.drew.drew)) d3.below) a7) f7 (by decide)) d1
   have fi:=Zx v1 j4
   have b8:=Zb v1 j4.below
   have t5:=bln v6 j4.below
   refine xbi 0 fun _ _ _ _ zJ zQ zo zx zy zK=>Zw (m:=1) (news:=[V0 4,V0 (((Zd l s.details 3 fuel).es.getD i Zj).1),V0 13]) (.agg #[V0 0,V0 0,V0 0]) 3 24 (((Ye l s.data fuel (Zd l s.details 3 fuel).es (Zd l s.top 1 fuel).es P)++[((4:Int),((Zd l s.details 3 fuel).es.getD i Zj).1,(13:Int))]).length) ((((Ye l s.data fuel (Zd l s.details 3 fuel).es (Zd l s.top 1 fuel).es P)++[((4:Int),((Zd l s.details 3 fuel).es.getD i Zj).1,(13:Int))]).flatMap dmc)) zo Tryz.underlying47 (by kernel_rfl) rfl (by decide) zx b8 zy (j4.blk.sl 1 1 (by decide) (by decide)) rfl (by simp[Value.oneCell']) (by unfold maxLen;omega) (by omega) t5.size ((List.length_append (bs:=[_])).symm) (Jd _ ((4:Int),((Zd l s.details 3 fuel).es.getD i Zj).1,(13:Int))) fun bl bi ku ii f5 fk=>?_
   refine zK _ _ ?_
   have h5:=(((d4.blkT (((((a6.below (Za a0)).below (Za a0.drew)).below (Za a0.drew.drew)).below d3.below).below a7) f7 (by decide)).below d1).below j4.below).grown f5 b8 (by decide)
   refine xb 6 4 h5 ?_
   have r0:=((y4.below d1).below j4.below).grown f5 b8 (by decide)
   refine xlv 0 r0.rp ?_
   refine xbs 0 1 [V0 (((Zd l s.details 3 fuel).es.getD i Zj).1),V0 (↑(Xu ((Zd l s.details 3 fuel).es.getD i Zj).2.1 1):Int),V0 (↑(Xu ((Zd l s.details 3 fuel).es.getD i Zj).2.1 2):Int),V0 (↑(Xu ((Zd l s.details 3 fuel).es.getD i Zj).2.1 3):Int),.slice q8 ((Zd l (↑(Zo ((Zd l s.top 1 fuel).es.getD k Zj).2.1):Int) 2 fuel).es.length) d8] 61 fun jk jt i6=>?_
   have du:=i6.ne r0
   have u0:=t5.trans fk
   have jd:=i6.ge u0
   have q6:=Zf (Zb (Zb (d4.own3 (Zb (Zb m9 d3.below) a7) d9) d1) j4.below) f5 b8 (by decide)
   have el:=Zx q6 i6
   have a9:=Zb q6 i6.below
   have v0:=bln u0 i6.below
   refine xbi 0 fun _ _ _ _ zJ zQ zo zx zy zK=>Zw (m:=1) (news:=[V0 (((Zd l s.details 3 fuel).es.getD i Zj).1),V0 (↑(Xu ((Zd l s.details 3 fuel).es.getD i Zj).2.1 1):Int),V0 (↑(Xu ((Zd l s.details 3 fuel).es.getD i Zj).2.1 2):Int),V0 (↑(Xu ((Zd l s.details 3 fuel).es.getD i Zj).2.1 3):Int),.slice q8 ((Zd l (↑(Zo ((Zd l s.top 1 fuel).es.getD k Zj).2.1):Int) 2 fuel).es.length) d8]) (.agg #[V0 0,V0 0,V0 0,V0 0,S0]) 5 56 ((Z.length+1)) ((Z.flatMap Lg++[(i1,q8,d8)].flatMap Lg)) zo Tryz.underlying22 (by kernel_rfl) rfl (by decide) zx a9 zy (i6.blk.sl 1 1 (by decide) (by decide)) rfl (by simp[Value.oneCell']) (by unfold maxLen;omega) (by omega) v0.size (rfl) (by rw[List.flatMap_cons,List.flatMap_nil,List.append_nil];unfold Lg;rw[c5,c8]) fun fj gc ky ib f6 fv=>?_
   refine zK _ _ ?_
   have a5:=(h5.below i6.below).grown f6 a9 (by decide)
   refine xs 1 a5 [V0 s.tx,V0 s.time,V0 s.unit,V0 s.data,.slice fj (Z.length+1) gc] fun lf m7 ij=>?_
   have br:=m7.blkT ((r0.below i6.below).grown3 f6 d9) a5 (by decide)
   refine xb 6 4 br ?_
   refine xwm 1 ((↑(Kt (Vi l s.data fuel (Zd l s.details 3 fuel).es (Zd l s.top 1 fuel).es P)):Int)+(↑((Zd l (↑(Zo ((Zd l s.top 1 fuel).es.getD k Zj).2.1):Int) 2 fuel).es.length):Int)) (↑((Kt (Vi l s.data fuel (Zd l s.details 3 fuel).es (Zd l s.top 1 fuel).es P))+((Zd l (↑(Zo ((Zd l s.top 1 fuel).es.getD k Zj).2.1):Int) 2 fuel).es.length)):Int) ?_
   refine xwm 6 ((i:Int)+1) (↑(i+1):Int) ?_
   refine xwm 5 ((k:Int)+1) (↑(k+1):Int) ?_
   have bo:=m7.own2 (Zf (Zb ii i6.below) f6 a9 (by decide)) a5 (by decide)
   have eg:Ye l s.data fuel (Zd l s.details 3 fuel).es (Zd l s.top 1 fuel).es (P++[((Zd l s.details 3 fuel).es.getD i Zj).1])=_:=(Jr _ _ _ _ _ _ _).trans (congrArg (_++·) (Sb b6.2.1 b6.2.2 j8))
   have ev:Vi l s.data fuel (Zd l s.details 3 fuel).es (Zd l s.top 1 fuel).es (P++[((Zd l s.details 3 fuel).es.getD i Zj).1])=_:=(Js _ _ _ _ _ _ _).trans (congrArg (_++·) (Nr b6.2.1 b6.2.2))
   rw[←c8] at ev
   have x3:=m7.own2 (Zf (Zb (Zf (Zb (Zb (d4.own2 (Zb (Zb g1 d3.below) a7) f7 (by decide)) d1) j4.below) f5 b8 (by decide)) i6.below) f6 a9 (by decide)) a5 (by decide)
   have x8:=m7.own2 (Zf (Zb (Zf (Zb (Zb (d4.own2 (Zb (Zb h6 d3.below) a7) f7 (by decide)) d1) j4.below) f5 b8 (by decide)) i6.below) f6 a9 (by decide)) a5 (by decide)
   have aq:=(((((((((((s0.below (Za a0)).below (Za a0.drew)).below (Za a0.drew.drew)).below d3.below).below a7).only (Ze.of_upd (T:=[61]) d4 f7 (by decide)) (by decide)).below d1).below j4.below).only (Ze.of_grown (T:=[100]) f5 b8 (by decide)) (by decide)).below i6.below).only (Ze.of_grown (T:=[61]) f6 a9 (by decide)) (by decide)).only (Ze.of_upd (T:=[24]) m7 a5 (by decide)) (by decide)
   have aj:=m7.own2 ib a5 (by decide)
   have j7:=aj
   have af:=m7.own2 (Zf (Zb (Zf (Zb (Zb (d4.own2 (Zg aw z0) f7 (by decide)) d1) j4.below) f5 b8 (by decide)) i6.below) f6 a9 (by decide)) a5 (by decide)
   have f2:=af
   rw[←c5,s2,show Jl l s.data fuel (↑(Zo ((Zd l s.top 1 fuel).es.getD k Zj).2.1):Int)=i1.2 from by rw[c8]] at f2
   have e4:=ij
   rw[show Z.length+1=(Z++[(i1,q8,d8)]).length from(List.length_append (bs:=[_])).symm] at e4
   refine xv1 3 10 (show(.slice bl (((Ye l s.data fuel (Zd l s.details 3 fuel).es (Zd l s.top 1 fuel).es P)++[((4:Int),((Zd l s.details 3 fuel).es.getD i Zj).1,(13:Int))]).length) bi:Value)=.slice bl ((Ye l s.data fuel (Zd l s.details 3 fuel).es (Zd l s.top 1 fuel).es (P++[((Zd l s.details 3 fuel).es.getD i Zj).1])).length) bi from(by first|rw[eg]|(rw[ev,Jp,c5]))) ?_
   refine xv1 0 12 (show(V0 (↑((Kt (Vi l s.data fuel (Zd l s.details 3 fuel).es (Zd l s.top 1 fuel).es P))+((Zd l (↑(Zo ((Zd l s.top 1 fuel).es.getD k Zj).2.1):Int) 2 fuel).es.length)):Int):Value)=V0 (↑(Kt (Vi l s.data fuel (Zd l s.details 3 fuel).es (Zd l s.top 1 fuel).es (P++[((Zd l s.details 3 fuel).es.getD i Zj).1]))):Int) from(by first|rw[eg]|(rw[ev,Jp,c5]))) ?_
   have ay:=m7.below (v0.trans fv) bd
   have r3:=m7.blkT ((((((d4.blkT (((((c4.below (Za a0)).below (Za a0.drew)).below (Za a0.drew.drew)).below d3.below).below a7) f7 (by decide)).below d1).below j4.below).grown f5 b8 (by decide)).below i6.below).grown f6 a9 (by decide)) a5 (by decide)
   have p2:=m7.blk ((((((d4.blkT (((((a1.below (Za a0)).below (Za a0.drew)).below (Za a0.drew.drew)).below d3.below).below a7) f7 (by decide)).below d1).below j4.below).grown f5 b8 (by decide)).below i6.below).grown f6 a9 (by decide)) (Ne.symm (Ne.symm f4))
   have l9:=m7.blkT ((((((d4.blkT ((b9.below d3.below).below a7) f7 (by decide)).below d1).below j4.below).grown f5 b8 (by decide)).below i6.below).grown f6 a9 (by decide)) a5 (by decide)
   have q2:=m7.blkT ((((((d4.blkT ((c0.below d3.below).below a7) f7 (by decide)).below d1).below j4.below).grown f5 b8 (by decide)).below i6.below).grown f6 a9 (by decide)) a5 (by decide)
   exact ze 0 (j0 _ _ _ ⟨i+1,k+1,(P++[((Zd l s.details 3 fuel).es.getD i Zj).1]),_,_,_,_,Z++[(i1,q8,d8)],rfl,rfl,ay,r3,p2,l9,q2,e4,x3,x8,(by rw[eg];exact bo),(by rw[List.length_append,List.flatMap_append];exact j7),(aq.snoc rfl f2),by omega,by omega,b6.1,by rw[List.map_append,hZ,ev];rfl,by rw[List.length_append,List.length_singleton];omega⟩ (by omega))
  have j8:((Xu ((Zd l s.details 3 fuel).es.getD i Zj).2.1 0:Nat):Int)=((Jl l s.data fuel (Zo ((Zd l s.top 1 fuel).es.getD k Zj).2.1:Nat)).length:Nat):=by rw[r6];exact w5
  have e6:=d4.blkT (((((a6.below (Za a0)).below (Za a0.drew)).below (Za a0.drew.drew)).below d3.below).below a7) f7 (by decide)
  refine xb 5 4 e6 ?_
  refine xlv 0 y4.rp ?_
  refine xbs 0 1 [V0 (((Zd l s.details 3 fuel).es.getD i Zj).1),V0 (↑(Xu ((Zd l s.details 3 fuel).es.getD i Zj).2.1 1):Int),V0 (↑(Xu ((Zd l s.details 3 fuel).es.getD i Zj).2.1 2):Int),V0 (↑(Xu ((Zd l s.details 3 fuel).es.getD i Zj).2.1 3):Int),.slice q8 ((Zd l (↑(Zo ((Zd l s.top 1 fuel).es.getD k Zj).2.1):Int) 2 fuel).es.length) d8] 61 fun lt la j1=>?_
  have ej:=j1.ne y4
  have t9:=d4.below (bln p0 a7) gs
  have li:=j1.ge t9
  have o0:=d4.own3 (Zb (Zb m9 d3.below) a7) d9
  have ek:=Zx o0 j1
  have b0:=Zb o0 j1.below
  have u6:=bln t9 j1.below
  refine xbi 0 fun _ _ _ _ zJ zQ zo zx zy zK=>Zw (m:=1) (news:=[V0 (((Zd l s.details 3 fuel).es.getD i Zj).1),V0 (↑(Xu ((Zd l s.details 3 fuel).es.getD i Zj).2.1 1):Int),V0 (↑(Xu ((Zd l s.details 3 fuel).es.getD i Zj).2.1 2):Int),V0 (↑(Xu ((Zd l s.details 3 fuel).es.getD i Zj).2.1 3):Int),.slice q8 ((Zd l (↑(Zo ((Zd l s.top 1 fuel).es.getD k Zj).2.1):Int) 2 fuel).es.length) d8]) (.agg #[V0 0,V0 0,V0 0,V0 0,S0]) 5 56 ((Z.length+1)) ((Z.flatMap Lg++[(i1,q8,d8)].flatMap Lg)) zo Tryz.underlying22 (by kernel_rfl) rfl (by decide) zx b0 zy (j1.blk.sl 1 1 (by decide) (by decide)) rfl (by simp[Value.oneCell']) (by unfold maxLen;omega) (by omega) u6.size (rfl) (by rw[List.flatMap_cons,List.flatMap_nil,List.append_nil];unfold Lg;rw[c5,c8]) fun fd fc kv ik f0 gb=>?_
  refine zK _ _ ?_
  have a2:=(e6.below j1.below).grown f0 b0 (by decide)
  refine xs 1 a2 [V0 s.tx,V0 s.time,V0 s.unit,V0 s.data,.slice fd (Z.length+1) fc] fun jn m8 ic=>?_
  have z6:=m8.blkT ((y4.below j1.below).grown3 f0 d9) a2 (by decide)
  refine xb 6 4 z6 ?_
  refine xwm 1 ((↑(Kt (Vi l s.data fuel (Zd l s.details 3 fuel).es (Zd l s.top 1 fuel).es P)):Int)+(↑((Zd l (↑(Zo ((Zd l s.top 1 fuel).es.getD k Zj).2.1):Int) 2 fuel).es.length):Int)) (↑((Kt (Vi l s.data fuel (Zd l s.details 3 fuel).es (Zd l s.top 1 fuel).es P))+((Zd l (↑(Zo ((Zd l s.top 1 fuel).es.getD k Zj).2.1):Int) 2 fuel).es.length)):Int) ?_
  refine xwm 6 ((i:Int)+1) (↑(i+1):Int) ?_
  refine xwm 5 ((k:Int)+1) (↑(k+1):Int) ?_
  have dh:=m8.own2 (Zf (Zb (d4.own2 (Zb (Zb (Zb (Zb (Zb ho (Za a0)) (Za a0.drew)) (Za a0.drew.drew)) d3.below) a7) f7 (by decide)) j1.below) f0 b0 (by decide)) a2 (by decide)
  have eg:Ye l s.data fuel (Zd l s.details 3 fuel).es (Zd l s.top 1 fuel).es (P++[((Zd l s.details 3 fuel).es.getD i Zj).1])=_:=(Jr _ _ _ _ _ _ _).trans (congrArg (_++·) (Ow b6.2.1 b6.2.2 j8))
  have ev:Vi l s.data fuel (Zd l s.details 3 fuel).es (Zd l s.top 1 fuel).es (P++[((Zd l s.details 3 fuel).es.getD i Zj).1])=_:=(Js _ _ _ _ _ _ _).trans (congrArg (_++·) (Nr b6.2.1 b6.2.2))
  rw[←c8] at ev
  rw[List.append_nil] at eg
  have x0:=m8.own2 (Zf (Zb (d4.own2 (Zb (Zb g1 d3.below) a7) f7 (by decide)) j1.below) f0 b0 (by decide)) a2 (by decide)
  have x7:=m8.own2 (Zf (Zb (d4.own2 (Zb (Zb h6 d3.below) a7) f7 (by decide)) j1.below) f0 b0 (by decide)) a2 (by decide)
  have y5:=((((((((s0.below (Za a0)).below (Za a0.drew)).below (Za a0.drew.drew)).below d3.below).below a7).only (Ze.of_upd (T:=[61]) d4 f7 (by decide)) (by decide)).below j1.below).only (Ze.of_grown (T:=[61]) f0 b0 (by decide)) (by decide)).only (Ze.of_upd (T:=[24]) m8 a2 (by decide)) (by decide)
  have ag:=m8.own2 ik a2 (by decide)
  have j7:=ag
  have cr:=m8.own2 (Zf (Zb (d4.own2 (Zg aw z0) f7 (by decide)) j1.below) f0 b0 (by decide)) a2 (by decide)
  have f2:=cr
  rw[←c5,s2,show Jl l s.data fuel (↑(Zo ((Zd l s.top 1 fuel).es.getD k Zj).2.1):Int)=i1.2 from by rw[c8]] at f2
  have e4:=ic
  rw[show Z.length+1=(Z++[(i1,q8,d8)]).length from(List.length_append (bs:=[_])).symm] at e4
  refine xv1 3 10 (show(.slice pt ((Ye l s.data fuel (Zd l s.details 3 fuel).es (Zd l s.top 1 fuel).es P).length) ct:Value)=.slice pt ((Ye l s.data fuel (Zd l s.details 3 fuel).es (Zd l s.top 1 fuel).es (P++[((Zd l s.details 3 fuel).es.getD i Zj).1])).length) ct from(by first|rw[eg]|(rw[ev,Jp,c5]))) ?_
  refine xv1 0 12 (show(V0 (↑((Kt (Vi l s.data fuel (Zd l s.details 3 fuel).es (Zd l s.top 1 fuel).es P))+((Zd l (↑(Zo ((Zd l s.top 1 fuel).es.getD k Zj).2.1):Int) 2 fuel).es.length)):Int):Value)=V0 (↑(Kt (Vi l s.data fuel (Zd l s.details 3 fuel).es (Zd l s.top 1 fuel).es (P++[((Zd l s.details 3 fuel).es.getD i Zj).1]))):Int) from(by first|rw[eg]|(rw[ev,Jp,c5]))) ?_
  have bw:=m8.below (u6.trans gb) bd
  have n5:=m8.blkT (((d4.blkT (((((c4.below (Za a0)).below (Za a0.drew)).below (Za a0.drew.drew)).below d3.below).below a7) f7 (by decide)).below j1.below).grown f0 b0 (by decide)) a2 (by decide)
  have q9:=m8.blk (((d4.blkT (((((a1.below (Za a0)).below (Za a0.drew)).below (Za a0.drew.drew)).below d3.below).below a7) f7 (by decide)).below j1.below).grown f0 b0 (by decide)) (Ne.symm (Ne.symm f4))
  have m1:=m8.blkT (((d4.blkT ((b9.below d3.below).below a7) f7 (by decide)).below j1.below).grown f0 b0 (by decide)) a2 (by decide)
  have m4:=m8.blkT (((d4.blkT ((c0.below d3.below).below a7) f7 (by decide)).below j1.below).grown f0 b0 (by decide)) a2 (by decide)
  exact ze 0 (j0 _ _ _ ⟨i+1,k+1,(P++[((Zd l s.details 3 fuel).es.getD i Zj).1]),_,_,_,_,Z++[(i1,q8,d8)],rfl,rfl,bw,n5,q9,m1,m4,e4,x0,x7,(by rw[eg];exact dh),(by rw[List.length_append,List.flatMap_append];exact j7),(y5.snoc rfl f2),by omega,by omega,b6.1,by rw[List.map_append,hZ,ev];rfl,by rw[List.length_append,List.length_singleton];omega⟩ (by omega))
 have p1:=of_decide_eq_false p1
 refine xb 2 0 k0 ?_
 refine xid 5 ((k:Int)<(↑((Zd l s.top 1 fuel).es.length):Int)) (fun fp=>?_) (fun fp=>?_)
 ·refine xd 5 .z ?_
  have g6:=k0.below (Za a0)
  refine xb (.e [0,1] 2) 0 g6 ?_
  refine xgk (.b [3,4,5]) [63,64] (show(((k:Int)==(↑((Zd l s.top 1 fuel).es.length):Int)):Bool)=false from(beq_false_of_ne (by omega))) ?_
  have h1:=i3.below (Za a0)
  refine xb (.e [6,7] 8) 0 h1 ?_
  refine xgk (.b [9,10,11]) [69,70] (show(decide ((i:Int)<(↑((Zd l s.details 3 fuel).es.length):Int)):Bool)=false from(decide_eq_false (by omega))) ?_
  refine xd (.r [12,13,14,15,16,17,18,19,20,21,22,23,24,25,26] 7) .z ?_
  have h2:=h1.below (Za a0.drew)
  refine xb (.e [0,1] 2) 0 h2 ?_
  refine xgk (.b [3,4,5]) [102,103] (show(((i:Int)==(↑((Zd l s.details 3 fuel).es.length):Int)):Bool)=true from(beq_iff_eq.2 (by omega))) ?_
  have g5:=g6.below (Za a0.drew)
  refine xb (.r [6,7,8,9,10,11,12,13,14,15,16,17,18,19] 7) 0 g5 ?_
  have k3:=Zb (Zb ce (Za a0)) (Za a0.drew)
  refine xx 1 _ ((Zd l s.top 1 fuel).es.length) k 3 (Sts.cell (f:=Vt) (Zh k3) Zy Zj (k:=k) (i:=0) (by omega) rfl).1 ?_
  refine xl 1 ((Sts.cell (Zh k3) Zy Zj (k:=k) (i:=0) (by omega) rfl).2) ?_
  refine xr 0 (args:=#[V0 4,V0 (((Zd l s.top 1 fuel).es.getD k Zj).1),V0 18]) (Xx 4 (((Zd l s.top 1 fuel).es.getD k Zj).1) 18 _) fun kh e1=>?_
  refine xbs 0 1 [V0 4,V0 (((Zd l s.top 1 fuel).es.getD k Zj).1),V0 18] 100 fun kq jy k6=>?_
  have t8:=bln (bln (bln b5 (Za a0)) (Za a0.drew)) e1
  have ko:=k6.ge t8
  have s9:=Zb (Zb (Zb ho (Za a0)) (Za a0.drew)) e1
  have gp:=Zx s9 k6
  have c7:=Zb s9 k6.below
  have t0:=bln t8 k6.below
  refine xbi 0 fun _ _ _ _ zJ zQ zo zx zy zK=>Zw (m:=1) (news:=[V0 4,V0 (((Zd l s.top 1 fuel).es.getD k Zj).1),V0 18]) (.agg #[V0 0,V0 0,V0 0]) 3 24 (((Ye l s.data fuel (Zd l s.details 3 fuel).es (Zd l s.top 1 fuel).es P)++[((4:Int),((Zd l s.top 1 fuel).es.getD k Zj).1,(18:Int))]).length) ((((Ye l s.data fuel (Zd l s.details 3 fuel).es (Zd l s.top 1 fuel).es P)++[((4:Int),((Zd l s.top 1 fuel).es.getD k Zj).1,(18:Int))]).flatMap dmc)) zo Tryz.underlying47 (by kernel_rfl) rfl (by decide) zx c7 zy (k6.blk.sl 1 1 (by decide) (by decide)) rfl (by simp[Value.oneCell']) (by unfold maxLen;omega) (by omega) t0.size ((List.length_append (bs:=[_])).symm) (Jd _ ((4:Int),((Zd l s.top 1 fuel).es.getD k Zj).1,(18:Int))) fun ax cp kn ie i4 fs=>?_
  refine zK _ _ ?_
  refine xwm 6 ((k:Int)+1) (↑(k+1):Int) ?_
  have b6:=l2.symm.left u7 t1 (by omega) (Bc t1 (fun q=>by omega))
  have eg:Ye l s.data fuel (Zd l s.details 3 fuel).es (Zd l s.top 1 fuel).es (P++[((Zd l s.top 1 fuel).es.getD k Zj).1])=_:=(Jr _ _ _ _ _ _ _).trans (congrArg (_++·) (Ux b6.2.2))
  have ev:Vi l s.data fuel (Zd l s.details 3 fuel).es (Zd l s.top 1 fuel).es (P++[((Zd l s.top 1 fuel).es.getD k Zj).1])=_:=(Js _ _ _ _ _ _ _).trans (congrArg (_++·) (Wc b6.2.2))
  rw[List.append_nil] at ev
  have x2:=Zf (Zb (Zb (Zb (Zb z4 (Za a0)) (Za a0.drew)) e1) k6.below) i4 c7 (by decide)
  have w6:=Zf (Zb (Zb k3 e1) k6.below) i4 c7 (by decide)
  refine xv1 6 10 (show(.slice ax (((Ye l s.data fuel (Zd l s.details 3 fuel).es (Zd l s.top 1 fuel).es P)++[((4:Int),((Zd l s.top 1 fuel).es.getD k Zj).1,(18:Int))]).length) cp:Value)=.slice ax ((Ye l s.data fuel (Zd l s.details 3 fuel).es (Zd l s.top 1 fuel).es (P++[((Zd l s.top 1 fuel).es.getD k Zj).1])).length) cp from(by first|rw[eg]|rw[ev])) ?_
  refine xv1 0 12 (show(V0 (↑(Kt (Vi l s.data fuel (Zd l s.details 3 fuel).es (Zd l s.top 1 fuel).es P)):Int):Value)=V0 (↑(Kt (Vi l s.data fuel (Zd l s.details 3 fuel).es (Zd l s.top 1 fuel).es (P++[((Zd l s.top 1 fuel).es.getD k Zj).1]))):Int) from(by first|rw[eg]|rw[ev])) ?_
  have z3:=t0.trans fs
  have r5:=((((c4.below (Za a0)).below (Za a0.drew)).below e1).below k6.below).grown i4 c7 (by decide)
  have o1:=((((a1.below (Za a0)).below (Za a0.drew)).below e1).below k6.below).grown i4 c7 (by decide)
  have m2:=((h2.below e1).below k6.below).grown i4 c7 (by decide)
  have l7:=((g5.below e1).below k6.below).grown i4 c7 (by decide)
  have k4:=((((a6.below (Za a0)).below (Za a0.drew)).below e1).below k6.below).grown i4 c7 (by decide)
  have x1:=Zf (Zb (Zb (Zb (Zb v9 (Za a0)) (Za a0.drew)) e1) k6.below) i4 c7 (by decide)
  have bf:=((((s0.below (Za a0)).below (Za a0.drew)).below e1).below k6.below).only (Ze.of_grown (T:=[100]) i4 c7 (by decide)) (by decide)
  exact ze 0 (j0 _ _ _ ⟨i,k+1,(P++[((Zd l s.top 1 fuel).es.getD k Zj).1]),_,_,_,_,Z,rfl,rfl,z3,r5,o1,m2,l7,k4,x2,w6,(by rw[eg];exact ie),x1,bf,by omega,by omega,b6.1.symm,hZ.trans ev.symm,by rw[List.length_append,List.length_singleton];omega⟩ (by omega))
 refine xg 12 [174,175] ((↑((Ye l s.data fuel (Zd l s.details 3 fuel).es (Zd l s.top 1 fuel).es P).length):Int)==(0:Int)) (fun q0=>?_) (fun q0=>?_)
 ·have q0:=eq_of_beq q0
  refine xb 1 4 a6 ?_
  refine xg 3 [179,180] (decide ((Z.length:Int)>(4096:Int))) (fun n0=>?_) (fun n0=>?_)
  ·have n0:=of_decide_eq_true n0
   refine xr 9 (args:=#[V0 4,V0 0,V0 2]) (Xx 4 0 2 _) fun ml p6=>?_
   refine xbs 0 1 [V0 4,V0 0,V0 2] 100 fun lx lz t6=>?_
   have u3:=bln b5 p6
   have jx:=t6.ge u3
   have w1:=Zb ho p6
   have gq:=Zx w1 t6
   have k9:=Zb w1 t6.below
   have v7:=bln u3 t6.below
   refine xbi 0 fun _ _ _ _ zJ zQ zo zx zy zK=>Zw (m:=1) (news:=[V0 4,V0 0,V0 2]) (.agg #[V0 0,V0 0,V0 0]) 3 24 (((Ye l s.data fuel (Zd l s.details 3 fuel).es (Zd l s.top 1 fuel).es P)++[((4:Int),(0:Int),(2:Int))]).length) ((((Ye l s.data fuel (Zd l s.details 3 fuel).es (Zd l s.top 1 fuel).es P)++[((4:Int),(0:Int),(2:Int))]).flatMap dmc)) zo Tryz.underlying47 (by kernel_rfl) rfl (by decide) zx k9 zy (t6.blk.sl 1 1 (by decide) (by decide)) rfl (by simp[Value.oneCell']) (by unfold maxLen;omega) (by omega) v7.size ((List.length_append (bs:=[_])).symm) (Jd _ ((4:Int),(0:Int),(2:Int))) fun fy gr ln hd y0 eq=>?_
   refine zK _ _ ?_
   refine xid 11 ((↑(((Ye l s.data fuel (Zd l s.details 3 fuel).es (Zd l s.top 1 fuel).es P)++[((4:Int),(0:Int),(2:Int))]).length):Int)>(0:Int)) (fun fb=>?_) (fun fb=>?_)
   ·have i9:=((a1.below p6).below t6.below).grown y0 k9 (by decide)
    refine xsv 4 i9 [V0 0,V0 0,V0 0,V0 0,S0] fun jh hg iu=>?_
    have g2:=n2.ge n1.below
    have cb:=hg.own2 hd i9 (by decide)
    have z2:=hg.below (v7.trans eq) g2
    refine xec 5 iu (.tuple #[.agg #[V0 0,V0 0,V0 0,V0 0,S0],.slice fy (((Ye l s.data fuel (Zd l s.details 3 fuel).es (Zd l s.top 1 fuel).es P)++[((4:Int),(0:Int),(2:Int))]).length) gr]) ?_
    obtain rfl:i=(Zd l s.details 3 fuel).es.length:=by omega
    obtain rfl:k=(Zd l s.top 1 fuel).es.length:=by omega
    have hP:=l2.ids
    have j5:(Ye l s.data fuel (Zd l s.details 3 fuel).es (Zd l s.top 1 fuel).es P)=[]:=List.eq_nil_of_length_eq_zero (by omega)
    exact Kq ((Ju hP).trans (Pv m0 j5 (by omega))) (by simp) (by rw[j5];rfl) rfl z2 cb
   have j9:=((a6.below p6).below t6.below).grown y0 k9 (by decide)
   refine xlv 4 j9.rp ?_
   have g9:=((a1.below p6).below t6.below).grown y0 k9 (by decide)
   refine xsv 0 g9 [V0 s.tx,V0 s.time,V0 s.unit,V0 s.data,.slice pz Z.length cz] fun ji iw hs=>?_
   have g2:=n2.ge n1.below
   have gt:=iw.own2 hd g9 (by decide)
   refine xec 4 hs (.tuple #[.agg #[V0 s.tx,V0 s.time,V0 s.unit,V0 s.data,.slice pz Z.length cz],S0]) ?_
   obtain rfl:i=(Zd l s.details 3 fuel).es.length:=by omega
   obtain rfl:k=(Zd l s.top 1 fuel).es.length:=by omega
   have hP:=l2.ids
   exfalso
   have h9:((Ye l s.data fuel (Zd l s.details 3 fuel).es (Zd l s.top 1 fuel).es P)++[((4:Int),(0:Int),(2:Int))]).length=(Ye l s.data fuel (Zd l s.details 3 fuel).es (Zd l s.top 1 fuel).es P).length+1:=List.length_append (bs:=[_])
   omega
  have n0:=of_decide_eq_false n0
  refine xid 6 ((↑(Kt (Vi l s.data fuel (Zd l s.details 3 fuel).es (Zd l s.top 1 fuel).es P)):Int)>(16384:Int)) (fun ew=>?_) (fun ew=>?_)
  ·refine xr 2 (args:=#[V0 4,V0 0,V0 2]) (Xx 4 0 2 _) fun lk p4=>?_
   refine xbs 0 1 [V0 4,V0 0,V0 2] 100 fun kr kp v8=>?_
   have t4:=bln b5 p4
   have lp:=v8.ge t4
   have t7:=Zb ho p4
   have ez:=Zx t7 v8
   have l1:=Zb t7 v8.below
   have w2:=bln t4 v8.below
   refine xbi 0 fun _ _ _ _ zJ zQ zo zx zy zK=>Zw (m:=1) (news:=[V0 4,V0 0,V0 2]) (.agg #[V0 0,V0 0,V0 0]) 3 24 (((Ye l s.data fuel (Zd l s.details 3 fuel).es (Zd l s.top 1 fuel).es P)++[((4:Int),(0:Int),(2:Int))]).length) ((((Ye l s.data fuel (Zd l s.details 3 fuel).es (Zd l s.top 1 fuel).es P)++[((4:Int),(0:Int),(2:Int))]).flatMap dmc)) zo Tryz.underlying47 (by kernel_rfl) rfl (by decide) zx l1 zy (v8.blk.sl 1 1 (by decide) (by decide)) rfl (by simp[Value.oneCell']) (by unfold maxLen;omega) (by omega) w2.size ((List.length_append (bs:=[_])).symm) (Jd _ ((4:Int),(0:Int),(2:Int))) fun fm er kb gy w3 fh=>?_
   refine zK _ _ ?_
   refine xid 11 ((↑(((Ye l s.data fuel (Zd l s.details 3 fuel).es (Zd l s.top 1 fuel).es P)++[((4:Int),(0:Int),(2:Int))]).length):Int)>(0:Int)) (fun gm=>?_) (fun gm=>?_)
   ·have g3:=((a1.below p4).below v8.below).grown w3 l1 (by decide)
    refine xsv 4 g3 [V0 0,V0 0,V0 0,V0 0,S0] fun lr hf hn=>?_
    have g2:=n2.ge n1.below
    have bz:=hf.own2 gy g3 (by decide)
    have dm:=hf.below (w2.trans fh) g2
    refine xec 5 hn (.tuple #[.agg #[V0 0,V0 0,V0 0,V0 0,S0],.slice fm (((Ye l s.data fuel (Zd l s.details 3 fuel).es (Zd l s.top 1 fuel).es P)++[((4:Int),(0:Int),(2:Int))]).length) er]) ?_
    obtain rfl:i=(Zd l s.details 3 fuel).es.length:=by omega
    obtain rfl:k=(Zd l s.top 1 fuel).es.length:=by omega
    have hP:=l2.ids
    have j5:(Ye l s.data fuel (Zd l s.details 3 fuel).es (Zd l s.top 1 fuel).es P)=[]:=List.eq_nil_of_length_eq_zero (by omega)
    exact Kq ((Ju hP).trans (Pv m0 j5 (by omega))) (by simp) (by rw[j5];rfl) rfl dm bz
   have j6:=((a6.below p4).below v8.below).grown w3 l1 (by decide)
   refine xlv 4 j6.rp ?_
   have h0:=((a1.below p4).below v8.below).grown w3 l1 (by decide)
   refine xsv 0 h0 [V0 s.tx,V0 s.time,V0 s.unit,V0 s.data,.slice pz Z.length cz] fun ks io hr=>?_
   have g2:=n2.ge n1.below
   have gu:=io.own2 gy h0 (by decide)
   refine xec 4 hr (.tuple #[.agg #[V0 s.tx,V0 s.time,V0 s.unit,V0 s.data,.slice pz Z.length cz],S0]) ?_
   obtain rfl:i=(Zd l s.details 3 fuel).es.length:=by omega
   obtain rfl:k=(Zd l s.top 1 fuel).es.length:=by omega
   have hP:=l2.ids
   exfalso
   have h9:((Ye l s.data fuel (Zd l s.details 3 fuel).es (Zd l s.top 1 fuel).es P)++[((4:Int),(0:Int),(2:Int))]).length=(Ye l s.data fuel (Zd l s.details 3 fuel).es (Zd l s.top 1 fuel).es P).length+1:=List.length_append (bs:=[_])
   omega
  refine xid 10 ((↑((Ye l s.data fuel (Zd l s.details 3 fuel).es (Zd l s.top 1 fuel).es P).length):Int)>(0:Int)) (fun gi=>?_) (fun gi=>?_)
  ·refine xsv 4 a1 [V0 0,V0 0,V0 0,V0 0,S0] fun js hb iv=>?_
   have g2:=n2.ge n1.below
   have cn:=hb.own2 ho a1 (by decide)
   have bj:=hb.below b5 g2
   refine xec 5 iv (.tuple #[.agg #[V0 0,V0 0,V0 0,V0 0,S0],.slice pt ((Ye l s.data fuel (Zd l s.details 3 fuel).es (Zd l s.top 1 fuel).es P).length) ct]) ?_
   obtain rfl:i=(Zd l s.details 3 fuel).es.length:=by omega
   obtain rfl:k=(Zd l s.top 1 fuel).es.length:=by omega
   have hP:=l2.ids
   have j5:(Ye l s.data fuel (Zd l s.details 3 fuel).es (Zd l s.top 1 fuel).es P)≠[]:=fun q=>by have h9:=congrArg List.length q;simp only[List.length_nil] at h9;omega
   exact Kq ((Ju hP).trans (Rx m0 j5)) j5 rfl rfl bj cn
  refine xlv 4 a6.rp ?_
  refine xsv 0 a1 [V0 s.tx,V0 s.time,V0 s.unit,V0 s.data,.slice pz Z.length cz] fun ls dw hp=>?_
  have g2:=n2.ge n1.below
  have hl:=dw.own2 ho a1 (by decide)
  have df:=s0.only (Ze.of_upd (T:=[24]) dw a1 (by decide)) (by decide)
  have x5:=dw.own2 v9 a1 (by decide)
  have bq:=dw.below b5 g2
  refine xec 4 hp (.tuple #[.agg #[V0 s.tx,V0 s.time,V0 s.unit,V0 s.data,.slice pz Z.length cz],S0]) ?_
  obtain rfl:i=(Zd l s.details 3 fuel).es.length:=by omega
  obtain rfl:k=(Zd l s.top 1 fuel).es.length:=by omega
  have hP:=l2.ids
  have j5:(Ye l s.data fuel (Zd l s.details 3 fuel).es (Zd l s.top 1 fuel).es P)=[]:=List.eq_nil_of_length_eq_zero (by omega)
  exact Oi ((Ju hP).trans (Ot m0 j5 (by omega))) hZ rfl bq df x5
 have q0:=Xl q0
 refine xid 22 ((↑((Ye l s.data fuel (Zd l s.details 3 fuel).es (Zd l s.top 1 fuel).es P).length):Int)>(0:Int)) (fun eo=>?_) (fun eo=>?_)
 ·refine xsv 4 a1 [V0 0,V0 0,V0 0,V0 0,S0] fun lh hj ir=>?_
  have g2:=n2.ge n1.below
  have av:=hj.own2 ho a1 (by decide)
  have z5:=hj.below b5 g2
  refine xec 5 ir (.tuple #[.agg #[V0 0,V0 0,V0 0,V0 0,S0],.slice pt ((Ye l s.data fuel (Zd l s.details 3 fuel).es (Zd l s.top 1 fuel).es P).length) ct]) ?_
  obtain rfl:i=(Zd l s.details 3 fuel).es.length:=by omega
  obtain rfl:k=(Zd l s.top 1 fuel).es.length:=by omega
  have hP:=l2.ids
  have j5:(Ye l s.data fuel (Zd l s.details 3 fuel).es (Zd l s.top 1 fuel).es P)≠[]:=fun q=>by have h9:=congrArg List.length q;simp only[List.length_nil] at h9;omega
  exact Kq ((Ju hP).trans (Rx m0 j5)) j5 rfl rfl z5 av
 refine xlv 4 a6.rp ?_
 refine xsv 0 a1 [V0 s.tx,V0 s.time,V0 s.unit,V0 s.data,.slice pz Z.length cz] fun lb ee iq=>?_
 have g2:=n2.ge n1.below
 have hc:=ee.own2 ho a1 (by decide)
 have w9:=s0.only (Ze.of_upd (T:=[24]) ee a1 (by decide)) (by decide)
 have w8:=ee.own2 v9 a1 (by decide)
 have bb:=ee.below b5 g2
 refine xec 4 iq (.tuple #[.agg #[V0 s.tx,V0 s.time,V0 s.unit,V0 s.data,.slice pz Z.length cz],S0]) ?_
 obtain rfl:i=(Zd l s.details 3 fuel).es.length:=by omega
 obtain rfl:k=(Zd l s.top 1 fuel).es.length:=by omega
 have hP:=l2.ids
 have j5:(Ye l s.data fuel (Zd l s.details 3 fuel).es (Zd l s.top 1 fuel).es P)=[]:=List.eq_nil_of_length_eq_zero (by omega)
 exact Oi ((Ju hP).trans (Ot m0 j5 (by omega))) hZ rfl bb w9 w8
theorem Zcx{N:List Int}{i:Nat}(h:i<N.length):Gd (N.take (i+1))=Gd (N.take i)++leB (N.getD i 0) 4:=by
 unfold Gd
 rw[List.take_succ_eq_append_getElem h,List.flatMap_append]
 simp[List.getD,h]
theorem byte_inj{x y:UInt8}(h:(x.toNat:Int)=(y.toNat:Int)):x=y:=UInt8.toNat_inj.1 (by omega)
theorem bytes_ne{a b:Bl}{i:Nat}(hi:i<a.length)(hl:a.length=b.length)(h:((a.getD i 0).toNat:Int)≠((b.getD i 0).toNat:Int)):(a==b)=false:=by
 apply beq_false_of_ne
 rintro rfl
 exact h rfl
theorem bytes_eq{a b:Bl}(hl:a.length=b.length)(h:∀ j,j<a.length→a.getD j 0=b.getD j 0):(a==b)=true:=by
 rw[beq_iff_eq]
 apply List.ext_getElem hl
 intro j h1 h2
 have:=h j h1
 simpa [List.getD,h1,h2] using this
theorem Ro(p q:O0)(c d:Nat)(a b:Bl)(w:World)(hl:a.length≤100000000)(h:Bys w (.slice p a.length c) a)(h2:Bys w (.slice q b.length d) b) :
 C0 194 #[.slice p a.length c,.slice q b.length d] w (Ret (.bool (a==b)) w):=by
 refine zin 26 Tryz.func194 ?_
 refine xin 15 (a.length:Int) (b.length:Int) (fun a4=>?_) (fun a4=>?_)
 ·refine xe 7 (.bool false) ?_
  rw[show(a==b)=false from beq_false_of_ne (fun q=>by subst q;simp at *)];exact⟨rfl,(B1 w)⟩
 have hB:=Below.refl w.heap.size w
 refine zl 11 26 (fun zm a2 V=>∃ (i:Nat),a2=[(0,.slice p a.length c),(1,.slice q b.length d),(12,V0 (a.length:Int)),(13,V0 (i:Int))]∧zm=a.length-((i:Int)).toNat∧B0 w V∧i≤a.length∧(∀ j,j<i→a.getD j 0=b.getD j 0)) ⟨0,rfl,rfl,hB,Nat.zero_le _,?_⟩ ?_
 ·exact fun j hj=>absurd hj (by omega)
 rintro _ _ W2 ⟨i,rfl,rfl,a1,hi,hz⟩ J2 a6 r2
 refine xid 6 ((i:Int)<(a.length:Int)) (fun a3=>?_) (fun a3=>?_)
 ·refine xd 11 .z ?_
  refine xx (.e [0,1] 2) _ a.length i 1 (Bys.elem h (k:=i) (by omega)).1 ?_
  have a0:=bln a1 (Za W2)
  refine xl (.e [] 3) ((Bys.elem (h.below a0) (k:=i) (by omega)).2) ?_
  refine xx (.e [4,5] 6) _ b.length i 1 (Bys.elem h2 (k:=i) (by omega)).1 ?_
  refine xl (.e [] 7) ((Bys.elem (h2.below a0) (k:=i) (by omega)).2) ?_
  refine xin (.r [8] 2) (↑(a.getD i 0).toNat:Int) (↑(b.getD i 0).toNat:Int) (fun a5=>?_) (fun a5=>?_)
  ·refine xe 11 (.bool false) ?_
   rw[bytes_ne (i:=i) (by omega) (by omega) (by assumption)];exact⟨rfl,a0⟩
  refine xwm 4 ((i:Int)+1) (↑(i+1):Int) ?_
  exact ze 2 (a6 _ _ _ ⟨i+1,rfl,rfl,a0,by omega,fun j hj=>(Nat.lt_or_ge j i).elim (hz j) (fun q=>by obtain rfl:j=i:=(by omega);exact byte_inj (by assumption))⟩ (by omega))
 refine xe 11 (.bool true) ?_
 rw[bytes_eq (by omega) (fun j hj=>hz j (by omega))];exact⟨rfl,a1⟩
theorem Ea(p q:O0)(c d m n:Nat)(a b:Bl)(w:World)(hm:a.length=m)(hn:b.length=n)(hl:m≤100000000)(h:Bys w (.slice p m c) a)(h2:Bys w (.slice q n d) b):C0 194 #[.slice p m c,.slice q n d] w (Ret (.bool (a==b)) w):=by
 subst hm hn;exact Ro p q c d a b w hl h h2
theorem Pack_4s(p:O0)(c:Nat)(N:List Int)(w:World)(hn2:N.length≤1000)(hN:∀ i,i<N.length→0≤N.getD i 0∧N.getD i 0<4294967296)(hF:Sts Fo w (.slice p N.length c) N) :
 C0 169 #[.slice p N.length c] w (Ko (fun w' r=>∃ q d,r=.tuple #[.slice q (N.length*4) d,V0 0]∧w'.ownsRow w.heap.size 5 1 (.slice q (N.length*4) d) (N.length*4) ((Gd N).map bv)) w):=by
 refine zin 32 Tryz.func169 ?_
 have hB:=Below.refl w.heap.size w
 refine zl 20 32 (fun zm b1 V=>∃ (i m:Nat) (q:O0) (d:Nat),b1=[(4,.slice q m d),(7,.slice p N.length c),(8,V0 (N.length:Int)),(9,V0 (i:Int))]∧zm=N.length-((i:Int)).toNat∧B0 w V∧V.ownsRow w.heap.size 5 1 (.slice q m d) m ((Gd (N.take i)).map bv)∧i≤N.length∧m=i*4) ⟨0,0,_,_,rfl,rfl,hB,World.ownsRow_nil _ _ _ _,Nat.zero_le _,rfl⟩ ?_
 rintro _ _ W1 ⟨i,m,q,d,rfl,rfl,a0,ho,hi,hm⟩ J1 b0 r1
 refine xid 6 ((i:Int)<(N.length:Int)) (fun b4=>?_) (fun b4=>?_)
 ·refine xx 6 _ N.length i 2 (Sts.cell hF Zb2 0 (k:=i) (i:=0) (by omega) rfl).1 ?_
  refine xlv 0 (Sts.rp (k:=i) (hF.below a0) Zb2 0 (by omega) (by decide)) ?_
  refine xa 0 [V0 0,V0 0] 271 fun b3 W3 n3=>?_
  have g3:=n3.ge a0
  refine xsv 0 n3.blk [V0 4,V0 (N.getD i 0)] fun W4 u4 k4=>?_
  refine xb 6 0 k4 ?_
  refine xr 0 (args:=#[V0 4]) (Ov _) fun W5 a5=>?_
  have a2:=k4.below a5
  refine xb 10 1 a2 ?_
  refine xb 1 0 a2 ?_
  refine xr 0 (args:=#[V0 (N.getD i 0),V0 4]) (fits_4 (N.getD i 0) (hN i (by omega)).1 (hN i (by omega)).2 _) fun W6 a6=>?_
  have a4:=a2.below a6
  refine xb 9 1 a4 ?_
  refine xb 1 0 a4 ?_
  refine xc 0 (args:=#[V0 (N.getD i 0),V0 4]) (Zhj (N.getD i 0) (hN i (by omega)).1 _) ?_
  rintro _ W7 ⟨_,rfl,a9,h2⟩
  have b5:=(bln (bln (u4.below (bln a0 n3.below) g3) a5) a6).size
  have a1:=Zg h2 b5
  unfold Oa at a1
  rw[Ym] at a1
  obtain⟨p2,c2,rfl⟩:=(Zh a1).slice
  have a7:=Zb (Zb (Zb (u4.own2 (Zb ho n3.below) n3.blk (by decide)) a5) a6) a9
  have a3:=bln (bln (bln (u4.below (bln a0 n3.below) g3) a5) a6) a9
  refine xbi 0 fun _ _ _ _ zJ zQ zo zx zy zK=>Zw (m:=4) (news:=(leB (N.getD i 0) 4).map bv) (.int .u8 0) 1 1 (m+4) (((Gd (N.take (i+1))).map bv)) zo Tryz.underlying40 (by kernel_rfl) rfl (by decide) zx a7 zy (Zh a1) (by simp[Ym]) (Mu _) (by unfold maxLen;omega) (by omega) a3.size (by rfl) (by rw[Zcx (by omega),List.map_append]) fun b8 b7 W8 o8 b6 b2=>?_
  refine zK _ _ ?_
  refine xwm 5 ((i:Int)+1) (↑(i+1):Int) ?_
  have a8:=a3.trans b2
  exact ze 2 (b0 _ _ _ ⟨i+1,_,_,_,rfl,rfl,a8,o8,by omega,by omega⟩ (by omega))
 refine xe 13 (.tuple #[.slice q m d,V0 0]) ?_
 obtain rfl:i=N.length:=by omega
 rw[List.take_length] at ho
 subst hm
 exact⟨_,rfl,a0,_,_,rfl,ho⟩
theorem sup_put3(s:Sup):((Gm++List.replicate 236 (0:UInt8)).map bv).take 8++(Gd (1::Iz s)).map bv++((Gm++List.replicate 236 (0:UInt8)).map bv).drop (8+48)=(Om s).map bv:=by
 unfold Om
 rw[List.map_append (l₁:=Gm++Gd (1::Iz s)),List.map_append (l₁:=Gm) (l₂:=Gd (1::Iz s))]
 congr 1
theorem supN_bd{s:Sup}(h:Yb s=true):∀ i,i<(1::Iz s).length→0≤(1::Iz s).getD i 0∧(1::Iz s).getD i 0<4294967296:=by
 unfold Yb at h
 simp only[Bool.and_eq_true,decide_eq_true_iff,Bool.true_and] at h
 intro i hi
 have a0:i<12:=hi
 obtain rfl|rfl|rfl|rfl|rfl|rfl|rfl|rfl|rfl|rfl|rfl|rfl:i=0∨i=1∨i=2∨i=3∨i=4∨i=5∨i=6∨i=7∨i=8∨i=9∨i=10∨i=11:=by omega
 all_goals simp[Iz,List.getD]
 all_goals omega
theorem Oo(s:Sup)(w:World)(hb0:0≤s.blocks)(hb1:s.blocks<9223372036854775808)(hr:Yb s=false) :
 C0 79 #[.agg #[V0 s.tx,V0 s.time,V0 s.unit,V0 s.data,V0 s.blocks,V0 s.top,V0 s.details,V0 s.dslots,V0 s.dover,V0 s.mindex,V0 s.mover]] w (Ret (.tuple #[S0,V0 1]) w):=by
 refine zin 28 Tryz.func79 ?_
 refine xa 2 [V0 s.tx,V0 s.time,V0 s.unit,V0 s.data,V0 s.blocks,V0 s.top,V0 s.details,V0 s.dslots,V0 s.dover,V0 s.mindex,V0 s.mover] 44 fun b1 W1 n1=>?_
 refine xlv 7 n1.blk.rp ?_
 refine xr 0 (args:=#[.agg #[V0 s.tx,V0 s.time,V0 s.unit,V0 s.data,V0 s.blocks,V0 s.top,V0 s.details,V0 s.dslots,V0 s.dover,V0 s.mindex,V0 s.mover]]) (Tz s _ hb0 hb1) fun W2 a0=>?_
 refine xk 3 (show(!(Yb s):Bool)=true from by rw[hr];rfl) ?_
 have hB:=bln n1.below a0
 exact xe 8 (.tuple #[S0,V0 1]) ⟨rfl,hB⟩
theorem Zeq(s:Sup)(w:World)(hb0:0≤s.blocks)(hb1:s.blocks<9223372036854775808)(hr:Yb s=true) :
 C0 79 #[.agg #[V0 s.tx,V0 s.time,V0 s.unit,V0 s.data,V0 s.blocks,V0 s.top,V0 s.details,V0 s.dslots,V0 s.dover,V0 s.mindex,V0 s.mover]] w (Ko (fun w' r=>∃ p c,r=.tuple #[.slice p 244 c,V0 0]∧w'.ownsRow w.heap.size 5 1 (.slice p 244 c) 244 ((Om s).map bv)) w):=by
 have hN:=supN_bd hr
 refine zin 28 Tryz.func79 ?_
 refine xa 2 [V0 s.tx,V0 s.time,V0 s.unit,V0 s.data,V0 s.blocks,V0 s.top,V0 s.details,V0 s.dslots,V0 s.dover,V0 s.mindex,V0 s.mover] 44 fun b1 W1 n1=>?_
 refine xlv 7 n1.blk.rp ?_
 refine xr 0 (args:=#[.agg #[V0 s.tx,V0 s.time,V0 s.unit,V0 s.data,V0 s.blocks,V0 s.top,V0 s.details,V0 s.dslots,V0 s.dover,V0 s.mindex,V0 s.mover]]) (Tz s _ hb0 hb1) fun W2 a3=>?_
 refine xk 3 (show(!(Yb s):Bool)=false from by rw[hr];rfl) ?_
 refine xbs 5 1 [V0 4,V0 1] 271 fun b3 W3 n3=>?_
 refine xa 0 [S0] 272 fun b4 W4 n4=>?_
 refine xs 0 n4.blk [.slice (S1 b3) 1 1] fun W5 u5 k5=>?_
 have g4:=n4.ge (bln (bln n1.below a3) n3.below)
 have k3:=u5.blkT (n3.blk.below n4.below) n4.blk (by decide)
 have g3:=n3.ge (bln n1.below a3)
 have a6:World.ownsRow W5 w.heap.size 271 2 (.slice (S1 b3) 1 1) 1 (([1]:List Int).flatMap Fo):=Xc (size:=2) (n:=1) k3 g3 rfl (by decide)
 have hB:=u5.below (bln (bln (bln n1.below a3) n3.below) n4.below) g4
 have b2:=u5.blkT (((n1.blk.below a3).below n3.below).below n4.below) n4.blk (by decide)
 refine xc 5 (args:=#[P0 b1,.func (.func 168) #[] #[P0 b4]]) (Im w.heap.size w.heap.size b1 b4 s _ 1 _ (Nat.le_refl _) hB.size hB.size g4 hb0 hb1 b2 k5 a6) ?_
 rintro _ W6 ⟨u6,c0,b7,rfl,c1,d0,c9,a4⟩
 refine xb 4 0 c9 ?_
 refine xc 0 (args:=#[.slice c0 12 b7]) (Pack_4s c0 b7 (1::Iz s) _ (show 12≤1000 by decide) hN (Zh a4)) ?_
 rintro _ W7 ⟨_,rfl,c5,q2,d2,rfl,h2⟩
 have c2:=(hB.trans c1).size
 have b5:=Zg h2 c2
 replace h2:World.ownsRow _ _ _ _ (.slice q2 48 d2) 48 ((Gd (1::Iz s)).map bv):=b5
 have a7:=bln (hB.trans c1) c5
 have b8:=a7
 refine xmk 9 fun _ _ _ _ zJ zQ zo zx zy zK=>Ma 244 (.int .u8 0) 1 1 ((List.replicate 244 (0:UInt8)).map bv) zo zx zy Tryz.underlying40 (by kernel_rfl) rfl (by omega) (by omega) (zerosB 244) fun b9 W9 n9=>?_
 refine zK _ _ ?_
 have o9:=Xc (size:=1) (n:=244) n9.blk (n9.ge (B1 W7)) (by rw[List.length_map,List.length_replicate]) (by unfold maxLen;omega)
 refine xbi 7 (t2:=9) fun _ _ _ _ zJ zQ zo zx zy zK=>op_copyS (dLen:=244) (dCap:=244) (off:=0) ([83,67,65,78,84,76,73,78]) (((Gm++List.replicate 236 (0:UInt8)).map bv)) zo Tryz.underlying40 (by kernel_rfl) zx zy o9 (by decide) (by decide) n9.below.size (by rfl) fun d1 c7 c4 a5=>?_
 refine zK _ _ ?_
 have a1:=Zh h2
 have a0:=n9.below.trans a5
 refine xbi 2 (t2:=40) fun _ _ _ _ zJ zQ zo zx zy zK=>op_copy (dLen:=236) (dCap:=236) (off:=8) 48 ((Gd (1::Iz s)).map bv) (((Om s).map bv)) zo Tryz.underlying40 (by kernel_rfl) zx zy (a1.below a0) c7 (by rw[List.length_map,Cy];rfl) (by decide) (by decide) (Mu _) a0.size (sup_put3 s) fun c3 c8 c6 a9=>?_
 refine zK _ _ ?_
 have b0:=a0.trans a9
 have b6:B0 W7 c3:=b0
 have a8:w.heap.size≤W7.heap.size:=b8.size
 have hB:=bln b8 b6
 have a2:=Zg c8 a8
 exact xe 10 (.tuple #[.slice (S1 b9) 244 244,V0 0]) ⟨_,rfl,hB,_,_,rfl,a2⟩
theorem Sg(l:Bl):0≤(Zi l).blocks∧(Zi l).blocks<9223372036854775808:=by
 have:=Yl l 28 4 (by decide)
 show 0≤(Zl l 28 4:Int)∧(Zl l 28 4:Int)<9223372036854775808
 omega
theorem sup_PutP(s:Sup)(w:World)(hb:0≤s.blocks∧s.blocks<9223372036854775808):C0 79 #[.agg #[V0 s.tx,V0 s.time,V0 s.unit,V0 s.data,V0 s.blocks,V0 s.top,V0 s.details,V0 s.dslots,V0 s.dover,V0 s.mindex,V0 s.mover]] w (fun e w' =>
 (Yb s=false∧e=.returned (.tuple #[S0,V0 1])∧B0 w w') ∨
 (Yb s=true∧∃ p c,e=.returned (.tuple #[.slice p 244 c,V0 0])∧B0 w w'∧w'.ownsRow w.heap.size 5 1 (.slice p 244 c) 244 ((Om s).map bv))):=by
 cases hr:Yb s with
 | false =>
  refine(Oo s w hb.1 hb.2 hr).mono ?_
  rintro e W ⟨rfl,h⟩
  exact .inl ⟨rfl,rfl,h⟩
 | true =>
  refine(Zeq s w hb.1 hb.2 hr).mono ?_
  rintro e W ⟨_,rfl,h,p,c,rfl,ho⟩
  exact .inr ⟨rfl,p,c,rfl,h,ho⟩
def SupP(l:Bl)(w:World)(e:Ending)(w':World):Prop :=
 (Sr l=false∧e=.returned (.tuple #[.agg #[V0 0,V0 0,V0 0,V0 0,V0 0,V0 0,V0 0,V0 0,V0 0,V0 0,V0 0],V0 7])∧B0 w w')∨(Sr l=true∧e=.returned (.tuple #[.agg #[V0 ((Zi l).tx),V0 ((Zi l).time),V0 ((Zi l).unit),V0 ((Zi l).data),V0 ((Zi l).blocks),V0 ((Zi l).top),V0 ((Zi l).details),V0 ((Zi l).dslots),V0 ((Zi l).dover),V0 ((Zi l).mindex),V0 ((Zi l).mover)],V0 0])∧B0 w w')
theorem Ry{l:Bl}(hl:l.length=244):Sr l=((Om (Zi l)==l)&&Yb (Zi l)):=by rw[supB_eq hl];rfl
theorem sup_Read(a:O0)(c:Nat)(l:Bl)(w:World)(hl:l.length=244)(h:Bys w (.slice a 244 c) l) :
 C0 104 #[.slice a 244 c] w (SupP l w):=by
 refine zin 29 Tryz.func104 ?_
 refine xa 2 [.slice a 244 c] 40 fun b1 W1 n1=>?_
 refine xa 0 [V0 0,V0 0,V0 0,V0 0,V0 0,V0 0,V0 0,V0 0,V0 0,V0 0,V0 0] 44 fun b2 W2 n2=>?_
 refine xa 5 [V0 0,V0 0,V0 0,V0 0,V0 0,V0 0,V0 0,V0 0,V0 0,V0 0,V0 0] 44 fun b3 W3 n3=>?_
 have c5:=n3.ne n2.blk
 have k1:=(n1.blk.below n2.below).below n3.below
 refine xb 5 0 k1 ?_
 refine xa 9 [V0 0] 3 fun b4 W4 n4=>?_
 refine xs 0 n4.blk [V0 12] fun W5 u5 k5=>?_
 have g4:=n4.ge (bln (bln n1.below n2.below) n3.below)
 have b9:=u5.blkT ((n2.blk.below n3.below).below n4.below) n4.blk (by decide)
 have d0:=b9
 have hB:=u5.below (bln (bln (bln n1.below n2.below) n3.below) n4.below) g4
 have k3:=u5.blkT (n3.blk.below n4.below) n4.blk (by decide)
 have a4:=u5.blkT (k1.below n4.below) n4.blk (by decide)
 have g3:=n3.ge (bln n1.below n2.below)
 refine xc 5 (args:=#[P0 b3,.func (.func 193) #[] #[P0 b1,P0 b4]]) (Sx b3 b3 b1 b4 a c l _ (by have:=n3.at_;have:=hB.size;have q:=(k3).lt;omega) (Nat.le_refl _) (by have q1:=n3.at_;have q2:=n3.size;have q3:=n4.at_;omega) k3 a4 k5 hl (fun W q=>h.below (hB.trans (q.mono g3)))) ?_
 rintro _ W6 ⟨u6,rfl,b0,c8,a9⟩
 have b7:=d0.below' b0 (by have q1:=n2.at_;have q2:=n2.size;have q3:=n3.at_;omega)
 replace a9:Blk _ _ [V0 ((Zi l).tx),V0 ((Zi l).time),V0 ((Zi l).unit),V0 ((Zi l).data),V0 ((Zi l).blocks),V0 ((Zi l).top),V0 ((Zi l).details),V0 ((Zi l).dslots),V0 ((Zi l).dover),V0 ((Zi l).mindex),V0 ((Zi l).mover)] _:=a9
 refine xlv 5 a9.rp ?_
 refine xc 0 (args:=#[.agg #[V0 ((Zi l).tx),V0 ((Zi l).time),V0 ((Zi l).unit),V0 ((Zi l).data),V0 ((Zi l).blocks),V0 ((Zi l).top),V0 ((Zi l).details),V0 ((Zi l).dslots),V0 ((Zi l).dover),V0 ((Zi l).mindex),V0 ((Zi l).mover)]]) (sup_PutP (Zi l) _ (Sg l)) ?_
 rintro e W7 d3
 rcases d3 with ⟨b5,rfl,a0⟩|⟨b5,p4,c4,rfl,a0,h4⟩
 ·have a5:=b7.below a0
  refine xsv 23 a5 [V0 0,V0 0,V0 0,V0 0,V0 0,V0 0,V0 0,V0 0,V0 0,V0 0,V0 0] fun W8 u8 k8=>?_
  have g2:=n2.ge n1.below
  have b8:=u8.below (bln (hB.trans (b0.mono g3)) a0) g2
  exact xec 5 k8 (.tuple #[.agg #[V0 0,V0 0,V0 0,V0 0,V0 0,V0 0,V0 0,V0 0,V0 0,V0 0,V0 0],V0 7]) (.inl ⟨by rw[Ry hl,b5];exact Bool.and_false _,rfl,b8⟩)
 have c6:=(hB.trans (b0.mono g3)).size
 have c3:=(a4.only c8 (by decide)).below a0
 refine xb 13 0 c3 ?_
 have c2:=Zg h4 c6
 have a2:=bln (hB.trans (b0.mono g3)) a0
 refine xr 0 (args:=#[.slice p4 244 c4,.slice a 244 c]) (Ea p4 a c4 c 244 244 (Om (Zi l)) l _ (Zbz _) hl (by decide) (Gp (Zh c2) (Zbz _)) (h.below a2)) fun W9 a6=>?_
 refine xi 4 (!(Om (Zi l)==l)) (fun a1=>?_) (fun a1=>?_)
 ·have b6:(Om (Zi l)==l)=false:=by simpa using a1
  have a8:=(b7.below a0).below a6
  refine xsv 3 a8 [V0 0,V0 0,V0 0,V0 0,V0 0,V0 0,V0 0,V0 0,V0 0,V0 0,V0 0] fun d4 d1 c7=>?_
  have g2:=n2.ge n1.below
  have c0:=d1.below (bln a2 a6) g2
  exact xec 5 c7 (.tuple #[.agg #[V0 0,V0 0,V0 0,V0 0,V0 0,V0 0,V0 0,V0 0,V0 0,V0 0,V0 0],V0 7]) (.inl ⟨by rw[Ry hl,b6];rfl,rfl,c0⟩)
 have b6:(Om (Zi l)==l)=true:=by simpa using a1
 have a7:=(a9.below a0).below a6
 refine xlv 4 a7.rp ?_
 have a3:=(b7.below a0).below a6
 refine xsv 0 a3 [V0 ((Zi l).tx),V0 ((Zi l).time),V0 ((Zi l).unit),V0 ((Zi l).data),V0 ((Zi l).blocks),V0 ((Zi l).top),V0 ((Zi l).details),V0 ((Zi l).dslots),V0 ((Zi l).dover),V0 ((Zi l).mindex),V0 ((Zi l).mover)] fun d5 d2 c9=>?_
 have g2:=n2.ge n1.below
 have c1:=d2.below (bln a2 a6) g2
 exact xec 4 c9 (.tuple #[.agg #[V0 ((Zi l).tx),V0 ((Zi l).time),V0 ((Zi l).unit),V0 ((Zi l).data),V0 ((Zi l).blocks),V0 ((Zi l).top),V0 ((Zi l).details),V0 ((Zi l).dslots),V0 ((Zi l).dover),V0 ((Zi l).mindex),V0 ((Zi l).mover)],V0 0]) (.inr ⟨by rw[Ry hl,b6,b5];rfl,rfl,c1⟩)
def Hx(l:Bl)(n:Nat):Int:=if Sr l then(if(n:Int)<(Zi l).blocks then 2 else 0) else 7
def Xi(l:Bl):Int:=if inE l 1 0=0 then Hx (inB l 0) (l.length/256) else inE l 1 0
def Sup1P(l:Bl)(n:Nat)(w:World)(e:Ending)(w':World):Prop :=
 (Hx l n≠0∧∃ s:Sup,e=.returned (.tuple #[.agg #[V0 s.tx,V0 s.time,V0 s.unit,V0 s.data,V0 s.blocks,V0 s.top,V0 s.details,V0 s.dslots,V0 s.dover,V0 s.mindex,V0 s.mover],V0 (Hx l n)])∧B0 w w')∨(Hx l n=0∧e=.returned (.tuple #[.agg #[V0 ((Zi l).tx),V0 ((Zi l).time),V0 ((Zi l).unit),V0 ((Zi l).data),V0 ((Zi l).blocks),V0 ((Zi l).top),V0 ((Zi l).details),V0 ((Zi l).dslots),V0 ((Zi l).dover),V0 ((Zi l).mindex),V0 ((Zi l).mover)],V0 0])∧B0 w w')
def Zgf(l:Bl)(w:World)(e:Ending)(w':World):Prop :=
 (Xi l≠0∧∃ b,e=.returned (.tuple #[.agg #[V0 0,V0 0,V0 0,V0 0,V0 0,V0 0,V0 0,V0 0,V0 0,V0 0,V0 0],.iface 185 (P0 b)])∧B0 w w'∧Kl w' [some 0] (some (Xi l)) (.iface 185 (P0 b))) ∨
 (Xi l=0∧e=.returned (.tuple #[.agg #[V0 ((Zi (inB l 0)).tx),V0 ((Zi (inB l 0)).time),V0 ((Zi (inB l 0)).unit),V0 ((Zi (inB l 0)).data),V0 ((Zi (inB l 0)).blocks),V0 ((Zi (inB l 0)).top),V0 ((Zi (inB l 0)).details),V0 ((Zi (inB l 0)).dslots),V0 ((Zi (inB l 0)).dover),V0 ((Zi (inB l 0)).mindex),V0 ((Zi (inB l 0)).mover)],.nilIface])∧B0 w w')
def supZ:Sup:=⟨0,0,0,0,0,0,0,0,0,0,0⟩
theorem super_1(B b bm:Nat)(pi:O0)(ni ci:Nat)(li:Bl)(a:O0)(c:Nat)(l:Bl)(w:World)(hI:ImgR B b pi ni ci li w)(km:Blk w bm [P0 b] 27)(hl:l.length=244)(h:Bys w (.slice a 244 c) l) :
 C0 103 #[.slice a 244 c,P0 bm] w (Sup1P l (ni/256) w):=by
 have c9:=hI.hn
 refine zin 24 Tryz.func103 ?_
 refine xa 2 [V0 0,V0 0,V0 0,V0 0,V0 0,V0 0,V0 0,V0 0,V0 0,V0 0,V0 0] 44 fun b1 W1 n1=>?_
 refine xc 6 (args:=#[.slice a 244 c]) (sup_Read a c l _ hl (h.below n1.below)) ?_
 rintro e W2 c4
 rcases c4 with ⟨a5,rfl,a3⟩|⟨a5,rfl,a3⟩
 ·refine xa 3 [V0 0,V0 0,V0 0,V0 0,V0 0,V0 0,V0 0,V0 0,V0 0,V0 0,V0 0] 44 fun b3 W3 n3=>?_
  have k1:=n1.blk.below a3
  have a6:=n3.ne k1
  have a7:=bln n1.below a3
  have g3:=n3.ge a7
  refine xsv 0 n3.blk [V0 0,V0 0,V0 0,V0 0,V0 0,V0 0,V0 0,V0 0,V0 0,V0 0,V0 0] fun W4 u4 k4=>?_
  refine xd 5 .z ?_
  have b2:=k4.below (Za W4)
  refine xlv (.r [0,1,2,3,4,5,6,7,8] 7) b2.rp ?_
  have b7:=(u4.blk (k1.below n3.below) (Ne.symm (Ne.symm a6))).below (Za W4)
  refine xsv 1 b7 [V0 0,V0 0,V0 0,V0 0,V0 0,V0 0,V0 0,V0 0,V0 0,V0 0,V0 0] fun W5 u5 k5=>?_
  have g1:=n1.ge (B1 w)
  have b8:=u5.below (bln (u4.below (bln a7 n3.below) g3) (Za W4)) g1
  exact xec 4 k5 (.tuple #[.agg #[V0 0,V0 0,V0 0,V0 0,V0 0,V0 0,V0 0,V0 0,V0 0,V0 0,V0 0],V0 7]) (.inl ⟨by unfold Hx;rw[a5,if_neg (by decide)];decide,supZ,by unfold Hx;rw[a5,if_neg (by decide)];rfl,b8⟩)
 refine xa 3 [V0 0,V0 0,V0 0,V0 0,V0 0,V0 0,V0 0,V0 0,V0 0,V0 0,V0 0] 44 fun b6 W6 n6=>?_
 have k1:=n1.blk.below a3
 have a0:=n6.ne k1
 have a8:=bln n1.below a3
 have g6:=n6.ge a8
 refine xsv 0 n6.blk [V0 ((Zi l).tx),V0 ((Zi l).time),V0 ((Zi l).unit),V0 ((Zi l).data),V0 ((Zi l).blocks),V0 ((Zi l).top),V0 ((Zi l).details),V0 ((Zi l).dslots),V0 ((Zi l).dover),V0 ((Zi l).mindex),V0 ((Zi l).mover)] fun W7 u7 k7=>?_
 refine xd 5 .z ?_
 have a1:=k7.below (Za W7)
 refine xb (.e [0,1,2,3] 4) 4 a1 ?_
 have b0:=(u7.blkT (((km.below n1.below).below a3).below n6.below) n6.blk (by decide)).below (Za W7)
 refine xb (.e [] 5) 0 b0 ?_
 have a2:=bln (u7.below (bln a8 n6.below) g6) (Za W7)
 refine xr (.o [] 6) (args:=#[P0 b]) (Gu b _ ni ci _ (hI.below a2).blk (by omega)) fun W8 a4=>?_
 refine xid (.r [7,8] 2) ((Zi l).blocks>(↑(ni/256):Int)) (fun c2=>?_) (fun c2=>?_)
 ·have b5:=a1.below a4
  refine xlv 2 b5.rp ?_
  have c0:=((u7.blk (k1.below n6.below) (Ne.symm (Ne.symm a0))).below (Za W7)).below a4
  refine xsv 0 c0 [V0 ((Zi l).tx),V0 ((Zi l).time),V0 ((Zi l).unit),V0 ((Zi l).data),V0 ((Zi l).blocks),V0 ((Zi l).top),V0 ((Zi l).details),V0 ((Zi l).dslots),V0 ((Zi l).dover),V0 ((Zi l).mindex),V0 ((Zi l).mover)] fun d0 c7 c6=>?_
  have g1:=n1.ge (B1 w)
  have c1:=c7.below (bln a2 a4) g1
  exact xec 5 c6 (.tuple #[.agg #[V0 ((Zi l).tx),V0 ((Zi l).time),V0 ((Zi l).unit),V0 ((Zi l).data),V0 ((Zi l).blocks),V0 ((Zi l).top),V0 ((Zi l).details),V0 ((Zi l).dslots),V0 ((Zi l).dover),V0 ((Zi l).mindex),V0 ((Zi l).mover)],V0 2]) (.inl ⟨by unfold Hx;rw[if_pos a5,if_pos (by omega)];decide,Zi l,by unfold Hx;rw[if_pos a5,if_pos (by omega)],c1⟩)
 have a9:=a1.below a4
 refine xlv 4 a9.rp ?_
 have b4:=((u7.blk (k1.below n6.below) (Ne.symm (Ne.symm a0))).below (Za W7)).below a4
 refine xsv 1 b4 [V0 ((Zi l).tx),V0 ((Zi l).time),V0 ((Zi l).unit),V0 ((Zi l).data),V0 ((Zi l).blocks),V0 ((Zi l).top),V0 ((Zi l).details),V0 ((Zi l).dslots),V0 ((Zi l).dover),V0 ((Zi l).mindex),V0 ((Zi l).mover)] fun c8 c5 c3=>?_
 have g1:=n1.ge (B1 w)
 have b9:=c5.below (bln a2 a4) g1
 exact xec 4 c3 (.tuple #[.agg #[V0 ((Zi l).tx),V0 ((Zi l).time),V0 ((Zi l).unit),V0 ((Zi l).data),V0 ((Zi l).blocks),V0 ((Zi l).top),V0 ((Zi l).details),V0 ((Zi l).dslots),V0 ((Zi l).dover),V0 ((Zi l).mindex),V0 ((Zi l).mover)],V0 0]) (.inr ⟨by unfold Hx;rw[if_pos a5,if_neg (by omega)],rfl,b9⟩)
theorem Zfc(B b:Nat)(p:O0)(n c:Nat)(l:Bl)(w:World)(hI:ImgR B b p n c l w)(bt:Nat)(kt:Blk w bt [P0 b] 27) :
 C0 102 #[P0 b,V0 0,V0 1,.func (.func 103) #[] #[P0 bt]] w (Zgf l w):=by
 refine zin 56 Tryz.func102 ?_
 refine xa 2 [V0 0,V0 0,V0 0,V0 0,V0 0,V0 0,V0 0,V0 0,V0 0,V0 0,V0 0] 44 fun b1 W1 n1=>?_
 refine xa 5 [V0 0,V0 0,V0 0,V0 0,V0 0,V0 0,V0 0,V0 0,V0 0,V0 0,V0 0] 44 fun b2 W2 n2=>?_
 have g9:=n2.ne n1.blk
 have hB:=bln n1.below n2.below
 refine xc 6 (args:=#[P0 b,V0 0]) (Ff B b p n c l 0 _ (hI.below hB)) ?_
 rintro e W3 i4
 rcases i4 with ⟨ho,vr,rfl,a0⟩|⟨j,hk,hj,p2,c2,rfl,a0,ho⟩
 ·refine xd 16 (.t w.heap.size [44]) ?_
  refine xm2 (.b [1,2,3]) 0 4 ?_ ?_
  ·have k2:=(n2.blk.below a0).below (Za W3)
   refine xlv 0 k2.rp ?_
   refine yc (.o [] 4) (args:=#[V0 0,.iface 63 (V0 3)]) (.t w.heap.size [44]) (Yr 0 3 _) ?_
   rintro _ W4 ⟨_,rfl,f1,e6⟩
   refine⟨(SF.of_below _ f1),?_⟩
   rw[if_neg (by decide),if_neg (by decide)] at e6
   have j2:=e6
   obtain⟨i9,k0,rfl,_,_⟩:=j2
   have c5:=(((n1.blk.below n2.below).below a0).below (Za W3)).below f1
   have g1:=n1.ge (B1 w)
   refine ysv (.o [] 5) c5 [V0 0,V0 0,V0 0,V0 0,V0 0,V0 0,V0 0,V0 0,V0 0,V0 0,V0 0] (.t w.heap.size [44]) fun W5 u5 k5=>⟨(Zp u5 c5 g1 (by decide)),?_⟩
   have g6:=u5.below (bln (bln (bln hB a0) (Za W3)) f1) g1
   have d6:=e6.upd u5 c5 (by decide)
   refine xec (.r [6] 4) k5 (.tuple #[.agg #[V0 0,V0 0,V0 0,V0 0,V0 0,V0 0,V0 0,V0 0,V0 0,V0 0,V0 0],.iface 185 (P0 i9)]) ?_
   have he:Xi l=3:=by unfold Xi;rw[Db hI.len ho];rfl
   exact .inl ⟨by rw[he];decide,_,rfl,g6,by rw[he];exact d6⟩
  refine yc 0 (args:=#[V0 0,.iface 63 (V0 3)]) (.t w.heap.size [44]) (Yr 0 3 _) ?_
  rintro _ W6 ⟨_,rfl,e0,f4⟩
  refine⟨(SF.of_below _ e0),?_⟩
  rw[if_neg (by decide),if_neg (by decide)] at f4
  have i0:=f4
  obtain⟨j7,l3,rfl,_,_⟩:=i0
  have k2:=((n2.blk.below a0).below (Za W3)).below e0
  refine xlv (.o [] 0) k2.rp ?_
  have c8:=(((n1.blk.below n2.below).below a0).below (Za W3)).below e0
  have g1:=n1.ge (B1 w)
  refine ysv (.o [] 5) c8 [V0 0,V0 0,V0 0,V0 0,V0 0,V0 0,V0 0,V0 0,V0 0,V0 0,V0 0] (.t w.heap.size [44]) fun W7 u7 k7=>⟨(Zp u7 c8 g1 (by decide)),?_⟩
  have e5:=u7.below (bln (bln (bln hB a0) (Za W3)) e0) g1
  have d2:=f4.upd u7 c8 (by decide)
  refine xec (.r [6] 4) k7 (.tuple #[.agg #[V0 0,V0 0,V0 0,V0 0,V0 0,V0 0,V0 0,V0 0,V0 0,V0 0,V0 0],.iface 185 (P0 j7)]) ?_
  have he:Xi l=3:=by unfold Xi;rw[Db hI.len ho];rfl
  exact .inl ⟨by rw[he];decide,_,rfl,e5,by rw[he];exact d2⟩
 have i8:=(bln n1.below n2.below).size
 have j1:j<l.length/256:=by rw[hI.len];exact hj
 have h0:=Gf j1
 have d8:=inE_in (l:=l) (kind:=1) hI.len hk hj
 have f8:=Zg ho i8
 refine xc 22 (args:=#[.slice p2 256 c2,V0 1,V0 0]) (Rb 1 0 p2 256 c2 (Jw l j) _ h0 (Gp (Zh f8) h0)) ?_
 rintro e W8 i6
 rcases i6 with ⟨hs,rfl,a2⟩|⟨hs,p3,c3,rfl,a2,h3⟩
 ·refine xk 14 (show(((Yk 1 0 (Jw l j)) != (0:Int)):Bool)=true from bne_iff_ne.2 hs) ?_
  refine xd 1 (.t w.heap.size [44]) ?_
  refine xm2 (.b [1,2,3]) 0 4 ?_ ?_
  ·have k2:=((n2.blk.below a0).below a2).below (Za W8)
   refine xlv 0 k2.rp ?_
   refine yc (.o [] 4) (args:=#[V0 0,.iface 63 (V0 (Yk 1 0 (Jw l j)))]) (.t w.heap.size [44]) (Yr 0 (Yk 1 0 (Jw l j)) _) ?_
   rintro _ W9 ⟨_,rfl,e7,e2⟩
   refine⟨(SF.of_below _ e7),?_⟩
   rw[if_neg hs,if_neg hs] at e2
   have i5:=e2
   obtain⟨h5,k9,rfl,_,_⟩:=i5
   have c7:=((((n1.blk.below n2.below).below a0).below a2).below (Za W8)).below e7
   have g1:=n1.ge (B1 w)
   refine ysv (.o [] 5) c7 [V0 0,V0 0,V0 0,V0 0,V0 0,V0 0,V0 0,V0 0,V0 0,V0 0,V0 0] (.t w.heap.size [44]) fun l8 f0 j6=>⟨(Zp f0 c7 g1 (by decide)),?_⟩
   have f5:=f0.below (bln (bln (bln (bln hB a0) a2) (Za W8)) e7) g1
   have d7:=e2.upd f0 c7 (by decide)
   refine xec (.r [6] 4) j6 (.tuple #[.agg #[V0 0,V0 0,V0 0,V0 0,V0 0,V0 0,V0 0,V0 0,V0 0,V0 0,V0 0],.iface 185 (P0 h5)]) ?_
   have he:Xi l=Yk 1 0 (Jw l j):=by unfold Xi;rw[d8,if_neg hs]
   exact .inl ⟨by rw[he];exact hs,_,rfl,f5,by rw[he];exact d7⟩
  refine yc 0 (args:=#[V0 0,.iface 63 (V0 (Yk 1 0 (Jw l j)))]) (.t w.heap.size [44]) (Yr 0 (Yk 1 0 (Jw l j)) _) ?_
  rintro _ k8 ⟨_,rfl,a7,b4⟩
  refine⟨(SF.of_below _ a7),?_⟩
  rw[if_neg hs,if_neg hs] at b4
  have e1:=b4
  obtain⟨f9,h7,rfl,_,_⟩:=e1
  have k2:=(((n2.blk.below a0).below a2).below (Za W8)).below a7
  refine xlv (.o [] 0) k2.rp ?_
  have b6:=((((n1.blk.below n2.below).below a0).below a2).below (Za W8)).below a7
  have g1:=n1.ge (B1 w)
  refine ysv (.o [] 5) b6 [V0 0,V0 0,V0 0,V0 0,V0 0,V0 0,V0 0,V0 0,V0 0,V0 0,V0 0] (.t w.heap.size [44]) fun k4 f6 j5=>⟨(Zp f6 b6 g1 (by decide)),?_⟩
  have g8:=f6.below (bln (bln (bln (bln hB a0) a2) (Za W8)) a7) g1
  have b0:=b4.upd f6 b6 (by decide)
  refine xec (.r [6] 4) j5 (.tuple #[.agg #[V0 0,V0 0,V0 0,V0 0,V0 0,V0 0,V0 0,V0 0,V0 0,V0 0,V0 0],.iface 185 (P0 f9)]) ?_
  have he:Xi l=Yk 1 0 (Jw l j):=by unfold Xi;rw[d8,if_neg hs]
  exact .inl ⟨by rw[he];exact hs,_,rfl,g8,by rw[he];exact b0⟩
 have i2:=(bln hB a0).size
 have d9:=Zg h3 i2
 have h9:((Jw l j).drop 8).take 244=inB l 0:=(Zf6 hk).symm
 have h1:=Zho hI.len hk hj
 rw[h9] at d9
 have a6:=bln (bln hB a0) a2
 refine xc 21 (args:=#[.slice p3 244 c3,P0 bt]) (super_1 B b bt p n c l p3 c3 (inB l 0) _ (hI.below a6) (kt.below a6) h1 (Gp (Zh d9) h1)) ?_
 rintro e l0 g7
 rcases g7 with ⟨hz,s9,rfl,a1⟩|⟨hz,rfl,a1⟩
 ·refine xa 3 [V0 0,V0 0,V0 0,V0 0,V0 0,V0 0,V0 0,V0 0,V0 0,V0 0,V0 0] 44 fun k1 j9 a5=>?_
  have c1:=(((n1.blk.below n2.below).below a0).below a2).below a1
  have a3:=a5.ne c1
  have k2:=((n2.blk.below a0).below a2).below a1
  have a4:=a5.ne k2
  have c6:=bln a6 a1
  have h4:=a5.ge c6
  refine xsv 0 a5.blk [V0 s9.tx,V0 s9.time,V0 s9.unit,V0 s9.data,V0 s9.blocks,V0 s9.top,V0 s9.details,V0 s9.dslots,V0 s9.dover,V0 s9.mindex,V0 s9.mover] fun d0 d1 l4=>?_
  refine xk 10 (show(((Hx (inB l 0) (n/256)) != (0:Int)):Bool)=true from bne_iff_ne.2 hz) ?_
  refine xd 1 (.t w.heap.size [44]) ?_
  refine xm2 (.b [1,2,3]) 0 4 ?_ ?_
  ·have e4:=(d1.blk (k2.below a5.below) (Ne.symm (Ne.symm a4))).below (Za d0)
   refine xlv 0 e4.rp ?_
   refine yc (.o [] 4) (args:=#[V0 0,.iface 63 (V0 (Hx (inB l 0) (n/256)))]) (.t w.heap.size [44]) (Yr 0 (Hx (inB l 0) (n/256)) _) ?_
   rintro _ k3 ⟨_,rfl,c0,b7⟩
   refine⟨(SF.of_below _ c0),?_⟩
   rw[if_neg hz,if_neg hz] at b7
   have g0:=b7
   obtain⟨f2,i7,rfl,_,_⟩:=g0
   have c4:=((d1.blk (c1.below a5.below) (Ne.symm (Ne.symm a3))).below (Za d0)).below c0
   have g1:=n1.ge (B1 w)
   refine ysv (.o [] 5) c4 [V0 0,V0 0,V0 0,V0 0,V0 0,V0 0,V0 0,V0 0,V0 0,V0 0,V0 0] (.t w.heap.size [44]) fun l1 g3 j4=>⟨(Zp g3 c4 g1 (by decide)),?_⟩
   have e3:=g3.below (bln (bln (d1.below (bln c6 a5.below) h4) (Za d0)) c0) g1
   have b3:=b7.upd g3 c4 (by decide)
   refine xec (.r [6] 4) j4 (.tuple #[.agg #[V0 0,V0 0,V0 0,V0 0,V0 0,V0 0,V0 0,V0 0,V0 0,V0 0,V0 0],.iface 185 (P0 f2)]) ?_
   have he:Xi l=Hx (inB l 0) (n/256):=by unfold Xi;rw[d8,if_pos hs,hI.len]
   exact .inl ⟨by rw[he];exact hz,_,rfl,e3,by rw[he];exact b3⟩
  refine yc 0 (args:=#[V0 0,.iface 63 (V0 (Hx (inB l 0) (n/256)))]) (.t w.heap.size [44]) (Yr 0 (Hx (inB l 0) (n/256)) _) ?_
  rintro _ l2 ⟨_,rfl,a8,b8⟩
  refine⟨(SF.of_below _ a8),?_⟩
  rw[if_neg hz,if_neg hz] at b8
  have g4:=b8
  obtain⟨g2,j3,rfl,_,_⟩:=g4
  have e8:=((d1.blk (k2.below a5.below) (Ne.symm (Ne.symm a4))).below (Za d0)).below a8
  refine xlv (.o [] 0) e8.rp ?_
  have b9:=((d1.blk (c1.below a5.below) (Ne.symm (Ne.symm a3))).below (Za d0)).below a8
  have g1:=n1.ge (B1 w)
  refine ysv (.o [] 5) b9 [V0 0,V0 0,V0 0,V0 0,V0 0,V0 0,V0 0,V0 0,V0 0,V0 0,V0 0] (.t w.heap.size [44]) fun l7 g5 h6=>⟨(Zp g5 b9 g1 (by decide)),?_⟩
  have e9:=g5.below (bln (bln (d1.below (bln c6 a5.below) h4) (Za d0)) a8) g1
  have a9:=b8.upd g5 b9 (by decide)
  refine xec (.r [6] 4) h6 (.tuple #[.agg #[V0 0,V0 0,V0 0,V0 0,V0 0,V0 0,V0 0,V0 0,V0 0,V0 0,V0 0],.iface 185 (P0 g2)]) ?_
  have he:Xi l=Hx (inB l 0) (n/256):=by unfold Xi;rw[d8,if_pos hs,hI.len]
  exact .inl ⟨by rw[he];exact hz,_,rfl,e9,by rw[he];exact a9⟩
 refine xa 3 [V0 0,V0 0,V0 0,V0 0,V0 0,V0 0,V0 0,V0 0,V0 0,V0 0,V0 0] 44 fun k6 l6 c9=>?_
 have d5:=(((n1.blk.below n2.below).below a0).below a2).below a1
 have b5:=c9.ne d5
 have k2:=((n2.blk.below a0).below a2).below a1
 have f3:=c9.ne k2
 have d4:=bln a6 a1
 have h8:=c9.ge d4
 refine xsv 0 c9.blk [V0 ((Zi (inB l 0)).tx),V0 ((Zi (inB l 0)).time),V0 ((Zi (inB l 0)).unit),V0 ((Zi (inB l 0)).data),V0 ((Zi (inB l 0)).blocks),V0 ((Zi (inB l 0)).top),V0 ((Zi (inB l 0)).details),V0 ((Zi (inB l 0)).dslots),V0 ((Zi (inB l 0)).dover),V0 ((Zi (inB l 0)).mindex),V0 ((Zi (inB l 0)).mover)] fun j8 h2 i1=>?_
 refine xlv 15 i1.rp ?_
 have f7:=h2.blk (d5.below c9.below) (Ne.symm (Ne.symm b5))
 refine xsv 0 f7 [V0 ((Zi (inB l 0)).tx),V0 ((Zi (inB l 0)).time),V0 ((Zi (inB l 0)).unit),V0 ((Zi (inB l 0)).data),V0 ((Zi (inB l 0)).blocks),V0 ((Zi (inB l 0)).top),V0 ((Zi (inB l 0)).details),V0 ((Zi (inB l 0)).dslots),V0 ((Zi (inB l 0)).dover),V0 ((Zi (inB l 0)).mindex),V0 ((Zi (inB l 0)).mover)] fun l5 i3 j0=>?_
 have g1:=n1.ge (B1 w)
 have d3:=i3.below (h2.below (bln d4 c9.below) h8) g1
 exact xec 4 j0 (.tuple #[.agg #[V0 ((Zi (inB l 0)).tx),V0 ((Zi (inB l 0)).time),V0 ((Zi (inB l 0)).unit),V0 ((Zi (inB l 0)).data),V0 ((Zi (inB l 0)).blocks),V0 ((Zi (inB l 0)).top),V0 ((Zi (inB l 0)).details),V0 ((Zi (inB l 0)).dslots),V0 ((Zi (inB l 0)).dover),V0 ((Zi (inB l 0)).mindex),V0 ((Zi (inB l 0)).mover)],.nilIface]) (.inr ⟨by unfold Xi;rw[d8,if_pos hs,hI.len,hz],rfl,d3⟩)
theorem Za1(B b:Nat)(p:O0)(n c:Nat)(l:Bl)(w:World)(hI:ImgR B b p n c l w) :
 C0 45 #[P0 b] w (Zgf l w):=by
 refine zin 9 Tryz.func45 ?_
 refine xa 2 [P0 b] 27 fun b1 W1 n1=>?_
 refine xa 0 [V0 0,V0 0,V0 0,V0 0,V0 0,V0 0,V0 0,V0 0,V0 0,V0 0,V0 0] 44 fun b2 W2 n2=>?_
 have k1:=n1.blk.below n2.below
 refine xb 5 0 k1 ?_
 have hB:=bln n1.below n2.below
 refine xc 1 (args:=#[P0 b,V0 0,V0 1,.func (.func 103) #[] #[P0 b1]]) (Zfc B b p n c l _ (hI.below hB) b1 k1) ?_
 rintro e W3 a4
 rcases a4 with ⟨he,bf,rfl,a0,hv⟩|⟨he,rfl,a0⟩
 ·have k2:=n2.blk.below a0
  refine xsv 2 k2 [V0 0,V0 0,V0 0,V0 0,V0 0,V0 0,V0 0,V0 0,V0 0,V0 0,V0 0] fun W4 u4 k4=>?_
  have g2:=n2.ge n1.below
  have a1:=u4.below (bln hB a0) g2
  have a2:=hv.upd u4 k2 (by decide)
  exact xec 4 k4 (.tuple #[.agg #[V0 0,V0 0,V0 0,V0 0,V0 0,V0 0,V0 0,V0 0,V0 0,V0 0,V0 0],.iface 185 (P0 bf)]) (.inl ⟨he,_,rfl,a1,a2⟩)
 have k2:=n2.blk.below a0
 refine xsv 2 k2 [V0 ((Zi (inB l 0)).tx),V0 ((Zi (inB l 0)).time),V0 ((Zi (inB l 0)).unit),V0 ((Zi (inB l 0)).data),V0 ((Zi (inB l 0)).blocks),V0 ((Zi (inB l 0)).top),V0 ((Zi (inB l 0)).details),V0 ((Zi (inB l 0)).dslots),V0 ((Zi (inB l 0)).dover),V0 ((Zi (inB l 0)).mindex),V0 ((Zi (inB l 0)).mover)] fun W5 u5 k5=>?_
 have g2:=n2.ge n1.below
 have a3:=u5.below (bln hB a0) g2
 exact xec 4 k5 (.tuple #[.agg #[V0 ((Zi (inB l 0)).tx),V0 ((Zi (inB l 0)).time),V0 ((Zi (inB l 0)).unit),V0 ((Zi (inB l 0)).data),V0 ((Zi (inB l 0)).blocks),V0 ((Zi (inB l 0)).top),V0 ((Zi (inB l 0)).details),V0 ((Zi (inB l 0)).dslots),V0 ((Zi (inB l 0)).dover),V0 ((Zi (inB l 0)).mindex),V0 ((Zi (inB l 0)).mover)],.nilIface]) (.inr ⟨he,rfl,a3⟩)
theorem Vq(n lo hi:Int)(w:World) :
 C0 247 #[V0 n,V0 lo,V0 hi] w (Ret (.bool (decide (lo≤n∧n≤hi))) w):=by
 refine zin 15 Tryz.func247 ?_
 refine xg 11 [9,10] (decide (n≥lo)) (fun a0=>?_) (fun a0=>?_)
 ·have a0:=of_decide_eq_true a0
  exact xe 8 (.bool (decide (n≤hi))) ⟨by rw[show decide (lo≤n∧n≤hi)=decide (n≤hi) from by simp;omega],(B1 w)⟩
 have a0:=of_decide_eq_false a0
 exact xe 8 (.bool false) ⟨by rw[show decide (lo≤n∧n≤hi)=false from decide_eq_false (by omega)],(B1 w)⟩
theorem Za9(s:Sup)(w:World)(hb0:0≤s.blocks)(hb1:s.blocks<9223372036854775808) :
 C0 186 #[.agg #[V0 s.tx,V0 s.time,V0 s.unit,V0 s.data,V0 s.blocks,V0 s.top,V0 s.details,V0 s.dslots,V0 s.dover,V0 s.mindex,V0 s.mover]] w (Ret (.bool (Yb s)) w):=by
 refine zin 69 Tryz.func186 ?_
 refine xa 2 [V0 s.tx,V0 s.time,V0 s.unit,V0 s.data,V0 s.blocks,V0 s.top,V0 s.details,V0 s.dslots,V0 s.dover,V0 s.mindex,V0 s.mover] 44 fun b1 W1 n1=>?_
 refine xb 7 0 n1.blk ?_
 refine xr 0 (args:=#[V0 s.tx,V0 0,V0 2147483647]) (Vq s.tx 0 2147483647 _) fun W2 b4=>?_
 refine xg 2 [7,8] (!(decide ((0:Int)≤s.tx∧s.tx≤2147483647))) (fun e8=>?_) (fun e8=>?_)
 ·have f1:(decide ((0:Int)≤s.tx∧s.tx≤2147483647))=false:=Lr e8
  have hB:=bln n1.below b4
  refine xe 33 (.bool false) ?_
  have hR:Yb s=false:=by
   unfold Yb
   first|(rw[f1];done)|(rw[f1];rfl)
  rw[hR];exact⟨rfl,hB⟩
 have a5:(decide ((0:Int)≤s.tx∧s.tx≤2147483647))=true:=Lm e8
 have e0:=n1.blk.below b4
 refine xb 1 1 e0 ?_
 refine xr 0 (args:=#[V0 s.time,V0 0,V0 16777215]) (Vq s.time 0 16777215 _) fun W6 b6=>?_
 refine xg 3 [12,13,14] (!(decide ((0:Int)≤s.time∧s.time≤16777215))) (fun e9=>?_) (fun e9=>?_)
 ·have f0:(decide ((0:Int)≤s.time∧s.time≤16777215))=false:=Lr e9
  have hB:=bln (bln n1.below b4) b6
  refine xe 27 (.bool false) ?_
  have hR:Yb s=false:=by
   unfold Yb
   first|(rw[a5,f0];done)|(rw[a5,f0];rfl)
  rw[hR];exact⟨rfl,hB⟩
 have a7:(decide ((0:Int)≤s.time∧s.time≤16777215))=true:=Lm e9
 have e3:=e0.below b6
 refine xb 1 2 e3 ?_
 refine xr 0 (args:=#[V0 s.unit,V0 1,V0 65536]) (Vq s.unit 1 65536 _) fun f9 a3=>?_
 refine xg 3 [18,19,20] (!(decide ((1:Int)≤s.unit∧s.unit≤65536))) (fun c6=>?_) (fun c6=>?_)
 ·have d1:(decide ((1:Int)≤s.unit∧s.unit≤65536))=false:=Lr c6
  have hB:=bln (bln (bln n1.below b4) b6) a3
  refine xe 21 (.bool false) ?_
  have hR:Yb s=false:=by
   unfold Yb
   first|(rw[a5,a7,d1];done)|(rw[a5,a7,d1];rfl)
  rw[hR];exact⟨rfl,hB⟩
 have a0:(decide ((1:Int)≤s.unit∧s.unit≤65536))=true:=Lm c6
 have d5:=e3.below a3
 refine xb 1 3 d5 ?_
 refine xr 0 (args:=#[V0 s.data,V0 0,V0 65536]) (Vq s.data 0 65536 _) fun f3 a6=>?_
 refine xg 3 [24,25,26] (!(decide ((0:Int)≤s.data∧s.data≤65536))) (fun c3=>?_) (fun c3=>?_)
 ·have d7:(decide ((0:Int)≤s.data∧s.data≤65536))=false:=Lr c3
  have hB:=bln (bln (bln (bln n1.below b4) b6) a3) a6
  refine xe 15 (.bool false) ?_
  have hR:Yb s=false:=by
   unfold Yb
   first|(rw[a5,a7,a0,d7];done)|(rw[a5,a7,a0,d7];rfl)
  rw[hR];exact⟨rfl,hB⟩
 have a1:(decide ((0:Int)≤s.data∧s.data≤65536))=true:=Lm c3
 have d8:=d5.below a6
 refine xb 1 4 d8 ?_
 refine xr 0 (args:=#[V0 s.blocks,V0 2,V0 14400]) (Vq s.blocks 2 14400 _) fun f2 a9=>?_
 refine xi 4 (!(decide ((2:Int)≤s.blocks∧s.blocks≤14400))) (fun c8=>?_) (fun c8=>?_)
 ·have e4:(decide ((2:Int)≤s.blocks∧s.blocks≤14400))=false:=Lr c8
  have hB:=bln (bln (bln (bln (bln n1.below b4) b6) a3) a6) a9
  refine xe 7 (.bool false) ?_
  have hR:Yb s=false:=by
   unfold Yb
   first|(rw[a5,a7,a0,a1,e4];done)|(rw[a5,a7,a0,a1,e4];rfl)
  rw[hR];exact⟨rfl,hB⟩
 have a2:(decide ((2:Int)≤s.blocks∧s.blocks≤14400))=true:=Lm c8
 have c1:=d8.below a9
 refine xb 5 4 c1 ?_
 refine xw 0 (s.blocks-1) ?_
 refine xb 6 5 c1 ?_
 refine xr 1 (args:=#[V0 s.top,V0 1,V0 (s.blocks-1)]) (Vq s.top 1 (s.blocks-1) _) fun f5 b0=>?_
 refine xg 1 [38,39] (decide ((1:Int)≤s.top∧s.top≤s.blocks-1)) (fun b9=>?_) (fun b9=>?_)
 ·have a4:(decide ((1:Int)≤s.top∧s.top≤s.blocks-1))=true:=b9
  have d9:=c1.below b0
  refine xb 1 6 d9 ?_
  refine xr 1 (args:=#[V0 s.details,V0 1,V0 (s.blocks-1)]) (Vq s.details 1 (s.blocks-1) _) fun g0 b3=>?_
  refine xg 2 [43,44,45] (decide ((1:Int)≤s.details∧s.details≤s.blocks-1)) (fun c5=>?_) (fun c5=>?_)
  ·have a8:(decide ((1:Int)≤s.details∧s.details≤s.blocks-1))=true:=c5
   have d0:=d9.below b3
   refine xb 1 7 d0 ?_
   refine xr 1 (args:=#[V0 s.dslots,V0 1,V0 (s.blocks-1)]) (Vq s.dslots 1 (s.blocks-1) _) fun f4 b5=>?_
   refine xg 2 [49,50,51] (decide ((1:Int)≤s.dslots∧s.dslots≤s.blocks-1)) (fun c4=>?_) (fun c4=>?_)
   ·have b2:(decide ((1:Int)≤s.dslots∧s.dslots≤s.blocks-1))=true:=c4
    have d4:=d0.below b5
    refine xb 1 8 d4 ?_
    refine xr 1 (args:=#[V0 s.dover,V0 1,V0 (s.blocks-1)]) (Vq s.dover 1 (s.blocks-1) _) fun f6 b8=>?_
    refine xg 2 [55,56,57] (decide ((1:Int)≤s.dover∧s.dover≤s.blocks-1)) (fun c7=>?_) (fun c7=>?_)
    ·have b7:(decide ((1:Int)≤s.dover∧s.dover≤s.blocks-1))=true:=c7
     have e6:=d4.below b8
     refine xb 1 9 e6 ?_
     refine xr 1 (args:=#[V0 s.mindex,V0 1,V0 (s.blocks-1)]) (Vq s.mindex 1 (s.blocks-1) _) fun f7 c0=>?_
     refine xg 2 [61,62,63] (decide ((1:Int)≤s.mindex∧s.mindex≤s.blocks-1)) (fun c2=>?_) (fun c2=>?_)
     ·have e1:(decide ((1:Int)≤s.mindex∧s.mindex≤s.blocks-1))=true:=c2
      have d6:=e6.below c0
      refine xb 1 10 d6 ?_
      refine xr 1 (args:=#[V0 s.mover,V0 1,V0 (s.blocks-1)]) (Vq s.mover 1 (s.blocks-1) _) fun f8 e7=>?_
      have hB:=bln (bln (bln (bln (bln (bln (bln (bln (bln (bln (bln n1.below b4) b6) a3) a6) a9) b0) b3) b5) b8) c0) e7
      refine xe 5 (.bool (decide ((1:Int)≤s.mover∧s.mover≤s.blocks-1))) ?_
      have hR:Yb s=(decide ((1:Int)≤s.mover∧s.mover≤s.blocks-1)):=by
       unfold Yb
       first|(rw[a5,a7,a0,a1,a2,a4,a8,b2,b7,e1];done)|(rw[a5,a7,a0,a1,a2,a4,a8,b2,b7,e1];rfl)
      rw[hR];exact⟨rfl,hB⟩
     have d2:(decide ((1:Int)≤s.mindex∧s.mindex≤s.blocks-1))=false:=c2
     have hB:=bln (bln (bln (bln (bln (bln (bln (bln (bln (bln n1.below b4) b6) a3) a6) a9) b0) b3) b5) b8) c0
     refine xe 9 (.bool false) ?_
     have hR:Yb s=false:=by
      unfold Yb
      first|(rw[a5,a7,a0,a1,a2,a4,a8,b2,b7,d2];done)|(rw[a5,a7,a0,a1,a2,a4,a8,b2,b7,d2];rfl)
     rw[hR];exact⟨rfl,hB⟩
    have e2:(decide ((1:Int)≤s.dover∧s.dover≤s.blocks-1))=false:=c7
    have hB:=bln (bln (bln (bln (bln (bln (bln (bln (bln n1.below b4) b6) a3) a6) a9) b0) b3) b5) b8
    refine xe 15 (.bool false) ?_
    have hR:Yb s=false:=by
     unfold Yb
     first|(rw[a5,a7,a0,a1,a2,a4,a8,b2,e2];done)|(rw[a5,a7,a0,a1,a2,a4,a8,b2,e2];rfl)
    rw[hR];exact⟨rfl,hB⟩
   have d3:(decide ((1:Int)≤s.dslots∧s.dslots≤s.blocks-1))=false:=c4
   have hB:=bln (bln (bln (bln (bln (bln (bln (bln n1.below b4) b6) a3) a6) a9) b0) b3) b5
   refine xe 21 (.bool false) ?_
   have hR:Yb s=false:=by
    unfold Yb
    first|(rw[a5,a7,a0,a1,a2,a4,a8,d3];done)|(rw[a5,a7,a0,a1,a2,a4,a8,d3];rfl)
   rw[hR];exact⟨rfl,hB⟩
  have c9:(decide ((1:Int)≤s.details∧s.details≤s.blocks-1))=false:=c5
  have hB:=bln (bln (bln (bln (bln (bln (bln n1.below b4) b6) a3) a6) a9) b0) b3
  refine xe 27 (.bool false) ?_
  have hR:Yb s=false:=by
   unfold Yb
   first|(rw[a5,a7,a0,a1,a2,a4,c9];done)|(rw[a5,a7,a0,a1,a2,a4,c9];rfl)
  rw[hR];exact⟨rfl,hB⟩
 have e5:(decide ((1:Int)≤s.top∧s.top≤s.blocks-1))=false:=b9
 have hB:=bln (bln (bln (bln (bln (bln n1.below b4) b6) a3) a6) a9) b0
 refine xe 33 (.bool false) ?_
 have hR:Yb s=false:=by
  unfold Yb
  first|(rw[a5,a7,a0,a1,a2,e5];done)|(rw[a5,a7,a0,a1,a2,e5];rfl)
 rw[hR];exact⟨rfl,hB⟩
end Go.Proofs.YtegcamkgeacjfaaGreatDoor
