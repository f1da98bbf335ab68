/- The statement ReachAdds, walked. -/
import Derived.Lib.SmallJoins
import Derived.Test.YtgphgaehfdfjjaaGreatDoorMg4
namespace Go.Proofs.YtgphgaehfdfjjaaGreatDoor
set_option maxHeartbeats 8000000
set_option maxRecDepth 100000
open Go.RowKit Go.Extern.Stop Go.Stop Go.Extern
set_option linter.unusedVariables false
attribute [local irreducible] wpList wpAnyH Code.wp Oper.wp Go
theorem dif_self(a:List Int)(k:Nat):dif a a k=[]:=by
 induction k with
 | zero=>rfl
 | succ k ih=>rw[Od rfl,ih]
theorem Xd{cs:List Nat}{i:Nat}(h:i<cs.length):(cs.take (i+1)).sum=(cs.take i).sum+cs.getD i 0:=by
 rw[List.take_succ_eq_append_getElem h,List.sum_append];simp[List.getD,h]
theorem Ze4(cs:List Nat)(i:Nat):(cs.take i).sum≤cs.sum:=by
 conv=>rhs;rw[←List.take_append_drop i cs]
 rw[List.sum_append];omega
theorem wantX_le(l:Bl)(cs:List Nat)(i:Nat):Vj l cs i≤8589934592:=by
 unfold Vj
 split
 ·have h1:Qa l (i:Int)≤4294967296:=by
   unfold Qa
   split
   ·have:=Ub (inB l (i:Int)) 2 2
    unfold Xb;omega
   ·exact Nat.zero_le _
  have h2:Qn l (i:Int)≤4294967296:=by
   unfold Qn
   split
   ·have:=Ub (inB l (i:Int)) 4 0;omega
   ·exact Nat.zero_le _
  omega
 ·exact Nat.zero_le _
theorem Ig(l:Bl)(cs:List Nat)(n:Nat):Xg l cs n≤8589934592*n:=by
 induction n with
 | zero=>exact Nat.zero_le _
 | succ n ih =>
  rw[Zr]
  have:=wantX_le l cs n
  omega
theorem adds_bd(l:Bl)(no:Int):Xb (inB l no)≤65535∧Zh (inB l no) 0 4≤4294967295:=by
 have h1:=Ub (inB l no) 2 2
 have h2:=Ub (inB l no) 4 0
 exact⟨Nat.le_of_lt_succ h1,Nat.le_of_lt_succ h2⟩
theorem Fm(Bi b:Nat)(pi:O0)(ni ci:Nat)(l:Bl)(s:Sup)(w:World)(hI:ImgR Bi b pi ni ci l w)(hl:l.length/256≤14400) :
 C0 7 #[P0 b,.agg #[V0 s.tx,V0 s.time,V0 s.unit,V0 s.data,V0 s.blocks,V0 s.top,V0 s.details,V0 s.dslots,V0 s.dover,V0 s.mindex,V0 s.mover]] w (fun e w' =>
 (∃ (er:Int) (bl:List Int) (ty:TypeId) (v:Value),(er==(1:Int))=!(Qj s)∧er≠0∧e=.returned (.tuple #[S0,.iface ty v])∧B3 w w'∧Vz w' (bl.map some) (some er) (.iface ty v)) ∨
 (∃ (p:O0) (c n:Nat) (cs:List Nat),(n:Int)=s.blocks∧cs.length=n∧(2≤n∧n≤14400)∧cs.sum=7+Xg l cs n∧cs.getD 0 0≠0∧e=.returned (.tuple #[.slice p n c,.nilIface])∧B3 w w'∧w'.ownsRow w.heap.size 3 1 (.slice p n c) n (cs.map nv))):=by
 refine(Mb Bi b pi ni ci l s w hI).mono ?_
 rintro e W q
 rcases q with ⟨h,ty,v,rfl,hb,hv⟩|⟨h,p,c,rfl,hb,ho⟩
 ·refine .inl ⟨_,_,ty,v,?_,h,rfl,hb,hv⟩
  have q:=Zcg hl h
  cases hr:Qj s with
  | true =>
   have:¬ (Qm l s).2.2=1:=fun z=>by have:=q.1 z;rw[hr] at this;cases this
   simpa using this
  | false=>rw[q.2 hr];rfl
 ·obtain⟨h1,h2,h3,h4⟩:=Ot h
  have a2:=Mg h1
  obtain⟨cs,a0⟩:∃ x,(Qm l s).1=x:=⟨_,rfl⟩
  rw[a0] at h2 h3 h4 ho
  obtain⟨n,hn⟩:∃ n:Nat,s.blocks=(n:Int):=⟨s.blocks.toNat,by omega⟩
  have a1:s.blocks.toNat=n:=by omega
  rw[a1] at h2 h3
  subst h2
  exact .inr ⟨p,c,cs.length,cs,hn.symm,rfl,by omega,h3,h4,by rw[a0],hb,ho⟩
theorem Td(bl:List Int)(er:Int)(v:Value)(w:World)(hg:ErrT w)(hv:Vz w (bl.map some) (some er) v)(he:er≠0):C0 8 #[v] w (Ret (V0 er) w):=by
 have h:=Zae (some er) (bl.map some) v w hg hv
 rwa [Sx] at h
theorem Rc(p:O0)(c n:Nat)(cs:List Nat)(w:World)(hn:cs.length=n)(h1:n≤1000000)(h:Sl w (.slice p n c) n (cs.map nv)):C0 12 #[.slice p n c,.slice p n c] w (Qi (fun w' r=>∃ q d,r=.slice q 0 d) w):=by
 have hi:Ints w (.slice p (cs.map (fun n:Nat=>(n:Int))).length c) (cs.map (fun n:Nat=>(n:Int))):=by
  unfold Ints
  rw[nat_map,List.length_map,hn]
  exact h
 have q:=Rp p p c c (cs.map (fun n:Nat=>(n:Int))) (cs.map (fun n:Nat=>(n:Int))) w hi hi (by rw[List.length_map];omega) (by rw[List.length_map];omega)
 rw[List.length_map,hn,dif_self] at q
 refine q.mono ?_
 rintro e W ⟨r,rfl,hb,ho⟩
 obtain⟨q,d,rfl⟩:=(Ze ho).slice
 exact⟨_,rfl,hb,q,d,rfl⟩
theorem Wm{l:Bl}{no:Int}(h:Qf (inB l no)=true)(h1:Yx (inB l no)≠1)(h4:Yx (inB l no)≠4):Qa l no=0:=if_neg (fun q=>q.2 ⟨h,h1,h4⟩)
theorem Ye{l:Bl}{no:Int}(h0:Xa l no 0=0)(h:Qf (inB l no)=false∨Yx (inB l no)=1∨Yx (inB l no)=4):Qa l no=Xb (inB l no):=if_pos ⟨h0,fun q=>by
 obtain⟨a,b,c⟩:=q
 rcases h with h|h|h
 ·rw[h] at a;cases a
 ·exact b h
 ·exact c h⟩
theorem Wk{l:Bl}{no:Int}(h0:Xa l no 0≠0):Qa l no=0:=if_neg (fun q=>h0 q.1)
theorem Ol{l:Bl}{cs:List Nat}{i:Nat}(h:cs.getD i 0=0∨i=0):Vj l cs i=0:=if_neg (by omega)
theorem Qb{l:Bl}{cs:List Nat}{i:Nat}(h:¬ cs.getD i 0=0)(h2:¬ i=0):Vj l cs i=Qa l (i:Int)+Qn l (i:Int):=if_pos ⟨h2,h⟩
theorem Dr(a:O0)(c:Nat)(l:Bl)(s:Sup)(w:World)(h:Bys w (.slice a l.length c) l)(hg:ErrT w) :
 C0 3 #[.slice a l.length c,.agg #[V0 s.tx,V0 s.time,V0 s.unit,V0 s.data,V0 s.blocks,V0 s.top,V0 s.details,V0 s.dslots,V0 s.dover,V0 s.mindex,V0 s.mover]] w (Ret (.bool true) w):=by
 have i0:=h.cap rfl
 refine zin 129 Tryz.func3 ?_
 refine xa 2 [V0 s.tx,V0 s.time,V0 s.unit,V0 s.data,V0 s.blocks,V0 s.top,V0 s.details,V0 s.dslots,V0 s.dover,V0 s.mindex,V0 s.mover] 24 fun b1 W1 n1=>?_
 refine xid 11 ((l.length:Int)>(12000:Int)) (fun l3=>?_) (fun l3=>?_)
 ·refine xr 2 (args:=#[]) (Su _) fun W3 l4=>?_
  have hB:=bln n1.below l4
  exact xe 5 (.bool true) ⟨rfl,hB⟩
 refine xc 5 (args:=#[.slice a l.length c]) (Zfv a c l.length ((l.length/256)*256) l _ rfl (by omega) (h.below n1.below) (by omega) i0) ?_
 rintro _ W4 ⟨_,rfl,g9,bi,pi,ci,rfl,_,hI⟩
 obtain⟨lm,j7⟩:∃ x,(l.take ((l.length/256)*256))=x:=⟨_,rfl⟩
 rw[j7] at hI
 obtain⟨IB,hI⟩:∃ B,ImgR B bi pi ((l.length/256)*256) ci lm _:=⟨_,hI⟩
 have k2:lm.length/256≤14400:=by rw[←j7,List.length_take];omega
 have k1:=n1.blk.below g9
 refine xlv 6 k1.rp ?_
 refine xc 0 (args:=#[P0 bi,.agg #[V0 s.tx,V0 s.time,V0 s.unit,V0 s.data,V0 s.blocks,V0 s.top,V0 s.details,V0 s.dslots,V0 s.dover,V0 s.mindex,V0 s.mover]]) (Fm _ bi pi _ ci lm s _ hI k2) ?_
 rintro e W5 j9
 rcases j9 with ⟨er,bl,k4,v9,j6,l1,rfl,e2,k9⟩|⟨p9,c9,n,cs,k8,k3,m7,h9,m2,rfl,e2,a7⟩
 ·refine xd 16 .z ?_
  have i4:=(k1.below e2).below (Za W5)
  refine xlv (.e [0,1,2,3,4] 7) i4.rp ?_
  have f0:=k9.below (Za W5)
  have f9:=bln (bln (bln n1.below g9) e2) (Za W5)
  refine xr (.o [] 5) (args:=#[.iface k4 (v9)]) (Td bl er _ _ (hg.below f9) f0 l1) fun W6 k6=>?_
  refine xr (.o [6] 8) (args:=#[.agg #[V0 s.tx,V0 s.time,V0 s.unit,V0 s.data,V0 s.blocks,V0 s.top,V0 s.details,V0 s.dslots,V0 s.dover,V0 s.mindex,V0 s.mover]]) (Ce s _) fun W7 k0=>?_
  refine xgk (.b [9,10,11,12]) [39,40,41] (show(((er==(1:Int))==(!(Qj s))):Bool)=true from by rw[j6];simp) ?_
  refine xr (.o [] 13) (args:=#[]) (Su _) fun W9 l2=>?_
  have i1:=bln (bln (bln f9 k6) k0) l2
  exact xe (.r [14,15] 4) (.bool true) ⟨rfl,i1⟩
 have k7:=(bln n1.below g9).size
 have l7:=Ig lm cs n
 have f8:=k1.below e2
 refine xb 23 4 f8 ?_
 refine xk 3 (show(((n:Int) != s.blocks):Bool)=false from by rw[k8];simp) ?_
 have f7:=Zd a7 k7
 have i5:=hI.below e2
 have j2:=bln (bln n1.below g9) e2
 refine zl 15 129 (fun zm k5 V=>∃ (i:Nat),k5=[(4,.bool false),(5,P0 bi),(6,.slice p9 n c9),(8,V0 (↑((cs.take i).sum):Int)),(9,V0 (↑(7+Xg lm cs i):Int)),(10,V0 (i:Int))]∧zm=n-((i:Int)).toNat∧B3 w V∧Blk V b1 ([V0 s.tx,V0 s.time,V0 s.unit,V0 s.data,V0 s.blocks,V0 s.top,V0 s.details,V0 s.dslots,V0 s.dover,V0 s.mindex,V0 s.mover]) 24∧V.ownsRow w.heap.size 3 1 (.slice p9 n c9) n (cs.map nv)∧ImgR IB bi pi ((l.length/256)*256) ci lm V∧i≤n) ⟨0,rfl,rfl,j2,f8,f7,i5,Nat.zero_le _⟩ ?_
 rintro _ _ m0 ⟨i,rfl,rfl,b7,a1,a7,hI,hi⟩ m8 a6 l5
 have o0:=Ze4 cs i
 have l0:=Ze4 cs (i+1)
 have m6:=Ig lm cs i
 refine xid 9 ((i:Int)<(n:Int)) (fun j4=>?_) (fun j4=>?_)
 ·have l8:=Xd (cs:=cs) (i:=i) (by omega)
  have m9:=adds_bd lm (i:Int)
  refine xx 9 _ n i 1 (Qg (Ze a7) (k:=i) (by omega)).1 ?_
  refine xl 0 ((Qg (Ze a7) (k:=i) (by omega)).2) ?_
  refine xwm 0 ((↑((cs.take i).sum):Int)+(↑(cs.getD i 0):Int)) (↑(((cs.take i).sum)+(cs.getD i 0)):Int) ?_
  refine xx 8 _ n i 1 (Qg (Ze a7) (k:=i) (by omega)).1 ?_
  refine xl 0 ((Qg (Ze a7) (k:=i) (by omega)).2) ?_
  refine xg 2 [65,66] ((↑(cs.getD i 0):Int)==(0:Int)) (fun c7=>?_) (fun c7=>?_)
  ·have c7:=eq_of_beq c7
   refine xwm 12 ((i:Int)+1) (↑(i+1):Int) ?_
   refine xv1 2 8 (show(V0 (↑(((cs.take i).sum)+(cs.getD i 0)):Int):Value)=V0 (↑((cs.take (i+1)).sum):Int) from by first|exact(congrArg V0 (by have hx:Vj lm cs i=0:=Ol (by omega);have hw:=Zr lm cs i;omega))|exact(congrArg V0 (by have:=Xd (cs:=cs) (i:=i) (by omega);omega))) ?_
   refine xv1 0 9 (show(V0 (↑(7+Xg lm cs i):Int):Value)=V0 (↑(7+Xg lm cs (i+1)):Int) from by first|exact(congrArg V0 (by have hx:Vj lm cs i=0:=Ol (by omega);have hw:=Zr lm cs i;omega))|exact(congrArg V0 (by have:=Xd (cs:=cs) (i:=i) (by omega);omega))) ?_
   exact ze 0 (a6 _ _ _ ⟨i+1,rfl,rfl,b7,a1,a7,hI,by omega⟩ (by omega))
  have c7:=Xm c7
  refine xie 5 (i:Int) (0:Int) (fun h7=>?_) (fun h7=>?_)
  ·refine xwm 6 ((i:Int)+1) (↑(i+1):Int) ?_
   refine xv1 2 8 (show(V0 (↑(((cs.take i).sum)+(cs.getD i 0)):Int):Value)=V0 (↑((cs.take (i+1)).sum):Int) from by first|exact(congrArg V0 (by have hx:Vj lm cs i=0:=Ol (by omega);have hw:=Zr lm cs i;omega))|exact(congrArg V0 (by have:=Xd (cs:=cs) (i:=i) (by omega);omega))) ?_
   refine xv1 0 9 (show(V0 (↑(7+Xg lm cs i):Int):Value)=V0 (↑(7+Xg lm cs (i+1)):Int) from by first|exact(congrArg V0 (by have hx:Vj lm cs i=0:=Ol (by omega);have hw:=Zr lm cs i;omega))|exact(congrArg V0 (by have:=Xd (cs:=cs) (i:=i) (by omega);omega))) ?_
   exact ze 0 (a6 _ _ _ ⟨i+1,rfl,rfl,b7,a1,a7,hI,by omega⟩ (by omega))
  refine xc 7 (args:=#[P0 bi,V0 (i:Int),V0 0]) (Bh _ bi pi _ ci lm (i:Int) 0 _ hI) ?_
  rintro e n6 j1
  rcases j1 with ⟨b8,n2,rfl,a0,_⟩|⟨b8,kp,kc,vp,vc,rfl,a0,_,_⟩
  ·refine xa 3 [V0 0,.bool false,S0,S0] 38 fun n0 l6 b9=>?_
   have d8:=bln b7 a0
   have j8:=b9.ge d8
   refine xsv 0 b9.blk [V0 0,.bool false,S0,S0] fun o1 d5 n5=>?_
   have d6:=((hI.below a0).below b9.below).only (Zg.of_upd (T:=[38]) d5 b9.blk (by decide)) (by decide)
   refine xc 31 (args:=#[P0 bi,V0 (i:Int)]) (Qp _ bi pi _ ci lm (i:Int) _ d6) ?_
   rintro e l9 h3
   rcases h3 with ⟨a3,h0,rfl,a9,_⟩|⟨a3,xp,xc,rfl,a9,_⟩
   ·refine xwm 19 ((i:Int)+1) (↑(i+1):Int) ?_
    refine xv1 2 8 (show(V0 (↑(((cs.take i).sum)+(cs.getD i 0)):Int):Value)=V0 (↑((cs.take (i+1)).sum):Int) from by first|exact(congrArg V0 (by have hx:=Qb (l:=lm) (cs:=cs) (i:=i) (by omega) (by omega);have hy:Qa lm (i:Int)=_:=Wk b8;have hz:Qn lm (i:Int)=_:=if_neg a3;have hw:=Zr lm cs i;omega))|exact(congrArg V0 (by have:=Xd (cs:=cs) (i:=i) (by omega);omega))) ?_
    refine xv1 0 9 (show(V0 (↑(7+Xg lm cs i):Int):Value)=V0 (↑(7+Xg lm cs (i+1)):Int) from by first|exact(congrArg V0 (by have hx:=Qb (l:=lm) (cs:=cs) (i:=i) (by omega) (by omega);have hy:Qa lm (i:Int)=_:=Wk b8;have hz:Qn lm (i:Int)=_:=if_neg a3;have hw:=Zr lm cs i;omega))|exact(congrArg V0 (by have:=Xd (cs:=cs) (i:=i) (by omega);omega))) ?_
    have i3:=bln (d5.below (bln d8 b9.below) j8) a9
    have d2:=(d5.blkT ((a1.below a0).below b9.below) b9.blk (by decide)).below a9
    have e7:=Zb (d5.own2 (Zb (Zb a7 a0) b9.below) b9.blk (by decide)) a9
    have h4:=d6.below a9
    exact ze 0 (a6 _ _ _ ⟨i+1,rfl,rfl,i3,d2,e7,h4,by omega⟩ (by omega))
   refine xwm 18 ((↑(7+Xg lm cs i):Int)+(↑(Zh (inB lm (i:Int)) 0 4):Int)) (↑((7+Xg lm cs i)+(Zh (inB lm (i:Int)) 0 4)):Int) ?_
   refine xwm 6 ((i:Int)+1) (↑(i+1):Int) ?_
   refine xv1 2 8 (show(V0 (↑(((cs.take i).sum)+(cs.getD i 0)):Int):Value)=V0 (↑((cs.take (i+1)).sum):Int) from by first|exact(congrArg V0 (by have hx:=Qb (l:=lm) (cs:=cs) (i:=i) (by omega) (by omega);have hy:Qa lm (i:Int)=_:=Wk b8;have hz:Qn lm (i:Int)=_:=if_pos a3;have hw:=Zr lm cs i;omega))|exact(congrArg V0 (by have:=Xd (cs:=cs) (i:=i) (by omega);omega))) ?_
   refine xv1 0 9 (show(V0 (↑((7+Xg lm cs i)+(Zh (inB lm (i:Int)) 0 4)):Int):Value)=V0 (↑(7+Xg lm cs (i+1)):Int) from by first|exact(congrArg V0 (by have hx:=Qb (l:=lm) (cs:=cs) (i:=i) (by omega) (by omega);have hy:Qa lm (i:Int)=_:=Wk b8;have hz:Qn lm (i:Int)=_:=if_pos a3;have hw:=Zr lm cs i;omega))|exact(congrArg V0 (by have:=Xd (cs:=cs) (i:=i) (by omega);omega))) ?_
   have i8:=bln (d5.below (bln d8 b9.below) j8) a9
   have d0:=(d5.blkT ((a1.below a0).below b9.below) b9.blk (by decide)).below a9
   have e6:=Zb (d5.own2 (Zb (Zb a7 a0) b9.below) b9.blk (by decide)) a9
   have j0:=d6.below a9
   exact ze 0 (a6 _ _ _ ⟨i+1,rfl,rfl,i8,d0,e6,j0,by omega⟩ (by omega))
  refine xa 3 [V0 0,.bool false,S0,S0] 38 fun n7 n9 a2=>?_
  have b4:=bln b7 a0
  have d4:=a2.ge b4
  refine xsv 0 a2.blk [V0 (Yx (inB lm (i:Int))),.bool (Qf (inB lm (i:Int))),.slice kp (Xb (inB lm (i:Int))) kc,.slice vp (Xb (inB lm (i:Int))) vc] fun n4 a4 e3=>?_
  refine xb 9 1 e3 ?_
  refine xg 2 [81,82] (!(Qf (inB lm (i:Int)))) (fun b3=>?_) (fun b3=>?_)
  ·refine xb 16 3 e3 ?_
   refine xwm 1 ((↑(7+Xg lm cs i):Int)+(↑(Xb (inB lm (i:Int))):Int)) (↑((7+Xg lm cs i)+(Xb (inB lm (i:Int)))):Int) ?_
   have e1:=((hI.below a0).below a2.below).only (Zg.of_upd (T:=[38]) a4 a2.blk (by decide)) (by decide)
   refine xc 7 (args:=#[P0 bi,V0 (i:Int)]) (Qp _ bi pi _ ci lm (i:Int) _ e1) ?_
   rintro e n8 i9
   rcases i9 with ⟨a3,h0,rfl,b0,_⟩|⟨a3,xp,xc,rfl,b0,_⟩
   ·refine xwm 19 ((i:Int)+1) (↑(i+1):Int) ?_
    refine xv1 2 8 (show(V0 (↑(((cs.take i).sum)+(cs.getD i 0)):Int):Value)=V0 (↑((cs.take (i+1)).sum):Int) from by first|exact(congrArg V0 (by have hx:=Qb (l:=lm) (cs:=cs) (i:=i) (by omega) (by omega);have hy:Qa lm (i:Int)=_:=Ye b8 (.inl (Zch b3));have hz:Qn lm (i:Int)=_:=if_neg a3;have hw:=Zr lm cs i;omega))|exact(congrArg V0 (by have:=Xd (cs:=cs) (i:=i) (by omega);omega))) ?_
    refine xv1 0 9 (show(V0 (↑((7+Xg lm cs i)+(Xb (inB lm (i:Int)))):Int):Value)=V0 (↑(7+Xg lm cs (i+1)):Int) from by first|exact(congrArg V0 (by have hx:=Qb (l:=lm) (cs:=cs) (i:=i) (by omega) (by omega);have hy:Qa lm (i:Int)=_:=Ye b8 (.inl (Zch b3));have hz:Qn lm (i:Int)=_:=if_neg a3;have hw:=Zr lm cs i;omega))|exact(congrArg V0 (by have:=Xd (cs:=cs) (i:=i) (by omega);omega))) ?_
    have i7:=bln (a4.below (bln b4 a2.below) d4) b0
    have d1:=(a4.blkT ((a1.below a0).below a2.below) a2.blk (by decide)).below b0
    have e9:=Zb (a4.own2 (Zb (Zb a7 a0) a2.below) a2.blk (by decide)) b0
    have h6:=e1.below b0
    exact ze 0 (a6 _ _ _ ⟨i+1,rfl,rfl,i7,d1,e9,h6,by omega⟩ (by omega))
   refine xwm 18 ((↑((7+Xg lm cs i)+(Xb (inB lm (i:Int)))):Int)+(↑(Zh (inB lm (i:Int)) 0 4):Int)) (↑(((7+Xg lm cs i)+(Xb (inB lm (i:Int))))+(Zh (inB lm (i:Int)) 0 4)):Int) ?_
   refine xwm 6 ((i:Int)+1) (↑(i+1):Int) ?_
   refine xv1 2 8 (show(V0 (↑(((cs.take i).sum)+(cs.getD i 0)):Int):Value)=V0 (↑((cs.take (i+1)).sum):Int) from by first|exact(congrArg V0 (by have hx:=Qb (l:=lm) (cs:=cs) (i:=i) (by omega) (by omega);have hy:Qa lm (i:Int)=_:=Ye b8 (.inl (Zch b3));have hz:Qn lm (i:Int)=_:=if_pos a3;have hw:=Zr lm cs i;omega))|exact(congrArg V0 (by have:=Xd (cs:=cs) (i:=i) (by omega);omega))) ?_
   refine xv1 0 9 (show(V0 (↑(((7+Xg lm cs i)+(Xb (inB lm (i:Int))))+(Zh (inB lm (i:Int)) 0 4)):Int):Value)=V0 (↑(7+Xg lm cs (i+1)):Int) from by first|exact(congrArg V0 (by have hx:=Qb (l:=lm) (cs:=cs) (i:=i) (by omega) (by omega);have hy:Qa lm (i:Int)=_:=Ye b8 (.inl (Zch b3));have hz:Qn lm (i:Int)=_:=if_pos a3;have hw:=Zr lm cs i;omega))|exact(congrArg V0 (by have:=Xd (cs:=cs) (i:=i) (by omega);omega))) ?_
   have h5:=bln (a4.below (bln b4 a2.below) d4) b0
   have c3:=(a4.blkT ((a1.below a0).below a2.below) a2.blk (by decide)).below b0
   have g6:=Zb (a4.own2 (Zb (Zb a7 a0) a2.below) a2.blk (by decide)) b0
   have h2:=e1.below b0
   exact ze 0 (a6 _ _ _ ⟨i+1,rfl,rfl,h5,c3,g6,h2,by omega⟩ (by omega))
  refine xb 1 0 e3 ?_
  refine xg 3 [85,86,87] ((Yx (inB lm (i:Int)))==(1:Int)) (fun a5=>?_) (fun a5=>?_)
  ·have a5:=eq_of_beq a5
   refine xb 11 3 e3 ?_
   refine xwm 1 ((↑(7+Xg lm cs i):Int)+(↑(Xb (inB lm (i:Int))):Int)) (↑((7+Xg lm cs i)+(Xb (inB lm (i:Int)))):Int) ?_
   have d7:=((hI.below a0).below a2.below).only (Zg.of_upd (T:=[38]) a4 a2.blk (by decide)) (by decide)
   refine xc 7 (args:=#[P0 bi,V0 (i:Int)]) (Qp _ bi pi _ ci lm (i:Int) _ d7) ?_
   rintro e m3 h1
   rcases h1 with ⟨a3,h0,rfl,b5,_⟩|⟨a3,xp,xc,rfl,b5,_⟩
   ·refine xwm 19 ((i:Int)+1) (↑(i+1):Int) ?_
    refine xv1 2 8 (show(V0 (↑(((cs.take i).sum)+(cs.getD i 0)):Int):Value)=V0 (↑((cs.take (i+1)).sum):Int) from by first|exact(congrArg V0 (by have hx:=Qb (l:=lm) (cs:=cs) (i:=i) (by omega) (by omega);have hy:Qa lm (i:Int)=_:=Ye b8 (.inr (.inl a5));have hz:Qn lm (i:Int)=_:=if_neg a3;have hw:=Zr lm cs i;omega))|exact(congrArg V0 (by have:=Xd (cs:=cs) (i:=i) (by omega);omega))) ?_
    refine xv1 0 9 (show(V0 (↑((7+Xg lm cs i)+(Xb (inB lm (i:Int)))):Int):Value)=V0 (↑(7+Xg lm cs (i+1)):Int) from by first|exact(congrArg V0 (by have hx:=Qb (l:=lm) (cs:=cs) (i:=i) (by omega) (by omega);have hy:Qa lm (i:Int)=_:=Ye b8 (.inr (.inl a5));have hz:Qn lm (i:Int)=_:=if_neg a3;have hw:=Zr lm cs i;omega))|exact(congrArg V0 (by have:=Xd (cs:=cs) (i:=i) (by omega);omega))) ?_
    have e5:=bln (a4.below (bln b4 a2.below) d4) b5
    have d3:=(a4.blkT ((a1.below a0).below a2.below) a2.blk (by decide)).below b5
    have g0:=Zb (a4.own2 (Zb (Zb a7 a0) a2.below) a2.blk (by decide)) b5
    have j5:=d7.below b5
    exact ze 0 (a6 _ _ _ ⟨i+1,rfl,rfl,e5,d3,g0,j5,by omega⟩ (by omega))
   refine xwm 18 ((↑((7+Xg lm cs i)+(Xb (inB lm (i:Int)))):Int)+(↑(Zh (inB lm (i:Int)) 0 4):Int)) (↑(((7+Xg lm cs i)+(Xb (inB lm (i:Int))))+(Zh (inB lm (i:Int)) 0 4)):Int) ?_
   refine xwm 6 ((i:Int)+1) (↑(i+1):Int) ?_
   refine xv1 2 8 (show(V0 (↑(((cs.take i).sum)+(cs.getD i 0)):Int):Value)=V0 (↑((cs.take (i+1)).sum):Int) from by first|exact(congrArg V0 (by have hx:=Qb (l:=lm) (cs:=cs) (i:=i) (by omega) (by omega);have hy:Qa lm (i:Int)=_:=Ye b8 (.inr (.inl a5));have hz:Qn lm (i:Int)=_:=if_pos a3;have hw:=Zr lm cs i;omega))|exact(congrArg V0 (by have:=Xd (cs:=cs) (i:=i) (by omega);omega))) ?_
   refine xv1 0 9 (show(V0 (↑(((7+Xg lm cs i)+(Xb (inB lm (i:Int))))+(Zh (inB lm (i:Int)) 0 4)):Int):Value)=V0 (↑(7+Xg lm cs (i+1)):Int) from by first|exact(congrArg V0 (by have hx:=Qb (l:=lm) (cs:=cs) (i:=i) (by omega) (by omega);have hy:Qa lm (i:Int)=_:=Ye b8 (.inr (.inl a5));have hz:Qn lm (i:Int)=_:=if_pos a3;have hw:=Zr lm cs i;omega))|exact(congrArg V0 (by have:=Xd (cs:=cs) (i:=i) (by omega);omega))) ?_
   have g8:=bln (a4.below (bln b4 a2.below) d4) b5
   have c1:=(a4.blkT ((a1.below a0).below a2.below) a2.blk (by decide)).below b5
   have f4:=Zb (a4.own2 (Zb (Zb a7 a0) a2.below) a2.blk (by decide)) b5
   have f3:=d7.below b5
   exact ze 0 (a6 _ _ _ ⟨i+1,rfl,rfl,g8,c1,f4,f3,by omega⟩ (by omega))
  have a5:=Xm a5
  refine xb 1 0 e3 ?_
  refine xie 5 (Yx (inB lm (i:Int))) (4:Int) (fun a8=>?_) (fun a8=>?_)
  ·refine xb 3 3 e3 ?_
   refine xwm 1 ((↑(7+Xg lm cs i):Int)+(↑(Xb (inB lm (i:Int))):Int)) (↑((7+Xg lm cs i)+(Xb (inB lm (i:Int)))):Int) ?_
   have c6:=((hI.below a0).below a2.below).only (Zg.of_upd (T:=[38]) a4 a2.blk (by decide)) (by decide)
   refine xc 7 (args:=#[P0 bi,V0 (i:Int)]) (Qp _ bi pi _ ci lm (i:Int) _ c6) ?_
   rintro e m4 i6
   rcases i6 with ⟨a3,h0,rfl,b6,_⟩|⟨a3,xp,xc,rfl,b6,_⟩
   ·refine xwm 19 ((i:Int)+1) (↑(i+1):Int) ?_
    refine xv1 2 8 (show(V0 (↑(((cs.take i).sum)+(cs.getD i 0)):Int):Value)=V0 (↑((cs.take (i+1)).sum):Int) from by first|exact(congrArg V0 (by have hx:=Qb (l:=lm) (cs:=cs) (i:=i) (by omega) (by omega);have hy:Qa lm (i:Int)=_:=Ye b8 (.inr (.inr a8));have hz:Qn lm (i:Int)=_:=if_neg a3;have hw:=Zr lm cs i;omega))|exact(congrArg V0 (by have:=Xd (cs:=cs) (i:=i) (by omega);omega))) ?_
    refine xv1 0 9 (show(V0 (↑((7+Xg lm cs i)+(Xb (inB lm (i:Int)))):Int):Value)=V0 (↑(7+Xg lm cs (i+1)):Int) from by first|exact(congrArg V0 (by have hx:=Qb (l:=lm) (cs:=cs) (i:=i) (by omega) (by omega);have hy:Qa lm (i:Int)=_:=Ye b8 (.inr (.inr a8));have hz:Qn lm (i:Int)=_:=if_neg a3;have hw:=Zr lm cs i;omega))|exact(congrArg V0 (by have:=Xd (cs:=cs) (i:=i) (by omega);omega))) ?_
    have g7:=bln (a4.below (bln b4 a2.below) d4) b6
    have c4:=(a4.blkT ((a1.below a0).below a2.below) a2.blk (by decide)).below b6
    have g2:=Zb (a4.own2 (Zb (Zb a7 a0) a2.below) a2.blk (by decide)) b6
    have g5:=c6.below b6
    exact ze 0 (a6 _ _ _ ⟨i+1,rfl,rfl,g7,c4,g2,g5,by omega⟩ (by omega))
   refine xwm 18 ((↑((7+Xg lm cs i)+(Xb (inB lm (i:Int)))):Int)+(↑(Zh (inB lm (i:Int)) 0 4):Int)) (↑(((7+Xg lm cs i)+(Xb (inB lm (i:Int))))+(Zh (inB lm (i:Int)) 0 4)):Int) ?_
   refine xwm 6 ((i:Int)+1) (↑(i+1):Int) ?_
   refine xv1 2 8 (show(V0 (↑(((cs.take i).sum)+(cs.getD i 0)):Int):Value)=V0 (↑((cs.take (i+1)).sum):Int) from by first|exact(congrArg V0 (by have hx:=Qb (l:=lm) (cs:=cs) (i:=i) (by omega) (by omega);have hy:Qa lm (i:Int)=_:=Ye b8 (.inr (.inr a8));have hz:Qn lm (i:Int)=_:=if_pos a3;have hw:=Zr lm cs i;omega))|exact(congrArg V0 (by have:=Xd (cs:=cs) (i:=i) (by omega);omega))) ?_
   refine xv1 0 9 (show(V0 (↑(((7+Xg lm cs i)+(Xb (inB lm (i:Int))))+(Zh (inB lm (i:Int)) 0 4)):Int):Value)=V0 (↑(7+Xg lm cs (i+1)):Int) from by first|exact(congrArg V0 (by have hx:=Qb (l:=lm) (cs:=cs) (i:=i) (by omega) (by omega);have hy:Qa lm (i:Int)=_:=Ye b8 (.inr (.inr a8));have hz:Qn lm (i:Int)=_:=if_pos a3;have hw:=Zr lm cs i;omega))|exact(congrArg V0 (by have:=Xd (cs:=cs) (i:=i) (by omega);omega))) ?_
   have e8:=bln (a4.below (bln b4 a2.below) d4) b6
   have c2:=(a4.blkT ((a1.below a0).below a2.below) a2.blk (by decide)).below b6
   have f1:=Zb (a4.own2 (Zb (Zb a7 a0) a2.below) a2.blk (by decide)) b6
   have f6:=c6.below b6
   exact ze 0 (a6 _ _ _ ⟨i+1,rfl,rfl,e8,c2,f1,f6,by omega⟩ (by omega))
  have c5:=((hI.below a0).below a2.below).only (Zg.of_upd (T:=[38]) a4 a2.blk (by decide)) (by decide)
  refine xc 6 (args:=#[P0 bi,V0 (i:Int)]) (Qp _ bi pi _ ci lm (i:Int) _ c5) ?_
  rintro e n3 h8
  rcases h8 with ⟨a3,h0,rfl,b2,_⟩|⟨a3,xp,xc,rfl,b2,_⟩
  ·refine xwm 19 ((i:Int)+1) (↑(i+1):Int) ?_
   refine xv1 2 8 (show(V0 (↑(((cs.take i).sum)+(cs.getD i 0)):Int):Value)=V0 (↑((cs.take (i+1)).sum):Int) from by first|exact(congrArg V0 (by have hx:=Qb (l:=lm) (cs:=cs) (i:=i) (by omega) (by omega);have hy:Qa lm (i:Int)=_:=Wm (Zb1 b3) a5 a8;have hz:Qn lm (i:Int)=_:=if_neg a3;have hw:=Zr lm cs i;omega))|exact(congrArg V0 (by have:=Xd (cs:=cs) (i:=i) (by omega);omega))) ?_
   refine xv1 0 9 (show(V0 (↑(7+Xg lm cs i):Int):Value)=V0 (↑(7+Xg lm cs (i+1)):Int) from by first|exact(congrArg V0 (by have hx:=Qb (l:=lm) (cs:=cs) (i:=i) (by omega) (by omega);have hy:Qa lm (i:Int)=_:=Wm (Zb1 b3) a5 a8;have hz:Qn lm (i:Int)=_:=if_neg a3;have hw:=Zr lm cs i;omega))|exact(congrArg V0 (by have:=Xd (cs:=cs) (i:=i) (by omega);omega))) ?_
   have e4:=bln (a4.below (bln b4 a2.below) d4) b2
   have c8:=(a4.blkT ((a1.below a0).below a2.below) a2.blk (by decide)).below b2
   have d9:=Zb (a4.own2 (Zb (Zb a7 a0) a2.below) a2.blk (by decide)) b2
   have f5:=c5.below b2
   exact ze 0 (a6 _ _ _ ⟨i+1,rfl,rfl,e4,c8,d9,f5,by omega⟩ (by omega))
  refine xwm 18 ((↑(7+Xg lm cs i):Int)+(↑(Zh (inB lm (i:Int)) 0 4):Int)) (↑((7+Xg lm cs i)+(Zh (inB lm (i:Int)) 0 4)):Int) ?_
  refine xwm 6 ((i:Int)+1) (↑(i+1):Int) ?_
  refine xv1 2 8 (show(V0 (↑(((cs.take i).sum)+(cs.getD i 0)):Int):Value)=V0 (↑((cs.take (i+1)).sum):Int) from by first|exact(congrArg V0 (by have hx:=Qb (l:=lm) (cs:=cs) (i:=i) (by omega) (by omega);have hy:Qa lm (i:Int)=_:=Wm (Zb1 b3) a5 a8;have hz:Qn lm (i:Int)=_:=if_pos a3;have hw:=Zr lm cs i;omega))|exact(congrArg V0 (by have:=Xd (cs:=cs) (i:=i) (by omega);omega))) ?_
  refine xv1 0 9 (show(V0 (↑((7+Xg lm cs i)+(Zh (inB lm (i:Int)) 0 4)):Int):Value)=V0 (↑(7+Xg lm cs (i+1)):Int) from by first|exact(congrArg V0 (by have hx:=Qb (l:=lm) (cs:=cs) (i:=i) (by omega) (by omega);have hy:Qa lm (i:Int)=_:=Wm (Zb1 b3) a5 a8;have hz:Qn lm (i:Int)=_:=if_pos a3;have hw:=Zr lm cs i;omega))|exact(congrArg V0 (by have:=Xd (cs:=cs) (i:=i) (by omega);omega))) ?_
  have g3:=bln (a4.below (bln b4 a2.below) d4) b2
  have c0:=(a4.blkT ((a1.below a0).below a2.below) a2.blk (by decide)).below b2
  have e0:=Zb (a4.own2 (Zb (Zb a7 a0) a2.below) a2.blk (by decide)) b2
  have g1:=c5.below b2
  exact ze 0 (a6 _ _ _ ⟨i+1,rfl,rfl,g3,c0,e0,g1,by omega⟩ (by omega))
 refine xgk 11 [112,113] (show(((↑((cs.take i).sum):Int)==(↑(7+Xg lm cs i):Int)):Bool)=true from beq_iff_eq.2 (by rw[List.take_of_length_le (by omega),h9,show i=n from(by omega)])) ?_
 refine xx 1 _ n 0 1 (Qg (Ze a7) (k:=0) (by omega)).1 ?_
 refine xl 0 ((Qg (Ze a7) (k:=0) (by omega)).2) ?_
 refine xgk 3 [117,118,119] (show(decide ((↑(cs.getD 0 0):Int)≥(1:Int)):Bool)=true from decide_eq_true (by omega)) ?_
 refine xc 2 (args:=#[.slice p9 n c9,.slice p9 n c9]) (Rc p9 c9 n cs _ k3 (by omega) (Ze a7)) ?_
 rintro _ m1 ⟨_,rfl,i2,dq,dd,rfl⟩
 refine xr 4 (args:=#[]) (Su _) fun m5 j3=>?_
 have f2:=bln (bln b7 i2) j3
 exact xe 5 (.bool true) ⟨rfl,f2⟩
end Go.Proofs.YtgphgaehfdfjjaaGreatDoor
namespace Go.Proofs.YtgphgaehfdfjjaaGreatDoor
set_option maxHeartbeats 8000000
set_option maxRecDepth 100000
open Go.ChangeShapes Go.WideShapes Go.ChangeAt Go.RowKit Go.Joins
set_option linter.unusedVariables false
theorem Zax{H:Type}{enc:TypeId×Value→H}{P:Program}{W:World}{r:Reach}{b0:Nat}{t e:TypeId}{v:Value}{d:DataW H}{p:List MemPlace}(ht:P.underlying t=some (.slice e))(he:P.underlying e=some (.int .u8))(hC:P.cellsOf e=1)
 (hv:Value.okWide P W r b0 t v) (h:DataW.Trod enc P W 0 (fun _=>true) true t v d p):∃ l,Bys W v l:=by
 obtain⟨a,a1,a7,rfl⟩:=okWide_slice ht hv
 obtain⟨a9,hf⟩:=h
 rcases open_ints ht he hC hf with ⟨a2,_⟩|⟨x,l,c,zs,a2,_,hl,hm,hz,_,a0,b1⟩
 ·simp[Value.cells] at a2
  obtain⟨rfl,rfl,rfl⟩:=a2
  exact⟨[],.inl ⟨_,_,rfl,rfl,rfl⟩⟩
 ·simp[Value.cells] at a2
  obtain⟨rfl,rfl,rfl⟩:=a2
  have b3:zs.length=a7:=by simpa using hz
  by_cases h0:a1=0
  ·subst h0
   exact⟨[],.inl ⟨_,_,rfl,rfl,rfl⟩⟩
  ·obtain⟨b,b2,a4⟩:=x
   have hc:=a0 0 (by omega)
   have a3:a4=none:=by simpa [Addr.add] using World.cell?_spot hc
   subst a3
   have a5:((zs.take a1).map fun n=>UInt8.ofNat n.toNat).length=a1:=by simp;omega
   refine⟨(zs.take a1).map fun n=>UInt8.ofNat n.toNat,.inr ⟨b,b2,a7,by rw[a5],by omega,hm,fun j x hj=>?_⟩⟩
   have a8:j<a1:=by have:=(List.getElem?_eq_some_iff.1 hj).1;simp at this;omega
   have e1:zs[j]? = some zs[j]:=List.getElem?_eq_getElem (by omega)
   have hw:=b1 zs[j] (List.getElem_mem _)
   have a6:=a0 j (by omega)
   have e2:zs.getD j 0=zs[j]:=by simp[List.getD,e1]
   rw[e2] at a6
   have hx:x=.int .u8 zs[j]:=by
    rw[List.getElem?_map,List.getElem?_map,List.getElem?_take_of_lt a8,e1] at hj
    simp only[Option.map_some,Option.some.injEq] at hj
    rw[←hj]
    have hb:0≤zs[j]∧zs[j]≤255:=by simpa [Lit.wf,IntKind.min,IntKind.max,IntKind.signed,IntKind.bits] using hw
    have h3:(zs[j].toNat%256:Nat)=zs[j].toNat:=Nat.mod_eq_of_lt (by omega)
    simp only[bv,UInt8.toNat_ofNat']
    rw[show(2 ^ 8:Nat)=256 from rfl,h3,Int.toNat_of_nonneg hb.1]
   subst hx
   by_cases hj0:j=0
   ·subst hj0;simpa [Addr.add] using a6
   ·simpa [Addr.add,hj0] using a6
end Go.Proofs.YtgphgaehfdfjjaaGreatDoor
namespace Go.Proofs.YtgphgaehfdfjjaaGreatDoor
set_option maxHeartbeats 8000000
set_option maxRecDepth 100000
open Go.ChangeShapes Go.WideShapes Go.ChangeAt Go.RowKit Go.Joins Go.Deep
set_option linter.unusedVariables false
def intOfS:Value→Int
 | .int _ z=>z
 | _=>0
theorem Tv{H:Type}{enc:TypeId×Value→H}{P:Program}{W:World}{r:Reach}{b0:Nat}{t ti:TypeId}{fs:Array Field}{v:Value}{d:DataW H}{p:List MemPlace}(hs:P.underlying t=some (.struct fs))(hone:oneCellFields P fs=true)(hC:P.cellsOf t=fs.size)
 (hf:fs.toList.all (fun f=>f.type==ti)=true) (hti:P.underlying ti=some (.int .i64)) (hv:Value.okWide P W r b0 t v) (h:DataW.Trod enc P W 0 (fun _=>true) true t v d p) :
 ∃ N:List Int,N.length=fs.size∧v=.agg (N.map V0).toArray:=by
 obtain⟨cs,rfl,a8⟩:=okWide_struct hs hv
 obtain⟨a7,hx⟩:=h
 obtain⟨xs,n,_,_,hl,a5,a4⟩:=DataW.trod_struct hs hx
 have a6:∀ i,i<fs.size→∃ z:Int,cs[i]? = some (V0 z):=by
  intro i hi
  have a1:fs[i]? = some fs[i]:=by simp[hi]
  obtain⟨o0,k0⟩:=hone_of hone i fs[i] a1
  have a0:fs[i].type=ti:=by
   have:=List.all_eq_true.1 hf fs[i] (by simp)
   simpa using this
  have hq:=a4 i fs[i] a1
  have a3:i<cs.size:=by omega
  have e:((Value.agg cs).cells.toList.drop fs[i].offset).take (P.cellsOf fs[i].type)=[cs[i]]:=by
   rw[o0,k0]
   simp[Value.cells,List.drop_eq_getElem_cons,a3]
  rw[e,a0,List.getElem?_eq_getElem (show i<xs.length by omega)] at hq
  obtain⟨z,hz,_⟩:=DataW.trod_int hti hq
  simp only[List.cons.injEq,and_true] at hz
  exact⟨z,by simp[a3,hz]⟩
 refine⟨cs.toList.map intOfS,by simp;omega,?_⟩
 congr 1
 apply Array.ext'
 rw[List.toList_toArray]
 apply List.ext_getElem?
 intro i
 by_cases hi:i<fs.size
 ·obtain⟨z,hz⟩:=a6 i hi
  have a2:cs.toList[i]? = some (V0 z):=by simpa using hz
  rw[a2,List.getElem?_map,List.getElem?_map,a2];rfl
 ·rw[List.getElem?_eq_none (by simp;omega),List.getElem?_eq_none (by simp;omega)]
theorem sup_open{H:Type}{enc:TypeId×Value→H}{P:Program}{W:World}{r:Reach}{b0:Nat}{t ti:TypeId}{fs:Array Field}{v:Value}{d:DataW H}{p:List MemPlace}(hs:P.underlying t=some (.struct fs))(hone:oneCellFields P fs=true)(hC:P.cellsOf t=fs.size)(h11:fs.size=11)
 (hf:fs.toList.all (fun f=>f.type==ti)=true) (hti:P.underlying ti=some (.int .i64)) (hv:Value.okWide P W r b0 t v) (h:DataW.Trod enc P W 0 (fun _=>true) true t v d p) :
 ∃ s:Sup,v=.agg (supC s).toArray:=by
 obtain⟨N,hN,rfl⟩:=Tv hs hone hC hf hti hv h
 rw[h11] at hN
 match N,hN with
 | [a,b,c,d,e,f,g,h,i,j,k],_=>exact⟨⟨a,b,c,d,e,f,g,h,i,j,k⟩,rfl⟩
end Go.Proofs.YtgphgaehfdfjjaaGreatDoor
