/- Of the laid image each block below the mark is reached once: the counts. -/
import Derived.RangeFuncNested
import Derived.RangeFuncBound
import Derived.RangeFuncCalls
import Derived.RangeFuncLeaves
import Derived.Shelf.Abstract
import Derived.Shelf.RegionOpen
import Derived.OwnWalkIn
import Derived.TacticsInMore
import Derived.LoopNIn
import Derived.LoopIn
import Derived.Sort.BigQuietIn
import Derived.Test.YtceeiinepijokaaGreatDoorProg
import Derived.Defers
import Derived.Recover
import Derived.Test.YtceeiinepijokaaGreatDoorMg7
namespace Go.Proofs.YtceeiinepijokaaGreatDoor
set_option maxHeartbeats 8000000
set_option maxRecDepth 100000
open Go.RowKit Go.Extern.Stop Go.Stop Go.Extern
set_option linter.unusedVariables false
attribute [local irreducible] wpList wpAnyH Code.wp Oper.wp Go
variable {t u v:Int} {x k:Nat} {L:List Dv}
theorem val_slot{v:Bl}{a b c:Nat}{no:Int}(h:Xn Ya v=0)(h2:Xs Ya v=[a,b,c]):Zfj no 4 true v=((a:Int),7,0):=by
 unfold Zfj
 rw[if_pos ⟨rfl,rfl⟩,h,if_neg (fun q=>q rfl),h2]
 rfl
theorem slot_val{C:List (List Int)}{q i N:Nat}(hi:i<N)(h0:1≤q)(h1:q+i≤14399)(hL:(C.getD i []).length≤960)(no:Int):Zfj no 4 true ((Xm C q N).getD i Zo).2.1=(((q+i:Nat):Int),7,0):=by
 rw[Gb hi]
 have h2:Yo (C.getD i [])≤960:=N0 (Pw _ _) hL
 have h3:Xl (C.getD i [])≤960:=N0 (Ph _) hL
 have e2:(Ze5 C q i).2.1=slB (q+i,Yo (C.getD i []),Xl (C.getD i [])):=rfl
 have e3:=Zlt (x:=(q+i,Yo (C.getD i []),Xl (C.getD i []))) (by simp only;omega) h1 h2 h3
 have e4:=Zkn (x:=(q+i,Yo (C.getD i []),Xl (C.getD i []))) (by simp only;omega) h1 h2 h3
 rw[e2]
 exact val_slot e3 e4
theorem Zlg(q n:Nat):((List.range n).flatMap fun i=>[q+i])=rng q n:=by
 induction n with
 | zero=>rfl
 | succ n ih=>rw[C3,C8,ih,Dn];simp[rng]
theorem LayF.tell_data(h:LayF t u v x k L)(h18:k≤1800):Qs (Qb t u v x L k) [((Kw x L k).1,4,0)] (rng (1+Xj (F2 L)) (bmN x+Xk 4 (bmN x)))∧Qs (Qb t u v x L k) [((Kw x L k).2.1,5,0)] (rng (1+Xj (F2 L)+bmN x+Xk 4 (bmN x)) (Qr (Xw x L)-(bmN x+Xk 4 (bmN x)))):=by
 have hf:=h.fits
 have hk:=Hc x L
 obtain⟨l,hl⟩:∃ l,Xw x L=l:=⟨_,rfl⟩
 obtain⟨q,hq⟩:∃ q,1+Xj (F2 L)=q:=⟨_,rfl⟩
 have a9:l.length=x:=by rw[←hl,Xx]
 have a8:=h.over h18
 have hc:∀ k,k<l.length→Wn (l.getD k 0):=by rw[←hl];exact(Pe (Pd h.xs h.pool.devs)).2
 have a0:=h.data
 have a2:=h.len
 have b2:=h.dataLen
 have hx:=h.xs
 obtain⟨F,hF⟩:∃ F,Qb t u v x L k=F:=⟨_,rfl⟩
 obtain⟨bs,b0⟩:∃ bs,Zjx t u v x k L=bs:=⟨_,rfl⟩
 obtain⟨_,e3,e4⟩:=Nd l q _ (Gf L k) _ _ rfl rfl rfl
 unfold Kw
 rw[hl] at hk a8 a0 ⊢
 rw[hq] at a0 ⊢
 rw[hF] at a0 a2 ⊢
 rw[b0] at a0 b2
 have hN:bmN l.length=bmN x:=by rw[a9]
 obtain⟨N,a4⟩:∃ N,bmN x=N:=⟨_,rfl⟩
 rw[a4] at hN ⊢
 obtain⟨O,hO⟩:∃ O,Zp l l.length=O:=⟨_,rfl⟩
 obtain⟨C,hC⟩:∃ C,Xa (Zl l) N=C:=⟨_,rfl⟩
 have b1:Qr l=N+Xk 4 N+Xk 5 O.length:=by unfold Qr;rw[hN,hO]
 have b4:N≤69:=by unfold bmN at a4;omega
 have ES:EntsOk (Jd 4 true) (Xm C q N):=Ga _ _ _ M0
 have EO:EntsOk (Jd 5 true) O:=hO▸Vl _ _ M0
 have a1:=Yh (L:=C) (q:=q) (bs:=bs) N M0
 have hP:=(Nd l q N bs C O hN hC hO).1
 rw[hP] at a0
 have hT:=Wc (t:=5) (s:=4) (l:=O) (e:=Xm C q N) (q:=q+N+Xk 4 N) (p:=q+N) (bs:=Xy C q bs N) Do Do EO Do Do ES (by rw[a1];omega) (by rw[Xg];exact At _)
 have k4:=Qf (t:=4) (l:=Xm C q N) (q:=q+N) (bs:=Xy C q bs N) Do Do ES (by rw[a1,Xg];omega)
 have k5:=Qf (t:=5) (l:=O) (q:=q+N+Xk 4 N) (bs:=(Zz 4 (Xm C q N) (q+N) (Xy C q bs N)).2) Do Do EO (by rw[k4.1,a1];omega)
 have k6:=Qf (t:=5) (l:=O) (q:=q+N+Xk 4 N) (bs:=Xy C q bs N) Do Do EO (by rw[a1];omega)
 have a3:∀ i,i<N→Yi F ((q+i:Nat):Int)=0:=fun i hi=>by
  have a6:=Gh hc i
  refine(Rd (by rw[a2];omega) M0 ?_ a6.1 a6.2).1
  rw[a0,k5.2 _ M0,k4.2 _ M0,Cd (m:=bs.length/256) (by rw[a1]) rfl M0 hi,←hC,Kq hi]
 have d4:F=(Zz 4 (Xm C q N) (q+N) (Zz 5 O (q+N+Xk 4 N) (Xy C q bs N)).2).2:=by rw[hT,a0]
 obtain⟨S,hS,hp⟩:=Lf (G:=fun i=>[q+i]) d4 Do Do ES M0 (by rw[Xg,k6.1,a1];omega) (by rw[Xg];omega) (fun q=>absurd rfl q.2.2)
  (fun _ i hi=>⟨_,fun no=>slot_val (by rwa [Xg] at hi) M0 (by rw[Xg] at hi;omega) (by rw[Xg] at hi;rw[←hC,Kq hi];exact(Gh hc i).2) no,Zc1 (a3 i (by rwa [Xg] at hi))⟩)
  (fun i j b3 _ b hb hq=>by
   rw[D3] at hb hq
   omega)
  (fun i hi b hb=>by
   rw[D3] at hb
   rw[Xg] at hi
   omega)
 obtain⟨S5,a5,a7⟩:=Lf (G:=fun _=>[]) a0 Do Do EO M0 (by rw[k4.1,a1];omega) M0 (fun _ _ _=>rfl) (fun q=>absurd dead_5 q) (fun _ _ _ _ b hb=>by cases hb) (fun _ _ b hb=>by cases hb)
 rw[Xg,Zlg] at hp
 rw[Oe,G0] at a7
 rw[Ub,Xg] at hS
 rw[Ub] at a5
 rw[hN] at e3
 constructor
 ·rw[e3]
  exact hS.perm (hp.trans Zmh)
 ·rw[e4,b1,show q+(N+Xk 4 N+Xk 5 O.length)-1=q+N+Xk 4 N+Xk 5 O.length-1 by omega,show N+Xk 4 N+Xk 5 O.length-(N+Xk 4 N)=Xk 5 O.length by omega]
  exact a5.perm a7
end Go.Proofs.YtceeiinepijokaaGreatDoor
namespace Go.Proofs.YtceeiinepijokaaGreatDoor
set_option maxHeartbeats 8000000
set_option maxRecDepth 100000
open Go.RowKit Go.Extern.Stop Go.Stop Go.Extern
set_option linter.unusedVariables false
attribute [local irreducible] wpList wpAnyH Code.wp Oper.wp Go
variable {t u v:Int} {x k:Nat} {L:List Dv}
theorem rng_one(a:Nat):rng a 1=[a]:=by simp[rng]
theorem rng_cons{a n:Nat}:((a+n)::rng a n).Perm (rng a (n+1)):=by
 rw[Dn,rng_one]
 exact(List.perm_append_singleton _ _).symm
theorem LayF.tell_meta(h:LayF t u v x k L):Qs (Qb t u v x L k) [((Ug x L k).1,6,0)] (rng (2+Qu x L) (bmN k+1))∧Qs (Qb t u v x L k) [((Ug x L k).2.1,5,0)] (rng (1+Qu x L) 1):=by
 have hf:=h.fits
 have c8:=h.few
 have hm:=Kn x k L
 have a0:=h.meta
 have a6:=h.len
 have c6:=h.metaLen
 have a9:=Zj7 x k L
 have hO:Zp (Xt (Qu x L+1) k) (Xt (Qu x L+1) k).length=[]:=Wa _ _ _
 have hT:Xk 5 ([]:List Ent).length=1:=Ob
 obtain⟨F,hF⟩:∃ F,Qb t u v x L k=F:=⟨_,rfl⟩
 obtain⟨bs,b7⟩:∃ bs,Zj5 t u v x k L=bs:=⟨_,rfl⟩
 obtain⟨l,hl⟩:∃ l,Xt (Qu x L+1) k=l:=⟨_,rfl⟩
 obtain⟨q,hq⟩:∃ q,1+Qu x L=q:=⟨_,rfl⟩
 have b6:l.length=k:=by rw[←hl,Zr]
 have b8:Zcv l (q:Int):=by rw[←hl,←hq,L1];exact Nv
 have hs:Jr l=0:=by rw[←hl];exact Wz M0
 rw[hl] at hm a0 a9 hO
 rw[hq] at hf a0 a9 ⊢
 rw[hF] at a0 a6 ⊢
 rw[b7] at a0 c6
 rw[show 2+Qu x L=q+1 by omega,a9]
 obtain⟨N,hN⟩:∃ N,bmN k=N:=⟨_,rfl⟩
 have d1:N≤4:=by unfold bmN at hN;omega
 rw[hN] at hf hm ⊢
 have b2:bmN l.length=N:=by rw[b6,hN]
 obtain⟨B,hB⟩:∃ B,Qx l q (Yf l)=B:=⟨_,rfl⟩
 have c9:B.length=l.length:=by rw[←hB,Qa]
 have c1:∀ k,k<B.length→Wn (B.getD k 0):=by rw[←hB];exact Ig b8 (Pe hs).2
 obtain⟨C,hC⟩:∃ C,Xa (Zl (Qx l q (Yf l))) N=C:=⟨_,rfl⟩
 obtain⟨_,e3,e4⟩:=Bh l q N 1 (Kw x L k).2.2 C [] b2 hO hT hC
 have hP:=(Bh l q N 1 bs C [] b2 hO hT hC).1
 rw[hP] at a0
 obtain⟨R,hR⟩:∃ R,Rs C (q+1) N=R:=⟨_,rfl⟩
 obtain⟨X,hX⟩:∃ X,Xu 4 ((q+1+N:Nat):Int) (Ei R)=X:=⟨_,rfl⟩
 rw[hR,hX] at a0
 rw[hB] at hC
 have EO:EntsOk (Jd 5 true) ([]:List Ent):=by have:=Vl l l.length M0;rwa [hO] at this
 have b5:∀ i,i<N→C.getD i []=Yy (Zl B) i:=fun i hi=>by rw[←hC,Kq hi]
 have a5:=Gh c1
 have c3:∀ i,i<N→R.getD i rsD=(q+1+i,Yo (Yy (Zl B) i),Xl (Yy (Zl B) i)):=fun i hi=>by rw[←hR,Zxw hi,b5 i hi]
 have b9:R.length=N:=by rw[←hR,Cb]
 have b1:Rk R:=⟨by omega,fun i hi=>by
  rw[b9] at hi
  rw[c3 i hi]
  have h1:=(a5 i).2
  exact⟨by show 1≤q+1+i;omega,by show q+1+i≤14399;omega,N0 (Pw _ _) h1,N0 (Ph _) h1⟩⟩
 have c5:(Ei R).length=244:=Mu M0
 have a2:X.length=256:=by rw[←hX];exact Yn M0
 have a1:=Qf (t:=5) (l:=[]) (q:=q) (bs:=bs) Do Do EO (by rw[hT];omega)
 have a3:=Yh (L:=C) (q:=q+1) (bs:=bs) N M0
 have a4:=Yh (L:=C) (q:=q+1) (bs:=(Zz 5 [] q bs).2) N (by rw[a1.1];omega)
 have c7:(Qh (Xy C (q+1) bs N) ((q+1+N)*256) X).length=bs.length:=by rw[Yg (by rw[a2,a3];omega),a3]
 have c2:Zz 5 [] q (Qh (Xy C (q+1) bs N) ((q+1+N)*256) X)=((Zz 5 [] q bs).1,F):=by
  rw[Hg Do Do EO a2 (by rw[a3,hT];omega) (by rw[a3];omega) (by rw[hT];omega),Ba Do Do EO (by rw[hT];exact At _) N M0,a0]
 have a8:=Zey (l:=F) (kind:=4) (k:=q+1+N) (li:=Ei R) Do Do (by rw[a6];omega) M0 c5 (by rw[a0,hX];exact Ci a2 (by rw[a4,a1.1];omega))
 have c4:∀ i,i<N→Yi F ((q+1+i:Nat):Int)=0:=fun i hi=>by
  refine(Rd (by rw[a6];omega) M0 ?_ (a5 i).1 (a5 i).2).1
  rw[a0,Yv (k:=q+1+N) a2 (by rw[a4,a1.1];omega) M0 (by rw[a4,a1.1];omega),Cd (m:=bs.length/256) (by rw[a4,a1.1]) (by rw[a1.1]) M0 hi,b5 i hi]
 have b3:Qw F ((q+1+N:Nat):Int)=0:=by unfold Qw;rw[if_pos a8.1,a8.2];exact(Ft b1).1
 have c0:We F ((q+1+N:Nat):Int)=R:=by rw[(Rt b3).1,a8.2,Zen M0];exact(Ft b1).2
 have a7:R.map Lo=(List.range N).map fun i=>((((q+1+i:Nat):Int),7,0):Rx):=by
  rw[←hR]
  unfold Rs
  rw[M7]
  rfl
 constructor
 ·rw[e3]
  have hL:Qs F (Zfu F ((q+1+N:Nat):Int) 6) (rng (q+1) N):=by
   unfold Zfu
   rw[if_pos rfl,c0,a7,←Zlg]
   refine Qs.flat (x:=fun i=>(((q+1+i:Nat):Int),7,0)) _ (fun i hi=>Zc1 (c4 i hi)) fun i j d0 hj b hb hq=>?_
   rw[D3] at hb hq
   omega
  exact(Qs.node (no:=q+1+N) (ak:=6) (by unfold Zdn;rw[if_pos rfl];exact b3) hL (fun hq=>by have:=Jc.1 hq;omega)).perm rng_cons
 ·obtain⟨S5,b4,b0⟩:=Lf (F:=F) (G:=fun _=>[]) (t:=5) (l:=[]) (q:=q) (bs:=Qh (Xy C (q+1) bs N) ((q+1+N)*256) X) (by rw[c2]) Do Do EO M0 (by rw[hT,c7];omega) (by rw[hT];omega) (fun _ _ _=>rfl) (fun q=>absurd dead_5 q) (fun _ _ _ _ b hb=>by cases hb) (fun _ _ b hb=>by cases hb)
  rw[Oe,G0,hT] at b0
  rw[Ub,hT] at b4
  rw[e4]
  exact b4.perm b0
theorem LayF.count(h:LayF t u v x k L)(h18:k≤1800):∃ cs:List Nat,Zbc (Qb t u v x L k) (Zb7 t u v x L k)=(cs,[],0)∧cs.map (fun n:Nat=>(n:Int))=Xt (1+Qu x L+(2+bmN k)) k:=by
 have hf:=h.fits
 have hk:=Hc x L
 have a8:=h.few
 have hr:=Od h.pool h.room M0
 have a3:Xj (F2 L)=Xj (F1 L)+Ve (3,Pm L (Hw L)):=Qq _ _
 have a9:bmN x+Xk 4 (bmN x)≤Qr (Xw x L):=by unfold Qr;rw[Xx];omega
 obtain⟨a4,a5⟩:=h.tell_data h18
 obtain⟨a6,a7⟩:=h.tell_meta
 have a0:∀ {A B:List Rx} {p n q m:Nat},Qs (Qb t u v x L k) A (rng p n)→Qs (Qb t u v x L k) B (rng q m)→p+n=q→Qs (Qb t u v x L k) (A++B) (rng p (n+m)):=fun {A B p n q m} h1 h2 e=>by
  subst e
  rw[Dn]
  exact h1.append h2 fun b hb hq=>by have:=Jc.1 hb;have:=Jc.1 hq;omega
 have b1:=a0 h.tell_top h.tell_det rfl
 have b2:=a0 b1 a4 M0
 have b3:=a0 b2 a5 M0
 have b4:=(b3.append a6 fun b hb hq=>by have:=Jc.1 hb;have:=Jc.1 hq;omega).append a7 fun b hb hq=>by
  have:=Jc.1 hb
  rcases List.mem_append.1 hq with hq|hq
  ·have:=Jc.1 hq;omega
  ·have:=Jc.1 hq;omega
 obtain⟨S,hS,hT,hm⟩:∃ S,Qs (Qb t u v x L k) (supRx (Zb7 t u v x L k)) S∧(∀ b∈S,1≤b∧b<k)∧∀ i,S.count i=if 1≤i∧i<1+Qu x L+(2+bmN k) then 1 else 0:=by
  refine⟨_,b4,fun b hb=>?_,fun i=>?_⟩
  ·rcases List.mem_append.1 hb with hb|hb
   ·rcases List.mem_append.1 hb with hb|hb
    ·have:=Jc.1 hb;omega
    ·have:=Jc.1 hb;omega
   ·have:=Jc.1 hb;omega
  ·rw[List.count_append,List.count_append,Io,Io,Io]
   repeat' split
   all_goals omega
 have a1:(Ri k).length=k:=Gq k
 have a2:∀ i,i<k→(Ri k).getD i 0=if i=0 then 1 else 0:=fun i hi=>by
  unfold Ri
  rw[show(0:Int)=((0:Nat):Int) from rfl,Oy (by rw[B6];omega)]
  have:(List.replicate k 0).getD i 0=0:=by simp[List.getD,hi]
  rw[this]
  by_cases e:i=0
  ·rw[if_pos e.symm,if_pos e]
  ·rw[if_neg (fun q=>e q.symm),if_neg e]
 refine⟨Db (Ri k) S,?_,?_⟩
 ·have e:Zbc (Qb t u v x L k) (Zb7 t u v x L k)=Rh (Qb t u v x L k) (Ri k) (supRx (Zb7 t u v x L k)):=by
   unfold Zbc
   rw[if_neg (by rw[hr];decide)]
   rfl
  have hS:=hS (Ri k) [] fun b hb=>by
   have:=hT b hb
   rw[a1,a2 b M0,if_neg M0]
   exact⟨by omega,rfl⟩
  rw[G0] at hS
  rw[e,hS,Zrr]
 ·refine Gm 0 (by rw[A6,Bb,a1,Zr]) fun i hi=>?_
  rw[A6,Bb,a1] at hi
  have e:((Db (Ri k) S).map (fun n:Nat=>(n:Int))).getD i 0=(((Db (Ri k) S).getD i 0:Nat):Int):=by
   simp only[List.getD,C4]
   cases (Db (Ri k) S)[i]? <;> rfl
  rw[e,Ej S (Ri k) (fun b hb=>by rw[a1];exact(hT b hb).2),a2 i hi,hm,Hs hi]
  repeat' split
  all_goals omega
end Go.Proofs.YtceeiinepijokaaGreatDoor
namespace Go.Proofs.YtceeiinepijokaaGreatDoor
set_option maxHeartbeats 8000000
set_option maxRecDepth 100000
open Go.RowKit Go.Extern.Stop Go.Stop Go.Extern
set_option linter.unusedVariables false
attribute [local irreducible] wpList wpAnyH Code.wp Oper.wp Go
theorem Bf(no er:Int)(w:World)(he:er≠0) :
 C0 105 #[V0 no,V0 er] w ((fun e w'=>∃ ty x,e=.returned (.iface ty x)∧B3 w w'∧Kr w' (([no]:List Int).map some) (some er) (.iface ty x))):=by
 refine zin 11 Tryz.func105 ?_
 refine xk 12 (show((er==(0:Int)):Bool)=false from beq_false_of_ne he) ?_
 refine xc 7 (args:=#[V0 no,.iface 50 (V0 er)]) (Qo no er [] _ _ rfl) ?_
 rintro _ W1 ⟨a1,v1,rfl,a2,a0⟩
 exact xe 4 (.iface a1 (v1)) ⟨_,_,rfl,a2,a0⟩
def MapP(data:Int)(x:Ent)(w:World)(e:Ending)(w':World):Prop :=
 (Zf3 data x.2.1≠0∧∃ ty v,e=.returned (.tuple #[.agg #[V0 0,V0 0,V0 0],.iface ty v])∧B3 w w'∧Kr w' (([x.2.2]:List Int).map some) (some (Zf3 data x.2.1)) (.iface ty v)) ∨
 (Zf3 data x.2.1=0∧e=.returned (.tuple #[.agg #[V0 x.1,V0 (Ov x.2.1:Int),V0 (Zez x.2.1:Int)],.nilIface])∧B3 w w')
theorem Zbd{data:Int}{v:Bl}(h:Xn Mf v≠0):Zf3 data v=Xn Mf v:=if_pos h
theorem Zex{data:Int}{v:Bl}(h:Xn Mf v=0)(h2:data≤(Ov v:Int)):Zf3 data v=2:=by unfold Zf3;rw[if_neg (fun q=>q h),if_pos h2]
theorem Ztj{data:Int}{v:Bl}(h:Xn Mf v=0)(h2:¬ data≤(Ov v:Int)):Zf3 data v=0:=by unfold Zf3;rw[if_neg (fun q=>q h),if_neg h2]
theorem Tf(bx b:Nat)(data fuel sum:Int)(x:Ent)(w:World)(hk:Blk w bx [P0 b,V0 data,V0 fuel,V0 sum] 217)(hs:x.2.1.length≤1000) :
 C0 230 #[P0 bx,.agg #[V0 x.1,.string ⟨x.2.1.toArray⟩,V0 x.2.2]] w (MapP data x w):=by
 refine zin 38 Tryz.func230 ?_
 refine xa 2 [V0 x.1,.string ⟨x.2.1.toArray⟩,V0 x.2.2] 132 fun b1 W1 n1=>?_
 refine xa 0 [V0 0,V0 0,V0 0] 159 fun b2 W2 n2=>?_
 have k1:=n1.blk.below n2.below
 refine xb 6 1 k1 ?_
 refine xr 0 (Zes x.2.1 _ hs) fun W3 a0=>?_
 refine xg 15 [17,18] ((Xn Mf x.2.1)==(0:Int)) (fun a4=>?_) (fun a4=>?_)
 ·have a4:=eq_of_beq a4
  have b4:=((hk.below n1.below).below n2.below).below a0
  refine xb 4 1 b4 ?_
  refine xid 4 ((↑(Ov x.2.1):Int)≥data) (fun d1=>?_) (fun d1=>?_)
  ·have a7:=k1.below a0
   refine xb 16 2 a7 ?_
   refine xc 1 (Bf x.2.2 2 _ M0) ?_
   rintro _ W6 ⟨c5,v6,rfl,b7,a6⟩
   have k2:=(n2.blk.below a0).below b7
   refine xsv 0 k2 [V0 0,V0 0,V0 0] fun W7 u7 k7=>?_
   have g2:=n2.ge n1.below
   have hB:=u7.below (bln (bln (bln n1.below n2.below) a0) b7) g2
   have a3:=a6.only (Q1 (T:=[159]) u7 k2 Do) Do
   refine xec 5 k7 (.tuple #[.agg #[V0 0,V0 0,V0 0],.iface c5 (v6)]) ?_
   first|(have e9:=Zex (data:=data) (v:=x.2.1) M0 M0;exact .inl ⟨by rw[e9];decide,_,_,rfl,hB,by rw[e9];exact a3⟩)|(have e9:=Zbd (data:=data) (v:=x.2.1) M0;exact .inl ⟨by rw[e9];omega,_,_,rfl,hB,by rw[e9];exact a3⟩)
  refine xin 9 (Xn Mf x.2.1) (0:Int) (fun c4=>?_) (fun c4=>?_)
  ·have b5:=k1.below a0
   refine xb 4 2 b5 ?_
   refine xc 1 (Bf x.2.2 (Xn Mf x.2.1) _ M0) ?_
   rintro _ W9 ⟨c1,v9,rfl,c0,a6⟩
   have k2:=(n2.blk.below a0).below c0
   refine xsv 0 k2 [V0 0,V0 0,V0 0] fun d6 b9 c6=>?_
   have g2:=n2.ge n1.below
   have hB:=b9.below (bln (bln (bln n1.below n2.below) a0) c0) g2
   have a2:=a6.only (Q1 (T:=[159]) b9 k2 Do) Do
   refine xec 5 c6 (.tuple #[.agg #[V0 0,V0 0,V0 0],.iface c1 (v9)]) ?_
   first|(have e9:=Zex (data:=data) (v:=x.2.1) M0 M0;exact .inl ⟨by rw[e9];decide,_,_,rfl,hB,by rw[e9];exact a2⟩)|(have e9:=Zbd (data:=data) (v:=x.2.1) M0;exact .inl ⟨by rw[e9];omega,_,_,rfl,hB,by rw[e9];exact a2⟩)
  have a8:=k1.below a0
  refine xb 5 0 a8 ?_
  have k2:=n2.blk.below a0
  refine xsv 3 k2 [V0 x.1,V0 (↑(Ov x.2.1):Int),V0 (↑(Zez x.2.1):Int)] fun d3 c9 c3=>?_
  have g2:=n2.ge n1.below
  have hB:=c9.below (bln (bln n1.below n2.below) a0) g2
  exact xec 4 c3 (.tuple #[.agg #[V0 x.1,V0 (↑(Ov x.2.1):Int),V0 (↑(Zez x.2.1):Int)],.nilIface]) (.inr ⟨Ztj M0 M0,rfl,hB⟩)
 have a4:=Vh a4
 refine xin 19 (Xn Mf x.2.1) (0:Int) (fun b6=>?_) (fun b6=>?_)
 ·have b0:=k1.below a0
  refine xb 4 2 b0 ?_
  refine xc 1 (Bf x.2.2 (Xn Mf x.2.1) _ M0) ?_
  rintro _ d5 ⟨b3,c8,rfl,a5,a6⟩
  have k2:=(n2.blk.below a0).below a5
  refine xsv 0 k2 [V0 0,V0 0,V0 0] fun d2 b8 d0=>?_
  have g2:=n2.ge n1.below
  have hB:=b8.below (bln (bln (bln n1.below n2.below) a0) a5) g2
  have a1:=a6.only (Q1 (T:=[159]) b8 k2 Do) Do
  refine xec 5 d0 (.tuple #[.agg #[V0 0,V0 0,V0 0],.iface b3 (c8)]) ?_
  first|(have e9:=Zex (data:=data) (v:=x.2.1) M0 M0;exact .inl ⟨by rw[e9];decide,_,_,rfl,hB,by rw[e9];exact a1⟩)|(have e9:=Zbd (data:=data) (v:=x.2.1) M0;exact .inl ⟨by rw[e9];omega,_,_,rfl,hB,by rw[e9];exact a1⟩)
 have a9:=k1.below a0
 refine xb 5 0 a9 ?_
 have k2:=n2.blk.below a0
 refine xsv 3 k2 [V0 x.1,V0 (↑(Ov x.2.1):Int),V0 (↑(Zez x.2.1):Int)] fun d4 c2 c7=>?_
 have g2:=n2.ge n1.below
 have hB:=c2.below (bln (bln n1.below n2.below) a0) g2
 exact xec 4 c7 (.tuple #[.agg #[V0 x.1,V0 (↑(Ov x.2.1):Int),V0 (↑(Zez x.2.1):Int)],.nilIface]) (.inr ⟨Ztj M0 M0,rfl,hB⟩)
def TellP(O:List Int×Int×List Mp)(w:World)(e:Ending)(w':World):Prop :=
 (O.2.1≠0∧∃ ty v,e=.returned (.tuple #[S0,.iface ty v])∧B3 w w'∧Kr w' (O.1.map some) (some O.2.1) (.iface ty v)) ∨
 (O.2.1=0∧∃ p c,e=.returned (.tuple #[.slice p O.2.2.length c,.nilIface])∧B3 w w'∧w'.ownsRow w.heap.size 159 3 (.slice p O.2.2.length c) O.2.2.length (O.2.2.flatMap Cu))
theorem Ao{O:List Int×Int×List Mp}{bl:List Int}{er:Int}{w W:World}{ty:TypeId}{v:Value}(h:O=(bl,er,[]))(her:er≠0)(hb:B3 w W)(hv:Kr W (bl.map some) (some er) (.iface ty v)):TellP O w (.returned (.tuple #[S0,.iface ty v])) W:=by
 subst h;exact .inl ⟨her,ty,v,rfl,hb,hv⟩
theorem Zt0{O:List Int×Int×List Mp}{L:List Mp}{n:Nat}{w W:World}{p:O0}{c:Nat}(h:O=([],0,L))(hn:L.length=n)(hb:B3 w W)(ho:W.ownsRow w.heap.size 159 3 (.slice p n c) n (L.flatMap Cu)):TellP O w (.returned (.tuple #[.slice p n c,.nilIface])) W:=by
 subst h hn;exact .inr ⟨rfl,p,c,rfl,hb,ho⟩
theorem Zhw{es:List Ent}{i:Nat}(hi:i<es.length):((es.take (i+1)).map Zxt).flatMap Cu=((es.take i).map Zxt).flatMap Cu++Cu (Zxt (es.getD i Zo)):=by
 rw[A7 hi,B5,C8,show es.getD i Zo=es[i] from by simp[List.getD,hi]]
 simp only[D7,H0,E5,N7,G0]
theorem Zum(Bi bx b:Nat)(pi:O0)(ni ci:Nat)(l:Bl)(data fuel sum root:Int)(w:World)(hI:ImgR Bi b pi ni ci l w)(hk:Blk w bx [P0 b,V0 data,V0 fuel,V0 sum] 217)(hfu:fuel≤1000000) :
 C0 177 #[P0 bx,V0 root] w (TellP (Zoo l root data fuel) w):=by
 have m4:=(Nt l root 2 fuel hfu).1
 refine zin 51 Tryz.func177 ?_
 refine xd 7 (.t w.heap.size [126]) ?_
 have b7:=hk.below (Za w)
 refine xbt (.e [0,1,2] 3) 0 w.heap.size [126] b7 ?_
 refine xbt (.e [4,5,6,7] 8) 2 w.heap.size [126] b7 ?_
 refine xm2 0 9 13 ?_ ?_
 ·have hB:=(Za w)
  refine yc 0 (.t w.heap.size [126]) (Gg Bi b pi ni ci l root 2 fuel _ hfu (hI.below hB)) ?_
  rintro e W1 m7
  rcases m7 with ⟨b3,pe,ce,pb,cb,pf,cf,i0,vw,rfl,e4,d6⟩|⟨b3,pe,ce,pb,nb,cb,dp,lk,pf,cf,rfl,e4,a8⟩
  ·refine⟨(Q3 _ e4),?_⟩
   refine xa (.o [10,11,12] 13) [S0,S0,V0 0,V0 0,S0] 126 fun b2 W2 n2=>?_
   have e9:=bln hB e4
   have g2:=n2.ge e9
   refine ysv (.o [] 14) n2.blk [.slice pe 0 ce,.slice pb 0 cb,V0 0,V0 0,.slice pf 0 cf] (.t w.heap.size [126]) fun W3 u3 k3=>⟨(Zt u3 n2.blk g2 Do),?_⟩
   have f7:=(d6.below n2.below).only (Q1 (T:=[126]) u3 n2.blk Do) Do
   have i6:=u3.below (bln e9 n2.below) g2
   exact xe (.r [15] 19) (.tuple #[S0,.iface i0 (vw)]) (Ao (Zig b3) (Fk b3) i6 f7)
  have l5:=(Za w).size
  refine⟨(Q3 _ e4),?_⟩
  refine xa (.o [10,11,12] 13) [S0,S0,V0 0,V0 0,S0] 126 fun b4 W4 n4=>?_
  have h0:=bln hB e4
  have g4:=n4.ge h0
  refine ysv (.o [] 14) n4.blk [.slice pe ((Zd l root 2 fuel).es.length) ce,.slice pb nb cb,V0 dp,V0 lk,.slice pf 0 cf] (.t w.heap.size [126]) fun W5 u5 k5=>⟨(Zt u5 n4.blk g4 Do),?_⟩
  refine xb (.r [15] 21) 0 k5 ?_
  have h1:=u5.own2 (Zb (Zf a8 l5) n4.below) n4.blk Do
  have j5:=u5.below (bln h0 n4.below) g4
  have i4:=u5.blkT ((b7.below e4).below n4.below) n4.blk Do
  refine zl 5 51 (fun zm j2 V=>∃ (i:Nat) (p:O0) (c:Nat),j2=[(0,P0 bx),(8,.slice p i c),(30,.slice pe ((Zd l root 2 fuel).es.length) ce),(31,V0 (↑((Zd l root 2 fuel).es.length):Int)),(32,V0 (i:Int))]∧zm=(Zd l root 2 fuel).es.length-((i:Int)).toNat∧B3 w V∧Blk V bx ([P0 b,V0 data,V0 fuel,V0 sum]) 217∧Blk V b4 ([.slice pe ((Zd l root 2 fuel).es.length) ce,.slice pb nb cb,V0 dp,V0 lk,.slice pf 0 cf]) 126∧V.ownsRow w.heap.size 132 3 (.slice pe (Zd l root 2 fuel).es.length ce) (Zd l root 2 fuel).es.length ((Zd l root 2 fuel).es.flatMap Kd)∧V.ownsRow w.heap.size 159 3 (.slice p i c) i ((((Zd l root 2 fuel).es.take i).map Zxt).flatMap Cu)∧i≤(Zd l root 2 fuel).es.length∧Zqh data (Zd l root 2 fuel).es i) ⟨0,none,0,rfl,rfl,j5,i4,k5,h1,A5 _ _ _ _,A3 _,fun j hj=>absurd hj M0⟩ ?_
  rintro _ _ W6 ⟨i,p,c,rfl,rfl,c4,e6,f8,a8,ho,hi,d8⟩ J6 l6 r6
  refine xid 6 ((i:Int)<(↑((Zd l root 2 fuel).es.length):Int)) (fun m3=>?_) (fun m3=>?_)
  ·refine xx 6 _ ((Zd l root 2 fuel).es.length) i 3 (Sts.cell (f:=Kd) (Zg a8) Ql Zo (k:=i) (i:=0) M0 rfl).1 ?_
   refine xlv 0 (Sts.rp (k:=i) (Zg a8) Ql Zo M0 Do) ?_
   refine xa 0 [V0 0,.string ⟨#[]⟩,V0 0] 132 fun b8 W8 n8=>?_
   have g8:=n8.ge c4
   have e1:=Zu a8 n8
   refine xsv 0 n8.blk [V0 (((Zd l root 2 fuel).es.getD i Zo).1),.string ⟨(((Zd l root 2 fuel).es.getD i Zo).2.1).toArray⟩,V0 (((Zd l root 2 fuel).es.getD i Zo).2.2)] fun W9 u9 k9=>?_
   refine xlv 5 k9.rp ?_
   have a5:=u9.blkT (e6.below n8.below) n8.blk Do
   refine xc 0 (args:=#[P0 bx,.agg #[V0 (((Zd l root 2 fuel).es.getD i Zo).1),.string ⟨(((Zd l root 2 fuel).es.getD i Zo).2.1).toArray⟩,V0 (((Zd l root 2 fuel).es.getD i Zo).2.2)]]) (Tf bx b data fuel sum ((Zd l root 2 fuel).es.getD i Zo) _ a5 (Js _ _ _ _ i M0)) ?_
   rintro e p6 j1
   rcases j1 with ⟨c2,k1,vm,rfl,a0,d6⟩|⟨c2,rfl,a0⟩
   ·refine xa 3 [V0 0,V0 0,V0 0] 159 fun p2 p1 e3=>?_
    have g9:=bln (u9.below (bln c4 n8.below) g8) a0
    have l7:=e3.ge g9
    have i2:=Zb (u9.own2 (Zb ho n8.below) n8.blk Do) a0
    have i9:=Zu i2 e3
    refine xsv 0 e3.blk [V0 0,V0 0,V0 0] fun o0 k6 o8=>?_
    have h4:=(d6.below e3.below).only (Q1 (T:=[159]) k6 e3.blk Do) Do
    have i5:=k6.below (bln g9 e3.below) l7
    exact xe 25 (.tuple #[S0,.iface k1 (vm)]) (Ao ((Eo b3).trans (Zh1 M0 d8 c2)) c2 i5 h4)
   refine xa 3 [V0 0,V0 0,V0 0] 159 fun n9 n5 b1=>?_
   have f3:=bln (u9.below (bln c4 n8.below) g8) a0
   have m2:=b1.ge f3
   have f1:=Zb (u9.own2 (Zb ho n8.below) n8.blk Do) a0
   have d7:=Zu f1 b1
   refine xsv 0 b1.blk [V0 (((Zd l root 2 fuel).es.getD i Zo).1),V0 (↑(Ov ((Zd l root 2 fuel).es.getD i Zo).2.1):Int),V0 (↑(Zez ((Zd l root 2 fuel).es.getD i Zo).2.1):Int)] fun p8 e7 k7=>?_
   refine xlv 15 k7.rp ?_
   refine xbs 0 1 [V0 (((Zd l root 2 fuel).es.getD i Zo).1),V0 (↑(Ov ((Zd l root 2 fuel).es.getD i Zo).2.1):Int),V0 (↑(Zez ((Zd l root 2 fuel).es.getD i Zo).2.1):Int)] 159 fun m9 o7 c0=>?_
   have h7:=c0.ne k7
   have h2:=e7.below (bln f3 b1.below) m2
   have n3:=c0.ge h2
   have e8:=e7.own3 (Zb f1 b1.below) d7
   have i1:=Zu e8 c0
   have c6:=Zb e8 c0.below
   have g0:=bln h2 c0.below
   refine xbi 0 fun _ _ _ _ zJ zQ zo zx zy zK=>Xi (m:=1) (news:=[V0 (((Zd l root 2 fuel).es.getD i Zo).1),V0 (↑(Ov ((Zd l root 2 fuel).es.getD i Zo).2.1):Int),V0 (↑(Zez ((Zd l root 2 fuel).es.getD i Zo).2.1):Int)]) (.agg #[V0 0,V0 0,V0 0]) 3 24 (i+1) (((((Zd l root 2 fuel).es.take (i+1)).map Zxt).flatMap Cu)) zo Tryz.underlying93 K0 rfl Do zx c6 zy (c0.blk.sl 1 1 Do Do) rfl (by simp[Value.oneCell']) (by unfold maxLen;omega) M0 g0.size (rfl) (by rw[Zhw M0];rfl) fun l2 l1 m8 m5 d4 j8=>?_
   refine zK _ _ ?_
   refine xwm 5 ((i:Int)+1) (↑(i+1):Int) ?_
   have h5:=g0.trans j8
   have c5:=((e7.blkT ((a5.below a0).below b1.below) b1.blk Do).below c0.below).grown d4 c6 Do
   have c3:=((e7.blkT (((u9.blkT (f8.below n8.below) n8.blk Do).below a0).below b1.below) b1.blk Do).below c0.below).grown d4 c6 Do
   have g6:=Xe (Zb (e7.own2 (Zb (Zb (u9.own3 (Zb a8 n8.below) e1) a0) b1.below) b1.blk Do) c0.below) d4 c6 Do
   exact ze 2 (l6 _ _ _ ⟨i+1,_,_,rfl,rfl,h5,c5,c3,g6,m5,by omega,Zd3 d8 c2⟩ M0)
  refine xe 13 (.tuple #[.slice p i c,.nilIface]) ?_
  obtain rfl:i=(Zd l root 2 fuel).es.length:=by omega
  rw[C1 (At _)] at ho
  exact Zt0 ((Eo b3).trans (Zd5 d8)) (A6 _) c4 ho
 refine xa 0 [S0,S0,V0 0,V0 0,S0] 126 fun m0 p7 d3=>?_
 have hB:=bln (Za w) d3.below
 refine yc (.o [] 9) (.t w.heap.size [126]) (Gg Bi b pi ni ci l root 2 fuel _ hfu (hI.below hB)) ?_
 rintro e n0 j0
 rcases j0 with ⟨b3,pe,ce,pb,cb,pf,cf,i0,vw,rfl,a1,d6⟩|⟨b3,pe,ce,pb,nb,cb,dp,lk,pf,cf,rfl,a1,a8⟩
 ·refine⟨(Q3 _ a1),?_⟩
  have d1:=d3.blk.below a1
  have f6:=d3.ge (Za w)
  refine ysv (.o [10,11,12] 14) d1 [.slice pe 0 ce,.slice pb 0 cb,V0 0,V0 0,.slice pf 0 cf] (.t w.heap.size [126]) fun o1 i3 o5=>⟨(Zt i3 d1 f6 Do),?_⟩
  have f4:=d6.only (Q1 (T:=[126]) i3 d1 Do) Do
  have g7:=i3.below (bln hB a1) f6
  exact xe (.r [15] 19) (.tuple #[S0,.iface i0 (vw)]) (Ao (Zig b3) (Fk b3) g7 f4)
 have j4:=(bln (Za w) d3.below).size
 refine⟨(Q3 _ a1),?_⟩
 have d1:=d3.blk.below a1
 have f6:=d3.ge (Za w)
 refine ysv (.o [10,11,12] 14) d1 [.slice pe ((Zd l root 2 fuel).es.length) ce,.slice pb nb cb,V0 dp,V0 lk,.slice pf 0 cf] (.t w.heap.size [126]) fun p0 h8 k4=>⟨(Zt h8 d1 f6 Do),?_⟩
 refine xb (.r [15] 21) 0 k4 ?_
 have g5:=h8.own2 (Zf a8 j4) d1 Do
 have f2:=h8.below (bln hB a1) f6
 have j6:=h8.blkT ((b7.below d3.below).below a1) d1 Do
 refine zl 5 51 (fun zm j2 V=>∃ (i:Nat) (p:O0) (c:Nat),j2=[(0,P0 bx),(8,.slice p i c),(30,.slice pe ((Zd l root 2 fuel).es.length) ce),(31,V0 (↑((Zd l root 2 fuel).es.length):Int)),(32,V0 (i:Int))]∧zm=(Zd l root 2 fuel).es.length-((i:Int)).toNat∧B3 w V∧Blk V bx ([P0 b,V0 data,V0 fuel,V0 sum]) 217∧Blk V m0 ([.slice pe ((Zd l root 2 fuel).es.length) ce,.slice pb nb cb,V0 dp,V0 lk,.slice pf 0 cf]) 126∧V.ownsRow w.heap.size 132 3 (.slice pe (Zd l root 2 fuel).es.length ce) (Zd l root 2 fuel).es.length ((Zd l root 2 fuel).es.flatMap Kd)∧V.ownsRow w.heap.size 159 3 (.slice p i c) i ((((Zd l root 2 fuel).es.take i).map Zxt).flatMap Cu)∧i≤(Zd l root 2 fuel).es.length∧Zqh data (Zd l root 2 fuel).es i) ⟨0,none,0,rfl,rfl,f2,j6,k4,g5,A5 _ _ _ _,A3 _,fun j hj=>absurd hj M0⟩ ?_
 rintro _ _ q5 ⟨i,p,c,rfl,rfl,a6,e0,b9,a8,ho,hi,d8⟩ p3 j9 p5
 refine xid 6 ((i:Int)<(↑((Zd l root 2 fuel).es.length):Int)) (fun i7=>?_) (fun i7=>?_)
 ·refine xx 6 _ ((Zd l root 2 fuel).es.length) i 3 (Sts.cell (f:=Kd) (Zg a8) Ql Zo (k:=i) (i:=0) M0 rfl).1 ?_
  refine xlv 0 (Sts.rp (k:=i) (Zg a8) Ql Zo M0 Do) ?_
  refine xa 0 [V0 0,.string ⟨#[]⟩,V0 0] 132 fun q4 n7 a4=>?_
  have k8:=a4.ge a6
  have b5:=Zu a8 a4
  refine xsv 0 a4.blk [V0 (((Zd l root 2 fuel).es.getD i Zo).1),.string ⟨(((Zd l root 2 fuel).es.getD i Zo).2.1).toArray⟩,V0 (((Zd l root 2 fuel).es.getD i Zo).2.2)] fun q2 d5 l9=>?_
  refine xlv 5 l9.rp ?_
  have a2:=d5.blkT (e0.below a4.below) a4.blk Do
  refine xc 0 (args:=#[P0 bx,.agg #[V0 (((Zd l root 2 fuel).es.getD i Zo).1),.string ⟨(((Zd l root 2 fuel).es.getD i Zo).2.1).toArray⟩,V0 (((Zd l root 2 fuel).es.getD i Zo).2.2)]]) (Tf bx b data fuel sum ((Zd l root 2 fuel).es.getD i Zo) _ a2 (Js _ _ _ _ i M0)) ?_
  rintro e q1 j3
  rcases j3 with ⟨c2,k1,vm,rfl,a3,d6⟩|⟨c2,rfl,a3⟩
  ·refine xa 3 [V0 0,V0 0,V0 0] 159 fun p4 o6 e2=>?_
   have d0:=bln (d5.below (bln a6 a4.below) k8) a3
   have m6:=e2.ge d0
   have h9:=Zb (d5.own2 (Zb ho a4.below) a4.blk Do) a3
   have j7:=Zu h9 e2
   refine xsv 0 e2.blk [V0 0,V0 0,V0 0] fun o4 l0 o3=>?_
   have h3:=(d6.below e2.below).only (Q1 (T:=[159]) l0 e2.blk Do) Do
   have g1:=l0.below (bln d0 e2.below) m6
   exact xe 25 (.tuple #[S0,.iface k1 (vm)]) (Ao ((Eo b3).trans (Zh1 M0 d8 c2)) c2 g1 h3)
  refine xa 3 [V0 0,V0 0,V0 0] 159 fun n6 o9 b0=>?_
  have c8:=bln (d5.below (bln a6 a4.below) k8) a3
  have m1:=b0.ge c8
  have f0:=Zb (d5.own2 (Zb ho a4.below) a4.blk Do) a3
  have d2:=Zu f0 b0
  refine xsv 0 b0.blk [V0 (((Zd l root 2 fuel).es.getD i Zo).1),V0 (↑(Ov ((Zd l root 2 fuel).es.getD i Zo).2.1):Int),V0 (↑(Zez ((Zd l root 2 fuel).es.getD i Zo).2.1):Int)] fun q0 f9 k2=>?_
  refine xlv 15 k2.rp ?_
  refine xbs 0 1 [V0 (((Zd l root 2 fuel).es.getD i Zo).1),V0 (↑(Ov ((Zd l root 2 fuel).es.getD i Zo).2.1):Int),V0 (↑(Zez ((Zd l root 2 fuel).es.getD i Zo).2.1):Int)] 159 fun p9 n1 c1=>?_
  have h6:=c1.ne k2
  have c7:=f9.below (bln c8 b0.below) m1
  have o2:=c1.ge c7
  have e5:=f9.own3 (Zb f0 b0.below) d2
  have k0:=Zu e5 c1
  have b6:=Zb e5 c1.below
  have c9:=bln c7 c1.below
  refine xbi 0 fun _ _ _ _ zJ zQ zo zx zy zK=>Xi (m:=1) (news:=[V0 (((Zd l root 2 fuel).es.getD i Zo).1),V0 (↑(Ov ((Zd l root 2 fuel).es.getD i Zo).2.1):Int),V0 (↑(Zez ((Zd l root 2 fuel).es.getD i Zo).2.1):Int)]) (.agg #[V0 0,V0 0,V0 0]) 3 24 (i+1) (((((Zd l root 2 fuel).es.take (i+1)).map Zxt).flatMap Cu)) zo Tryz.underlying93 K0 rfl Do zx b6 zy (c1.blk.sl 1 1 Do Do) rfl (by simp[Value.oneCell']) (by unfold maxLen;omega) M0 c9.size (rfl) (by rw[Zhw M0];rfl) fun l3 l4 q3 l8 d9 i8=>?_
  refine zK _ _ ?_
  refine xwm 5 ((i:Int)+1) (↑(i+1):Int) ?_
  have f5:=c9.trans i8
  have a9:=((f9.blkT ((a2.below a3).below b0.below) b0.blk Do).below c1.below).grown d9 b6 Do
  have a7:=((f9.blkT (((d5.blkT (b9.below a4.below) a4.blk Do).below a3).below b0.below) b0.blk Do).below c1.below).grown d9 b6 Do
  have g3:=Xe (Zb (f9.own2 (Zb (Zb (d5.own3 (Zb a8 a4.below) b5) a3) b0.below) b0.blk Do) c1.below) d9 b6 Do
  exact ze 2 (j9 _ _ _ ⟨i+1,_,_,rfl,rfl,f5,a9,a7,g3,l8,by omega,Zd3 d8 c2⟩ M0)
 refine xe 13 (.tuple #[.slice p i c,.nilIface]) ?_
 obtain rfl:i=(Zd l root 2 fuel).es.length:=by omega
 rw[C1 (At _)] at ho
 exact Zt0 ((Eo b3).trans (Zd5 d8)) (A6 _) a6 ho
theorem Znw(Bi bx b:Nat)(pi:O0)(ni ci:Nat)(l:Bl)(data fuel sum:Int)(y:Ent)(w:World)(hI:ImgR Bi b pi ni ci l w)(hk:Blk w bx [P0 b,V0 data,V0 fuel,V0 sum] 217)(hfu:fuel≤1000000):C0 177 #[P0 bx,V0 (↑(Hv y.2.1):Int)] w (TellP (ownO l y data fuel) w):=Zum Bi bx b pi ni ci l data fuel sum (↑(Hv y.2.1):Int) w hI hk hfu
theorem own_few(l:Bl)(y:Ent)(data fuel:Int)(hf:fuel≤1000000):(ownO l y data fuel).2.2.length≤100000000:=by
 have h:=(Nt l (Hv y.2.1:Int) 2 fuel hf).1
 unfold ownO Zoo Zji
 split
 ·exact A3 _
 ·split
  ·exact A3 _
  ·rw[A6];exact h
theorem dev_1{l:Bl}{x y:Ent}{data fuel:Int}{sum:Nat}(h:16777215<x.1):Ib l x y data fuel sum=([x.2.2],9):=if_pos h
theorem dev_2{l:Bl}{x y:Ent}{data fuel:Int}{sum:Nat}(h:¬ 16777215<x.1)(h2:Xn Nc x.2.1≠0):Ib l x y data fuel sum=([x.2.2],Xn Nc x.2.1):=by unfold Ib;rw[if_neg h,if_pos h2]
theorem dev_3{l:Bl}{x y:Ent}{data fuel:Int}{sum:Nat}(h:¬ 16777215<x.1)(h2:Xn Nc x.2.1=0)(h3:Qn y.2.1≠0):Ib l x y data fuel sum=([y.2.2],Qn y.2.1):=by unfold Ib;rw[if_neg h,if_neg (fun q=>q h2),if_pos h3]
theorem dev_4{l:Bl}{x y:Ent}{data fuel:Int}{sum:Nat}(h:¬ 16777215<x.1)(h2:Xn Nc x.2.1=0)(h3:Qn y.2.1=0)(h4:(ownO l y data fuel).2.1≠0):Ib l x y data fuel sum=(y.2.2::(ownO l y data fuel).1,(ownO l y data fuel).2.1):=by unfold Ib;rw[if_neg h,if_neg (fun q=>q h2),if_neg (fun q=>q h3),if_pos h4]
theorem dev_5{l:Bl}{x y:Ent}{data fuel:Int}{sum:Nat}(h:¬ 16777215<x.1)(h2:Xn Nc x.2.1=0)(h3:Qn y.2.1=0)(h4:(ownO l y data fuel).2.1=0)(h5:(ownO l y data fuel).2.2.length≠Kj x.2.1 0):Ib l x y data fuel sum=([x.2.2],13):=by unfold Ib;rw[if_neg h,if_neg (fun q=>q h2),if_neg (fun q=>q h3),if_neg (fun q=>q h4),if_pos h5]
theorem dev_6{l:Bl}{x y:Ent}{data fuel:Int}{sum:Nat}(h:¬ 16777215<x.1)(h2:Xn Nc x.2.1=0)(h3:Qn y.2.1=0)(h4:(ownO l y data fuel).2.1=0)(h5:(ownO l y data fuel).2.2.length=Kj x.2.1 0)(h6:16384<sum+(ownO l y data fuel).2.2.length):Ib l x y data fuel sum=([y.2.2],2):=by unfold Ib;rw[if_neg h,if_neg (fun q=>q h2),if_neg (fun q=>q h3),if_neg (fun q=>q h4),if_neg (fun q=>q h5),if_pos h6]
theorem dev_7{l:Bl}{x y:Ent}{data fuel:Int}{sum:Nat}(h:¬ 16777215<x.1)(h2:Xn Nc x.2.1=0)(h3:Qn y.2.1=0)(h4:(ownO l y data fuel).2.1=0)(h5:(ownO l y data fuel).2.2.length=Kj x.2.1 0)(h6:¬ 16384<sum+(ownO l y data fuel).2.2.length):Ib l x y data fuel sum=([],0):=by unfold Ib;rw[if_neg h,if_neg (fun q=>q h2),if_neg (fun q=>q h3),if_neg (fun q=>q h4),if_neg (fun q=>q h5),if_neg h6]
def DevP(B bx b:Nat)(l:Bl)(x y:Ent)(data fuel:Int)(sum:Nat)(w:World)(e:Ending)(w':World):Prop :=
 ((Ib l x y data fuel sum).2≠0∧∃ ty v,e=.returned (.tuple #[.agg #[V0 0,V0 0,V0 0,V0 0,S0],.iface ty v])∧Below B w w'∧Ze [217] w w'∧Fr [bx] w w'∧Kr w' ((Ib l x y data fuel sum).1.map some) (some (Ib l x y data fuel sum).2) (.iface ty v)) ∨
 ((Ib l x y data fuel sum).2=0∧∃ p c,e=.returned (.tuple #[.agg #[V0 x.1,V0 (Kj x.2.1 1:Int),V0 (Kj x.2.1 2:Int),V0 (Kj x.2.1 3:Int),.slice p (ownO l y data fuel).2.2.length c],.nilIface])∧Below B w w'∧Ze [217] w w'∧Fr [bx] w w'∧Blk w' bx [P0 b,V0 data,V0 fuel,V0 ((sum+(ownO l y data fuel).2.2.length:Nat):Int)] 217∧w'.ownsRow w.heap.size 159 3 (.slice p (ownO l y data fuel).2.2.length c) (ownO l y data fuel).2.2.length ((ownO l y data fuel).2.2.flatMap Cu))
theorem Ce{B bx b:Nat}{l:Bl}{x y:Ent}{data fuel:Int}{sum:Nat}{w W:World}{ty:TypeId}{v:Value}{bl:List Int}{er:Int}(h:Ib l x y data fuel sum=(bl,er))(her:er≠0)(hb:Below B w W)(hO:Ze [217] w W)(hX:Fr [bx] w W)(hv:Kr W (bl.map some) (some er) (.iface ty v)):DevP B bx b l x y data fuel sum w (.returned (.tuple #[.agg #[V0 0,V0 0,V0 0,V0 0,S0],.iface ty v])) W:=by
 unfold DevP;rw[h];exact .inl ⟨her,ty,v,rfl,hb,hO,hX,hv⟩
theorem Zbw(B Bi bx b:Nat)(pi:O0)(ni ci:Nat)(l:Bl)(data fuel:Int)(sum:Nat)(x y:Ent)(w:World)(hI:ImgR Bi b pi ni ci l w)(hk:Blk w bx [P0 b,V0 data,V0 fuel,V0 (sum:Int)] 217)(hfu:fuel≤1000000)(hx:x.2.1.length≤1000)(hy:y.2.1.length≤1000)(hsm:sum≤16384)(hB0:B≤bx)(hBw:B≤w.heap.size) :
 C0 107 #[P0 bx,.agg #[V0 x.1,.string ⟨x.2.1.toArray⟩,V0 x.2.2],.agg #[V0 y.1,.string ⟨y.2.1.toArray⟩,V0 y.2.2]] w (DevP B bx b l x y data fuel sum w):=by
 have h3:=own_few l y data fuel hfu
 refine zin 96 Tryz.func107 ?_
 refine xa 2 [V0 x.1,.string ⟨x.2.1.toArray⟩,V0 x.2.2] 132 fun b1 W1 n1=>?_
 refine xa 0 [V0 y.1,.string ⟨y.2.1.toArray⟩,V0 y.2.2] 132 fun b2 W2 n2=>?_
 have f4:=n2.ne n1.blk
 refine xa 0 [V0 0,V0 0,V0 0,V0 0,S0] 95 fun b3 W3 n3=>?_
 have a4:=(n1.blk.below n2.below).below n3.below
 refine xb 7 0 a4 ?_
 refine xid 3 (x.1>(16777215:Int)) (fun g1=>?_) (fun g1=>?_)
 ·refine xb 4 2 a4 ?_
  refine xc 0 (Bf x.2.2 9 _ M0) ?_
  rintro _ W5 ⟨f7,v5,rfl,d4,a6⟩
  have k3:=n3.blk.below d4
  refine xsv 0 k3 [V0 0,V0 0,V0 0,V0 0,S0] fun W6 u6 k6=>?_
  have g3:=n3.ge0 (blB (blB (Below.refl B w) hBw n1.below) hBw n2.below)
  have c4:=a6.only (Q1 (T:=[95]) u6 k3 Do) Do
  have hB:=u6.below (blB (blB (blB (blB (Below.refl B w) hBw n1.below) hBw n2.below) hBw n3.below) hBw d4) (N0 hBw g3)
  have hO:=(Ze.upd_new ((((show Ze [217] w _ from(Q0 n1.below)).trans (Q0 n2.below)).trans (Q0 n3.below)).trans (Q0 d4)) u6 g3)
  have hX:=(Fr.upd_new ((((show Fr [bx] w _ from(Q2 n1.below)).trans (Q2 n2.below)).trans (Q2 n3.below)).trans (Q2 d4)) u6 g3)
  exact xec 5 k6 (.tuple #[.agg #[V0 0,V0 0,V0 0,V0 0,S0],.iface f7 (v5)]) (Ce (dev_1 M0) Do hB hO hX c4)
 refine xb 5 1 a4 ?_
 refine xr 0 (Aj x.2.1 _ hx) fun W7 a2=>?_
 refine xa 3 [V0 0,V0 0,V0 0,V0 0] 280 fun b8 W8 n8=>?_
 refine xsv 0 n8.blk [V0 (↑(Kj x.2.1 0):Int),V0 (↑(Kj x.2.1 1):Int),V0 (↑(Kj x.2.1 2):Int),V0 (↑(Kj x.2.1 3):Int)] fun W9 u9 k9=>?_
 have g8:=n8.ge0 (blB (blB (blB (blB (Below.refl B w) hBw n1.below) hBw n2.below) hBw n3.below) hBw a2)
 refine xin 10 (Xn Nc x.2.1) (0:Int) (fun f2=>?_) (fun f2=>?_)
 ·have d7:=u9.blkT ((a4.below a2).below n8.below) n8.blk Do
  refine xb 4 2 d7 ?_
  refine xc 1 (Bf x.2.2 (Xn Nc x.2.1) _ M0) ?_
  rintro _ i5 ⟨e9,h4,rfl,b0,a6⟩
  have k3:=(u9.blkT ((n3.blk.below a2).below n8.below) n8.blk Do).below b0
  refine xsv 0 k3 [V0 0,V0 0,V0 0,V0 0,S0] fun h9 c9 g9=>?_
  have g3:=n3.ge0 (blB (blB (Below.refl B w) hBw n1.below) hBw n2.below)
  have c6:=a6.only (Q1 (T:=[95]) c9 k3 Do) Do
  have hB:=c9.below (blB (u9.below (blB (blB (blB (blB (blB (Below.refl B w) hBw n1.below) hBw n2.below) hBw n3.below) hBw a2) hBw n8.below) (N0 hBw g8)) hBw b0) (N0 hBw g3)
  have hO:=(Ze.upd_new ((Ze.upd_new (((((show Ze [217] w _ from(Q0 n1.below)).trans (Q0 n2.below)).trans (Q0 n3.below)).trans (Q0 a2)).trans (Q0 n8.below)) u9 g8).trans (Q0 b0)) c9 g3)
  have hX:=(Fr.upd_new ((Fr.upd_new (((((show Fr [bx] w _ from(Q2 n1.below)).trans (Q2 n2.below)).trans (Q2 n3.below)).trans (Q2 a2)).trans (Q2 n8.below)) u9 g8).trans (Q2 b0)) c9 g3)
  exact xec 5 g9 (.tuple #[.agg #[V0 0,V0 0,V0 0,V0 0,S0],.iface e9 (h4)]) (Ce (dev_2 M0 M0) M0 hB hO hX c6)
 have k2:=u9.blkT (((n2.blk.below n3.below).below a2).below n8.below) n8.blk Do
 refine xb 5 1 k2 ?_
 refine xr 0 (Gr y.2.1 _ hy) fun h7 a0=>?_
 refine xin 14 (Qn y.2.1) (0:Int) (fun e4=>?_) (fun e4=>?_)
 ·have e8:=k2.below a0
  refine xb 4 2 e8 ?_
  refine xc 1 (Bf y.2.2 (Qn y.2.1) _ M0) ?_
  rintro _ i4 ⟨d9,g6,rfl,a8,a6⟩
  have k3:=((u9.blkT ((n3.blk.below a2).below n8.below) n8.blk Do).below a0).below a8
  refine xsv 0 k3 [V0 0,V0 0,V0 0,V0 0,S0] fun h5 d0 f8=>?_
  have g3:=n3.ge0 (blB (blB (Below.refl B w) hBw n1.below) hBw n2.below)
  have c5:=a6.only (Q1 (T:=[95]) d0 k3 Do) Do
  have hB:=d0.below (blB (blB (u9.below (blB (blB (blB (blB (blB (Below.refl B w) hBw n1.below) hBw n2.below) hBw n3.below) hBw a2) hBw n8.below) (N0 hBw g8)) hBw a0) hBw a8) (N0 hBw g3)
  have hO:=(Ze.upd_new (((Ze.upd_new (((((show Ze [217] w _ from(Q0 n1.below)).trans (Q0 n2.below)).trans (Q0 n3.below)).trans (Q0 a2)).trans (Q0 n8.below)) u9 g8).trans (Q0 a0)).trans (Q0 a8)) d0 g3)
  have hX:=(Fr.upd_new (((Fr.upd_new (((((show Fr [bx] w _ from(Q2 n1.below)).trans (Q2 n2.below)).trans (Q2 n3.below)).trans (Q2 a2)).trans (Q2 n8.below)) u9 g8).trans (Q2 a0)).trans (Q2 a8)) d0 g3)
  exact xec 5 f8 (.tuple #[.agg #[V0 0,V0 0,V0 0,V0 0,S0],.iface d9 (g6)]) (Ce (dev_3 M0 M0 M0) M0 hB hO hX c5)
 have f1:=((((((hI.below n1.below).below n2.below).below n3.below).below a2).below n8.below).only (Q1 (T:=[280]) u9 n8.blk Do) Do).below a0
 have b9:=(u9.blkT (((((hk.below n1.below).below n2.below).below n3.below).below a2).below n8.below) n8.blk Do).below a0
 refine xc 6 (Znw Bi bx b pi ni ci l data fuel (sum:Int) y _ f1 b9 hfu) ?_
 rintro e i6 f0
 rcases f0 with ⟨b6,g0,vo,rfl,a1,h1⟩|⟨b6,po,co,rfl,a1,f5⟩
 ·have e7:=(k2.below a0).below a1
  refine xb 19 2 e7 ?_
  refine xc 1 (args:=#[V0 y.2.2,.iface g0 (vo)]) (Qo y.2.2 (ownO l y data fuel).2.1 (ownO l y data fuel).1 _ _ h1) ?_
  rintro _ h6 ⟨d6,g7,rfl,a7,a6⟩
  have k3:=(((u9.blkT ((n3.blk.below a2).below n8.below) n8.blk Do).below a0).below a1).below a7
  refine xsv 0 k3 [V0 0,V0 0,V0 0,V0 0,S0] fun i0 d2 g5=>?_
  have g3:=n3.ge0 (blB (blB (Below.refl B w) hBw n1.below) hBw n2.below)
  have c1:=a6.only (Q1 (T:=[95]) d2 k3 Do) Do
  have hB:=d2.below (blB (blB (blB (u9.below (blB (blB (blB (blB (blB (Below.refl B w) hBw n1.below) hBw n2.below) hBw n3.below) hBw a2) hBw n8.below) (N0 hBw g8)) hBw a0) hBw a1) hBw a7) (N0 hBw g3)
  have hO:=(Ze.upd_new ((((Ze.upd_new (((((show Ze [217] w _ from(Q0 n1.below)).trans (Q0 n2.below)).trans (Q0 n3.below)).trans (Q0 a2)).trans (Q0 n8.below)) u9 g8).trans (Q0 a0)).trans (Q0 a1)).trans (Q0 a7)) d2 g3)
  have hX:=(Fr.upd_new ((((Fr.upd_new (((((show Fr [bx] w _ from(Q2 n1.below)).trans (Q2 n2.below)).trans (Q2 n3.below)).trans (Q2 a2)).trans (Q2 n8.below)) u9 g8).trans (Q2 a0)).trans (Q2 a1)).trans (Q2 a7)) d2 g3)
  exact xec 5 g5 (.tuple #[.agg #[V0 0,V0 0,V0 0,V0 0,S0],.iface d6 (g7)]) (Ce (dev_4 M0 M0 M0 b6) b6 hB hO hX c1)
 have e2:=(blB (u9.below (blB (blB (blB (blB (blB (Below.refl B w) hBw n1.below) hBw n2.below) hBw n3.below) hBw a2) hBw n8.below) (N0 hBw g8)) hBw a0).size
 have b7:=(k9.below a0).below a1
 refine xb 23 0 b7 ?_
 refine xin 3 (↑((ownO l y data fuel).2.2.length):Int) (↑(Kj x.2.1 0):Int) (fun d5=>?_) (fun d5=>?_)
 ·have d8:=((u9.blkT ((a4.below a2).below n8.below) n8.blk Do).below a0).below a1
  refine xb 4 2 d8 ?_
  refine xc 0 (Bf x.2.2 13 _ M0) ?_
  rintro _ i8 ⟨e0,h2,rfl,a9,a6⟩
  have k3:=(((u9.blkT ((n3.blk.below a2).below n8.below) n8.blk Do).below a0).below a1).below a9
  refine xsv 0 k3 [V0 0,V0 0,V0 0,V0 0,S0] fun i1 d1 f9=>?_
  have g3:=n3.ge0 (blB (blB (Below.refl B w) hBw n1.below) hBw n2.below)
  have c2:=a6.only (Q1 (T:=[95]) d1 k3 Do) Do
  have hB:=d1.below (blB (blB (blB (u9.below (blB (blB (blB (blB (blB (Below.refl B w) hBw n1.below) hBw n2.below) hBw n3.below) hBw a2) hBw n8.below) (N0 hBw g8)) hBw a0) hBw a1) hBw a9) (N0 hBw g3)
  have hO:=(Ze.upd_new ((((Ze.upd_new (((((show Ze [217] w _ from(Q0 n1.below)).trans (Q0 n2.below)).trans (Q0 n3.below)).trans (Q0 a2)).trans (Q0 n8.below)) u9 g8).trans (Q0 a0)).trans (Q0 a1)).trans (Q0 a9)) d1 g3)
  have hX:=(Fr.upd_new ((((Fr.upd_new (((((show Fr [bx] w _ from(Q2 n1.below)).trans (Q2 n2.below)).trans (Q2 n3.below)).trans (Q2 a2)).trans (Q2 n8.below)) u9 g8).trans (Q2 a0)).trans (Q2 a1)).trans (Q2 a9)) d1 g3)
  exact xec 5 f9 (.tuple #[.agg #[V0 0,V0 0,V0 0,V0 0,S0],.iface e0 (h2)]) (Ce (dev_5 M0 M0 M0 b6 M0) Do hB hO hX c2)
 have a3:=b9.below a1
 refine xb 8 3 a3 ?_
 refine xwm 2 ((sum:Int)+(↑((ownO l y data fuel).2.2.length):Int)) (↑(sum+((ownO l y data fuel).2.2.length)):Int) ?_
 refine xs 2 a3 [P0 b,V0 data,V0 fuel,V0 (↑(sum+((ownO l y data fuel).2.2.length)):Int)] fun h8 a5 f3=>?_
 refine xb 7 3 f3 ?_
 refine xid 3 ((↑(sum+((ownO l y data fuel).2.2.length)):Int)>(16384:Int)) (fun e6=>?_) (fun e6=>?_)
 ·have e3:=a5.blkT ((k2.below a0).below a1) a3 Do
  refine xb 4 2 e3 ?_
  refine xc 0 (Bf y.2.2 2 _ M0) ?_
  rintro _ i7 ⟨e5,h0,rfl,b4,a6⟩
  have k3:=(a5.blkT (((u9.blkT ((n3.blk.below a2).below n8.below) n8.blk Do).below a0).below a1) a3 Do).below b4
  refine xsv 0 k3 [V0 0,V0 0,V0 0,V0 0,S0] fun i3 d3 f6=>?_
  have g3:=n3.ge0 (blB (blB (Below.refl B w) hBw n1.below) hBw n2.below)
  have c0:=a6.only (Q1 (T:=[95]) d3 k3 Do) Do
  have hB:=d3.below (blB (a5.below (blB (blB (u9.below (blB (blB (blB (blB (blB (Below.refl B w) hBw n1.below) hBw n2.below) hBw n3.below) hBw a2) hBw n8.below) (N0 hBw g8)) hBw a0) hBw a1) hB0) hBw b4) (N0 hBw g3)
  have hO:=(Ze.upd_new (((((Ze.upd_new (((((show Ze [217] w _ from(Q0 n1.below)).trans (Q0 n2.below)).trans (Q0 n3.below)).trans (Q0 a2)).trans (Q0 n8.below)) u9 g8).trans (Q0 a0)).trans (Q0 a1)).trans (Q1 a5 a3 Do)).trans (Q0 b4)) d3 g3)
  have hX:=(Fr.upd_new (((((Fr.upd_new (((((show Fr [bx] w _ from(Q2 n1.below)).trans (Q2 n2.below)).trans (Q2 n3.below)).trans (Q2 a2)).trans (Q2 n8.below)) u9 g8).trans (Q2 a0)).trans (Q2 a1)).trans (Fr.of_upd a5 (by simp))).trans (Q2 b4)) d3 g3)
  exact xec 5 f6 (.tuple #[.agg #[V0 0,V0 0,V0 0,V0 0,S0],.iface e5 (h0)]) (Ce (dev_6 M0 M0 M0 b6 M0 M0) Do hB hO hX c0)
 have e1:=a5.blkT (((u9.blkT ((a4.below a2).below n8.below) n8.blk Do).below a0).below a1) a3 Do
 refine xb 5 0 e1 ?_
 have b5:=a5.blkT b7 a3 Do
 refine xb 1 1 b5 ?_
 refine xb 1 2 b5 ?_
 refine xb 1 3 b5 ?_
 have k3:=a5.blkT (((u9.blkT ((n3.blk.below a2).below n8.below) n8.blk Do).below a0).below a1) a3 Do
 refine xsv 2 k3 [V0 x.1,V0 (↑(Kj x.2.1 1):Int),V0 (↑(Kj x.2.1 2):Int),V0 (↑(Kj x.2.1 3):Int),.slice po ((ownO l y data fuel).2.2.length) co] fun i2 c8 g2=>?_
 have g3:=n3.ge0 (blB (blB (Below.refl B w) hBw n1.below) hBw n2.below)
 have c7:=c8.blkT f3 k3 Do
 have hB:=c8.below (a5.below (blB (blB (u9.below (blB (blB (blB (blB (blB (Below.refl B w) hBw n1.below) hBw n2.below) hBw n3.below) hBw a2) hBw n8.below) (N0 hBw g8)) hBw a0) hBw a1) hB0) (N0 hBw g3)
 have hO:=(Ze.upd_new ((((Ze.upd_new (((((show Ze [217] w _ from(Q0 n1.below)).trans (Q0 n2.below)).trans (Q0 n3.below)).trans (Q0 a2)).trans (Q0 n8.below)) u9 g8).trans (Q0 a0)).trans (Q0 a1)).trans (Q1 a5 a3 Do)) c8 g3)
 have hX:=(Fr.upd_new ((((Fr.upd_new (((((show Fr [bx] w _ from(Q2 n1.below)).trans (Q2 n2.below)).trans (Q2 n3.below)).trans (Q2 a2)).trans (Q2 n8.below)) u9 g8).trans (Q2 a0)).trans (Q2 a1)).trans (Fr.of_upd a5 (by simp))) c8 g3)
 have c3:=c8.own2 (a5.own2 (Zf f5 e2) a3 Do) k3 Do
 exact xec 4 g2 (.tuple #[.agg #[V0 x.1,V0 (↑(Kj x.2.1 1):Int),V0 (↑(Kj x.2.1 2):Int),V0 (↑(Kj x.2.1 3):Int),.slice po ((ownO l y data fuel).2.2.length) co],.nilIface]) (.inr ⟨by rw[dev_7 M0 M0 M0 b6 M0 M0],_,_,rfl,hB,hO,hX,c7,c3⟩)
abbrev Rnd:=Option Nat×Option Nat
def Xz(i j:Nat)(a b:List Ent):List Rnd :=
 match a,b with
 | [],[]=>[]
 | [],_::b=>(none,some j)::Xz i (j+1) [] b
 | _::a,[]=>(some i,none)::Xz (i+1) j a []
 | x::a,y::b =>
  if x.1=y.1 then(some i,some j)::Xz (i+1) (j+1) a b
  else if x.1<y.1 then(some i,none)::Xz (i+1) j a (y::b)
  else(none,some j)::Xz i (j+1) (x::a) b
termination_by a.length+b.length
theorem Zaa(i j:Nat):Xz i j [] []=[]:=by rw[Xz]
theorem Zat(i j:Nat)(y:Ent)(b:List Ent):Xz i j [] (y::b)=(none,some j)::Xz i (j+1) [] b:=by rw[Xz]
theorem Oi(i j:Nat)(x:Ent)(a:List Ent):Xz i j (x::a) []=(some i,none)::Xz (i+1) j a []:=by rw[Xz]
theorem Za5{i j:Nat}{x y:Ent}{a b:List Ent}(h:x.1=y.1):Xz i j (x::a) (y::b)=(some i,some j)::Xz (i+1) (j+1) a b:=by rw[Xz,if_pos h]
theorem Zaf{i j:Nat}{x y:Ent}{a b:List Ent}(h:x.1<y.1):Xz i j (x::a) (y::b)=(some i,none)::Xz (i+1) j a (y::b):=by rw[Xz,if_neg M0,if_pos h]
theorem Za0{i j:Nat}{x y:Ent}{a b:List Ent}(h:y.1<x.1):Xz i j (x::a) (y::b)=(none,some j)::Xz i (j+1) (x::a) b:=by rw[Xz,if_neg M0,if_neg M0]
def Zit(r:Rnd):Bool:=r.1.isSome&&r.2.isSome
theorem Za7:∀ (a b:List Ent) (i j:Nat),(Xz i j a b).all Zit=true→Wk a b=0∧Xz i j a b=(List.range a.length).map fun k=>(some (i+k),some (j+k))
 | [],[],i,j,_=>⟨rfl,by rw[Zaa];rfl⟩
 | [],y::b,i,j,h=>by rw[Zat] at h;simp[Zit] at h
 | x::a,[],i,j,h=>by rw[Oi] at h;simp[Zit] at h
 | x::a,y::b,i,j,h=>by
  by_cases e:x.1=y.1
  ·rw[Za5 e] at h ⊢
   rw[List.all_cons] at h
   obtain⟨h1,h2⟩:=Za7 a b (i+1) (j+1) (by simpa [Zit] using h)
   refine⟨?_,?_⟩
   ·show(if x.1=y.1 then Wk a b else _)=0
    rw[if_pos e,h1]
   ·rw[h2,C7,List.range_succ_eq_map,D7,M7]
    congr 1
    apply H9
    intro k _
    simp only[Function.comp,Nat.succ_eq_add_one]
    congr 2<;>omega
  ·by_cases q:x.1<y.1
   ·rw[Zaf q] at h;simp[Zit] at h
   ·rw[Za0 M0] at h;simp[Zit] at h
theorem Mj:∀ (a b:List Ent) (i j k:Nat) (r:Rnd),((Xz i j a b).take k).all Zit=true→(Xz i j a b)[k]? = some r→Zit r=false→Wk a b=(if r.1=none then 1 else 2)
 | [],[],i,j,k,r,_,h,_=>by rw[Zaa] at h;simp at h
 | [],y::b,i,j,k,r,hp,h,hr=>by
  rw[Zat] at hp h
  cases k with
  | zero=>simp at h;subst h;rfl
  | succ k=>simp[Zit] at hp
 | x::a,[],i,j,k,r,hp,h,hr=>by
  rw[Oi] at hp h
  cases k with
  | zero=>simp at h;subst h;rfl
  | succ k=>simp[Zit] at hp
 | x::a,y::b,i,j,k,r,hp,h,hr=>by
  by_cases e:x.1=y.1
  ·rw[Za5 e] at hp h
   cases k with
   | zero=>simp at h;subst h;simp[Zit] at hr
   | succ k =>
    have ih:=Mj a b (i+1) (j+1) k r (by simpa [Zit] using hp) (by simpa using h) hr
    show(if x.1=y.1 then Wk a b else _)=_
    rw[if_pos e,ih]
  ·by_cases q:x.1<y.1
   ·rw[Zaf q] at hp h
    cases k with
    | zero =>
     simp at h;subst h
     show(if x.1=y.1 then Wk a b else if x.1<y.1 then 2 else 1)=2
     rw[if_neg e,if_pos q]
    | succ k=>simp[Zit] at hp
   ·rw[Za0 M0] at hp h
    cases k with
    | zero =>
     simp at h;subst h
     show(if x.1=y.1 then Wk a b else if x.1<y.1 then 2 else 1)=1
     rw[if_neg e,if_neg q]
    | succ k=>simp[Zit] at hp
end Go.Proofs.YtceeiinepijokaaGreatDoor
namespace Go.Proofs.YtceeiinepijokaaGreatDoor
set_option maxHeartbeats 8000000
set_option maxRecDepth 100000
open Go.RowKit
set_option linter.unusedVariables false
attribute [local go_sem] Oper.semAt_some
def Zk1(g off n cap:Nat)(i:Nat)(v:Value):Prop:=(i=n∧∃ a c,v=.slice a 0 c)∨(i<n∧n≤cap∧v=.slice (some ⟨g,off+3*i,none⟩) (n-i) (cap-i))
def Aw(g off:Nat):Option Nat→Value
 | none=>.pointer none
 | some i=>.pointer (some ⟨g,off+3*i,none⟩)
def encR(ga oa gb ob:Nat)(r:Rnd):Array Value:=#[Aw ga oa r.1,Aw gb ob r.2]
def lenAt(W:World)(b:Nat):Nat:=match W.cell? ⟨b,0,none⟩ with
 | some (.slice _ n _)=>n
 | _=>0
theorem Qe{W:World}{b n c:Nat}{a:O0}{t:TypeId}(h:Blk W b [.slice a n c] t):lenAt W b=n:=by
 unfold lenAt
 rw[h.cell (i:=0) rfl]
theorem Bw{α:Type}{L:List α}{k:Nat}{x:α}{r:List α}(h:L.drop k=x::r):L[k]? = some x∧k<L.length∧L.drop (k+1)=r:=by
 have h1:k<L.length:=by
  rcases G2 k L.length with q|q
  ·exact q
  ·rw[E0 q] at h;cases h
 rw[E8 h1] at h
 simp only[I8] at h
 exact⟨by rw[A4 h1,h.1],h1,h.2⟩
theorem Ps{A:List Ent}{i n:Nat}(hA:A.length=n)(hi:i<n):A.drop i=A.getD i Zo::A.drop (i+1):=by
 subst hA
 rw[E8 hi,show A.getD i Zo=A[i] from by simp[List.getD,hi]]
theorem Ct{T:Nat→Prop}{W X V:World}{B k B1 B2:Nat}{u x:Value}{t:TypeId}{J:Nat→World→Prop}(hV:X.setCell ⟨B,0,none⟩ u=V)(m:Blk X B [x] t)(hT:¬ T B)(hB:B=B1∨B=B2)
 (hJ:∀ k X Y row,J k X→X.grownBy Y row→(∀ r,row=some r→r=B1∨r=B2)→J k Y) (hK:Keeps T W X) (h:J k X):Blk V B [u] t∧Keeps T W V∧J k V∧∀ b cs t',b≠B→Blk X b cs t'→Blk V b cs t':=by
 subst hV
 exact⟨m.set 0 u,hK.setCell hT u,hJ _ _ _ _ h (grownBy_setCell' X B u) (fun r e=>by cases e;exact hB),fun b cs t' hb h'=>h'.other (p:=⟨B,0,none⟩) hb u⟩
theorem Na{T:Nat→Prop}{W X:World}{N k B1 B2:Nat}{J:Nat→World→Prop}(hJ:∀ k X Y row,J k X→X.grownBy Y row→(∀ r,row=some r→r=B1∨r=B2)→J k Y)(hK:Keeps T W X)(h:J k X):Keeps T W (X.drewN N)∧J k (X.drewN N) :=
 ⟨hK.trans ⟨At _,fun _ _=>rfl⟩,hJ _ _ _ none h ⟨rfl,rfl,rfl,At _,fun _ _ _=>rfl⟩ (fun _ e=>by cases e)⟩
theorem Ud{g off n cap i m:Nat}(hi:i<n)(hm:n-i=m+1)(hc:n≤cap):(cap-i=1→Zk1 g off n cap (i+1) (.slice (some ⟨g,off+3*i,none⟩) m 0))∧(Zk1 g off n cap (i+1) (.slice (some ⟨g,off+3*i+3,none⟩) m (cap-i-1))):=by
 refine⟨fun h=>?_,?_⟩
 ·obtain rfl:m=0:=by omega
  exact .inl ⟨by omega,_,_,rfl⟩
 ·by_cases h:m=0
  ·subst h;exact .inl ⟨by omega,_,_,rfl⟩
  ·refine .inr ⟨by omega,hc,?_⟩
   rw[show off+3*(i+1)=off+3*i+3 by omega,show n-(i+1)=m by omega,show cap-(i+1)=cap-i-1 by omega]
theorem Jh{T:Nat→Prop}{V U:World}{b:Nat}{cs:List Value}{t:TypeId}(h:Keeps T V U)(hb:T b)(m:Blk V b cs t):Blk U b cs t:=(h.block b hb).trans m
theorem Zsj(l B1 B2:Nat)(ga oa na ca gb ob nb cb:Nat)(A E:List Ent)(hA:A.length=na)(hE:E.length=nb)(hna:na≤100000000)(hnb:nb≤100000000)(hB:B1≠B2)(T:Nat→Prop)(hT1:¬ T B1)(hT2:¬ T B2)
  (J Jx:Nat→World→Prop)
  (hJ:∀ k X Y row,J k X→X.grownBy Y row→(∀ r,row=some r→r=B1∨r=B2)→J k Y)
  (hY:∀ k x V,(Xz 0 0 A E)[k]? = some x→J k V→YieldAt Fence.wide 2 Tryz.prog l (encR ga oa gb ob x) V fun e U =>
   (e=.returned (.bool true)∧J (k+1) U∧Keeps (fun b=>b=B1∨b=B2∨T b) V U)∨(e=.returned (.bool false)∧Jx k U))
  (W:World) (va vb:Value) (k1:Blk W B1 [va] 123) (k2:Blk W B2 [vb] 123) (hva:Zk1 ga oa na ca 0 va) (hvb:Zk1 gb ob nb cb 0 vb)
  (hkA:∀ i,i<na→W.cell? ⟨ga,oa+3*i,none⟩=some (V0 (A.getD i Zo).1)∧T ga) (hkE:∀ i,i<nb→W.cell? ⟨gb,ob+3*i,none⟩=some (V0 (E.getD i Zo).1)∧T gb) (h0:J 0 W) :
  CallsIn Fence.wide 3 Tryz.prog 174 #[.func (.yield l) #[] #[],P0 B1,P0 B2] W fun e W'=>(∃ v,e=.returned v)∧(J (Xz 0 0 A E).length W'∨∃ k,k<(Xz 0 0 A E).length∧Jx k W'):=by
 refine callsIn_of_wp Tryz.func174 rfl trivial ?_ rfl
 simp only[Tryz.ntmps174,F6,C7,D6,Nat.reduceAdd,Nat.reduceSub,H5,H6,I7,Id,Gt,F5]
 gi_wp2
 gi_loopw [] (fun wr=>∃ (k i j:Nat) (va vb:Value),i≤na∧j≤nb∧k≤(Xz 0 0 A E).length∧(Xz 0 0 A E).drop k=Xz i j (A.drop i) (E.drop j)∧Blk wr B1 [va] 123∧Blk wr B2 [vb] 123∧Zk1 ga oa na ca i va∧Zk1 gb ob nb cb j vb∧J k wr∧Keeps T W wr)
  (fun wr=>lenAt wr B1+lenAt wr B2)
 case atStart=>exact⟨0,0,0,va,vb,A3 _,A3 _,A3 _,by simp,k1,k2,hva,hvb,h0,Keeps.refl _ _⟩
 case round =>
  obtain⟨k,i,j,va,vb,hi,hj,hk,d4,m1,m2,hva,hvb,b3,a8⟩:=hrel
  have b4:=hva
  have c3:=hvb
  rcases hva with ⟨rfl,a1,c1,rfl⟩|⟨a5,c9,rfl⟩
  ·rcases hvb with ⟨rfl,a2,c2,rfl⟩|⟨a3,d7,rfl⟩
   ·have d9:(Xz 0 0 A E).drop k=[]:=by rw[d4,show A.drop i=[] from E0 M0,show E.drop j=[] from E0 M0,Zaa]
    have e4:k=(Xz 0 0 A E).length:=by
     have:=List.drop_eq_nil_iff.1 d9;omega
    have z1:=m1.cell (i:=0) rfl
    have z2:=m2.cell (i:=0) rfl
    have f1:=m1.frozen 0
    have f2:=m2.frozen 0
    gi_wp2
    go_end0
    exact⟨⟨_,rfl⟩,.inl (e4▸b3)⟩
   ·have b5:(Xz 0 0 A E).drop k=(none,some j)::Xz i (j+1) (A.drop i) (E.drop (j+1)):=by rw[d4,show A.drop i=[] from E0 M0,Ps hE a3,Zat]
    obtain⟨hx,b0,a7⟩:=Bw b5
    obtain⟨p,hp⟩:∃ m,nb-j=m+1:=⟨nb-j-1,by omega⟩
    rw[hp] at m2
    have c6:=Ud (g:=gb) (off:=ob) a3 hp d7
    have d5:=Lib.hid hp;clear hp
    have y2:wr.cell? ⟨gb,ob+3*j,none⟩=some (V0 (E.getD j Zo).1):=(a8.cell (hkE j a3).2).trans (hkE j a3).1
    have c0:=Qe m1
    have d0:=Qe m2
    have z1:=m1.cell (i:=0) rfl
    have z2:=m2.cell (i:=0) rfl
    have f1:=m1.frozen 0
    have f2:=m2.frozen 0
    gi_wp2
    gi_big_quiet_th (fail)
    gi_wp2
    gi_big_quiet_th (fail)
    gi_wp2
    all_goals
     generalize hV:World.setCell _ _ _=V
     obtain⟨q2,b8,c7,c8⟩:=Ct (x:=_) (B1:=B1) (B2:=B2) hV m2 hT2 (.inr rfl) hJ (Na hJ a8 b3).1 (Na hJ a8 b3).2
     have q1:=c8 _ _ _ hB m1
     obtain⟨fn,c4,a6,c5,hy,hR⟩:=hY k (none,some j) V hx c7
     have a9:=hy;clear hy
     simp only[encR,Aw] at a9
     rw[a9]
     refine⟨fun _=>by omega,hR.mono ?_⟩
     rintro e U (⟨rfl,b6,a0⟩|⟨rfl,a4⟩)
     ·have r1:=Jh a0 (.inl rfl) q1
      have r2:=Jh a0 (.inr (.inl rfl)) q2
      have b9:=Qe r1
      have d3:=Qe r2
      gi_wp2
      go_roundw
      case rel =>
       exact⟨k+1,_,j+1,_,_,hi,a3,b0,a7,r1,r2,(by first|exact b4|(rw[←d6.out];exact b4)),(by first|exact c6.2|exact c6.1 M0),b6,b8.trans ⟨a0.size,fun b hb=>a0.block b (.inr (.inr hb))⟩⟩
      case measure=>rw[b9,d3,c0,d0];omega
     ·gi_wp2
      refine bodyPost_ret (results_none rfl _ _ _) rfl ?_
      exact⟨⟨_,rfl⟩,.inr ⟨k,b0,a4⟩⟩
  ·rcases hvb with ⟨rfl,a2,c2,rfl⟩|⟨a3,d7,rfl⟩
   ·have b5:(Xz 0 0 A E).drop k=(some i,none)::Xz (i+1) j (A.drop (i+1)) (E.drop j):=by rw[d4,show E.drop j=[] from E0 M0,Ps hA a5,Oi]
    obtain⟨hx,b0,a7⟩:=Bw b5
    obtain⟨m,hm⟩:∃ m,na-i=m+1:=⟨na-i-1,by omega⟩
    rw[hm] at m1
    have b7:=Ud (g:=ga) (off:=oa) a5 hm c9
    have d6:=Lib.hid hm;clear hm
    have y1:wr.cell? ⟨ga,oa+3*i,none⟩=some (V0 (A.getD i Zo).1):=(a8.cell (hkA i a5).2).trans (hkA i a5).1
    have c0:=Qe m1
    have d0:=Qe m2
    have z1:=m1.cell (i:=0) rfl
    have z2:=m2.cell (i:=0) rfl
    have f1:=m1.frozen 0
    have f2:=m2.frozen 0
    gi_wp2
    gi_big_quiet_th (fail)
    gi_wp2
    gi_big_quiet_th (fail)
    gi_wp2
    all_goals
     generalize hV:World.setCell _ _ _=V
     obtain⟨q1,b8,c7,c8⟩:=Ct (x:=_) (B1:=B1) (B2:=B2) hV m1 hT1 (.inl rfl) hJ (Na hJ a8 b3).1 (Na hJ a8 b3).2
     have q2:=c8 _ _ _ (S3 hB) m2
     obtain⟨fn,c4,a6,c5,hy,hR⟩:=hY k (some i,none) V hx c7
     have a9:=hy;clear hy
     simp only[encR,Aw] at a9
     rw[a9]
     refine⟨fun _=>by omega,hR.mono ?_⟩
     rintro e U (⟨rfl,b6,a0⟩|⟨rfl,a4⟩)
     ·have r1:=Jh a0 (.inl rfl) q1
      have r2:=Jh a0 (.inr (.inl rfl)) q2
      have b9:=Qe r1
      have d3:=Qe r2
      gi_wp2
      go_roundw
      case rel =>
       exact⟨k+1,i+1,_,_,_,a5,hj,b0,a7,r1,r2,(by first|exact b7.2|exact b7.1 M0),(by first|exact c3|(rw[←d5.out];exact c3)),b6,b8.trans ⟨a0.size,fun b hb=>a0.block b (.inr (.inr hb))⟩⟩
      case measure=>rw[b9,d3,c0,d0];omega
     ·gi_wp2
      refine bodyPost_ret (results_none rfl _ _ _) rfl ?_
      exact⟨⟨_,rfl⟩,.inr ⟨k,b0,a4⟩⟩
   ·by_cases hc:(A.getD i Zo).1=(E.getD j Zo).1
    ·have b5:(Xz 0 0 A E).drop k=(some i,some j)::Xz (i+1) (j+1) (A.drop (i+1)) (E.drop (j+1)):=by rw[d4,Ps hA a5,Ps hE a3,Za5 hc]
     obtain⟨hx,b0,a7⟩:=Bw b5
     obtain⟨m,hm⟩:∃ m,na-i=m+1:=⟨na-i-1,by omega⟩
     rw[hm] at m1
     have b7:=Ud (g:=ga) (off:=oa) a5 hm c9
     have d6:=Lib.hid hm;clear hm
     have y1:wr.cell? ⟨ga,oa+3*i,none⟩=some (V0 (A.getD i Zo).1):=(a8.cell (hkA i a5).2).trans (hkA i a5).1
     obtain⟨p,hp⟩:∃ m,nb-j=m+1:=⟨nb-j-1,by omega⟩
     rw[hp] at m2
     have c6:=Ud (g:=gb) (off:=ob) a3 hp d7
     have d5:=Lib.hid hp;clear hp
     have y2:wr.cell? ⟨gb,ob+3*j,none⟩=some (V0 (E.getD j Zo).1):=(a8.cell (hkE j a3).2).trans (hkE j a3).1
     have c0:=Qe m1
     have d0:=Qe m2
     obtain⟨ya,b1⟩:∃ y,(A.getD i Zo).1=y:=⟨_,rfl⟩
     obtain⟨yb,b2⟩:∃ y,(E.getD j Zo).1=y:=⟨_,rfl⟩
     rw[b1] at y1
     rw[b2] at y2
     have d1:decide (ya≤yb)=true:=by simp;omega
     have d2:decide (yb≤ya)=true:=by simp;omega
     have w1:(ya≤yb)=True:=by simp;omega
     have w2:(yb≤ya)=True:=by simp;omega
     have e1:((p:Int)+1==0)=false:=beq_false_of_ne M0
     have e2:((m:Int)+1==0)=false:=beq_false_of_ne M0
     have b1:=Lib.hid b1
     have b2:=Lib.hid b2
     clear d1 d2
     have z1:=m1.cell (i:=0) rfl
     have z2:=m2.cell (i:=0) rfl
     have f1:=m1.frozen 0
     have f2:=m2.frozen 0
     gi_wp2
     gi_big_quiet_th (fail)
     gi_wp2
     gi_big_quiet_th (fail)
     gi_wp2
     all_goals
      generalize hV:World.setCell (World.setCell _ _ _) _ _=V
      generalize hX:World.setCell (World.drewN _ _) _ _=X at hV
      obtain⟨q1,e0,e3,d8⟩:=Ct (x:=_) (B1:=B1) (B2:=B2) hX m1 hT1 (.inl rfl) hJ (Na hJ a8 b3).1 (Na hJ a8 b3).2
      obtain⟨q2,b8,c7,c8⟩:=Ct (x:=_) (B1:=B1) (B2:=B2) hV (d8 _ _ _ (S3 hB) m2) hT2 (.inr rfl) hJ e0 e3
      replace q1:=c8 _ _ _ hB q1
      obtain⟨fn,c4,a6,c5,hy,hR⟩:=hY k (some i,some j) V hx c7
      have a9:=hy;clear hy
      simp only[encR,Aw] at a9
      rw[a9]
      refine⟨fun _=>by omega,hR.mono ?_⟩
      rintro e U (⟨rfl,b6,a0⟩|⟨rfl,a4⟩)
      ·have r1:=Jh a0 (.inl rfl) q1
       have r2:=Jh a0 (.inr (.inl rfl)) q2
       have b9:=Qe r1
       have d3:=Qe r2
       gi_wp2
       go_roundw
       case rel =>
        exact⟨k+1,i+1,j+1,_,_,a5,a3,b0,a7,r1,r2,(by first|exact b7.2|exact b7.1 M0),(by first|exact c6.2|exact c6.1 M0),b6,b8.trans ⟨a0.size,fun b hb=>a0.block b (.inr (.inr hb))⟩⟩
       case measure=>rw[b9,d3,c0,d0];omega
      ·gi_wp2
       refine bodyPost_ret (results_none rfl _ _ _) rfl ?_
       exact⟨⟨_,rfl⟩,.inr ⟨k,b0,a4⟩⟩
    ·by_cases hl:(A.getD i Zo).1<(E.getD j Zo).1
     ·have b5:(Xz 0 0 A E).drop k=(some i,none)::Xz (i+1) j (A.drop (i+1)) (E.drop j):=by rw[d4,Ps hA a5,Ps hE a3,Zaf hl]
      obtain⟨hx,b0,a7⟩:=Bw b5
      obtain⟨m,hm⟩:∃ m,na-i=m+1:=⟨na-i-1,by omega⟩
      rw[hm] at m1
      have b7:=Ud (g:=ga) (off:=oa) a5 hm c9
      have d6:=Lib.hid hm;clear hm
      have y1:wr.cell? ⟨ga,oa+3*i,none⟩=some (V0 (A.getD i Zo).1):=(a8.cell (hkA i a5).2).trans (hkA i a5).1
      obtain⟨p,hp⟩:∃ m,nb-j=m+1:=⟨nb-j-1,by omega⟩
      rw[hp] at m2
      have c6:=Ud (g:=gb) (off:=ob) a3 hp d7
      have d5:=Lib.hid hp;clear hp
      have y2:wr.cell? ⟨gb,ob+3*j,none⟩=some (V0 (E.getD j Zo).1):=(a8.cell (hkE j a3).2).trans (hkE j a3).1
      have c0:=Qe m1
      have d0:=Qe m2
      obtain⟨ya,b1⟩:∃ y,(A.getD i Zo).1=y:=⟨_,rfl⟩
      obtain⟨yb,b2⟩:∃ y,(E.getD j Zo).1=y:=⟨_,rfl⟩
      rw[b1] at y1
      rw[b2] at y2
      have d1:decide (ya≤yb)=true:=by simp;omega
      have d2:decide (yb≤ya)=false:=by simp;omega
      have w1:(ya≤yb)=True:=by simp;omega
      have w2:(yb≤ya)=False:=by simp;omega
      have e1:((p:Int)+1==0)=false:=beq_false_of_ne M0
      have e2:((m:Int)+1==0)=false:=beq_false_of_ne M0
      have b1:=Lib.hid b1
      have b2:=Lib.hid b2
      clear d1 d2
      have z1:=m1.cell (i:=0) rfl
      have z2:=m2.cell (i:=0) rfl
      have f1:=m1.frozen 0
      have f2:=m2.frozen 0
      gi_wp2
      gi_big_quiet_th (fail)
      gi_wp2
      gi_big_quiet_th (fail)
      gi_wp2
      all_goals
       generalize hV:World.setCell _ _ _=V
       obtain⟨q1,b8,c7,c8⟩:=Ct (x:=_) (B1:=B1) (B2:=B2) hV m1 hT1 (.inl rfl) hJ (Na hJ a8 b3).1 (Na hJ a8 b3).2
       have q2:=c8 _ _ _ (S3 hB) m2
       obtain⟨fn,c4,a6,c5,hy,hR⟩:=hY k (some i,none) V hx c7
       have a9:=hy;clear hy
       simp only[encR,Aw] at a9
       rw[a9]
       refine⟨fun _=>by omega,hR.mono ?_⟩
       rintro e U (⟨rfl,b6,a0⟩|⟨rfl,a4⟩)
       ·have r1:=Jh a0 (.inl rfl) q1
        have r2:=Jh a0 (.inr (.inl rfl)) q2
        have b9:=Qe r1
        have d3:=Qe r2
        gi_wp2
        go_roundw
        case rel =>
         exact⟨k+1,i+1,_,_,_,a5,hj,b0,a7,r1,r2,(by first|exact b7.2|exact b7.1 M0),(by first|exact c3|(rw[←d5.out];exact c3)),b6,b8.trans ⟨a0.size,fun b hb=>a0.block b (.inr (.inr hb))⟩⟩
        case measure=>rw[b9,d3,c0,d0];omega
       ·gi_wp2
        refine bodyPost_ret (results_none rfl _ _ _) rfl ?_
        exact⟨⟨_,rfl⟩,.inr ⟨k,b0,a4⟩⟩
     ·have b5:(Xz 0 0 A E).drop k=(none,some j)::Xz i (j+1) (A.drop i) (E.drop (j+1)):=by rw[d4,Ps hA a5,Ps hE a3,Za0 (show(E.getD j Zo).1<(A.getD i Zo).1 by omega)]
      obtain⟨hx,b0,a7⟩:=Bw b5
      obtain⟨m,hm⟩:∃ m,na-i=m+1:=⟨na-i-1,by omega⟩
      rw[hm] at m1
      have b7:=Ud (g:=ga) (off:=oa) a5 hm c9
      have d6:=Lib.hid hm;clear hm
      have y1:wr.cell? ⟨ga,oa+3*i,none⟩=some (V0 (A.getD i Zo).1):=(a8.cell (hkA i a5).2).trans (hkA i a5).1
      obtain⟨p,hp⟩:∃ m,nb-j=m+1:=⟨nb-j-1,by omega⟩
      rw[hp] at m2
      have c6:=Ud (g:=gb) (off:=ob) a3 hp d7
      have d5:=Lib.hid hp;clear hp
      have y2:wr.cell? ⟨gb,ob+3*j,none⟩=some (V0 (E.getD j Zo).1):=(a8.cell (hkE j a3).2).trans (hkE j a3).1
      have c0:=Qe m1
      have d0:=Qe m2
      obtain⟨ya,b1⟩:∃ y,(A.getD i Zo).1=y:=⟨_,rfl⟩
      obtain⟨yb,b2⟩:∃ y,(E.getD j Zo).1=y:=⟨_,rfl⟩
      rw[b1] at y1
      rw[b2] at y2
      have d1:decide (ya≤yb)=false:=by simp;omega
      have d2:decide (yb≤ya)=true:=by simp;omega
      have w1:(ya≤yb)=False:=by simp;omega
      have w2:(yb≤ya)=True:=by simp;omega
      have e1:((p:Int)+1==0)=false:=beq_false_of_ne M0
      have e2:((m:Int)+1==0)=false:=beq_false_of_ne M0
      have b1:=Lib.hid b1
      have b2:=Lib.hid b2
      clear d1 d2
      have z1:=m1.cell (i:=0) rfl
      have z2:=m2.cell (i:=0) rfl
      have f1:=m1.frozen 0
      have f2:=m2.frozen 0
      gi_wp2
      gi_big_quiet_th (fail)
      gi_wp2
      gi_big_quiet_th (fail)
      gi_wp2
      all_goals
       generalize hV:World.setCell _ _ _=V
       obtain⟨q2,b8,c7,c8⟩:=Ct (x:=_) (B1:=B1) (B2:=B2) hV m2 hT2 (.inr rfl) hJ (Na hJ a8 b3).1 (Na hJ a8 b3).2
       have q1:=c8 _ _ _ hB m1
       obtain⟨fn,c4,a6,c5,hy,hR⟩:=hY k (none,some j) V hx c7
       have a9:=hy;clear hy
       simp only[encR,Aw] at a9
       rw[a9]
       refine⟨fun _=>by omega,hR.mono ?_⟩
       rintro e U (⟨rfl,b6,a0⟩|⟨rfl,a4⟩)
       ·have r1:=Jh a0 (.inl rfl) q1
        have r2:=Jh a0 (.inr (.inl rfl)) q2
        have b9:=Qe r1
        have d3:=Qe r2
        gi_wp2
        go_roundw
        case rel =>
         exact⟨k+1,_,j+1,_,_,hi,a3,b0,a7,r1,r2,(by first|exact b4|(rw[←d6.out];exact b4)),(by first|exact c6.2|exact c6.1 M0),b6,b8.trans ⟨a0.size,fun b hb=>a0.block b (.inr (.inr hb))⟩⟩
        case measure=>rw[b9,d3,c0,d0];omega
       ·gi_wp2
        refine bodyPost_ret (results_none rfl _ _ _) rfl ?_
        exact⟨⟨_,rfl⟩,.inr ⟨k,b0,a4⟩⟩
theorem Znt(a:O0)(n c:Nat)(b:O0)(m d:Nat)(w:World):C0 106 #[.slice a n c,.slice b m d] w fun e w' =>
 e=.returned (.func (.func 174) #[] #[.pointer (some ⟨w.heap.size,0,none⟩),.pointer (some ⟨w.heap.size+1,0,none⟩)]) ∧
 w'=(w.alloc (.cells #[.slice a n c] 123)).alloc (.cells #[.slice b m d] 123):=by
 go_enter Tryz.func106,Tryz.ntmps106
 go_wp2
 go_ret
 exact⟨rfl,rfl⟩
theorem Zu7{w W:World}{p:O0}{n c:Nat}{A:List Ent}(hA:A.length=n)(s:Sts Kd w (.slice p n c) A)(hb:B3 w W) :
 ∃ g o,Zk1 g o n c 0 (.slice p n c)∧(∀ i,i<n→W.cell? ⟨g,o+3*i,none⟩=some (V0 (A.getD i Zo).1)∧g<w.heap.size)∧(n≠0→p=some ⟨g,o,none⟩):=by
 subst hA
 by_cases h0:A.length=0
 ·exact⟨0,0,.inl ⟨h0.symm,p,c,by rw[h0]⟩,fun i hi=>by omega,fun h=>absurd h0 h⟩
 ·have s':Sl w (.slice p A.length c) A.length (A.flatMap Kd):=s
  rcases s' with ⟨a,d,h1,h2,_⟩|⟨g,o,a0,h1,h2,_,h4⟩
  ·simp only[C2] at h1;omega
  ·simp only[C2] at h1
   obtain⟨rfl,_,rfl⟩:=h1
   refine⟨g,o,.inr ⟨by omega,h2,by simp⟩,fun i hi=>?_,fun _=>rfl⟩
   have hc:=El Ql A i 0 Zo hi Do
   have h5:=h4 (i*3+0) (V0 (A.getD i Zo).1) (hc.trans rfl)
   rw[show o+(i*3+0)=o+3*i by omega] at h5
   refine⟨Fh hb h5,?_⟩
   rcases G2 g w.heap.size with q|q
   ·exact q
   ·rw[World.cell?,Array.getElem?_eq_none q] at h5;simp at h5
theorem Iv(a:O0)(n c:Nat)(b:O0)(m d:Nat)(w:World):C0 106 #[.slice a n c,.slice b m d] w (fun e w'=>∃ b1 b2,e=.returned (.func (.func 174) #[] #[P0 b1,P0 b2])∧B3 w w'∧w.heap.size≤b1∧w.heap.size≤b2∧b1≠b2∧Blk w' b1 [.slice a n c] 123∧Blk w' b2 [.slice b m d] 123) :=
 (Znt a n c b m d w).mono fun e w' ⟨h1,h2⟩=>by
  subst h1 h2
  have h3:(w.alloc (.cells #[.slice a n c] 123)).heap.size=w.heap.size+1:=World.size_alloc _ _
  have k2:=Blk.new (w.alloc (.cells #[.slice a n c] 123)) [.slice b m d] 123
  rw[h3] at k2
  exact⟨_,_,rfl,((Below.refl _ w).alloc (At _) _).alloc (by simp) _,At _,Nat.le_succ _,by omega,(Blk.new w [.slice a n c] 123).alloc _,k2⟩
theorem Zhf{w W:World}{B1 B2 na ca nb cb:Nat}{pa pb:O0}{A E:List Ent}(hA:A.length=na)(hE:E.length=nb)(hna:na≤100000000)(hnb:nb≤100000000)(sA:Sts Kd w (.slice pa na ca) A)(sE:Sts Kd w (.slice pb nb cb) E)
 (hb:B3 w W) (g1:w.heap.size≤B1) (g2:w.heap.size≤B2) (hB:B1≠B2) (k1:Blk W B1 [.slice pa na ca] 123) (k2:Blk W B2 [.slice pb nb cb] 123) :
 ∃ ga oa gb ob,SeqL Tryz.prog 174 #[P0 B1,P0 B2] (encR ga oa gb ob) (Keeps fun b=>b=B1∨b=B2∨(na≠0∧b=ga)∨(nb≠0∧b=gb)) (fun r=>r=B1∨r=B2) (Xz 0 0 A E) W∧(na≠0→pa=some ⟨ga,oa,none⟩)∧(nb≠0→pb=some ⟨gb,ob,none⟩):=by
 obtain⟨ga,oa,ra,ka,ea⟩:=Zu7 hA sA hb
 obtain⟨gb,ob,rb,kb,eb⟩:=Zu7 hE sE hb
 refine⟨ga,oa,gb,ob,?_,ea,eb⟩
 intro l J Jx V hV hJ hY h0
 have ha:na≠0→ga<w.heap.size:=fun h=>(ka 0 M0).2
 have he:nb≠0→gb<w.heap.size:=fun h=>(kb 0 M0).2
 have hT:¬ ((na≠0∧B1=ga)∨(nb≠0∧B1=gb)):=by
  rintro(⟨h,e⟩|⟨h,e⟩)
  ·have:=ha h;omega
  ·have:=he h;omega
 have a1:¬ ((na≠0∧B2=ga)∨(nb≠0∧B2=gb)):=by
  rintro(⟨h,e⟩|⟨h,e⟩)
  ·have:=ha h;omega
  ·have:=he h;omega
 have a2:Blk V B1 _ _:=k1.below hV
 have a0:Blk V B2 _ _:=k2.below hV
 exact Zsj l B1 B2 ga oa na ca gb ob nb cb A E hA hE hna hnb hB (fun b=>(na≠0∧b=ga)∨(nb≠0∧b=gb)) hT a1 J Jx hJ hY V _ _ a2 a0 ra rb
  (fun i hi=>⟨Fh hV (ka i hi).1,.inl ⟨by omega,rfl⟩⟩) (fun i hi=>⟨Fh hV (kb i hi).1,.inr ⟨by omega,rfl⟩⟩) h0
end Go.Proofs.YtceeiinepijokaaGreatDoor
namespace Go.Proofs.YtceeiinepijokaaGreatDoor
set_option maxHeartbeats 8000000
set_option maxRecDepth 100000
open Go.RowKit Go.Extern.Stop Go.Stop Go.Extern
set_option linter.unusedVariables false
attribute [local irreducible] wpList wpAnyH Code.wp Oper.wp Go
def LDevsP(O:List Int×Int×List Dv)(w:World)(e:Ending)(w':World):Prop :=
 (O.2.1≠0∧∃ ty v,e=.returned (.tuple #[S0,.iface ty v])∧B3 w w'∧Kr w' (O.1.map some) (some O.2.1) (.iface ty v)) ∨
 (O.2.1=0∧∃ p c Z,e=.returned (.tuple #[.slice p O.2.2.length c,.nilIface])∧B3 w w'∧Z.map Prod.fst=O.2.2∧Yt w.heap.size w' Z∧w'.ownsRow w.heap.size 95 5 (.slice p O.2.2.length c) O.2.2.length (Z.flatMap Zh5))
theorem ldevs_ok{O:List Int×Int×List Dv}{L:List Dv}{Z:List Zv}{n c:Nat}{w W:World}{p:O0}(h:O=([],0,L))(hn:Z.length=n)(hZ:Z.map Prod.fst=L)(hb:B3 w W)(hM:Yt w.heap.size W Z)(ho:W.ownsRow w.heap.size 95 5 (.slice p n c) n (Z.flatMap Zh5)):LDevsP O w (.returned (.tuple #[.slice p n c,.nilIface])) W:=by
 subst h
 have hl:L.length=n:=by rw[←hZ,A6,hn]
 subst hl
 exact .inr ⟨rfl,p,c,Z,rfl,hb,hZ,hM,ho⟩
theorem Yt.mono{B B':Nat}{w:World}{Z:List Zv}(h:Yt B' w Z)(hB:B≤B'):Yt B w Z:=fun i hi=>Zf (h i hi) hB
theorem Yt.ab{q:Nat→Prop}{A C:World}{row:Option Nat}{B m:Nat}{Z:List Zv}(h:Yt B A Z)(hg:A.grownBy C row)(hr:Zwi q m A row)(hq:∀ r,q r→r<B):Yt B C Z:=fun i hi=>Zts (h i hi) hg hr hq
theorem Yt.pt{D B:Nat}{w:World}{Z:List Zv}(h:Yt B w Z)(hK:Dfr D w)(o:Obj):Yt B (w.putObj D o) Z:=fun i hi=>Zsd (h i hi) hK o
theorem resLD{B1 B2:Nat}{a:O0}{n c:Nat}{y:Value}{t t':TypeId}(hy:y=.nilIface∨∃ ty v,y=.iface ty v){tmps:Array Value}(e:tmps.getD 10 undef=P0 B1)(e2:tmps.getD 11 undef=P0 B2) :
 ∀ U,Blk U B1 [.slice a n c] t→Blk U B2 [y] t'→(results Tryz.f57 tmps).run Tryz.prog U=.ok (.tuple #[.slice a n c,y]) U:=by
 intro U h h2
 have c0:=h.cell (i:=0) rfl
 have c1:=h2.cell (i:=0) rfl
 have e':tmps[10]?.getD undef=P0 B1:=by simpa using e
 have a0:tmps[11]?.getD undef=P0 B2:=by simpa using e2
 rcases hy with rfl|⟨ty,v,rfl⟩<;>simp[results,Tryz.results57,go_sem,c0,c1,e',a0]
theorem Zc7{A E:List Ent}(h:(Xz 0 0 A E).all Zit=true):(Xz 0 0 A E).length=A.length∧∀ k x,(Xz 0 0 A E)[k]? = some x→k<A.length∧x=(some k,some k):=by
 obtain⟨_,h2⟩:=Za7 A E 0 0 h
 rw[h2]
 refine⟨by simp,fun k x hx=>?_⟩
 rw[C4] at hx
 by_cases hk:k<A.length
 ·rw[B8 hk] at hx
  simp only[D5,A0,F3] at hx
  exact⟨hk,hx.symm⟩
 ·rw[C6 (by simp;omega)] at hx;cases hx
theorem Ze3{α:Type}{L:List α}{p:α→Bool}{k:Nat}{x:α}(h:(L.take k).all p=true)(hx:L[k]? = some x)(hp:p x=true):(L.take (k+1)).all p=true:=by
 obtain⟨hk,rfl⟩:=List.getElem?_eq_some_iff.1 hx
 rw[A7 hk,List.all_append,h];simpa using hp
theorem Zuf{l:Bl}{x y:Ent}{data fuel:Int}{sum:Nat}(h:(Ib l x y data fuel sum).2=0):sum+(ownO l y data fuel).2.2.length≤16384:=by
 unfold Ib at h
 repeat' split at h
 all_goals first|omega|(simp at h;done)|(exact absurd h (by assumption))
theorem Zlr{ga oa i:Nat}{p:O0}(h:p=some ⟨ga,oa,none⟩):Aw ga oa (some i)=.pointer (some (Zx p (i*3))):=by
 subst h
 show Value.pointer (some ⟨ga,oa+3*i,none⟩)=_
 simp[Zx,Addr.add_mid,N1]
theorem Zn8{l:Bl}{top details data fuel:Int}{L:List Dv}(h:Zcg l top details data fuel=([],0,L)):(Zd l details 3 fuel).fs=[]∧(Zd l top 1 fuel).fs=[]∧(Zd l details 3 fuel).es.length≤4096∧Wk (Zd l details 3 fuel).es (Zd l top 1 fuel).es≠1∧Wk (Zd l details 3 fuel).es (Zd l top 1 fuel).es≠2:=by
 unfold Zcg at h
 split at h
 ·rename_i q;exact absurd (congrArg (fun z=>z.2.1) h) (Fk q)
 split at h
 ·rename_i q;exact absurd (congrArg (fun z=>z.2.1) h) (Fk q)
 split at h
 ·exact absurd (congrArg (fun z=>z.2.1) h) (show ¬ (2:Int)=0 by decide)
 split at h
 ·exact absurd (congrArg (fun z=>z.2.1) h) (show ¬ (18:Int)=0 by decide)
 split at h
 ·exact absurd (congrArg (fun z=>z.2.1) h) (show ¬ (18:Int)=0 by decide)
 rename_i h1 h2 h3 h4 h5
 exact⟨Classical.not_not.1 h1,Classical.not_not.1 h2,by omega,h4,h5⟩
theorem Zd4(Bi b:Nat)(pi:O0)(ni ci:Nat)(l:Bl)(top details data fuel:Int)(w:World)(hI:ImgR Bi b pi ni ci l w)(hfu:fuel≤1000000)(Lg:List Dv)(hgood:Zcg l top details data fuel=([],0,Lg)) :
 C0 57 #[P0 b,V0 top,V0 details,V0 data,V0 fuel] w (LDevsP (Zcg l top details data fuel) w):=by
 obtain⟨bq,dt,ft,ac,db⟩:=Zn8 hgood
 have fq:=(Nt l details 3 fuel hfu).1
 have fa:=(Nt l top 1 fuel hfu).1
 refine Jf Tryz.func57 rfl ?_
 refine Zls ⟨#[P0 b,V0 top,V0 details,V0 data,V0 fuel,undef,undef,undef,undef,undef,undef,undef,undef,undef,undef,undef,undef,undef,undef,undef,undef,undef,undef,undef,undef,undef,undef,undef,undef,undef,undef,undef,undef,undef,undef,undef,undef,undef,undef,undef,undef,undef,undef,undef,undef,undef,undef,undef,undef,undef,undef,undef,undef,undef,undef,undef,undef,undef,undef,undef,undef,undef,undef,undef,undef,undef,undef,undef,undef,undef,undef,undef,undef,undef,undef,undef,undef,undef,undef,undef,undef,undef,undef,undef,undef,undef,undef,undef,undef,undef,undef,undef,undef,undef,undef,undef,undef],[]⟩ K0 ?_
 refine wp_seq ?_
 refine wp_region_lit ?_
 refine Yx K0 (Rf [V0 top] rfl K0 ?_)
 intro b1 W1 n1
 have g1:=n1.ge (B4 w)
 have hB:=n1.below
 have k1:=n1.blk
 refine Yx K0 (Rf [V0 details] rfl K0 ?_)
 intro b2 W2 n2
 have fb:=n2.ne k1
 have g2:=n2.ge hB
 replace hB:=bln hB n2.below
 replace k1:=k1.below n2.below
 have k2:=n2.blk
 refine Yx K0 (Qt [S0] rfl K0 ?_)
 intro b3 W3 n3
 have z3:=n3.ne k1
 have z0:=n3.ne k2
 have g3:=n3.ge hB
 replace hB:=bln hB n3.below
 replace k1:=k1.below n3.below
 replace k2:=k2.below n3.below
 have k3:=n3.blk
 refine Yx K0 (Qt [.nilIface] rfl K0 ?_)
 intro b4 W4 n4
 have ad:=n4.ne k1
 have ah:=n4.ne k2
 have r0:=n4.ne k3
 have g4:=n4.ge hB
 replace hB:=bln hB n4.below
 replace k1:=k1.below n4.below
 replace k2:=k2.below n4.below
 replace k3:=k3.below n4.below
 have k4:=n4.blk
 refine wpList_nil ?_
 refine wp_seq ?_
 refine wp_region_lit ?_
 refine Vn 1 [(24,P0 b)] K0 ?_
 refine Yx K0 (Ys ⟨b2,0,none⟩ (V0 details) rfl K0 K0 (k2.cell (i:=0) rfl) ?_)
 refine Vn 1 [(26,V0 fuel)] K0 ?_
 have fv:w.heap.size≤(W4).heap.size:=hB.size
 refine Yx K0 (Yu (lb:=#[]) 60 #[P0 b,V0 details,V0 3,V0 fuel] rfl K0 (fun _ _=>by kernel_rfl) K0 (((Gg Bi b pi ni ci l details 3 fuel _ hfu (hI.below hB)).mono (fun _ _ q=>q.resolve_left (fun z=>z.1 bq))).mono ?_))
 rintro e W5 ⟨dp,pd,cd,d5,d9,c8,d0,d4,d2,e1,rfl,y9,hd⟩
 refine⟨_,rfl,?_⟩
 replace hB:=bln hB y9
 replace k1:=k1.below y9
 replace k2:=k2.below y9
 replace k3:=k3.below y9
 replace k4:=k4.below y9
 replace hd:=Zf hd fv
 refine Vn 3 [(23,.tuple #[.agg #[.slice pd ((Zd l details 3 fuel).es.length) cd,.slice d5 d9 c8,V0 d0,V0 d4,.slice d2 0 e1],.nilIface]),(28,.agg #[.slice pd ((Zd l details 3 fuel).es.length) cd,.slice d5 d9 c8,V0 d0,V0 d4,.slice d2 0 e1]),(29,.nilIface)] K0 ?_
 refine Yx K0 (Qt [S0,S0,V0 0,V0 0,S0] rfl K0 ?_)
 intro b6 W6 n6
 have z2:=n6.ne k1
 have y8:=n6.ne k2
 have r8:=n6.ne k3
 have s9:=n6.ne k4
 have g6:=n6.ge hB
 replace hB:=bln hB n6.below
 replace k1:=k1.below n6.below
 replace k2:=k2.below n6.below
 replace k3:=k3.below n6.below
 replace k4:=k4.below n6.below
 replace hd:=Zb hd n6.below
 have k6:=n6.blk
 refine Yx K0 (Nz (b:=b6) (off:=0) [.slice pd ((Zd l details 3 fuel).es.length) cd,.slice d5 d9 c8,V0 d0,V0 d4,.slice d2 0 e1] rfl K0 K0 K0 (by first|decide|simp[Value.oneCell']) k6 (by first|decide|simp) ?_)
 intro W7 u7 k7
 change Blk _ _ [.slice pd ((Zd l details 3 fuel).es.length) cd,.slice d5 d9 c8,V0 d0,V0 d4,.slice d2 0 e1] _ at k7
 replace hB:=u7.below hB g6
 replace k1:=u7.blk k1 z2
 replace k2:=u7.blk k2 y8
 replace k3:=u7.blk k3 r8
 replace k4:=u7.blk k4 s9
 replace hd:=u7.own2 hd k6 Do
 refine Vn 1 [(13,.nilIface)] K0 ?_
 refine wpList_nil ?_
 refine wp_seq ?_
 refine wp_seq ?_
 refine wp_region_lit ?_
 refine Vn 2 [(30,.nilIface),(31,.bool false)] K0 ?_
 refine wpList_nil ?_
 refine wp_cond_false K0 ?_
 refine wp_skip ?_
 refine wp_seq ?_
 refine wp_region_lit ?_
 refine Vn 1 [(34,P0 b)] K0 ?_
 refine Yx K0 (Ys ⟨b1,0,none⟩ (V0 top) rfl K0 K0 (k1.cell (i:=0) rfl) ?_)
 refine Vn 1 [(36,V0 fuel)] K0 ?_
 have fy:w.heap.size≤(W7).heap.size:=hB.size
 refine Yx K0 (Yu (lb:=#[]) 60 #[P0 b,V0 top,V0 1,V0 fuel] rfl K0 (fun _ _=>by kernel_rfl) K0 (((Gg Bi b pi ni ci l top 1 fuel _ hfu (hI.below hB)).mono (fun _ _ q=>q.resolve_left (fun z=>z.1 dt))).mono ?_))
 rintro e W8 ⟨cn,pt,ct,e0,d1,c9,d6,d7,d8,d3,rfl,p6,ht⟩
 refine⟨_,rfl,?_⟩
 replace hB:=bln hB p6
 replace k1:=k1.below p6
 replace k2:=k2.below p6
 replace k3:=k3.below p6
 replace k4:=k4.below p6
 replace k7:=k7.below p6
 replace hd:=Zb hd p6
 replace ht:=Zf ht fy
 refine Vn 3 [(33,.tuple #[.agg #[.slice pt ((Zd l top 1 fuel).es.length) ct,.slice e0 d1 c9,V0 d6,V0 d7,.slice d8 0 d3],.nilIface]),(38,.agg #[.slice pt ((Zd l top 1 fuel).es.length) ct,.slice e0 d1 c9,V0 d6,V0 d7,.slice d8 0 d3]),(39,.nilIface)] K0 ?_
 refine Yx K0 (Qt [S0,S0,V0 0,V0 0,S0] rfl K0 ?_)
 intro b9 W9 n9
 have y7:=n9.ne k1
 have z6:=n9.ne k2
 have r7:=n9.ne k3
 have r2:=n9.ne k4
 have x8:=n9.ne k7
 have g9:=n9.ge hB
 replace hB:=bln hB n9.below
 replace k1:=k1.below n9.below
 replace k2:=k2.below n9.below
 replace k3:=k3.below n9.below
 replace k4:=k4.below n9.below
 replace k7:=k7.below n9.below
 replace hd:=Zb hd n9.below
 replace ht:=Zb ht n9.below
 have k9:=n9.blk
 refine Yx K0 (Nz (b:=b9) (off:=0) [.slice pt ((Zd l top 1 fuel).es.length) ct,.slice e0 d1 c9,V0 d6,V0 d7,.slice d8 0 d3] rfl K0 K0 K0 (by first|decide|simp[Value.oneCell']) k9 (by first|decide|simp) ?_)
 intro gq r9 x5
 change Blk _ _ [.slice pt ((Zd l top 1 fuel).es.length) ct,.slice e0 d1 c9,V0 d6,V0 d7,.slice d8 0 d3] _ at x5
 replace hB:=r9.below hB g9
 replace k1:=r9.blk k1 y7
 replace k2:=r9.blk k2 z6
 replace k3:=r9.blk k3 r7
 replace k4:=r9.blk k4 r2
 replace k7:=r9.blk k7 x8
 replace hd:=r9.own2 hd k9 Do
 replace ht:=r9.own2 ht k9 Do
 refine Vn 1 [(13,.nilIface)] K0 ?_
 refine wpList_nil ?_
 refine wp_seq ?_
 refine wp_seq ?_
 refine wp_region_lit ?_
 refine Vn 2 [(40,.nilIface),(41,.bool false)] K0 ?_
 refine wpList_nil ?_
 refine wp_cond_false K0 ?_
 refine wp_skip ?_
 refine wp_seq ?_
 refine wp_seq ?_
 refine wp_region_lit ?_
 refine Vn 1 [(43,P0 b6)] K0 ?_
 refine Yx K0 (Ys ⟨b6,0,none⟩ (.slice pd ((Zd l details 3 fuel).es.length) cd) rfl K0 K0 (k7.cell (i:=0) rfl) ?_)
 refine Vn 2 [(45,V0 (↑((Zd l details 3 fuel).es.length):Int)),(46,.bool (decide ((↑((Zd l details 3 fuel).es.length):Int)>(4096:Int))))] K0 ?_
 refine wpList_nil ?_
 refine wp_cond_split (t:=decide ((↑((Zd l details 3 fuel).es.length):Int)>(4096:Int))) K0 (fun hh=>absurd (hh.symm.trans (show(decide ((↑((Zd l details 3 fuel).es.length):Int)>(4096:Int)):Bool)=false from decide_eq_false M0)) Do) (fun _=>?_)
 refine wp_skip ?_
 refine wp_seq ?_
 refine wp_seq ?_
 refine wp_region_lit ?_
 refine Vn 1 [(49,P0 b6)] K0 ?_
 refine Yx K0 (Ys ⟨b6,0,none⟩ (.slice pd ((Zd l details 3 fuel).es.length) cd) rfl K0 K0 (k7.cell (i:=0) rfl) ?_)
 refine Vn 1 [(51,P0 b9)] K0 ?_
 refine Yx K0 (Ys ⟨b9,0,none⟩ (.slice pt ((Zd l top 1 fuel).es.length) ct) rfl K0 K0 (x5.cell (i:=0) rfl) ?_)
 have cv:=Zg hd
 have ds:=Zg ht
 have ag:=hB.size
 have cb:=k1.lt
 have dh:=k2.lt
 have dn:=k3.lt
 have co:=k4.lt
 have cr:=k7.lt
 have df:=x5.lt
 refine Yx K0 (Yu (lb:=#[]) 106 #[.slice pd ((Zd l details 3 fuel).es.length) cd,.slice pt ((Zd l top 1 fuel).es.length) ct] rfl K0 (fun _ _=>by kernel_rfl) K0 ((Iv pd (Zd l details 3 fuel).es.length cd pt (Zd l top 1 fuel).es.length ct _).mono ?_))
 rintro e bd ⟨p1,q1,rfl,f4,z8,z4,bu,u8,u4⟩
 refine⟨_,rfl,?_⟩
 replace hB:=bln hB f4
 replace k1:=k1.below f4
 replace k2:=k2.below f4
 replace k3:=k3.below f4
 replace k4:=k4.below f4
 replace k7:=k7.below f4
 replace x5:=x5.below f4
 replace hd:=Zb hd f4
 replace ht:=Zb ht f4
 refine wpList_nil ?_
 refine wp_block ?_
 obtain⟨o9,t7,p4,t2,dl,u0,v0⟩:=Zhf (A:=(Zd l details 3 fuel).es) (E:=(Zd l top 1 fuel).es) rfl rfl M0 M0 cv ds f4 z8 z4 bu u8 u4
 have v9:w.heap.size≤bd.heap.size:=hB.size
 have fe:w.heap.size≤p1:=N0 ag z8
 have fz:w.heap.size≤q1:=N0 ag z4
 have x7:=u8.lt
 have y1:=u4.lt
 have de:=hB
 have r1:=k1
 have s8:=k2
 have m1:=k3
 have l5:=k4
 have r4:=k7
 have s5:=x5
 have r3:=u8
 have r6:=u4
 have x3:=hd
 have x4:=ht
 have du:∀ d,(fun d=>d=p1∨d=q1∨((Zd l details 3 fuel).es.length≠0∧d=o9)∨((Zd l top 1 fuel).es.length≠0∧d=p4)) d→d<bd.heap.size:=by
  rintro d (rfl|rfl|⟨h,rfl⟩|⟨h,rfl⟩)
  ·exact x7
  ·exact y1
  ·exact(x3.lt _ (by rw[u0 h];rfl)).2
  ·exact(x4.lt _ (by rw[v0 h];rfl)).2
 have fx:∀ d,(fun d=>d=p1∨d=q1∨((Zd l details 3 fuel).es.length≠0∧d=o9)∨((Zd l top 1 fuel).es.length≠0∧d=p4)) d→d∉[b3,b4]:=by
  rintro d (rfl|rfl|⟨h,rfl⟩|⟨h,rfl⟩)<;>simp only[A9,B7,or_false]
  ·omega
  ·omega
  ·rintro(h9|h9)
   ·exact Xo x3 m1 Do _ (by rw[u0 h];rfl) h9
   ·exact Xo x3 l5 Do _ (by rw[u0 h];rfl) h9
  ·rintro(h9|h9)
   ·exact Xo x4 m1 Do _ (by rw[v0 h];rfl) h9
   ·exact Xo x4 l5 Do _ (by rw[v0 h];rfl) h9
 refine Zls ⟨#[P0 b,V0 top,V0 details,V0 data,V0 fuel,undef,P0 b1,P0 b2,undef,undef,P0 b3,P0 b4,P0 b6,.nilIface,P0 b9,undef,undef,undef,undef,undef,undef,undef,undef,.tuple #[.agg #[.slice pd ((Zd l details 3 fuel).es.length) cd,.slice d5 d9 c8,V0 d0,V0 d4,.slice d2 0 e1],.nilIface],P0 b,V0 details,V0 fuel,.tuple #[.agg #[.slice pd ((Zd l details 3 fuel).es.length) cd,.slice d5 d9 c8,V0 d0,V0 d4,.slice d2 0 e1],.nilIface],.agg #[.slice pd ((Zd l details 3 fuel).es.length) cd,.slice d5 d9 c8,V0 d0,V0 d4,.slice d2 0 e1],.nilIface,.nilIface,.bool false,undef,.tuple #[.agg #[.slice pt ((Zd l top 1 fuel).es.length) ct,.slice e0 d1 c9,V0 d6,V0 d7,.slice d8 0 d3],.nilIface],P0 b,V0 top,V0 fuel,.tuple #[.agg #[.slice pt ((Zd l top 1 fuel).es.length) ct,.slice e0 d1 c9,V0 d6,V0 d7,.slice d8 0 d3],.nilIface],.agg #[.slice pt ((Zd l top 1 fuel).es.length) ct,.slice e0 d1 c9,V0 d6,V0 d7,.slice d8 0 d3],.nilIface,.nilIface,.bool false,undef,P0 b6,.slice pd ((Zd l details 3 fuel).es.length) cd,V0 (↑((Zd l details 3 fuel).es.length):Int),.bool (decide ((↑((Zd l details 3 fuel).es.length):Int)>(4096:Int))),undef,undef,P0 b6,.slice pd ((Zd l details 3 fuel).es.length) cd,P0 b9,.slice pt ((Zd l top 1 fuel).es.length) ct,.func (.func 174) #[] #[P0 p1,P0 q1],undef,undef,undef,undef,undef,undef,undef,undef,undef,undef,undef,undef,undef,undef,undef,undef,undef,undef,undef,undef,undef,undef,undef,undef,undef,undef,undef,undef,undef,undef,undef,undef,undef,undef,undef,undef,undef,undef,undef,undef,undef,undef,undef],[]⟩ K0 ?_
 refine Zhr (g:=.tmp 53) (gf:=174) (lb:=#[P0 p1,P0 q1]) rfl (enters_of Tryz.func174 K0 rfl) (fun d=>d=p1∨d=q1∨((Zd l details 3 fuel).es.length≠0∧d=o9)∨((Zd l top 1 fuel).es.length≠0∧d=p4)) (fun d=>d=p1∨d=q1) du (fun d h=>h.elim (fun q=>q▸x7) (fun q=>q▸y1)) dl (fun _=>rfl)
  (fun i V=>B3 w V∧Fr [p1,q1] bd V∧((Xz 0 0 (Zd l details 3 fuel).es (Zd l top 1 fuel).es).take i).all Zit=true)
  (fun c i V=>False) ?own (fun c k A B cj h hg hr=>h) ?start
  (fun x=>{ tmps:=#[P0 b,V0 top,V0 details,V0 data,V0 fuel,undef,P0 b1,P0 b2,undef,undef,P0 b3,P0 b4,P0 b6,.nilIface,P0 b9,(Aw o9 t7 x.1),(Aw p4 t2 x.2),undef,undef,undef,undef,undef,undef,.tuple #[.agg #[.slice pd ((Zd l details 3 fuel).es.length) cd,.slice d5 d9 c8,V0 d0,V0 d4,.slice d2 0 e1],.nilIface],P0 b,V0 details,V0 fuel,.tuple #[.agg #[.slice pd ((Zd l details 3 fuel).es.length) cd,.slice d5 d9 c8,V0 d0,V0 d4,.slice d2 0 e1],.nilIface],.agg #[.slice pd ((Zd l details 3 fuel).es.length) cd,.slice d5 d9 c8,V0 d0,V0 d4,.slice d2 0 e1],.nilIface,.nilIface,.bool false,undef,.tuple #[.agg #[.slice pt ((Zd l top 1 fuel).es.length) ct,.slice e0 d1 c9,V0 d6,V0 d7,.slice d8 0 d3],.nilIface],P0 b,V0 top,V0 fuel,.tuple #[.agg #[.slice pt ((Zd l top 1 fuel).es.length) ct,.slice e0 d1 c9,V0 d6,V0 d7,.slice d8 0 d3],.nilIface],.agg #[.slice pt ((Zd l top 1 fuel).es.length) ct,.slice e0 d1 c9,V0 d6,V0 d7,.slice d8 0 d3],.nilIface,.nilIface,.bool false,undef,P0 b6,.slice pd ((Zd l details 3 fuel).es.length) cd,V0 (↑((Zd l details 3 fuel).es.length):Int),.bool (decide ((↑((Zd l details 3 fuel).es.length):Int)>(4096:Int))),undef,undef,P0 b6,.slice pd ((Zd l details 3 fuel).es.length) cd,P0 b9,.slice pt ((Zd l top 1 fuel).es.length) ct,.func (.func 174) #[] #[P0 p1,P0 q1],(Aw o9 t7 x.1),(Aw p4 t2 x.2),undef,undef,undef,undef,undef,undef,undef,undef,undef,undef,undef,undef,undef,undef,undef,undef,undef,undef,undef,undef,undef,undef,undef,undef,undef,undef,undef,undef,undef,undef,undef,undef,undef,undef,undef,undef,undef,undef,undef,undef,undef],defers:=[] }) ?assign ?body ?done ?stop
 case own =>
  exact fun k A B cj h hg hr=>⟨Ze7 h.1 hg hr (At _) v9 (fun r q=>by rcases q with rfl|rfl;exact fe;exact fz),fr_ab h.2.1 hg hr (fun r h=>by rcases h with rfl|rfl<;>simp),h.2.2⟩
 case start =>
  exact⟨de,Fr.refl _ _,by simp⟩
 case assign =>
  intro lr i x W K hx hK
  refine Zvk { tmps:=#[P0 b,V0 top,V0 details,V0 data,V0 fuel,undef,P0 b1,P0 b2,undef,undef,P0 b3,P0 b4,P0 b6,.nilIface,P0 b9,undef,undef,undef,undef,undef,undef,undef,undef,.tuple #[.agg #[.slice pd ((Zd l details 3 fuel).es.length) cd,.slice d5 d9 c8,V0 d0,V0 d4,.slice d2 0 e1],.nilIface],P0 b,V0 details,V0 fuel,.tuple #[.agg #[.slice pd ((Zd l details 3 fuel).es.length) cd,.slice d5 d9 c8,V0 d0,V0 d4,.slice d2 0 e1],.nilIface],.agg #[.slice pd ((Zd l details 3 fuel).es.length) cd,.slice d5 d9 c8,V0 d0,V0 d4,.slice d2 0 e1],.nilIface,.nilIface,.bool false,undef,.tuple #[.agg #[.slice pt ((Zd l top 1 fuel).es.length) ct,.slice e0 d1 c9,V0 d6,V0 d7,.slice d8 0 d3],.nilIface],P0 b,V0 top,V0 fuel,.tuple #[.agg #[.slice pt ((Zd l top 1 fuel).es.length) ct,.slice e0 d1 c9,V0 d6,V0 d7,.slice d8 0 d3],.nilIface],.agg #[.slice pt ((Zd l top 1 fuel).es.length) ct,.slice e0 d1 c9,V0 d6,V0 d7,.slice d8 0 d3],.nilIface,.nilIface,.bool false,undef,P0 b6,.slice pd ((Zd l details 3 fuel).es.length) cd,V0 (↑((Zd l details 3 fuel).es.length):Int),.bool (decide ((↑((Zd l details 3 fuel).es.length):Int)>(4096:Int))),undef,undef,P0 b6,.slice pd ((Zd l details 3 fuel).es.length) cd,P0 b9,.slice pt ((Zd l top 1 fuel).es.length) ct,.func (.func 174) #[] #[P0 p1,P0 q1],(Aw o9 t7 x.1),(Aw p4 t2 x.2),undef,undef,undef,undef,undef,undef,undef,undef,undef,undef,undef,undef,undef,undef,undef,undef,undef,undef,undef,undef,undef,undef,undef,undef,undef,undef,undef,undef,undef,undef,undef,undef,undef,undef,undef,undef,undef,undef,undef,undef,undef],defers:=[] } K0 ?_
  refine wpIn_seq ?_
  refine Li (fun⟨_,_,q⟩=>q) (by simp) ?_
  refine Vn 1 [(15,(Aw o9 t7 x.1))] K0 ?_
  refine wpList_nil ?_
  refine Li (fun⟨_,_,q⟩=>q) (by simp) ?_
  refine Vn 1 [(16,(Aw p4 t2 x.2))] K0 ?_
  refine wpList_nil ?_
  exact hK
 case body =>
  rintro lr i x W gh hx ⟨s3,hF,bf⟩
  obtain⟨xa,xb⟩:=x
  rcases xa with _|ja<;>rcases xb with _|jb
  ·
   exact absurd ((Mj _ _ 0 0 i _ bf hx rfl).trans rfl) ac
  ·
   exact absurd ((Mj _ _ 0 0 i _ bf hx rfl).trans rfl) ac
  ·
   exact absurd ((Mj _ _ 0 0 i _ bf hx rfl).trans rfl) db
  ·
   have l6:w.heap.size≤W.heap.size:=N0 v9 hF.size
   have fs:=hI.below s3
   have hZ:RdS bd [b3,b4] W W:=RdS.refl _ hF.size
   have ec:=r1.fr hF (by simp only[A9,B7,or_false];omega)
   have et:=s8.fr hF (by simp only[A9,B7,or_false];omega)
   have eu:=m1.fr hF (by simp only[A9,B7,or_false];omega)
   have ex:=l5.fr hF (by simp only[A9,B7,or_false];omega)
   have eo:=r4.fr hF (by simp only[A9,B7,or_false];omega)
   have em:=s5.fr hF (by simp only[A9,B7,or_false];omega)
   refine Zvk { tmps:=#[P0 b,V0 top,V0 details,V0 data,V0 fuel,undef,P0 b1,P0 b2,undef,undef,P0 b3,P0 b4,P0 b6,.nilIface,P0 b9,.pointer (some ⟨o9,t7+3*ja,none⟩),.pointer (some ⟨p4,t2+3*jb,none⟩),undef,undef,undef,undef,undef,undef,.tuple #[.agg #[.slice pd ((Zd l details 3 fuel).es.length) cd,.slice d5 d9 c8,V0 d0,V0 d4,.slice d2 0 e1],.nilIface],P0 b,V0 details,V0 fuel,.tuple #[.agg #[.slice pd ((Zd l details 3 fuel).es.length) cd,.slice d5 d9 c8,V0 d0,V0 d4,.slice d2 0 e1],.nilIface],.agg #[.slice pd ((Zd l details 3 fuel).es.length) cd,.slice d5 d9 c8,V0 d0,V0 d4,.slice d2 0 e1],.nilIface,.nilIface,.bool false,undef,.tuple #[.agg #[.slice pt ((Zd l top 1 fuel).es.length) ct,.slice e0 d1 c9,V0 d6,V0 d7,.slice d8 0 d3],.nilIface],P0 b,V0 top,V0 fuel,.tuple #[.agg #[.slice pt ((Zd l top 1 fuel).es.length) ct,.slice e0 d1 c9,V0 d6,V0 d7,.slice d8 0 d3],.nilIface],.agg #[.slice pt ((Zd l top 1 fuel).es.length) ct,.slice e0 d1 c9,V0 d6,V0 d7,.slice d8 0 d3],.nilIface,.nilIface,.bool false,undef,P0 b6,.slice pd ((Zd l details 3 fuel).es.length) cd,V0 (↑((Zd l details 3 fuel).es.length):Int),.bool (decide ((↑((Zd l details 3 fuel).es.length):Int)>(4096:Int))),undef,undef,P0 b6,.slice pd ((Zd l details 3 fuel).es.length) cd,P0 b9,.slice pt ((Zd l top 1 fuel).es.length) ct,.func (.func 174) #[] #[P0 p1,P0 q1],.pointer (some ⟨o9,t7+3*ja,none⟩),.pointer (some ⟨p4,t2+3*jb,none⟩),undef,undef,undef,undef,undef,undef,undef,undef,undef,undef,undef,undef,undef,undef,undef,undef,undef,undef,undef,undef,undef,undef,undef,undef,undef,undef,undef,undef,undef,undef,undef,undef,undef,undef,undef,undef,undef,undef,undef,undef,undef],defers:=[] } rfl ?_
   refine wpIn_block ?_
   refine wpIn_block ?_
   refine wpIn_seq ?_
   refine Li (fun⟨_,_,q⟩=>q) (by simp) ?_
   refine Vn 3 [(57,.pointer (some ⟨o9,t7+3*ja,none⟩)),(58,.bool false),(56,.bool false)] K0 ?_
   refine wpList_nil ?_
   refine wpIn_cond_false K0 ?_
   refine wpIn_seq ?_
   refine Li (fun⟨_,_,q⟩=>q) (by simp) ?_
   refine Vn 3 [(62,.pointer (some ⟨p4,t2+3*jb,none⟩)),(63,.bool false),(61,.bool false)] K0 ?_
   refine wpList_nil ?_
   refine wpIn_cond_false K0 ?_
   refine wpIn_skip ?_
   exact⟨KeepsFrom.refl _ _,Keeps.refl _ _,s3,hF,Ze3 bf hx rfl⟩
 case stop =>
  intro D c k V hD hk hF
  exact hF.elim
 case done =>
  rintro D1 W9 gc ⟨gg,q8,t6⟩ aa
  have hK:Dfr D1 W9:=aa;clear aa
  rw[K2] at t6
  have x9:=t6
  have ao:=(Za7 _ _ 0 0 t6).1
  have fj:=(Zqc ao).1
  have a9:=r1.fr q8 (by simp only[A9,B7,or_false];omega)
  have b5:=s8.fr q8 (by simp only[A9,B7,or_false];omega)
  have b7:=m1.fr q8 (by simp only[A9,B7,or_false];omega)
  have b0:=l5.fr q8 (by simp only[A9,B7,or_false];omega)
  have a8:=r4.fr q8 (by simp only[A9,B7,or_false];omega)
  have a7:=s5.fr q8 (by simp only[A9,B7,or_false];omega)
  have m9:=Za8 x3 q8 (fun d hd=>by simp only[A9,B7,or_false];rintro(h|h);exact Xo x3 r3 Do d hd h;exact Xo x3 r6 Do d hd h)
  have m7:=Za8 x4 q8 (fun d hd=>by simp only[A9,B7,or_false];rintro(h|h);exact Xo x4 r3 Do d hd h;exact Xo x4 r6 Do d hd h)
  replace hB:=gg
  refine wp_seq ?_
  refine wp_region_lit ?_
  refine Vn 4 [(66,P0 b),(67,V0 data),(68,V0 fuel),(69,.agg #[P0 b,V0 data,V0 fuel,V0 0])] K0 ?_
  refine Yx K0 (Rf [P0 b,V0 data,V0 fuel,V0 0] rfl K0 ?_)
  intro e6 gu g8
  have v5:=g8.ne a9
  have t8:=g8.ne b5
  have u2:=g8.ne b7
  have t1:=g8.ne b0
  have v6:=g8.ne a8
  have w7:=g8.ne a7
  have gd:=g8.ge hB
  replace hB:=bln hB g8.below
  replace a9:=a9.below g8.below
  replace b5:=b5.below g8.below
  replace b7:=b7.below g8.below
  replace b0:=b0.below g8.below
  replace a8:=a8.below g8.below
  replace a7:=a7.below g8.below
  replace m9:=Zb m9 g8.below
  replace m7:=Zb m7 g8.below
  replace hK:=hK.below g8.below
  have m5:=g8.blk
  refine Yx K0 (Qt [.pointer none] rfl K0 ?_)
  intro s4 gr f6
  have w0:=f6.ne a9
  have u3:=f6.ne b5
  have o4:=f6.ne b7
  have o3:=f6.ne b0
  have t4:=f6.ne a8
  have t5:=f6.ne a7
  have l7:=f6.ne m5
  have fp:=f6.ge hB
  replace hB:=bln hB f6.below
  replace a9:=a9.below f6.below
  replace b5:=b5.below f6.below
  replace b7:=b7.below f6.below
  replace b0:=b0.below f6.below
  replace a8:=a8.below f6.below
  replace a7:=a7.below f6.below
  replace m5:=m5.below f6.below
  replace m9:=Zb m9 f6.below
  replace m7:=Zb m7 f6.below
  replace hK:=hK.below f6.below
  have ap:=f6.blk
  refine Yx K0 (Yr (v:=P0 e6) (b:=s4) (off:=0) rfl K0 K0 K0 rfl ap (by first|decide|simp) ?_)
  intro gm o0 q7
  change Blk _ _ [P0 e6] _ at q7
  replace hB:=o0.below hB fp
  replace a9:=o0.blk a9 w0
  replace b5:=o0.blk b5 u3
  replace b7:=o0.blk b7 o4
  replace b0:=o0.blk b0 o3
  replace a8:=o0.blk a8 t4
  replace a7:=o0.blk a7 t5
  replace m5:=o0.blk m5 l7
  replace m9:=o0.own2 m9 ap Do
  replace m7:=o0.own2 m7 ap Do
  replace hK:=hK.upd o0 ap
  refine wpList_nil ?_
  refine wp_seq ?_
  refine wp_region_lit ?_
  refine Yx K0 (Qt [S0] rfl K0 ?_)
  intro f0 hb f2
  have i7:=f2.ne a9
  have i8:=f2.ne b5
  have g0:=f2.ne b7
  have g5:=f2.ne b0
  have i6:=f2.ne a8
  have j0:=f2.ne a7
  have l4:=f2.ne m5
  have g7:=f2.ne q7
  have fc:=f2.ge hB
  replace hB:=bln hB f2.below
  replace a9:=a9.below f2.below
  replace b5:=b5.below f2.below
  replace b7:=b7.below f2.below
  replace b0:=b0.below f2.below
  replace a8:=a8.below f2.below
  replace a7:=a7.below f2.below
  replace m5:=m5.below f2.below
  replace q7:=q7.below f2.below
  replace m9:=Zb m9 f2.below
  replace m7:=Zb m7 f2.below
  replace hK:=hK.below f2.below
  have y4:=f2.blk
  refine wpList_nil ?_
  refine wp_seq ?_
  refine wp_seq ?_
  refine wp_region_lit ?_
  refine Vn 1 [(71,P0 b6)] K0 ?_
  refine Yx K0 (Ys ⟨b6,0,none⟩ (.slice pd ((Zd l details 3 fuel).es.length) cd) rfl K0 K0 (a8.cell (i:=0) rfl) ?_)
  refine Vn 1 [(73,P0 b9)] K0 ?_
  refine Yx K0 (Ys ⟨b9,0,none⟩ (.slice pt ((Zd l top 1 fuel).es.length) ct) rfl K0 K0 (a7.cell (i:=0) rfl) ?_)
  have dz:=Zg m9
  have cg:=Zg m7
  have y0:=hB.size
  have dq:=a9.lt
  have ca:=b5.lt
  have cw:=b7.lt
  have cc:=b0.lt
  have dd:=a8.lt
  have dv:=a7.lt
  have bk:=m5.lt
  have ax:=q7.lt
  have ar:=y4.lt
  refine Yx K0 (Yu (lb:=#[]) 106 #[.slice pd ((Zd l details 3 fuel).es.length) cd,.slice pt ((Zd l top 1 fuel).es.length) ct] rfl K0 (fun _ _=>by kernel_rfl) K0 ((Iv pd (Zd l details 3 fuel).es.length cd pt (Zd l top 1 fuel).es.length ct _).mono ?_))
  rintro e u6 ⟨p2,q2,rfl,c6,ai,aj,bs,v1,u5⟩
  refine⟨_,rfl,?_⟩
  replace hB:=bln hB c6
  replace a9:=a9.below c6
  replace b5:=b5.below c6
  replace b7:=b7.below c6
  replace b0:=b0.below c6
  replace a8:=a8.below c6
  replace a7:=a7.below c6
  replace m5:=m5.below c6
  replace q7:=q7.below c6
  replace y4:=y4.below c6
  replace m9:=Zb m9 c6
  replace m7:=Zb m7 c6
  replace hK:=hK.below c6
  refine wpList_nil ?_
  refine wp_block ?_
  obtain⟨v4,al,x1,av,dc,m3,m4⟩:=Zhf (A:=(Zd l details 3 fuel).es) (E:=(Zd l top 1 fuel).es) rfl rfl M0 M0 dz cg c6 ai aj bs v1 u5
  have i9:w.heap.size≤u6.heap.size:=hB.size
  have fw:w.heap.size≤p2:=N0 y0 ai
  have fi:w.heap.size≤q2:=N0 y0 aj
  have q5:=v1.lt
  have p9:=u5.lt
  have cu:=hB
  have s0:=a9
  have r5:=b5
  have f8:=b7
  have f7:=b0
  have q9:=a8
  have s1:=a7
  have e8:=m5
  have n5:=q7
  have e9:=y4
  have n8:=v1
  have o1:=u5
  have p3:=m9
  have p0:=m7
  have ey:w.heap.size≤e6:=gd
  have k5:b1≠e6:=v5
  have l3:b1≠f0:=i7
  have j6:b2≠e6:=t8
  have j3:b2≠f0:=i8
  have l8:b3≠e6:=u2
  have m0:b3≠f0:=g0
  have j8:b4≠e6:=t1
  have l9:b4≠f0:=g5
  have l2:b6≠e6:=v6
  have j9:b6≠f0:=i6
  have m2:b9≠e6:=w7
  have j4:b9≠f0:=j0
  have i3:s4≠e6:=(S3 l7)
  have i1:s4≠f0:=g7
  have ff:e6≠p2:=by omega
  have fm:e6≠q2:=by omega
  have fg:f0≠p2:=by omega
  have fo:f0≠q2:=by omega
  have x2:∀ d,(fun d=>d=p2∨d=q2∨((Zd l details 3 fuel).es.length≠0∧d=v4)∨((Zd l top 1 fuel).es.length≠0∧d=x1)) d→d<u6.heap.size:=by
   rintro d (rfl|rfl|⟨h,rfl⟩|⟨h,rfl⟩)
   ·exact q5
   ·exact p9
   ·exact(p3.lt _ (by rw[m3 h];rfl)).2
   ·exact(p0.lt _ (by rw[m4 h];rfl)).2
  have z1:∀ d,(fun d=>d=p2∨d=q2∨((Zd l details 3 fuel).es.length≠0∧d=v4)∨((Zd l top 1 fuel).es.length≠0∧d=x1)) d→d∉[b3,b4,e6,f0]:=by
   rintro d (rfl|rfl|⟨h,rfl⟩|⟨h,rfl⟩)<;>simp only[A9,B7,or_false]
   ·omega
   ·omega
   ·rintro(h9|h9|h9|h9)
    ·exact Xo p3 f8 Do _ (by rw[m3 h];rfl) h9
    ·exact Xo p3 f7 Do _ (by rw[m3 h];rfl) h9
    ·exact Xo p3 e8 Do _ (by rw[m3 h];rfl) h9
    ·exact Xo p3 e9 Do _ (by rw[m3 h];rfl) h9
   ·rintro(h9|h9|h9|h9)
    ·exact Xo p0 f8 Do _ (by rw[m4 h];rfl) h9
    ·exact Xo p0 f7 Do _ (by rw[m4 h];rfl) h9
    ·exact Xo p0 e8 Do _ (by rw[m4 h];rfl) h9
    ·exact Xo p0 e9 Do _ (by rw[m4 h];rfl) h9
  have dg:D1<u6.heap.size:=(Array.getElem?_eq_some_iff.1 hK).1
  have fh:D1∉[p2,q2,e6,f0]:=by simp only[A9,B7,or_false];rintro(h9|h9|h9|h9);exact(hK.ne n8) h9.symm;exact(hK.ne o1) h9.symm;exact(hK.ne e8) h9.symm;exact(hK.ne e9) h9.symm
  have fn:=hK
  refine Zls ⟨#[P0 b,V0 top,V0 details,V0 data,V0 fuel,undef,P0 b1,P0 b2,undef,undef,P0 b3,P0 b4,P0 b6,.nilIface,P0 b9,undef,undef,P0 s4,P0 f0,undef,undef,undef,undef,.tuple #[.agg #[.slice pd ((Zd l details 3 fuel).es.length) cd,.slice d5 d9 c8,V0 d0,V0 d4,.slice d2 0 e1],.nilIface],P0 b,V0 details,V0 fuel,.tuple #[.agg #[.slice pd ((Zd l details 3 fuel).es.length) cd,.slice d5 d9 c8,V0 d0,V0 d4,.slice d2 0 e1],.nilIface],.agg #[.slice pd ((Zd l details 3 fuel).es.length) cd,.slice d5 d9 c8,V0 d0,V0 d4,.slice d2 0 e1],.nilIface,.nilIface,.bool false,undef,.tuple #[.agg #[.slice pt ((Zd l top 1 fuel).es.length) ct,.slice e0 d1 c9,V0 d6,V0 d7,.slice d8 0 d3],.nilIface],P0 b,V0 top,V0 fuel,.tuple #[.agg #[.slice pt ((Zd l top 1 fuel).es.length) ct,.slice e0 d1 c9,V0 d6,V0 d7,.slice d8 0 d3],.nilIface],.agg #[.slice pt ((Zd l top 1 fuel).es.length) ct,.slice e0 d1 c9,V0 d6,V0 d7,.slice d8 0 d3],.nilIface,.nilIface,.bool false,undef,P0 b6,.slice pd ((Zd l details 3 fuel).es.length) cd,V0 (↑((Zd l details 3 fuel).es.length):Int),.bool (decide ((↑((Zd l details 3 fuel).es.length):Int)>(4096:Int))),undef,undef,P0 b6,.slice pd ((Zd l details 3 fuel).es.length) cd,P0 b9,.slice pt ((Zd l top 1 fuel).es.length) ct,.func (.func 174) #[] #[P0 p1,P0 q1],undef,undef,undef,undef,undef,undef,undef,undef,undef,undef,undef,undef,P0 b,V0 data,V0 fuel,.agg #[P0 b,V0 data,V0 fuel,V0 0],P0 e6,P0 b6,.slice pd ((Zd l details 3 fuel).es.length) cd,P0 b9,.slice pt ((Zd l top 1 fuel).es.length) ct,.func (.func 174) #[] #[P0 p2,P0 q2],undef,undef,undef,undef,undef,undef,undef,undef,undef,undef,undef,undef,undef,undef,undef,undef,undef,undef,undef,undef,undef],[{ target:=.collected D1,args:=#[] }]⟩ K0 ?_
  refine Zhr (g:=.tmp 75) (gf:=174) (lb:=#[P0 p2,P0 q2]) rfl (enters_of Tryz.func174 K0 rfl) (fun d=>d=p2∨d=q2∨((Zd l details 3 fuel).es.length≠0∧d=v4)∨((Zd l top 1 fuel).es.length≠0∧d=x1)) (fun d=>d=p2∨d=q2) x2 (fun d h=>h.elim (fun q=>q▸q5) (fun q=>q▸p9)) dc (fun _=>rfl)
   (fun i V=>B3 w V∧Fr [p2,q2,e6,f0] u6 V∧Blk V e6 [P0 b,V0 data,V0 fuel,V0 (↑(Zwt l (Zd l top 1 fuel).es data fuel i):Int)] 217∧(Zwt l (Zd l top 1 fuel).es data fuel i)≤16384∧devK l (Zd l details 3 fuel).es (Zd l top 1 fuel).es data fuel i∧∃ (p:O0) (c:Nat) (Z:List Zv),Blk V f0 [.slice p i c] 46∧V.ownsRow u6.heap.size 95 5 (.slice p i c) i (Z.flatMap Zh5)∧Yt u6.heap.size V Z∧Z.length=i∧Z.map Prod.fst=devL l (Zd l details 3 fuel).es (Zd l top 1 fuel).es data fuel i)
   (fun c i V=>False) ?own (fun c k A B cj h hg hr=>h) ?start
   (fun x=>{ tmps:=#[P0 b,V0 top,V0 details,V0 data,V0 fuel,undef,P0 b1,P0 b2,undef,undef,P0 b3,P0 b4,P0 b6,.nilIface,P0 b9,undef,undef,P0 s4,P0 f0,(Aw v4 al x.1),(Aw x1 av x.2),undef,undef,.tuple #[.agg #[.slice pd ((Zd l details 3 fuel).es.length) cd,.slice d5 d9 c8,V0 d0,V0 d4,.slice d2 0 e1],.nilIface],P0 b,V0 details,V0 fuel,.tuple #[.agg #[.slice pd ((Zd l details 3 fuel).es.length) cd,.slice d5 d9 c8,V0 d0,V0 d4,.slice d2 0 e1],.nilIface],.agg #[.slice pd ((Zd l details 3 fuel).es.length) cd,.slice d5 d9 c8,V0 d0,V0 d4,.slice d2 0 e1],.nilIface,.nilIface,.bool false,undef,.tuple #[.agg #[.slice pt ((Zd l top 1 fuel).es.length) ct,.slice e0 d1 c9,V0 d6,V0 d7,.slice d8 0 d3],.nilIface],P0 b,V0 top,V0 fuel,.tuple #[.agg #[.slice pt ((Zd l top 1 fuel).es.length) ct,.slice e0 d1 c9,V0 d6,V0 d7,.slice d8 0 d3],.nilIface],.agg #[.slice pt ((Zd l top 1 fuel).es.length) ct,.slice e0 d1 c9,V0 d6,V0 d7,.slice d8 0 d3],.nilIface,.nilIface,.bool false,undef,P0 b6,.slice pd ((Zd l details 3 fuel).es.length) cd,V0 (↑((Zd l details 3 fuel).es.length):Int),.bool (decide ((↑((Zd l details 3 fuel).es.length):Int)>(4096:Int))),undef,undef,P0 b6,.slice pd ((Zd l details 3 fuel).es.length) cd,P0 b9,.slice pt ((Zd l top 1 fuel).es.length) ct,.func (.func 174) #[] #[P0 p1,P0 q1],undef,undef,undef,undef,undef,undef,undef,undef,undef,undef,undef,undef,P0 b,V0 data,V0 fuel,.agg #[P0 b,V0 data,V0 fuel,V0 0],P0 e6,P0 b6,.slice pd ((Zd l details 3 fuel).es.length) cd,P0 b9,.slice pt ((Zd l top 1 fuel).es.length) ct,.func (.func 174) #[] #[P0 p2,P0 q2],(Aw v4 al x.1),(Aw x1 av x.2),undef,undef,undef,undef,undef,undef,undef,undef,undef,undef,undef,undef,undef,undef,undef,undef,undef,undef,undef],defers:=[] }) ?assign ?body ?done ?stop
  case own =>
   rintro k A B cj ⟨h1,h2,h3,h4,h5,p,c,Z,h6,h7,h8,h9,fk⟩ hg hr
   exact⟨Ze7 h1 hg hr (At _) i9 (fun r q=>by rcases q with rfl|rfl;exact fw;exact fi),fr_ab h2 hg hr (fun r h=>by rcases h with rfl|rfl<;>simp),Zh6 h3 hg hr (fun r q=>by rcases q with rfl|rfl;exact ff;exact fm),h4,h5,p,c,Z,Zh6 h6 hg hr (fun r q=>by rcases q with rfl|rfl;exact fg;exact fo),Zts h7 hg hr (fun r q=>by rcases q with rfl|rfl;exact q5;exact p9),h8.ab hg hr (fun r q=>by rcases q with rfl|rfl;exact q5;exact p9),h9,fk⟩
  case start =>
   exact⟨cu,Fr.refl _ _,m5,A3 _,fun j hj=>absurd hj M0,none,0,[],y4,A5 _ _ _ _,Yt.nil _ _,rfl,rfl⟩
  case assign =>
   intro lr i x W K hx hK
   refine Zvk { tmps:=#[P0 b,V0 top,V0 details,V0 data,V0 fuel,undef,P0 b1,P0 b2,undef,undef,P0 b3,P0 b4,P0 b6,.nilIface,P0 b9,undef,undef,P0 s4,P0 f0,undef,undef,undef,undef,.tuple #[.agg #[.slice pd ((Zd l details 3 fuel).es.length) cd,.slice d5 d9 c8,V0 d0,V0 d4,.slice d2 0 e1],.nilIface],P0 b,V0 details,V0 fuel,.tuple #[.agg #[.slice pd ((Zd l details 3 fuel).es.length) cd,.slice d5 d9 c8,V0 d0,V0 d4,.slice d2 0 e1],.nilIface],.agg #[.slice pd ((Zd l details 3 fuel).es.length) cd,.slice d5 d9 c8,V0 d0,V0 d4,.slice d2 0 e1],.nilIface,.nilIface,.bool false,undef,.tuple #[.agg #[.slice pt ((Zd l top 1 fuel).es.length) ct,.slice e0 d1 c9,V0 d6,V0 d7,.slice d8 0 d3],.nilIface],P0 b,V0 top,V0 fuel,.tuple #[.agg #[.slice pt ((Zd l top 1 fuel).es.length) ct,.slice e0 d1 c9,V0 d6,V0 d7,.slice d8 0 d3],.nilIface],.agg #[.slice pt ((Zd l top 1 fuel).es.length) ct,.slice e0 d1 c9,V0 d6,V0 d7,.slice d8 0 d3],.nilIface,.nilIface,.bool false,undef,P0 b6,.slice pd ((Zd l details 3 fuel).es.length) cd,V0 (↑((Zd l details 3 fuel).es.length):Int),.bool (decide ((↑((Zd l details 3 fuel).es.length):Int)>(4096:Int))),undef,undef,P0 b6,.slice pd ((Zd l details 3 fuel).es.length) cd,P0 b9,.slice pt ((Zd l top 1 fuel).es.length) ct,.func (.func 174) #[] #[P0 p1,P0 q1],undef,undef,undef,undef,undef,undef,undef,undef,undef,undef,undef,undef,P0 b,V0 data,V0 fuel,.agg #[P0 b,V0 data,V0 fuel,V0 0],P0 e6,P0 b6,.slice pd ((Zd l details 3 fuel).es.length) cd,P0 b9,.slice pt ((Zd l top 1 fuel).es.length) ct,.func (.func 174) #[] #[P0 p2,P0 q2],(Aw v4 al x.1),(Aw x1 av x.2),undef,undef,undef,undef,undef,undef,undef,undef,undef,undef,undef,undef,undef,undef,undef,undef,undef,undef,undef],defers:=[] } K0 ?_
   refine wpIn_seq ?_
   refine Li (fun⟨_,_,q⟩=>q) (by simp) ?_
   refine Vn 1 [(19,(Aw v4 al x.1))] K0 ?_
   refine wpList_nil ?_
   refine Li (fun⟨_,_,q⟩=>q) (by simp) ?_
   refine Vn 1 [(20,(Aw x1 av x.2))] K0 ?_
   refine wpList_nil ?_
   exact hK
  case body =>
   rintro lr i x W gh hx ⟨s3,hF,kl,bo,w4,p,cp,Z,k8,ho,b8,z5,z7⟩
   obtain⟨gj,rfl⟩:=(Zc7 x9).2 _ _ hx
   have gl:(Zd l details 3 fuel).es.length=(Zd l top 1 fuel).es.length:=fj
   have l6:w.heap.size≤W.heap.size:=N0 i9 hF.size
   have fs:=hI.below s3
   have hZ:RdS u6 [b3,b4,e6,f0] W W:=RdS.refl _ hF.size
   have a3:=s0.fr hF (by simp only[A9,B7,or_false];rintro(h|h|h|h);omega;omega;exact k5 h;exact l3 h)
   have a4:=r5.fr hF (by simp only[A9,B7,or_false];rintro(h|h|h|h);omega;omega;exact j6 h;exact j3 h)
   have a1:=f8.fr hF (by simp only[A9,B7,or_false];rintro(h|h|h|h);omega;omega;exact l8 h;exact m0 h)
   have a2:=f7.fr hF (by simp only[A9,B7,or_false];rintro(h|h|h|h);omega;omega;exact j8 h;exact l9 h)
   have a6:=q9.fr hF (by simp only[A9,B7,or_false];rintro(h|h|h|h);omega;omega;exact l2 h;exact j9 h)
   have a5:=s1.fr hF (by simp only[A9,B7,or_false];rintro(h|h|h|h);omega;omega;exact m2 h;exact j4 h)
   have a0:=n5.fr hF (by simp only[A9,B7,or_false];rintro(h|h|h|h);omega;omega;exact i3 h;exact i1 h)
   have ea:=Zlr (i:=i) (m3 M0)
   have eb:=Zlr (i:=i) (m4 M0)
   refine Zvk { tmps:=#[P0 b,V0 top,V0 details,V0 data,V0 fuel,undef,P0 b1,P0 b2,undef,undef,P0 b3,P0 b4,P0 b6,.nilIface,P0 b9,undef,undef,P0 s4,P0 f0,.pointer (some (Zx pd (i*3))),.pointer (some (Zx pt (i*3))),undef,undef,.tuple #[.agg #[.slice pd ((Zd l details 3 fuel).es.length) cd,.slice d5 d9 c8,V0 d0,V0 d4,.slice d2 0 e1],.nilIface],P0 b,V0 details,V0 fuel,.tuple #[.agg #[.slice pd ((Zd l details 3 fuel).es.length) cd,.slice d5 d9 c8,V0 d0,V0 d4,.slice d2 0 e1],.nilIface],.agg #[.slice pd ((Zd l details 3 fuel).es.length) cd,.slice d5 d9 c8,V0 d0,V0 d4,.slice d2 0 e1],.nilIface,.nilIface,.bool false,undef,.tuple #[.agg #[.slice pt ((Zd l top 1 fuel).es.length) ct,.slice e0 d1 c9,V0 d6,V0 d7,.slice d8 0 d3],.nilIface],P0 b,V0 top,V0 fuel,.tuple #[.agg #[.slice pt ((Zd l top 1 fuel).es.length) ct,.slice e0 d1 c9,V0 d6,V0 d7,.slice d8 0 d3],.nilIface],.agg #[.slice pt ((Zd l top 1 fuel).es.length) ct,.slice e0 d1 c9,V0 d6,V0 d7,.slice d8 0 d3],.nilIface,.nilIface,.bool false,undef,P0 b6,.slice pd ((Zd l details 3 fuel).es.length) cd,V0 (↑((Zd l details 3 fuel).es.length):Int),.bool (decide ((↑((Zd l details 3 fuel).es.length):Int)>(4096:Int))),undef,undef,P0 b6,.slice pd ((Zd l details 3 fuel).es.length) cd,P0 b9,.slice pt ((Zd l top 1 fuel).es.length) ct,.func (.func 174) #[] #[P0 p1,P0 q1],undef,undef,undef,undef,undef,undef,undef,undef,undef,undef,undef,undef,P0 b,V0 data,V0 fuel,.agg #[P0 b,V0 data,V0 fuel,V0 0],P0 e6,P0 b6,.slice pd ((Zd l details 3 fuel).es.length) cd,P0 b9,.slice pt ((Zd l top 1 fuel).es.length) ct,.func (.func 174) #[] #[P0 p2,P0 q2],.pointer (some (Zx pd (i*3))),.pointer (some (Zx pt (i*3))),undef,undef,undef,undef,undef,undef,undef,undef,undef,undef,undef,undef,undef,undef,undef,undef,undef,undef,undef],defers:=[] } (by simp only[ea,eb]) ?_
   have e4:=Za8 p3 hF (fun d hd=>by simp only[A9,B7,or_false];rintro(h|h|h|h);exact Xo p3 n8 Do d hd h;exact Xo p3 o1 Do d hd h;exact Xo p3 e8 Do d hd h;exact Xo p3 e9 Do d hd h)
   have e3:=Za8 p0 hF (fun d hd=>by simp only[A9,B7,or_false];rintro(h|h|h|h);exact Xo p0 n8 Do d hd h;exact Xo p0 o1 Do d hd h;exact Xo p0 e8 Do d hd h;exact Xo p0 e9 Do d hd h)
   refine wpIn_block ?_
   refine wpIn_seq ?_
   have hB:=blB (Below.refl w.heap.size W) l6 (Za W)
   replace a3:=a3.below (Za W)
   replace a4:=a4.below (Za W)
   replace a1:=a1.below (Za W)
   replace a2:=a2.below (Za W)
   replace a6:=a6.below (Za W)
   replace a5:=a5.below (Za W)
   replace kl:=kl.below (Za W)
   replace a0:=a0.below (Za W)
   replace k8:=k8.below (Za W)
   replace hZ:=hZ.below (Za W)
   replace e4:=Zb e4 (Za W)
   replace e3:=Zb e3 (Za W)
   replace ho:=Zb ho (Za W)
   replace b8:=b8.below (Za W)
   refine Zst (fun V=>Below w.heap.size (W.drew) V∧Ze [217] (W.drew) V) 14 rfl #[false,false,false,false,false,false,false,false,false,false,false,false,false,false] rfl K0 (fun⟨_,_,q⟩=>q) (by simp) ⟨Below.refl _ _,Ze.refl _ _⟩ ?_
   intro f3
   have s6:=hB
   have bc:=a3
   have aq:=a4
   have bl:=a1
   have aw:=a2
   have bh:=a6
   have ay:=a5
   have y3:=kl
   have o6:=a0
   have ae:=k8
   have v8:=e4
   have t0:=e3
   have ee:=ho
   refine h_load 0 13 rfl ⟨s4,0,none⟩ (P0 e6) rfl K0 K0 K0 (fun _ _ _ _ _ h=>h) K0 rfl K0 K0 (fun V hV=>((o6.only hV.2 Do).cell (i:=0) rfl)) f3 ?_
   refine Ztr [1,2] 11 rfl #[true,true,true,false,false,false,false,false,false,false,false,false,false,false] [(80,.pointer (some (Zx pd (i*3)))),(81,.pointer (some (Zx pd (i*3))))] K0 (fun _ _ _ _ _ h=>h) K0 f3 ?_
   refine h_val 3 10 rfl (.agg #[V0 (((Zd l details 3 fuel).es.getD i Zo).1),.string ⟨(((Zd l details 3 fuel).es.getD i Zo).2.1).toArray⟩,V0 (((Zd l details 3 fuel).es.getD i Zo).2.2)]) rfl K0 K0 K0 (fun _ _ _ _ _ h=>h) K0 (fun V hV=>Zct (k:=i) Ql Zo _ rfl K0 (Zg (Zi v8 hV.2 Do)) M0 Do Tryz.underlying132 rfl K0) f3 ?_
   refine Ztr [4,5] 8 rfl #[true,true,true,true,true,true,false,false,false,false,false,false,false,false] [(83,.pointer (some (Zx pt (i*3)))),(84,.pointer (some (Zx pt (i*3))))] K0 (fun _ _ _ _ _ h=>h) K0 f3 ?_
   refine h_val 6 7 rfl (.agg #[V0 (((Zd l top 1 fuel).es.getD i Zo).1),.string ⟨(((Zd l top 1 fuel).es.getD i Zo).2.1).toArray⟩,V0 (((Zd l top 1 fuel).es.getD i Zo).2.2)]) rfl K0 K0 K0 (fun _ _ _ _ _ h=>h) K0 (fun V hV=>Zct (k:=i) Ql Zo _ rfl K0 (Zg (Zi t0 hV.2 Do)) M0 Do Tryz.underlying132 rfl K0) f3 ?_
   refine Ztg 7 11 6 rfl K0 rfl rfl K0 K0 ?_ ?_
   ·have dm:=kl
    have cl:=N0 hF.size hZ.le
    have dy:∀ h:(Ib l ((Zd l details 3 fuel).es.getD i Zo) ((Zd l top 1 fuel).es.getD i Zo) data fuel (Zwt l (Zd l top 1 fuel).es data fuel i)).2≠0,False:=fun n7=>by have e:=(Fv dp cn M0 ao).trans (Zgr (i:=i) M0 w4 n7);rw[hgood] at e;exact n7 (congrArg (fun z=>z.2.1) e).symm
    refine Yu (lb:=#[]) 107 #[P0 e6,.agg #[V0 (((Zd l details 3 fuel).es.getD i Zo).1),.string ⟨(((Zd l details 3 fuel).es.getD i Zo).2.1).toArray⟩,V0 (((Zd l details 3 fuel).es.getD i Zo).2.2)],.agg #[V0 (((Zd l top 1 fuel).es.getD i Zo).1),.string ⟨(((Zd l top 1 fuel).es.getD i Zo).2.1).toArray⟩,V0 (((Zd l top 1 fuel).es.getD i Zo).2.2)]] rfl K0 (fun _ _=>by kernel_rfl) K0 (((Zbw w.heap.size Bi e6 b pi ni ci l data fuel (Zwt l (Zd l top 1 fuel).es data fuel i) ((Zd l details 3 fuel).es.getD i Zo) ((Zd l top 1 fuel).es.getD i Zo) _ (hI.below (s3.trans hB)) kl hfu (Js _ _ _ _ i M0) (Js _ _ _ _ i M0) bo ey (N0 l6 hB.size)).mono (fun _ _ q=>q.resolve_left (fun z=>dy z.1))).mono ?_)
    rintro e eh ⟨n7,pm,cm,rfl,y2,e5,ck,e2,e7⟩
    refine⟨_,rfl,?_⟩
    replace hB:=hB.trans y2
    replace a3:=a3.only e5 Do
    replace a4:=a4.only e5 Do
    replace a1:=a1.only e5 Do
    replace a2:=a2.only e5 Do
    replace a6:=a6.only e5 Do
    replace a5:=a5.only e5 Do
    replace a0:=a0.only e5 Do
    replace k8:=k8.only e5 Do
    replace hZ:=hZ.frm ck dm (by simp)
    replace e4:=Zi e4 e5 Do
    replace e3:=Zi e3 e5 Do
    replace ho:=Zi ho e5 Do
    replace b8:=b8.only e5 Do
    replace e7:=Zf e7 cl
    have o2:Below w.heap.size (W.drew) (eh)∧Ze [217] (W.drew) (eh):=⟨f3.1.trans y2,f3.2.trans e5⟩
    refine⟨o2,?_⟩
    refine Ztr [8,9,10] 3 rfl #[true,true,true,true,true,true,true,true,true,true,true,false,false,false] [(78,.tuple #[.agg #[V0 (((Zd l details 3 fuel).es.getD i Zo).1),V0 (↑(Kj ((Zd l details 3 fuel).es.getD i Zo).2.1 1):Int),V0 (↑(Kj ((Zd l details 3 fuel).es.getD i Zo).2.1 2):Int),V0 (↑(Kj ((Zd l details 3 fuel).es.getD i Zo).2.1 3):Int),.slice pm ((ownO l ((Zd l top 1 fuel).es.getD i Zo) data fuel).2.2.length) cm],.nilIface]),(87,.agg #[V0 (((Zd l details 3 fuel).es.getD i Zo).1),V0 (↑(Kj ((Zd l details 3 fuel).es.getD i Zo).2.1 1):Int),V0 (↑(Kj ((Zd l details 3 fuel).es.getD i Zo).2.1 2):Int),V0 (↑(Kj ((Zd l details 3 fuel).es.getD i Zo).2.1 3):Int),.slice pm ((ownO l ((Zd l top 1 fuel).es.getD i Zo) data fuel).2.2.length) cm]),(88,.nilIface)] K0 (fun _ _ _ _ _ h=>h) K0 o2 ?_
    refine Ur 11 2 rfl K0 rfl K0 (Qt [V0 0,V0 0,V0 0,V0 0,S0] rfl K0 ?_)
    intro ch eq c2
    have w8:=c2.ne a3
    have w9:=c2.ne a4
    have x0:=c2.ne a1
    have v2:=c2.ne a2
    have w3:=c2.ne a6
    have v3:=c2.ne a5
    have q0:=c2.ne e2
    have p7:=c2.ne a0
    have j5:=c2.ne k8
    have ef:=c2.ge0 hB
    have n0:=Zu ho c2
    have o8:(W.drew).heap.size≤ch:=by have:=o2.1.size;have:=c2.at_;omega
    replace hB:=blB hB l6 c2.below
    replace a3:=a3.below c2.below
    replace a4:=a4.below c2.below
    replace a1:=a1.below c2.below
    replace a2:=a2.below c2.below
    replace a6:=a6.below c2.below
    replace a5:=a5.below c2.below
    replace e2:=e2.below c2.below
    replace a0:=a0.below c2.below
    replace k8:=k8.below c2.below
    replace hZ:=hZ.below c2.below
    replace e4:=Zb e4 c2.below
    replace e3:=Zb e3 c2.below
    replace ho:=Zb ho c2.below
    replace b8:=b8.below c2.below
    replace e7:=Zb e7 c2.below
    have x6:=c2.blk
    have v7:Below w.heap.size (W.drew) (eq)∧Ze [217] (W.drew) (eq):=⟨blB o2.1 (N0 l6 s6.size) c2.below,o2.2.trans (Q0 c2.below)⟩
    refine⟨v7,?_⟩
    refine Ur 12 1 rfl K0 rfl K0 (Nz (b:=ch) (off:=0) [V0 (((Zd l details 3 fuel).es.getD i Zo).1),V0 (↑(Kj ((Zd l details 3 fuel).es.getD i Zo).2.1 1):Int),V0 (↑(Kj ((Zd l details 3 fuel).es.getD i Zo).2.1 2):Int),V0 (↑(Kj ((Zd l details 3 fuel).es.getD i Zo).2.1 3):Int),.slice pm ((ownO l ((Zd l top 1 fuel).es.getD i Zo) data fuel).2.2.length) cm] rfl K0 K0 K0 (by first|decide|simp[Value.oneCell']) x6 (by first|decide|simp) ?_)
    intro ew i0 p5
    change Blk _ _ [V0 (((Zd l details 3 fuel).es.getD i Zo).1),V0 (↑(Kj ((Zd l details 3 fuel).es.getD i Zo).2.1 1):Int),V0 (↑(Kj ((Zd l details 3 fuel).es.getD i Zo).2.1 2):Int),V0 (↑(Kj ((Zd l details 3 fuel).es.getD i Zo).2.1 3):Int),.slice pm ((ownO l ((Zd l top 1 fuel).es.getD i Zo) data fuel).2.2.length) cm] _ at p5
    replace hB:=i0.below hB (N0 l6 ef)
    replace a3:=i0.blk a3 w8
    replace a4:=i0.blk a4 w9
    replace a1:=i0.blk a1 x0
    replace a2:=i0.blk a2 v2
    replace a6:=i0.blk a6 w3
    replace a5:=i0.blk a5 v3
    replace e2:=i0.blk e2 q0
    replace a0:=i0.blk a0 p7
    replace k8:=i0.blk k8 j5
    replace hZ:=hZ.upd i0 x6 (.inr (N0 hF.size o8))
    replace e4:=i0.own2 e4 x6 Do
    replace e3:=i0.own2 e3 x6 Do
    replace ho:=i0.own3 ho n0
    replace b8:=b8.only (Q1 (T:=[95]) i0 x6 Do) Do
    replace e7:=i0.own2 e7 x6 Do
    have af:Below w.heap.size (W.drew) (ew)∧Ze [217] (W.drew) (ew):=⟨i0.below v7.1 (N0 l6 ef),Ze.upd_new v7.2 i0 o8⟩
    refine⟨af,?_⟩
    refine Ztr [13] 0 rfl #[true,true,true,true,true,true,true,true,true,true,true,true,true,true] [(22,.nilIface)] K0 (fun _ _ _ _ _ h=>h) K0 af ?_
    refine Th _ K0 ?_
    refine wpIn_seq ?_
    refine wpIn_seq ?_
    refine Li (fun⟨_,_,q⟩=>q) (by simp) ?_
    refine Vn 2 [(89,.nilIface),(90,.bool false)] K0 ?_
    refine wpList_nil ?_
    refine wpIn_cond_false K0 ?_
    refine wpIn_skip ?_
    refine Li (fun⟨_,_,q⟩=>q) (by simp) ?_
    refine Yx K0 (Ys ⟨f0,0,none⟩ (.slice p i cp) rfl K0 K0 (k8.cell (i:=0) rfl) ?_)
    refine Yx K0 (Gw (b:=ch) (off:=0) [V0 (((Zd l details 3 fuel).es.getD i Zo).1),V0 (↑(Kj ((Zd l details 3 fuel).es.getD i Zo).2.1 1):Int),V0 (↑(Kj ((Zd l details 3 fuel).es.getD i Zo).2.1 2):Int),V0 (↑(Kj ((Zd l details 3 fuel).es.getD i Zo).2.1 3):Int),.slice pm ((ownO l ((Zd l top 1 fuel).es.getD i Zo) data fuel).2.2.length) cm] _ rfl K0 Tryz.underlying95 rfl K0 p5.whole ?_)
    refine Yx K0 (Yq 95 [V0 (((Zd l details 3 fuel).es.getD i Zo).1),V0 (↑(Kj ((Zd l details 3 fuel).es.getD i Zo).2.1 1):Int),V0 (↑(Kj ((Zd l details 3 fuel).es.getD i Zo).2.1 2):Int),V0 (↑(Kj ((Zd l details 3 fuel).es.getD i Zo).2.1 3):Int),.slice pm ((ownO l ((Zd l top 1 fuel).es.getD i Zo) data fuel).2.2.length) cm] rfl K0 ?_)
    intro gs gk c3
    have br:=c3.ne a3
    have bz:=c3.ne a4
    have bw:=c3.ne a1
    have dr:=c3.ne a2
    have ce:=c3.ne a6
    have bn:=c3.ne a5
    have az:=c3.ne e2
    have au:=c3.ne a0
    have ba:=c3.ne k8
    have bg:=c3.ne p5
    have gi:=c3.ge0 hB
    have dw:=Zu ho c3
    replace hB:=blB hB l6 c3.below
    replace a3:=a3.below c3.below
    replace a4:=a4.below c3.below
    replace a1:=a1.below c3.below
    replace a2:=a2.below c3.below
    replace a6:=a6.below c3.below
    replace a5:=a5.below c3.below
    replace e2:=e2.below c3.below
    replace a0:=a0.below c3.below
    replace k8:=k8.below c3.below
    replace p5:=p5.below c3.below
    replace hZ:=hZ.below c3.below
    replace e4:=Zb e4 c3.below
    replace e3:=Zb e3 c3.below
    replace ho:=Zb ho c3.below
    replace b8:=b8.below c3.below
    replace e7:=Zb e7 c3.below
    have gb:=c3.blk
    refine Yx K0 (Xi (e:=95) (n:=i) (xs:=(Z.flatMap Zh5)) (m:=1) (news:=[V0 (((Zd l details 3 fuel).es.getD i Zo).1),V0 (↑(Kj ((Zd l details 3 fuel).es.getD i Zo).2.1 1):Int),V0 (↑(Kj ((Zd l details 3 fuel).es.getD i Zo).2.1 2):Int),V0 (↑(Kj ((Zd l details 3 fuel).es.getD i Zo).2.1 3):Int),.slice pm ((ownO l ((Zd l top 1 fuel).es.getD i Zo) data fuel).2.2.length) cm]) (.agg #[V0 0,V0 0,V0 0,V0 0,S0]) 5 56 (i+1) (((Z++[(devX l ((Zd l details 3 fuel).es.getD i Zo) ((Zd l top 1 fuel).es.getD i Zo) data fuel,pm,cm)]).flatMap Zh5)) rfl Tryz.underlying46 K0 rfl Do K0 ho K0 (gb.sl 1 1 Do Do) rfl (by simp[Value.oneCell']) (by unfold maxLen;omega) M0 (N0 hZ.l0 hZ.le) (rfl) (by rw[C8];rfl) ?_)
    intro en ej hc bt c1 di
    replace a3:=a3.grown c1 ho Do
    replace a4:=a4.grown c1 ho Do
    replace a1:=a1.grown c1 ho Do
    replace a2:=a2.grown c1 ho Do
    replace a6:=a6.grown c1 ho Do
    replace a5:=a5.grown c1 ho Do
    replace e2:=e2.grown c1 ho Do
    replace a0:=a0.grown c1 ho Do
    replace k8:=k8.grown c1 ho Do
    replace p5:=p5.grown3 c1 n0
    replace hZ:=hZ.grown c1 ho
    replace e4:=Xe e4 c1 ho Do
    replace e3:=Xe e3 c1 ho Do
    replace b8:=b8.only (Q4 (T:=[95]) c1 ho Do) Do
    replace e7:=Xe e7 c1 ho Do
    replace hB:=hB.trans (di.mono i9)
    refine Yx K0 (Yr (v:=.slice en (i+1) ej) (b:=f0) (off:=0) rfl K0 K0 K0 rfl k8 (by first|decide|simp) ?_)
    intro gw i4 ei
    change Blk _ _ [.slice en (i+1) ej] _ at ei
    replace hB:=i4.below hB fc
    replace a3:=i4.blk a3 i7
    replace a4:=i4.blk a4 i8
    replace a1:=i4.blk a1 g0
    replace a2:=i4.blk a2 g5
    replace a6:=i4.blk a6 i6
    replace a5:=i4.blk a5 j0
    replace e2:=i4.blk e2 l4
    replace a0:=i4.blk a0 g7
    replace p5:=i4.blk p5 (S3 j5)
    replace hZ:=hZ.upd i4 k8 (.inl (by simp))
    replace e4:=i4.own2 e4 k8 Do
    replace e3:=i4.own2 e3 k8 Do
    replace b8:=b8.only (Q1 (T:=[46]) i4 k8 Do) Do
    replace e7:=i4.own2 e7 k8 Do
    replace bt:=i4.own2 bt k8 Do
    refine wpList_nil ?_
    exact⟨hZ.ko.from _,⟨hZ.le,fun d hd=>hZ.fr d (x2 d hd) (z1 d hd)⟩,s3.trans hB,Zsl hF hZ (fun k hk=>by simp only[A9,B7,or_false] at hk ⊢;rcases hk with rfl|rfl|rfl|rfl;exact .inr ((show _=_ from a1).trans (show _=_ from f8).symm);exact .inr ((show _=_ from a2).trans (show _=_ from f7).symm);exact .inl (by simp);exact .inl (by simp)),e2,Zuf n7,Zhd w4 n7,_,_,_,ei,bt,(b8.snoc (d:=devX l ((Zd l details 3 fuel).es.getD i Zo) ((Zd l top 1 fuel).es.getD i Zo) data fuel) rfl e7),by simp[z5],by rw[B5,z7,Zhu];rfl⟩
   ·refine Qt [V0 0,V0 0,V0 0,V0 0,S0] rfl K0 ?_
    intro cy ep c5
    have w1:=c5.ne a3
    have w2:=c5.ne a4
    have t9:=c5.ne a1
    have u1:=c5.ne a2
    have u9:=c5.ne a6
    have t3:=c5.ne a5
    have q4:=c5.ne kl
    have q3:=c5.ne a0
    have j1:=c5.ne k8
    have ez:=c5.ge0 hB
    have o5:=Zu ho c5
    have o7:(W.drew).heap.size≤cy:=by have:=f3.1.size;have:=c5.at_;omega
    replace hB:=blB hB l6 c5.below
    replace a3:=a3.below c5.below
    replace a4:=a4.below c5.below
    replace a1:=a1.below c5.below
    replace a2:=a2.below c5.below
    replace a6:=a6.below c5.below
    replace a5:=a5.below c5.below
    replace kl:=kl.below c5.below
    replace a0:=a0.below c5.below
    replace k8:=k8.below c5.below
    replace hZ:=hZ.below c5.below
    replace e4:=Zb e4 c5.below
    replace e3:=Zb e3 c5.below
    replace ho:=Zb ho c5.below
    replace b8:=b8.below c5.below
    have s7:=c5.blk
    have w5:Below w.heap.size (W.drew) (ep)∧Ze [217] (W.drew) (ep):=⟨blB f3.1 (N0 l6 s6.size) c5.below,f3.2.trans (Q0 c5.below)⟩
    refine⟨w5,?_⟩
    have dm:=kl
    have cl:=N0 hF.size hZ.le
    have dy:∀ h:(Ib l ((Zd l details 3 fuel).es.getD i Zo) ((Zd l top 1 fuel).es.getD i Zo) data fuel (Zwt l (Zd l top 1 fuel).es data fuel i)).2≠0,False:=fun n7=>by have e:=(Fv dp cn M0 ao).trans (Zgr (i:=i) M0 w4 n7);rw[hgood] at e;exact n7 (congrArg (fun z=>z.2.1) e).symm
    refine Ur 7 5 rfl K0 rfl K0 (Yu (lb:=#[]) 107 #[P0 e6,.agg #[V0 (((Zd l details 3 fuel).es.getD i Zo).1),.string ⟨(((Zd l details 3 fuel).es.getD i Zo).2.1).toArray⟩,V0 (((Zd l details 3 fuel).es.getD i Zo).2.2)],.agg #[V0 (((Zd l top 1 fuel).es.getD i Zo).1),.string ⟨(((Zd l top 1 fuel).es.getD i Zo).2.1).toArray⟩,V0 (((Zd l top 1 fuel).es.getD i Zo).2.2)]] rfl K0 (fun _ _=>by kernel_rfl) K0 (((Zbw w.heap.size Bi e6 b pi ni ci l data fuel (Zwt l (Zd l top 1 fuel).es data fuel i) ((Zd l details 3 fuel).es.getD i Zo) ((Zd l top 1 fuel).es.getD i Zo) _ (hI.below (s3.trans hB)) kl hfu (Js _ _ _ _ i M0) (Js _ _ _ _ i M0) bo ey (N0 l6 hB.size)).mono (fun _ _ q=>q.resolve_left (fun z=>dy z.1))).mono ?_))
    rintro e ed ⟨n7,pm,cm,rfl,y6,c7,da,f5,e7⟩
    refine⟨_,rfl,?_⟩
    replace hB:=hB.trans y6
    replace a3:=a3.only c7 Do
    replace a4:=a4.only c7 Do
    replace a1:=a1.only c7 Do
    replace a2:=a2.only c7 Do
    replace a6:=a6.only c7 Do
    replace a5:=a5.only c7 Do
    replace a0:=a0.only c7 Do
    replace k8:=k8.only c7 Do
    replace s7:=s7.only c7 Do
    replace hZ:=hZ.frm da dm (by simp)
    replace e4:=Zi e4 c7 Do
    replace e3:=Zi e3 c7 Do
    replace ho:=Zi ho c7 Do
    replace b8:=b8.only c7 Do
    replace e7:=Zf e7 cl
    have p8:Below w.heap.size (W.drew) (ed)∧Ze [217] (W.drew) (ed):=⟨w5.1.trans y6,w5.2.trans c7⟩
    refine⟨p8,?_⟩
    refine Ztr [8,9,10] 2 rfl #[true,true,true,true,true,true,true,true,true,true,true,true,false,false] [(78,.tuple #[.agg #[V0 (((Zd l details 3 fuel).es.getD i Zo).1),V0 (↑(Kj ((Zd l details 3 fuel).es.getD i Zo).2.1 1):Int),V0 (↑(Kj ((Zd l details 3 fuel).es.getD i Zo).2.1 2):Int),V0 (↑(Kj ((Zd l details 3 fuel).es.getD i Zo).2.1 3):Int),.slice pm ((ownO l ((Zd l top 1 fuel).es.getD i Zo) data fuel).2.2.length) cm],.nilIface]),(87,.agg #[V0 (((Zd l details 3 fuel).es.getD i Zo).1),V0 (↑(Kj ((Zd l details 3 fuel).es.getD i Zo).2.1 1):Int),V0 (↑(Kj ((Zd l details 3 fuel).es.getD i Zo).2.1 2):Int),V0 (↑(Kj ((Zd l details 3 fuel).es.getD i Zo).2.1 3):Int),.slice pm ((ownO l ((Zd l top 1 fuel).es.getD i Zo) data fuel).2.2.length) cm]),(88,.nilIface)] K0 (fun _ _ _ _ _ h=>h) K0 p8 ?_
    refine Ur 12 1 rfl K0 rfl K0 (Nz (b:=cy) (off:=0) [V0 (((Zd l details 3 fuel).es.getD i Zo).1),V0 (↑(Kj ((Zd l details 3 fuel).es.getD i Zo).2.1 1):Int),V0 (↑(Kj ((Zd l details 3 fuel).es.getD i Zo).2.1 2):Int),V0 (↑(Kj ((Zd l details 3 fuel).es.getD i Zo).2.1 3):Int),.slice pm ((ownO l ((Zd l top 1 fuel).es.getD i Zo) data fuel).2.2.length) cm] rfl K0 K0 K0 (by first|decide|simp[Value.oneCell']) s7 (by first|decide|simp) ?_)
    intro ek h0 q6
    change Blk _ _ [V0 (((Zd l details 3 fuel).es.getD i Zo).1),V0 (↑(Kj ((Zd l details 3 fuel).es.getD i Zo).2.1 1):Int),V0 (↑(Kj ((Zd l details 3 fuel).es.getD i Zo).2.1 2):Int),V0 (↑(Kj ((Zd l details 3 fuel).es.getD i Zo).2.1 3):Int),.slice pm ((ownO l ((Zd l top 1 fuel).es.getD i Zo) data fuel).2.2.length) cm] _ at q6
    replace hB:=h0.below hB (N0 l6 ez)
    replace a3:=h0.blk a3 w1
    replace a4:=h0.blk a4 w2
    replace a1:=h0.blk a1 t9
    replace a2:=h0.blk a2 u1
    replace a6:=h0.blk a6 u9
    replace a5:=h0.blk a5 t3
    replace f5:=h0.blk f5 q4
    replace a0:=h0.blk a0 q3
    replace k8:=h0.blk k8 j1
    replace hZ:=hZ.upd h0 s7 (.inr (N0 hF.size o7))
    replace e4:=h0.own2 e4 s7 Do
    replace e3:=h0.own2 e3 s7 Do
    replace ho:=h0.own3 ho o5
    replace b8:=b8.only (Q1 (T:=[95]) h0 s7 Do) Do
    replace e7:=h0.own2 e7 s7 Do
    have z9:Below w.heap.size (W.drew) (ek)∧Ze [217] (W.drew) (ek):=⟨h0.below p8.1 (N0 l6 ez),Ze.upd_new p8.2 h0 o7⟩
    refine⟨z9,?_⟩
    refine Ztr [13] 0 rfl #[true,true,true,true,true,true,true,true,true,true,true,true,true,true] [(22,.nilIface)] K0 (fun _ _ _ _ _ h=>h) K0 z9 ?_
    refine Th _ K0 ?_
    refine wpIn_seq ?_
    refine wpIn_seq ?_
    refine Li (fun⟨_,_,q⟩=>q) (by simp) ?_
    refine Vn 2 [(89,.nilIface),(90,.bool false)] K0 ?_
    refine wpList_nil ?_
    refine wpIn_cond_false K0 ?_
    refine wpIn_skip ?_
    refine Li (fun⟨_,_,q⟩=>q) (by simp) ?_
    refine Yx K0 (Ys ⟨f0,0,none⟩ (.slice p i cp) rfl K0 K0 (k8.cell (i:=0) rfl) ?_)
    refine Yx K0 (Gw (b:=cy) (off:=0) [V0 (((Zd l details 3 fuel).es.getD i Zo).1),V0 (↑(Kj ((Zd l details 3 fuel).es.getD i Zo).2.1 1):Int),V0 (↑(Kj ((Zd l details 3 fuel).es.getD i Zo).2.1 2):Int),V0 (↑(Kj ((Zd l details 3 fuel).es.getD i Zo).2.1 3):Int),.slice pm ((ownO l ((Zd l top 1 fuel).es.getD i Zo) data fuel).2.2.length) cm] _ rfl K0 Tryz.underlying95 rfl K0 q6.whole ?_)
    refine Yx K0 (Yq 95 [V0 (((Zd l details 3 fuel).es.getD i Zo).1),V0 (↑(Kj ((Zd l details 3 fuel).es.getD i Zo).2.1 1):Int),V0 (↑(Kj ((Zd l details 3 fuel).es.getD i Zo).2.1 2):Int),V0 (↑(Kj ((Zd l details 3 fuel).es.getD i Zo).2.1 3):Int),.slice pm ((ownO l ((Zd l top 1 fuel).es.getD i Zo) data fuel).2.2.length) cm] rfl K0 ?_)
    intro ha gy c4
    have dk:=c4.ne a3
    have bp:=c4.ne a4
    have cq:=c4.ne a1
    have bx:=c4.ne a2
    have cs:=c4.ne a6
    have cf:=c4.ne a5
    have bj:=c4.ne f5
    have bi:=c4.ne a0
    have bb:=c4.ne k8
    have ak:=c4.ne q6
    have gt:=c4.ge0 hB
    have cx:=Zu ho c4
    replace hB:=blB hB l6 c4.below
    replace a3:=a3.below c4.below
    replace a4:=a4.below c4.below
    replace a1:=a1.below c4.below
    replace a2:=a2.below c4.below
    replace a6:=a6.below c4.below
    replace a5:=a5.below c4.below
    replace f5:=f5.below c4.below
    replace a0:=a0.below c4.below
    replace k8:=k8.below c4.below
    replace q6:=q6.below c4.below
    replace hZ:=hZ.below c4.below
    replace e4:=Zb e4 c4.below
    replace e3:=Zb e3 c4.below
    replace ho:=Zb ho c4.below
    replace b8:=b8.below c4.below
    replace e7:=Zb e7 c4.below
    have fu:=c4.blk
    refine Yx K0 (Xi (e:=95) (n:=i) (xs:=(Z.flatMap Zh5)) (m:=1) (news:=[V0 (((Zd l details 3 fuel).es.getD i Zo).1),V0 (↑(Kj ((Zd l details 3 fuel).es.getD i Zo).2.1 1):Int),V0 (↑(Kj ((Zd l details 3 fuel).es.getD i Zo).2.1 2):Int),V0 (↑(Kj ((Zd l details 3 fuel).es.getD i Zo).2.1 3):Int),.slice pm ((ownO l ((Zd l top 1 fuel).es.getD i Zo) data fuel).2.2.length) cm]) (.agg #[V0 0,V0 0,V0 0,V0 0,S0]) 5 56 (i+1) (((Z++[(devX l ((Zd l details 3 fuel).es.getD i Zo) ((Zd l top 1 fuel).es.getD i Zo) data fuel,pm,cm)]).flatMap Zh5)) rfl Tryz.underlying46 K0 rfl Do K0 ho K0 (fu.sl 1 1 Do Do) rfl (by simp[Value.oneCell']) (by unfold maxLen;omega) M0 (N0 hZ.l0 hZ.le) (rfl) (by rw[C8];rfl) ?_)
    intro er eg gx dj c0 cz
    replace a3:=a3.grown c0 ho Do
    replace a4:=a4.grown c0 ho Do
    replace a1:=a1.grown c0 ho Do
    replace a2:=a2.grown c0 ho Do
    replace a6:=a6.grown c0 ho Do
    replace a5:=a5.grown c0 ho Do
    replace f5:=f5.grown c0 ho Do
    replace a0:=a0.grown c0 ho Do
    replace k8:=k8.grown c0 ho Do
    replace q6:=q6.grown3 c0 o5
    replace hZ:=hZ.grown c0 ho
    replace e4:=Xe e4 c0 ho Do
    replace e3:=Xe e3 c0 ho Do
    replace b8:=b8.only (Q4 (T:=[95]) c0 ho Do) Do
    replace e7:=Xe e7 c0 ho Do
    replace hB:=hB.trans (cz.mono i9)
    refine Yx K0 (Yr (v:=.slice er (i+1) eg) (b:=f0) (off:=0) rfl K0 K0 K0 rfl k8 (by first|decide|simp) ?_)
    intro gv i5 ev
    change Blk _ _ [.slice er (i+1) eg] _ at ev
    replace hB:=i5.below hB fc
    replace a3:=i5.blk a3 i7
    replace a4:=i5.blk a4 i8
    replace a1:=i5.blk a1 g0
    replace a2:=i5.blk a2 g5
    replace a6:=i5.blk a6 i6
    replace a5:=i5.blk a5 j0
    replace f5:=i5.blk f5 l4
    replace a0:=i5.blk a0 g7
    replace q6:=i5.blk q6 (S3 j1)
    replace hZ:=hZ.upd i5 k8 (.inl (by simp))
    replace e4:=i5.own2 e4 k8 Do
    replace e3:=i5.own2 e3 k8 Do
    replace b8:=b8.only (Q1 (T:=[46]) i5 k8 Do) Do
    replace e7:=i5.own2 e7 k8 Do
    replace dj:=i5.own2 dj k8 Do
    refine wpList_nil ?_
    exact⟨hZ.ko.from _,⟨hZ.le,fun d hd=>hZ.fr d (x2 d hd) (z1 d hd)⟩,s3.trans hB,Zsl hF hZ (fun k hk=>by simp only[A9,B7,or_false] at hk ⊢;rcases hk with rfl|rfl|rfl|rfl;exact .inr ((show _=_ from a1).trans (show _=_ from f8).symm);exact .inr ((show _=_ from a2).trans (show _=_ from f7).symm);exact .inl (by simp);exact .inl (by simp)),f5,Zuf n7,Zhd w4 n7,_,_,_,ev,dj,(b8.snoc (d:=devX l ((Zd l details 3 fuel).es.getD i Zo) ((Zd l top 1 fuel).es.getD i Zo) data fuel) rfl e7),by simp[z5],by rw[B5,z7,Zhu];rfl⟩
  case stop =>
   intro D c k V hD hk hF
   exact hF.elim
  case done =>
   rintro D2 W8 ga ⟨p6,s2,gz,bo,w4,p,cp,Z,k8,ho,b8,z5,z7⟩ aa
   have w6:Dfr D2 W8:=aa;clear aa
   have hK:Dfr D1 W8:=(s2.block D1 dg fh).trans fn
   have y5:D1≠D2:=by omega
   rw[(Zc7 x9).1] at w4 k8 ho z5 z7
   have j7:=s0.fr s2 (by simp only[A9,B7,or_false];rintro(h|h|h|h);omega;omega;exact k5 h;exact l3 h)
   have j2:=r5.fr s2 (by simp only[A9,B7,or_false];rintro(h|h|h|h);omega;omega;exact j6 h;exact j3 h)
   have i2:=f8.fr s2 (by simp only[A9,B7,or_false];rintro(h|h|h|h);omega;omega;exact l8 h;exact m0 h)
   have f1:=f7.fr s2 (by simp only[A9,B7,or_false];rintro(h|h|h|h);omega;omega;exact j8 h;exact l9 h)
   have k0:=q9.fr s2 (by simp only[A9,B7,or_false];rintro(h|h|h|h);omega;omega;exact l2 h;exact j9 h)
   have l1:=s1.fr s2 (by simp only[A9,B7,or_false];rintro(h|h|h|h);omega;omega;exact m2 h;exact j4 h)
   have f9:=n5.fr s2 (by simp only[A9,B7,or_false];rintro(h|h|h|h);omega;omega;exact i3 h;exact i1 h)
   replace hB:=p6
   refine wp_seq ?_
   refine wp_region_lit ?_
   refine Yx K0 (Ys ⟨f0,0,none⟩ (.slice p ((Zd l details 3 fuel).es.length) cp) rfl K0 K0 (k8.cell (i:=0) rfl) ?_)
   refine Yx K0 (Yr (v:=.slice p ((Zd l details 3 fuel).es.length) cp) (b:=b3) (off:=0) rfl K0 K0 K0 rfl i2 (by first|decide|simp) ?_)
   intro gn m6 bm
   change Blk _ _ [.slice p ((Zd l details 3 fuel).es.length) cp] _ at bm
   replace hB:=m6.below hB g3
   replace j7:=m6.blk j7 z3
   replace j2:=m6.blk j2 z0
   replace f1:=m6.blk f1 (S3 r0)
   replace k0:=m6.blk k0 (S3 r8)
   replace l1:=m6.blk l1 (S3 r7)
   replace f9:=m6.blk f9 (S3 o4)
   replace k8:=m6.blk k8 (S3 g0)
   replace ho:=m6.own2 ho i2 Do
   replace b8:=b8.only (Q1 (T:=[46]) m6 i2 Do) Do
   replace hK:=hK.upd m6 i2
   replace w6:=w6.upd m6 i2
   refine Yx K0 (Yr (v:=.nilIface) (b:=b4) (off:=0) rfl K0 K0 K0 rfl f1 (by first|decide|simp) ?_)
   intro gp m8 el
   change Blk _ _ [.nilIface] _ at el
   replace hB:=m8.below hB g4
   replace j7:=m8.blk j7 ad
   replace j2:=m8.blk j2 ah
   replace bm:=m8.blk bm r0
   replace k0:=m8.blk k0 (S3 s9)
   replace l1:=m8.blk l1 (S3 r2)
   replace f9:=m8.blk f9 (S3 o3)
   replace k8:=m8.blk k8 (S3 g5)
   replace ho:=m8.own2 ho f1 Do
   replace b8:=b8.only (Q1 (T:=[28]) m8 f1 Do) Do
   replace hK:=hK.upd m8 f1
   replace w6:=w6.upd m8 f1
   refine wpList_nil ?_
   have fd:=hK.put y5 (.deferred none)
   refine wp_ret ?_
   refine ret2 bm el hK w6 y5 (resLD (.inl rfl) K0 K0) rfl ?_
   refine ldevs_ok ((Fv dp cn M0 ao).trans (Zl5 w4)) z5 z7 (Zlp (Zlp hB hB.size (N0 i9 ga) _) (by simpa [World.putObj] using hB.size) (N0 v9 gc) _) ((((b8.mono i9).pt w6 _).pt fd _)) (Zsd (Zsd (Zf ho i9) w6 _) fd _)
def M24:Bl:=Td Mf [50331652] 1
def eM:List Ent:=[(7,M24,0)]
def Ru(O:List Int×Int×List Dv)(V:World)(p:O0)(c:Nat)(Z:List Zv):Prop:=Z.length=O.2.2.length∧Z.map Prod.fst=O.2.2∧Yt 0 V Z∧V.ownsRow 0 95 5 (.slice p O.2.2.length c) O.2.2.length (Z.flatMap Zh5)
theorem Ru.below{O:List Int×Int×List Dv}{V W:World}{p:O0}{c:Nat}{Z:List Zv}(h:Ru O V p c Z)(hb:Below V.heap.size V W):Ru O W p c Z:=⟨h.1,h.2.1,h.2.2.1.below hb,Zb h.2.2.2 hb⟩
theorem Ru.only{O:List Int×Int×List Dv}{V W:World}{p:O0}{c:Nat}{Z:List Zv}{T:List TypeId}(h:Ru O V p c Z)(hO:Ze T V W)(hT:(T.contains 159||T.contains 95)=false):Ru O W p c Z:=by
 rw[K7] at hT
 exact⟨h.1,h.2.1,h.2.2.1.only hO hT.1,Zi h.2.2.2 hO hT.2⟩
theorem Ru.read{O:List Int×Int×List Dv}{V:World}{p:O0}{c:Nat}{Z:List Zv}(h:Ru O V p c Z):DevsR V p c Z:=by
 have ho:=h.2.2.2
 rw[←h.1] at ho
 exact Zvb h.2.2.1 ho
theorem devsQ_of{O:List Int×Int×List Dv}{V:World}{B:Nat}{p:O0}{c:Nat}{Z:List Zv}(hZ:Z.map Prod.fst=O.2.2)(hM:Yt B V Z)(ho:V.ownsRow B 95 5 (.slice p O.2.2.length c) O.2.2.length (Z.flatMap Zh5)):Ru O V p c Z:=by
 have hl:Z.length=O.2.2.length:=by rw[←hZ,A6]
 exact⟨hl,hZ,hM.mono (A3 _),Zf ho (A3 _)⟩
theorem Zfe(Bi b:Nat)(pi:O0)(ni ci:Nat)(l:Bl)(top details data fuel:Int)(w:World)(hI:ImgR Bi b pi ni ci l w)(hfu:fuel≤1000000)(Lg:List Dv)(hgood:Zcg l top details data fuel=([],0,Lg)) :
 C0 57 #[P0 b,V0 top,V0 details,V0 data,V0 fuel] w (Kc (fun w' r=>∃ p c Z,r=.tuple #[.slice p Lg.length c,.nilIface]∧Ru ([],0,Lg) w' p c Z) w):=by
 refine(Zd4 Bi b pi ni ci l top details data fuel w hI hfu Lg hgood).mono ?_
 rintro e W q
 rw[hgood] at q
 rcases q with ⟨q,_⟩|⟨_,p,c,Z,rfl,hb,hZ,hM,ho⟩
 ·exact absurd rfl q
 ·exact⟨_,rfl,hb,p,c,Z,rfl,devsQ_of hZ hM ho⟩
theorem Zpy(Bi b:Nat)(pi:O0)(ni ci:Nat)(l:Bl)(fuel:Int)(w:World)(hI:ImgR Bi b pi ni ci l w)(hfu:fuel≤1000000)(Lg:List Dv)(hse:Yw l=0)(hgood:(Zcg l (Zh (inB l 0)).top (Zh (inB l 0)).details (Zh (inB l 0)).data fuel)=([],0,Lg)) :
 C0 19 #[P0 b,V0 fuel] w (Kc (fun w' r=>∃ p c Z,r=.tuple #[.agg #[V0 (Zh (inB l 0)).tx,V0 (Zh (inB l 0)).time,V0 (Zh (inB l 0)).unit,V0 (Zh (inB l 0)).data,.slice p Lg.length c],.agg #[V0 (((Zh (inB l 0))).tx),V0 (((Zh (inB l 0))).time),V0 (((Zh (inB l 0))).unit),V0 (((Zh (inB l 0))).data),V0 (((Zh (inB l 0))).blocks),V0 (((Zh (inB l 0))).top),V0 (((Zh (inB l 0))).details),V0 (((Zh (inB l 0))).dslots),V0 (((Zh (inB l 0))).dover),V0 (((Zh (inB l 0))).mindex),V0 (((Zh (inB l 0))).mover)],.nilIface]∧Ru ([],0,Lg) w' p c Z) w):=by
 refine zin 48 Tryz.func19 ?_
 refine xa 2 [V0 0,V0 0,V0 0,V0 0,S0] 48 fun b1 W1 n1=>?_
 refine xa 0 [V0 0,V0 0,V0 0,V0 0,V0 0,V0 0,V0 0,V0 0,V0 0,V0 0,V0 0] 24 fun b2 W2 n2=>?_
 have hB:=bln n1.below n2.below
 refine xc 6 (args:=#[P0 b]) ((Zkz Bi b pi ni ci l _ (hI.below hB)).mono (fun _ _ q=>Or.resolve_left q (fun z=>z.1 hse))) ?_
 rintro _ W3 ⟨_,rfl,a8⟩
 refine xa 3 [V0 0,V0 0,V0 0,V0 0,V0 0,V0 0,V0 0,V0 0,V0 0,V0 0,V0 0] 24 fun b4 W4 n4=>?_
 have k2:=n2.blk.below a8
 have a1:=n4.ne k2
 have a3:=bln hB a8
 have g4:=n4.ge a3
 refine xsv 0 n4.blk [V0 (((Zh (inB l 0))).tx),V0 (((Zh (inB l 0))).time),V0 (((Zh (inB l 0))).unit),V0 (((Zh (inB l 0))).data),V0 (((Zh (inB l 0))).blocks),V0 (((Zh (inB l 0))).top),V0 (((Zh (inB l 0))).details),V0 (((Zh (inB l 0))).dslots),V0 (((Zh (inB l 0))).dover),V0 (((Zh (inB l 0))).mindex),V0 (((Zh (inB l 0))).mover)] fun W5 u5 k5=>?_
 refine xb 17 5 k5 ?_
 refine xb 1 6 k5 ?_
 refine xb 1 3 k5 ?_
 have a5:=u5.below (bln a3 n4.below) g4
 refine xc 1 (Zfe Bi b pi ni ci l (Zh (inB l 0)).top (Zh (inB l 0)).details (Zh (inB l 0)).data fuel _ (hI.below a5) hfu Lg hgood) ?_
 rintro _ W6 ⟨_,rfl,a6,p9,c9,Z9,rfl,b0⟩
 refine xd 18 (.f w.heap.size [b1,b2]) ?_
 have a0:=(k5.below a6).below (Za W6)
 have k1:=((u5.blkT (((n1.blk.below n2.below).below a8).below n4.below) n4.blk Do).below a6).below (Za W6)
 refine xlt (.e [0] 1) (.f w.heap.size [b1,b2]) (fun V hV=>(a0.fr hV.2 (by simp only[A9,B7,or_false];rintro(h|h);exact(Blk.tne a0 k1 Do) h;exact(S3 a1) h)).cell (i:=0) rfl) ?_
 refine xlt (.e [2] 3) (.f w.heap.size [b1,b2]) (fun V hV=>(a0.fr hV.2 (by simp only[A9,B7,or_false];rintro(h|h);exact(Blk.tne a0 k1 Do) h;exact(S3 a1) h)).cell (i:=1) rfl) ?_
 refine xlt (.e [4] 5) (.f w.heap.size [b1,b2]) (fun V hV=>(a0.fr hV.2 (by simp only[A9,B7,or_false];rintro(h|h);exact(Blk.tne a0 k1 Do) h;exact(S3 a1) h)).cell (i:=2) rfl) ?_
 refine xlt (.e [6] 7) (.f w.heap.size [b1,b2]) (fun V hV=>(a0.fr hV.2 (by simp only[A9,B7,or_false];rintro(h|h);exact(Blk.tne a0 k1 Do) h;exact(S3 a1) h)).cell (i:=3) rfl) ?_
 refine Zun (.e [8,9] 10) (.f w.heap.size [b1,b2]) (fun V hV=>(a0.fr hV.2 (by simp only[A9,B7,or_false];rintro(h|h);exact(Blk.tne a0 k1 Do) h;exact(S3 a1) h)).rp) ?_
 have g1:=n1.ge (B4 w)
 refine ysv (.o [] 11) k1 [V0 (((Zh (inB l 0))).tx),V0 (((Zh (inB l 0))).time),V0 (((Zh (inB l 0))).unit),V0 (((Zh (inB l 0))).data),.slice p9 Lg.length c9] (.f w.heap.size [b1,b2]) fun W7 u7 k7=>⟨(Zwo u7 g1 (by simp)),?_⟩
 have a2:=u7.blkT (((u5.blk (k2.below n4.below) a1).below a6).below (Za W6)) k1 Do
 have g2:=n2.ge n1.below
 refine ysv (.o [] 12) a2 [V0 (((Zh (inB l 0))).tx),V0 (((Zh (inB l 0))).time),V0 (((Zh (inB l 0))).unit),V0 (((Zh (inB l 0))).data),V0 (((Zh (inB l 0))).blocks),V0 (((Zh (inB l 0))).top),V0 (((Zh (inB l 0))).details),V0 (((Zh (inB l 0))).dslots),V0 (((Zh (inB l 0))).dover),V0 (((Zh (inB l 0))).mindex),V0 (((Zh (inB l 0))).mover)] (.f w.heap.size [b1,b2]) fun W8 u8 k8=>⟨(Zwo u8 g2 (by simp)),?_⟩
 have a4:=((b0.below (Za W6)).only (Q1 (T:=[48]) u7 k1 Do) Do).only (Q1 (T:=[24]) u8 a2 Do) Do
 have a9:=u8.below (u7.below (bln (bln a5 a6) (Za W6)) g1) g2
 have a7:=u8.blkT k7 a2 Do
 exact xecm (.r [13] 3) [(b1,[V0 (((Zh (inB l 0))).tx),V0 (((Zh (inB l 0))).time),V0 (((Zh (inB l 0))).unit),V0 (((Zh (inB l 0))).data),.slice p9 Lg.length c9]),(b2,[V0 (((Zh (inB l 0))).tx),V0 (((Zh (inB l 0))).time),V0 (((Zh (inB l 0))).unit),V0 (((Zh (inB l 0))).data),V0 (((Zh (inB l 0))).blocks),V0 (((Zh (inB l 0))).top),V0 (((Zh (inB l 0))).details),V0 (((Zh (inB l 0))).dslots),V0 (((Zh (inB l 0))).dover),V0 (((Zh (inB l 0))).mindex),V0 (((Zh (inB l 0))).mover)])] ⟨⟨_,a7⟩,⟨_,k8⟩,trivial⟩ (.tuple #[.agg #[V0 (((Zh (inB l 0))).tx),V0 (((Zh (inB l 0))).time),V0 (((Zh (inB l 0))).unit),V0 (((Zh (inB l 0))).data),.slice p9 Lg.length c9],.agg #[V0 (((Zh (inB l 0))).tx),V0 (((Zh (inB l 0))).time),V0 (((Zh (inB l 0))).unit),V0 (((Zh (inB l 0))).data),V0 (((Zh (inB l 0))).blocks),V0 (((Zh (inB l 0))).top),V0 (((Zh (inB l 0))).details),V0 (((Zh (inB l 0))).dslots),V0 (((Zh (inB l 0))).dover),V0 (((Zh (inB l 0))).mindex),V0 (((Zh (inB l 0))).mover)],.nilIface]) ⟨_,rfl,a9,_,_,_,rfl,a4⟩
theorem Zk4(Bi b:Nat)(pi:O0)(ni ci:Nat)(l:Bl)(index over n fuel:Int)(m:Nat)(L:List Int)(w:World)(hI:ImgR Bi b pi ni ci l w)(hn:n≤1099511627776)(hfu:fuel≤1000000)(hO:Af l index over n fuel=([],0,L))(hm:L.length=m) :
 C0 21 #[P0 b,V0 index,V0 over,V0 n,V0 fuel] w (Kc (fun w' r=>∃ p c,r=.tuple #[.slice p m c,.nilIface]∧w'.ownsRow w.heap.size 3 1 (.slice p m c) m (L.map V0)) w):=by
 subst hm
 refine(Zrp Bi b pi ni ci l index over n fuel w hI hn hfu).mono ?_
 rintro e W q
 rw[hO] at q
 rcases q with ⟨h,_⟩|⟨h,p,c,rfl,hb,ho⟩
 ·exact absurd rfl h
 ·exact⟨_,rfl,hb,p,c,rfl,ho⟩
theorem Zkh(Bi b:Nat)(pi:O0)(ni ci:Nat)(l:Bl)(index over n fuel:Int)(m:Nat)(L:List Int)(w:World)(hI:ImgR Bi b pi ni ci l w)(hn:n≤1099511627776)(hfu:fuel≤1000000)(hO:Zcj l index over n fuel=([],0,L))(hm:L.length=m) :
 C0 22 #[P0 b,V0 index,V0 over,V0 n,V0 fuel] w (Kc (fun w' r=>∃ p c,r=.tuple #[.slice p m c,.nilIface]∧w'.ownsRow w.heap.size 3 1 (.slice p m c) m (L.map V0)) w):=by
 subst hm
 refine(Zoe Bi b pi ni ci l index over n fuel w hI hn hfu).mono ?_
 rintro e W q
 rw[hO] at q
 rcases q with ⟨h,_⟩|⟨h,p,c,rfl,hb,ho⟩
 ·exact absurd rfl h
 ·exact⟨_,rfl,hb,p,c,rfl,ho⟩
theorem Zek(a b:O0)(ca cb:Nat)(L:List Mp)(w:World)(ha:Sts Cu w (.slice a L.length ca) L)(hb:Sts Cu w (.slice b L.length cb) L) :
 C0 108 #[.slice a L.length ca,.slice b L.length cb] w (Ret (.bool true) w):=by
 have a5:=Sl.len ha
 refine zin 26 Tryz.func108 ?_
 refine xk 15 (show(((L.length:Int) != (L.length:Int)):Bool)=false from by simp) ?_
 have hB:=Below.refl w.heap.size w
 refine zl 11 26 (fun zm a4 V=>∃ (i:Nat),a4=[(0,.slice a L.length ca),(1,.slice b L.length cb),(12,V0 (L.length:Int)),(13,V0 (i:Int))]∧zm=L.length-((i:Int)).toNat∧B3 w V∧i≤L.length) ⟨0,rfl,rfl,hB,A3 _⟩ ?_
 rintro _ _ W1 ⟨i,rfl,rfl,a1,hi⟩ J1 a2 r1
 refine xid 6 ((i:Int)<(L.length:Int)) (fun a3=>?_) (fun a3=>?_)
 ·refine xd 11 .z ?_
  refine xx (.e [0,1] 2) _ L.length i 3 (Sts.cell ha Gx mpD (k:=i) (i:=0) M0 rfl).1 ?_
  have a0:=bln a1 (Za W1)
  refine xlv (.e [] 3) (Sts.rp (k:=i) (ha.below a0) Gx mpD M0 Do) ?_
  refine xx (.e [4,5] 6) _ L.length i 3 (Sts.cell hb Gx mpD (k:=i) (i:=0) M0 rfl).1 ?_
  refine xlv (.e [] 7) (Sts.rp (k:=i) (hb.below a0) Gx mpD M0 Do) ?_
  refine xbo (.e [] 8) (t:=159) (t2:=159) (fun _ _ _ _ zo zx zy V hV=>Zte (L.getD i mpD) zo zx zy V) ?_
  refine xwm 7 ((i:Int)+1) (↑(i+1):Int) ?_
  exact ze 2 (a2 _ _ _ ⟨i+1,rfl,rfl,a0,by omega⟩ M0)
 exact xe 11 (.bool true) ⟨rfl,a1⟩
theorem Zo0(a b:O0)(ca cb:Nat)(d:Dv)(w:World)(ha:Sts Cu w (.slice a d.2.length ca) d.2)(hb:Sts Cu w (.slice b d.2.length cb) d.2) :
 C0 59 #[.agg #[V0 d.1.1,V0 d.1.2.1,V0 d.1.2.2.1,V0 d.1.2.2.2,.slice a d.2.length ca],.agg #[V0 d.1.1,V0 d.1.2.1,V0 d.1.2.2.1,V0 d.1.2.2.2,.slice b d.2.length cb]] w (Ret (.bool true) w):=by
 refine zin 38 Tryz.func59 ?_
 refine xa 2 [V0 d.1.1,V0 d.1.2.1,V0 d.1.2.2.1,V0 d.1.2.2.2,.slice a d.2.length ca] 95 fun b1 W1 n1=>?_
 refine xa 0 [V0 d.1.1,V0 d.1.2.1,V0 d.1.2.2.1,V0 d.1.2.2.2,.slice b d.2.length cb] 95 fun b2 W2 n2=>?_
 have a2:=n2.ne n1.blk
 have a0:=n1.blk.below n2.below
 refine xb 6 0 a0 ?_
 refine xb 1 0 n2.blk ?_
 refine xgk 2 [9,10] (show((d.1.1==d.1.1):Bool)=true from by simp) ?_
 refine xb 1 1 a0 ?_
 refine xb 1 1 n2.blk ?_
 refine xgk 3 [15,16,17] (show((d.1.2.1==d.1.2.1):Bool)=true from by simp) ?_
 refine xb 1 2 a0 ?_
 refine xb 1 2 n2.blk ?_
 refine xgk 3 [22,23,24] (show((d.1.2.2.1==d.1.2.2.1):Bool)=true from by simp) ?_
 refine xb 1 3 a0 ?_
 refine xb 1 3 n2.blk ?_
 refine xgk 3 [29,30,31] (show((d.1.2.2.2==d.1.2.2.2):Bool)=true from by simp) ?_
 refine xb 1 4 a0 ?_
 refine xb 1 4 n2.blk ?_
 have hB:=bln n1.below n2.below
 refine xr 0 (Zek a b ca cb d.2 _ (ha.below hB) (hb.below hB)) fun W7 a3=>?_
 have a1:=bln hB a3
 exact xe 5 (.bool true) ⟨rfl,a1⟩
theorem Zkq(a b:O0)(ca cb:Nat)(d e:Dv)(w:World)(h:d=e)(ha:Sts Cu w (.slice a d.2.length ca) d.2)(hb:Sts Cu w (.slice b e.2.length cb) e.2) :
 C0 59 #[.agg #[V0 d.1.1,V0 d.1.2.1,V0 d.1.2.2.1,V0 d.1.2.2.2,.slice a d.2.length ca],.agg #[V0 e.1.1,V0 e.1.2.1,V0 e.1.2.2.1,V0 e.1.2.2.2,.slice b e.2.length cb]] w (Ret (.bool true) w):=by
 subst h;exact Zo0 a b ca cb d w ha hb
theorem Zop(p q:O0)(c d n:Nat)(Z Y:List Zv)(w:World)(hZ:Z.length=n)(hY:Y.length=n)(hZY:∀ i,i<n→(Z.getD i zvD).1=(Y.getD i zvD).1)(hP:DevsR w p c Z)(hQ:DevsR w q d Y) :
 C0 58 #[.slice p n c,.slice q n d,.func (.func 59) #[] #[]] w (Ret (.bool true) w):=by
 have b0:=Sl.len (hP.rowN hZ)
 refine zin 32 Tryz.func58 ?_
 refine xk 15 (show(((n:Int) != (n:Int)):Bool)=false from by simp) ?_
 have hB:=Below.refl w.heap.size w
 refine zl 11 32 (fun zm a9 V=>∃ (i:Nat),a9=[(1,.slice q n d),(2,.func (.func 59) #[] #[]),(15,.slice p n c),(16,V0 (n:Int)),(17,V0 (i:Int))]∧zm=n-((i:Int)).toNat∧B3 w V∧i≤n) ⟨0,rfl,rfl,hB,A3 _⟩ ?_
 rintro _ _ W1 ⟨i,rfl,rfl,a0,hi⟩ J1 a6 r1
 refine xid 6 ((i:Int)<(n:Int)) (fun a7=>?_) (fun a7=>?_)
 ·refine xx 7 _ n i 5 (hP.someN hZ (i:=i) M0) ?_
  refine xlv 0 (Sts.rp (k:=i) (hP.below a0).row Gu zvD M0 Do) ?_
  refine xa 0 [V0 0,V0 0,V0 0,V0 0,S0] 95 fun b3 W3 n3=>?_
  have g3:=n3.ge a0
  refine xsv 1 n3.blk [V0 ((Z.getD i zvD).1.1.1),V0 ((Z.getD i zvD).1.1.2.1),V0 ((Z.getD i zvD).1.1.2.2.1),V0 ((Z.getD i zvD).1.1.2.2.2),.slice ((Z.getD i zvD).2.1) ((Z.getD i zvD).1.2.length) ((Z.getD i zvD).2.2)] fun W4 u4 k4=>?_
  refine xx 6 _ n i 5 (hQ.someN hY (i:=i) M0) ?_
  have a1:=u4.below (bln a0 n3.below) g3
  refine xlv 0 (Sts.rp (k:=i) (hQ.below a1).row Gu zvD M0 Do) ?_
  refine xa 0 [V0 0,V0 0,V0 0,V0 0,S0] 95 fun b5 W5 n5=>?_
  have a3:=n5.ne k4
  have g5:=n5.ge a1
  refine xsv 0 n5.blk [V0 ((Y.getD i zvD).1.1.1),V0 ((Y.getD i zvD).1.1.2.1),V0 ((Y.getD i zvD).1.1.2.2.1),V0 ((Y.getD i zvD).1.1.2.2.2),.slice ((Y.getD i zvD).2.1) ((Y.getD i zvD).1.2.length) ((Y.getD i zvD).2.2)] fun W6 u6 k6=>?_
  have a4:=u6.blk (k4.below n5.below) a3
  refine xlv 5 a4.rp ?_
  refine xlv 0 k6.rp ?_
  have a2:=u6.below (bln a1 n5.below) g5
  refine xr 0 (Zkq (Z.getD i zvD).2.1 (Y.getD i zvD).2.1 (Z.getD i zvD).2.2 (Y.getD i zvD).2.2 (Z.getD i zvD).1 (Y.getD i zvD).1 _ (hZY i M0) ((hP.below a2).each i M0) ((hQ.below a2).each i M0)) fun W7 a8=>?_
  refine xwm 8 ((i:Int)+1) (↑(i+1):Int) ?_
  have a5:=bln a2 a8
  exact ze 2 (a6 _ _ _ ⟨i+1,rfl,rfl,a5,by omega⟩ M0)
 exact xe 11 (.bool true) ⟨rfl,a0⟩
theorem Ztf(p q:O0)(c d n:Nat)(t u v x:Int)(Z Y:List Zv)(w:World)(hZ:Z.length=n)(hY:Y.length=n)(hZY:∀ i,i<n→(Z.getD i zvD).1=(Y.getD i zvD).1)(hP:DevsR w p c Z)(hQ:DevsR w q d Y) :
 C0 20 #[.agg #[V0 t,V0 u,V0 v,V0 x,.slice p n c],.agg #[V0 t,V0 u,V0 v,V0 x,.slice q n d]] w (Ret (.bool true) w):=by
 refine zin 38 Tryz.func20 ?_
 refine xa 2 [V0 t,V0 u,V0 v,V0 x,.slice p n c] 48 fun b1 W1 n1=>?_
 refine xa 0 [V0 t,V0 u,V0 v,V0 x,.slice q n d] 48 fun b2 W2 n2=>?_
 have a2:=n2.ne n1.blk
 have a0:=n1.blk.below n2.below
 refine xb 6 0 a0 ?_
 refine xb 1 0 n2.blk ?_
 refine xgk 2 [9,10] (show((t==t):Bool)=true from by simp) ?_
 refine xb 1 1 a0 ?_
 refine xb 1 1 n2.blk ?_
 refine xgk 3 [15,16,17] (show((u==u):Bool)=true from by simp) ?_
 refine xb 1 2 a0 ?_
 refine xb 1 2 n2.blk ?_
 refine xgk 3 [22,23,24] (show((v==v):Bool)=true from by simp) ?_
 refine xb 1 3 a0 ?_
 refine xb 1 3 n2.blk ?_
 refine xgk 3 [29,30,31] (show((x==x):Bool)=true from by simp) ?_
 refine xb 1 4 a0 ?_
 refine xb 1 4 n2.blk ?_
 have hB:=bln n1.below n2.below
 refine xr 0 (Zop p q c d n Z Y _ hZ hY hZY (hP.below hB) (hQ.below hB)) fun W7 a3=>?_
 have a1:=bln hB a3
 exact xe 5 (.bool true) ⟨rfl,a1⟩
def dif (a b:List Int)(k:Nat):List Int:=((List.range k).filter fun i=>a[i]? != b[i]?).map Int.ofNat
theorem Rm{a b:List Int}{k:Nat}(h:a[k]? ≠ b[k]?):dif a b (k+1)=dif a b k++[(k:Int)]:=by simp[dif,C3,h]
theorem Zt5{a b:List Int}{k:Nat}(h:a[k]? = b[k]?):dif a b (k+1)=dif a b k:=by simp[dif,C3,h]
theorem Zdj(a b:List Int)(k:Nat):(dif a b k).length≤k:=by
 have:=P5 (fun i=>a[i]? != b[i]?) (List.range k)
 simpa [dif] using this
theorem Fd{l:List Int}{k:Nat}(h:k<l.length):l[k]? = some (l.getD k 0):=by simp[List.getD,A4 h]
theorem get_ge{l:List Int}{k:Nat}(h:¬ k<l.length):l[k]? = none:=by simpa using h
theorem Zud(a b:Nat):(if(b:Int)>(a:Int) then(b:Int) else(a:Int))=((max a b:Nat):Int):=by split<;>omega
theorem Zd1{a b:List Int}{k:Nat}(h:k<a.length∨k<b.length)(h2:k<a.length→k<b.length→a.getD k 0≠b.getD k 0):a[k]? ≠ b[k]? := by
 by_cases ha:k<a.length
 ·rw[Fd ha]
  by_cases hb:k<b.length
  ·rw[Fd hb];simpa using h2 ha hb
  ·rw[get_ge hb];simp
 ·rw[get_ge ha,Fd (h.resolve_left ha)];simp
theorem Zku(a b:O0)(ca cb:Nat)(la lb:List Int)(w:World)(ha:Ints w (.slice a la.length ca) la)(hb:Ints w (.slice b lb.length cb) lb)(hla:la.length≤1000000)(hlb:lb.length≤1000000) :
 C0 24 #[.slice a la.length ca,.slice b lb.length cb] w (Kc (fun w' r=>w'.ownsRow w.heap.size 3 1 r (dif la lb (max la.length lb.length)).length ((dif la lb (max la.length lb.length)).map V0)) w):=by
 refine zin 42 Tryz.func24 ?_
 refine xq 17 (congrArg V0 (show(if(lb.length:Int)>(la.length:Int) then(lb.length:Int) else(la.length:Int):Int)=(↑(max la.length lb.length):Int) from Zud _ _)) ?_
 have hB:=Below.refl w.heap.size w
 refine zl 4 42 (fun zm d5 V=>∃ (k:Nat) (p:O0) (c:Nat),d5=[(0,.slice a la.length ca),(1,.slice b lb.length cb),(4,S0),(5,.slice p ((dif la lb k).length) c),(11,V0 (↑(max la.length lb.length):Int)),(12,V0 (k:Int))]∧zm=max la.length lb.length-((k:Int)).toNat∧B3 w V∧V.ownsRow w.heap.size 3 1 (.slice p (dif la lb k).length c) (dif la lb k).length ((dif la lb k).map V0)∧k≤max la.length lb.length) ⟨0,_,_,rfl,rfl,hB,A5 _ _ _ _,A3 _⟩ ?_
 rintro _ _ W1 ⟨k,p,c,rfl,rfl,a1,o5,hk⟩ J1 b5 r1
 refine xid 6 ((k:Int)<(↑(max la.length lb.length):Int)) (fun c8=>?_) (fun c8=>?_)
 ·refine xd 11 .z ?_
  refine xg (.b [0,1,2,3,4]) [18,19] (decide ((k:Int)≥(la.length:Int))) (fun b3=>?_) (fun b3=>?_)
  ·have b3:=of_decide_eq_true b3
   refine xbs (.r [5,6,7,8,9,10,11,12,13,14,15,16,17,18,19,20] 6) 1 [V0 (k:Int)] 3 fun b4 W4 n4=>?_
   have a9:=bln a1 (Za W1)
   have g4:=n4.ge a9
   have a3:=Zb o5 (Za W1)
   have c5:=Zu a3 n4
   have a2:=Zb a3 n4.below
   have a7:=bln a9 n4.below
   refine xbi 0 fun _ _ _ _ zJ zQ zo zx zy zK=>Xi (m:=1) (news:=[V0 (k:Int)]) (V0 0) 1 8 ((dif la lb (k+1)).length) ((dif la lb (k+1)).map V0) zo Tryz.underlying34 K0 rfl Do zx a2 zy (n4.blk.sl 1 1 Do Do) rfl (by simp[Value.oneCell']) (by have:=Zdj la lb k;unfold maxLen;omega) (by have:=Zdj la lb k;omega) a7.size (by rw[Rm (a:=la) (b:=lb) (k:=k) (Zd1 M0 (fun h1 h2=>by first|assumption|omega))];simp) (by rw[Rm (a:=la) (b:=lb) (k:=k) (Zd1 M0 (fun h1 h2=>by first|assumption|omega))];simp) fun e2 e3 W5 a2 d8 d3=>?_
   refine zK _ _ ?_
   refine xw 5 ((k:Int)+1) ?_
   have c1:=a7.trans d3
   exact ze 2 (b5 _ _ _ ⟨k+1,_,_,rfl,rfl,c1,a2,by omega⟩ M0)
  have b3:=of_decide_eq_false b3
  refine xg (.b [5,6,7,8,9,10]) [23,24,25] (decide ((k:Int)≥(lb.length:Int))) (fun b0=>?_) (fun b0=>?_)
  ·have b0:=of_decide_eq_true b0
   refine xbs (.r [11,12,13,14,15,16,17,18,19,20] 6) 1 [V0 (k:Int)] 3 fun b7 W7 n7=>?_
   have b1:=bln a1 (Za W1)
   have g7:=n7.ge b1
   have a5:=Zb o5 (Za W1)
   have c6:=Zu a5 n7
   have b6:=Zb a5 n7.below
   have a6:=bln b1 n7.below
   refine xbi 0 fun _ _ _ _ zJ zQ zo zx zy zK=>Xi (m:=1) (news:=[V0 (k:Int)]) (V0 0) 1 8 ((dif la lb (k+1)).length) ((dif la lb (k+1)).map V0) zo Tryz.underlying34 K0 rfl Do zx b6 zy (n7.blk.sl 1 1 Do Do) rfl (by simp[Value.oneCell']) (by have:=Zdj la lb k;unfold maxLen;omega) (by have:=Zdj la lb k;omega) a6.size (by rw[Rm (a:=la) (b:=lb) (k:=k) (Zd1 M0 (fun h1 h2=>by first|assumption|omega))];simp) (by rw[Rm (a:=la) (b:=lb) (k:=k) (Zd1 M0 (fun h1 h2=>by first|assumption|omega))];simp) fun d7 e0 W8 o8 d6 d0=>?_
   refine zK _ _ ?_
   refine xw 5 ((k:Int)+1) ?_
   have b9:=a6.trans d0
   exact ze 2 (b5 _ _ _ ⟨k+1,_,_,rfl,rfl,b9,o8,by omega⟩ M0)
  have b0:=of_decide_eq_false b0
  refine xx (.e [11,12] 13) _ la.length k 1 (Ints.elem ha (k:=k) M0).1 ?_
  have a0:=bln a1 (Za W1)
  refine xl (.e [] 14) ((Ints.elem (ha.below a0) (k:=k) M0).2) ?_
  refine xx (.e [15,16] 17) _ lb.length k 1 (Ints.elem hb (k:=k) M0).1 ?_
  refine xl (.e [] 18) ((Ints.elem (hb.below a0) (k:=k) M0).2) ?_
  refine xin (.r [19,20] 2) (la.getD k 0) (lb.getD k 0) (fun c7=>?_) (fun c7=>?_)
  ·refine xbs 3 1 [V0 (k:Int)] 3 fun d9 e5 b2=>?_
   have e4:=b2.ge a0
   have a4:=Zb o5 (Za W1)
   have c2:=Zu a4 b2
   have c4:=Zb a4 b2.below
   have a8:=bln a0 b2.below
   refine xbi 0 fun _ _ _ _ zJ zQ zo zx zy zK=>Xi (m:=1) (news:=[V0 (k:Int)]) (V0 0) 1 8 ((dif la lb (k+1)).length) ((dif la lb (k+1)).map V0) zo Tryz.underlying34 K0 rfl Do zx c4 zy (b2.blk.sl 1 1 Do Do) rfl (by simp[Value.oneCell']) (by have:=Zdj la lb k;unfold maxLen;omega) (by have:=Zdj la lb k;omega) a8.size (by rw[Rm (a:=la) (b:=lb) (k:=k) (Zd1 M0 (fun h1 h2=>by first|assumption|omega))];simp) (by rw[Rm (a:=la) (b:=lb) (k:=k) (Zd1 M0 (fun h1 h2=>by first|assumption|omega))];simp) fun c9 d1 e1 d2 d4 c0=>?_
   refine zK _ _ ?_
   refine xw 5 ((k:Int)+1) ?_
   have c3:=a8.trans c0
   exact ze 2 (b5 _ _ _ ⟨k+1,_,_,rfl,rfl,c3,d2,by omega⟩ M0)
  refine xw 4 ((k:Int)+1) ?_
  refine xv1 2 5 (show(.slice p ((dif la lb k).length) c:Value)=.slice p ((dif la lb (k+1)).length) c from by rw[Zt5 (a:=la) (b:=lb) (k:=k) (by rw[Fd M0,Fd M0];congr 1)]) ?_
  have b8:=Zb o5 (Za W1)
  have e:=Zt5 (a:=la) (b:=lb) (k:=k) (by rw[Fd M0,Fd M0];congr 1)
  exact ze 0 (b5 _ _ _ ⟨k+1,_,_,rfl,rfl,a0,by rw[Zt5 (a:=la) (b:=lb) (k:=k) (by rw[Fd M0,Fd M0];congr 1)];exact b8,by omega⟩ M0)
 exact xe 12 (.slice p ((dif la lb k).length) c) ⟨_,rfl,a1,by rw[show max la.length lb.length=k by omega];exact o5⟩
theorem Zf7(p:O0)(c n:Nat)(t u v x:Int)(Z:List Zv)(w:World)(hZ:Z.length=n)(hP:DevsR w p c Z) :
 C0 14 #[.agg #[V0 t,V0 u,V0 v,V0 x,.slice p n c]] w ((fun e w'=>(e=.returned (V0 0)∧B3 w w')∨(e=.returned (V0 1)∧B3 w w'))):=by
 have b0:=Sl.len (hP.rowN hZ)
 refine zin 33 Tryz.func14 ?_
 refine xa 2 [V0 t,V0 u,V0 v,V0 x,.slice p n c] 48 fun b1 W1 n1=>?_
 refine zl 15 33 (fun zm a8 V=>∃ (i:Nat),a8=[(1,P0 b1),(2,V0 0),(3,V0 (IntKind.i64.wrap (↑(Up ((Z.map Prod.fst).take i)):Int))),(4,V0 (i:Int))]∧zm=n-((i:Int)).toNat∧B3 w V∧Blk V b1 ([V0 t,V0 u,V0 v,V0 x,.slice p n c]) 48∧i≤n) ⟨0,rfl,rfl,n1.below,n1.blk,A3 _⟩ ?_
 rintro _ _ W2 ⟨i,rfl,rfl,a0,a1,hi⟩ J2 a9 r2
 refine xb 5 4 a1 ?_
 refine xg 3 [9,10] (decide ((i:Int)<(n:Int))) (fun a4=>?_) (fun a4=>?_)
 ·have a4:=of_decide_eq_true a4
  refine xid 5 ((i:Int)<(201:Int)) (fun a5=>?_) (fun a5=>?_)
  ·refine xb 7 4 a1 ?_
   refine xx 1 _ n i 5 (hP.someN hZ (i:=i) M0) ?_
   refine xl 1 ((Sts.cell (hP.below a0).row Gu zvD (k:=i) (i:=4) M0 rfl).2) ?_
   refine xwm 8 ((i:Int)+1) (↑(i+1):Int) ?_
   refine xv1 2 3 (show(V0 (IntKind.i64.wrap ((IntKind.i64.wrap (↑(Up ((Z.map Prod.fst).take i)):Int))+(↑((Z.getD i zvD).1.2.length):Int))):Value)=V0 (IntKind.i64.wrap (↑(Up ((Z.map Prod.fst).take (i+1))):Int)) from congrArg V0 ((Zlj _ _).trans (congrArg IntKind.i64.wrap (by have:=Sj (Z:=Z) (i:=i) M0;omega)))) ?_
   exact ze 0 (a9 _ _ _ ⟨i+1,rfl,rfl,a0,a1,by omega⟩ M0)
  refine xb 9 4 a1 ?_
  refine xg 3 [28,29] (decide ((n:Int)≤(200:Int))) (fun a3=>?_) (fun a3=>?_)
  ·have a3:=of_decide_eq_true a3
   refine xid 5 ((IntKind.i64.wrap (↑(Up ((Z.map Prod.fst).take i)):Int))≤(2000:Int)) (fun a6=>?_) (fun a6=>?_)
   ·exact xe 7 (V0 1) (.inr ⟨rfl,a0⟩)
   exact xe 8 (V0 0) (.inl ⟨rfl,a0⟩)
  have a3:=of_decide_eq_false a3
  exact xe 14 (V0 0) (.inl ⟨rfl,a0⟩)
 have a4:=of_decide_eq_false a4
 refine xb 15 4 a1 ?_
 refine xg 3 [28,29] (decide ((n:Int)≤(200:Int))) (fun a2=>?_) (fun a2=>?_)
 ·have a2:=of_decide_eq_true a2
  refine xid 5 ((IntKind.i64.wrap (↑(Up ((Z.map Prod.fst).take i)):Int))≤(2000:Int)) (fun a7=>?_) (fun a7=>?_)
  ·exact xe 7 (V0 1) (.inr ⟨rfl,a0⟩)
  exact xe 8 (V0 0) (.inl ⟨rfl,a0⟩)
 have a2:=of_decide_eq_false a2
 exact xe 14 (V0 0) (.inl ⟨rfl,a0⟩)
theorem entsNil(w:Nat):EntsOk w []:=⟨fun i hi=>absurd hi (by simp),fun j hj=>absurd hj (by simp),fun i hi=>absurd hi (by simp)⟩
def leaf0(t:Int)(q:Nat):Bl:=Xu 2 ((q:Nat):Int) (Zoq t true (Kh t true) (Jd t true) (Zy [] (Kh t true) 0))
theorem ov0(t:Int):ovN 0 (Kh t true)=1:=by
 have hp:=Qp 0 (Kh t true)
 have hm:=(Qi t true).1
 have h1:ovN 0 (Kh t true)≤1:=by
  unfold ovN
  have:(0+Kh t true-1)/Kh t true=0:=Nat.div_eq_of_lt M0
  omega
 omega
theorem Zt1(t:Int):Xk t 0=1:=by
 unfold Xk Uh
 rw[ov0,Jm Do];rfl
theorem tree0(t:Int)(q:Nat)(bs:Bl):Zz t [] q bs=((q:Int),Qh bs (q*256) (leaf0 t q)):=by
 unfold Zz
 rw[show([]:List Ent).length=0 from rfl,ov0,Vz (by rw[Xr];exact At _)]
 rfl
theorem nod0_ok{t:Int}(h1:1≤t)(h2:t≤5):NodeOk t true (Zy [] (Kh t true) 0).length (Kh t true) (Jd t true) (Vr (Zy [] (Kh t true) 0)) (Jq (Zy [] (Kh t true) 0)) :=
 Pv (l:=[]) (entsNil _) h1 h2 rfl rfl (fun h=>by cases h) (i:=0) (by rw[show([]:List Ent).length=0 from rfl,ov0];decide)
theorem raw_lt8(l:Bl)(k:Nat){w:Nat}(hw:w≤4):Zn l k w<9223372036854775808:=by
 have h:=On l w k
 have h2:256 ^ w≤256 ^ 4:=P9 Do hw
 have h3:(256:Nat) ^ 4=4294967296:=rfl
 omega
theorem Zoi(a:O0)(c k m:Nat)(l:Bl)(w:World)(hm:m=1∨m=2∨m=4∨m=8)(hm4:m≤4)(hk:k+m≤l.length)(hl:l.length≤100000000)(h:Bys w (.slice a l.length c) l) :
 C0 91 #[.slice a l.length c,V0 (k:Int),V0 (m:Int)] w (Ret (V0 (↑(Zn l k m):Int)) w):=by
 refine zin 17 Tryz.func91 ?_
 refine xr 10 (Zgf a c k m l _ hm hk hl (h.below (B4 w)) (raw_lt8 l k hm4)) fun W1 a0=>?_
 exact xe 14 (V0 (↑(Zn l k m):Int)) ⟨rfl,a0⟩
theorem Zbe(a:O0)(c k m:Nat)(ki mi:Int)(l:Bl)(w:World)(hki:ki=(k:Int))(hmi:mi=(m:Int))(hl:l.length=256)(hm:m=2∨m=4)(hk:k+m≤256)(h:Bys w (.slice a 256 c) l):C0 91 #[.slice a 256 c,V0 ki,V0 mi] w (Ret (V0 (↑(Zn l k m):Int)) w):=by
 subst hki hmi
 have q:=Zoi a c k m l w M0 M0 M0 M0 (by rw[hl];exact h)
 rw[hl] at q
 exact q
theorem Zp0(kind no:Int)(a:O0)(c:Nat)(l:Bl)(w:World)(hl:l.length=256)(h:Bys w (.slice a 256 c) l)(ho:Qv kind no l=0):C0 92 #[.slice a 256 c,V0 kind,V0 no] w (Kc (fun w' r=>∃ p d,r=.tuple #[.slice p 244 d,V0 0]) w):=by
 have q:=Zbt kind no a c l w (by rw[hl];exact h)
 rw[hl] at q
 refine q.mono ?_
 rintro e W (⟨hx,_⟩|⟨_,p,d,rfl,hb,_⟩)
 ·exact absurd ho hx
 ·exact⟨_,rfl,hb,p,d,rfl⟩
theorem Zqt{kind no:Int}{li:Bl}(h1:1≤kind)(h2:kind≤4)(h3:0≤no)(h4:no<14400)(hl:li.length≤244):(Zn (Xu kind no li) 0 4:Int)=no∧(Zn (Xu kind no li) 4 2:Int)=kind:=by
 have l1:=Wr hl
 have l2:=Wt (no:=no) hl
 have l3:=Ho (kind:=kind) (no:=no) hl
 constructor
 ·unfold Xu
  rw[Yp (by rw[Zj];omega) (.inl M0)]
  unfold Lm
  rw[Yp (by rw[Zj];omega) (.inl M0)]
  unfold Zhm
  exact Rb M0 M0 M0
 ·unfold Xu
  rw[Yp (by rw[Zj];omega) (.inl M0)]
  unfold Lm
  exact Rb M0 M0 M0
theorem Zrs(a:O0)(c:Nat)(l:Bl)(w:World)(hl:l.length=256)(h:Bys w (.slice a 256 c) l)(ho:Qv (↑(Zn l 4 2):Int) (↑(Zn l 0 4):Int) l=0) :
 C0 44 #[.slice a 256 c] w (Ret (.tuple #[V0 (↑(Zn l 4 2):Int),V0 (↑(Zn l 0 4):Int),.bool true]) w):=by
 refine zin 27 Tryz.func44 ?_
 refine xr 21 (Zbe a c 4 2 4 2 l _ rfl rfl hl Do Do (h.below (B4 w))) fun W1 a2=>?_
 refine xr 1 (Zbe a c 0 4 0 4 l _ rfl rfl hl Do Do (h.below a2)) fun W2 a4=>?_
 have a0:=bln a2 a4
 refine xc 10 (Zp0 (↑(Zn l 4 2):Int) (↑(Zn l 0 4):Int) a c l _ hl (h.below a0) ho) ?_
 rintro _ W3 ⟨_,rfl,a3,p5,c5,rfl⟩
 have a1:=bln a0 a3
 exact xe 26 (.tuple #[V0 (↑(Zn l 4 2):Int),V0 (↑(Zn l 0 4):Int),.bool true]) ⟨rfl,a1⟩
def Px(l:Bl)(i:Nat):Prop:=∃ kind li,1≤kind∧kind≤4∧li.length≤244∧Vv l i=Xu kind (i:Int) li
theorem Ck{l:Bl}{k:Nat}{kind:Int}{li:Bl}{n:Nat}(hl:l.length=n*256)(hk:k<n)(h1:1≤kind)(h2:kind≤4)(h3:li.length≤244) :
 (Qh l (k*256) (Xu kind (k:Int) li)).length=n*256∧Px (Qh l (k*256) (Xu kind (k:Int) li)) k∧∀ j,j<n→Px l j→Px (Qh l (k*256) (Xu kind (k:Int) li)) j:=by
 have hs:(Xu kind (k:Int) li).length=256:=Yn h3
 have hd:l.length/256=n:=by omega
 have h0:Px (Qh l (k*256) (Xu kind (k:Int) li)) k:=⟨kind,li,h1,h2,h3,Ci hs M0⟩
 refine⟨by rw[Yg (by rw[hs,hl];omega),hl],h0,fun j hj q=>?_⟩
 by_cases e:j=k
 ·subst e;exact h0
 ·obtain⟨a,b,c,d,f,g⟩:=q
  exact⟨a,b,c,d,f,(Yv hs M0 e M0).trans g⟩
theorem Pc{l:Bl}{k n:Nat}{t:Int}(hl:l.length=n*256)(hk:k<n)(h1:1≤t)(h2:t≤5):(Zz t [] k l).2.length=n*256∧Px (Zz t [] k l).2 k∧∀ j,j<n→Px l j→Px (Zz t [] k l).2 j:=by
 rw[tree0]
 exact Ck hl hk Do Do (by rw[Re (nod0_ok h1 h2)];decide)
abbrev Z26:Bl:=List.replicate (8*256) 0
theorem lay26_1:Gf [] 8=(Zz 3 [] 2 (Zz 1 [] 1 Z26).2).2:=by
 show Ey [(1,[]),(3,[])] 1 Z26=_
 have e:Ve ((1:Int),([]:List Ent))=1:=Zt1 1
 rw[Ey,Ey,Ey,e]
theorem Zww:Xj (F2 [])=2:=by
 show Xk 1 0+(Xk 3 0+0)=2
 rw[Zt1,Zt1]
theorem lay26_D:(Kw 0 [] 8).2.2=(Zz 5 [] 4 (Zz 4 [] 3 (Gf [] 8)).2).2:=by
 unfold Kw
 rw[Zww]
 show(Zz 5 [] (1+2+0+Xk 4 0) (Zz 4 [] (1+2+0) (Gf [] 8)).2).2=_
 rw[Zt1]
theorem lay26_K:Qu 0 []=4:=by
 unfold Qu
 rw[Zww]
 show 2+(0+Xk 4 0+Xk 5 0)=4
 rw[Zt1,Zt1]
theorem lay26_s:∃ b1 b2,b1.length≤244∧b2.length≤244∧(Ug 0 [] 8).2.2=Qh (Qh (Zz 5 [] 5 (Kw 0 [] 8).2.2).2 (6*256) (Xu 3 ((6:Nat):Int) b1)) (7*256) (Xu 4 ((7:Nat):Int) b2):=by
 have hb:bmN (Qx (Xt (4+1) 8) (1+4) (Yf (Xt (4+1) 8))).length=1:=by rw[Qa,Zr];rfl
 unfold Ug
 rw[lay26_K]
 unfold Vo
 rw[hb,Wa,D6,Zt1]
 refine⟨Kt ((Xa (Zl (Qx (Xt (4+1) 8) (1+4) (Yf (Xt (4+1) 8)))) 1).getD 0 []),Ei (Rs (Xa (Zl (Qx (Xt (4+1) 8) (1+4) (Yf (Xt (4+1) 8)))) 1) (1+4+1) 1),by unfold Kt;rw[Vb];decide,by rw[Mu (by rw[Cb];decide)];decide,rfl⟩
theorem Tl:(Qb 0 0 1 0 [] 8).length=8*256∧∀ i,i<8→Px (Qb 0 0 1 0 [] 8) i:=by
 have h1:=Pc (l:=Z26) (k:=1) (n:=8) (t:=1) B6 Do Do Do
 have h2:=Pc (k:=2) (n:=8) (t:=3) h1.1 Do Do Do
 rw[←lay26_1] at h2
 have h3:=Pc (k:=3) (n:=8) (t:=4) h2.1 Do Do Do
 have h4:=Pc (k:=4) (n:=8) (t:=5) h3.1 Do Do Do
 rw[←lay26_D] at h4
 have h5:=Pc (k:=5) (n:=8) (t:=5) h4.1 Do Do Do
 obtain⟨b1,b2,l1,l2,e⟩:=lay26_s
 have h6:=Ck (k:=6) (n:=8) (kind:=3) h5.1 Do Do Do l1
 have h7:=Ck (k:=7) (n:=8) (kind:=4) h6.1 Do Do Do l2
 rw[←e] at h7
 have h0:=Ck (k:=0) (n:=8) (kind:=1) h7.1 Do Do Do (show(Py (Zb7 0 0 1 0 [] 8)).length≤244 by rw[Kx];decide)
 refine⟨h0.1,fun i hi=>?_⟩
 have a0:=fun j (hj:j<8) q=>h0.2.2 j hj (h7.2.2 j hj (h6.2.2 j hj (h5.2.2 j hj q)))
 obtain rfl|rfl|rfl|rfl|rfl|rfl|rfl|rfl:i=0∨i=1∨i=2∨i=3∨i=4∨i=5∨i=6∨i=7:=by omega
 ·exact h0.2.1
 ·exact a0 1 hi (h4.2.2 1 hi (h3.2.2 1 hi (h2.2.2 1 hi h1.2.1)))
 ·exact a0 2 hi (h4.2.2 2 hi (h3.2.2 2 hi h2.2.1))
 ·exact a0 3 hi (h4.2.2 3 hi h3.2.1)
 ·exact a0 4 hi h4.2.1
 ·exact h0.2.2 5 hi (h7.2.2 5 hi (h6.2.2 5 hi h5.2.1))
 ·exact h0.2.2 6 hi (h7.2.2 6 hi h6.2.1)
 ·exact h0.2.2 7 hi h7.2.1
end Go.Proofs.YtceeiinepijokaaGreatDoor
namespace Go.Proofs.YtceeiinepijokaaGreatDoor
set_option maxHeartbeats 8000000
set_option maxRecDepth 100000
open Go.RowKit Go.Extern.Stop Go.Stop Go.Extern
set_option linter.unusedVariables false
attribute [local irreducible] wpList wpAnyH Code.wp Oper.wp Go
section
attribute [local semireducible] Oper.wp
theorem Zap{P:Program}{Q:Exit→Act→World→Prop}{a:Act}{w:World}{K:Act→World→Prop}{o:Oper}{c:Operand}{f:FuncId}{cap:Array Value}(ho:o.op=.defer { callee:=.value c,args:=#[],argTypes:=#[] })(hc:a.eval c=.func (.func f) #[] cap)
 (k:K ({ a with defers:={ target:=.fn (.func f) cap,args:=#[] }::a.defers }.put o.dst undef) w):o.wp P a w K Q:=by
 have h2:(execOp a.eval o).run P w=.ok (.defer { target:=.fn (.func f) cap,args:=#[] }) w:=by
  simp[execOp,ho,resolve,hc,Deferred.ofValue]
 simp only[Oper.wp,h2,Oper.upon]
 exact k
end
theorem Zwp{P:Program}{fn:Func}{R:Ending→World→Prop}{a:Act}{w:World}(f:FuncId)(cap:Array Value)(v:Value)(hd:a.defers=[{ target:=.fn (.func f) cap,args:=#[] }])(hi:∀ w,(invoke (.fn (.func f) cap) #[]).run P w=.ok (.enter f cap) w)
 (hc:CallsD P f cap .returning w fun e u w'=>e=.returned (.tuple #[])∧u=.returning∧B3 w w') (h:∀ W,B3 w W→(results fn a.tmps).run P W=.ok v W∧R (.returned v) W):bodyPostD P fn R .ret a w:=by
 show Leaves P fn a.tmps R a.defers .returning w
 rw[hd]
 refine leaves_cons (by simp) (hi w) (hc.mono ?_)
 rintro e u w' ⟨rfl,rfl,hb⟩
 obtain⟨h1,h2⟩:=h w' hb
 exact⟨v,h1,h2⟩
theorem Tj{P:Program}{w:World}{b:Nat}{t:TypeId}{x:Value}(k:Blk w b [x] t)(hu:aggB P t=some false):(loadVar t ⟨b,0,none⟩).run P w=.ok x w:=by
 have hc:w.cell? ⟨b,0,none⟩=some x:=k.cell (i:=0) rfl
 simp[loadVar,C9,Zhi hu,load,Sem.run,hc]
theorem Zu0{P:Program}{fn:Func}{tmps:Array Value}{w:World}{k j:Nat}{t s:TypeId}{b c:Nat}{x y:Value}(hfn:fn.results=#[.cell k t,.cell j s])(e:tmps.getD k undef=P0 b)(e2:tmps.getD j undef=P0 c)
 (hx:Blk w b [x] t) (hy:Blk w c [y] s) (hu:aggB P t=some false) (hu2:aggB P s=some false):(results fn tmps).run P w=.ok (.tuple #[x,y]) w:=by
 have h:=Tj hx hu
 have h2:=Tj hy hu2
 have e':tmps[k]?.getD undef=P0 b:=by simpa using e
 have a0:tmps[j]?.getD undef=P0 c:=by simpa using e2
 simp[results,hfn,e',a0,asAddr,h,h2]
theorem Zei(b c:Nat)(w:World):CallsD Tryz.prog 50 #[P0 b,P0 c] .returning w fun e u w'=>e=.returned (.tuple #[])∧u=.returning∧B3 w w':=by
 refine callsD_of_wpS Tryz.func50 rfl fun c₀ cs hu=>?_
 have a0:∀ w,(Instr.typeAssert .nilIface 20 106 true).run Tryz.prog w=.ok (.tuple #[.agg #[.nilIface],.bool false]) w:=fun w=>by kernel_rfl
 apply wpS_seq
 apply wpS_region
 simp[wpOpsS,go_sem,recoverD,hu,Tryz.ntmps50,Exit.thenS,a0]
 apply wpS_seq
 apply wpS_region
 simp[wpOpsS,go_sem,Exit.thenS]
 refine wpS_cond (t:=false) (by simp[Act.eval,Array.replicate]) ?_
 simp only[O4,if_false]
 refine wpS_of_wp (wp_skip ?_)
 cases c₀
 have hb:=blx w (Obj.cells #[Value.nilIface] 106)
 simp_all [bodyPostS,results,Tryz.results50]
end Go.Proofs.YtceeiinepijokaaGreatDoor
namespace Go.Proofs.YtceeiinepijokaaGreatDoor
set_option maxHeartbeats 8000000
set_option maxRecDepth 100000
open Go.RowKit Go.Extern.Stop Go.Stop Go.Extern
set_option linter.unusedVariables false
attribute [local irreducible] wpList wpAnyH Code.wp Oper.wp Go
theorem Zco(k:Nat)(w:World)(hk:k≤14400) :
 C0 51 #[V0 (k:Int)] w (Kc (fun w' r=>∃ b p c,r=.tuple #[P0 b,V0 0]∧w.heap.size≤b∧ImgR w.heap.size b p (k*256) c (List.replicate (k*256) (0:UInt8)) w') w):=by
 refine zin 15 Tryz.func51 ?_
 refine xgk 12 [5,6] (show(decide ((k:Int)<(0:Int)):Bool)=false from decide_eq_false M0) ?_
 refine xk 5 (show(decide ((k:Int)>(14400:Int)):Bool)=false from decide_eq_false M0) ?_
 refine xwm 5 ((k:Int)*256) (↑(k*256):Int) ?_
 refine xmk 0 fun _ _ _ _ zJ zQ zo zx zy zK=>Gl (k*256) (.int .u8 0) 1 1 ((List.replicate (k*256) (0:UInt8)).map bv) zo zx zy Tryz.underlying22 K0 rfl M0 M0 (Zg5 (k*256)) fun b2 W2 n2=>?_
 refine zK _ _ ?_
 refine xa 1 [.slice (S1 b2) (k*256) (k*256)] 80 fun b3 W3 n3=>?_
 have hB:=bln n2.below n3.below
 have g3:=n3.ge n2.below
 have o2:=Zb (Yd (size:=1) (n:=(k*256)) n2.blk (n2.ge (B4 w)) (by rw[A6,B6,G4]) (by unfold maxLen;omega)) n3.below
 exact xe 5 (.tuple #[P0 b3,V0 0]) ⟨_,rfl,hB,_,_,_,rfl,g3,⟨n3.blk,o2,by omega⟩⟩
def LayE(c:Int)(w:World)(e:Ending)(w':World):Prop:=e=.returned (.tuple #[.pointer none,.iface 50 (V0 c)])∧B3 w w'
def LayO(l:Bl)(k:Nat)(w:World)(e:Ending)(w':World):Prop:=∃ bi g ci,e=.returned (.tuple #[P0 bi,.nilIface])∧B3 w w'∧ImgR w.heap.size bi (S1 g) (k*256) ci l w'
theorem lay_LayC(p:O0)(c n:Nat)(t u v x m:Int)(Z:List Zv)(w:World)(hZ:Z.length=n)(hP:DevsR w p c Z)(hk:Qz t u v x (Z.map Prod.fst)≠0) :
 C0 18 #[.agg #[V0 t,V0 u,V0 v,V0 x,.slice p n c],V0 m] w (LayE (Qz t u v x (Z.map Prod.fst)) w):=by
 refine calls_of_wp_defers Tryz.func18 rfl ?_
 refine Zls ⟨#[.agg #[V0 t,V0 u,V0 v,V0 x,.slice p n c],V0 m,undef,undef,undef,undef,undef,undef,undef,undef,undef,undef,undef,undef,undef,undef,undef,undef,undef,undef,undef,undef,undef,undef,undef,undef,undef,undef,undef,undef,undef,undef,undef,undef,undef,undef,undef,undef,undef,undef,undef,undef],[]⟩ K0 ?_
 refine wp_seq ?_
 refine wp_region_lit ?_
 refine Yx K0 (Rf [V0 t,V0 u,V0 v,V0 x,.slice p n c] rfl K0 ?_)
 intro b1 W1 n1
 have g1:=n1.ge (B4 w)
 have hB:=n1.below
 have k1:=n1.blk
 refine Yx K0 (Qt [.pointer none] rfl K0 ?_)
 intro b2 W2 n2
 have a2:=n2.ne k1
 have g2:=n2.ge hB
 replace hB:=bln hB n2.below
 replace k1:=k1.below n2.below
 have k2:=n2.blk
 refine Yx K0 (Qt [.nilIface] rfl K0 ?_)
 intro b3 W3 n3
 have a1:=n3.ne k1
 have a0:=n3.ne k2
 have g3:=n3.ge hB
 replace hB:=bln hB n3.below
 replace k1:=k1.below n3.below
 replace k2:=k2.below n3.below
 have k3:=n3.blk
 refine wpList_nil ?_
 refine wp_seq ?_
 refine wp_region_lit ?_
 refine Vn 1 [(9,.func (.func 50) #[] #[P0 b2,P0 b3])] K0 ?_
 refine Yx K0 (Zap (f:=50) (cap:=#[P0 b2,P0 b3]) rfl K0 ?_)
 refine wpList_nil ?_
 refine wp_seq ?_
 refine wp_seq ?_
 refine wp_region_lit ?_
 refine Yx K0 (Gw (b:=b1) (off:=0) [V0 t,V0 u,V0 v,V0 x,.slice p n c] _ rfl K0 Tryz.underlying48 rfl K0 k1.whole ?_)
 refine Yx K0 (Yu (lb:=#[]) 17 #[.agg #[V0 t,V0 u,V0 v,V0 x,.slice p n c]] rfl K0 (fun _ _=>by kernel_rfl) K0 ((Jt p c n t u v x Z _ hZ (hP.below hB)).mono ?_))
 rintro e W4 ⟨rfl,a3⟩
 refine⟨_,rfl,?_⟩
 replace hB:=bln hB a3
 replace k1:=k1.below a3
 replace k2:=k2.below a3
 replace k3:=k3.below a3
 refine Vn 1 [(6,V0 (Qz t u v x (Z.map Prod.fst)))] K0 ?_
 refine wpList_nil ?_
 refine wp_seq ?_
 refine wp_region_lit ?_
 refine Vn 2 [(12,V0 (Qz t u v x (Z.map Prod.fst))),(13,.bool ((Qz t u v x (Z.map Prod.fst)) != (0:Int)))] K0 ?_
 refine wpList_nil ?_
 refine wp_cond_split (t:=((Qz t u v x (Z.map Prod.fst)) != (0:Int))) K0 (fun _=>?_) (fun hh=>absurd (hh.symm.trans (show(((Qz t u v x (Z.map Prod.fst)) != (0:Int)):Bool)=true from(by simpa using hk))) Do)
 refine wp_seq ?_
 refine wp_region_lit ?_
 refine Vn 2 [(14,V0 (Qz t u v x (Z.map Prod.fst))),(15,.iface 50 (V0 (Qz t u v x (Z.map Prod.fst))))] K0 ?_
 refine Yx K0 (Yr (v:=.pointer none) (b:=b2) (off:=0) rfl K0 K0 K0 rfl k2 (by first|decide|simp) ?_)
 intro W6 u6 k6
 change Blk _ _ [.pointer none] _ at k6
 replace hB:=u6.below hB g2
 replace k1:=u6.blk k1 a2
 replace k3:=u6.blk k3 (S3 a0)
 refine Yx K0 (Yr (v:=.iface 50 (V0 (Qz t u v x (Z.map Prod.fst)))) (b:=b3) (off:=0) rfl K0 K0 K0 rfl k3 (by first|decide|simp) ?_)
 intro W7 u7 k7
 change Blk _ _ [.iface 50 (V0 (Qz t u v x (Z.map Prod.fst)))] _ at k7
 replace hB:=u7.below hB g3
 replace k1:=u7.blk k1 a1
 replace k6:=u7.blk k6 a0
 refine wpList_nil ?_
 refine wp_ret (Gs ?_)
 refine Zwp 50 #[P0 b2,P0 b3] (.tuple #[.pointer none,.iface 50 (V0 (Qz t u v x (Z.map Prod.fst)))]) rfl (fun _=>by kernel_rfl) (Zei b2 b3 _) fun W9 a4=>⟨Zu0 rfl K0 K0 (k6.below a4) (k7.below a4) K0 K0,?_⟩
 exact⟨rfl,hB.trans (a4.mono hB.size)⟩
theorem Zng(p:O0)(c n x k:Nat)(t u v:Int)(Z:List Zv)(w:World)(hZ:Z.length=n)(hP:DevsR w p c Z)(hk:PoolOk t u v (x:Int) (Z.map Prod.fst))(hk2:k≤14400)(hr:k<Uk x (Z.map Prod.fst)) :
 C0 18 #[.agg #[V0 t,V0 u,V0 v,V0 (x:Int),.slice p n c],V0 (k:Int)] w (LayE 14 w):=by
 refine calls_of_wp_defers Tryz.func18 rfl ?_
 refine Zls ⟨#[.agg #[V0 t,V0 u,V0 v,V0 (x:Int),.slice p n c],V0 (k:Int),undef,undef,undef,undef,undef,undef,undef,undef,undef,undef,undef,undef,undef,undef,undef,undef,undef,undef,undef,undef,undef,undef,undef,undef,undef,undef,undef,undef,undef,undef,undef,undef,undef,undef,undef,undef,undef,undef,undef,undef],[]⟩ K0 ?_
 refine wp_seq ?_
 refine wp_region_lit ?_
 refine Yx K0 (Rf [V0 t,V0 u,V0 v,V0 (x:Int),.slice p n c] rfl K0 ?_)
 intro b1 W1 n1
 have g1:=n1.ge (B4 w)
 have hB:=n1.below
 have k1:=n1.blk
 refine Yx K0 (Qt [.pointer none] rfl K0 ?_)
 intro b2 W2 n2
 have a1:=n2.ne k1
 have g2:=n2.ge hB
 replace hB:=bln hB n2.below
 replace k1:=k1.below n2.below
 have k2:=n2.blk
 refine Yx K0 (Qt [.nilIface] rfl K0 ?_)
 intro b3 W3 n3
 have a2:=n3.ne k1
 have a0:=n3.ne k2
 have g3:=n3.ge hB
 replace hB:=bln hB n3.below
 replace k1:=k1.below n3.below
 replace k2:=k2.below n3.below
 have k3:=n3.blk
 refine wpList_nil ?_
 refine wp_seq ?_
 refine wp_region_lit ?_
 refine Vn 1 [(9,.func (.func 50) #[] #[P0 b2,P0 b3])] K0 ?_
 refine Yx K0 (Zap (f:=50) (cap:=#[P0 b2,P0 b3]) rfl K0 ?_)
 refine wpList_nil ?_
 refine wp_seq ?_
 refine wp_seq ?_
 refine wp_region_lit ?_
 refine Yx K0 (Gw (b:=b1) (off:=0) [V0 t,V0 u,V0 v,V0 (x:Int),.slice p n c] _ rfl K0 Tryz.underlying48 rfl K0 k1.whole ?_)
 refine Yx K0 (Yu (lb:=#[]) 17 #[.agg #[V0 t,V0 u,V0 v,V0 (x:Int),.slice p n c]] rfl K0 (fun _ _=>by kernel_rfl) K0 ((Jt p c n t u v (x:Int) Z _ hZ (hP.below hB)).mono ?_))
 rintro e W4 ⟨rfl,a4⟩
 refine⟨_,rfl,?_⟩
 replace hB:=bln hB a4
 replace k1:=k1.below a4
 replace k2:=k2.below a4
 replace k3:=k3.below a4
 refine Vn 1 [(6,V0 (Qz t u v (x:Int) (Z.map Prod.fst)))] K0 ?_
 refine wpList_nil ?_
 refine wp_seq ?_
 refine wp_region_lit ?_
 refine Vn 2 [(12,V0 (Qz t u v (x:Int) (Z.map Prod.fst))),(13,.bool ((Qz t u v (x:Int) (Z.map Prod.fst)) != (0:Int)))] K0 ?_
 refine wpList_nil ?_
 refine wp_cond_split (t:=((Qz t u v (x:Int) (Z.map Prod.fst)) != (0:Int))) K0 (fun hh=>absurd (hh.symm.trans (show(((Qz t u v (x:Int) (Z.map Prod.fst)) != (0:Int)):Bool)=false from(by rw[Cr.2 hk];rfl))) Do) (fun _=>?_)
 refine wp_skip ?_
 refine wp_seq ?_
 refine wp_region_lit ?_
 refine Vn 1 [(17,V0 (k:Int))] K0 ?_
 have b0:w.heap.size≤W4.heap.size:=hB.size
 have b4:=k2.lt
 have a9:=k3.lt
 refine Yx K0 (Yu (lb:=#[]) 51 #[V0 (k:Int)] rfl K0 (fun _ _=>by kernel_rfl) K0 ((Zco k _ M0).mono ?_))
 rintro e W6 ⟨_,rfl,a5,bi,pi,ci,rfl,gi,hI⟩
 refine⟨_,rfl,?_⟩
 replace hB:=bln hB a5
 replace k1:=k1.below a5
 replace k2:=k2.below a5
 replace k3:=k3.below a5
 refine Vn 3 [(16,.tuple #[P0 bi,V0 0]),(19,P0 bi),(20,V0 0)] K0 ?_
 refine Yx K0 (Yr (v:=P0 bi) (b:=b2) (off:=0) rfl K0 K0 K0 rfl k2 (by first|decide|simp) ?_)
 intro W7 u7 k7
 change Blk _ _ [P0 bi] _ at k7
 replace hB:=u7.below hB g2
 replace k1:=u7.blk k1 a1
 replace k3:=u7.blk k3 (S3 a0)
 replace hI:=hI.only (Q1 (T:=[31]) u7 k2 Do) Do
 refine Vn 1 [(7,V0 0)] K0 ?_
 refine wpList_nil ?_
 refine wp_seq ?_
 refine wp_seq ?_
 refine wp_region_lit ?_
 refine Vn 2 [(21,V0 0),(22,.bool false)] K0 ?_
 refine wpList_nil ?_
 refine wp_cond_false K0 ?_
 refine wp_skip ?_
 refine wp_seq ?_
 refine wp_seq ?_
 refine wp_region_lit ?_
 refine Yx K0 (Gw (b:=b1) (off:=0) [V0 t,V0 u,V0 v,V0 (x:Int),.slice p n c] _ rfl K0 Tryz.underlying48 rfl K0 k1.whole ?_)
 refine Vn 1 [(26,V0 (k:Int))] K0 ?_
 refine Yx K0 (Yu (lb:=#[]) 52 #[.agg #[V0 t,V0 u,V0 v,V0 (x:Int),.slice p n c],V0 (k:Int)] rfl K0 (fun _ _=>by kernel_rfl) K0 ((Zoh p c n x k t u v Z _ hZ (hP.below hB) hk hr).mono ?_))
 rintro e W8 ⟨rfl,a3⟩
 refine⟨_,rfl,?_⟩
 replace hB:=bln hB a3
 replace k1:=k1.below a3
 replace k7:=k7.below a3
 replace k3:=k3.below a3
 replace hI:=hI.below a3
 refine Vn 1 [(28,.bool true)] K0 ?_
 refine wpList_nil ?_
 refine wp_cond_true K0 ?_
 refine wp_seq ?_
 refine wp_region_lit ?_
 refine Vn 1 [(29,.iface 50 (V0 14))] K0 ?_
 refine Yx K0 (Yr (v:=.pointer none) (b:=b2) (off:=0) rfl K0 K0 K0 rfl k7 (by first|decide|simp) ?_)
 intro W9 u9 k9
 change Blk _ _ [.pointer none] _ at k9
 replace hB:=u9.below hB g2
 replace k1:=u9.blk k1 a1
 replace k3:=u9.blk k3 (S3 a0)
 replace hI:=hI.only (Q1 (T:=[31]) u9 k7 Do) Do
 refine Yx K0 (Yr (v:=.iface 50 (V0 14)) (b:=b3) (off:=0) rfl K0 K0 K0 rfl k3 (by first|decide|simp) ?_)
 intro b5 a6 a8
 change Blk _ _ [.iface 50 (V0 14)] _ at a8
 replace hB:=a6.below hB g3
 replace k1:=a6.blk k1 a2
 replace k9:=a6.blk k9 a0
 replace hI:=hI.only (Q1 (T:=[28]) a6 k3 Do) Do
 refine wpList_nil ?_
 refine wp_ret (Gs ?_)
 refine Zwp 50 #[P0 b2,P0 b3] (.tuple #[.pointer none,.iface 50 (V0 14)]) rfl (fun _=>by kernel_rfl) (Zei b2 b3 _) fun W9 a7=>⟨Zu0 rfl K0 K0 (k9.below a7) (a8.below a7) K0 K0,?_⟩
 exact⟨rfl,hB.trans (a7.mono hB.size)⟩
theorem Zm6(p:O0)(c n x k:Nat)(t u v:Int)(Z:List Zv)(w:World)(hZ:Z.length=n)(hP:DevsR w p c Z)(hk:PoolOk t u v (x:Int) (Z.map Prod.fst))(hk3:k≤3000)(hr:Uk x (Z.map Prod.fst)≤k) :
 C0 18 #[.agg #[V0 t,V0 u,V0 v,V0 (x:Int),.slice p n c],V0 (k:Int)] w (LayO (Qb t u v x (Z.map Prod.fst) k) k w):=by
 have c5:k≤14400:=by omega
 refine calls_of_wp_defers Tryz.func18 rfl ?_
 refine Zls ⟨#[.agg #[V0 t,V0 u,V0 v,V0 (x:Int),.slice p n c],V0 (k:Int),undef,undef,undef,undef,undef,undef,undef,undef,undef,undef,undef,undef,undef,undef,undef,undef,undef,undef,undef,undef,undef,undef,undef,undef,undef,undef,undef,undef,undef,undef,undef,undef,undef,undef,undef,undef,undef,undef,undef,undef],[]⟩ K0 ?_
 refine wp_seq ?_
 refine wp_region_lit ?_
 refine Yx K0 (Rf [V0 t,V0 u,V0 v,V0 (x:Int),.slice p n c] rfl K0 ?_)
 intro b1 W1 n1
 have g1:=n1.ge (B4 w)
 have hB:=n1.below
 have k1:=n1.blk
 refine Yx K0 (Qt [.pointer none] rfl K0 ?_)
 intro b2 W2 n2
 have a7:=n2.ne k1
 have g2:=n2.ge hB
 replace hB:=bln hB n2.below
 replace k1:=k1.below n2.below
 have k2:=n2.blk
 refine Yx K0 (Qt [.nilIface] rfl K0 ?_)
 intro b3 W3 n3
 have a6:=n3.ne k1
 have a1:=n3.ne k2
 have g3:=n3.ge hB
 replace hB:=bln hB n3.below
 replace k1:=k1.below n3.below
 replace k2:=k2.below n3.below
 have k3:=n3.blk
 refine wpList_nil ?_
 refine wp_seq ?_
 refine wp_region_lit ?_
 refine Vn 1 [(9,.func (.func 50) #[] #[P0 b2,P0 b3])] K0 ?_
 refine Yx K0 (Zap (f:=50) (cap:=#[P0 b2,P0 b3]) rfl K0 ?_)
 refine wpList_nil ?_
 refine wp_seq ?_
 refine wp_seq ?_
 refine wp_region_lit ?_
 refine Yx K0 (Gw (b:=b1) (off:=0) [V0 t,V0 u,V0 v,V0 (x:Int),.slice p n c] _ rfl K0 Tryz.underlying48 rfl K0 k1.whole ?_)
 refine Yx K0 (Yu (lb:=#[]) 17 #[.agg #[V0 t,V0 u,V0 v,V0 (x:Int),.slice p n c]] rfl K0 (fun _ _=>by kernel_rfl) K0 ((Jt p c n t u v (x:Int) Z _ hZ (hP.below hB)).mono ?_))
 rintro e W4 ⟨rfl,b4⟩
 refine⟨_,rfl,?_⟩
 replace hB:=bln hB b4
 replace k1:=k1.below b4
 replace k2:=k2.below b4
 replace k3:=k3.below b4
 refine Vn 1 [(6,V0 (Qz t u v (x:Int) (Z.map Prod.fst)))] K0 ?_
 refine wpList_nil ?_
 refine wp_seq ?_
 refine wp_region_lit ?_
 refine Vn 2 [(12,V0 (Qz t u v (x:Int) (Z.map Prod.fst))),(13,.bool ((Qz t u v (x:Int) (Z.map Prod.fst)) != (0:Int)))] K0 ?_
 refine wpList_nil ?_
 refine wp_cond_split (t:=((Qz t u v (x:Int) (Z.map Prod.fst)) != (0:Int))) K0 (fun hh=>absurd (hh.symm.trans (show(((Qz t u v (x:Int) (Z.map Prod.fst)) != (0:Int)):Bool)=false from(by rw[Cr.2 hk];rfl))) Do) (fun _=>?_)
 refine wp_skip ?_
 refine wp_seq ?_
 refine wp_region_lit ?_
 refine Vn 1 [(17,V0 (k:Int))] K0 ?_
 have b7:w.heap.size≤W4.heap.size:=hB.size
 have c2:=k2.lt
 have c4:=k3.lt
 refine Yx K0 (Yu (lb:=#[]) 51 #[V0 (k:Int)] rfl K0 (fun _ _=>by kernel_rfl) K0 ((Zco k _ M0).mono ?_))
 rintro e W6 ⟨_,rfl,b0,bi,pi,ci,rfl,gi,hI⟩
 refine⟨_,rfl,?_⟩
 replace hB:=bln hB b0
 replace k1:=k1.below b0
 replace k2:=k2.below b0
 replace k3:=k3.below b0
 refine Vn 3 [(16,.tuple #[P0 bi,V0 0]),(19,P0 bi),(20,V0 0)] K0 ?_
 refine Yx K0 (Yr (v:=P0 bi) (b:=b2) (off:=0) rfl K0 K0 K0 rfl k2 (by first|decide|simp) ?_)
 intro W7 u7 k7
 change Blk _ _ [P0 bi] _ at k7
 replace hB:=u7.below hB g2
 replace k1:=u7.blk k1 a7
 replace k3:=u7.blk k3 (S3 a1)
 replace hI:=hI.only (Q1 (T:=[31]) u7 k2 Do) Do
 refine Vn 1 [(7,V0 0)] K0 ?_
 refine wpList_nil ?_
 refine wp_seq ?_
 refine wp_seq ?_
 refine wp_region_lit ?_
 refine Vn 2 [(21,V0 0),(22,.bool false)] K0 ?_
 refine wpList_nil ?_
 refine wp_cond_false K0 ?_
 refine wp_skip ?_
 refine wp_seq ?_
 refine wp_seq ?_
 refine wp_region_lit ?_
 refine Yx K0 (Gw (b:=b1) (off:=0) [V0 t,V0 u,V0 v,V0 (x:Int),.slice p n c] _ rfl K0 Tryz.underlying48 rfl K0 k1.whole ?_)
 refine Vn 1 [(26,V0 (k:Int))] K0 ?_
 refine Yx K0 (Yu (lb:=#[]) 52 #[.agg #[V0 t,V0 u,V0 v,V0 (x:Int),.slice p n c],V0 (k:Int)] rfl K0 (fun _ _=>by kernel_rfl) K0 ((Zo2 p c n x k t u v Z _ hZ (hP.below hB) hk hr c5).mono ?_))
 rintro e W8 ⟨rfl,a9⟩
 refine⟨_,rfl,?_⟩
 replace hB:=bln hB a9
 replace k1:=k1.below a9
 replace k7:=k7.below a9
 replace k3:=k3.below a9
 replace hI:=hI.below a9
 refine Vn 1 [(28,.bool false)] K0 ?_
 refine wpList_nil ?_
 refine wp_cond_false K0 ?_
 refine wp_skip ?_
 refine wp_seq ?_
 refine wp_region_lit ?_
 refine Yx K0 (Ys ⟨b2,0,none⟩ (P0 bi) rfl K0 K0 (k7.cell (i:=0) rfl) ?_)
 have d0:Uk x (Z.map Prod.fst)≥3:=by unfold Uk Zin;omega
 have c0:W4.heap.size≤(W8).heap.size:=N0 gi (Nat.le_of_lt hI.blk.lt)
 obtain⟨g,rfl,c3⟩:=hI.base M0
 refine Yx K0 (Yu (lb:=#[]) 53 #[P0 bi,V0 1] rfl K0 (fun _ _=>by kernel_rfl) K0 ((Zoy bi (S1 g) (k*256) ci 1 (k-1) (1:Int) rfl M0 _ hI.blk M0 Do M0).mono ?_))
 rintro e W9 ⟨_,rfl,a4,ba,pa,ca,rfl,ga,ka,ho⟩
 refine⟨_,rfl,?_⟩
 replace hB:=bln hB a4
 replace k1:=k1.below a4
 replace k7:=k7.below a4
 replace k3:=k3.below a4
 replace hI:=hI.below a4
 have hA:AlF (W4.heap.size) ba bi g (k*256) ci pa ca (k-1) (List.replicate (k*256) (0:UInt8)) [] _:=⟨ka,hI.blk,hI.row,Zf ho c0⟩
 have hC:AlC (W4.heap.size) ba (k*256) ci ca 1 (k-1):=⟨by omega,c3,Zjy ho M0,by omega,N0 c0 ga⟩
 refine Vn 4 [(30,.tuple #[P0 ba,.nilIface]),(33,P0 ba),(34,.nilIface),(8,P0 ba)] K0 ?_
 refine Yx K0 (Yr (v:=.nilIface) (b:=b3) (off:=0) rfl K0 K0 K0 rfl k3 (by first|decide|simp) ?_)
 intro c8 b6 a8
 change Blk _ _ [.nilIface] _ at a8
 replace hB:=b6.below hB g3
 replace k1:=b6.blk k1 a6
 replace k7:=b6.blk k7 a1
 replace hA:=hA.only (Q1 (T:=[28]) b6 k3 Do) Do
 refine wpList_nil ?_
 refine wp_seq ?_
 refine wp_region_lit ?_
 refine Yx K0 (Ys ⟨b3,0,none⟩ .nilIface rfl K0 K0 (a8.cell (i:=0) rfl) ?_)
 refine Yx K0 (Yu (lb:=#[]) 54 #[.nilIface] rfl K0 (fun _ _=>by kernel_rfl) K0 ((Hk _).mono ?_))
 rintro e c7 ⟨rfl,a2⟩
 refine⟨_,rfl,?_⟩
 replace hB:=bln hB a2
 replace k1:=k1.below a2
 replace k7:=k7.below a2
 replace a8:=a8.below a2
 replace hA:=hA.below a2
 refine wpList_nil ?_
 refine wp_seq ?_
 refine wp_region_lit ?_
 refine Vn 2 [(37,P0 ba),(38,.agg #[P0 ba])] K0 ?_
 refine Yx K0 (Gw (b:=b1) (off:=0) [V0 t,V0 u,V0 v,V0 (x:Int),.slice p n c] _ rfl K0 Tryz.underlying48 rfl K0 k1.whole ?_)
 refine Yx K0 (Yu (lb:=#[]) 55 #[.agg #[P0 ba],.agg #[V0 t,V0 u,V0 v,V0 (x:Int),.slice p n c]] rfl K0 (fun _ _=>by kernel_rfl) K0 ((lay_all (W4.heap.size) ba bi g ci pa ca (k-1) k p c n x t u v Z (Z.map Prod.fst) _ hZ rfl hk (fun W h=>hP.below (hB.trans (h.mono b7))) rfl hC hA hr hk3 (N0 gi (Nat.le_of_lt hA.blkI.lt))).mono ?_))
 rintro e d1 ⟨rfl,a5,hI⟩
 refine⟨_,rfl,?_⟩
 have a3:=k7.below' a5 c2
 have a0:=a8.below' a5 c4
 replace hB:=hB.trans (a5.mono b7)
 refine wpList_nil ?_
 refine wp_seq ?_
 refine wp_region_lit ?_
 refine Yx K0 (Ys ⟨b2,0,none⟩ (P0 bi) rfl K0 K0 (a3.cell (i:=0) rfl) ?_)
 refine Yx K0 (Yr (v:=P0 bi) (b:=b2) (off:=0) rfl K0 K0 K0 rfl a3 (by first|decide|simp) ?_)
 intro c9 b8 b5
 change Blk _ _ [P0 bi] _ at b5
 replace hB:=b8.below hB g2
 replace a0:=b8.blk a0 (S3 a1)
 replace hI:=hI.only (Q1 (T:=[31]) b8 a3 Do) Do
 refine Yx K0 (Yr (v:=.nilIface) (b:=b3) (off:=0) rfl K0 K0 K0 rfl a0 (by first|decide|simp) ?_)
 intro c6 b9 c1
 change Blk _ _ [.nilIface] _ at c1
 replace hB:=b9.below hB g3
 replace b5:=b9.blk b5 a1
 replace hI:=hI.only (Q1 (T:=[28]) b9 a0 Do) Do
 refine wpList_nil ?_
 refine wp_ret ?_
 refine Zwp 50 #[P0 b2,P0 b3] (.tuple #[P0 bi,.nilIface]) rfl (fun _=>by kernel_rfl) (Zei b2 b3 _) fun W9 a4=>⟨Zu0 rfl K0 K0 (b5.below a4) (c1.below a4) K0 K0,?_⟩
 exact⟨_,_,_,rfl,hB.trans (a4.mono hB.size),⟨hI.blk.below a4,Zf (Zb hI.row a4) b7,hI.hn⟩⟩
end Go.Proofs.YtceeiinepijokaaGreatDoor
