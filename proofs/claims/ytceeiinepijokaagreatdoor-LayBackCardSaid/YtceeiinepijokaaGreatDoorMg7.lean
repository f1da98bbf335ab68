/- What was laid stands: the superblock, and the blocks of the trees. -/
import Derived.Laws.StructEq
import Derived.Maps.Own
import Derived.Test.YtceeiinepijokaaGreatDoorMg6
namespace Go.Proofs.YtceeiinepijokaaGreatDoor
set_option maxHeartbeats 8000000
set_option maxRecDepth 100000
open Go.RowKit Go.Extern.Stop Go.Stop Go.Extern
set_option linter.unusedVariables false
attribute [local irreducible] wpList wpAnyH Code.wp Oper.wp Go
theorem supN_bdL{s:Sup}(h:Qg s=true):s.blocks≤14400∧∀ x∈Zcy s,0≤x∧x.toNat<256 ^ 4:=by
 unfold Qg at h
 simp only[D9,decide_eq_true_eq,true_and] at h
 refine⟨by omega,fun x hx=>?_⟩
 simp only[Zcy,A9,B7,or_false] at hx
 rcases hx with rfl|rfl|rfl|rfl|rfl|rfl|rfl|rfl|rfl|rfl|rfl<;>omega
theorem Zt4(N:List Int)(Q:Bl)(h:∀ x∈N,0≤x∧x.toNat<256 ^ 4)(P:Bl)(i:Nat)(hi:i<N.length):(Zn (P++(Wl N++Q)) (P.length+i*4) 4:Int)=N.getD i 0:=by
 induction N generalizing P i with
 | nil=>simp at hi
 | cons n N ih =>
  have e:Wl (n::N)=leB n 4++Wl N:=rfl
  cases i with
  | zero =>
   have:=h n (by simp)
   rw[e,A1]
   simpa using Gv (P:=P) (Q:=Wl N++Q) (k:=P.length) (w:=4) (x:=n) rfl this.1 this.2
  | succ i =>
   have a0:i<N.length:=by simpa using hi
   have:=ih (fun x hx=>h x (by simp[hx])) (P++leB n 4) i a0
   rw[e,A1,←A1 P]
   rw[A8,Zj] at this
   rw[show P.length+(i+1)*4=P.length+4+i*4 by omega,this]
   simp[List.getD]
theorem Rn{s:Sup}(h:Qg s=true):Zh (Py s)=s∧Zn (Py s) 8 4=1:=by
 have hb:=(supN_bdL h).2
 have g:=Zt4 (1::Zcy s) (List.replicate 188 0) (fun x hx=>by
  rcases A9.1 hx with rfl|q
  ·decide
  ·exact hb x q) Lj
 have g:∀ i,i<12→(Zn (Py s) (8+i*4) 4:Int)=(1::Zcy s).getD i 0:=fun i hi=>by
  have:=g i (by show i<12;exact hi)
  rw[show Lj.length=8 from rfl] at this
  unfold Py
  rw[A1]
  exact this
 constructor
 ·unfold Zh
  rw[show(Zn (Py s) 12 4:Int)=s.tx from g 1 Do,show(Zn (Py s) 16 4:Int)=s.time from g 2 Do,show(Zn (Py s) 20 4:Int)=s.unit from g 3 Do,show(Zn (Py s) 24 4:Int)=s.data from g 4 Do,show(Zn (Py s) 28 4:Int)=s.blocks from g 5 Do,show(Zn (Py s) 32 4:Int)=s.top from g 6 Do,show(Zn (Py s) 36 4:Int)=s.details from g 7 Do,show(Zn (Py s) 40 4:Int)=s.dslots from g 8 Do,show(Zn (Py s) 44 4:Int)=s.dover from g 9 Do,show(Zn (Py s) 48 4:Int)=s.mindex from g 10 Do,show(Zn (Py s) 52 4:Int)=s.mover from g 11 Do]
 ·have:(Zn (Py s) 8 4:Int)=1:=g 0 Do
  omega
theorem Zrc{s:Sup}(h:Qg s=true):Zxs (Py s)=true:=by
 rw[An (Kx s),(Rn h).1,h];simp
theorem sup_back{F:Bl}{s:Sup}{k:Nat}(hl:F.length=k*256)(hk:1≤k)(hb:Vv F 0=Xu 1 ((0:Nat):Int) (Py s))(hr:Qg s=true)(hs:s.blocks≤(k:Int)):Yw F=0∧Zh (inB F 0)=s:=by
 obtain⟨h1,h2⟩:=Zey (l:=F) (kind:=1) (k:=0) (li:=Py s) Do Do M0 Do (Kx s) hb
 have h1:inE F 1 0=0:=h1
 have h2:inB F 0=Py s:=h2
 refine⟨?_,by rw[h2];exact(Rn hr).1⟩
 unfold Yw
 rw[if_pos h1,h2]
 unfold Bo
 rw[if_pos (Zrc hr),(Rn hr).1,if_neg (by rw[hl];omega)]
theorem Oo{L:List (List Int)}{q:Nat}{bs:Bl}:∀ n,(q+n)*256≤bs.length→∀ x,x<q→Vv (Xy L q bs n) x=Vv bs x
 | 0,_,_,_=>rfl
 | n+1,h,x,hx=>by
  have ih:=Oo (L:=L) (q:=q) (bs:=bs) n M0 x hx
  have hl:=Yh (L:=L) (q:=q) (bs:=bs) n M0
  have a0:(Xu 3 ((q+n:Nat):Int) (Kt (L.getD n []))).length=256:=Yn (by unfold Kt;rw[Vb];decide)
  show Vv (Qh (Xy L q bs n) ((q+n)*256) (Xu 3 ((q+n:Nat):Int) (Kt (L.getD n [])))) x=_
  rw[Yv a0 (by rw[hl];omega) M0 (by rw[hl];omega),ih]
theorem Zhg{l:List Int}{q:Nat}{bs:Bl}(hl:l.length≤65536)(hb:(q+Qr l)*256≤bs.length):(Vk l q bs).2.2.length=bs.length∧∀ x,x<q→Vv (Vk l q bs).2.2 x=Vv bs x:=by
 obtain⟨N,hN⟩:∃ N,bmN l.length=N:=⟨_,rfl⟩
 obtain⟨L,hL⟩:∃ L,Xa (Zl l) N=L:=⟨_,rfl⟩
 obtain⟨O,hO⟩:∃ O,Zp l l.length=O:=⟨_,rfl⟩
 have a2:Qr l=N+Xk 4 N+Xk 5 O.length:=by unfold Qr;rw[hN,hO]
 have a3:N≤69:=by unfold bmN at hN;omega
 have ES:EntsOk (Jd 4 true) (Xm L q N):=Ga _ _ _ M0
 have EO:EntsOk (Jd 5 true) O:=hO▸Vl _ _ M0
 have a0:=Yh (L:=L) (q:=q) (bs:=bs) N M0
 have a1:=Oo (L:=L) (q:=q) (bs:=bs) N M0
 have k4:=Qf (t:=4) (l:=Xm L q N) (q:=q+N) (bs:=Xy L q bs N) Do Do ES (by rw[a0,Xg];omega)
 have k5:=Qf (t:=5) (l:=O) (q:=q+N+Xk 4 N) (bs:=(Zz 4 (Xm L q N) (q+N) (Xy L q bs N)).2) Do Do EO (by rw[k4.1,a0];omega)
 have hP:(Vk l q bs).2.2=(Zz 5 O (q+N+Xk 4 N) (Zz 4 (Xm L q N) (q+N) (Xy L q bs N)).2).2:=by
  unfold Vk;simp only[hN,hL,hO]
 rw[hP]
 exact⟨by rw[k5.1,k4.1,a0],fun x hx=>by rw[k5.2 x M0,k4.2 x M0,a1 x hx]⟩
theorem Zhb{l:List Int}{u:Nat}{bs:Bl}(hl:l.length≤3000)(hb:(u+Yf l)*256≤bs.length):(Vo l u 0 bs).2.2.length=bs.length∧∀ x,x<u→Vv (Vo l u 0 bs).2.2 x=Vv bs x:=by
 obtain⟨N,hN⟩:∃ N,bmN l.length=N:=⟨_,rfl⟩
 obtain⟨O,hO⟩:∃ O,Zp l l.length=O:=⟨_,rfl⟩
 obtain⟨T,hT⟩:∃ T,Xk 5 O.length=T:=⟨_,rfl⟩
 have hm:Yf l=T+N+1:=by unfold Yf;rw[hN,hO,hT]
 obtain⟨B,hB⟩:∃ B,Qx l u (Yf l)=B:=⟨_,rfl⟩
 have a4:B.length=l.length:=by rw[←hB,Qa]
 obtain⟨C,hC⟩:∃ C,Xa (Zl B) N=C:=⟨_,rfl⟩
 obtain⟨R,hR⟩:∃ R,Rs C (u+T) N=R:=⟨_,rfl⟩
 obtain⟨X,hX⟩:∃ X,Xu 4 ((u+T+N:Nat):Int) (Ei R)=X:=⟨_,rfl⟩
 have a6:N≤4:=by unfold bmN at hN;omega
 have hP:(Vo l u 0 bs).2.2=Qh (Xy C (u+T) (Zz 5 O u bs).2 N) ((u+T+N)*256) X:=by
  unfold Vo
  simp only[G3,hB,a4,hN,hO,hT,hC,hR,hX]
 have EO:EntsOk (Jd 5 true) O:=hO▸Vl _ _ M0
 have a7:R.length=N:=by rw[←hR,Cb]
 have a0:=Qf (t:=5) (l:=O) (q:=u) (bs:=bs) Do Do EO (by rw[hT];omega)
 have a1:=Yh (L:=C) (q:=u+T) (bs:=(Zz 5 O u bs).2) N (by rw[a0.1];omega)
 have a3:=Oo (L:=C) (q:=u+T) (bs:=(Zz 5 O u bs).2) N (by rw[a0.1];omega)
 rw[hP]
 by_cases hN15:N≤15
 ·have a5:(Ei R).length=244:=Mu M0
  have a2:X.length=256:=by rw[←hX];exact Yn M0
  exact⟨by rw[Yg (by rw[a2,a1,a0.1];omega),a1,a0.1],fun x hx=>by rw[Yv a2 (by rw[a1,a0.1];omega) M0 (by rw[a1,a0.1];omega),a3 x M0,a0.2 x hx]⟩
 ·exact absurd hN15 M0
theorem Zwm{t u v:Int}{x k:Nat}{L:List Dv}(hk:PoolOk t u v (x:Int) L)(hr:Uk x L≤k)(hk3:k≤3000) :
 (Qb t u v x L k).length=k*256∧Yw (Qb t u v x L k)=0∧Zh (inB (Qb t u v x L k) 0)=Zb7 t u v x L k∧∀ j,1≤j→j<1+Xj (F2 L)→Vv (Qb t u v x L k) j=Vv (Gf L k) j:=by
 have a1:=La hr
 have hx:x≤65536:=by have:=hk.hdata;omega
 have a5:=Od hk hr M0
 have a4:∀ y∈F2 L,Lh y:=fun y hy=>by
  unfold F2 F1 at hy
  rcases List.mem_append.1 hy with q|q
  ·rcases List.mem_append.1 q with q|q
   ·exact Zju hk.devs y q
   ·rw[D3.1 q];exact Ztm hk.devs
  ·rw[D3.1 q];exact Zto hk.devs
 have l1:(Gf L k).length=k*256:=by
  unfold Gf
  rw[Ic _ _ _ a4 (by rw[B6];omega),B6]
 have a6:Qu x L=Xj (F2 L)+Qr (Xw x L):=rfl
 have p2:=Zhg (l:=Xw x L) (q:=1+Xj (F2 L)) (bs:=Gf L k) (by rw[Xx];exact hx) (by rw[l1];omega)
 have e2:(Kw x L k)=Vk (Xw x L) (1+Xj (F2 L)) (Gf L k):=rfl
 rw[←e2] at p2
 have hn:Yf (Xt (Qu x L+1) k)=2+bmN k:=by
  unfold Yf
  rw[Wa,Zr,D6,Ob];omega
 have p3:=Zhb (l:=Xt (Qu x L+1) k) (u:=1+Qu x L) (bs:=(Kw x L k).2.2) (by rw[Zr];exact hk3) (by rw[hn,p2.1,l1];omega)
 have e3:(Ug x L k).2.2=(Vo (Xt (Qu x L+1) k) (1+Qu x L) 0 (Kw x L k).2.2).2.2:=by
  unfold Ug Vo
  simp only[G3]
 rw[←e3] at p3
 have l3:(Ug x L k).2.2.length=k*256:=by rw[p3.1,p2.1,l1]
 have a0:(Xu 1 (0:Nat) (Py (Zb7 t u v x L k))).length=256:=Yn (by rw[Kx];decide)
 have lB:(Qb t u v x L k).length=k*256:=by
  unfold Qb
  rw[Yg (by rw[a0,l3];omega),l3]
 have a2:Vv (Qb t u v x L k) 0=Xu 1 ((0:Nat):Int) (Py (Zb7 t u v x L k)):=by
  unfold Qb
  exact Ci a0 (by rw[l3];omega)
 obtain⟨s1,s2⟩:=sup_back lB M0 a2 a5 (M5 _)
 refine⟨lB,s1,s2,fun j a7 a3=>?_⟩
 unfold Qb
 rw[Yv a0 (by rw[l3];omega) M0 (by rw[l3];omega),p3.2 j M0,p2.2 j a3]
theorem Ub(t:Int)(l:List Ent)(q:Nat)(bs:Bl):(Zz t l q bs).1=((q+Xk t l.length-1:Nat):Int):=by
 obtain⟨m,hm⟩:∃ m,Kh t true=m:=⟨_,rfl⟩
 have a1:=Qi t true
 have a0:=Qp l.length m
 have hg:=Kl (ovN l.length m)
 have hN:Xk t l.length=(Jy (ovN l.length m)).sum:=by unfold Xk Uh;rw[hm]
 unfold Zz
 rw[hm,hN,Zas (by rw[Xr];exact a0) (by rw[Xr,Jp M0];show((q+(ovN l.length m-1):Nat):Int)=_;congr 1;omega) M0,Xr]
 congr 1
 omega
theorem Zee{L:List (List Int)}{q k:Nat}{bs x:Bl}(hx:x.length=256)(hk:(k+1)*256≤bs.length)(hd:k<q):∀ n,(q+n)*256≤bs.length→Xy L q (Qh bs (k*256) x) n=Qh (Xy L q bs n) (k*256) x
 | 0,_=>rfl
 | n+1,h=>by
  have ih:=Zee (L:=L) hx hk hd n M0
  have hc:=Yh (L:=L) (q:=q) (bs:=bs) n M0
  have a0:(Xu 3 ((q+n:Nat):Int) (Kt (L.getD n []))).length=256:=Yn (by unfold Kt;rw[Vb];decide)
  show Qh (Xy L q (Qh bs (k*256) x) n) ((q+n)*256) _=Qh (Qh (Xy L q bs n) ((q+n)*256) _) (k*256) x
  rw[ih]
  exact Za1 (by rw[hx,hc];omega) (by rw[a0,hc];omega) (.inl (by rw[hx];omega))
theorem Bm{t:Int}{l:List Ent}{q:Nat}{bs:Bl}(h1:1≤t)(h2:t≤5)(E:EntsOk (Jd t true) l)(hq:(q+Xk t l.length)*256≤bs.length):(Zz t l q bs).2.length=bs.length:=(Qf h1 h2 E hq).1
theorem Nd(l:List Int)(q N:Nat)(bs:Bl)(L:List (List Int))(O:List Ent)(hN:bmN l.length=N)(hL:Xa (Zl l) N=L)(hO:Zp l l.length=O) :
 (Vk l q bs).2.2=(Zz 5 O (q+N+Xk 4 N) (Zz 4 (Xm L q N) (q+N) (Xy L q bs N)).2).2∧(Vk l q bs).1=((q+N+Xk 4 N-1:Nat):Int)∧(Vk l q bs).2.1=((q+Qr l-1:Nat):Int):=by
 have a0:Qr l=N+Xk 4 N+Xk 5 O.length:=by unfold Qr;rw[hN,hO]
 refine⟨by unfold Vk;simp only[hN,hL,hO],?_,?_⟩
 ·unfold Vk;simp only[hN,hL];rw[Ub,Xg]
 ·unfold Vk;simp only[hN,hL,hO];rw[Ub,a0];congr 1;omega
theorem plot_put{l:List Int}{q k:Nat}{bs x:Bl}(hl:l.length≤65536)(hx:x.length=256)(hb:(q+Qr l)*256≤bs.length)(hd:k<q):(Vk l q (Qh bs (k*256) x)).2.2=Qh (Vk l q bs).2.2 (k*256) x:=by
 obtain⟨N,hN⟩:∃ N,bmN l.length=N:=⟨_,rfl⟩
 obtain⟨L,hL⟩:∃ L,Xa (Zl l) N=L:=⟨_,rfl⟩
 obtain⟨O,hO⟩:∃ O,Zp l l.length=O:=⟨_,rfl⟩
 have a1:Qr l=N+Xk 4 N+Xk 5 O.length:=by unfold Qr;rw[hN,hO]
 have a2:N≤69:=by unfold bmN at hN;omega
 have ES:EntsOk (Jd 4 true) (Xm L q N):=Ga _ _ _ M0
 have EO:EntsOk (Jd 5 true) O:=hO▸Vl _ _ M0
 have a0:=Yh (L:=L) (q:=q) (bs:=bs) N M0
 have k4:=Bm (t:=4) (l:=Xm L q N) (q:=q+N) (bs:=Xy L q bs N) Do Do ES (by rw[a0,Xg];omega)
 rw[(Nd l q N _ L O hN hL hO).1,(Nd l q N bs L O hN hL hO).1,Zee hx M0 hd N M0,Hg Do Do ES hx (by rw[a0,Xg];omega) (by rw[a0];omega) (.inl M0),Hg Do Do EO hx (by rw[k4,a0];omega) (by rw[k4,a0];omega) (.inl M0)]
theorem Zsp{l:List Int}{q p:Nat}{bs:Bl}{s:Int}{e:List Ent}(hl:l.length≤65536)(s1:1≤s)(s2:s≤5)(Es:EntsOk (Jd s true) e)(hb:(q+Qr l)*256≤bs.length)(hd:p+Xk s e.length≤q):(Vk l q (Zz s e p bs).2).2.2=(Zz s e p (Vk l q bs).2.2).2:=by
 obtain⟨N,hN⟩:∃ N,bmN l.length=N:=⟨_,rfl⟩
 obtain⟨L,hL⟩:∃ L,Xa (Zl l) N=L:=⟨_,rfl⟩
 obtain⟨O,hO⟩:∃ O,Zp l l.length=O:=⟨_,rfl⟩
 have a1:Qr l=N+Xk 4 N+Xk 5 O.length:=by unfold Qr;rw[hN,hO]
 have a2:N≤69:=by unfold bmN at hN;omega
 have ES:EntsOk (Jd 4 true) (Xm L q N):=Ga _ _ _ M0
 have EO:EntsOk (Jd 5 true) O:=hO▸Vl _ _ M0
 have a0:=Yh (L:=L) (q:=q) (bs:=bs) N M0
 have k4:=Bm (t:=4) (l:=Xm L q N) (q:=q+N) (bs:=Xy L q bs N) Do Do ES (by rw[a0,Xg];omega)
 have c1:=Ba (L:=L) (p:=q) (bs:=bs) s1 s2 Es hd N M0
 have c2:=Wc (t:=4) (s:=s) (l:=Xm L q N) (e:=e) (q:=q+N) (p:=p) (bs:=Xy L q bs N) Do Do ES s1 s2 Es (by rw[a0,Xg];omega) M0
 have c3:=Wc (t:=5) (s:=s) (l:=O) (e:=e) (q:=q+N+Xk 4 N) (p:=p) (bs:=(Zz 4 (Xm L q N) (q+N) (Xy L q bs N)).2) Do Do EO s1 s2 Es (by rw[k4,a0];omega) M0
 rw[(Nd l q N _ L O hN hL hO).1,(Nd l q N bs L O hN hL hO).1,c3,c2,c1]
theorem Bh(l:List Int)(u N T:Nat)(bs:Bl)(C:List (List Int))(O:List Ent)(hN:bmN l.length=N)(hO:Zp l l.length=O)(hT:Xk 5 O.length=T)(hC:Xa (Zl (Qx l u (Yf l))) N=C) :
 (Vo l u 0 bs).2.2=Qh (Xy C (u+T) (Zz 5 O u bs).2 N) ((u+T+N)*256) (Xu 4 ((u+T+N:Nat):Int) (Ei (Rs C (u+T) N)))∧(Vo l u 0 bs).1=((u+T+N:Nat):Int)∧(Vo l u 0 bs).2.1=((u+T-1:Nat):Int):=by
 refine⟨by unfold Vo;simp only[G3,Qa,hN,hO,hT,hC],by unfold Vo;simp only[G3,Qa,hN,hO,hT],?_⟩
 unfold Vo
 simp only[G3,hO]
 rw[Ub,hT]
theorem Zma{C:List (List Int)}{p N k:Nat}(hN:N≤15):(Xu 4 ((k:Nat):Int) (Ei (Rs C p N))).length=256:=Yn (by have:=Mu (S:=Rs C p N) (by rw[Cb];omega);omega)
theorem Zna{l:List Int}{u k:Nat}{bs x:Bl}(hl:l.length≤3000)(hx:x.length=256)(hb:(u+Yf l)*256≤bs.length)(hd:k<u):(Vo l u 0 (Qh bs (k*256) x)).2.2=Qh (Vo l u 0 bs).2.2 (k*256) x:=by
 obtain⟨N,hN⟩:∃ N,bmN l.length=N:=⟨_,rfl⟩
 obtain⟨O,hO⟩:∃ O,Zp l l.length=O:=⟨_,rfl⟩
 obtain⟨T,hT⟩:∃ T,Xk 5 O.length=T:=⟨_,rfl⟩
 obtain⟨C,hC⟩:∃ C,Xa (Zl (Qx l u (Yf l))) N=C:=⟨_,rfl⟩
 have hm:Yf l=T+N+1:=by unfold Yf;rw[hN,hO,hT]
 have a3:N≤4:=by unfold bmN at hN;omega
 have EO:EntsOk (Jd 5 true) O:=hO▸Vl _ _ M0
 have a0:=Bm (t:=5) (l:=O) (q:=u) (bs:=bs) Do Do EO (by rw[hT];omega)
 have a1:=Yh (L:=C) (q:=u+T) (bs:=(Zz 5 O u bs).2) N (by rw[a0];omega)
 have a2:=Zma (C:=C) (p:=u+T) (N:=N) (k:=u+T+N) M0
 rw[(Bh l u N T _ C O hN hO hT hC).1,(Bh l u N T bs C O hN hO hT hC).1,Hg Do Do EO hx (by rw[hT];omega) M0 (.inl hd)]
 simp only
 rw[Zee hx (by rw[a0];omega) M0 N (by rw[a0];omega)]
 exact Za1 (by rw[hx,a1,a0];omega) (by rw[a2,a1,a0];omega) (.inl (by rw[hx];omega))
theorem Iy{l:List Int}{u p:Nat}{bs:Bl}{s:Int}{e:List Ent}(hl:l.length≤3000)(s1:1≤s)(s2:s≤5)(Es:EntsOk (Jd s true) e)(hb:(u+Yf l)*256≤bs.length)(hd:p+Xk s e.length≤u):(Vo l u 0 (Zz s e p bs).2).2.2=(Zz s e p (Vo l u 0 bs).2.2).2:=by
 obtain⟨N,hN⟩:∃ N,bmN l.length=N:=⟨_,rfl⟩
 obtain⟨O,hO⟩:∃ O,Zp l l.length=O:=⟨_,rfl⟩
 obtain⟨T,hT⟩:∃ T,Xk 5 O.length=T:=⟨_,rfl⟩
 obtain⟨C,hC⟩:∃ C,Xa (Zl (Qx l u (Yf l))) N=C:=⟨_,rfl⟩
 have hm:Yf l=T+N+1:=by unfold Yf;rw[hN,hO,hT]
 have a3:N≤4:=by unfold bmN at hN;omega
 have EO:EntsOk (Jd 5 true) O:=hO▸Vl _ _ M0
 have a0:=Bm (t:=5) (l:=O) (q:=u) (bs:=bs) Do Do EO (by rw[hT];omega)
 have a1:=Yh (L:=C) (q:=u+T) (bs:=(Zz 5 O u bs).2) N (by rw[a0];omega)
 have a2:=Zma (C:=C) (p:=u+T) (N:=N) (k:=u+T+N) M0
 have c1:=Wc (t:=5) (s:=s) (l:=O) (e:=e) (q:=u) (p:=p) (bs:=bs) Do Do EO s1 s2 Es (by rw[hT];omega) hd
 have c2:=Ba (L:=C) (t:=s) (l:=e) (q:=p) (p:=u+T) (bs:=(Zz 5 O u bs).2) s1 s2 Es M0 N (by rw[a0];omega)
 rw[(Bh l u N T _ C O hN hO hT hC).1,(Bh l u N T bs C O hN hO hT hC).1,Hg s1 s2 Es a2 (by rw[a1,a0];omega) (by rw[a1,a0];omega) (.inr M0),c2,c1]
theorem Zfk{l:List Int}{u:Nat}{bs:Bl}(hl:l.length≤3000)(hb:(u+Yf l)*256≤bs.length):(Vo l u 0 bs).2.2.length=bs.length:=(Zhb hl hb).1
theorem Zgq{l:List Int}{u q:Nat}{bs:Bl}{L:List (List Int)}(hl:l.length≤3000)(hb:(u+Yf l)*256≤bs.length):∀ n,q+n≤u→(Vo l u 0 (Xy L q bs n)).2.2=Xy L q (Vo l u 0 bs).2.2 n
 | 0,_=>rfl
 | n+1,h=>by
  have ih:=Zgq (L:=L) (q:=q) hl hb n M0
  have hc:=Yh (L:=L) (q:=q) (bs:=bs) n M0
  have a0:(Xu 3 ((q+n:Nat):Int) (Kt (L.getD n []))).length=256:=Yn (by unfold Kt;rw[Vb];decide)
  show(Vo l u 0 (Qh (Xy L q bs n) ((q+n)*256) _)).2.2=Qh (Xy L q (Vo l u 0 bs).2.2 n) ((q+n)*256) _
  rw[Zna hl a0 (by rw[hc];exact hb) M0,ih]
theorem Zsu{l m:List Int}{u q:Nat}{bs:Bl}(hl:l.length≤3000)(hm:m.length≤65536)(hb:(u+Yf l)*256≤bs.length)(hd:q+Qr m≤u):(Vo l u 0 (Vk m q bs).2.2).2.2=(Vk m q (Vo l u 0 bs).2.2).2.2:=by
 obtain⟨N,hN⟩:∃ N,bmN m.length=N:=⟨_,rfl⟩
 obtain⟨L,hL⟩:∃ L,Xa (Zl m) N=L:=⟨_,rfl⟩
 obtain⟨O,hO⟩:∃ O,Zp m m.length=O:=⟨_,rfl⟩
 have a1:Qr m=N+Xk 4 N+Xk 5 O.length:=by unfold Qr;rw[hN,hO]
 have a2:N≤69:=by unfold bmN at hN;omega
 have ES:EntsOk (Jd 4 true) (Xm L q N):=Ga _ _ _ M0
 have EO:EntsOk (Jd 5 true) O:=hO▸Vl _ _ M0
 have a0:=Yh (L:=L) (q:=q) (bs:=bs) N M0
 have k4:=Bm (t:=4) (l:=Xm L q N) (q:=q+N) (bs:=Xy L q bs N) Do Do ES (by rw[a0,Xg];omega)
 rw[(Nd m q N bs L O hN hL hO).1,(Nd m q N _ L O hN hL hO).1,Iy hl Do Do EO (by rw[k4,a0];exact hb) M0,Iy hl Do Do ES (by rw[a0];exact hb) (by rw[Xg];omega),Zgq hl hb N M0]
end Go.Proofs.YtceeiinepijokaaGreatDoor
namespace Go.Proofs.YtceeiinepijokaaGreatDoor
set_option maxHeartbeats 8000000
set_option maxRecDepth 100000
open Go.RowKit Go.Extern.Stop Go.Stop Go.Extern
set_option linter.unusedVariables false
attribute [local irreducible] wpList wpAnyH Code.wp Oper.wp Go
structure LayF(t u v:Int)(x k:Nat)(L:List Dv):Prop where
 pool:PoolOk t u v (x:Int) L
 room:Uk x L≤k
 few:k≤3000
theorem LayF.xs{t u v:Int}{x k:Nat}{L:List Dv}(h:LayF t u v x k L):x≤65536:=by have:=h.pool.hdata;omega
theorem LayF.trees{t u v:Int}{x k:Nat}{L:List Dv}(h:LayF t u v x k L):∀ y∈F2 L,Lh y:=fun y hy=>by
 unfold F2 F1 at hy
 rcases List.mem_append.1 hy with q|q
 ·rcases List.mem_append.1 q with q|q
  ·exact Zju h.pool.devs y q
  ·rw[D3.1 q];exact Ztm h.pool.devs
 ·rw[D3.1 q];exact Zto h.pool.devs
theorem LayF.l1{t u v:Int}{x k:Nat}{L:List Dv}(h:LayF t u v x k L):(Gf L k).length=k*256:=by
 have:=La h.room
 unfold Gf
 rw[Ic _ _ _ h.trees (by rw[B6];omega),B6]
theorem Hc(x:Nat)(L:List Dv):Qu x L=Xj (F2 L)+Qr (Xw x L):=rfl
theorem Kn(x k:Nat)(L:List Dv):Yf (Xt (Qu x L+1) k)=2+bmN k:=by
 unfold Yf
 rw[Wa,Zr,D6,Ob];omega
theorem LayF.fits{t u v:Int}{x k:Nat}{L:List Dv}(h:LayF t u v x k L):1+Qu x L+(2+bmN k)≤k:=by
 have:=La h.room
 rw[Hc];omega
def layI(x k:Nat)(L:List Dv)(bs:Bl):Bl:=(Vo (Xt (Qu x L+1) k) (1+Qu x L) 0 (Vk (Xw x L) (1+Xj (F2 L)) bs).2.2).2.2
def layX(t u v:Int)(x k:Nat)(L:List Dv):Bl:=Xu 1 ((0:Nat):Int) (Py (Zb7 t u v x L k))
theorem Mz(t u v:Int)(x k:Nat)(L:List Dv):(layX t u v x k L).length=256:=Yn (by rw[Kx];decide)
theorem Zj7(x k:Nat)(L:List Dv):Ug x L k=Vo (Xt (Qu x L+1) k) (1+Qu x L) 0 (Kw x L k).2.2:=by
 unfold Ug Vo
 simp only[G3]
theorem Zk8(t u v:Int)(x k:Nat)(L:List Dv):Qb t u v x L k=Qh (layI x k L (Gf L k)) (0*256) (layX t u v x k L):=by
 unfold Qb
 rw[Zj7]
 rfl
variable {t u v:Int} {x k:Nat} {L:List Dv}
theorem Ii{l:List Int}{q:Nat}{bs:Bl}(hl:l.length≤65536)(hb:(q+Qr l)*256≤bs.length):(Vk l q bs).2.2.length=bs.length:=(Zhg hl hb).1
theorem LayF.img_len(h:LayF t u v x k L){bs:Bl}(hb:bs.length=k*256):(layI x k L bs).length=k*256:=by
 have hf:=h.fits
 have hx:=h.xs
 have hk:=Hc x L
 have p:=Ii (l:=Xw x L) (q:=1+Xj (F2 L)) (bs:=bs) (by rw[Xx];exact hx) (by rw[hb];omega)
 unfold layI
 rw[Zfk (by rw[Zr];exact h.few) (by rw[Kn,p,hb];omega),p,hb]
theorem LayF.len(h:LayF t u v x k L):(Qb t u v x L k).length=k*256:=by
 rw[Zk8,Yg (by rw[Mz,h.img_len h.l1];have:=h.fits;omega),h.img_len h.l1]
def Zjx(t u v:Int)(x k:Nat)(L:List Dv):Bl:=Qh (Vo (Xt (Qu x L+1) k) (1+Qu x L) 0 (Gf L k)).2.2 (0*256) (layX t u v x k L)
theorem LayF.data(h:LayF t u v x k L):Qb t u v x L k=(Vk (Xw x L) (1+Xj (F2 L)) (Zjx t u v x k L)).2.2:=by
 have hf:=h.fits
 have hx:=h.xs
 have hk:=Hc x L
 have hl:=h.l1
 have a0:(Xw x L).length≤65536:=by rw[Xx];exact hx
 have a1:(Xt (Qu x L+1) k).length≤3000:=by rw[Zr];exact h.few
 have hm:=Zfk (l:=Xt (Qu x L+1) k) (u:=1+Qu x L) (bs:=Gf L k) a1 (by rw[Kn,hl];omega)
 rw[Zk8]
 unfold layI Zjx
 rw[Zsu a1 a0 (by rw[Kn,hl];omega) M0,plot_put a0 (Mz ..) (by rw[hm,hl];omega) M0]
theorem LayF.dataLen(h:LayF t u v x k L):(Zjx t u v x k L).length=k*256:=by
 have hf:=h.fits
 have hl:=h.l1
 have hm:=Zfk (l:=Xt (Qu x L+1) k) (u:=1+Qu x L) (bs:=Gf L k) (by rw[Zr];exact h.few) (by rw[Kn,hl];omega)
 unfold Zjx
 rw[Yg (by rw[Mz,hm,hl];omega),hm,hl]
def Zj5(t u v:Int)(x k:Nat)(L:List Dv):Bl:=Qh (Vk (Xw x L) (1+Xj (F2 L)) (Gf L k)).2.2 (0*256) (layX t u v x k L)
theorem LayF.meta(h:LayF t u v x k L):Qb t u v x L k=(Vo (Xt (Qu x L+1) k) (1+Qu x L) 0 (Zj5 t u v x k L)).2.2:=by
 have hf:=h.fits
 have hx:=h.xs
 have hk:=Hc x L
 have hl:=h.l1
 have a0:(Xw x L).length≤65536:=by rw[Xx];exact hx
 have a1:(Xt (Qu x L+1) k).length≤3000:=by rw[Zr];exact h.few
 have p:=Ii (l:=Xw x L) (q:=1+Xj (F2 L)) (bs:=Gf L k) a0 (by rw[hl];omega)
 rw[Zk8]
 unfold layI Zj5
 rw[Zna a1 (Mz ..) (by rw[Kn,p,hl];omega) M0]
theorem LayF.metaLen(h:LayF t u v x k L):(Zj5 t u v x k L).length=k*256:=by
 have hf:=h.fits
 have hx:=h.xs
 have hk:=Hc x L
 have hl:=h.l1
 have p:=Ii (l:=Xw x L) (q:=1+Xj (F2 L)) (bs:=Gf L k) (by rw[Xx];exact hx) (by rw[hl];omega)
 unfold Zj5
 rw[Yg (by rw[Mz,p,hl];omega),p,hl]
theorem LayF.tree(h:LayF t u v x k L){a b:List Jo}{y:Jo}(e:F2 L=a++y::b):∃ W,Qb t u v x L k=(Zz y.1 y.2 (1+Xj a) W).2∧W.length=k*256:=by
 have hf:=h.fits
 have hx:=h.xs
 have hk:=Hc x L
 have hl:=h.l1
 have a3:(Xw x L).length≤65536:=by rw[Xx];exact hx
 have a5:(Xt (Qu x L+1) k).length≤3000:=by rw[Zr];exact h.few
 have a1:=h.trees
 rw[e] at a1
 have hy:=a1 y (by simp)
 have hn:Xj (F2 L)=Xj a+(Ve y+Xj b):=by rw[e];exact Gp a (y::b)
 have hz:(List.replicate (k*256) (0:UInt8)).length=k*256:=B6
 have a2:=Ic a 1 (List.replicate (k*256) (0:UInt8)) (fun z hz=>a1 z (by simp[hz])) (by rw[hz];omega)
 have a0:=Ic b (1+Xj a+Ve y) (Ey a 1 (List.replicate (k*256) (0:UInt8))) (fun z hz=>a1 z (by simp[hz])) (by rw[a2,hz];omega)
 have hc:=for_comm (p:=1+Xj a) hy b (1+Xj a+Ve y) (Ey a 1 (List.replicate (k*256) (0:UInt8))) (fun z hz=>a1 z (by simp[hz])) (by rw[a2,hz];omega) (At _)
 obtain⟨W0,a4⟩:∃ W0,Ey b (1+Xj a+Ve y) (Ey a 1 (List.replicate (k*256) (0:UInt8)))=W0:=⟨_,rfl⟩
 rw[a4] at hc a0
 have hB:Gf L k=(Zz y.1 y.2 (1+Xj a) W0).2:=by
  unfold Gf
  rw[e,Zal,hc]
  rfl
 rw[a2,hz] at a0
 have a6:Ve y=Xk y.1 y.2.length:=rfl
 have hp:=Ii (l:=Xw x L) (q:=1+Xj (F2 L)) (bs:=W0) a3 (by rw[a0];omega)
 have hI:=h.img_len a0
 refine⟨Qh (layI x k L W0) (0*256) (layX t u v x k L),?_,by rw[Yg (by rw[Mz,hI];omega),hI]⟩
 rw[Hg hy.1 hy.2.1 hy.2.2.1 (Mz ..) (by rw[hI];omega) (by rw[hI];omega) (.inl M0),Zk8,hB]
 unfold layI
 rw[Zsp a3 hy.1 hy.2.1 hy.2.2.1 (by rw[a0];omega) M0,Iy a5 hy.1 hy.2.1 hy.2.2.1 (by rw[Kn,hp,a0];omega) M0]
end Go.Proofs.YtceeiinepijokaaGreatDoor
namespace Go.Proofs.YtceeiinepijokaaGreatDoor
set_option maxHeartbeats 8000000
set_option maxRecDepth 100000
open Go.RowKit Go.Extern.Stop Go.Stop Go.Extern
set_option linter.unusedVariables false
attribute [local irreducible] wpList wpAnyH Code.wp Oper.wp Go
def Zxt(x:Ent):Mp:=(x.1,(Ov x.2.1:Int),(Zez x.2.1:Int))
def Zqh(data:Int)(es:List Ent)(i:Nat):Prop:=∀ j,j<i→Zf3 data (es.getD j Zo).2.1=0
theorem Zd3{data:Int}{es:List Ent}{i:Nat}(h:Zqh data es i)(h2:Zf3 data (es.getD i Zo).2.1=0):Zqh data es (i+1):=fun j hj=>by
 by_cases e:j=i
 ·subst e;exact h2
 ·exact h j M0
def Zji(es:List Ent)(data:Int):List Int×Int×List Mp :=
 match (List.range es.length).find? (fun i=>Zf3 data (es.getD i Zo).2.1 != 0) with
 | some i=>([(es.getD i Zo).2.2],Zf3 data (es.getD i Zo).2.1,[])
 | none=>([],0,es.map Zxt)
theorem Zh1{es:List Ent}{data:Int}{i:Nat}(hi:i<es.length)(h:Zqh data es i)(hb:Zf3 data (es.getD i Zo).2.1≠0):Zji es data=([(es.getD i Zo).2.2],Zf3 data (es.getD i Zo).2.1,[]):=by
 unfold Zji
 rw[show(List.range es.length).find? (fun i=>Zf3 data (es.getD i Zo).2.1 != 0)=some i from by
  rw[K8]
  exact⟨by simpa using hb,B9.2 hi,fun m hm=>by simpa using h m hm⟩]
theorem Zd5{es:List Ent}{data:Int}(h:Zqh data es es.length):Zji es data=([],0,es.map Zxt):=by
 unfold Zji
 rw[show(List.range es.length).find? (fun i=>Zf3 data (es.getD i Zo).2.1 != 0)=none from by
  rw[M3]
  intro i hi
  have:=h i (B9.1 hi)
  simpa using this]
def Zoo(l:Bl)(root data fuel:Int):List Int×Int×List Mp :=
 if(Zd l root 2 fuel).fs≠[] then((Ke (Zd l root 2 fuel)).1,(Ke (Zd l root 2 fuel)).2,[])
 else Zji (Zd l root 2 fuel).es data
theorem Zig{l:Bl}{root data fuel:Int}(h:(Zd l root 2 fuel).fs≠[]):Zoo l root data fuel=((Ke (Zd l root 2 fuel)).1,(Ke (Zd l root 2 fuel)).2,[]):=if_pos h
theorem Eo{l:Bl}{root data fuel:Int}(h:(Zd l root 2 fuel).fs=[]):Zoo l root data fuel=Zji (Zd l root 2 fuel).es data:=if_neg (fun q=>q h)
def ownO(l:Bl)(y:Ent)(data fuel:Int):List Int×Int×List Mp:=Zoo l (Hv y.2.1:Int) data fuel
def Ib(l:Bl)(x y:Ent)(data fuel:Int)(sum:Nat):List Int×Int :=
 if 16777215<x.1 then([x.2.2],9)
 else if Xn Nc x.2.1≠0 then([x.2.2],Xn Nc x.2.1)
 else if Qn y.2.1≠0 then([y.2.2],Qn y.2.1)
 else if(ownO l y data fuel).2.1≠0 then(y.2.2::(ownO l y data fuel).1,(ownO l y data fuel).2.1)
 else if(ownO l y data fuel).2.2.length≠Kj x.2.1 0 then([x.2.2],13)
 else if 16384<sum+(ownO l y data fuel).2.2.length then([y.2.2],2)
 else([],0)
def devX(l:Bl)(x y:Ent)(data fuel:Int):Dv:=((x.1,(Kj x.2.1 1:Int),(Kj x.2.1 2:Int),(Kj x.2.1 3:Int)),(ownO l y data fuel).2.2)
def Zwt(l:Bl)(T:List Ent)(data fuel:Int):Nat→Nat
 | 0=>0
 | i+1=>Zwt l T data fuel i+(ownO l (T.getD i Zo) data fuel).2.2.length
def Zr2(l:Bl)(D T:List Ent)(data fuel:Int)(i:Nat):List Int×Int:=Ib l (D.getD i Zo) (T.getD i Zo) data fuel (Zwt l T data fuel i)
def devL(l:Bl)(D T:List Ent)(data fuel:Int)(i:Nat):List Dv:=(List.range i).map fun k=>devX l (D.getD k Zo) (T.getD k Zo) data fuel
theorem Zlx(l:Bl)(D T:List Ent)(data fuel:Int)(i:Nat):(devL l D T data fuel i).length=i:=by simp[devL]
theorem Zhu(l:Bl)(D T:List Ent)(data fuel:Int)(i:Nat):devL l D T data fuel (i+1)=devL l D T data fuel i++[devX l (D.getD i Zo) (T.getD i Zo) data fuel]:=by simp[devL,C3]
def devK(l:Bl)(D T:List Ent)(data fuel:Int)(i:Nat):Prop:=∀ j,j<i→(Zr2 l D T data fuel j).2=0
theorem Zhd{l:Bl}{D T:List Ent}{data fuel:Int}{i:Nat}(h:devK l D T data fuel i)(h2:(Zr2 l D T data fuel i).2=0):devK l D T data fuel (i+1):=fun j hj=>by
 by_cases e:j=i
 ·subst e;exact h2
 ·exact h j M0
def Zon(l:Bl)(D T:List Ent)(data fuel:Int):List Int×Int×List Dv :=
 match (List.range D.length).find? (fun i=>(Zr2 l D T data fuel i).2 != 0) with
 | some i=>((Zr2 l D T data fuel i).1,(Zr2 l D T data fuel i).2,[])
 | none=>([],0,devL l D T data fuel D.length)
theorem Zgr{l:Bl}{D T:List Ent}{data fuel:Int}{i:Nat}(hi:i<D.length)(h:devK l D T data fuel i)(hb:(Zr2 l D T data fuel i).2≠0):Zon l D T data fuel=((Zr2 l D T data fuel i).1,(Zr2 l D T data fuel i).2,[]):=by
 unfold Zon
 rw[show(List.range D.length).find? (fun i=>(Zr2 l D T data fuel i).2 != 0)=some i from by
  rw[K8]
  exact⟨by simpa using hb,B9.2 hi,fun m hm=>by simpa using h m hm⟩]
theorem Zl5{l:Bl}{D T:List Ent}{data fuel:Int}(h:devK l D T data fuel D.length):Zon l D T data fuel=([],0,devL l D T data fuel D.length):=by
 unfold Zon
 rw[show(List.range D.length).find? (fun i=>(Zr2 l D T data fuel i).2 != 0)=none from by
  rw[M3]
  intro i hi
  have:=h i (B9.1 hi)
  simpa using this]
def Wk:List Ent→List Ent→Nat
 | [],[]=>0
 | [],_::_=>1
 | _::_,[]=>2
 | x::a,y::b=>if x.1=y.1 then Wk a b else if x.1<y.1 then 2 else 1
theorem Zdi{D T:List Ent}:∀ i,i≤D.length→i≤T.length→(∀ j,j<i→(D.getD j Zo).1=(T.getD j Zo).1)→Wk D T=Wk (D.drop i) (T.drop i)
 | 0,_,_,_=>by simp
 | i+1,h1,h2,h=>by
  rw[Zdi i M0 M0 fun j hj=>h j M0]
  have e:=h i M0
  rw[show D.getD i Zo=D[i]' M0 from by simp[List.getD,show i<D.length by omega],show T.getD i Zo=T[i]' M0 from by simp[List.getD,show i<T.length by omega]] at e
  rw[E8 (show i<D.length by omega),E8 (show i<T.length by omega)]
  show(if D[i].1=T[i].1 then Wk (D.drop (i+1)) (T.drop (i+1)) else _)=_
  rw[if_pos e]
theorem Zqc{D T:List Ent}(h:Wk D T=0):D.length=T.length∧∀ i,i<D.length→(D.getD i Zo).1=(T.getD i Zo).1:=by
 induction D generalizing T with
 | nil =>
  cases T with
  | nil=>exact⟨rfl,fun i hi=>absurd hi (by simp)⟩
  | cons y b=>simp[Wk] at h
 | cons x a ih =>
  cases T with
  | nil=>simp[Wk] at h
  | cons y b =>
   by_cases e:x.1=y.1
   ·have h2:Wk a b=0:=by simpa [Wk,e] using h
    obtain⟨h3,h4⟩:=ih h2
    refine⟨by simp[h3],fun i hi=>?_⟩
    cases i with
    | zero=>simpa [List.getD] using e
    | succ i=>simpa [List.getD] using h4 i (by simpa using hi)
   ·by_cases q:x.1<y.1<;>simp[Wk,e,q] at h
def Zcg(l:Bl)(top details data fuel:Int):List Int×Int×List Dv :=
 if(Zd l details 3 fuel).fs≠[] then((Ke (Zd l details 3 fuel)).1,(Ke (Zd l details 3 fuel)).2,[])
 else if(Zd l top 1 fuel).fs≠[] then((Ke (Zd l top 1 fuel)).1,(Ke (Zd l top 1 fuel)).2,[])
 else if 4096<(Zd l details 3 fuel).es.length then([details],2,[])
 else if Wk (Zd l details 3 fuel).es (Zd l top 1 fuel).es=1 then([details],18,[])
 else if Wk (Zd l details 3 fuel).es (Zd l top 1 fuel).es=2 then([top],18,[])
 else Zon l (Zd l details 3 fuel).es (Zd l top 1 fuel).es data fuel
theorem Zte{a:Act}{o:Oper}{p q:Operand}(x:Mp)(ho:o.op=.binOp .neq 159 p q 159)(hx:a.eval p=.agg (Cu x).toArray)(hy:a.eval q=.agg (Cu x).toArray)(V:World) :
 (execOp a.eval o).run Tryz.prog V=.ok (.value (.bool false)) V:=by
 have h1:=Tryz.underlying159
 have h2:=Tryz.underlying3
 have h4:Tryz.prog.stoodInHeld 159=false:=by kernel_rfl
 have hb:(binOp .neq 159 (.agg (Cu x).toArray) (.agg (Cu x).toArray)).run Tryz.prog V=.ok (.bool false) V:=by
  obtain⟨x0,x1,x2⟩:=x
  simp[go_sem,Program.fieldsOf,h1,h2,h4,Op.eqFields,Cu]
 have hg:=run_eqGuard_agg (P:=Tryz.prog) (w:=V) .neq 159 p q (Cu x).toArray (Cu x).toArray K0
 simp only[execOp,ho,hx,hy,C9,hg,E1,hb]
 rfl
def Yt(B:Nat)(w:World)(Z:List Zv):Prop:=∀ i,i<Z.length→w.ownsRow B 159 3 (.slice (Z.getD i zvD).2.1 (Z.getD i zvD).1.2.length (Z.getD i zvD).2.2) (Z.getD i zvD).1.2.length ((Z.getD i zvD).1.2.flatMap Cu)
theorem Yt.nil(B:Nat)(w:World):Yt B w []:=fun i hi=>absurd hi (by simp)
theorem Yt.below{B:Nat}{w W:World}{Z:List Zv}(h:Yt B w Z)(hb:B3 w W):Yt B W Z:=fun i hi=>Zb (h i hi) hb
theorem Yt.only{B:Nat}{w W:World}{Z:List Zv}{T:List TypeId}(h:Yt B w Z)(hO:Ze T w W)(hT:T.contains 159=false):Yt B W Z:=fun i hi=>Zi (h i hi) hO hT
theorem Yt.snoc{B n:Nat}{w:World}{Z:List Zv}{d:Dv}{p:O0}{c:Nat}(h:Yt B w Z)(hn:d.2.length=n)(ho:w.ownsRow B 159 3 (.slice p n c) n (d.2.flatMap Cu)):Yt B w (Z++[(d,p,c)]):=by
 subst hn
 intro i hi
 by_cases e:i<Z.length
 ·have:=h i e
  rw[show(Z++[(d,p,c)]).getD i zvD=Z.getD i zvD from by simp[List.getD,Ge e]];exact this
 ·obtain rfl:i=Z.length:=by simp at hi;omega
  rw[show(Z++[(d,p,c)]).getD Z.length zvD=(d,p,c) from by simp[List.getD]];exact ho
theorem Zvb{B:Nat}{w:World}{p:O0}{c:Nat}{Z:List Zv}(hM:Yt B w Z)(ho:w.ownsRow B 95 5 (.slice p Z.length c) Z.length (Z.flatMap Zh5)):DevsR w p c Z:=⟨Zg ho,fun i hi=>Zg (hM i hi)⟩
theorem Fv{l:Bl}{top details data fuel:Int}(h:(Zd l details 3 fuel).fs=[])(h2:(Zd l top 1 fuel).fs=[])(h3:¬ 4096<(Zd l details 3 fuel).es.length)(h4:Wk (Zd l details 3 fuel).es (Zd l top 1 fuel).es=0):Zcg l top details data fuel=Zon l (Zd l details 3 fuel).es (Zd l top 1 fuel).es data fuel:=by unfold Zcg;rw[if_neg (fun q=>q h),if_neg (fun q=>q h2),if_neg h3,if_neg M0,if_neg M0]
theorem Zsg{m:Mp}(h1:0≤m.2.1∧m.2.1≤65535)(h2:0≤m.2.2∧m.2.2≤16777215):Xn Mf (Zrv m)=0∧(Ov (Zrv m):Int)=m.2.1∧(Zez (Zrv m):Int)=m.2.2:=by
 obtain⟨he,hv⟩:=Znh (ps:=Mf) (N:=[m.2.1*16777216+m.2.2]) Zkm rfl (by
  unfold Us
  rw[show List.range Mf.length=[0] from rfl]
  simp[inP,Mf,List.getD];omega)
 have h:=hv 0 Do
 have hn:(mapN (Zrv m):Int)=m.2.1*16777216+m.2.2:=h
 refine⟨he,?_,?_⟩
 ·unfold Ov;omega
 ·unfold Zez;omega
theorem Zkd{data n:Int}{d:Dv}(h:DevOk data d)(hn:0≤n∧n≤16384):Xn Nc (Pr n d)=0∧(Kj (Pr n d) 0:Int)=n∧(Kj (Pr n d) 1:Int)=d.1.2.1∧(Kj (Pr n d) 2:Int)=d.1.2.2.1∧(Kj (Pr n d) 3:Int)=d.1.2.2.2:=by
 obtain⟨he,hv⟩:=Znh (ps:=Nc) (N:=[n,d.1.2.1,d.1.2.2.1,d.1.2.2.2]) Zet rfl (by
  have a:=h.tx
  have b:=h.made
  have c:=h.snap
  unfold Us
  rw[show List.range Nc.length=[0,1,2,3] from rfl]
  simp[inP,Nc,List.getD];omega)
 exact⟨he,hv 0 Do,hv 1 Do,hv 2 Do,hv 3 Do⟩
def Df(B:Bl)(fuel:Int)(t:Int)(e:List Ent)(r:Int):Prop:=(Zd B r t fuel).es.map kvE=e.map kvE∧(Zd B r t fuel).fs=[]
theorem Df.len{B:Bl}{fuel t r:Int}{e:List Ent}(h:Df B fuel t e r):(Zd B r t fuel).es.length=e.length:=by
 have:=congrArg List.length h.1
 simpa using this
theorem kv_getS{es e:List Ent}(h:es.map kvE=e.map kvE)(i:Nat):(es.getD i Zo).1=(e.getD i Zo).1∧(es.getD i Zo).2.1=(e.getD i Zo).2.1:=by
 have hl:es.length=e.length:=by simpa using congrArg List.length h
 by_cases hi:i<es.length
 ·have e1:(es.map kvE)[i]? = (e.map kvE)[i]? := by rw[h]
  have a0:i<e.length:=by omega
  rw[C4,C4,A4 hi,A4 a0] at e1
  simp only[D5,A0,kvE,D8] at e1
  simp[List.getD,hi,a0,e1]
 ·have a0:¬ i<e.length:=by omega
  simp[List.getD,hi,a0]
theorem Df.get{B:Bl}{fuel t r:Int}{e:List Ent}(h:Df B fuel t e r)(i:Nat):((Zd B r t fuel).es.getD i Zo).1=(e.getD i Zo).1∧((Zd B r t fuel).es.getD i Zo).2.1=(e.getD i Zo).2.1:=kv_getS h.1 i
theorem Zo1{B:Bl}{fuel data r:Int}{M:List Mp}(hd:data≤65536)(hM:MapsOk data M)(h:Df B fuel 2 (Hy M) r):Zoo B r data fuel=([],0,M):=by
 have hl:=h.len
 rw[Hb] at hl
 have hx:∀ j,j<M.length→Zf3 data ((Zd B r 2 fuel).es.getD j Zo).2.1=0∧Zxt ((Zd B r 2 fuel).es.getD j Zo)=M.getD j (0,0,0):=fun j hj=>by
  obtain⟨g1,g2⟩:=h.get j
  rw[Nl hj] at g1 g2
  have hb:=hM.each (M.getD j (0,0,0)) (by simp[List.getD,hj])
  obtain⟨r1,r2,r3⟩:=Zsg (m:=M.getD j (0,0,0)) ⟨by omega,by omega⟩ hb.2.2
  refine⟨?_,?_⟩
  ·unfold Zf3
   rw[g2,if_neg (fun q=>q r1),if_neg (by rw[r2];omega)]
  ·unfold Zxt
   rw[g1,g2,r2,r3]
 rw[Eo h.2,Zd5 fun j hj=>(hx j M0).1]
 congr 2
 refine Gm (0,0,0) (by rw[A6,hl]) fun i hi=>?_
 rw[A6] at hi
 rw[←(hx i M0).2]
 simp[List.getD,hi]
structure DevsStand(B:List UInt8)(fuel data:Int)(L:List Dv)(R:Nat→Nat)(C:Nat→Int)(x y:Int):Prop where
 det:Df B fuel 3 (Pm L C) y
 top:Df B fuel 1 (Nb L R) x
 own:∀ i,i<L.length→Df B fuel 2 (Hy (L.getD i dvD).2) (R i:Int)
 root:∀ i,i<L.length→1≤R i∧R i≤14399
theorem DevsStand.ownO{B:Bl}{fuel data x y:Int}{L:List Dv}{R:Nat→Nat}{C:Nat→Int}(h:DevsStand B fuel data L R C x y)(hd:data≤65536)(hL:DevsOk data L){i:Nat}(hi:i<L.length):ownO B ((Zd B x 1 fuel).es.getD i Zo) data fuel=([],0,(L.getD i dvD).2)∧Qn ((Zd B x 1 fuel).es.getD i Zo).2.1=0:=by
 have hg:=(h.top.get i).2
 rw[Gz hi] at hg
 obtain⟨r1,r2⟩:=Ar (h.root i hi).1 (h.root i hi).2
 unfold Go.Proofs.YtceeiinepijokaaGreatDoor.ownO
 rw[hg,r2,r1]
 exact⟨Zo1 hd (hL.each _ (by simp[List.getD,hi])).maps (h.own i hi),rfl⟩
theorem DevsStand.sum{B:Bl}{fuel data x y:Int}{L:List Dv}{R:Nat→Nat}{C:Nat→Int}(h:DevsStand B fuel data L R C x y)(hd:data≤65536)(hL:DevsOk data L):∀ i,i≤L.length→Zwt B (Zd B x 1 fuel).es data fuel i=Up (L.take i)
 | 0,_=>by simp[Zwt,Up]
 | i+1,hi=>by
  have e:=sumL_take hd h hL (i:=i) M0
  show Zwt B (Zd B x 1 fuel).es data fuel i+_=_
  rw[DevsStand.sum h hd hL i M0,e]
where
 sumL_take {B:List UInt8} {fuel data x y:Int} {L:List Dv} {R:Nat→Nat} {C:Nat→Int} (hd:data≤65536) (h:DevsStand B fuel data L R C x y) (hL:DevsOk data L) {i:Nat} (hi:i<L.length):Up (L.take i)+(Go.Proofs.YtceeiinepijokaaGreatDoor.ownO B ((Zd B x 1 fuel).es.getD i Zo) data fuel).2.2.length=Up (L.take (i+1)):=by
  rw[(h.ownO hd hL hi).1]
  unfold Up
  rw[A7 hi,B5,F0]
  simp[List.getD,hi]
theorem Zvu{D T:List Ent}(hl:D.length=T.length)(h:∀ i,i<D.length→(D.getD i Zo).1=(T.getD i Zo).1):Wk D T=0:=by
 rw[Zdi D.length (At _) M0 h,List.drop_length,hl,List.drop_length];rfl
theorem DevsStand.pair{B:Bl}{fuel data x y:Int}{L:List Dv}{R:Nat→Nat}{C:Nat→Int}(h:DevsStand B fuel data L R C x y):Wk (Zd B y 3 fuel).es (Zd B x 1 fuel).es=0:=by
 refine Zvu (by rw[h.det.len,h.top.len,Km,Qk]) fun i hi=>?_
 rw[h.det.len,Km] at hi
 rw[(h.det.get i).1,(h.top.get i).1,Pb hi,Gz hi]
theorem Zrd{B:Bl}{fuel data x y:Int}{L:List Dv}{R:Nat→Nat}(hd:data≤65536)(hL:DevsOk data L)(h:DevsStand B fuel data L R (fun i=>((L.getD i dvD).2.length:Int)) x y):Zcg B x y data fuel=([],0,L):=by
 have a3:(Zd B y 3 fuel).es.length=L.length:=by rw[h.det.len,Km]
 have a2:=hL.few
 rw[Fv h.det.2 h.top.2 M0 h.pair]
 have hx:∀ j,j<L.length→(Zr2 B (Zd B y 3 fuel).es (Zd B x 1 fuel).es data fuel j).2=0∧devX B ((Zd B y 3 fuel).es.getD j Zo) ((Zd B x 1 fuel).es.getD j Zo) data fuel=L.getD j dvD:=fun j hj=>by
  have a1:=hL.each (L.getD j dvD) (by simp[List.getD,hj])
  obtain⟨o1,o2⟩:=h.ownO hd hL hj
  obtain⟨g1,g2⟩:=h.det.get j
  rw[Pb hj] at g1 g2
  have hs:=h.sum hd hL j M0
  have a0:=DevsStand.sum.sumL_take hd h hL hj
  rw[o1] at a0
  have a4:=Ti L (j+1)
  have a5:=hL.sum
  obtain⟨d0,d1,d2,d3,d4⟩:=Zkd (n:=((L.getD j dvD).2.length:Int)) a1 ⟨by omega,by change (((L.getD j dvD).2.length:Nat):Int)≤_;change Up (L.take j)+(L.getD j dvD).2.length=_ at a0;omega⟩
  constructor
  ·unfold Zr2 Ib
   rw[g1,g2,o1,o2,hs,if_neg (by have:=a1.id;simp only;omega),if_neg (fun q=>q d0),if_neg (fun q=>q rfl),if_neg (fun q=>q rfl),if_neg (by simp only;omega),if_neg (by change ¬ _<Up (L.take j)+(L.getD j dvD).2.length;change Up (L.take j)+(L.getD j dvD).2.length=_ at a0;omega)]
  ·unfold devX
   rw[g1,g2,o1,d2,d3,d4]
 rw[Zl5 fun j hj=>(hx j M0).1,a3]
 congr 2
 refine Gm dvD (Zlx _ _ _ _ _ _) fun i hi=>?_
 rw[Zlx] at hi
 rw[←(hx i hi).2]
 simp[devL,List.getD,B8 hi]
end Go.Proofs.YtceeiinepijokaaGreatDoor
namespace Go.Proofs.YtceeiinepijokaaGreatDoor
set_option maxHeartbeats 8000000
set_option maxRecDepth 100000
open Go.RowKit Go.Extern.Stop Go.Stop Go.Extern
set_option linter.unusedVariables false
attribute [local irreducible] wpList wpAnyH Code.wp Oper.wp Go
theorem Zkw{l:List Int}{q N:Nat}{bs:Bl}{fuel:Int}(hN:bmN l.length=N)(hq:1≤q)(hl:l.length≤65536)(ho:(Zp l l.length).length≤32768)(h4:q+Qr l≤14400)(hb:(q+Qr l)*256≤bs.length)(hfu:(Qr l:Int)≤fuel) :
 Zmz ((Xm (Xa (Zl l) N) q N).map kvE) (Xk 4 N) (Uh 4 N).length (Zd (Vk l q bs).2.2 (Vk l q bs).1 4 fuel) ∧
 Zmz ((Zp l l.length).map kvE) (Xk 5 (Zp l l.length).length) (Uh 5 (Zp l l.length).length).length (Zd (Vk l q bs).2.2 (Vk l q bs).2.1 5 fuel) ∧
 (Vk l q bs).2.2.length=bs.length ∧
 ∀ i,i<N→Vv (Vk l q bs).2.2 (q+i)=Xu 3 ((q+i:Nat):Int) (Kt (Yy (Zl l) i)):=by
 have a3:N≤69:=by unfold bmN at hN;omega
 have a1:=Pf l l.length
 obtain⟨L,hL⟩:∃ L,Xa (Zl l) N=L:=⟨_,rfl⟩
 obtain⟨O,hO⟩:∃ O,Zp l l.length=O:=⟨_,rfl⟩
 have a2:Qr l=N+Xk 4 N+Xk 5 O.length:=by unfold Qr;rw[hN,hO]
 have ES:EntsOk (Jd 4 true) (Xm L q N):=Ga _ _ _ M0
 have EO:EntsOk (Jd 5 true) O:=hO▸Vl _ _ M0
 rw[hO] at a1 ho
 have a0:=Yh (L:=L) (q:=q) (bs:=bs) N M0
 have hP:Vk l q bs=((Zz 4 (Xm L q N) (q+N) (Xy L q bs N)).1,(Zz 5 O (q+N+Xk 4 N) (Zz 4 (Xm L q N) (q+N) (Xy L q bs N)).2).1,(Zz 5 O (q+N+Xk 4 N) (Zz 4 (Xm L q N) (q+N) (Xy L q bs N)).2).2):=by
  unfold Vk;simp only[hN,hL,hO]
 have hT:=Wc (t:=5) (s:=4) (l:=O) (e:=Xm L q N) (q:=q+N+Xk 4 N) (p:=q+N) (bs:=Xy L q bs N) Do Do EO Do Do ES (by rw[a0];omega) (by rw[Xg];exact At _)
 have k4:=Qf (t:=4) (l:=Xm L q N) (q:=q+N) (bs:=Xy L q bs N) Do Do ES (by rw[a0,Xg];omega)
 have k5:=Qf (t:=5) (l:=O) (q:=q+N+Xk 4 N) (bs:=(Zz 4 (Xm L q N) (q+N) (Xy L q bs N)).2) Do Do EO (by rw[k4.1,a0];omega)
 have k6:=Qf (t:=5) (l:=O) (q:=q+N+Xk 4 N) (bs:=Xy L q bs N) Do Do EO (by rw[a0];omega)
 have s4:=Cg (t:=4) (fuel:=fuel) (l:=Xm L q N) (q:=q+N) (bs:=(Zz 5 O (q+N+Xk 4 N) (Xy L q bs N)).2) Do Do ES (by rw[Xg];omega) M0 (by rw[Xg,k6.1,a0];omega) (by rw[Xg];omega) (by rw[Xg];omega)
 have s5:=Cg (t:=5) (fuel:=fuel) (l:=O) (q:=q+N+Xk 4 N) (bs:=(Zz 4 (Xm L q N) (q+N) (Xy L q bs N)).2) Do Do EO M0 M0 (by rw[k4.1,a0];omega) M0 M0
 rw[hT,Xg] at s4
 rw[hP,hL,hO]
 refine⟨s4,s5,by show(Zz 5 O _ _).2.length=_;rw[k5.1,k4.1,a0],fun i hi=>?_⟩
 show Vv (Zz 5 O _ _).2 _=_
 rw[k5.2 _ M0,k4.2 _ M0,Cd (m:=bs.length/256) (by rw[a0]) rfl M0 hi,←hL,Kq hi]
theorem Zog{l:List Int}{q:Nat}{bs:Bl}{fuel:Int}(hq:1≤q)(hs:Jr l=0)(hl:l.length≤65536)(ho:(Zp l l.length).length≤32768)(h4:q+Qr l≤14400)(hb:(q+Qr l)*256≤bs.length)(hfu:(Qr l:Int)≤fuel) :
 Af (Vk l q bs).2.2 (Vk l q bs).1 (Vk l q bs).2.1 (l.length:Int) fuel=([],0,l):=by
 obtain⟨N,hN⟩:∃ N,bmN l.length=N:=⟨_,rfl⟩
 have hc:=(Pe hs).2
 obtain⟨⟨es,bl,he,-,a7⟩,⟨b1,b2,a9,-,a5⟩,hF,hB⟩:=Zkw hN hq hl ho h4 hb hfu
 have b4:Qr l=N+Xk 4 N+Xk 5 (Zp l l.length).length:=by unfold Qr;rw[hN]
 obtain⟨a2,hg⟩:=kv_get he
 rw[Xg] at a2 hg
 obtain⟨F,b0⟩:∃ F,(Vk l q bs).2.2=F:=⟨_,rfl⟩
 rw[b0] at a7 a5 hF hB ⊢
 have hk:Zc3 es=true:=Zia fun i hi=>by
  rw[(hg i M0).1,Gb M0];rfl
 have hX:∀ i,i<N→(es.map Ziu).getD i Nj=((q+i,Yo (Yy (Zl l) i),Xl (Yy (Zl l) i)),(es.getD i Zo).2.2,0):=fun i hi=>by
  have a1:=Gh hc i
  have hp:=Zu2 (L:=Xa (Zl l) N) (q:=q) (i:=i) (e:=es.getD i Zo) hq M0 (by rw[Kq hi];exact a1.2) (by rw[(hg i hi).2,Gb hi])
  rw[Kq hi] at hp
  rw[←hp]
  simp[List.getD,show i<es.length by omega]
 have hR:∀ i,i<N→Yi F ((q+i:Nat):Int)=0∧Uo F ((q+i:Nat):Int)=Yy (Zl l) i:=fun i hi=>by
  have a1:=Gh hc i
  exact Rd (by rw[hF];omega) M0 (hB i hi) a1.1 a1.2
 have h1:∀ (n:Int) (i:Nat),i<N→Zf1 F (es.map Ziu) n i=if((Yy (Zl l) i).length:Int)≠Uj n i then([(es.getD i Zo).2.2],7,[]) else([],0,Yy (Zl l) i):=fun n i hi=>by
  unfold Zf1 Zn4
  rw[hX i hi]
  simp only
  rw[(hR i hi).1,(hR i hi).2]
  simp
 have a8:∀ i,(Yy (Zl l) i).length=min 960 (l.length-i*960):=fun i=>by rw[Nx,Wh]
 have a4:(Zd F (Vk l q bs).1 4 fuel).es=es∧(Zd F (Vk l q bs).1 4 fuel).fs=[]:=by rw[a7];exact⟨rfl,rfl⟩
 have a0:(Zd F (Vk l q bs).2.1 5 fuel).es=b1∧(Zd F (Vk l q bs).2.1 5 fuel).fs=[]:=by rw[a5];exact⟨rfl,rfl⟩
 have a6:(es.map Ziu).length=N:=by rw[A6,a2]
 have b3:N*960<l.length+960∧l.length≤N*960:=by unfold bmN at hN;omega
 unfold Af
 rw[if_neg (fun q=>q a4.2),a4.1,if_neg (fun q=>q (by rw[a2];unfold bmI;rw[G1,hN])),if_neg (by rw[hk];decide)]
 rw[Za6 fun i hi=>by
  rw[a6] at hi
  rw[h1 _ i hi,if_neg (fun q=>q (by rw[a8];unfold Uj;split<;>omega))]]
 have ha:Lp F (es.map Ziu) (l.length:Int) (es.map Ziu).length=Xa (Zl l) N:=by
  rw[a6]
  unfold Lp Xa
  apply H9
  intro i hi
  have hi:=B9.1 hi
  rw[hX i hi]
  exact(hR i hi).2
 have a3:(Xa (Zl l) N).flatten=Zl l:=by
  have:=Ip (Zl l)
  rwa [Wh,hN] at this
 have hj:=Zg6 hc a9
 rw[ha,Zfa a0.2 (by rw[a3,a0.1,hj]),a3,a0.1,hj]
variable {t u v:Int} {x k:Nat} {L:List Dv}
theorem LayF.stands(h:LayF t u v x k L){a b:List Jo}{y:Jo}(e:F2 L=a++y::b):Df (Qb t u v x L k) 1000000 y.1 y.2 (Xj (a++[y]):Int):=by
 have hf:=h.fits
 have hk:=Hc x L
 have a2:=h.few
 have hy:=h.trees y (by rw[e];simp)
 obtain⟨W,hW,a0⟩:=h.tree e
 have hn:Xj (F2 L)=Xj a+(Ve y+Xj b):=by rw[e];exact Gp a (y::b)
 have a1:Ve y=Xk y.1 y.2.length:=rfl
 have hp:=Ww y
 have s:=Cg (t:=y.1) (fuel:=1000000) (l:=y.2) (q:=1+Xj a) (bs:=W) hy.1 hy.2.1 hy.2.2.1 hy.2.2.2 M0 (by rw[a0];omega) M0 M0
 rw[←hW,Ub,show 1+Xj a+Xk y.1 y.2.length-1=Xj (a++[y]) by rw[Qq];omega] at s
 obtain⟨es,bl,h1,_,h3⟩:=s
 unfold Df
 rw[h3]
 exact⟨h1,rfl⟩
theorem Zui{i:Nat}(hi:i<L.length):F2 L=Ua (L.take i)++(2,Hy (L.getD i dvD).2)::(Ua (L.drop (i+1))++[(1,Nb L (Pk L)),(3,Pm L (Hw L))]):=by
 have e0:F2 L=Ua L++[(1,Nb L (Pk L)),(3,Pm L (Hw L))]:=by simp[F2,F1]
 have e1:L=L.take i++L.getD i dvD::L.drop (i+1):=by
  rw[show L.getD i dvD=L[i] from by simp[List.getD,hi],←E8 hi,F9]
 have e2:Ua L=Ua (L.take i)++(2,Hy (L.getD i dvD).2)::Ua (L.drop (i+1)):=by
  conv=>lhs;rw[e1,Dt]
  rfl
 rw[e0,e2]
 simp
theorem F2_top(L:List Dv):F2 L=Ua L++(1,Nb L (Pk L))::[(3,Pm L (Hw L))]:=by simp[F2,F1]
theorem Fb{i:Nat}(hi:i<L.length):Pk L i=Xj (Ua (L.take i))+Ve (2,Hy (L.getD i dvD).2):=by unfold Pk;rw[Zag hi,Qq]
theorem LayF.devs(h:LayF t u v x k L):DevsStand (Qb t u v x L k) 1000000 (x:Int) L (Pk L) (Hw L) (Xj (F1 L):Int) (Xj (F2 L):Int):=by
 have hf:=h.fits
 have hk:=Hc x L
 have a0:=h.few
 refine⟨h.stands (a:=F1 L) (y:=(3,Pm L (Hw L))) (b:=[]) rfl,h.stands (F2_top L),fun i hi=>?_,fun i hi=>?_⟩
 ·have s:=h.stands (Zui hi)
  rw[Qq,←Fb hi] at s
  exact s
 ·have hn:Xj (F2 L)=Xj (Ua (L.take i))+(Ve (2,Hy (L.getD i dvD).2)+Xj (Ua (L.drop (i+1))++[(1,Nb L (Pk L)),(3,Pm L (Hw L))])):=by rw[Zui hi];exact Gp _ _
  have hp:=Ww (2,Hy (L.getD i dvD).2)
  rw[Fb hi]
  omega
theorem LayF.load(h:LayF t u v x k L):Yw (Qb t u v x L k)=0∧Zh (inB (Qb t u v x L k) 0)=Zb7 t u v x L k∧Zcg (Qb t u v x L k) (Xj (F1 L):Int) (Xj (F2 L):Int) (x:Int) 1000000=([],0,L):=by
 obtain⟨_,s1,s2,_⟩:=Zwm h.pool h.room h.few
 exact⟨s1,s2,Zrd (by have:=h.xs;omega) h.pool.devs h.devs⟩
theorem LayF.over(h:LayF t u v x k L)(h18:k≤1800):(Zp (Xw x L) (Xw x L).length).length≤32768:=by
 have hf:=h.fits
 have hk:=Hc x L
 have a3:=h.few
 have hp:Xk 5 (Zp (Xw x L) (Xw x L).length).length≤1800:=by
  have:Qr (Xw x L)=bmN (Xw x L).length+Xk 4 (bmN (Xw x L).length)+Xk 5 (Zp (Xw x L) (Xw x L).length).length:=rfl
  omega
 obtain⟨n,hn⟩:∃ n,(Zp (Xw x L) (Xw x L).length).length=n:=⟨_,rfl⟩
 rw[hn] at hp ⊢
 obtain⟨m,hm⟩:∃ m,Kh 5 true=m:=⟨_,rfl⟩
 have a1:=Qi 5 true
 have hg:=Kl (ovN n m)
 have a0:m≤18:=by rw[←hm];decide
 have hN:Xk 5 n=(Jy (ovN n m)).sum:=by unfold Xk Uh;rw[hm]
 have ha:=Zh8 (n:=n) (m:=m) M0
 have:ovN n m*m≤1800*m:=E7 m M0
 have:1800*m≤1800*18:=Nat.mul_le_mul_left 1800 a0
 have hx:=h.xs
 have a2:=Pf (Xw x L) (Xw x L).length
 omega
theorem LayF.refs(h:LayF t u v x k L)(h18:k≤1800):Af (Qb t u v x L k) (Kw x L k).1 (Kw x L k).2.1 (x:Int) 1000000=([],0,Xw x L):=by
 have hf:=h.fits
 have hk:=Hc x L
 have q:=Zog (l:=Xw x L) (q:=1+Xj (F2 L)) (bs:=Zjx t u v x k L) (fuel:=1000000) M0 (Pd h.xs h.pool.devs) (by rw[Xx];exact h.xs) (h.over h18) M0 (by rw[h.dataLen];omega) M0
 obtain⟨_,e1,e2⟩:=Nd (Xw x L) (1+Xj (F2 L)) _ (Zjx t u v x k L) _ _ rfl rfl rfl
 obtain⟨_,e3,e4⟩:=Nd (Xw x L) (1+Xj (F2 L)) _ (Gf L k) _ _ rfl rfl rfl
 rw[←h.data,e1,e2,Xx] at q
 unfold Kw
 rw[e3,e4,Xx]
 exact q
theorem Zvy(a m n:Nat):Qx (Xt a n) a m=Xt (a+m) n:=by
 refine Gm 0 (by rw[Qa,Zr,Zr]) fun i hi=>?_
 rw[Qa,Zr] at hi
 rw[Ff (by rw[Zr];exact hi),Hs hi,Hs hi]
 repeat' split
 all_goals omega
theorem LayF.cnts(h:LayF t u v x k L):Zcj (Qb t u v x L k) (Ug x L k).1 (Ug x L k).2.1 (k:Int) 1000000=([],0,Xt (1+Qu x L+(2+bmN k)) k):=by
 have hf:=h.fits
 have a0:=h.few
 have q:=Zuv (l:=Xt (Qu x L+1) k) (u:=1+Qu x L) (bs:=Zj5 t u v x k L) (fuel:=1000000) M0 (Wz M0) (by rw[L1];exact Nv) (by rw[Zr];exact a0) (by rw[Kn];omega) (by rw[Kn,h.metaLen];omega) (by rw[Kn];omega)
 obtain⟨_,e1,e2⟩:=Bh (Xt (Qu x L+1) k) (1+Qu x L) _ _ (Zj5 t u v x k L) _ _ rfl rfl rfl rfl
 obtain⟨_,e3,e4⟩:=Bh (Xt (Qu x L+1) k) (1+Qu x L) _ _ (Kw x L k).2.2 _ _ rfl rfl rfl rfl
 rw[←h.meta,e1,e2,Zr,Kn,L1 (Qu x L) 1,Zvy] at q
 rw[Zj7,e3,e4,Zr,L1 (Qu x L) 1]
 exact q
end Go.Proofs.YtceeiinepijokaaGreatDoor
namespace Go.Proofs.YtceeiinepijokaaGreatDoor
set_option maxHeartbeats 8000000
set_option maxRecDepth 100000
set_option linter.unusedVariables false
abbrev Rx:=Int×Int×Int
abbrev Cx:=List Nat×List Int×Int
def Zfj(no t:Int)(leaf:Bool)(v:Bl):Rx :=
 if leaf=true∧t=4 then(if Xn Ya v≠0 then(no,7,Xn Ya v) else(((Xs Ya v).getD 0 0:Nat),7,0))
 else if Qn v≠0 then(no,(if leaf then 2 else t),Qn v) else((Hv v:Int),(if leaf then 2 else t),0)
def Cz(t:Int)(leaf:Bool):Prop:=leaf=true∧t≠1∧t≠4
instance (t:Int) (leaf:Bool):Decidable (Cz t leaf):=inferInstanceAs (Decidable (_∧_∧_))
def Zdn(l:Bl)(no ak:Int):Int:=if ak=6 then Qw l no else if ak=7 then Yi l no else Yb l no ak
def nodX(l:Bl)(no:Int):List Rx:=if Cz (Qy (inB l no)) (Yj (inB l no)) then [] else(Uf l no).map (Zfj no (Qy (inB l no)) (Yj (inB l no)))
def Lo(s:Nat×Nat×Nat):Rx:=((s.1:Int),7,0)
def Zfu(l:Bl)(no ak:Int):List Rx:=if ak=6 then(We l no).map Lo else if ak=7 then [] else nodX l no
def Jw(f:List Nat→Rx→Cx):List Nat→List Rx→Cx
 | cs,[]=>(cs,[],0)
 | cs,x::r=>if(f cs x).2.2≠0 then f cs x else Jw f (f cs x).1 r
def Xp(l:Bl):Nat→List Nat→Rx→Cx
 | 0,cs,x=>(cs,[],0)
 | d+1,cs,x =>
  if x.2.2≠0 then(cs,[x.1],x.2.2)
  else if ¬ (0≤x.1∧x.1<cs.length) then(cs,[x.1],3)
  else if cs.getD x.1.toNat 0≠0 then(Ll cs x.1,[],0)
  else if Zdn l x.1 x.2.1≠0 then(Ll cs x.1,[x.1],Zdn l x.1 x.2.1)
  else Jw (Xp l d) (Ll cs x.1) (Zfu l x.1 x.2.1)
theorem Ju(f:List Nat→Rx→Cx)(cs:List Nat)(x:Rx)(r:List Rx):Jw f cs (x::r)=if(f cs x).2.2≠0 then f cs x else Jw f (f cs x).1 r:=rfl
theorem Pt(f:List Nat→Rx→Cx):∀ (A B:List Rx) (cs:List Nat),Jw f cs (A++B)=if(Jw f cs A).2.2≠0 then Jw f cs A else Jw f (Jw f cs A).1 B
 | [],B,cs=>by simp[Jw]
 | x::A,B,cs=>by
  rw[F5,Ju,Ju]
  by_cases h:(f cs x).2.2≠0
  ·rw[if_pos h,if_pos h,if_pos h]
  ·rw[if_neg h,if_neg h]
   exact Pt f A B _
structure Well(cs:List Nat)(n:Nat)(o:Cx):Prop where
 len:o.1.length=cs.length
 zer:zer o.1≤zer cs
 phi:phi o.1≤phi cs+n
theorem Well.refl(cs:List Nat)(n:Nat)(b:List Int)(e:Int):Well cs n (cs,b,e):=⟨rfl,At _,L4 _ _⟩
theorem Well.mono{cs:List Nat}{n m:Nat}{o:Cx}(h:Well cs n o)(hm:n≤m):Well cs m o:=⟨h.len,h.zer,by have:=h.phi;omega⟩
theorem Well.trans{cs:List Nat}{n m:Nat}{o o2:Cx}(h:Well cs n o)(k:Well o.1 m o2):Well cs (n+m) o2:=⟨k.len.trans h.len,N0 k.zer h.zer,by have:=h.phi;have:=k.phi;omega⟩
theorem Sf{f:List Nat→Rx→Cx}(hf:∀ cs x,Well cs 1 (f cs x)):∀ (L:List Rx) (cs:List Nat),Well cs L.length (Jw f cs L)
 | [],cs=>Well.refl cs _ _ _
 | x::r,cs=>by
  rw[Ju]
  split
  ·exact(hf cs x).mono (by simp)
  ·have:=(hf cs x).trans (Sf hf r (f cs x).1)
   exact this.mono (by simp;omega)
theorem maxC(l:Bl)(no ak:Int)(h:Yb l no ak=0):Xb (inB l no)≤18:=N0 (Dq (Zav (Ee (Rz h).2))) (Zxb _ _)
theorem Znc(l:Bl)(no:Int):(We l no).length≤255:=by
 by_cases h:Qw l no=0
 ·rw[(Rt h).2]
  unfold Qw at h
  by_cases h1:inE l 4 no=0
  ·rw[if_pos h1] at h
   unfold Zf5 at h
   by_cases h2:Ze4 (inB l no)=true
   ·have h3:(decide (Zn (inB l no) 0 4≤15)&&_)=true:=h2
    rw[D9] at h3
    have:=of_decide_eq_true h3.1
    omega
   ·rw[if_neg h2] at h;omega
  ·rw[if_neg h1] at h;exact absurd h h1
 ·rw[idxR_bad h];exact A3 _
theorem hasL_few{l:Bl}{no ak:Int}(h:Zdn l no ak=0):(Zfu l no ak).length≤1000:=by
 unfold Zdn at h;unfold Zfu
 split
 ·rw[A6];have:=Znc l no;omega
 ·rename_i h6
  rw[if_neg h6] at h
  split
  ·exact A3 _
  ·rename_i h7
   rw[if_neg h7] at h
   unfold nodX
   split
   ·exact A3 _
   ·rw[A6]
    have:=maxC l no ak h
    unfold Uf;rw[Lv];omega
theorem Mr(l:Bl):∀ (d:Nat) (cs:List Nat) (x:Rx),Well cs 1 (Xp l d cs x)
 | 0,cs,x=>Well.refl cs _ _ _
 | d+1,cs,x=>by
  unfold Xp
  split
  ·exact Well.refl cs _ _ _
  ·split
   ·exact Well.refl cs _ _ _
   ·rename_i h1 h2
    have h2:0≤x.1∧x.1<cs.length:=Classical.not_not.1 h2
    have hz:=Rg h2.1 h2.2
    have hs:=Ie h2.1 h2.2
    have hb:Well cs 1 (Ll cs x.1,([]:List Int),0):=⟨Jl _ _,by show zer (Ll cs x.1)≤_;omega,by show phi (Ll cs x.1)≤_;unfold phi;omega⟩
    split
    ·exact hb
    ·rename_i h3
     split
     ·exact⟨hb.len,hb.zer,hb.phi⟩
     ·rename_i h4
      have hw:=Sf (Mr l d) (Zfu l x.1 x.2.1) (Ll cs x.1)
      have hf:=hasL_few (Classical.not_not.1 h4)
      rw[if_pos (Classical.not_not.1 h3)] at hz
      refine⟨hw.len.trans (Jl _ _),N0 hw.zer hb.zer,?_⟩
      have:=hw.phi
      unfold phi at this ⊢
      omega
theorem Ed{f g:List Nat→Rx→Cx}{n:Nat}(hf:∀ cs x,Well cs 1 (f cs x))(h:∀ cs x,zer cs≤n→f cs x=g cs x):∀ (L:List Rx) (cs:List Nat),zer cs≤n→Jw f cs L=Jw g cs L
 | [],cs,_=>rfl
 | x::r,cs,hn=>by
  rw[Ju,Ju,h cs x hn]
  split
  ·rfl
  ·have:=(hf cs x).zer
   rw[h cs x hn] at this
   exact Ed hf h r _ (N0 this hn)
theorem Iz(l:Bl):∀ (d d':Nat) (cs:List Nat) (x:Rx),zer cs<d→zer cs<d'→Xp l d cs x=Xp l d' cs x
 | 0,_,_,_,h,_=>absurd h M0
 | _+1,0,_,_,_,h=>absurd h M0
 | d+1,d'+1,cs,x,h,h'=>by
  unfold Xp
  by_cases h1:x.2.2≠0
  ·rw[if_pos h1,if_pos h1]
  ·rw[if_neg h1,if_neg h1]
   by_cases h2:¬ (0≤x.1∧x.1<cs.length)
   ·rw[if_pos h2,if_pos h2]
   ·rw[if_neg h2,if_neg h2]
    by_cases h3:cs.getD x.1.toNat 0≠0
    ·rw[if_pos h3,if_pos h3]
    ·rw[if_neg h3,if_neg h3]
     by_cases h4:Zdn l x.1 x.2.1≠0
     ·rw[if_pos h4,if_pos h4]
     ·rw[if_neg h4,if_neg h4]
      have a0:=Classical.not_not.1 h2
      have hz:=Rg a0.1 a0.2
      rw[if_pos (Classical.not_not.1 h3)] at hz
      exact Ed (n:=zer (Ll cs x.1)) (Mr l d) (fun a1 x' hn=>Iz l d d' a1 x' M0 M0) _ _ (At _)
def Rh(l:Bl)(cs:List Nat)(L:List Rx):Cx:=Jw (Xp l (cs.length+1)) cs L
theorem Zrr(l:Bl)(cs:List Nat):Rh l cs []=(cs,[],0):=rfl
theorem Zgx{l:Bl}{cs:List Nat}{x:Rx}{r:List Rx}(h:x.2.2=0)(h2:0≤x.1∧x.1<cs.length)(h3:cs.getD x.1.toNat 0=0)(h4:Zdn l x.1 x.2.1=0):Rh l cs (x::r)=Rh l (Ll cs x.1) (Zfu l x.1 x.2.1++r):=by
 have hz:=Rg h2.1 h2.2
 rw[if_pos h3] at hz
 have a1:=zer_le cs
 have e:Xp l (cs.length+1) cs x=Jw (Xp l (cs.length+1)) (Ll cs x.1) (Zfu l x.1 x.2.1):=by
  conv=>lhs;unfold Xp
  rw[if_neg (fun q=>q h),if_neg (fun q=>q h2),if_neg (fun q=>q h3),if_neg (fun q=>q h4)]
  exact Ed (n:=zer (Ll cs x.1)) (Mr l _) (fun a0 x' hn=>Iz l _ _ a0 x' M0 M0) _ _ (At _)
 unfold Rh
 rw[Ju,e,Jl,Pt]
end Go.Proofs.YtceeiinepijokaaGreatDoor
namespace Go.Proofs.YtceeiinepijokaaGreatDoor
set_option maxHeartbeats 8000000
set_option maxRecDepth 100000
open Go.RowKit Go.Extern.Stop Go.Stop Go.Extern
set_option linter.unusedVariables false
attribute [local irreducible] wpList wpAnyH Code.wp Oper.wp Go
def Db(cs:List Nat)(S:List Nat):List Nat:=S.foldl (fun(c:List Nat) (b:Nat)=>Ll c (b:Int)) cs
theorem Sr(cs:List Nat)(b:Nat)(S:List Nat):Db cs (b::S)=Db (Ll cs (b:Int)) S:=rfl
theorem Zhe(cs S T:List Nat):Db cs (S++T)=Db (Db cs S) T:=List.foldl_append
theorem Bb(S:List Nat):∀ cs:List Nat,(Db cs S).length=cs.length:=by
 induction S with
 | nil=>intro cs;rfl
 | cons b S ih=>intro cs;rw[Sr,ih,Jl]
theorem Oy{cs:List Nat}{k:Nat}(hk:k<cs.length)(i:Nat):(Ll cs (k:Int)).getD i 0=cs.getD i 0+if k=i then 1 else 0:=by
 unfold Ll
 rw[G1]
 by_cases e:k=i
 ·subst e;simp[List.getD,hk]
 ·rw[if_neg e];simp[List.getD,e]
theorem Ej(S:List Nat):∀ cs:List Nat,(∀ b∈S,b<cs.length)→∀ i,(Db cs S).getD i 0=cs.getD i 0+S.count i:=by
 induction S with
 | nil=>intro cs _ i;simp[Db]
 | cons b S ih =>
  intro cs h i
  rw[Sr,ih _ (fun x hx=>by rw[Jl];exact h x (I3 _ hx)),Oy (h b F8),List.count_cons]
  by_cases e:b=i
  ·subst e;simp;omega
  ·rw[if_neg e,if_neg (by simpa using e)];omega
theorem Znu{cs S T:List Nat}(hp:S.Perm T)(h:∀ b∈S,b<cs.length):Db cs S=Db cs T:=by
 refine Gm 0 (by rw[Bb,Bb]) fun i _=>?_
 rw[Ej S cs h,Ej T cs (fun b hb=>h b (hp.mem_iff.2 hb)),hp.count_eq]
def Qs(l:Bl)(L:List Rx)(S:List Nat):Prop:=∀ (cs:List Nat) (r:List Rx),(∀ b∈S,b<cs.length∧cs.getD b 0=0)→Rh l cs (L++r)=Rh l (Db cs S) r
variable {l:List UInt8}
theorem Qs.nil:Qs l [] []:=fun cs r _=>rfl
theorem Qs.append{A B:List Rx}{S T:List Nat}(h1:Qs l A S)(h2:Qs l B T)(hd:∀ b∈T,b∉S):Qs l (A++B) (S++T):=fun cs r h=>by
 rw[A1,h1 cs (B++r) (fun b hb=>h b (Q6 _ hb)),h2 (Db cs S) r (fun b hb=>?_),Zhe]
 have:=h b (List.mem_append_right _ hb)
 rw[Bb,Ej S cs (fun b hb=>(h b (Q6 _ hb)).1),List.count_eq_zero.2 (hd b hb)]
 exact this
theorem Qs.node{no:Nat}{ak:Int}{S:List Nat}(he:Zdn l (no:Int) ak=0)(h:Qs l (Zfu l (no:Int) ak) S)(hn:no∉S):Qs l [((no:Int),ak,0)] (no::S):=fun cs r hz=>by
 obtain⟨h1,h2⟩:=hz no F8
 rw[List.singleton_append,Zgx (x:=((no:Int),ak,0)) rfl ⟨by simp only;omega,by simp only;omega⟩ (by simpa using h2) he,h (Ll cs (no:Int)) r (fun b hb=>?_),Sr]
 have:=hz b (I3 _ hb)
 rw[Jl,Oy h1,if_neg (fun e:no=b=>hn (e▸hb))]
 exact this
theorem Qs.perm{L:List Rx}{S T:List Nat}(h:Qs l L S)(hp:S.Perm T):Qs l L T:=fun cs r hz=>by
 rw[h cs r (fun b hb=>hz b (hp.mem_iff.1 hb)),Znu hp fun b hb=>(hz b (hp.mem_iff.1 hb)).1]
theorem Qs.flat{x:Nat→Rx}{H:Nat→List Nat}(n:Nat)(h:∀ k,k<n→Qs l [x k] (H k))(hd:∀ i j,i<j→j<n→∀ b∈H j,b∉H i):Qs l ((List.range n).map x) ((List.range n).flatMap H):=by
 induction n with
 | zero=>exact Qs.nil
 | succ n ih =>
  rw[C3,B5,C8]
  refine(ih (fun k hk=>h k M0) (fun i j hi hj=>hd i j hi M0)).append (by simpa using h n M0) fun b hb hq=>?_
  obtain⟨i,hi,hq⟩:=List.mem_flatMap.1 hq
  exact hd i n (B9.1 hi) M0 b (by simpa using hb) hq
theorem Di{f:Nat→Nat}{g:Nat→List Nat}(n:Nat):((List.range n).flatMap fun j=>f j::g j).Perm ((List.range n).map f++(List.range n).flatMap g):=by
 induction n with
 | zero=>exact List.Perm.refl _
 | succ n ih =>
  rw[C3,C8,B5,C8]
  simp only[E5,N7,G0,D7,H0]
  refine(ih.append_right _).trans ?_
  rw[A1,A1]
  refine P6 _ ?_
  exact(List.perm_middle).trans (List.Perm.refl _)
def rng (q n:Nat):List Nat:=(List.range n).map (q+·)
theorem Jc{q n b:Nat}:b∈rng q n↔q≤b∧b<q+n:=by
 unfold rng
 rw[List.mem_map]
 constructor
 ·rintro⟨j,hj,rfl⟩;have:=B9.1 hj;omega
 ·intro h;exact⟨b-q,B9.2 M0,by omega⟩
theorem Dn(q a b:Nat):rng q (a+b)=rng q a++rng (q+a) b:=by
 unfold rng
 rw[O6,B5,M7]
 congr 1
 apply H9
 intro j _
 simp only[Function.comp];omega
theorem Io(q n i:Nat):(rng q n).count i=if q≤i∧i<q+n then 1 else 0:=by
 have hn:(rng q n).Nodup:=by
  unfold rng
  exact List.Pairwise.map _ (fun a b h e=>h M0) List.nodup_range
 by_cases h:q≤i∧i<q+n
 ·rw[if_pos h]
  exact List.Nodup.count hn |>.trans (if_pos (Jc.2 h))
 ·rw[if_neg h]
  exact List.count_eq_zero.2 fun q=>h (Jc.1 q)
theorem Zoc{no t:Int}{k:Nat}(h1:1≤k)(h2:k≤14399):Zfj no t false (leB (k:Int) 4)=((k:Int),t,0):=by
 obtain⟨a,b⟩:=Ar h1 h2
 unfold Zfj
 rw[if_neg (fun q=>by cases q.1),if_neg (fun q=>q a),b]
 rfl
theorem Zle{F:Bl}{t:Int}{leaf:Bool}{m v:Nat}{u:List Ent}{q i len:Nat}(E:EntsOk v u)(h1:1≤t)(h2:t≤5)(hm:Kh t leaf=m)(hv:Jd t leaf=v)(hl:leaf=false→1≤u.length)(hi:i<ovN u.length m)(hF:Vv F (q+i)=Xu 2 ((q+i:Nat):Int) (Zoq t leaf m v (Zy u m i)))(hlen:F.length=len)(hb:(q+i+1)*256≤len)(h4:q+i<14400) :
 Zdn F ((q+i:Nat):Int) t=0∧Zfu F ((q+i:Nat):Int) t=if Cz t leaf then [] else(List.range (Qj u.length m i)).map fun j=>Zfj ((q+i:Nat):Int) t leaf (u.getD (i*m+j) Zo).2.1:=by
 have N:=Pv E h1 h2 hm hv hl hi
 have B:=Az N
 obtain⟨he,a0⟩:=Zd9 N hlen M0 M0 hF t (.inr rfl)
 have hC:Xb (inB F ((q+i:Nat):Int))=(Zy u m i).length:=by rw[a0];exact B.c
 have hV:Uf F ((q+i:Nat):Int)=Jq (Zy u m i):=by unfold Uf;rw[hC,a0];exact B.v
 have hL:Yj (inB F ((q+i:Nat):Int))=leaf:=by rw[a0];exact B.l
 have hT:Qy (inB F ((q+i:Nat):Int))=t:=by rw[a0];exact B.t
 have a1:=Hr u m i
 have a2:Jq (Zy u m i)=(List.range (Qj u.length m i)).map fun j=>(u.getD (i*m+j) Zo).2.1:=by
  refine Gm [] (by rw[Bu,A6,List.length_range,a1]) fun j hj=>?_
  rw[Bu,a1] at hj
  rw[Zac (by rw[a1];exact hj),Hp hj]
  simp[List.getD,hj]
 constructor
 ·unfold Zdn;rw[if_neg M0,if_neg M0];exact he
 ·unfold Zfu;rw[if_neg M0,if_neg M0]
  unfold nodX
  rw[hT,hL,hV,a2,M7]
  rfl
theorem Zid{t:Int}(h1:1≤t)(h2:t≤5)(n:Nat):∀ (u:List Ent) (base:Nat) (bs F:Bl) (H:Nat→List Nat),u.length=n→1≤n→EntsOk 4 u→(∀ k,k<n→(u.getD k Zo).2.1=leB ((base+k:Nat):Int) 4∧(u.getD k Zo).2.2=((base+k:Nat):Int)) →
 1≤base→(base+n+((Jy n).sum-n))*256≤bs.length→F.length=bs.length→base+n+((Jy n).sum-n)≤14400→(∀ x,base+n≤x→x<base+n+((Jy n).sum-n)→Vv F x=Vv (Vi t u (base+n) bs).2 x) →
 (∀ k,k<n→Qs F [(((base+k:Nat):Int),t,0)] (H k))→(∀ i j,i<j→j<n→∀ b∈H j,b∉H i)→(∀ k,k<n→∀ b∈H k,b<base+n∨base+n+((Jy n).sum-n)≤b) →
 ∃ S,Qs F [((Vi t u (base+n) bs).1,t,0)] S∧S.Perm (rng (base+n) ((Jy n).sum-n)++(List.range n).flatMap H):=by
 induction n using Nat.strongRecOn with
 | _ n ih =>
  intro u base bs F H hn b6 E hu c2 b0 b4 h4 hF hT hd a5
  subst hn
  by_cases h9:u.length≤1
  ·have b3:u.length=1:=by omega
   have b8:Jy u.length=[1]:=by rw[Jm h9,b3]
   rw[b8,b3,Vz h9,(hu 0 M0).2]
   exact⟨H 0,hT 0 M0,by simp[rng]⟩
  ·have c4:=Zru (x:=u.length) M0
   have hp:=Qp u.length 18
   have c1:Jy u.length=u.length::Jy (ovN u.length 18):=Vx h9
   have hg:=Kl (ovN u.length 18)
   rw[c1] at b0 h4 hF a5 ⊢
   simp only[G5] at b0 h4 hF a5 ⊢
   obtain⟨a1,a2,a3⟩:=Vw (t:=t) (leaf:=false) (m:=18) (v:=4) (l:=u) (q:=base+u.length) (bs:=bs) E h1 h2 rfl rfl (fun _=>by omega) (ovN u.length 18) (At _) M0
   obtain⟨b1,b2⟩:=Wu (t:=t) h1 h2 (ovN u.length 18) (upE u 18 (base+u.length) (ovN u.length 18)) (base+u.length+ovN u.length 18) (Mg t false 18 4 u (base+u.length) bs (ovN u.length 18)) (Xr _ _ _ _) hp (Cy E Do) (by rw[a1];omega)
   have a0:=Vd (t:=t) (q:=base+u.length) (bs:=bs) h9
   have a6:∀ i,Qj u.length 18 i=min 18 (u.length-i*18):=fun i=>rfl
   have a7:∀ j,j<ovN u.length 18→Qs F [(((base+u.length+j:Nat):Int),t,0)] ((base+u.length+j)::(List.range (Qj u.length 18 j)).flatMap fun i=>H (j*18+i)):=fun j hj=>by
    have hk:=Zle (F:=F) (q:=base+u.length) (i:=j) E h1 h2 (leaf:=false) (m:=18) (v:=4) rfl rfl (fun _=>b6) hj (by rw[hF _ M0 M0,a0,b2 _ M0];exact a2 j hj) b4 M0 M0
    refine Qs.node hk.1 ?_ fun hq=>?_
    ·rw[hk.2,if_neg (fun q=>by cases q.1)]
     have e:((List.range (Qj u.length 18 j)).map fun i=>Zfj ((base+u.length+j:Nat):Int) t false (u.getD (j*18+i) Zo).2.1)=(List.range (Qj u.length 18 j)).map fun i=>((((base+(j*18+i):Nat):Int),t,(0:Int)):Rx):=by
      apply H9
      intro i hi
      have hi:=B9.1 hi
      rw[a6] at hi
      rw[(hu (j*18+i) M0).1,Zoc M0 M0]
     rw[e]
     refine Qs.flat (x:=fun i=>(((base+(j*18+i):Nat):Int),t,0)) _ (fun k hk=>?_) fun a b c5 hb=>?_
     ·rw[a6] at hk;exact hT _ M0
     ·rw[a6] at hb;exact hd _ _ M0 M0
    ·obtain⟨i,hi,hq⟩:=List.mem_flatMap.1 hq
     have hi:=B9.1 hi
     rw[a6] at hi
     have:=a5 _ M0 _ hq
     omega
   have a8:∀ j b,b∈(List.range (Qj u.length 18 j)).flatMap (fun i=>H (j*18+i))→∃ i,i<u.length∧j*18≤i∧i<j*18+18∧b∈H i:=fun j b hq=>by
    obtain⟨i,hi,hq⟩:=List.mem_flatMap.1 hq
    have hi:=B9.1 hi
    rw[a6] at hi
    exact⟨j*18+i,by omega,by omega,by omega,hq⟩
   obtain⟨S,hS,b9⟩:=ih (ovN u.length 18) M0 (upE u 18 (base+u.length) (ovN u.length 18)) (base+u.length) (Mg t false 18 4 u (base+u.length) bs (ovN u.length 18)) F (fun j=>(base+u.length+j)::(List.range (Qj u.length 18 j)).flatMap fun i=>H (j*18+i)) (Xr _ _ _ _) hp (Cy E Do) (fun k hk=>by rw[Jp hk];exact⟨rfl,rfl⟩)
    M0 (by rw[a1];omega) (by rw[b4,a1]) M0 (fun x c3 c6=>by rw[hF x M0 M0,a0]) a7
    (fun i j c0 hj b hb hq=>by
     rcases A9.1 hb with rfl|hb
     ·rcases A9.1 hq with e|hq
      ·omega
      ·obtain⟨k,hk,_,_,hq⟩:=a8 i _ hq
       have:=a5 k hk _ hq
       omega
     ·obtain⟨k,hk,c9,c8,hb⟩:=a8 j _ hb
      rcases A9.1 hq with rfl|hq
      ·have:=a5 k hk _ hb
       omega
      ·obtain⟨k',c7,b5,b7,hq⟩:=a8 i _ hq
       have:(i+1)*18≤j*18:=E7 18 c0
       exact hd k' k M0 hk b hb hq)
    (fun k hk b hb=>by
     rcases A9.1 hb with rfl|hb
     ·omega
     ·obtain⟨i,hi,_,_,hb⟩:=a8 k _ hb
      have:=a5 i hi _ hb
      omega)
   rw[a0]
   refine⟨S,hS,b9.trans ?_⟩
   have a9:=Zh8 (n:=u.length) (m:=18) Do
   have a4:=Ms (n:=u.length) (m:=18) Do H (ovN u.length 18) (At _)
   rw[a9] at a4
   refine(P6 _ (Di (f:=fun j=>base+u.length+j) _)).trans ?_
   rw[a4,←A1]
   refine List.Perm.append_right _ ?_
   have e:u.length+(Jy (ovN u.length 18)).sum-u.length=ovN u.length 18+((Jy (ovN u.length 18)).sum-ovN u.length 18):=by omega
   rw[e,Dn]
   exact P7
end Go.Proofs.YtceeiinepijokaaGreatDoor
namespace Go.Proofs.YtceeiinepijokaaGreatDoor
set_option maxHeartbeats 8000000
set_option maxRecDepth 100000
open Go.RowKit Go.Extern.Stop Go.Stop Go.Extern
set_option linter.unusedVariables false
attribute [local irreducible] wpList wpAnyH Code.wp Oper.wp Go
theorem Lf{t:Int}{l:List Ent}{q:Nat}{bs F:Bl}{G:Nat→List Nat}(hF:F=(Zz t l q bs).2)(h1:1≤t)(h2:t≤5)(E:EntsOk (Jd t true) l)(hq:1≤q)(hbs:(q+Xk t l.length)*256≤bs.length)(h4:q+Xk t l.length≤14400)
 (hD:Cz t true→∀ k,k<l.length→G k=[]) (hG:¬ Cz t true→∀ k,k<l.length→∃ y,(∀ no:Int,Zfj no t true (l.getD k Zo).2.1=y)∧Qs F [y] (G k))
 (hd:∀ i j,i<j→j<l.length→∀ b∈G j,b∉G i) (hfr:∀ k,k<l.length→∀ b∈G k,b<q∨q+Xk t l.length≤b) :
 ∃ S,Qs F [((Zz t l q bs).1,t,0)] S∧S.Perm (rng q (Xk t l.length)++(List.range l.length).flatMap G):=by
 obtain⟨m,hm⟩:∃ m,Kh t true=m:=⟨_,rfl⟩
 obtain⟨v,hv⟩:∃ v,Jd t true=v:=⟨_,rfl⟩
 have a4:=Qi t true
 have b3:=Qp l.length m
 have hg:=Kl (ovN l.length m)
 have hN:Xk t l.length=(Jy (ovN l.length m)).sum:=by unfold Xk Uh;rw[hm]
 have hT:Zz t l q bs=Vi t (upE l m q (ovN l.length m)) (q+ovN l.length m) (Mg t true m v l q bs (ovN l.length m)):=by unfold Zz;rw[hm,hv]
 rw[hv] at E
 rw[hm] at a4
 rw[hT] at hF ⊢
 rw[hN] at hbs h4 hfr ⊢
 have a8:=hF
 obtain⟨a1,a2,a3⟩:=Vw (t:=t) (leaf:=true) (m:=m) (v:=v) (l:=l) (q:=q) (bs:=bs) E h1 h2 hm hv (fun h=>by cases h) (ovN l.length m) (At _) M0
 obtain⟨b1,b2⟩:=Wu (t:=t) h1 h2 (ovN l.length m) (upE l m q (ovN l.length m)) (q+ovN l.length m) (Mg t true m v l q bs (ovN l.length m)) (Xr _ _ _ _) b3 (Cy E a4.1) (by rw[a1];omega)
 have b0:F.length=bs.length:=by rw[a8,b1,a1]
 have b4:∀ i,Qj l.length m i=min m (l.length-i*m):=fun i=>rfl
 have a5:∀ i j,j<Qj l.length m i→i*m+j<l.length∧j<m:=fun i j h=>by rw[b4] at h;omega
 have a6:∀ i,i<ovN l.length m→Qs F [(((q+i:Nat):Int),t,0)] ((q+i)::(List.range (Qj l.length m i)).flatMap fun j=>G (i*m+j)):=fun i hi=>by
  have hk:=Zle (F:=F) (q:=q) (i:=i) E h1 h2 (leaf:=true) (m:=m) (v:=v) hm hv (fun h=>by cases h) hi (by rw[a8,b2 _ M0];exact a2 i hi) b0 M0 M0
  refine Qs.node hk.1 ?_ fun hq=>?_
  ·rw[hk.2]
   by_cases hdd:Cz t true
   ·rw[if_pos hdd]
    have e:((List.range (Qj l.length m i)).flatMap fun j=>G (i*m+j))=[]:=by
     rw[List.flatMap_eq_nil_iff]
     intro j hj
     exact hD hdd _ (a5 i j (B9.1 hj)).1
    rw[e]
    exact Qs.nil
   ·rw[if_neg hdd]
    refine Qs.flat (x:=fun j=>Zfj ((q+i:Nat):Int) t true (l.getD (i*m+j) Zo).2.1) _ (fun k hk=>?_) fun a b c0 hb=>?_
    ·obtain⟨y,e,hy⟩:=hG hdd _ (a5 i k hk).1
     rw[e]
     exact hy
    ·exact hd _ _ M0 (a5 i b hb).1
  ·obtain⟨j,hj,hq⟩:=List.mem_flatMap.1 hq
   have:=hfr _ (a5 i j (B9.1 hj)).1 _ hq
   omega
 have a7:∀ i b,b∈(List.range (Qj l.length m i)).flatMap (fun j=>G (i*m+j))→∃ k,k<l.length∧i*m≤k∧k<i*m+m∧b∈G k:=fun i b hq=>by
  obtain⟨j,hj,hq⟩:=List.mem_flatMap.1 hq
  have hj:=a5 i j (B9.1 hj)
  exact⟨i*m+j,hj.1,by omega,by omega,hq⟩
 obtain⟨S,hS,b5⟩:=Zid h1 h2 (ovN l.length m) (upE l m q (ovN l.length m)) q (Mg t true m v l q bs (ovN l.length m)) F (fun i=>(q+i)::(List.range (Qj l.length m i)).flatMap fun j=>G (i*m+j)) (Xr _ _ _ _) b3 (Cy E a4.1) (fun k hk=>by rw[Jp hk];exact⟨rfl,rfl⟩) hq
  (by rw[a1];omega) (by rw[b0,a1]) M0 (fun x _ _=>by rw[a8]) a6
  (fun i j b8 hj b hb hq=>by
   rcases A9.1 hb with rfl|hb
   ·rcases A9.1 hq with e|hq
    ·omega
    ·obtain⟨k,hk,_,_,hq⟩:=a7 i _ hq
     have:=hfr k hk _ hq
     omega
   ·obtain⟨k,hk,c2,b9,hb⟩:=a7 j _ hb
    rcases A9.1 hq with rfl|hq
    ·have:=hfr k hk _ hb
     omega
    ·obtain⟨k',c1,b6,b7,hq⟩:=a7 i _ hq
     have:(i+1)*m≤j*m:=E7 m b8
     rw[G8,I6] at this
     exact hd k' k M0 hk b hb hq)
  (fun k hk b hb=>by
   rcases A9.1 hb with rfl|hb
   ·omega
   ·obtain⟨i,hi,_,_,hb⟩:=a7 k _ hb
    have:=hfr i hi _ hb
    omega)
 refine⟨S,hS,b5.trans ?_⟩
 have a9:=Zh8 (n:=l.length) (m:=m) a4.1
 have a0:=Ms (n:=l.length) (m:=m) a4.1 G (ovN l.length m) (At _)
 rw[a9] at a0
 have e:rng q (Jy (ovN l.length m)).sum=rng q (ovN l.length m)++rng (q+ovN l.length m) ((Jy (ovN l.length m)).sum-ovN l.length m):=by
  rw[←Dn];congr 1;omega
 refine(P6 _ (Di (f:=fun j=>q+j) _)).trans ?_
 rw[a0,←A1,e]
 exact List.Perm.append_right _ P7
theorem Zc1{F:Bl}{b:Nat}(h:Yi F (b:Int)=0):Qs F [((b:Int),7,0)] [b] :=
 Qs.node (by unfold Zdn;rw[if_neg Do,if_pos rfl];exact h) (by unfold Zfu;rw[if_neg Do,if_pos rfl];exact Qs.nil) (by simp)
theorem Zby(s:Bl)(w:World)(hs:s.length≤1000) :
 C0 184 #[.string ⟨s.toArray⟩] w (Ret (.tuple #[V0 (↑((Xs As s).getD 0 0):Int),V0 (Xn As s)]) w):=by
 refine zin 16 Tryz.func184 ?_
 refine xc 8 (Zbs _) ?_
 rintro _ W1 ⟨_,rfl,a1,gl,rfl,gg,kl⟩
 refine xc 1 (Lb As s (S1 gl) 1 _ cntP_ok Do M0 (kl.sl 1 1 Do Do)) ?_
 rintro _ W2 ⟨_,rfl,a2,p5,c5,rfl,h5⟩
 have a0:=Zf h5 a1.size
 refine xx 10 _ 1 0 1 (Xc (l:=Xs As s) (Zg a0) (Ym _ _) (k:=0) Do).1 ?_
 refine xl 0 ((Xc (l:=Xs As s) (Zg a0) (Ym _ _) (k:=0) Do).2) ?_
 have hB:=bln a1 a2
 exact xe 6 (.tuple #[V0 (↑((Xs As s).getD 0 0):Int),V0 (Xn As s)]) ⟨rfl,hB⟩
theorem Zci(m:Nat)(w:World)(hm:1≤m)(hn:m≤1099511627776) :
 C0 27 #[V0 (m:Int)] w (Ret (V0 (↑(bmN m):Int)) w):=by
 refine zin 9 Tryz.func27 ?_
 refine xk 12 (show(decide ((m:Int)<(1:Int)):Bool)=false from decide_eq_false M0) ?_
 refine xwm 5 ((m:Int)-1) (↑(m-1):Int) ?_
 refine xq 0 (congrArg V0 (show(IntKind.i64.wrap (Int.tdiv (↑(m-1):Int) 960):Int)=(↑((m-1)/960):Int) from Ak (m-1) 960 M0 Do)) ?_
 refine xw 0 ((↑((m-1)/960):Int)+1) ?_
 exact xe 4 (V0 ((↑((m-1)/960):Int)+1)) ⟨by rw[show bmN m=(m-1)/960+1 from by unfold bmN;omega,Int.natCast_add];rfl,(B4 w)⟩
theorem Zb3(n:Int)(w:World)(hn:n<1) :
 C0 27 #[V0 n] w (Ret (V0 0) w):=by
 refine zin 9 Tryz.func27 ?_
 refine xk 12 (show(decide (n<(1:Int)):Bool)=true from decide_eq_true hn) ?_
 exact xe 7 (V0 0) ⟨rfl,(B4 w)⟩
theorem En(n:Int)(w:World)(hn:n≤1099511627776):C0 27 #[V0 n] w (Ret (V0 (↑(bmI n):Int)) w):=by
 by_cases h:n<1
 ·have:=Zb3 n w h
  rwa [show(0:Int)=((bmI n:Nat):Int) from by unfold bmI bmN;omega] at this
 ·obtain⟨m,rfl⟩:∃ m:Nat,n=(m:Int):=⟨n.toNat,by omega⟩
  exact Zci m w M0 M0
end Go.Proofs.YtceeiinepijokaaGreatDoor
namespace Go.Proofs.YtceeiinepijokaaGreatDoor
set_option maxHeartbeats 8000000
set_option maxRecDepth 100000
open Go.RowKit Go.Extern.Stop Go.Stop Go.Extern
open Go.ChangeMaps (setBlock heap_setBlock_same heap_setBlock_other)
set_option linter.unusedVariables false
attribute [local irreducible] wpList wpAnyH Code.wp Oper.wp Go
def Zca(ks:List Int):List (Value×Value):=ks.map fun k=>(Value.int .i64 k,Value.bool true)
def Ni(W:World)(r:Nat)(ks:List Int):Prop:=∃ es clock,W.heap[r]? = some (.map es clock)∧es.toList.map (fun e=>(e.key,e.val))=Zca ks
theorem Ni.lt{W:World}{r:Nat}{ks:List Int}(h:Ni W r ks):r<W.heap.size:=by
 obtain⟨es,a0,h1,_⟩:=h
 exact(Array.getElem?_eq_some_iff.1 h1).1
theorem Ni.kept{w W:World}{r:Nat}{ks:List Int}(h:Ni w r ks)(hb:W.heap[r]? = w.heap[r]?):Ni W r ks:=by
 obtain⟨es,a0,h1,h2⟩:=h
 exact⟨es,a0,hb.trans h1,h2⟩
theorem Ni.below{w W:World}{r:Nat}{ks:List Int}(h:Ni w r ks)(hb:B3 w W):Ni W r ks:=h.kept (hb.block r h.lt)
theorem Ni.ne_blk{w:World}{r b:Nat}{ks:List Int}{cs:List Value}{t:TypeId}(h:Ni w r ks)(k:Blk w b cs t):r≠b:=fun e=>by
 subst e
 obtain⟨es,a0,h1,_⟩:=h
 have:w.heap[r]? = some (.cells cs.toArray t (0,0)):=k
 rw[h1] at this;cases this
theorem Ni.ne_own{w:World}{r base size n:Nat}{ks:List Int}{e:TypeId}{v:Value}{xs:List Value}(h:Ni w r ks)(k:w.ownsRow base e size v n xs):some r≠v.ownBlock:=fun q=>by
 rcases k.2 with ⟨h2,_⟩|⟨g,a1,a2,hv,hg,hh,_⟩
 ·subst h2;simp[Value.ownBlock] at q
 ·subst hv
  simp only[Value.ownBlock,A0] at q
  subst q
  obtain⟨es,a0,h1,_⟩:=h
  rw[h1] at hh;cases hh
theorem Ni.grown{w W:World}{r base size n:Nat}{ks:List Int}{e:TypeId}{v:Value}{xs:List Value}(h:Ni w r ks)(hg:w.grownBy W v.ownBlock)(k:w.ownsRow base e size v n xs):Ni W r ks:=h.kept (hg.block r h.lt (h.ne_own k))
theorem Ni.updRow{w W:World}{r b base size n c:Nat}{ks:List Int}{e:TypeId}{xs:List Value}(h:Ni w r ks)(u:Upd w b W)(k:w.ownsRow base e size (.slice (S1 b) n c) n xs):Ni W r ks:=h.kept (u.block r fun q=>h.ne_own k (by simp[Value.ownBlock,q]))
theorem Ni.updBlk{w W:World}{r b:Nat}{ks:List Int}{cs:List Value}{t:TypeId}(h:Ni w r ks)(u:Upd w b W)(k:Blk w b cs t):Ni W r ks:=h.kept (u.block r (h.ne_blk k))
theorem Zi0{w W:World}{r base size n:Nat}{ks:List Int}{e:TypeId}{v:Value}{xs:List Value}(k:w.ownsRow base e size v n xs)(h:Ni w r ks)(u:Upd w r W):W.ownsRow base e size v n xs:=u.own3 k fun j hj q=>h.ne_own k (by rw[hj,q])
theorem blk_map{w W:World}{r b:Nat}{ks:List Int}{cs:List Value}{t:TypeId}(k:Blk w b cs t)(h:Ni w r ks)(u:Upd w r W):Blk W b cs t:=u.blk k (fun q=>h.ne_blk k q.symm)
structure NewM(w:World)(r:Nat)(W:World):Prop where
 at_:r=w.heap.size
 below:Below w.heap.size w W
 map:Ni W r []
theorem NewM.ge{w W A:World}{r:Nat}(h:NewM w r W)(k:Below A.heap.size A w):A.heap.size≤r:=by have:=k.size;have:=h.at_;omega
theorem NewM.mk'(w:World):NewM w w.heap.size (w.alloc (.map #[] 0)):=⟨rfl,blx _ _,#[],0,K6 w _,rfl⟩
theorem Ol(k:Int):∀ (es:List MapEntry) (ks:List Int) (i:Nat),es.map (fun e=>(e.key,e.val))=Zca ks→Instr.findNow (.int .i64) (V0 k) es i=some (if k∈ks then some (i+ks.idxOf k,.bool true) else none)
 | [],ks,i,h=>by
  have:ks=[]:=by simpa [Zca] using h.symm
  subst this;rfl
 | e::es,[],i,h=>by simp[Zca] at h
 | e::es,k0::ks,i,h=>by
  simp only[Zca,D7,I8,D8] at h
  obtain⟨⟨h1,h2⟩,h3⟩:=h
  have ih:=Ol k es ks (i+1) h3
  by_cases q:k=k0
  ·subst q
   simp[Instr.findNow,h1,h2,Instr.sameNow]
  ·have hq:(k==k0)=false:=by simpa using q
   simp only[Instr.findNow,h1,Instr.sameNow,if_true,hq,ih]
   by_cases m:k∈ks
   ·rw[if_pos m,if_pos (I3 _ m),List.idxOf_cons,show(k0==k)=false from by simpa using fun z=>q z.symm]
    simp;omega
   ·rw[if_neg m,if_neg (by simp[q,m])]
theorem Dp{P:Program}{kt:TypeId}(hk:P.underlying kt=some (.int .i64))(k:Int){es:List MapEntry}{ks:List Int}(h:es.map (fun e=>(e.key,e.val))=Zca ks)(w:World) :
 (Instr.findKey kt (V0 k) es).run P w=.ok (if k∈ks then some (ks.idxOf k,.bool true) else none) w:=by
 simp only[Instr.findKey,C9,run_underlying hk,E1,Ol k es ks 0 h,F3]
 rfl
theorem run_keyN{P:Program}{kt:TypeId}(hk:P.underlying kt=some (.int .i64))(k:Int)(b:Bool)(n:Nat)(w:World):(Instr.checkKey b (n+1) kt (V0 k)).run P w=.ok () w:=by
 simp only[Instr.checkKey,C9,run_underlying hk,E1]
 rfl
theorem Fj{P:Program}{kt:TypeId}(hk:P.underlying kt=some (.int .i64))(k:Int)(b:Bool)(w:World):(Instr.checkKey b 10000 kt (V0 k)).run P w=.ok () w:=run_keyN hk k b 9999 w
variable {P:Program} {w:World}
theorem Zjo{t kt et:TypeId}{r:Nat}{ks:List Int}(ht:P.underlying t=some (.map kt et))(hk:P.underlying kt=some (.int .i64))(hz:(zeroValue et).run P w=.ok (.bool false) w)(h:Ni w r ks)(k:Int) :
 (Instr.lookup t (.map (some r)) (V0 k) false).run P w=.ok (.bool (decide (k∈ks))) w:=by
 obtain⟨es,a0,h1,h2⟩:=h
 have hf:=Dp (P:=P) hk k h2 w
 by_cases m:k∈ks
 ·rw[if_pos m] at hf
  simp[Instr.lookup,run_underlying ht,MapKept.run_getObj_map h1,Fj hk,hf,Result.andThen,m]
 ·rw[if_neg m] at hf
  simp[Instr.lookup,run_underlying ht,MapKept.run_getObj_map h1,Fj hk,hf,hz,Result.andThen,m]
theorem Sz{r:Nat}{es:Array MapEntry}{c:Nat}(hb:w.heap[r]? = some (.map es c))(o:Obj):Upd w r (setBlock w r o):=⟨rfl,rfl,rfl,by simp[setBlock],fun k hk=>heap_setBlock_other hb _ hk⟩
theorem Zpw{t kt et:TypeId}{r:Nat}{ks:List Int}(ht:P.underlying t=some (.map kt et))(hk:P.underlying kt=some (.int .i64))(h:Ni w r ks){k:Int}(hn:k∉ks) :
 ∃ W,(Instr.mapUpdate t (.map (some r)) (V0 k) (.bool true)).run P w=.ok () W∧Upd w r W∧Ni W r (ks++[k]):=by
 obtain⟨es,a0,h1,h2⟩:=h
 have hf:=Dp (P:=P) hk k h2 w
 rw[if_neg hn] at hf
 refine⟨setBlock w r (.map (es.push ⟨V0 k,.bool true,a0⟩) (a0+1)),?_,Sz h1 _,_,_,heap_setBlock_same h1 _,?_⟩
 ·simp[Instr.mapUpdate,run_underlying ht,MapKept.run_getObj_map h1,Fj hk,hf,MapKept.run_setObj_map _ h1,Result.andThen,setBlock]
 ·rw[Array.toList_push,B5,h2];simp[Zca]
theorem Mn{α β:Type}(f:α→β):∀ (l:List α) (i:Nat),(l.eraseIdx i).map f=(l.map f).eraseIdx i
 | [],i=>by simp
 | a::l,0=>by simp
 | a::l,i+1=>by simp[Mn f l i]
theorem Zb5(k:Int)(ks:List Int)(h:k∈ks):ks.eraseIdx (ks.idxOf k)=ks.erase k:=(List.erase_eq_eraseIdx_of_idxOf (w:=rfl)).symm
theorem Zrk{t kt et ty:TypeId}{r:Nat}{ks:List Int}(ht:P.underlying t=some (.map kt et))(hk:P.underlying kt=some (.int .i64))(h:Ni w r ks){k:Int}(hm:k∈ks) :
 ∃ W,(Builtin.delete_ #[t,kt] ty #[.map (some r),V0 k]).run P w=.ok (.tuple #[]) W∧Upd w r W∧Ni W r (ks.erase k):=by
 obtain⟨es,a0,h1,h2⟩:=h
 have hf:=Dp (P:=P) hk k h2 w
 rw[if_pos hm] at hf
 have hl:es.toList.length=ks.length:=by have:=congrArg List.length h2;simpa [Zca] using this
 have a1:ks.idxOf k<es.size:=by have:=List.idxOf_lt_length_iff.2 hm;simp at hl;omega
 refine⟨setBlock w r (.map (es.eraseIdxIfInBounds (ks.idxOf k)) a0),?_,Sz h1 _,_,_,heap_setBlock_same h1 _,?_⟩
 ·simp[Builtin.delete_,run_underlying ht,MapKept.run_getObj_map h1,Fj hk,hf,MapKept.run_setObj_map _ h1,Result.andThen,setBlock]
 ·rw[←Zb5 k ks hm]
  have e:(es.eraseIdxIfInBounds (ks.idxOf k)).toList=es.toList.eraseIdx (ks.idxOf k):=by
   unfold Array.eraseIdxIfInBounds
   rw[dif_pos a1]
   simp
  rw[e,Mn,h2]
  unfold Zca
  rw[Mn]
theorem Zri{t kt et ty:TypeId}{r:Nat}{ks:List Int}(ht:P.underlying t=some (.map kt et))(h:Ni w r ks):(Builtin.len_ #[t] ty #[.map (some r)]).run P w=.ok (V0 (ks.length:Int)) w:=by
 obtain⟨es,a0,h1,h2⟩:=h
 have hl:es.size=ks.length:=by have:=congrArg List.length h2;simpa [Zca] using this
 simp[Builtin.len_,run_underlying ht,MapKept.run_getObj_map h1,Result.andThen,goInt,hl]
/-! ### in a walk -/
inductive Zm
 | mm (t:TypeId)
 | lk (t:TypeId) (m k:Value)
 | mu (t:TypeId) (m k v:Value)
 | b1 (b:Builtin) (t:TypeId) (u:Value)
 | b2 (b:Builtin) (t t2:TypeId) (u v:Value)
noncomputable def zmf (n:Nat) (kv:List (Nat×Value)) (o:Oper):Option Zm:=match o.op with
 | .makeMap t none=>some (.mm t)
 | .lookup t x y false=>some (.lk t (zev n kv x) (zev n kv y))
 | .mapUpdate t x y z=>some (.mu t (zev n kv x) (zev n kv y) (zev n kv z))
 | .call c=>match c.callee with
  | .builtin b=>match c.args.toList,c.argTypes.toList with
   | [x],[t]=>some (.b1 b t (zev n kv x))
   | [x,y],[t,t2]=>some (.b2 b t t2 (zev n kv x) (zev n kv y))
   | _,_=>none
  | _=>none
 | _=>none
noncomputable def zm (s:Zs):Option Zm:=match zop s with
 | some o=>zmf s.n s.kv o
 | none=>none
def ZmOk(a:Act)(o:Oper):Zm→Prop
 | .mm t=>o.op=.makeMap t none
 | .lk t m k=>∃ x y,o.op=.lookup t x y false∧a.eval x=m∧a.eval y=k
 | .mu t m k v=>∃ x y z,o.op=.mapUpdate t x y z∧a.eval x=m∧a.eval y=k∧a.eval z=v
 | .b1 b t u=>∃ x,o.op=.call { callee:=.builtin b,args:=#[x],argTypes:=#[t] }∧a.eval x=u
 | .b2 b t t2 u v=>∃ x y,o.op=.call { callee:=.builtin b,args:=#[x,y],argTypes:=#[t,t2] }∧a.eval x=u∧a.eval y=v
theorem Zgn{n:Nat}{kv:List (Nat×Value)}{o:Oper}{k:Zm}(h:zmf n kv o=some k):ZmOk (zact n kv) o k:=by
 unfold zmf at h
 split at h
 ·rename_i a1;cases h;exact a1
 ·rename_i a1;cases h;exact⟨_,_,a1,by rw[Xf],by rw[Xf]⟩
 ·rename_i a1;cases h;exact⟨_,_,_,a1,by rw[Xf],by rw[Xf],by rw[Xf]⟩
 ·rename_i c a1
  split at h
  ·rename_i b hb
   obtain⟨a2,a0,ts⟩:=c
   dsimp only at hb h
   subst hb
   split at h
   ·rename_i x t h1 h2
    cases h
    have e1:a0=#[x]:=by rw[←I2 (xs:=a0),h1]
    have e2:ts=#[t]:=by rw[←I2 (xs:=ts),h2]
    subst e1 e2
    exact⟨x,a1,by rw[Xf]⟩
   ·rename_i x y t t2 h1 h2
    cases h
    have e1:a0=#[x,y]:=by rw[←I2 (xs:=a0),h1]
    have e2:ts=#[t,t2]:=by rw[←I2 (xs:=ts),h2]
    subst e1 e2
    exact⟨x,y,a1,by rw[Xf],by rw[Xf]⟩
   ·cases h
  ·cases h
 ·cases h
section
variable {P:Program} {fn:Func} {R:Ending→World→Prop} {w:World} {s:Zs}
theorem xmm(q:Zq)(t:TypeId)(k:∀ r W,NewM w r W→Go P fn R (znx (zq P q s) (.map (some r))) W)(h:zm (zq P q s)=some (.mm t):=by kernel_rfl)(hz:Wv (zq P q s)=true:=by kernel_rfl):Go P fn R s w:=by
 obtain⟨o,ho,h⟩:=Vq h
 have a0:o.op=.makeMap t none:=Zgn h
 exact Zw q s (zgo ho (Ky hz) fun K hK=>Wo (v:=.map (some w.heap.size)) (w':=w.alloc (.map #[] 0)) (by simp[execOp,a0,Instr.makeMap,newObj,Sem.run,Result.andThen]) (hK _ _ (Ku hz) (k _ _ (NewM.mk' w))))
theorem xlk(q:Zq){t kt et:TypeId}{r:Nat}{ks:List Int}{k:Int}(ht:P.underlying t=some (.map kt et))(hk:P.underlying kt=some (.int .i64))(hz0:∀ V,(zeroValue et).run P V=.ok (.bool false) V)(hM:Ni w r ks)(g:Go P fn R (znx (zq P q s) (.bool (decide (k∈ks)))) w)
 (h:zm (zq P q s)=some (.lk t (.map (some r)) (V0 k)):=by kernel_rfl) (hz:Tm (zq P q s)=true:=by kernel_rfl):Go P fn R s w:=by
 obtain⟨o,ho,h⟩:=Vq h
 obtain⟨x,y,h1,h2,h3⟩:=Zgn h
 exact Zw q s (Zgl ho (fun V hV=>by
  have hr:=Zjo (P:=P) ht hk (hz0 V) (hM.below (Np hz hV)) k
  simp[execOp,h1,h2,h3,hr,Result.andThen]) g)
theorem xml(q:Zq){t kt et:TypeId}{r:Nat}{ks:List Int}(ht:P.underlying t=some (.map kt et))(hM:Ni w r ks)(g:Go P fn R (znx (zq P q s) (V0 (ks.length:Int))) w)
 (h:zm (zq P q s)=some (.b1 .len t (.map (some r))):=by kernel_rfl) (hz:Tm (zq P q s)=true:=by kernel_rfl):Go P fn R s w:=by
 obtain⟨o,ho,h⟩:=Vq h
 obtain⟨x,h1,h2⟩:=Zgn h
 exact Zw q s (Zgl ho (fun V hV=>by
  have hr:=Zri (P:=P) (ty:=o.type) ht (hM.below (Np hz hV))
  simp[execOp,h1,resolve,invoke,builtin,h2,hr,Result.andThen]) g)
theorem op_skip{a:Act}{o:Oper}{K:Act→World→Prop}{Q:Exit→Act→World→Prop}{w':World}(hv:(execOp a.eval o).run P w=.ok .skip w')(k:K (a.put o.dst undef) w'):o.wp P a w K Q:=by
 simp only[Oper.wp,hv,Oper.upon];exact k
theorem xmu(q:Zq){t kt et:TypeId}{r:Nat}{ks:List Int}{k:Int}(ht:P.underlying t=some (.map kt et))(hk:P.underlying kt=some (.int .i64))(hM:Ni w r ks)(hn:k∉ks)(g:∀ W,Upd w r W→Ni W r (ks++[k])→Go P fn R (znx (zq P q s) undef) W)
 (h:zm (zq P q s)=some (.mu t (.map (some r)) (V0 k) (.bool true)):=by kernel_rfl) (hz:Wv (zq P q s)=true:=by kernel_rfl):Go P fn R s w:=by
 obtain⟨o,ho,h⟩:=Vq h
 obtain⟨x,y,z,h1,h2,h3,h4⟩:=Zgn h
 obtain⟨W,hr,hu,hm⟩:=Zpw (P:=P) ht hk hM hn
 exact Zw q s (zgo ho (Ky hz) fun K hK=>op_skip (w':=W) (by simp[execOp,h1,h2,h3,h4,hr,Result.andThen]) (hK _ _ (Ku hz) (g W hu hm)))
theorem xmd(q:Zq){t kt et:TypeId}{r:Nat}{ks:List Int}{k:Int}(ht:P.underlying t=some (.map kt et))(hk:P.underlying kt=some (.int .i64))(hM:Ni w r ks)(hn:k∈ks)(g:∀ W,Upd w r W→Ni W r (ks.erase k)→Go P fn R (znx (zq P q s) (.tuple #[])) W)
 (h:zm (zq P q s)=some (.b2 .delete t kt (.map (some r)) (V0 k)):=by kernel_rfl) (hz:Wv (zq P q s)=true:=by kernel_rfl):Go P fn R s w:=by
 obtain⟨o,ho,h⟩:=Vq h
 obtain⟨x,y,h1,h2,h3⟩:=Zgn h
 obtain⟨W,hr,hu,hm⟩:=Zrk (P:=P) (ty:=o.type) ht hk hM hn
 exact Zw q s (zgo ho (Ky hz) fun K hK=>Wo (v:=.tuple #[]) (w':=W) (by simp[execOp,h1,resolve,invoke,builtin,h2,h3,hr,Result.andThen]) (hK _ _ (Ku hz) (g W hu hm)))
end
end Go.Proofs.YtceeiinepijokaaGreatDoor
namespace Go.Proofs.YtceeiinepijokaaGreatDoor
set_option maxHeartbeats 8000000
set_option maxRecDepth 100000
open Go.RowKit Go.Extern.Stop Go.Stop Go.Extern
set_option linter.unusedVariables false
attribute [local irreducible] wpList wpAnyH Code.wp Oper.wp Go
theorem Zmo{w:World}{g o j:Nat}{v:Value}(h:w.cell? (Zx (some ⟨g,o,none⟩) j)=some v):w.cell? ⟨g,o+j,none⟩=some v:=by simpa [Zx,Addr.add_mid] using h
theorem Zc0{F:List Int}{m:Nat}(h:m=F.length):(m:Int)∉Hx F:=fun q=>by
 have:=(Zdl.1 q).2
 rw[show F.getD ((m:Int)).toNat 0=0 from by simp[List.getD,h]] at this
 omega
theorem Uz{l:List Int}{k:Nat}(h:k<l.length):l.take (k+1)=l.take k++[l.getD k 0]:=by rw[A7 h];simp[List.getD,h]
theorem Zcp{A l:List Int}{k m:Nat}(h:k<l.length)(h3:l.getD k 0=3)(hm:m=A.length+k):Hx (A++l.take k)++[(m:Int)]=Hx (A++l.take (k+1)):=by
 rw[Uz h,←A1,Zbk,if_pos h3,hm,A8,E3,H3 M0]
theorem Zc2{A l:List Int}{k:Nat}(h:k<l.length)(h3:l.getD k 0≠3):Hx (A++l.take k)=Hx (A++l.take (k+1)):=by
 rw[Uz h,←A1,Zbk,if_neg h3,G0]
theorem Zg4{L:List (List Int)}{i k:Nat}(hi:i<L.length)(hk:(L.getD i []).length≤k):Gy L i++(L.getD i []).take k=Gy L (i+1):=by rw[Zds hi,C1 hk]
theorem flat_all(L:List (List Int)):Gy L L.length=L.flatten:=by unfold Gy;rw[C1 (At _)]
theorem Znr(B2:Nat)(pl:O0)(cl:Nat)(gs:List (Nat×Nat))(L:List (List Int))(w:World)(hL:Lists w B2 (.slice pl L.length cl) gs L)(hF:FormOk L)(hl:L.length≤1200000000) :
 C0 183 #[.slice pl L.length cl] w (Kc (fun w' r=>∃ p c rm,r=.tuple #[.slice p L.flatten.length c,.map (some rm),.bool true]∧w'.ownsRow w.heap.size 3 1 (.slice p L.flatten.length c) L.flatten.length (L.flatten.map V0)∧Ni w' rm (Hx L.flatten)∧w.heap.size≤rm) w):=by
 refine zin 67 Tryz.func183 ?_
 refine xmm 14 72 fun r1 W1 m1=>?_
 refine zl 12 67 (fun zm c5 V=>∃ (i m:Nat) (p:O0) (c:Nat),c5=[(0,.slice pl L.length cl),(5,.slice p m c),(6,.map (some r1)),(13,.slice pl L.length cl),(14,V0 (L.length:Int)),(15,V0 (i:Int))]∧zm=L.length-((i:Int)).toNat∧B3 w V∧V.ownsRow w.heap.size 3 1 (.slice p m c) m ((Gy L i).map V0)∧Ni V r1 (Hx (Gy L i))∧i≤L.length∧m=(Gy L i).length) ⟨0,0,none,0,rfl,rfl,m1.below,A5 _ _ _ _,m1.map,A3 _,rfl⟩ ?_
 rintro _ _ W2 ⟨i,m,p,c,rfl,rfl,a5,ho,hm,hi,f6⟩ J2 f2 r2
 have d3:=fun(q:i<L.length)=>hF.len i q
 have i3:=fun(q:i≤L.length)=>Zgg hF i q
 refine xid 6 ((i:Int)<(L.length:Int)) (fun g7=>?_) (fun g7=>?_)
 ·refine xx 7 _ L.length i 1 (Lists.elem hL rfl (k:=i) M0).1 ?_
  refine xl 0 ((Lists.elem (hL.below a5) rfl (k:=i) M0).2) ?_
  refine xwm 9 ((L.length:Int)-1) (↑(L.length-1):Int) ?_
  refine xgk 11 [27,28] (show(decide ((↑((L.getD i []).length):Int)>(960:Int)):Bool)=false from decide_eq_false (by have:=(d3 M0).2.1;omega)) ?_
  refine xgk 5 [31,32,33] (show(((↑((L.getD i []).length):Int)==(0:Int)):Bool)=false from beq_false_of_ne (by have:=(d3 M0).1;omega)) ?_
  refine xg 3 [35,36] (!((i:Int)==(↑(L.length-1):Int))) (fun f3=>?_) (fun f3=>?_)
  ·have b1:i+1<L.length:=by simp at f3;omega
   refine xk 7 (show(decide ((↑((L.getD i []).length):Int)<(960:Int)):Bool)=false from decide_eq_false (by have:=(d3 M0).2.2 b1;omega)) ?_
   refine zl 10 67 (fun zm c5 V=>∃ (k m2:Nat) (p2:O0) (c2:Nat),c5=[(0,.slice pl L.length cl),(5,.slice p2 m2 c2),(6,.map (some r1)),(13,.slice pl L.length cl),(14,V0 (L.length:Int)),(15,V0 (i:Int)),(42,.slice (some ⟨(gs.getD i (0,0)).1,0,none⟩) ((L.getD i []).length) ((gs.getD i (0,0)).2)),(43,V0 (↑((L.getD i []).length):Int)),(44,V0 (k:Int))]∧zm=(L.getD i []).length-((k:Int)).toNat∧B3 w V∧V.ownsRow w.heap.size 3 1 (.slice p2 m2 c2) m2 ((Gy L i++(L.getD i []).take k).map V0)∧Ni V r1 (Hx (Gy L i++(L.getD i []).take k))∧k≤(L.getD i []).length∧m2=(Gy L i).length+k) ⟨0,m,_,_,rfl,rfl,a5,(by rw[N4,G0];exact ho),(by rw[N4,G0];exact hm),A3 _,by omega⟩ ?_
   rintro _ _ W7 ⟨k,m2,p2,c2,rfl,rfl,a3,a4,a6,hk,h0⟩ J7 f8 r7
   have b7:=fun(q:k<(L.getD i []).length)=>Gi (hF.small i M0) k
   refine xid 6 ((k:Int)<(↑((L.getD i []).length):Int)) (fun h4=>?_) (fun h4=>?_)
   ·refine xxb 6 (gs.getD i (0,0)).1 0 ((L.getD i []).length) k 1 ?_
    refine xl 0 (Zmo (IntsN.elem (Zg (Lists.each (hL.below a3) i M0)) rfl (k:=k) M0).2) ?_
    refine xgk 9 [49,50] (show(decide (((L.getD i []).getD k 0)<(0:Int)):Bool)=false from decide_eq_false (by have:=(b7 M0).1;omega)) ?_
    refine xk 5 (show(decide (((L.getD i []).getD k 0)>(3:Int)):Bool)=false from decide_eq_false (by have:=(b7 M0).2;omega)) ?_
    refine xie 9 ((L.getD i []).getD k 0) (3:Int) (fun f1=>?_) (fun f1=>?_)
    ·refine xmu 4 (k:=(m2:Int)) Tryz.underlying72 Tryz.underlying3 a6 (Zc0 (by rw[A8,E3];omega)) fun i6 f7 f4=>?_
     rw[Zcp (A:=Gy L i) (l:=(L.getD i [])) (k:=k) (m:=m2) M0 M0 M0] at f4
     have g1:=m1.ge (B4 w)
     refine xbs 5 1 [V0 ((L.getD i []).getD k 0)] 3 fun h8 i1 b0=>?_
     have b5:=f7.below a3 g1
     have j4:=b0.ge b5
     have b8:=Zi0 a4 a6 f7
     have d4:=Zu b8 b0
     have c1:=Zb b8 b0.below
     have c0:=bln b5 b0.below
     refine xbi 0 fun _ _ _ _ zJ zQ zo zx zy zK=>Xi (m:=1) (news:=[V0 ((L.getD i []).getD k 0)]) (V0 0) 1 8 (m2+1) (((Gy L i++(L.getD i []).take (k+1)).map V0)) zo Tryz.underlying34 K0 rfl Do zx c1 zy (b0.blk.sl 1 1 Do Do) rfl (by simp[Value.oneCell']) (by unfold maxLen;omega) M0 c0.size M0 (by rw[Uz (l:=(L.getD i [])) (k:=k) M0];simp) fun h3 g5 h9 h5 d2 d7=>?_
     refine zK _ _ ?_
     refine xwm 5 ((k:Int)+1) (↑(k+1):Int) ?_
     have e6:=c0.trans d7
     have b3:=(f4.below b0.below).grown d2 c1
     exact ze 2 (f8 _ _ _ ⟨k+1,_,_,_,rfl,rfl,e6,h5,b3,by omega,by omega⟩ M0)
    refine xbs 5 1 [V0 ((L.getD i []).getD k 0)] 3 fun i8 j2 a9=>?_
    have i9:=a9.ge a3
    have e8:=Zu a4 a9
    have b4:=Zb a4 a9.below
    have c6:=bln a3 a9.below
    refine xbi 0 fun _ _ _ _ zJ zQ zo zx zy zK=>Xi (m:=1) (news:=[V0 ((L.getD i []).getD k 0)]) (V0 0) 1 8 (m2+1) (((Gy L i++(L.getD i []).take (k+1)).map V0)) zo Tryz.underlying34 K0 rfl Do zx b4 zy (a9.blk.sl 1 1 Do Do) rfl (by simp[Value.oneCell']) (by unfold maxLen;omega) M0 c6.size M0 (by rw[Uz (l:=(L.getD i [])) (k:=k) M0];simp) fun h2 g6 i4 g8 f0 e1=>?_
    refine zK _ _ ?_
    refine xwm 5 ((k:Int)+1) (↑(k+1):Int) ?_
    have d1:=(a6.below a9.below).grown f0 b4
    have e5:=c6.trans e1
    exact ze 2 (f8 _ _ _ ⟨k+1,_,_,_,rfl,rfl,e5,g8,(by rw[←Zc2 (A:=Gy L i) (l:=(L.getD i [])) (k:=k) M0 M0];exact d1),by omega,by omega⟩ M0)
   refine xwm 7 ((i:Int)+1) (↑(i+1):Int) ?_
   have hE:=Zg4 (L:=L) (i:=i) (k:=k) M0 M0
   exact ze 2 (f2 _ _ _ ⟨i+1,_,_,_,rfl,rfl,a3,(by rw[←hE];exact a4),(by rw[←hE];exact a6),by omega,by rw[←hE,A8,E3];omega⟩ M0)
  refine zl 18 67 (fun zm c5 V=>∃ (k m2:Nat) (p2:O0) (c2:Nat),c5=[(0,.slice pl L.length cl),(5,.slice p2 m2 c2),(6,.map (some r1)),(13,.slice pl L.length cl),(14,V0 (L.length:Int)),(15,V0 (i:Int)),(42,.slice (some ⟨(gs.getD i (0,0)).1,0,none⟩) ((L.getD i []).length) ((gs.getD i (0,0)).2)),(43,V0 (↑((L.getD i []).length):Int)),(44,V0 (k:Int))]∧zm=(L.getD i []).length-((k:Int)).toNat∧B3 w V∧V.ownsRow w.heap.size 3 1 (.slice p2 m2 c2) m2 ((Gy L i++(L.getD i []).take k).map V0)∧Ni V r1 (Hx (Gy L i++(L.getD i []).take k))∧k≤(L.getD i []).length∧m2=(Gy L i).length+k) ⟨0,m,_,_,rfl,rfl,a5,(by rw[N4,G0];exact ho),(by rw[N4,G0];exact hm),A3 _,by omega⟩ ?_
  rintro _ _ h7 ⟨k,m2,p2,c2,rfl,rfl,a0,a2,a1,hk,h0⟩ i7 c3 j0
  have b7:=fun(q:k<(L.getD i []).length)=>Gi (hF.small i M0) k
  refine xid 6 ((k:Int)<(↑((L.getD i []).length):Int)) (fun e9=>?_) (fun e9=>?_)
  ·refine xxb 6 (gs.getD i (0,0)).1 0 ((L.getD i []).length) k 1 ?_
   refine xl 0 (Zmo (IntsN.elem (Zg (Lists.each (hL.below a0) i M0)) rfl (k:=k) M0).2) ?_
   refine xgk 9 [49,50] (show(decide (((L.getD i []).getD k 0)<(0:Int)):Bool)=false from decide_eq_false (by have:=(b7 M0).1;omega)) ?_
   refine xk 5 (show(decide (((L.getD i []).getD k 0)>(3:Int)):Bool)=false from decide_eq_false (by have:=(b7 M0).2;omega)) ?_
   refine xie 9 ((L.getD i []).getD k 0) (3:Int) (fun e0=>?_) (fun e0=>?_)
   ·refine xmu 4 (k:=(m2:Int)) Tryz.underlying72 Tryz.underlying3 a1 (Zc0 (by rw[A8,E3];omega)) fun i5 f9 f5=>?_
    rw[Zcp (A:=Gy L i) (l:=(L.getD i [])) (k:=k) (m:=m2) M0 M0 M0] at f5
    have g1:=m1.ge (B4 w)
    refine xbs 5 1 [V0 ((L.getD i []).getD k 0)] 3 fun j5 j8 a7=>?_
    have b9:=f9.below a0 g1
    have j3:=a7.ge b9
    have c8:=Zi0 a2 a1 f9
    have d5:=Zu c8 a7
    have b2:=Zb c8 a7.below
    have c4:=bln b9 a7.below
    refine xbi 0 fun _ _ _ _ zJ zQ zo zx zy zK=>Xi (m:=1) (news:=[V0 ((L.getD i []).getD k 0)]) (V0 0) 1 8 (m2+1) (((Gy L i++(L.getD i []).take (k+1)).map V0)) zo Tryz.underlying34 K0 rfl Do zx b2 zy (a7.blk.sl 1 1 Do Do) rfl (by simp[Value.oneCell']) (by unfold maxLen;omega) M0 c4.size M0 (by rw[Uz (l:=(L.getD i [])) (k:=k) M0];simp) fun g9 g2 i2 g0 e4 d8=>?_
    refine zK _ _ ?_
    refine xwm 5 ((k:Int)+1) (↑(k+1):Int) ?_
    have e7:=c4.trans d8
    have c9:=(f5.below a7.below).grown e4 b2
    exact ze 2 (c3 _ _ _ ⟨k+1,_,_,_,rfl,rfl,e7,g0,c9,by omega,by omega⟩ M0)
   refine xbs 5 1 [V0 ((L.getD i []).getD k 0)] 3 fun j7 i0 a8=>?_
   have j1:=a8.ge a0
   have e2:=Zu a2 a8
   have b6:=Zb a2 a8.below
   have c7:=bln a0 a8.below
   refine xbi 0 fun _ _ _ _ zJ zQ zo zx zy zK=>Xi (m:=1) (news:=[V0 ((L.getD i []).getD k 0)]) (V0 0) 1 8 (m2+1) (((Gy L i++(L.getD i []).take (k+1)).map V0)) zo Tryz.underlying34 K0 rfl Do zx b6 zy (a8.blk.sl 1 1 Do Do) rfl (by simp[Value.oneCell']) (by unfold maxLen;omega) M0 c7.size M0 (by rw[Uz (l:=(L.getD i [])) (k:=k) M0];simp) fun g3 h1 j6 h6 e3 d6=>?_
   refine zK _ _ ?_
   refine xwm 5 ((k:Int)+1) (↑(k+1):Int) ?_
   have d9:=(a1.below a8.below).grown e3 b6
   have d0:=c7.trans d6
   exact ze 2 (c3 _ _ _ ⟨k+1,_,_,_,rfl,rfl,d0,h6,(by rw[←Zc2 (A:=Gy L i) (l:=(L.getD i [])) (k:=k) M0 M0];exact d9),by omega,by omega⟩ M0)
  refine xwm 7 ((i:Int)+1) (↑(i+1):Int) ?_
  have hE:=Zg4 (L:=L) (i:=i) (k:=k) M0 M0
  exact ze 2 (f2 _ _ _ ⟨i+1,_,_,_,rfl,rfl,a0,(by rw[←hE];exact a2),(by rw[←hE];exact a1),by omega,by rw[←hE,A8,E3];omega⟩ M0)
 have g1:=m1.ge (B4 w)
 refine xe 15 (.tuple #[.slice p m c,.map (some r1),.bool true]) ?_
 obtain rfl:i=L.length:=by omega
 rw[flat_all] at ho hm f6
 subst f6
 exact⟨_,rfl,a5,_,_,_,rfl,ho,hm,g1⟩
theorem Ae(E:List Ent)(i:Nat)(w:World)(hs:(E.getD i Zo).2.1.length≤1000):C0 184 #[.string ⟨(E.getD i Zo).2.1.toArray⟩] w (Ret (.tuple #[V0 (jVal E i),V0 (Xn As (E.getD i Zo).2.1)]) w):=Zby _ w hs
theorem Zr9{F:List Int}{E:List Ent}{i kk:Nat}(h:jOk F E (i+1))(hk:Ht E i=(kk:Int)):((Zfx F E i).map V0).set kk (V0 (jVal E i))=(Zfx F E (i+1)).map V0:=by
 have e:=outL_set h
 rwa [hk,G1] at e
theorem Zpd{F:List Int}{E:List Ent}{i kk:Nat}(hk:Ht E i=(kk:Int)):(Ma F E i).erase ((kk:Nat):Int)=Ma F E (i+1):=by rw[←hk];exact Ztw F E i
theorem Zpq(E:List Ent)(i:Nat):Nh E (i+1)=Ht E i:=by unfold Nh;rw[if_neg M0,M2]
def JoinP(F:List Int)(E:List Ent)(w:World)(e:Ending)(w':World):Prop :=
 ∃ p c,e=.returned (.tuple #[.slice p (Pp F E).2.length c,V0 (Pp F E).1])∧B3 w w'∧w'.ownsRow w.heap.size 3 1 (.slice p (Pp F E).2.length c) (Pp F E).2.length ((Pp F E).2.map V0)
theorem Fx{F:List Int}{E:List Ent}{w W:World}{z:Int}(h:Pp F E=(z,[]))(hb:B3 w W):JoinP F E w (.returned (.tuple #[S0,V0 z])) W:=⟨none,0,by rw[h];rfl,hb,by rw[h];exact A5 _ _ _ _⟩
theorem jBad_8{F:List Int}{E:List Ent}{i:Nat}(h:Ht E i≤Nh E i):Ziv F E i=8:=if_pos h
theorem jBad_13{F:List Int}{E:List Ent}{i:Nat}(h:Nh E i<Ht E i)(h3:F.getD (Ht E i).toNat 0≠3):Ziv F E i=13:=by unfold Ziv;rw[if_neg M0,if_pos h3]
theorem jBad_r{F:List Int}{E:List Ent}{i:Nat}(h:Nh E i<Ht E i)(h3:F.getD (Ht E i).toNat 0=3):Ziv F E i=Xn As (E.getD i Zo).2.1:=by unfold Ziv;rw[if_neg M0,if_neg (fun q=>q h3)]
theorem Zov(B2:Nat)(pl:O0)(cl:Nat)(gs:List (Nat×Nat))(L:List (List Int))(a:O0)(ce:Nat)(E:List Ent)(w:World)(hL:Lists w B2 (.slice pl L.length cl) gs L)(hF:FormOk L)(hl:L.length≤1200000000)(hE:Sts Kd w (.slice a E.length ce) E)(hv:∀ i,i<E.length→(E.getD i Zo).2.1.length≤1000) :
 C0 114 #[.slice pl L.length cl,.slice a E.length ce] w (JoinP L.flatten E w):=by
 have e4:=Sl.len hE
 refine zin 61 Tryz.func114 ?_
 refine xc 9 (Znr B2 pl cl gs L _ (hL.below (B4 w)) hF hl) ?_
 rintro _ W1 ⟨_,rfl,d1,p,c,rm,rfl,d8,d3,c8⟩
 have d0:=At w.heap.size
 have e2:=c8
 refine xv1 33 9 (show(V0 (-1):Value)=V0 (Nh E 0) from rfl) ?_
 have a5:=Zf d8 d0
 refine zl 0 61 (fun zm e0 V=>∃ (i:Nat),e0=[(6,.slice p L.flatten.length c),(7,.map (some rm)),(9,V0 (Nh E i)),(22,.slice a E.length ce),(23,V0 (E.length:Int)),(24,V0 (i:Int))]∧zm=E.length-((i:Int)).toNat∧B3 w V∧V.ownsRow w.heap.size 3 1 (.slice p L.flatten.length c) L.flatten.length ((Zfx L.flatten E i).map V0)∧Ni V rm (Ma L.flatten E i)∧i≤E.length∧jOk L.flatten E i) ⟨0,rfl,rfl,d1,(by rw[Zse];exact a5),(by rw[Zoa];exact d3),A3 _,(fun j hj=>absurd hj M0)⟩ ?_
 rintro _ _ W2 ⟨i,rfl,rfl,a0,ho,hm,hi,a2⟩ J2 d5 r2
 have d6:=Ep a2
 refine xid 6 ((i:Int)<(E.length:Int)) (fun d9=>?_) (fun d9=>?_)
 ·refine xx 6 _ E.length i 3 (Sts.cell hE Ql Zo (k:=i) (i:=0) M0 rfl).1 ?_
  refine xlv 0 (Sts.rp (k:=i) (hE.below a0) Ql Zo M0 Do) ?_
  refine xa 0 [V0 0,.string ⟨#[]⟩,V0 0] 132 fun b4 W4 n4=>?_
  have g4:=n4.ge a0
  refine xsv 0 n4.blk [V0 (Ht E i),.string ⟨((E.getD i Zo).2.1).toArray⟩,V0 ((E.getD i Zo).2.2)] fun W5 u5 k5=>?_
  refine xb 6 0 k5 ?_
  refine xid 4 ((Ht E i)≤(Nh E i)) (fun d7=>?_) (fun d7=>?_)
  ·have b9:=u5.below (bln a0 n4.below) g4
   exact xe 13 (.tuple #[S0,V0 8]) (Fx ((Oc M0 a2 (by rw[jBad_8 M0];decide)).trans (by rw[jBad_8 M0])) b9)
  have b1:Nh E i<Ht E i:=by omega
  refine xb 7 0 k5 ?_
  have a6:=(hm.below n4.below).updBlk u5 n4.blk
  refine xlk 0 (k:=(Ht E i)) Tryz.underlying72 Tryz.underlying3 (fun V=>by kernel_rfl) a6 ?_
  refine xi 3 (!(decide ((Ht E i)∈(Ma L.flatten E i)))) (fun b2=>?_) (fun b2=>?_)
  ·have d4:¬ (Ht E i∈Ma L.flatten E i):=by simpa using b2
   have b5:=u5.below (bln a0 n4.below) g4
   refine xe 13 (.tuple #[S0,V0 13]) ?_
   have c7:=jBad_13 (F:=L.flatten) b1 (fun q=>d4 ((Zla a2 b1).2 q))
   exact Fx ((Oc M0 a2 (by rw[c7];decide)).trans (by rw[c7])) b5
  have c6:Ht E i∈Ma L.flatten E i:=by simpa using b2
  have h3:=(Zla a2 b1).1 c6
  have c0:=jBad_r (F:=L.flatten) b1 h3
  refine xb 5 1 k5 ?_
  refine xr 0 (Ae E i _ (hv i M0)) fun W8 b0=>?_
  refine xin 14 (Xn As (E.getD i Zo).2.1) (0:Int) (fun d2=>?_) (fun d2=>?_)
  ·have b6:=bln (u5.below (bln a0 n4.below) g4) b0
   exact xe 14 (.tuple #[S0,V0 (Xn As (E.getD i Zo).2.1)]) (Fx ((Oc M0 a2 (by rw[c0];omega)).trans (by rw[c0])) b6)
  have a9:jOk L.flatten E (i+1):=jOk_next a2 (by rw[c0];omega)
  obtain⟨kk,a4⟩:∃ kk:Nat,Ht E i=(kk:Int):=⟨(Ht E i).toNat,by have:=d6.1;omega⟩
  have e1:=Zwc h3
  rw[a4,G1] at e1
  have a1:=Zb (u5.own2 (Zb ho n4.below) n4.blk Do) b0
  obtain⟨gq,rfl,_⟩:=Mb a1 M0
  have b7:=k5.below b0
  have kq:Blk W8 b4 [V0 (kk:Int),.string ⟨((E.getD i Zo).2.1).toArray⟩,V0 ((E.getD i Zo).2.2)] 132:=by rw[←a4];exact b7
  refine xb 6 0 kq ?_
  refine xx 1 _ L.flatten.length kk 1 (Ew a1 M0).1 ?_
  refine xst 0 fun _ _ _ _ zJ zQ zo zx zy zK=>Gd (t:=3) (k:=kk) (v:=V0 (jVal E i)) zo zx zy K0 rfl a1 M0 fun e5 c3 c5=>?_
  rw[Zr9 (F:=L.flatten) a9 a4] at c5
  refine zK _ _ ?_
  have a8:=c3.blk kq (Me kq a1 Do)
  refine xb 6 0 a8 ?_
  have a3:=(a6.below b0).updRow c3 a1
  refine xmd 0 (k:=(kk:Int)) Tryz.underlying72 Tryz.underlying3 a3 (a4▸c6) fun e3 c2 c9=>?_
  rw[Zpd (F:=L.flatten) a4] at c9
  have b3:=blk_map a8 a3 c2
  refine xb 4 0 b3 ?_
  refine xwm 5 ((i:Int)+1) (↑(i+1):Int) ?_
  refine xv1 2 9 (show(V0 (kk:Int):Value)=V0 (Nh E (i+1)) from by rw[Zpq,a4]) ?_
  have c1:=c2.below (c3.below (bln (u5.below (bln a0 n4.below) g4) b0) (De a1)) c8
  have a7:=Zi0 c5 a3 c2
  exact ze 0 (d5 _ _ _ ⟨i+1,rfl,rfl,c1,a7,c9,by omega,a9⟩ M0)
 refine xml 9 Tryz.underlying72 hm ?_
 refine xid 3 ((↑(Ma L.flatten E i).length:Int)>(0:Int)) (fun c4=>?_) (fun c4=>?_)
 ·refine xe 8 (.tuple #[S0,V0 13]) ?_
  obtain rfl:i=E.length:=by omega
  exact Fx ((Zbg a2).trans (if_neg (fun q=>by have h0:=congrArg List.length q;rw[D6] at h0;omega))) a0
 refine xe 10 (.tuple #[.slice p L.flatten.length c,V0 0]) ?_
 obtain rfl:i=E.length:=by omega
 have b8:Ma L.flatten E E.length=[]:=H8 M0
 have hj:=(Zbg a2).trans (if_pos b8)
 exact⟨p,c,by rw[hj,Hj],a0,by rw[hj,Hj];exact ho⟩
theorem Js(l:Bl)(root tree fuel:Int):∀ i,i<(Zd l root tree fuel).es.length→((Zd l root tree fuel).es.getD i Zo).2.1.length≤1000:=fun i hi=>by
 have hx:(Zd l root tree fuel).es.getD i Zo∈(Zd l root tree fuel).es:=by rw[show(Zd l root tree fuel).es.getD i Zo=(Zd l root tree fuel).es[i] from by simp[List.getD,hi]];exact G6 hi
 obtain⟨_,_,k,_,_,h,_⟩:=(scan_law l root tree fuel).2.2.1 _ hx
 rw[←h]
 exact Ea _ _ _
theorem Gg(Bi b:Nat)(pi:O0)(ni ci:Nat)(l:Bl)(root tree fuel:Int)(w:World)(hfu:fuel≤1000000)(hI:ImgR Bi b pi ni ci l w) :
 C0 60 #[P0 b,V0 root,V0 tree,V0 fuel] w (fun e w' =>
 ((Zd l root tree fuel).fs≠[]∧∃ pe ce pb cb pf cf ty x,e=.returned (.tuple #[.agg #[.slice pe 0 ce,.slice pb 0 cb,V0 0,V0 0,.slice pf 0 cf],.iface ty x])∧B3 w w'∧Kr w' ((Ke (Zd l root tree fuel)).1.map some) (some (Ke (Zd l root tree fuel)).2) (.iface ty x)) ∨
 ((Zd l root tree fuel).fs=[]∧∃ pe ce pb nb cb dp lk pf cf,e=.returned (.tuple #[.agg #[.slice pe (Zd l root tree fuel).es.length ce,.slice pb nb cb,V0 dp,V0 lk,.slice pf 0 cf],.nilIface])∧B3 w w'∧w'.ownsRow w.heap.size 132 3 (.slice pe (Zd l root tree fuel).es.length ce) (Zd l root tree fuel).es.length ((Zd l root tree fuel).es.flatMap Kd))):=by
 refine(Zi8 Bi b pi ni ci l root tree fuel w hfu hI).mono ?_
 rintro e W ⟨t,pe,pb,pf,ce,cb,cf,fv,v,ht,rfl,hb,hW,hv⟩
 by_cases h:(Zd l root tree fuel).fs=[]
 ·obtain⟨h1,_,h3,h4⟩:=Znj h
  rw[h1] at ht
  rw[h3,h4] at hv
  subst ht
  have a0:v=.nilIface:=hv
  subst a0
  refine .inr ⟨h,pe,ce,pb,(Zd l root tree fuel).bs.length,cb,(Zd l root tree fuel).deep,((Zd l root tree fuel).looked:Int),pf,cf,?_,hb,hW.ents⟩
  unfold walkC
  rw[h];rfl
 ·obtain⟨h1,h2,h3,h4⟩:=Ra h
  rw[h1] at ht
  rw[h3,h4,←h2] at hv
  subst ht
  rcases hv.nil_or with ⟨hz,_⟩|⟨_,ty,x,rfl⟩
  ·simp[Fy] at hz
  ·exact .inl ⟨h,pe,ce,pb,cb,pf,cf,ty,x,rfl,hb,hv⟩
theorem Qo(no er:Int)(bl:List Int)(v:Value)(w:World)(hv:Kr w (bl.map some) (some er) v) :
 C0 61 #[V0 no,v] w (fun e w'=>∃ ty x,e=.returned (.iface ty x)∧B3 w w'∧Kr w' ((no::bl).map some) (some er) (.iface ty x)):=by
 refine(Vu no (some er) (bl.map some) v w hv).mono ?_
 rintro e W ⟨r,rfl,hb,hr⟩
 rw[show atL no (bl.map some) (some er)=(no::bl).map some from by unfold atL Fy;simp] at hr
 have a0:Kr W (some no::bl.map some) (some er) r:=hr
 obtain⟨a1,v',rfl,h1,h2⟩:=a0
 exact⟨_,_,rfl,hb,a1,v',rfl,h1,h2⟩
theorem Fk{l:Bl}{root tree fuel:Int}(h:(Zd l root tree fuel).fs≠[]):(Ke (Zd l root tree fuel)).2≠0:=by
 obtain⟨es,fs,hw⟩:=Nm l root tree fuel
 have h2:(Zd l root tree fuel).fs=fs:=by rw[hw.fsE];rfl
 rw[(Ra h).2.1]
 rw[h2] at h ⊢
 cases fs with
 | nil=>exact absurd rfl h
 | cons f r=>exact(hw.flt f (by simp)).2.2
def OutP(O:List Int×Int×List Int)(w:World)(e:Ending)(w':World):Prop :=
 (O.2.1≠0∧∃ ty x,e=.returned (.tuple #[S0,.iface ty x])∧B3 w w'∧Kr w' (O.1.map some) (some O.2.1) (.iface ty x)) ∨
 (O.2.1=0∧∃ p c,e=.returned (.tuple #[.slice p O.2.2.length c,.nilIface])∧B3 w w'∧w'.ownsRow w.heap.size 3 1 (.slice p O.2.2.length c) O.2.2.length (O.2.2.map V0))
theorem Gk{O:List Int×Int×List Int}{bl:List Int}{er:Int}{w W:World}{ty:TypeId}{x:Value}(h:O=(bl,er,[]))(her:er≠0)(hb:B3 w W)(hv:Kr W (bl.map some) (some er) (.iface ty x)):OutP O w (.returned (.tuple #[S0,.iface ty x])) W:=by
 subst h;exact .inl ⟨her,ty,x,rfl,hb,hv⟩
theorem out_ok{O:List Int×Int×List Int}{L:List Int}{n:Nat}{w W:World}{p:O0}{c:Nat}(h:O=([],0,L))(hn:L.length=n)(hb:B3 w W)(ho:W.ownsRow w.heap.size 3 1 (.slice p n c) n (L.map V0)):OutP O w (.returned (.tuple #[.slice p n c,.nilIface])) W:=by
 subst h hn;exact .inr ⟨rfl,p,c,rfl,hb,ho⟩
theorem bitR_le(l:Bl)(no:Int):(Uo l no).length≤960:=by
 by_cases h:Yi l no=0
 ·rw[(Zff h).2]
  unfold Yi at h
  by_cases h1:inE l 3 no=0
  ·rw[if_pos h1] at h
   by_cases h2:Zaq (inB l no)=true
   ·exact((Ld _).1 h2).2.1
   ·rw[if_neg h2] at h;omega
  ·rw[if_neg h1] at h;exact absurd h h1
 ·rw[bitR_bad h];exact A3 _
theorem Zai(B b:Nat)(p:O0)(n c:Nat)(l:Bl)(no:Int)(w:World)(hI:ImgR B b p n c l w) :
 C0 80 #[P0 b,V0 no] w (fun e w' =>
 (Yi l no≠0∧∃ ty x,e=.returned (.tuple #[S0,.iface ty x])∧B3 w w'∧Kr w' (([no]:List Int).map some) (some (Yi l no)) (.iface ty x)) ∨
 (Yi l no=0∧∃ p c,e=.returned (.tuple #[.slice p (Uo l no).length c,.nilIface])∧B3 w w'∧w'.ownsRow w.heap.size 3 1 (.slice p (Uo l no).length c) (Uo l no).length ((Uo l no).map V0))):=by
 refine(Zo7 B b p n c l no w hI).mono ?_
 rintro e W q
 rcases q with ⟨h,b,rfl,hb,hv⟩|⟨h,p,c,rfl,hb,ho⟩
 ·exact .inl ⟨h,_,_,rfl,hb,hv⟩
 ·refine .inr ⟨h,p,c,by rw[(Zff h).2],hb,?_⟩
  rw[(Zff h).2,(Zff h).1,bitI_map];exact ho
theorem Zfd(Bi b:Nat)(pi:O0)(ni ci:Nat)(l:Bl)(x:Plc)(want:Int)(w:World)(hI:ImgR Bi b pi ni ci l w) :
 C0 113 #[.agg #[V0 (↑x.1.1:Int),V0 (↑x.1.2.1:Int),V0 (↑x.1.2.2:Int),V0 x.2.1,V0 x.2.2],P0 b,V0 want] w (OutP (Zn4 l x want) w):=by
 refine zin 65 Tryz.func113 ?_
 refine xa 2 [V0 (↑x.1.1:Int),V0 (↑x.1.2.1:Int),V0 (↑x.1.2.2:Int),V0 x.2.1,V0 x.2.2] 138 fun b1 W1 n1=>?_
 refine xb 8 4 n1.blk ?_
 refine xin 3 x.2.2 (0:Int) (fun c4=>?_) (fun c4=>?_)
 ·refine xb 3 3 n1.blk ?_
  refine xb 1 4 n1.blk ?_
  refine xc 1 (args:=#[V0 x.2.1,.iface 50 (V0 x.2.2)]) (Qo x.2.1 x.2.2 [] _ _ rfl) ?_
  rintro _ W3 ⟨c2,v3,rfl,d2,a2⟩
  have hB:=bln n1.below d2
  exact xe 6 (.tuple #[S0,.iface c2 (v3)]) (Gk (by unfold Zn4;rw[if_pos (by assumption)]) (by assumption) hB a2)
 refine xb 7 0 n1.blk ?_
 refine xc 0 (Zai Bi b pi ni ci l (↑x.1.1:Int) _ (hI.below n1.below)) ?_
 rintro e W4 c1
 rcases c1 with ⟨c0,c3,vb,rfl,a1,d1⟩|⟨c0,p9,c9,rfl,a1,d5⟩
 ·have a7:=n1.blk.below a1
  refine xb 18 3 a7 ?_
  refine xc 1 (args:=#[V0 x.2.1,.iface c3 (vb)]) (Qo x.2.1 (Yi l (↑x.1.1:Int)) [(↑x.1.1:Int)] _ _ d1) ?_
  rintro _ W5 ⟨c7,v5,rfl,d3,a2⟩
  have b5:=bln (bln n1.below a1) d3
  exact xe 6 (.tuple #[S0,.iface c7 (v5)]) (Gk (by unfold Zn4;rw[if_neg M0,if_pos c0]) c0 b5 a2)
 refine xin 26 (↑((Uo l (↑x.1.1:Int)).length):Int) want (fun d0=>?_) (fun d0=>?_)
 ·have b9:=n1.blk.below a1
  refine xb 3 3 b9 ?_
  refine xc 1 (args:=#[V0 x.2.1,.iface 50 (V0 7)]) (Qo x.2.1 7 [] _ _ rfl) ?_
  rintro _ W7 ⟨c6,v7,rfl,d4,a2⟩
  have b2:=bln (bln n1.below a1) d4
  exact xe 6 (.tuple #[S0,.iface c6 (v7)]) (Gk (by unfold Zn4;rw[if_neg M0,if_neg M0,if_pos (by assumption)]) Do b2 a2)
 have a3:=Zf d5 n1.below.size
 refine xr 6 (args:=#[.slice p9 ((Uo l (↑x.1.1:Int)).length) c9]) (Zam p9 c9 (Uo l (↑x.1.1:Int)) _ (bitR_le _ _) (Zg a3)) fun W8 a5=>?_
 have a0:=(n1.blk.below a1).below a5
 refine xb 12 1 a0 ?_
 refine xg 2 [52,53] ((↑(Yo (Uo l (↑x.1.1:Int))):Int) != (↑x.1.2.1:Int)) (fun a4=>?_) (fun a4=>?_)
 ·have a4:=Be a4
  refine xb 12 3 a0 ?_
  refine xc 1 (args:=#[V0 x.2.1,.iface 50 (V0 13)]) (Qo x.2.1 13 [] _ _ rfl) ?_
  rintro _ d6 ⟨a9,c8,rfl,b3,a2⟩
  have b4:=bln (bln (bln n1.below a1) a5) b3
  exact xe 6 (.tuple #[S0,.iface a9 (c8)]) (Gk (by unfold Zn4;rw[if_neg M0,if_neg M0,if_neg M0,if_neg M0]) Do b4 a2)
 have a4:=Vj a4
 refine xb 3 2 a0 ?_
 refine xin 4 (↑(Xl (Uo l (↑x.1.1:Int))):Int) (↑x.1.2.2:Int) (fun b7=>?_) (fun b7=>?_)
 ·refine xb 3 3 a0 ?_
  refine xc 1 (args:=#[V0 x.2.1,.iface 50 (V0 13)]) (Qo x.2.1 13 [] _ _ rfl) ?_
  rintro _ d7 ⟨b8,c5,rfl,a8,a2⟩
  have b6:=bln (bln (bln n1.below a1) a5) a8
  exact xe 6 (.tuple #[S0,.iface b8 (c5)]) (Gk (by unfold Zn4;rw[if_neg M0,if_neg M0,if_neg M0,if_neg M0]) Do b6 a2)
 have b0:=bln (bln n1.below a1) a5
 have a6:=Zb a3 a5
 exact xe 10 (.tuple #[.slice p9 ((Uo l (↑x.1.1:Int)).length) c9,.nilIface]) (out_ok (by unfold Zn4;rw[if_neg M0,if_neg M0,if_neg M0,if_pos M0]) rfl b0 a6)
def Zdb(n:Int)(i:Nat):Int:=if 0<i∧n-960*i<0 then 0 else n-960*i
theorem Ztv(n:Int):Zdb n 0=n:=by unfold Zdb;rw[if_neg M0];omega
theorem rem_in{n:Int}{i m:Nat}(hX:m=bmI n)(hi:i<m):Zdb n i=n-960*i∧1≤n-960*i∧(if 960<Zdb n i then 960 else Zdb n i)=Uj n i∧1≤Uj n i∧Uj n i≤960∧Zdb n i-Uj n i=Zdb n (i+1):=by
 unfold bmI bmN at hX
 have h1:1≤n-960*i:=by omega
 have h2:Zdb n i=n-960*i:=by unfold Zdb;rw[if_neg M0]
 have h3:(if 960<Zdb n i then 960 else Zdb n i)=Uj n i:=by
  unfold Uj;rw[h2];split<;>split<;>omega
 have h4:1≤Uj n i∧Uj n i≤960:=by unfold Uj;split<;>omega
 refine⟨h2,h1,h3,h4.1,h4.2,?_⟩
 rw[h2]
 unfold Uj Zdb
 split<;>split<;>omega
theorem Zmf{n:Int}(h:n≤1099511627776):bmI n≤1200000000:=by unfold bmI bmN;omega
theorem Zcb(Bi b:Nat)(pi:O0)(ni ci:Nat)(l:Bl)(X:List Plc)(n:Int)(i:Nat)(w:World)(hI:ImgR Bi b pi ni ci l w)(hw:1≤Uj n i) :
 C0 113 #[.agg #[V0 ((X.getD i Nj).1.1:Int),V0 ((X.getD i Nj).1.2.1:Int),V0 ((X.getD i Nj).1.2.2:Int),V0 (X.getD i Nj).2.1,V0 (X.getD i Nj).2.2],P0 b,V0 (Uj n i)] w (fun e w' =>
 ((Zf1 l X n i).2.1≠0∧∃ ty x,e=.returned (.tuple #[S0,.iface ty x])∧B3 w w'∧Kr w' ((Zf1 l X n i).1.map some) (some (Zf1 l X n i).2.1) (.iface ty x)) ∨
 ((Zf1 l X n i).2.1=0∧∃ g c,e=.returned (.tuple #[.slice (S1 g) (Uo l ((X.getD i Nj).1.1:Int)).length c,.nilIface])∧B3 w w'∧w'.ownsRow w.heap.size 3 1 (.slice (S1 g) (Uo l ((X.getD i Nj).1.1:Int)).length c) (Uo l ((X.getD i Nj).1.1:Int)).length ((Uo l ((X.getD i Nj).1.1:Int)).map V0))):=by
 refine(Zfd Bi b pi ni ci l (X.getD i Nj) (Uj n i) w hI).mono ?_
 rintro e W q
 rcases q with ⟨h,ty,x,rfl,hb,hv⟩|⟨h,p,c,rfl,hb,ho⟩
 ·exact .inl ⟨h,ty,x,rfl,hb,hv⟩
 ·obtain⟨h1,h2⟩:=Zvd h
  rw[h1] at ho ⊢
  obtain⟨g,rfl,_⟩:=Mb ho (by show 0<(Uo l ((X.getD i Nj).1.1:Int)).length;omega)
  exact .inr ⟨h,g,c,rfl,hb,ho⟩
theorem Zu3{gs:List (Nat×Nat)}{l:Bl}{X:List Plc}{n:Int}{i g c:Nat}(hg:gs.length=i) :
 (List.range i).map (Of gs (Lp l X n i))++[.slice (S1 g) (Uo l ((X.getD i Nj).1.1:Int)).length c]=(List.range (i+1)).map (Of (gs++[(g,c)]) (Lp l X n (i+1))):=by
 have hl:gs.length=(Lp l X n i).length:=by rw[Kf];exact hg
 rw[C3,B5,List.map_singleton,Zha]
 congr 1
 ·exact H9 fun k hk=>(Ay hl (by rw[Kf];exact B9.1 hk)).symm
 ·have:=Aq (c:=c) (g:=g) (ch:=Uo l ((X.getD i Nj).1.1:Int)) hl
  rw[Kf] at this
  rw[this]
theorem Zwg{W:World}{base g c i:Nat}{gs:List (Nat×Nat)}{l:Bl}{X:List Plc}{n:Int}(h:Zry W base gs (Lp l X n i))(hg:gs.length=i)(ho:W.ownsRow base 3 1 (.slice (S1 g) (Uo l ((X.getD i Nj).1.1:Int)).length c) (Uo l ((X.getD i Nj).1.1:Int)).length ((Uo l ((X.getD i Nj).1.1:Int)).map V0)):Zry W base (gs++[(g,c)]) (Lp l X n (i+1)):=by
 have hl:gs.length=(Lp l X n i).length:=by rw[Kf];exact hg
 intro k hk
 rw[Kf] at hk
 rw[Zha]
 by_cases e:k<i
 ·have a0:k<(Lp l X n i).length:=by rw[Kf];exact e
  rw[Ay hl a0,show(Lp l X n i++[Uo l ((X.getD i Nj).1.1:Int)]).getD k []=(Lp l X n i).getD k [] from by simp[List.getD,Ge,a0]]
  exact h k a0
 ·obtain rfl:k=i:=by omega
  have h2:=Aq (c:=c) (g:=g) (ch:=Uo l ((X.getD k Nj).1.1:Int)) hl
  rw[Kf] at h2
  rw[h2,show(Lp l X n k++[Uo l ((X.getD k Nj).1.1:Int)]).getD k []=Uo l ((X.getD k Nj).1.1:Int) from by
   have h3:=Kf l X n k
   simp[List.getD,h3]]
  exact ho
theorem Zuj{W:World}{base m c:Nat}{p:O0}{gs:List (Nat×Nat)}{l:Bl}{X:List Plc}{n:Int}(hr:W.ownsRow base 34 1 (.slice p m c) m ((List.range m).map (Of gs (Lp l X n m))))(he:Zry W base gs (Lp l X n m)):Lists W base (.slice p (Lp l X n m).length c) gs (Lp l X n m):=⟨by rw[Kf];exact hr,fun i hi=>he i hi⟩
theorem Zjq(m:Nat)(B2:Nat)(pl:O0)(cl:Nat)(gs:List (Nat×Nat))(L:List (List Int))(a:O0)(ce:Nat)(E:List Ent)(w:World)(hm:L.length=m)(hL:Lists w B2 (.slice pl L.length cl) gs L)(hF:FormOk L)(hl:L.length≤1200000000)(hE:Sts Kd w (.slice a E.length ce) E)(hv:∀ i,i<E.length→(E.getD i Zo).2.1.length≤1000) :
 C0 114 #[.slice pl m cl,.slice a E.length ce] w (JoinP L.flatten E w):=by
 subst hm;exact Zov B2 pl cl gs L a ce E w hL hF hl hE hv
theorem Zu8(Bi b:Nat)(pi:O0)(ni ci:Nat)(l:Bl)(px:O0)(cx:Nat)(X:List Plc)(over n fuel:Int)(w:World)(hI:ImgR Bi b pi ni ci l w)(hX:Sts Zn1 w (.slice px X.length cx) X)(hXn:X.length=bmI n)(hn:n≤1099511627776)(hfu:fuel≤1000000) :
 C0 63 #[P0 b,.slice px X.length cx,V0 over,V0 n,V0 fuel] w (OutP (Zrx l X over n fuel) w):=by
 have e6:=Zmf hn
 rw[←hXn] at e6
 refine zin 72 Tryz.func63 ?_
 refine xv1 20 3 (show(V0 n:Value)=V0 (Zdb n 0) from by rw[Ztv]) ?_
 have hB:=Below.refl w.heap.size w
 refine zl 0 72 (fun zm f8 V=>∃ (i:Nat) (gs:List (Nat×Nat)) (p:O0) (c:Nat),f8=[(0,P0 b),(2,V0 over),(3,V0 (Zdb n i)),(4,V0 fuel),(12,.slice p i c),(22,.slice px X.length cx),(23,V0 (X.length:Int)),(24,V0 (i:Int))]∧zm=X.length-((i:Int)).toNat∧B3 w V∧V.ownsRow w.heap.size 34 1 (.slice p i c) i ((List.range i).map (Of gs (Lp l X n i)))∧Zry V w.heap.size gs (Lp l X n i)∧i≤X.length∧gs.length=i∧allK l X n i) ⟨0,[],none,0,rfl,rfl,hB,A5 _ _ _ _,(fun j hj=>absurd hj (by rw[Kf];omega)),A3 _,rfl,(fun j hj=>absurd hj M0)⟩ ?_
 rintro _ _ W1 ⟨i,gs,p,c,rfl,rfl,a0,ho,e0,hi,c8,a6⟩ J1 e4 r1
 have d9:=fun(q:i<X.length)=>rem_in hXn q
 refine xid 6 ((i:Int)<(X.length:Int)) (fun e8=>?_) (fun e8=>?_)
 ·refine xx 6 _ X.length i 5 (Sts.cell hX Zne Nj (k:=i) (i:=0) M0 rfl).1 ?_
  refine xlv 0 (Sts.rp (k:=i) (hX.below a0) Zne Nj M0 Do) ?_
  refine xa 0 [V0 0,V0 0,V0 0,V0 0,V0 0] 138 fun b3 W3 n3=>?_
  have g3:=n3.ge a0
  refine xsv 0 n3.blk [V0 (↑(X.getD i Nj).1.1:Int),V0 (↑(X.getD i Nj).1.2.1:Int),V0 (↑(X.getD i Nj).1.2.2:Int),V0 ((X.getD i Nj).2.1),V0 ((X.getD i Nj).2.2)] fun W4 u4 k4=>?_
  refine xq 5 (congrArg V0 (show(if(960:Int)<(Zdb n i) then(960:Int) else(Zdb n i):Int)=(Uj n i) from(d9 M0).2.2.1)) ?_
  refine xlv 5 k4.rp ?_
  have a3:=u4.below (bln a0 n3.below) g3
  refine xc 2 (Zcb Bi b pi ni ci l X n i _ (hI.below a3) (d9 M0).2.2.2.1) ?_
  rintro e W5 e5
  rcases e5 with ⟨c5,f1,vc,rfl,c4,d5⟩|⟨c5,g9,c9,rfl,c4,f7⟩
  ·have d3:=bln a3 c4
   exact xe 29 (.tuple #[S0,.iface f1 (vc)]) (Gk (allO_bad M0 a6 c5) c5 d3 d5)
  have f0:=(u4.below (bln a0 n3.below) g3).size
  refine xbs 21 1 [.slice (S1 g9) ((Uo l (↑(X.getD i Nj).1.1:Int)).length) c9] 34 fun b6 W6 n6=>?_
  have b5:=bln a3 c4
  have g6:=n6.ge b5
  have b0:=Zb (u4.own2 (Zb ho n3.below) n3.blk Do) c4
  have e2:=Zu b0 n6
  have a4:=Zb b0 n6.below
  have c0:=bln b5 n6.below
  refine xbi 0 fun _ _ _ _ zJ zQ zo zx zy zK=>Xi (m:=1) (news:=[.slice (S1 g9) ((Uo l (↑(X.getD i Nj).1.1:Int)).length) c9]) (S0) 1 24 (i+1) (((List.range (i+1)).map (Of (gs++[(g9,c9)]) (Lp l X n (i+1))))) zo Tryz.underlying227 K0 rfl Do zx a4 zy (n6.blk.sl 1 1 Do Do) rfl (by simp[Value.oneCell']) (by unfold maxLen;omega) M0 c0.size (rfl) (by rw[←Zu3 c8]) fun g5 h0 W7 o7 e1 f5=>?_
  refine zK _ _ ?_
  refine xq 6 (congrArg V0 (show IntKind.i64.wrap ((Zdb n i)-(Uj n i))=(Zdb n (i+1)) from(show IntKind.i64.wrap ((Zdb n i)-(Uj n i))=((Zdb n i)-(Uj n i)) from by first|exact IntWalk.i64_in _ M0|(simp only[IntKind.wrap];omega)).trans ((d9 M0).2.2.2.2.2))) ?_
  refine xwm 5 ((i:Int)+1) (↑(i+1):Int) ?_
  have b4:=((((e0.below n3.below).only (Q1 (T:=[138]) u4 n3.blk Do) Do).below c4).below n6.below).only (Q4 (T:=[34]) e1 a4 Do) Do
  have a9:=Xe (Zb (Zf f7 f0) n6.below) e1 a4 Do
  have d2:=c0.trans f5
  exact ze 2 (e4 _ _ _ ⟨i+1,gs++[(g9,c9)],_,_,rfl,rfl,d2,o7,(Zwg b4 c8 a9),by omega,by rw[A8,c8];rfl,Zsy a6 c5⟩ M0)
 obtain rfl:i=X.length:=by omega
 refine xc 10 (Gg Bi b pi ni ci l over 5 fuel _ hfu (hI.below a0)) ?_
 rintro e W8 e7
 rcases e7 with ⟨c1,pe,ce,pb,cb,pf,cf,f4,vw,rfl,c3,d5⟩|⟨c1,pe,ce,pb,nb,cb,dp,lk,pf,cf,rfl,c3,f6⟩
 ·refine xa 3 [S0,S0,V0 0,V0 0,S0] 126 fun b9 W9 n9=>?_
  have b2:=bln a0 c3
  have g9:=n9.ge b2
  refine xsv 0 n9.blk [.slice pe 0 ce,.slice pb 0 cb,V0 0,V0 0,.slice pf 0 cf] fun h2 e3 g2=>?_
  have a7:=(d5.below n9.below).only (Q1 (T:=[126]) e3 n9.blk Do) Do
  have d7:=e3.below (bln b2 n9.below) g9
  exact xe 20 (.tuple #[S0,.iface f4 (vw)]) (Gk ((Za6 a6).trans (Zus c1)) (Zgi c1) d7 a7)
 refine xa 3 [S0,S0,V0 0,V0 0,S0] 126 fun g1 g0 a1=>?_
 have a2:=bln a0 c3
 have d0:=a1.ge a2
 refine xsv 0 a1.blk [.slice pe ((Zd l over 5 fuel).es.length) ce,.slice pb nb cb,V0 dp,V0 lk,.slice pf 0 cf] fun g7 a5 f9=>?_
 refine xb 17 0 f9 ?_
 have d4:=a5.own2 (Zb (Zb ho c3) a1.below) a1.blk Do
 have b8:=((e0.below c3).below a1.below).only (Q1 (T:=[126]) a5 a1.blk Do) Do
 have b7:=a5.own2 (Zb (Zf f6 a0.size) a1.below) a1.blk Do
 refine xc 0 (args:=#[.slice p X.length c,.slice pe ((Zd l over 5 fuel).es.length) ce]) (Zjq X.length w.heap.size p c gs (Lp l X n X.length) pe ce (Zd l over 5 fuel).es _ (Kf _ _ _ _) (Zuj d4 b8) (Zs8 a6 hXn) (by rw[Kf,hXn];exact Zmf hn) (Zg b7) (Js _ _ _ _)) ?_
 rintro _ h1 ⟨pj,cj,rfl,a8,f2⟩
 have c6:=(a5.below (bln a2 a1.below) d0).size
 refine xin 14 ((Pp (Lp l X n X.length).flatten (Zd l over 5 fuel).es).1) (0:Int) (fun c7=>?_) (fun c7=>?_)
 ·refine xc 5 (args:=#[V0 over,.iface 50 (V0 ((Pp (Lp l X n X.length).flatten (Zd l over 5 fuel).es).1))]) (Qo over (Pp (Lp l X n X.length).flatten (Zd l over 5 fuel).es).1 [] _ _ rfl) ?_
  rintro _ g8 ⟨d1,e9,rfl,d8,f3⟩
  have d6:=bln (bln (a5.below (bln a2 a1.below) d0) a8) d8
  exact xe 6 (.tuple #[S0,.iface d1 (e9)]) (Gk ((Za6 a6).trans (Zqo c1 (by assumption))) (by assumption) d6 f3)
 have c2:=bln (a5.below (bln a2 a1.below) d0) a8
 have b1:=Zf f2 c6
 exact xe 10 (.tuple #[.slice pj ((Pp (Lp l X n X.length).flatten (Zd l over 5 fuel).es).2.length) cj,.nilIface]) (out_ok ((Za6 a6).trans (Zfa c1 M0)) rfl c2 b1)
def sl0:Nat×Nat×Nat:=(0,0,0)
theorem Zsx{es:List Ent}{i:Nat}(hi:i<es.length):((es.take (i+1)).map Ziu).flatMap Zn1=((es.take i).map Ziu).flatMap Zn1++Zn1 (Ziu (es.getD i Zo)):=by
 rw[A7 hi,B5,C8,show es.getD i Zo=es[i] from by simp[List.getD,hi]]
 simp only[D7,H0,E5,N7,G0]
theorem Zvz{sl:List (Nat×Nat×Nat)}{i:Nat}{at_:Int}(hi:i<sl.length):((sl.take (i+1)).map (Zmk at_)).flatMap Zn1=((sl.take i).map (Zmk at_)).flatMap Zn1++Zn1 (Zmk at_ (sl.getD i sl0)):=by
 rw[A7 hi,B5,C8,show sl.getD i sl0=sl[i] from by simp[List.getD,hi]]
 simp only[D7,H0,E5,N7,G0]
theorem Zsm{l:Bl}{index over n fuel:Int}(h:(Zd l index 4 fuel).fs≠[]):Af l index over n fuel=((Ke (Zd l index 4 fuel)).1,(Ke (Zd l index 4 fuel)).2,[]):=if_pos h
theorem Zuc{l:Bl}{index over n fuel:Int}(h:(Zd l index 4 fuel).fs=[])(h2:(Zd l index 4 fuel).es.length≠bmI n):Af l index over n fuel=([index],7,[]):=by unfold Af;rw[if_neg (fun q=>q h),if_pos h2]
theorem Zua{l:Bl}{index over n fuel:Int}{i:Nat}(h:(Zd l index 4 fuel).fs=[])(h2:(Zd l index 4 fuel).es.length=bmI n)(hi:i<(Zd l index 4 fuel).es.length)(h3:((Zd l index 4 fuel).es.getD i Zo).1≠(i:Int)):Af l index over n fuel=([index],7,[]):=by unfold Af;rw[if_neg (fun q=>q h),if_neg (fun q=>q h2),if_pos (Zos hi h3)]
theorem Zhc{l:Bl}{index over n fuel:Int}(h:(Zd l index 4 fuel).fs=[])(h2:(Zd l index 4 fuel).es.length=bmI n)(h3:∀ i,i<(Zd l index 4 fuel).es.length→((Zd l index 4 fuel).es.getD i Zo).1=(i:Int)):Af l index over n fuel=Zrx l ((Zd l index 4 fuel).es.map Ziu) over n fuel:=by unfold Af;rw[if_neg (fun q=>q h),if_neg (fun q=>q h2),if_neg (by rw[Zia h3];decide)]
theorem Ztq{l:Bl}{index over n fuel:Int}(h:Qw l index≠0):Zcj l index over n fuel=([index],Qw l index,[]):=if_pos h
theorem Zsk{l:Bl}{index over n fuel:Int}(h:Qw l index=0)(h2:(We l index).length≠bmI n):Zcj l index over n fuel=([index],7,[]):=by unfold Zcj;rw[if_neg (fun q=>q h),if_pos h2]
theorem Zis{l:Bl}{index over n fuel:Int}(h:Qw l index=0)(h2:(We l index).length=bmI n):Zcj l index over n fuel=Zrx l ((We l index).map (Zmk index)) over n fuel:=by unfold Zcj;rw[if_neg (fun q=>q h),if_neg (fun q=>q h2)]
theorem Zcq(m:Nat)(Bi b:Nat)(pi:O0)(ni ci:Nat)(l:Bl)(px:O0)(cx:Nat)(X:List Plc)(over n fuel:Int)(w:World)(hm:X.length=m)(hI:ImgR Bi b pi ni ci l w)(hX:Sl w (.slice px m cx) m (X.flatMap Zn1))(hXn:m=bmI n)(hn:n≤1099511627776)(hfu:fuel≤1000000) :
 C0 63 #[P0 b,.slice px m cx,V0 over,V0 n,V0 fuel] w (OutP (Zrx l X over n fuel) w):=by
 subst hm;exact Zu8 Bi b pi ni ci l px cx X over n fuel w hI hX hXn hn hfu
theorem Sv(B b:Nat)(p:O0)(n c:Nat)(l:Bl)(no:Int)(w:World)(hI:ImgR B b p n c l w) :
 C0 64 #[P0 b,V0 no] w (fun e w' =>
 (Qw l no≠0∧∃ ty x,e=.returned (.tuple #[S0,.iface ty x])∧B3 w w'∧Kr w' (([no]:List Int).map some) (some (Qw l no)) (.iface ty x)) ∨
 (Qw l no=0∧∃ p c,e=.returned (.tuple #[.slice p (We l no).length c,.nilIface])∧B3 w w'∧w'.ownsRow w.heap.size 134 3 (.slice p (We l no).length c) (We l no).length ((We l no).flatMap Zxl))):=by
 refine(Zj0 B b p n c l no w hI).mono ?_
 rintro e W q
 rcases q with ⟨h,b,rfl,hb,hv⟩|⟨h,p,c,rfl,hb,ho⟩
 ·exact .inl ⟨h,_,_,rfl,hb,hv⟩
 ·refine .inr ⟨h,p,c,by rw[(Rt h).2],hb,?_⟩
  rw[(Rt h).2,(Rt h).1];exact ho
theorem Zrp(Bi b:Nat)(pi:O0)(ni ci:Nat)(l:Bl)(index over n fuel:Int)(w:World)(hI:ImgR Bi b pi ni ci l w)(hn:n≤1099511627776)(hfu:fuel≤1000000) :
 C0 21 #[P0 b,V0 index,V0 over,V0 n,V0 fuel] w (OutP (Af l index over n fuel) w):=by
 have i3:=Zmf hn
 refine zin 76 Tryz.func21 ?_
 refine xc 11 (Gg Bi b pi ni ci l index 4 fuel _ hfu (hI.below (B4 w))) ?_
 rintro e W1 g9
 rcases g9 with ⟨b0,pe,ce,pb,cb,pf,cf,f2,vw,rfl,b3,e3⟩|⟨b0,pe,ce,pb,nb,cb,dp,lk,pf,cf,rfl,b3,b1⟩
 ·refine xa 3 [S0,S0,V0 0,V0 0,S0] 126 fun b2 W2 n2=>?_
  refine xsv 0 n2.blk [.slice pe 0 ce,.slice pb 0 cb,V0 0,V0 0,.slice pf 0 cf] fun W3 u3 k3=>?_
  have g2:=n2.ge b3
  have c1:=(e3.below n2.below).only (Q1 (T:=[126]) u3 n2.blk Do) Do
  have hB:=u3.below (bln b3 n2.below) g2
  exact xe 20 (.tuple #[S0,.iface f2 (vw)]) (Gk (Zsm b0) (Zgi b0) hB c1)
 have f3:=At w.heap.size
 refine xa 3 [S0,S0,V0 0,V0 0,S0] 126 fun b4 W4 n4=>?_
 refine xsv 0 n4.blk [.slice pe ((Zd l index 4 fuel).es.length) ce,.slice pb nb cb,V0 dp,V0 lk,.slice pf 0 cf] fun W5 u5 k5=>?_
 have g4:=n4.ge b3
 refine xd 15 .z ?_
 have c3:=k5.below (Za W5)
 refine xb (.e [0] 1) 0 c3 ?_
 refine xr (.o [2,3] 4) (En n _ hn) fun W6 d1=>?_
 refine xin (.r [5] 2) (↑((Zd l index 4 fuel).es.length):Int) (↑(bmI n):Int) (fun g3=>?_) (fun g3=>?_)
 ·have g1:(Zd l index 4 fuel).es.length≠bmI n:=by omega
  refine xc 4 (args:=#[V0 index,.iface 50 (V0 7)]) (Qo index 7 [] _ _ rfl) ?_
  rintro _ W8 ⟨f4,v8,rfl,f7,e4⟩
  have hB:=bln (bln (bln (u5.below (bln b3 n4.below) g4) (Za W5)) d1) f7
  exact xe 6 (.tuple #[S0,.iface f4 (v8)]) (Gk (Zuc b0 g1) Do hB e4)
 have a6:(Zd l index 4 fuel).es.length=bmI n:=by omega
 have b6:=c3.below d1
 refine xb 11 0 b6 ?_
 have c8:=Zb (Zb (u5.own2 (Zb (Zf b1 f3) n4.below) n4.blk Do) (Za W5)) d1
 have hB:=bln (bln (u5.below (bln b3 n4.below) g4) (Za W5)) d1
 refine zl 5 76 (fun zm f9 V=>∃ (i:Nat) (p:O0) (c:Nat),f9=[(0,P0 b),(1,V0 index),(2,V0 over),(3,V0 n),(4,V0 fuel),(14,.slice p i c),(39,.slice pe ((Zd l index 4 fuel).es.length) ce),(40,V0 (↑((Zd l index 4 fuel).es.length):Int)),(41,V0 (i:Int))]∧zm=(Zd l index 4 fuel).es.length-((i:Int)).toNat∧B3 w V∧Blk V b4 ([.slice pe ((Zd l index 4 fuel).es.length) ce,.slice pb nb cb,V0 dp,V0 lk,.slice pf 0 cf]) 126∧V.ownsRow w.heap.size 132 3 (.slice pe (Zd l index 4 fuel).es.length ce) (Zd l index 4 fuel).es.length ((Zd l index 4 fuel).es.flatMap Kd)∧V.ownsRow w.heap.size 138 5 (.slice p i c) i ((((Zd l index 4 fuel).es.take i).map Ziu).flatMap Zn1)∧i≤(Zd l index 4 fuel).es.length∧(∀ j,j<i→((Zd l index 4 fuel).es.getD j Zo).1=(j:Int))) ⟨0,none,0,rfl,rfl,hB,b6,c8,A5 _ _ _ _,A3 _,?_⟩ ?_
 ·exact fun j hj=>absurd hj M0
 rintro _ _ W9 ⟨i,p,c,rfl,rfl,a0,c2,b1,ho,hi,d5⟩ J9 f5 r9
 refine xid 6 ((i:Int)<(↑((Zd l index 4 fuel).es.length):Int)) (fun e9=>?_) (fun e9=>?_)
 ·refine xx 7 _ ((Zd l index 4 fuel).es.length) i 3 (Sts.cell (f:=Kd) (Zg b1) Ql Zo (k:=i) (i:=0) M0 rfl).1 ?_
  refine xlv 0 (Sts.rp (k:=i) (Zg b1) Ql Zo M0 Do) ?_
  refine xa 0 [V0 0,.string ⟨#[]⟩,V0 0] 132 fun i0 h9 a3=>?_
  have f0:=a3.ge a0
  have a5:=Zu b1 a3
  refine xsv 1 a3.blk [V0 (((Zd l index 4 fuel).es.getD i Zo).1),.string ⟨(((Zd l index 4 fuel).es.getD i Zo).2.1).toArray⟩,V0 (((Zd l index 4 fuel).es.getD i Zo).2.2)] fun h3 b8 e1=>?_
  refine xb 6 0 e1 ?_
  refine xin 4 (((Zd l index 4 fuel).es.getD i Zo).1) (i:Int) (fun e8=>?_) (fun e8=>?_)
  ·refine xc 4 (args:=#[V0 index,.iface 50 (V0 7)]) (Qo index 7 [] _ _ rfl) ?_
   rintro _ i2 ⟨e5,g7,rfl,e2,e4⟩
   have d6:=bln (b8.below (bln a0 a3.below) f0) e2
   exact xe 11 (.tuple #[S0,.iface e5 (g7)]) (Gk (Zua b0 a6 (i:=i) M0 (by assumption)) Do d6 e4)
  refine xb 5 1 e1 ?_
  refine xr 0 (args:=#[.string ⟨(((Zd l index 4 fuel).es.getD i Zo).2.1).toArray⟩]) (Pz ((Zd l index 4 fuel).es.getD i Zo).2.1 _ (Js _ _ _ _ i M0)) fun h5 a2=>?_
  refine xa 3 [V0 0,V0 0,V0 0] 134 fun h6 h0 a1=>?_
  have c0:=bln (b8.below (bln a0 a3.below) f0) a2
  have g6:=a1.ge c0
  refine xsv 0 a1.blk [V0 (↑((Xs Ya ((Zd l index 4 fuel).es.getD i Zo).2.1).getD 0 0):Int),V0 (↑((Xs Ya ((Zd l index 4 fuel).es.getD i Zo).2.1).getD 1 0):Int),V0 (↑((Xs Ya ((Zd l index 4 fuel).es.getD i Zo).2.1).getD 2 0):Int)] fun i1 b7 g5=>?_
  refine xlv 5 g5.rp ?_
  have d0:=b7.blkT ((e1.below a2).below a1.below) a1.blk Do
  refine xb 1 2 d0 ?_
  refine xbs 2 1 [V0 (↑((Xs Ya ((Zd l index 4 fuel).es.getD i Zo).2.1).getD 0 0):Int),V0 (↑((Xs Ya ((Zd l index 4 fuel).es.getD i Zo).2.1).getD 1 0):Int),V0 (↑((Xs Ya ((Zd l index 4 fuel).es.getD i Zo).2.1).getD 2 0):Int),V0 (((Zd l index 4 fuel).es.getD i Zo).2.2),V0 (Xn Ya ((Zd l index 4 fuel).es.getD i Zo).2.1)] 138 fun h7 h1 a8=>?_
  have c7:=b7.below (bln c0 a1.below) g6
  have h2:=a8.ge c7
  have b9:=b7.own2 (Zb (Zb (b8.own2 (Zb ho a3.below) a3.blk Do) a2) a1.below) a1.blk Do
  have e7:=Zu b9 a8
  have a7:=Zb b9 a8.below
  have c4:=bln c7 a8.below
  refine xbi 0 fun _ _ _ _ zJ zQ zo zx zy zK=>Xi (m:=1) (news:=[V0 (↑((Xs Ya ((Zd l index 4 fuel).es.getD i Zo).2.1).getD 0 0):Int),V0 (↑((Xs Ya ((Zd l index 4 fuel).es.getD i Zo).2.1).getD 1 0):Int),V0 (↑((Xs Ya ((Zd l index 4 fuel).es.getD i Zo).2.1).getD 2 0):Int),V0 (((Zd l index 4 fuel).es.getD i Zo).2.2),V0 (Xn Ya ((Zd l index 4 fuel).es.getD i Zo).2.1)]) (.agg #[V0 0,V0 0,V0 0,V0 0,V0 0]) 5 40 (i+1) (((((Zd l index 4 fuel).es.take (i+1)).map Ziu).flatMap Zn1)) zo Tryz.underlying130 K0 rfl Do zx a7 zy (a8.blk.sl 1 1 Do Do) rfl (by simp[Value.oneCell']) (by unfold maxLen;omega) M0 c4.size (rfl) (by rw[Zsx M0];rfl) fun g0 g8 h4 f1 c6 d3=>?_
  refine zK _ _ ?_
  refine xwm 5 ((i:Int)+1) (↑(i+1):Int) ?_
  have e6:=c4.trans d3
  have a4:=((b7.blkT (((b8.blkT (c2.below a3.below) a3.blk Do).below a2).below a1.below) a1.blk Do).below a8.below).grown c6 a7 Do
  have c5:=Xe (Zb (b7.own2 (Zb (Zb (b8.own3 (Zb b1 a3.below) a5) a2) a1.below) a1.blk Do) a8.below) c6 a7 Do
  exact ze 2 (f5 _ _ _ ⟨i+1,_,_,rfl,rfl,e6,a4,c5,f1,by omega,fun j hj=>(G2 j i).elim (d5 j) (fun q=>by obtain rfl:j=i:=M0;omega)⟩ M0)
 have d2:i=(Zd l index 4 fuel).es.length:=by omega
 have d9:=Zg ho
 rw[d2,C1 (At _)] at d9
 rw[←d2] at d9
 refine xc 12 (Zcq i Bi b pi ni ci l p c ((Zd l index 4 fuel).es.map Ziu) over n fuel _ (by rw[A6];exact d2.symm) (hI.below a0) d9 (d2.trans a6) hn hfu) ?_
 rintro e h8 d4
 rcases d4 with ⟨d7,f6,va,rfl,a9,e3⟩|⟨d7,p9,c9,rfl,a9,f8⟩
 ·have d8:=bln a0 a9
  refine xe 7 (.tuple #[S0,.iface f6 (va)]) ?_
  rw[Zhc b0 a6 (fun j hj=>d5 j M0)]
  exact .inl ⟨d7,_,_,rfl,d8,e3⟩
 have e0:=bln a0 a9
 have b5:=Zf f8 a0.size
 refine xe 7 (.tuple #[.slice p9 ((Zrx l ((Zd l index 4 fuel).es.map Ziu) over n fuel).2.2.length) c9,.nilIface]) ?_
 rw[Zhc b0 a6 (fun j hj=>d5 j M0)]
 exact .inr ⟨d7,_,_,rfl,e0,b5⟩
theorem Zoe(Bi b:Nat)(pi:O0)(ni ci:Nat)(l:Bl)(index over n fuel:Int)(w:World)(hI:ImgR Bi b pi ni ci l w)(hn:n≤1099511627776)(hfu:fuel≤1000000) :
 C0 22 #[P0 b,V0 index,V0 over,V0 n,V0 fuel] w (OutP (Zcj l index over n fuel) w):=by
 have e5:=Zmf hn
 refine zin 55 Tryz.func22 ?_
 refine xc 10 (Sv Bi b pi ni ci l index _ (hI.below (B4 w))) ?_
 rintro e W1 d3
 rcases d3 with ⟨a5,e2,vw,rfl,b3,c2⟩|⟨a5,ps,cs,rfl,b3,a4⟩
 ·exact xe 24 (.tuple #[S0,.iface e2 (vw)]) (Gk (Ztq a5) a5 b3 c2)
 have c8:=At w.heap.size
 refine xr 23 (En n _ hn) fun W2 b5=>?_
 refine xin 3 (↑((We l index).length):Int) (↑(bmI n):Int) (fun e4=>?_) (fun e4=>?_)
 ·have d9:(We l index).length≠bmI n:=by omega
  refine xc 4 (args:=#[V0 index,.iface 50 (V0 7)]) (Qo index 7 [] _ _ rfl) ?_
  rintro _ W4 ⟨d2,v4,rfl,d6,e1⟩
  have hB:=bln (bln b3 b5) d6
  exact xe 6 (.tuple #[S0,.iface d2 (v4)]) (Gk (Zsk a5 d9) Do hB e1)
 have a3:(We l index).length=bmI n:=by omega
 have a7:=Zb (Zf a4 c8) b5
 have hB:=bln b3 b5
 refine zl 16 55 (fun zm d5 V=>∃ (i:Nat) (p:O0) (c:Nat),d5=[(0,P0 b),(1,V0 index),(2,V0 over),(3,V0 n),(4,V0 fuel),(10,S0),(11,.nilIface),(14,.slice p i c),(34,.slice ps ((We l index).length) cs),(35,V0 (↑((We l index).length):Int)),(36,V0 (i:Int))]∧zm=(We l index).length-((i:Int)).toNat∧B3 w V∧V.ownsRow w.heap.size 134 3 (.slice ps (We l index).length cs) (We l index).length ((We l index).flatMap Zxl)∧V.ownsRow w.heap.size 138 5 (.slice p i c) i ((((We l index).take i).map (Zmk index)).flatMap Zn1)∧i≤(We l index).length) ⟨0,none,0,rfl,rfl,hB,a7,A5 _ _ _ _,A3 _⟩ ?_
 rintro _ _ W5 ⟨i,p,c,rfl,rfl,a0,a4,ho,hi⟩ J5 d1 r5
 refine xid 6 ((i:Int)<(↑((We l index).length):Int)) (fun d8=>?_) (fun d8=>?_)
 ·refine xx 6 _ ((We l index).length) i 3 (Sts.cell (f:=Zxl) (Zg a4) Au sl0 (k:=i) (i:=0) M0 rfl).1 ?_
  refine xlv 0 (Sts.rp (k:=i) (Zg a4) Au sl0 M0 Do) ?_
  refine xa 0 [V0 0,V0 0,V0 0] 134 fun b7 W7 n7=>?_
  have g7:=n7.ge a0
  have a1:=Zu a4 n7
  refine xsv 0 n7.blk [V0 (↑((We l index).getD i sl0).1:Int),V0 (↑((We l index).getD i sl0).2.1:Int),V0 (↑((We l index).getD i sl0).2.2:Int)] fun W8 u8 k8=>?_
  refine xlv 4 k8.rp ?_
  refine xbs 2 1 [V0 (↑((We l index).getD i sl0).1:Int),V0 (↑((We l index).getD i sl0).2.1:Int),V0 (↑((We l index).getD i sl0).2.2:Int),V0 index,V0 0] 138 fun b9 W9 n9=>?_
  have b0:=u8.below (bln a0 n7.below) g7
  have g9:=n9.ge b0
  have a8:=u8.own2 (Zb ho n7.below) n7.blk Do
  have c7:=Zu a8 n9
  have b1:=Zb a8 n9.below
  have a9:=bln b0 n9.below
  refine xbi 0 fun _ _ _ _ zJ zQ zo zx zy zK=>Xi (m:=1) (news:=[V0 (↑((We l index).getD i sl0).1:Int),V0 (↑((We l index).getD i sl0).2.1:Int),V0 (↑((We l index).getD i sl0).2.2:Int),V0 index,V0 0]) (.agg #[V0 0,V0 0,V0 0,V0 0,V0 0]) 5 40 (i+1) (((((We l index).take (i+1)).map (Zmk index)).flatMap Zn1)) zo Tryz.underlying130 K0 rfl Do zx b1 zy (n9.blk.sl 1 1 Do Do) rfl (by simp[Value.oneCell']) (by unfold maxLen;omega) M0 a9.size (rfl) (by rw[Zvz M0];rfl) fun e0 d4 e7 d0 c4 b8=>?_
  refine zK _ _ ?_
  refine xwm 5 ((i:Int)+1) (↑(i+1):Int) ?_
  have c0:=a9.trans b8
  have b2:=Xe (Zb (u8.own3 (Zb a4 n7.below) a1) n9.below) c4 b1 Do
  exact ze 2 (d1 _ _ _ ⟨i+1,_,_,rfl,rfl,c0,b2,d0,by omega⟩ M0)
 have b4:i=(We l index).length:=by omega
 have c1:=Zg ho
 rw[b4,C1 (At _)] at c1
 rw[←b4] at c1
 refine xc 12 (Zcq i Bi b pi ni ci l p c ((We l index).map (Zmk index)) over n fuel _ (by rw[A6];exact b4.symm) (hI.below a0) c1 (b4.trans a3) hn hfu) ?_
 rintro e e6 c5
 rcases c5 with ⟨c6,d7,va,rfl,a2,c2⟩|⟨c6,p9,c9,rfl,a2,e3⟩
 ·have c3:=bln a0 a2
  refine xe 7 (.tuple #[S0,.iface d7 (va)]) ?_
  rw[Zis a5 a3]
  exact .inl ⟨c6,_,_,rfl,c3,c2⟩
 have b6:=bln a0 a2
 have a6:=Zf e3 a0.size
 refine xe 7 (.tuple #[.slice p9 ((Zrx l ((We l index).map (Zmk index)) over n fuel).2.2.length) c9,.nilIface]) ?_
 rw[Zis a5 a3]
 exact .inr ⟨c6,_,_,rfl,b6,a6⟩
def asP (ak:Int):Int:=if ak=6 then -1 else if ak=7 then -2 else ak
structure RcM(B Bi b bx br:Nat)(pi:Option Addr)(ni ci:Nat)(l:List UInt8)(g n:Nat)(cs:List Nat)(w:World):Prop where
 hI:ImgR Bi b pi ni ci l w
 kx:Blk w bx [.pointer (some ⟨b,0,none⟩),.pointer (some ⟨br,0,none⟩)] 150
 kr:Blk w br [.slice (some ⟨g,0,none⟩) n n] 232
 hc:w.ownsRow B 3 1 (.slice (some ⟨g,0,none⟩) n n) n (cs.map nv)
 hn:cs.length=n
 hB:B≤w.heap.size
theorem RcM.move{B Bi b bx br:Nat}{pi:O0}{ni ci:Nat}{l:Bl}{g n:Nat}{cs cs':List Nat}{w W:World}(h:RcM B Bi b bx br pi ni ci l g n cs w)(hb:Below B w W)(hO:Ze [3] w W)(hI:ImgR Bi b pi ni ci l W)(hc:W.ownsRow B 3 1 (.slice (S1 g) n n) n (cs'.map nv))(hn:cs'.length=n):RcM B Bi b bx br pi ni ci l g n cs' W:=⟨hI,h.kx.only hO Do,h.kr.only hO Do,hc,hn,N0 h.hB hb.size⟩
def Bp(B g n:Nat)(o:Cx)(w:World)(e:Ending)(w':World):Prop :=
 (o.2.2≠0∧∃ ty v,e=.returned (.iface ty v)∧Below B w w'∧Ze [3] w w'∧Kr w' (o.2.1.map some) (some o.2.2) (.iface ty v)) ∨
 (o.2.2=0∧e=.returned .nilIface∧Below B w w'∧Ze [3] w w'∧w'.ownsRow B 3 1 (.slice (S1 g) n n) n (o.1.map nv))
theorem Yl{B g n:Nat}{o:Cx}{c:List Nat}{bl:List Int}{er:Int}{w W:World}{ty:TypeId}{v:Value}(h:o=(c,bl,er))(her:er≠0)(hb:Below B w W)(hO:Ze [3] w W)(hv:Kr W (bl.map some) (some er) (.iface ty v)):Bp B g n o w (.returned (.iface ty v)) W:=by
 subst h;exact .inl ⟨her,ty,v,rfl,hb,hO,hv⟩
theorem Jg{B g n:Nat}{o:Cx}{c:List Nat}{w W:World}(h:o.2.2=0)(h1:o.1=c)(hb:Below B w W)(hO:Ze [3] w W)(hc:W.ownsRow B 3 1 (.slice (S1 g) n n) n (c.map nv)):Bp B g n o w (.returned .nilIface) W:=by
 subst h1;exact .inr ⟨h,rfl,hb,hO,hc⟩
def Bg(d:Nat)(B Bi b bx br:Nat)(pi:O0)(ni ci:Nat)(l:Bl)(g n:Nat):Prop:=∀ (cs:List Nat) (no ak:Int) (w:World),RcM B Bi b bx br pi ni ci l g n cs w→zer cs<d→phi cs≤1000000000000→1≤ak→ak≤7 →
 C0 67 #[P0 bx,V0 no,V0 (asP ak)] w (Bp B g n (Xp l d cs (no,ak,0)) w)
def Vf(f:List Nat→Rx→Cx)(cs:List Nat)(L:List Rx)(c:List Nat):Prop:=(Jw f cs L).2.2=0∧(Jw f cs L).1=c
theorem Vf.nil(f:List Nat→Rx→Cx)(cs:List Nat):Vf f cs [] cs:=⟨rfl,rfl⟩
theorem Vf.next{f:List Nat→Rx→Cx}{cs c:List Nat}{L:List Rx}(h:Vf f cs L c){x:Rx}(h2:(f c x).2.2=0):Vf f cs (L++[x]) (f c x).1:=by
 have e:Jw f cs (L++[x])=Jw f (Jw f cs L).1 [x]:=by rw[Pt,if_neg (fun q=>q h.1)]
 rw[h.2,Ju,if_neg (fun q=>q h2)] at e
 unfold Vf
 rw[e];exact⟨rfl,rfl⟩
theorem Vf.bad{f:List Nat→Rx→Cx}{cs c:List Nat}{L:List Rx}(h:Vf f cs L c){x:Rx}(h2:(f c x).2.2≠0)(r:List Rx):Jw f cs (L++x::r)=f c x:=by
 rw[Pt,if_neg (fun q=>q h.1),h.2,Ju,if_pos h2]
theorem Vf.well{l:Bl}{d:Nat}{cs c:List Nat}{L:List Rx}(h:Vf (Xp l d) cs L c):c.length=cs.length∧zer c≤zer cs∧phi c≤phi cs+L.length:=by
 have hw:=Sf (Mr l d) L cs
 rw[←h.2]
 exact⟨hw.len,hw.zer,hw.phi⟩
theorem slt_take{L:List (Nat×Nat×Nat)}{i:Nat}(hi:i<L.length):(L.take (i+1)).map Lo=(L.take i).map Lo++[Lo (L.getD i (0,0,0))]:=by
 rw[A7 hi,B5,show L.getD i (0,0,0)=L[i] from by simp[List.getD,hi]];rfl
theorem Zwb{L:List (Nat×Nat×Nat)}{i:Nat}(hi:i<L.length):L.map Lo=(L.take i).map Lo++Lo (L.getD i (0,0,0))::(L.drop (i+1)).map Lo:=by
 rw[show L.getD i (0,0,0)=L[i] from by simp[List.getD,hi]]
 rw[←D7,←B5,←E8 hi,F9]
theorem Ij(d:Nat)(B Bi b bx br:Nat)(pi:O0)(ni ci:Nat)(l:Bl)(g n:Nat)(hR:Bg d B Bi b bx br pi ni ci l g n)(cs:List Nat)(B0:Nat)(pl:O0)(cl:Nat)(L:List (Nat×Nat×Nat))(w:World)(hM:RcM B Bi b bx br pi ni ci l g n cs w)(hz:zer cs<d)(hph:phi cs≤999999998000)(hs:w.ownsRow B0 134 3 (.slice pl L.length cl) L.length (L.flatMap Zxl))(hm2:L.length≤255) :
 C0 187 #[P0 bx,.slice pl L.length cl] w (Bp B g n (Jw (Xp l d) cs (L.map Lo)) w):=by
 have hc:=hM.hc
 have kx:=hM.kx
 have kr:=hM.kr
 have hI:=hM.hI
 have hBw:=hM.hB
 have hn:=hM.hn
 refine zin 22 Tryz.func187 ?_
 have hB:=Below.refl B w
 refine zl 14 22 (fun zm zkv V=>∃ (i:Nat) (c:List Nat),zkv=[(0,P0 bx),(8,.slice pl L.length cl),(9,V0 (L.length:Int)),(10,V0 (i:Int))]∧zm=L.length-((i:Int)).toNat∧Below B w V∧Ze [3] w V∧Blk V bx ([P0 b,P0 br]) 150∧Blk V br ([.slice (S1 g) n n]) 232∧V.ownsRow B0 134 3 (.slice pl L.length cl) L.length (L.flatMap Zxl)∧V.ownsRow B 3 1 (.slice (S1 g) n n) n (c.map nv)∧ImgR Bi b pi ni ci l V∧i≤L.length∧Vf (Xp l d) cs ((L.take i).map Lo) c) ⟨0,cs,rfl,rfl,hB,(Ze.refl _ _),kx,kr,hs,hc,hI,A3 _,Vf.nil _ _⟩ ?_
 rintro _ _ W1 ⟨i,c,rfl,rfl,hB_1,hO_1,k1_bx,k1_br,hs,hc,hI,hi,hf⟩ J1 hJ1 r1
 obtain⟨hw1,hw2,hw3⟩:=hf.well
 rw[A6,E3] at hw3
 have hw4:=K3 i L.length
 refine xid 6 ((i:Int)<(L.length:Int)) (fun hc2=>?_) (fun hc2=>?_)
 ·refine xx 6 _ L.length i 3 (Sts.cell (f:=Zxl) (Zg hs) Au (0,0,0) (k:=i) (i:=0) M0 rfl).1 ?_
  refine xlv 0 (Sts.rp (k:=i) (Zg hs) Au (0,0,0) M0 Do) ?_
  refine xa 0 [V0 0,V0 0,V0 0] 134 fun b3 W3 n3=>?_
  have g3:=n3.ge0 hB_1
  have r3_hs:=Zu hs n3
  refine xsv 0 n3.blk [V0 (↑(L.getD i (0,0,0)).1:Int),V0 (↑(L.getD i (0,0,0)).2.1:Int),V0 (↑(L.getD i (0,0,0)).2.2:Int)] fun W4 u4 k4=>?_
  refine xb 6 0 k4 ?_
  have hI'1:=(hI.below n3.below).only (Q1 (T:=[134]) u4 n3.blk Do) Do
  have hc'1:=u4.own2 (Zb hc n3.below) n3.blk Do
  have hB'1:=u4.below (blB hB_1 hBw n3.below) (N0 hBw g3)
  have hO'1:=(Ze.upd_new (hO_1.trans (Q0 n3.below)) u4 g3)
  refine xc 0 (hR c (↑(L.getD i (0,0,0)).1:Int) 7 _ (hM.move hB'1 hO'1 hI'1 hc'1 M0) M0 M0 Do Do) ?_
  rintro e W5 hq5
  rcases hq5 with ⟨hre,tyr,vr,rfl,hb5,hO5,hv9⟩|⟨hre,rfl,hb5,hO5,hc⟩
  ·have hB'2:=hB'1.trans hb5
   have hO'2:=hO'1.trans hO5
   refine xe 22 (.iface tyr (vr)) ?_
   have e9:=hf.bad (x:=Lo (L.getD i (0,0,0))) hre ((L.drop (i+1)).map Lo)
   rw[←Zwb M0] at e9
   exact Yl (c:=(Xp l d c (Lo (L.getD i (0,0,0)))).1) e9 hre hB'2 hO'2 hv9
  refine xwm 14 ((i:Int)+1) (↑(i+1):Int) ?_
  have hB'3:=hB'1.trans hb5
  have hO'3:=hO'1.trans hO5
  have k1_bx'1:=(u4.blkT (k1_bx.below n3.below) n3.blk Do).only hO5 Do
  have k1_br'1:=(u4.blkT (k1_br.below n3.below) n3.blk Do).only hO5 Do
  have hs'1:=Zi (u4.own3 (Zb hs n3.below) r3_hs) hO5 Do
  have hI'2:=hI'1.only hO5 Do
  exact ze 2 (hJ1 _ _ _ ⟨i+1,_,rfl,rfl,hB'3,hO'3,k1_bx'1,k1_br'1,hs'1,hc,hI'2,by omega,(by have q:=hf.next (x:=Lo (L.getD i (0,0,0))) hre;rwa [←slt_take M0] at q)⟩ M0)
 refine xe 11 .nilIface ?_
 obtain rfl:i=L.length:=by omega
 rw[K2] at hf
 exact Jg hf.1 hf.2 hB_1 hO_1 hc
theorem asP_id{t:Int}(h5:t≤5):asP t=t:=by unfold asP;rw[if_neg M0,if_neg M0]
theorem Bg.node{d B Bi b bx br:Nat}{pi:O0}{ni ci:Nat}{l:Bl}{g n:Nat}(hR:Bg d B Bi b bx br pi ni ci l g n){cs:List Nat}{no t:Int}{w:World}(hM:RcM B Bi b bx br pi ni ci l g n cs w)(hz:zer cs<d)(hph:phi cs≤1000000000000)(h1:1≤t)(h5:t≤5) :
 C0 67 #[P0 bx,V0 no,V0 t] w (Bp B g n (Xp l d cs (no,t,0)) w):=by
 have:=hR cs no t w hM hz hph h1 M0
 rwa [asP_id h5] at this
def Dk(l:Bl)(d:Nat)(cs:List Nat)(no t:Int)(leaf:Bool)(v:Bl):Cx:=if Cz t leaf then(cs,[],0) else Xp l d cs (Zfj no t leaf v)
theorem Ztt{l:Bl}{d:Nat}{cs:List Nat}{no t:Int}{leaf:Bool}{v:Bl}(h:leaf=true)(h1:t≠1)(h4:t≠4):Dk l d cs no t leaf v=(cs,[],0):=if_pos ⟨h,h1,h4⟩
theorem Zho{l:Bl}{d:Nat}{cs:List Nat}{no t:Int}{leaf:Bool}{v:Bl}(h:leaf=true)(h4:t=4)(he:Xn Ya v=0):Dk l d cs no t leaf v=Xp l d cs ((((Xs Ya v).getD 0 0):Nat),7,0):=by
 unfold Dk
 rw[if_neg (fun q=>q.2.2 h4)]
 unfold Zfj
 rw[if_pos ⟨h,h4⟩,if_neg (fun q=>q he)]
theorem Sn{l:Bl}{d:Nat}{cs:List Nat}{no t:Int}{leaf:Bool}{v:Bl}(hd:0<d)(h:leaf=true)(h4:t=4)(he:Xn Ya v≠0):Dk l d cs no t leaf v=(cs,[no],Xn Ya v):=by
 obtain⟨d,rfl⟩:∃ d',d=d'+1:=⟨d-1,by omega⟩
 unfold Dk
 rw[if_neg (fun q=>q.2.2 h4)]
 unfold Zfj
 rw[if_pos ⟨h,h4⟩,if_pos he]
 exact if_pos he
theorem Fl{l:Bl}{d:Nat}{cs:List Nat}{no t:Int}{leaf:Bool}{v:Bl}(h:leaf=true→t=1)(he:Qn v=0):Dk l d cs no t leaf v=Xp l d cs ((Hv v:Nat),(if leaf then 2 else t),0):=by
 unfold Dk
 rw[if_neg (fun q=>q.2.1 (h q.1))]
 unfold Zfj
 rw[if_neg (fun q=>by have:=h q.1;omega),if_neg (fun q=>q he)]
theorem Sh{l:Bl}{d:Nat}{cs:List Nat}{no t:Int}{leaf:Bool}{v:Bl}(hd:0<d)(h:leaf=true→t=1)(he:Qn v≠0):Dk l d cs no t leaf v=(cs,[no],Qn v):=by
 obtain⟨d,rfl⟩:∃ d',d=d'+1:=⟨d-1,by omega⟩
 unfold Dk
 rw[if_neg (fun q=>q.2.1 (h q.1))]
 unfold Zfj
 rw[if_neg (fun q=>by have:=h q.1;omega),if_pos he]
 exact if_pos he
theorem Zxf(d:Nat)(B Bi b bx br:Nat)(pi:O0)(ni ci:Nat)(l:Bl)(g n:Nat)(hR:Bg d B Bi b bx br pi ni ci l g n)(cs:List Nat)(no t:Int)(leaf:Bool)(kp vp:O0)(kn kc vn vc:Nat)(v:Bl)(w:World)(hM:RcM B Bi b bx br pi ni ci l g n cs w)(hz:zer cs<d)(hph:phi cs≤999999999000)(ht1:1≤t)(ht5:t≤5)(hv:v.length≤1000) :
 C0 188 #[P0 bx,V0 no,.agg #[V0 t,.bool leaf,.slice kp kn kc,.slice vp vn vc],.string ⟨v.toArray⟩] w (Bp B g n (Dk l d cs no t leaf v) w):=by
 have hc:=hM.hc
 have kx:=hM.kx
 have kr:=hM.kr
 have hI:=hM.hI
 have a0:=hM.hB
 have hn:=hM.hn
 refine zin 59 Tryz.func188 ?_
 refine xa 2 [V0 t,.bool leaf,.slice kp kn kc,.slice vp vn vc] 181 fun b1 W1 n1=>?_
 refine xb 12 0 n1.blk ?_
 refine xb 18 1 n1.blk ?_
 refine xg 1 [18,19] leaf (fun b3=>?_) (fun b3=>?_)
 ·refine xb 1 0 n1.blk ?_
  refine xie 5 t (4:Int) (fun f1=>?_) (fun f1=>?_)
  ·refine xr 9 (Pz v _ hv) fun W4 a7=>?_
   refine xa 3 [V0 0,V0 0,V0 0] 134 fun b5 W5 n5=>?_
   refine xsv 0 n5.blk [V0 (↑((Xs Ya v).getD 0 0):Int),V0 (↑((Xs Ya v).getD 1 0):Int),V0 (↑((Xs Ya v).getD 2 0):Int)] fun W6 u6 k6=>?_
   have g5:=n5.ge0 (blB (blB (Below.refl B w) a0 n1.below) a0 a7)
   refine xb 5 0 k6 ?_
   refine xin 22 (Xn Ya v) (0:Int) (fun e7=>?_) (fun e7=>?_)
   ·refine xc 5 (args:=#[V0 no,.iface 50 (V0 (Xn Ya v))]) (Qo no (Xn Ya v) [] _ _ rfl) ?_
    rintro _ W8 ⟨e6,v8,rfl,e5,a4⟩
    have hB:=blB (u6.below (blB (blB (blB (Below.refl B w) a0 n1.below) a0 a7) a0 n5.below) (N0 a0 g5)) a0 e5
    have hO:=(Ze.upd_new (((show Ze [3] w _ from(Q0 n1.below)).trans (Q0 a7)).trans (Q0 n5.below)) u6 g5).trans (Q0 e5)
    refine xe 5 (.iface e6 (v8)) ?_
    first|exact Yl (Sn M0 (by assumption) M0 (by assumption)) (by assumption) hB hO a4|exact Yl (Sh M0 (fun q=>by first|omega|exact absurd (q.symm.trans (show leaf=false by assumption)) Do) (by assumption)) (by assumption) hB hO a4
   have d3:=(((hI.below n1.below).below a7).below n5.below).only (Q1 (T:=[134]) u6 n5.blk Do) Do
   have d0:=u6.own2 (Zb (Zb (Zb hc n1.below) a7) n5.below) n5.blk Do
   have hB:=u6.below (blB (blB (blB (Below.refl B w) a0 n1.below) a0 a7) a0 n5.below) (N0 a0 g5)
   have hO:=(Ze.upd_new (((show Ze [3] w _ from(Q0 n1.below)).trans (Q0 a7)).trans (Q0 n5.below)) u6 g5)
   refine xc 7 (hR cs (↑((Xs Ya v).getD 0 0):Int) 7 _ (hM.move hB hO d3 d0 M0) hz M0 Do Do) ?_
   rintro e W9 e8
   rcases e8 with ⟨a3,b2,vr,rfl,e3,d7,b6⟩|⟨a3,rfl,e3,d7,hc⟩
   ·have d2:=hB.trans e3
    have b7:=hO.trans d7
    refine xe 4 (.iface b2 (vr)) ?_
    have e9:=(show Dk l d cs no t leaf v=_ from Zho (by assumption) M0 M0)
    exact Yl (c:=(Dk l d cs no t leaf v).1) (bl:=(Dk l d cs no t leaf v).2.1) (er:=(Dk l d cs no t leaf v).2.2) rfl (by rw[e9];exact a3) d2 b7 (by rw[e9];exact b6)
   have c7:=hB.trans e3
   have d1:=hO.trans d7
   refine xe 4 .nilIface ?_
   have e9:=(show Dk l d cs no t leaf v=_ from Zho (by assumption) M0 M0)
   exact Jg (by rw[e9];exact a3) (by rw[e9]) c7 d1 hc
  refine xb 6 1 n1.blk ?_
  refine xgk 1 [26,27] (show(leaf:Bool)=true from b3) ?_
  refine xb 1 0 n1.blk ?_
  refine xie 5 t (1:Int) (fun d8=>?_) (fun d8=>?_)
  ·refine xr 15 (Gr v _ hv) fun f6 a1=>?_
   refine xin 19 (Qn v) (0:Int) (fun d9=>?_) (fun d9=>?_)
   ·refine xc 5 (args:=#[V0 no,.iface 50 (V0 (Qn v))]) (Qo no (Qn v) [] _ _ rfl) ?_
    rintro _ f4 ⟨c4,f0,rfl,b4,a4⟩
    have hB:=blB (blB (blB (Below.refl B w) a0 n1.below) a0 a1) a0 b4
    have hO:=((show Ze [3] w _ from(Q0 n1.below)).trans (Q0 a1)).trans (Q0 b4)
    refine xe 5 (.iface c4 (f0)) ?_
    first|exact Yl (Sn M0 (by assumption) M0 (by assumption)) (by assumption) hB hO a4|exact Yl (Sh M0 (fun q=>by first|omega|exact absurd (q.symm.trans (show leaf=false by assumption)) Do) (by assumption)) (by assumption) hB hO a4
   have b9:=(hI.below n1.below).below a1
   have c5:=Zb (Zb hc n1.below) a1
   have hB:=blB (blB (Below.refl B w) a0 n1.below) a0 a1
   have hO:=(show Ze [3] w _ from(Q0 n1.below)).trans (Q0 a1)
   refine xc 7 (hR.node (cs:=cs) (no:=(↑(Hv v):Int)) (t:=2) (hM.move hB hO b9 c5 M0) hz M0 M0 M0) ?_
   rintro e f8 b8
   rcases b8 with ⟨a3,b2,vr,rfl,a9,a6,b6⟩|⟨a3,rfl,a9,a6,hc⟩
   ·have c9:=hB.trans a9
    have c0:=hO.trans a6
    refine xe 4 (.iface b2 (vr)) ?_
    have e9:=(show Dk l d cs no t leaf v=_ from(Fl (fun _=>by omega) M0).trans (by rw[if_pos (by assumption)]))
    exact Yl (c:=(Dk l d cs no t leaf v).1) (bl:=(Dk l d cs no t leaf v).2.1) (er:=(Dk l d cs no t leaf v).2.2) rfl (by rw[e9];exact a3) c9 c0 (by rw[e9];exact b6)
   have d5:=hB.trans a9
   have e4:=hO.trans a6
   refine xe 4 .nilIface ?_
   have e9:=(show Dk l d cs no t leaf v=_ from(Fl (fun _=>by omega) M0).trans (by rw[if_pos (by assumption)]))
   exact Jg (by rw[e9];exact a3) (by rw[e9]) d5 e4 hc
  refine xb 5 1 n1.blk ?_
  refine xk 4 (show(!leaf:Bool)=false from by rw[b3];rfl) ?_
  have d6:=Zb hc n1.below
  have hB:=blB (Below.refl B w) a0 n1.below
  have hO:=(show Ze [3] w _ from(Q0 n1.below))
  refine xe 21 .nilIface ?_
  have e9:Dk l d cs no t leaf v=(cs,[],0):=Ztt (by assumption) M0 M0
  exact Jg (by rw[e9]) (by rw[e9]) hB hO d6
 refine xb 14 1 n1.blk ?_
 refine xgk 1 [26,27] (show(leaf:Bool)=false from b3) ?_
 refine xb 13 1 n1.blk ?_
 refine xk 4 (show(!leaf:Bool)=true from by rw[b3];rfl) ?_
 refine xr 11 (Gr v _ hv) fun f3 a2=>?_
 refine xin 19 (Qn v) (0:Int) (fun e2=>?_) (fun e2=>?_)
 ·refine xc 5 (args:=#[V0 no,.iface 50 (V0 (Qn v))]) (Qo no (Qn v) [] _ _ rfl) ?_
  rintro _ f7 ⟨d4,f2,rfl,b0,a4⟩
  have hB:=blB (blB (blB (Below.refl B w) a0 n1.below) a0 a2) a0 b0
  have hO:=((show Ze [3] w _ from(Q0 n1.below)).trans (Q0 a2)).trans (Q0 b0)
  refine xe 5 (.iface d4 (f2)) ?_
  first|exact Yl (Sn M0 (by assumption) M0 (by assumption)) (by assumption) hB hO a4|exact Yl (Sh M0 (fun q=>by first|omega|exact absurd (q.symm.trans (show leaf=false by assumption)) Do) (by assumption)) (by assumption) hB hO a4
 have e0:=(hI.below n1.below).below a2
 have c1:=Zb (Zb hc n1.below) a2
 have hB:=blB (blB (Below.refl B w) a0 n1.below) a0 a2
 have hO:=(show Ze [3] w _ from(Q0 n1.below)).trans (Q0 a2)
 refine xc 7 (hR.node (cs:=cs) (no:=(↑(Hv v):Int)) (t:=t) (hM.move hB hO e0 c1 M0) hz M0 M0 M0) ?_
 rintro e f5 c2
 rcases c2 with ⟨a3,b2,vr,rfl,a5,a8,b6⟩|⟨a3,rfl,a5,a8,hc⟩
 ·have c6:=hB.trans a5
  have c8:=hO.trans a8
  refine xe 4 (.iface b2 (vr)) ?_
  have e9:=(show Dk l d cs no t leaf v=_ from(Fl (fun q=>absurd (q.symm.trans (show leaf=false by assumption)) Do) M0).trans (by rw[if_neg (fun q=>absurd (q.symm.trans (show leaf=false by assumption)) Do)]))
  exact Yl (c:=(Dk l d cs no t leaf v).1) (bl:=(Dk l d cs no t leaf v).2.1) (er:=(Dk l d cs no t leaf v).2.2) rfl (by rw[e9];exact a3) c6 c8 (by rw[e9];exact b6)
 have c3:=hB.trans a5
 have e1:=hO.trans a8
 refine xe 4 .nilIface ?_
 have e9:=(show Dk l d cs no t leaf v=_ from(Fl (fun q=>absurd (q.symm.trans (show leaf=false by assumption)) Do) M0).trans (by rw[if_neg (fun q=>absurd (q.symm.trans (show leaf=false by assumption)) Do)]))
 exact Jg (by rw[e9];exact a3) (by rw[e9]) c3 e1 hc
def Zfz(l:Bl)(d:Nat)(cs:List Nat)(no ak:Int):Cx:=if Zdn l no ak≠0 then(cs,[no],Zdn l no ak) else Jw (Xp l d) cs (Zfu l no ak)
theorem Zeq{l:Bl}{d:Nat}{cs:List Nat}{no ak e:Int}(he:Zdn l no ak=e)(h:e≠0):Zfz l d cs no ak=(cs,[no],e):=by subst he;exact if_pos h
theorem Zah{l:Bl}{d:Nat}{cs:List Nat}{no ak:Int}(h:Zdn l no ak=0):Zfz l d cs no ak=Jw (Xp l d) cs (Zfu l no ak):=if_neg (fun q=>q h)
theorem Zxi(l:Bl)(no:Int):Zdn l no 6=Qw l no:=if_pos rfl
theorem hasE_7(l:Bl)(no:Int):Zdn l no 7=Yi l no:=by unfold Zdn;rw[if_neg Do,if_pos rfl]
theorem Zuz{l:Bl}{no t:Int}(h5:t≤5):Zdn l no t=Yb l no t:=by unfold Zdn;rw[if_neg M0,if_neg M0]
theorem hasL_6(l:Bl)(no:Int):Zfu l no 6=(We l no).map Lo:=if_pos rfl
theorem hasL_7(l:Bl)(no:Int):Zfu l no 7=[]:=by unfold Zfu;rw[if_neg Do,if_pos rfl]
theorem hasL_n{l:Bl}{no t:Int}(h5:t≤5):Zfu l no t=nodX l no:=by unfold Zfu;rw[if_neg M0,if_neg M0]
theorem Zbq(d:Nat)(B Bi b bx br:Nat)(pi:O0)(ni ci:Nat)(l:Bl)(g n:Nat)(hR:Bg d B Bi b bx br pi ni ci l g n)(cs:List Nat)(w:World)(hM:RcM B Bi b bx br pi ni ci l g n cs w)(hz:zer cs<d)(hph:phi cs≤999999998000):C0 187 #[P0 bx,S0] w (fun e w'=>e=.returned .nilIface∧Below B w w'∧Ze [3] w w'∧w'.ownsRow B 3 1 (.slice (S1 g) n n) n (cs.map nv)):=by
 refine(Ij d B Bi b bx br pi ni ci l g n hR cs 0 none 0 [] w hM hz hph (A5 _ _ _ _) Do).mono ?_
 rintro e W q
 rcases q with ⟨h,_⟩|⟨_,h⟩
 ·exact absurd rfl h
 ·exact h
def Ad(l:Bl)(no:Int)(i:Nat):List Rx:=if Cz (Qy (inB l no)) (Yj (inB l no)) then [] else((Uf l no).take i).map (Zfj no (Qy (inB l no)) (Yj (inB l no)))
theorem Zp8(l:Bl)(no:Int):Ad l no 0=[]:=by unfold Ad;split<;>simp
theorem Zwr(l:Bl)(no:Int):Ad l no (Uf l no).length=nodX l no:=by unfold Ad nodX;rw[K2]
theorem Zqg{l:Bl}{no:Int}{d i:Nat}{cs c:List Nat}(hi:i<(Uf l no).length)(h:Vf (Xp l d) cs (Ad l no i) c)(h2:(Dk l d c no (Qy (inB l no)) (Yj (inB l no)) ((Uf l no).getD i [])).2.2=0) :
 Vf (Xp l d) cs (Ad l no (i+1)) (Dk l d c no (Qy (inB l no)) (Yj (inB l no)) ((Uf l no).getD i [])).1:=by
 unfold Ad at h ⊢
 unfold Dk at h2 ⊢
 by_cases hd:Cz (Qy (inB l no)) (Yj (inB l no))
 ·rw[if_pos hd] at h h2 ⊢
  rw[if_pos hd]
  exact h
 ·rw[if_neg hd] at h h2 ⊢
  rw[if_neg hd]
  rw[A7 hi,B5,D7,H0]
  rw[show(Uf l no).getD i []=(Uf l no)[i] from by simp[List.getD,hi]] at h2 ⊢
  exact h.next h2
theorem Zw5{l:Bl}{no:Int}{d i:Nat}{cs c:List Nat}(hi:i<(Uf l no).length)(h:Vf (Xp l d) cs (Ad l no i) c)(h2:(Dk l d c no (Qy (inB l no)) (Yj (inB l no)) ((Uf l no).getD i [])).2.2≠0) :
 Jw (Xp l d) cs (nodX l no)=Dk l d c no (Qy (inB l no)) (Yj (inB l no)) ((Uf l no).getD i []):=by
 unfold Ad at h
 unfold Dk at h2 ⊢
 by_cases hd:Cz (Qy (inB l no)) (Yj (inB l no))
 ·rw[if_pos hd] at h2;exact absurd rfl h2
 ·rw[if_neg hd] at h h2 ⊢
  rw[show(Uf l no).getD i []=(Uf l no)[i] from by simp[List.getD,hi]] at h2 ⊢
  unfold nodX
  rw[if_neg hd]
  have e:Uf l no=(Uf l no).take i++(Uf l no)[i]::(Uf l no).drop (i+1):=by rw[←E8 hi,F9]
  conv=>lhs;rw[e]
  rw[B5,D7]
  exact h.bad h2 _
theorem Zfg(l:Bl)(no:Int):(Uf l no).length=Xb (inB l no):=by unfold Uf;exact Lv _ _
theorem Zwn(l:Bl)(no:Int)(i:Nat):(Ad l no i).length≤i:=by
 unfold Ad
 split
 ·exact A3 _
 ·rw[A6,E3];exact K3 _ _
theorem nodT_is{l:Bl}{no t:Int}(h:Yb l no t=0)(h1:1≤t):Qy (inB l no)=t:=by
 have h2:=(Rz h).2
 have h3:=Ee h2
 unfold Kk at h2
 rw[if_pos h3] at h2
 split at h2
 ·rename_i h4;omega
 ·omega
theorem Zr7(bb:Nat)(w:World)(k:Blk w bb [.nilIface,.nilIface] 28) :
 C0 110 #[.slice (S1 bb) 2 2] w (Ret (.nilIface) w):=by
 refine zin 15 Tryz.func110 ?_
 refine xu 14 2 ?_
 refine xb 14 0 k ?_
 refine xb 32 1 k ?_
 exact xe 36 .nilIface ⟨rfl,(B4 w)⟩
theorem Zxg(bb:Nat)(ty:TypeId)(x:Value)(w:World)(k:Blk w bb [.nilIface,.iface ty (x)] 28) :
 C0 110 #[.slice (S1 bb) 2 2] w (Ret (.iface ty (x)) w):=by
 refine zin 15 Tryz.func110 ?_
 refine xu 14 2 ?_
 refine xb 14 0 k ?_
 refine xb 32 1 k ?_
 exact xe 22 (.iface ty (x)) ⟨rfl,(B4 w)⟩
theorem Zvt(bb:Nat)(ty:TypeId)(x:Value)(w:World)(k:Blk w bb [.iface ty (x),.nilIface] 28) :
 C0 110 #[.slice (S1 bb) 2 2] w (Ret (.iface ty (x)) w):=by
 refine zin 15 Tryz.func110 ?_
 refine xu 14 2 ?_
 refine xb 14 0 k ?_
 exact xe 22 (.iface ty (x)) ⟨rfl,(B4 w)⟩
theorem Zqp(d:Nat)(B Bi b bx br:Nat)(pi:O0)(ni ci:Nat)(l:Bl)(g n:Nat)(hR:Bg d B Bi b bx br pi ni ci l g n)(cs:List Nat)(no:Int)(w:World)(hM:RcM B Bi b bx br pi ni ci l g n cs w)(hz:zer cs<d)(hph:phi cs≤999999998000) :
 C0 117 #[P0 bx,V0 no,V0 (-1)] w (Bp B g n (Zfz l d cs no 6) w):=by
 have hc:=hM.hc
 have kx:=hM.kx
 have kr:=hM.kr
 have hI:=hM.hI
 have a1:=hM.hB
 have hn:=hM.hn
 refine zin 75 Tryz.func117 ?_
 refine xb 24 0 kx ?_
 refine xc 1 (Sv Bi b pi ni ci l no _ hI) ?_
 rintro e W1 d7
 rcases d7 with ⟨a5,d0,vx,rfl,a0,d5⟩|⟨a5,pl,cl,rfl,a0,hs⟩
 ·have c2:=hI.below a0
  have b7:=Zb hc a0
  have hB:=blB (Below.refl B w) a1 a0
  have hO:=(show Ze [3] w _ from(Q0 a0))
  refine xc 12 (Zbq d B Bi b bx br pi ni ci l g n hR cs _ (hM.move hB hO c2 b7 M0) hz hph) ?_
  rintro _ W2 ⟨rfl,d4,d1,hc⟩
  refine xbs 0 2 [.iface d0 (vx),.nilIface] 28 fun b3 W3 n3=>?_
  have a6:=hB.trans d4
  have g3:=n3.ge0 a6
  refine xr 0 (args:=#[.slice (S1 b3) 2 2]) (Zvt b3 _ _ _ n3.blk) fun W4 c0=>?_
  have a7:=((d5.only d1 Do).below n3.below).below c0
  have b5:=blB (blB a6 a1 n3.below) a1 c0
  have a8:=((hO.trans d1).trans (Q0 n3.below)).trans (Q0 c0)
  exact xe 6 (.iface d0 (vx)) (Yl (Zeq (Zxi l no) a5) a5 b5 a8 a7)
 have d2:=At w.heap.size
 have a9:=hI.below a0
 have b4:=Zb hc a0
 have c6:=Zf hs d2
 have hB:=blB (Below.refl B w) a1 a0
 have hO:=(show Ze [3] w _ from(Q0 a0))
 refine xc 12 (args:=#[P0 bx,.slice pl ((We l no).length) cl]) (Ij d B Bi b bx br pi ni ci l g n hR cs _ pl cl (We l no) _ (hM.move hB hO a9 b4 M0) hz hph c6 (Znc l no)) ?_
 rintro e W5 d3
 rcases d3 with ⟨b0,c9,vr,rfl,c5,c1,d6⟩|⟨b0,rfl,c5,c1,hc⟩
 ·refine xbs 0 2 [.nilIface,.iface c9 (vr)] 28 fun b6 W6 n6=>?_
  have a4:=hB.trans c5
  have g6:=n6.ge0 a4
  refine xr 0 (args:=#[.slice (S1 b6) 2 2]) (Zxg b6 _ _ _ n6.blk) fun W7 c7=>?_
  have a2:=(d6.below n6.below).below c7
  have c3:=blB (blB a4 a1 n6.below) a1 c7
  have b9:=((hO.trans c1).trans (Q0 n6.below)).trans (Q0 c7)
  refine xe 6 (.iface c9 (vr)) ?_
  have e9:Zfz l d cs no 6=Jw (Xp l d) cs ((We l no).map Lo):=by rw[Zah ((Zxi l no).trans a5),hasL_6]
  exact Yl (c:=(Zfz l d cs no 6).1) (bl:=(Zfz l d cs no 6).2.1) (er:=(Zfz l d cs no 6).2.2) rfl (by rw[e9];exact b0) c3 b9 (by rw[e9];exact a2)
 refine xbs 0 2 [.nilIface,.nilIface] 28 fun b8 W8 n8=>?_
 have a3:=hB.trans c5
 have g8:=n8.ge0 a3
 refine xr 0 (Zr7 b8 _ n8.blk) fun W9 c8=>?_
 have c4:=Zb (Zb hc n8.below) c8
 have b2:=blB (blB a3 a1 n8.below) a1 c8
 have b1:=((hO.trans c1).trans (Q0 n8.below)).trans (Q0 c8)
 refine xe 6 .nilIface ?_
 have e9:Zfz l d cs no 6=Jw (Xp l d) cs ((We l no).map Lo):=by rw[Zah ((Zxi l no).trans a5),hasL_6]
 exact Jg (by rw[e9];exact b0) (by rw[e9]) b2 b1 c4
theorem Zow(d:Nat)(B Bi b bx br:Nat)(pi:O0)(ni ci:Nat)(l:Bl)(g n:Nat)(hR:Bg d B Bi b bx br pi ni ci l g n)(cs:List Nat)(no:Int)(w:World)(hM:RcM B Bi b bx br pi ni ci l g n cs w)(hz:zer cs<d)(hph:phi cs≤999999998000) :
 C0 117 #[P0 bx,V0 no,V0 (-2)] w (Bp B g n (Zfz l d cs no 7) w):=by
 have hc:=hM.hc
 have kx:=hM.kx
 have kr:=hM.kr
 have hI:=hM.hI
 have a3:=hM.hB
 have hn:=hM.hn
 refine zin 75 Tryz.func117 ?_
 refine xb 31 0 kx ?_
 refine xc 1 (Zai Bi b pi ni ci l no _ hI) ?_
 rintro e W1 a6
 rcases a6 with ⟨a1,a5,vx,rfl,a0,a4⟩|⟨a1,pl,cl,rfl,a0,hs⟩
 ·have hB:=blB (Below.refl B w) a3 a0
  have hO:=(show Ze [3] w _ from(Q0 a0))
  exact xe 16 (.iface a5 (vx)) (Yl (Zeq (hasE_7 l no) a1) a1 hB hO a4)
 have a2:=Zb hc a0
 have hB:=blB (Below.refl B w) a3 a0
 have hO:=(show Ze [3] w _ from(Q0 a0))
 refine xe 16 .nilIface ?_
 have e9:Zfz l d cs no 7=(cs,[],0):=by rw[Zah ((hasE_7 l no).trans a1),hasL_7];rfl
 exact Jg (by rw[e9]) (by rw[e9]) hB hO a2
theorem Zrn(l:Bl)(no:Int)(i:Nat):((Uf l no).getD i []).length≤1000:=Ea _ _ _
theorem Zqi(d:Nat)(B Bi b bx br:Nat)(pi:O0)(ni ci:Nat)(l:Bl)(g n:Nat)(hR:Bg d B Bi b bx br pi ni ci l g n)(cs:List Nat)(no t:Int)(w:World)(hM:RcM B Bi b bx br pi ni ci l g n cs w)(hz:zer cs<d)(hph:phi cs≤999999998000)(ht1:1≤t)(ht5:t≤5) :
 C0 117 #[P0 bx,V0 no,V0 t] w (Bp B g n (Zfz l d cs no t) w):=by
 have hc:=hM.hc
 have kx:=hM.kx
 have kr:=hM.kr
 have hI:=hM.hI
 have a8:=hM.hB
 have hn:=hM.hn
 refine zin 75 Tryz.func117 ?_
 refine xk 18 (show((t==(-1:Int)):Bool)=false from beq_false_of_ne M0) ?_
 refine xk 6 (show((t==(-2:Int)):Bool)=false from beq_false_of_ne M0) ?_
 refine xb 8 0 kx ?_
 refine xc 2 (Sa Bi b pi ni ci l no t _ hI) ?_
 rintro e W1 d7
 rcases d7 with ⟨a9,bf,rfl,a0,d5⟩|⟨a9,kp,kc,vp,vc,rfl,a0,e0,b5⟩
 ·refine xa 3 [V0 0,.bool false,S0,S0] 181 fun b2 W2 n2=>?_
  refine xsv 0 n2.blk [V0 0,.bool false,S0,S0] fun W3 u3 k3=>?_
  have g2:=n2.ge0 (blB (Below.refl B w) a8 a0)
  have b7:=(d5.below n2.below).only (Q1 (T:=[181]) u3 n2.blk Do) Do
  have hB:=u3.below (blB (blB (Below.refl B w) a8 a0) a8 n2.below) (N0 a8 g2)
  have hO:=(Ze.upd_new ((show Ze [3] w _ from(Q0 a0)).trans (Q0 n2.below)) u3 g2)
  exact xe 19 (.iface 188 (P0 bf)) (Yl (Zeq (Zuz ht5) a9) a9 hB hO b7)
 have c9:=At w.heap.size
 have e4:=nodT_is a9 ht1
 have d0:=maxC l no t a9
 have e3:=Zfg l no
 refine xa 3 [V0 0,.bool false,S0,S0] 181 fun b4 W4 n4=>?_
 refine xsv 0 n4.blk [V0 (Qy (inB l no)),.bool (Yj (inB l no)),.slice kp (Xb (inB l no)) kc,.slice vp (Xb (inB l no)) vc] fun W5 u5 k5=>?_
 have g4:=n4.ge0 (blB (Below.refl B w) a8 a0)
 refine xb 17 3 k5 ?_
 have b6:=u5.own2 (Zb (Zf b5 c9) n4.below) n4.blk Do
 have c2:=u5.own2 (Zb (Zb hc a0) n4.below) n4.blk Do
 have c5:=((hI.below a0).below n4.below).only (Q1 (T:=[181]) u5 n4.blk Do) Do
 have hB:=u5.below (blB (blB (Below.refl B w) a8 a0) a8 n4.below) (N0 a8 g4)
 have hO:=(Ze.upd_new ((show Ze [3] w _ from(Q0 a0)).trans (Q0 n4.below)) u5 g4)
 have c7:=u5.blkT ((kx.below a0).below n4.below) n4.blk Do
 have c8:=u5.blkT ((kr.below a0).below n4.below) n4.blk Do
 refine zl 5 75 (fun zm d8 V=>∃ (i:Nat) (c:List Nat),d8=[(0,P0 bx),(1,V0 no),(11,P0 b4),(60,.slice vp (Xb (inB l no)) vc),(61,V0 (↑(Xb (inB l no)):Int)),(62,V0 (i:Int))]∧zm=(Xb (inB l no))-((i:Int)).toNat∧Below B w V∧Ze [3] w V∧Blk V bx ([P0 b,P0 br]) 150∧Blk V br ([.slice (S1 g) n n]) 232∧Blk V b4 ([V0 (Qy (inB l no)),.bool (Yj (inB l no)),.slice kp (Xb (inB l no)) kc,.slice vp (Xb (inB l no)) vc]) 181∧V.ownsRow w.heap.size 9 1 (.slice vp (Xb (inB l no)) vc) (Xb (inB l no)) ((Uf l no).map sv)∧V.ownsRow B 3 1 (.slice (S1 g) n n) n (c.map nv)∧ImgR Bi b pi ni ci l V∧i≤(Xb (inB l no))∧Vf (Xp l d) cs (Ad l no i) c) ⟨0,cs,rfl,rfl,hB,hO,c7,c8,k5,b6,c2,c5,A3 _,(by rw[Zp8];exact Vf.nil _ _)⟩ ?_
 rintro _ _ W6 ⟨i,c,rfl,rfl,a1,a4,b1,b3,a6,b5,hc,hI,hi,hf⟩ J6 d3 r6
 obtain⟨e1,d9,e2⟩:=hf.well
 have e5:=Zwn l no i
 refine xid 6 ((i:Int)<(↑(Xb (inB l no)):Int)) (fun d2=>?_) (fun d2=>?_)
 ·refine xx 6 _ (Xb (inB l no)) i 1 (Strs.elem (Zg b5) (Zfg l no) (k:=i) M0).1 ?_
  refine xl 0 ((Strs.elem (Zg b5) (Zfg l no) (k:=i) M0).2) ?_
  refine xlv 7 a6.rp ?_
  refine xc 1 (Zxf d B Bi b bx br pi ni ci l g n hR c no (Qy (inB l no)) (Yj (inB l no)) kp vp (Xb (inB l no)) kc (Xb (inB l no)) vc ((Uf l no).getD i []) _ (hM.move a1 a4 hI hc M0) M0 M0 M0 M0 (Zrn l no i)) ?_
  rintro e W8 d1
  rcases d1 with ⟨b8,d4,vr,rfl,c6,a7,d6⟩|⟨b8,rfl,c6,a7,hc⟩
  ·have c4:=a1.trans c6
   have b9:=a4.trans a7
   refine xe 22 (.iface d4 (vr)) ?_
   have e9:Zfz l d cs no t=Jw (Xp l d) cs (nodX l no):=by rw[Zah ((Zuz ht5).trans a9),hasL_n ht5]
   have e8:=Zw5 M0 hf b8
   exact Yl (c:=(Zfz l d cs no t).1) (bl:=(Zfz l d cs no t).2.1) (er:=(Zfz l d cs no t).2.2) rfl (by rw[e9,e8];exact b8) c4 b9 (by rw[e9,e8];exact d6)
  refine xwm 14 ((i:Int)+1) (↑(i+1):Int) ?_
  have c1:=a1.trans c6
  have c3:=a4.trans a7
  have a2:=b1.only a7 Do
  have a5:=b3.only a7 Do
  have a3:=a6.only a7 Do
  have b0:=Zi b5 a7 Do
  have c0:=hI.only a7 Do
  exact ze 2 (d3 _ _ _ ⟨i+1,_,rfl,rfl,c1,c3,a2,a5,a3,b0,hc,c0,by omega,Zqg M0 hf b8⟩ M0)
 refine xe 11 .nilIface ?_
 have e9:Zfz l d cs no t=Jw (Xp l d) cs (nodX l no):=by rw[Zah ((Zuz ht5).trans a9),hasL_n ht5]
 obtain rfl:i=(Uf l no).length:=by omega
 rw[Zwr] at hf
 exact Jg (by rw[e9];exact hf.1) (by rw[e9];exact hf.2) a1 a4 hc
theorem Zw7(d:Nat)(B Bi b bx br:Nat)(pi:O0)(ni ci:Nat)(l:Bl)(g n:Nat)(hR:Bg d B Bi b bx br pi ni ci l g n)(cs:List Nat)(no ak:Int)(w:World)(hM:RcM B Bi b bx br pi ni ci l g n cs w)(hz:zer cs<d)(hph:phi cs≤999999998000)(h1:1≤ak)(h7:ak≤7) :
 C0 117 #[P0 bx,V0 no,V0 (asP ak)] w (Bp B g n (Zfz l d cs no ak) w):=by
 by_cases h6:ak=6
 ·subst h6;exact Zqp d B Bi b bx br pi ni ci l g n hR cs no w hM hz hph
 ·by_cases h8:ak=7
  ·subst h8;exact Zow d B Bi b bx br pi ni ci l g n hR cs no w hM hz hph
  ·rw[asP_id M0];exact Zqi d B Bi b bx br pi ni ci l g n hR cs no ak w hM hz hph h1 M0
theorem Zq0{l:Bl}{d:Nat}{cs:List Nat}{no ak:Int}(h:¬ (0≤no∧no<cs.length)):Xp l (d+1) cs (no,ak,0)=(cs,[no],3):=by unfold Xp;rw[if_neg (fun q=>q rfl),if_pos h]
theorem Zjg{l:Bl}{d:Nat}{cs:List Nat}{no ak:Int}(h:0≤no∧no<cs.length)(h2:cs.getD no.toNat 0≠0):Xp l (d+1) cs (no,ak,0)=(Ll cs no,[],0):=by unfold Xp;rw[if_neg (fun q=>q rfl),if_neg (fun q=>q h),if_pos h2]
theorem Zdt{l:Bl}{d:Nat}{cs:List Nat}{no ak:Int}(h:0≤no∧no<cs.length)(h2:cs.getD no.toNat 0=0):Xp l (d+1) cs (no,ak,0)=Zfz l d (Ll cs no) no ak:=by unfold Xp;rw[if_neg (fun q=>q rfl),if_neg (fun q=>q h),if_neg (fun q=>q h2)];rfl
theorem Zi4(d:Nat)(B Bi b bx br:Nat)(pi:O0)(ni ci:Nat)(l:Bl)(g n:Nat)(hR:Bg d B Bi b bx br pi ni ci l g n)(cs:List Nat)(no ak:Int)(w:World)(hM:RcM B Bi b bx br pi ni ci l g n cs w)(hz:zer cs<d+1)(hph:phi cs≤1000000000000)(h1:1≤ak)(h7:ak≤7) :
 C0 67 #[P0 bx,V0 no,V0 (asP ak)] w (Bp B g n (Xp l (d+1) cs (no,ak,0)) w):=by
 have hc:=hM.hc
 have kx:=hM.kx
 have kr:=hM.kr
 have hI:=hM.hI
 have b3:=hM.hB
 have hn:=hM.hn
 refine zin 30 Tryz.func67 ?_
 refine xb 10 1 kx ?_
 refine xc 1 (args:=#[P0 br,V0 no]) (refs_Add B br g n cs no _ kr (N0 b3 (Below.refl B _).size) hc hn hph) ?_
 rintro e W1 b7
 rcases b7 with ⟨a0,rfl,a1,a2,hc⟩|⟨a0,rfl,a1,a2,hc⟩
 ·refine xc 20 (args:=#[V0 no,.iface 50 (V0 3)]) (Qo no 3 [] _ _ rfl) ?_
  rintro _ W2 ⟨b6,v2,rfl,b2,c0⟩
  have hB:=blB a1 b3 b2
  have hO:=(show Ze [3] w _ from a2).trans (Q0 b2)
  exact xe 5 (.iface b6 (v2)) (Yl (Zq0 a0) Do hB hO c0)
 have b8:=Rg a0.1 a0.2
 have c2:=Ie a0.1 a0.2
 have c3:=Jl cs no
 refine xid 24 ((↑(cs.getD no.toNat 0+1):Int)>(1:Int)) (fun c1=>?_) (fun c1=>?_)
 ·have hO:=(show Ze [3] w _ from a2)
  refine xe 7 .nilIface ?_
  have e9:(Xp l (d+1) cs (no,ak,0))=_:=Zjg a0 M0
  exact Jg (by rw[e9]) (by rw[e9]) a1 hO hc
 have b1:=hI.only a2 Do
 have a4:cs.getD no.toNat 0=0:=by omega
 rw[if_pos a4] at b8
 have hO:=(show Ze [3] w _ from a2)
 refine xc 7 (Zw7 d B Bi b bx br pi ni ci l g n hR (Ll cs no) no ak _ (hM.move a1 hO b1 hc M0) M0 (by unfold phi at hph ⊢;omega) h1 h7) ?_
 rintro e W4 b4
 rcases b4 with ⟨a5,b5,vr,rfl,a9,a8,b9⟩|⟨a5,rfl,a9,a8,hc⟩
 ·have b0:=a1.trans a9
  have a3:=hO.trans a8
  refine xe 4 (.iface b5 (vr)) ?_
  have e9:(Xp l (d+1) cs (no,ak,0))=_:=Zdt a0 a4
  exact Yl (c:=(Xp l (d+1) cs (no,ak,0)).1) (bl:=(Xp l (d+1) cs (no,ak,0)).2.1) (er:=(Xp l (d+1) cs (no,ak,0)).2.2) rfl (by rw[e9];exact a5) b0 a3 (by rw[e9];exact b9)
 have a6:=a1.trans a9
 have a7:=hO.trans a8
 refine xe 4 .nilIface ?_
 have e9:(Xp l (d+1) cs (no,ak,0))=_:=Zdt a0 a4
 exact Jg (by rw[e9];exact a5) (by rw[e9]) a6 a7 hc
theorem Zar:∀ (d:Nat) (B Bi b bx br:Nat) (pi:O0) (ni ci:Nat) (l:Bl) (g n:Nat),Bg d B Bi b bx br pi ni ci l g n
 | 0,B,Bi,b,bx,br,pi,ni,ci,l,g,n=>fun cs no ak w _ hz _ _ _=>absurd hz M0
 | d+1,B,Bi,b,bx,br,pi,ni,ci,l,g,n=>fun cs no ak w hM hz a0 h1 h7=>Zi4 d B Bi b bx br pi ni ci l g n (Zar d B Bi b bx br pi ni ci l g n) cs no ak w hM hz a0 h1 h7
end Go.Proofs.YtceeiinepijokaaGreatDoor
namespace Go.Proofs.YtceeiinepijokaaGreatDoor
set_option maxHeartbeats 8000000
set_option maxRecDepth 100000
open Go.RowKit Go.Extern.Stop Go.Stop Go.Extern
set_option linter.unusedVariables false
attribute [local irreducible] wpList wpAnyH Code.wp Oper.wp Go
open Classical in
def CntsP(O:Cx)(w:World)(e:Ending)(w':World):Prop :=
 (O.2.2≠0∧∃ ty v,e=.returned (.tuple #[S0,.iface ty v])∧B3 w w'∧Kr w' (O.2.1.map some) (some O.2.2) (.iface ty v)) ∨
 (O.2.2=0∧∃ p c,e=.returned (.tuple #[.slice p O.1.length c,.nilIface])∧B3 w w'∧w'.ownsRow w.heap.size 3 1 (.slice p O.1.length c) O.1.length (O.1.map nv))
theorem Mo{O:Cx}{c:List Nat}{bl:List Int}{er:Int}{w W:World}{ty:TypeId}{v:Value}(h:O=(c,bl,er))(her:er≠0)(hb:B3 w W)(hv:Kr W (bl.map some) (some er) (.iface ty v)):CntsP O w (.returned (.tuple #[S0,.iface ty v])) W:=by
 subst h;exact .inl ⟨her,ty,v,rfl,hb,hv⟩
theorem cnts_ok{O:Cx}{c:List Nat}{m d:Nat}{p:O0}{w W:World}(h:O.2.2=0)(h1:O.1=c)(hm:c.length=m)(hb:B3 w W)(ho:W.ownsRow w.heap.size 3 1 (.slice p m d) m (c.map nv)):CntsP O w (.returned (.tuple #[.slice p m d,.nilIface])) W:=by
 subst h1 hm;exact .inr ⟨h,p,d,rfl,hb,ho⟩
theorem phi_zero(n:Nat):phi (List.replicate n 0)≤2001*n:=by
 unfold phi zer
 rw[List.count_replicate_self,P2];omega
end Go.Proofs.YtceeiinepijokaaGreatDoor
namespace Go.Proofs.YtceeiinepijokaaGreatDoor
set_option maxHeartbeats 8000000
set_option maxRecDepth 100000
open Go.RowKit Go.Extern.Stop Go.Stop Go.Extern
set_option linter.unusedVariables false
attribute [local irreducible] wpList wpAnyH Code.wp Oper.wp Go
def Zmw(s:Sup)(z:Int):Bool:=(((((((((((true&&decide ((0:Int)≤s.tx∧s.tx≤2147483647))&&decide ((0:Int)≤s.time∧s.time≤16777215))&&decide ((1:Int)≤s.unit∧s.unit≤65536))&&decide ((0:Int)≤s.data∧s.data≤65536))&&decide ((2:Int)≤s.blocks∧s.blocks≤14400))&&decide ((1:Int)≤s.top∧s.top≤z))&&decide ((1:Int)≤s.details∧s.details≤z))&&decide ((1:Int)≤s.dslots∧s.dslots≤z))&&decide ((1:Int)≤s.dover∧s.dover≤z))&&decide ((1:Int)≤s.mindex∧s.mindex≤z))&&decide ((1:Int)≤s.mover∧s.mover≤z))
theorem Zwz{s:Sup}{z:Int}(h:IntKind.i64.wrap (s.blocks-1)=z):Zmw s z=Qg s:=by
 by_cases hb:(2:Int)≤s.blocks∧s.blocks≤14400
 ·have e:z=s.blocks-1:=by rw[←h];exact IntWalk.i64_in _ M0
  subst e;rfl
 ·have hd:decide ((2:Int)≤s.blocks∧s.blocks≤14400)=false:=decide_eq_false hb
  unfold Zmw Qg
  rw[hd];simp
theorem Zvw{s:Sup}(h:Qg s=true):2≤s.blocks∧s.blocks≤14400:=by
 by_cases hb:(2:Int)≤s.blocks∧s.blocks≤14400
 ·exact hb
 ·have hd:decide ((2:Int)≤s.blocks∧s.blocks≤14400)=false:=decide_eq_false hb
  unfold Qg at h
  rw[hd] at h;simp at h
theorem Zbv(B bs bo:Nat)(s:Sup)(w:World)(hBw:B≤w.heap.size)(hBo:B≤bo)(ks:Blk w bs [V0 s.tx,V0 s.time,V0 s.unit,V0 s.data,V0 s.blocks,V0 s.top,V0 s.details,V0 s.dslots,V0 s.dover,V0 s.mindex,V0 s.mover] 24)(ko:Blk w bo [.bool true] 4) :
 C0 77 #[P0 bs,.func (.func 78) #[] #[P0 bo]] w ((fun e w'=>∃ u,e=.returned u∧Below B w w'∧Ze [4] w w'∧Blk w' bo [.bool (Zmw s (IntKind.i64.wrap (s.blocks-1)))] 4)):=by
 refine zin 64 Tryz.func77 ?_
 refine xc 6 (args:=#[P0 bs,V0 0,V0 2147483647,P0 bo]) (Xv B bs bo 0 _ s.tx 0 2147483647 true _ (N0 hBw (Below.refl B _).size) hBo ks rfl ko) ?_
 rintro _ W1 ⟨u1,rfl,e0,e4,e7⟩
 have b7:=ks.only e4 Do
 refine xc 8 (args:=#[.pointer (some ⟨bs,1,none⟩),V0 0,V0 16777215,P0 bo]) (Xv B bs bo 1 _ s.time 0 16777215 (true&&decide ((0:Int)≤s.tx∧s.tx≤2147483647)) _ (N0 hBw e0.size) hBo b7 rfl e7) ?_
 rintro _ W2 ⟨u2,rfl,e6,e5,f5⟩
 have c2:=e0.trans e6
 have c7:=b7.only e5 Do
 refine xc 8 (args:=#[.pointer (some ⟨bs,2,none⟩),V0 1,V0 65536,P0 bo]) (Xv B bs bo 2 _ s.unit 1 65536 ((true&&decide ((0:Int)≤s.tx∧s.tx≤2147483647))&&decide ((0:Int)≤s.time∧s.time≤16777215)) _ (N0 hBw c2.size) hBo c7 rfl f5) ?_
 rintro _ W3 ⟨u3,rfl,f4,e1,f1⟩
 have b8:=c2.trans f4
 have a9:=c7.only e1 Do
 refine xc 8 (args:=#[.pointer (some ⟨bs,3,none⟩),V0 0,V0 65536,P0 bo]) (Xv B bs bo 3 _ s.data 0 65536 (((true&&decide ((0:Int)≤s.tx∧s.tx≤2147483647))&&decide ((0:Int)≤s.time∧s.time≤16777215))&&decide ((1:Int)≤s.unit∧s.unit≤65536)) _ (N0 hBw b8.size) hBo a9 rfl f1) ?_
 rintro _ W4 ⟨u4,rfl,f0,e2,e9⟩
 have b9:=b8.trans f0
 have b1:=a9.only e2 Do
 refine xc 8 (args:=#[.pointer (some ⟨bs,4,none⟩),V0 2,V0 14400,P0 bo]) (Xv B bs bo 4 _ s.blocks 2 14400 ((((true&&decide ((0:Int)≤s.tx∧s.tx≤2147483647))&&decide ((0:Int)≤s.time∧s.time≤16777215))&&decide ((1:Int)≤s.unit∧s.unit≤65536))&&decide ((0:Int)≤s.data∧s.data≤65536)) _ (N0 hBw b9.size) hBo b1 rfl e9) ?_
 rintro _ W5 ⟨u5,rfl,f7,e3,f3⟩
 refine xd 3 .z ?_
 refine xbs (.o [0,1,2,3,4,5,6,7,8,9,10,11,12,13,14,15,16,17,20] 18) 6 [.pointer (some ⟨bs,5,none⟩),.pointer (some ⟨bs,6,none⟩),.pointer (some ⟨bs,7,none⟩),.pointer (some ⟨bs,8,none⟩),.pointer (some ⟨bs,9,none⟩),.pointer (some ⟨bs,10,none⟩)] 171 fun b6 W6 n6=>?_
 have c3:=blB (b9.trans f7) hBw (Za W5)
 have g6:=n6.ge0 c3
 refine xu (.r [19] 3) 7 ?_
 refine xb 14 0 n6.blk ?_
 have a5:=((b1.only e3 Do).below (Za W5)).below n6.below
 refine xb 9 4 a5 ?_
 have b5:=blB c3 hBw n6.below
 have b3:=(f3.below (Za W5)).below n6.below
 refine xc 1 (args:=#[.pointer (some ⟨bs,5,none⟩),V0 1,V0 (IntKind.i64.wrap (s.blocks-(1:Int))),P0 bo]) (Xv B bs bo 5 _ s.top 1 (IntKind.i64.wrap (s.blocks-(1:Int))) (((((true&&decide ((0:Int)≤s.tx∧s.tx≤2147483647))&&decide ((0:Int)≤s.time∧s.time≤16777215))&&decide ((1:Int)≤s.unit∧s.unit≤65536))&&decide ((0:Int)≤s.data∧s.data≤65536))&&decide ((2:Int)≤s.blocks∧s.blocks≤14400)) _ (N0 hBw b5.size) hBo a5 rfl b3) ?_
 rintro _ W7 ⟨u7,rfl,f8,d1,e8⟩
 have c8:=n6.blk.only d1 Do
 refine xb 22 1 c8 ?_
 have a8:=a5.only d1 Do
 refine xb 9 4 a8 ?_
 have b2:=b5.trans f8
 refine xc 1 (args:=#[.pointer (some ⟨bs,6,none⟩),V0 1,V0 (IntKind.i64.wrap (s.blocks-(1:Int))),P0 bo]) (Xv B bs bo 6 _ s.details 1 (IntKind.i64.wrap (s.blocks-(1:Int))) ((((((true&&decide ((0:Int)≤s.tx∧s.tx≤2147483647))&&decide ((0:Int)≤s.time∧s.time≤16777215))&&decide ((1:Int)≤s.unit∧s.unit≤65536))&&decide ((0:Int)≤s.data∧s.data≤65536))&&decide ((2:Int)≤s.blocks∧s.blocks≤14400))&&decide ((1:Int)≤s.top∧s.top≤IntKind.i64.wrap (s.blocks-1))) _ (N0 hBw b2.size) hBo a8 rfl e8) ?_
 rintro _ W8 ⟨u8,rfl,f6,d0,f2⟩
 have c6:=c8.only d0 Do
 refine xb 22 2 c6 ?_
 have a7:=a8.only d0 Do
 refine xb 9 4 a7 ?_
 have c5:=b2.trans f6
 refine xc 1 (args:=#[.pointer (some ⟨bs,7,none⟩),V0 1,V0 (IntKind.i64.wrap (s.blocks-(1:Int))),P0 bo]) (Xv B bs bo 7 _ s.dslots 1 (IntKind.i64.wrap (s.blocks-(1:Int))) (((((((true&&decide ((0:Int)≤s.tx∧s.tx≤2147483647))&&decide ((0:Int)≤s.time∧s.time≤16777215))&&decide ((1:Int)≤s.unit∧s.unit≤65536))&&decide ((0:Int)≤s.data∧s.data≤65536))&&decide ((2:Int)≤s.blocks∧s.blocks≤14400))&&decide ((1:Int)≤s.top∧s.top≤IntKind.i64.wrap (s.blocks-1)))&&decide ((1:Int)≤s.details∧s.details≤IntKind.i64.wrap (s.blocks-1))) _ (N0 hBw c5.size) hBo a7 rfl f2) ?_
 rintro _ W9 ⟨u9,rfl,g0,d9,f9⟩
 have c0:=c6.only d9 Do
 refine xb 22 3 c0 ?_
 have a4:=a7.only d9 Do
 refine xb 9 4 a4 ?_
 have c1:=c5.trans g0
 refine xc 1 (args:=#[.pointer (some ⟨bs,8,none⟩),V0 1,V0 (IntKind.i64.wrap (s.blocks-(1:Int))),P0 bo]) (Xv B bs bo 8 _ s.dover 1 (IntKind.i64.wrap (s.blocks-(1:Int))) ((((((((true&&decide ((0:Int)≤s.tx∧s.tx≤2147483647))&&decide ((0:Int)≤s.time∧s.time≤16777215))&&decide ((1:Int)≤s.unit∧s.unit≤65536))&&decide ((0:Int)≤s.data∧s.data≤65536))&&decide ((2:Int)≤s.blocks∧s.blocks≤14400))&&decide ((1:Int)≤s.top∧s.top≤IntKind.i64.wrap (s.blocks-1)))&&decide ((1:Int)≤s.details∧s.details≤IntKind.i64.wrap (s.blocks-1)))&&decide ((1:Int)≤s.dslots∧s.dslots≤IntKind.i64.wrap (s.blocks-1))) _ (N0 hBw c1.size) hBo a4 rfl f9) ?_
 rintro _ g8 ⟨g7,rfl,d5,a6,d4⟩
 have b0:=c0.only a6 Do
 refine xb 22 4 b0 ?_
 have a3:=a4.only a6 Do
 refine xb 9 4 a3 ?_
 have c4:=c1.trans d5
 refine xc 1 (args:=#[.pointer (some ⟨bs,9,none⟩),V0 1,V0 (IntKind.i64.wrap (s.blocks-(1:Int))),P0 bo]) (Xv B bs bo 9 _ s.mindex 1 (IntKind.i64.wrap (s.blocks-(1:Int))) (((((((((true&&decide ((0:Int)≤s.tx∧s.tx≤2147483647))&&decide ((0:Int)≤s.time∧s.time≤16777215))&&decide ((1:Int)≤s.unit∧s.unit≤65536))&&decide ((0:Int)≤s.data∧s.data≤65536))&&decide ((2:Int)≤s.blocks∧s.blocks≤14400))&&decide ((1:Int)≤s.top∧s.top≤IntKind.i64.wrap (s.blocks-1)))&&decide ((1:Int)≤s.details∧s.details≤IntKind.i64.wrap (s.blocks-1)))&&decide ((1:Int)≤s.dslots∧s.dslots≤IntKind.i64.wrap (s.blocks-1)))&&decide ((1:Int)≤s.dover∧s.dover≤IntKind.i64.wrap (s.blocks-1))) _ (N0 hBw c4.size) hBo a3 rfl d4) ?_
 rintro _ g1 ⟨g3,rfl,d3,a2,d6⟩
 have d7:=b0.only a2 Do
 refine xb 22 5 d7 ?_
 have a0:=a3.only a2 Do
 refine xb 9 4 a0 ?_
 have a1:=c4.trans d3
 refine xc 1 (args:=#[.pointer (some ⟨bs,10,none⟩),V0 1,V0 (IntKind.i64.wrap (s.blocks-(1:Int))),P0 bo]) (Xv B bs bo 10 _ s.mover 1 (IntKind.i64.wrap (s.blocks-(1:Int))) ((((((((((true&&decide ((0:Int)≤s.tx∧s.tx≤2147483647))&&decide ((0:Int)≤s.time∧s.time≤16777215))&&decide ((1:Int)≤s.unit∧s.unit≤65536))&&decide ((0:Int)≤s.data∧s.data≤65536))&&decide ((2:Int)≤s.blocks∧s.blocks≤14400))&&decide ((1:Int)≤s.top∧s.top≤IntKind.i64.wrap (s.blocks-1)))&&decide ((1:Int)≤s.details∧s.details≤IntKind.i64.wrap (s.blocks-1)))&&decide ((1:Int)≤s.dslots∧s.dslots≤IntKind.i64.wrap (s.blocks-1)))&&decide ((1:Int)≤s.dover∧s.dover≤IntKind.i64.wrap (s.blocks-1)))&&decide ((1:Int)≤s.mindex∧s.mindex≤IntKind.i64.wrap (s.blocks-1))) _ (N0 hBw a1.size) hBo a0 rfl d6) ?_
 rintro _ g2 ⟨g5,rfl,c9,d8,d2⟩
 have b4:=a1.trans c9
 have hO:=((((((((((((show Ze [4] w _ from e4).trans e5).trans e1).trans e2).trans e3).trans (Q0 (Za W5))).trans (Q0 n6.below)).trans d1).trans d0).trans d9).trans a6).trans a2).trans d8
 exact xe 19 (.tuple #[]) ⟨_,rfl,b4,hO,d2⟩
theorem Zpk(s:Sup)(w:World) :
 C0 34 #[.agg #[V0 s.tx,V0 s.time,V0 s.unit,V0 s.data,V0 s.blocks,V0 s.top,V0 s.details,V0 s.dslots,V0 s.dover,V0 s.mindex,V0 s.mover]] w (Ret (.bool (Qg s)) w):=by
 refine zin 7 Tryz.func34 ?_
 refine xa 2 [V0 s.tx,V0 s.time,V0 s.unit,V0 s.data,V0 s.blocks,V0 s.top,V0 s.details,V0 s.dslots,V0 s.dover,V0 s.mindex,V0 s.mover] 24 fun b1 W1 n1=>?_
 refine xa 5 [.bool false] 4 fun b2 W2 n2=>?_
 refine xs 0 n2.blk [.bool true] fun W3 u3 k3=>?_
 have g2:=n2.ge n1.below
 have hB:=u3.below (bln n1.below n2.below) g2
 have k1:=u3.blkT (n1.blk.below n2.below) n2.blk Do
 refine xc 5 (Zbv w.heap.size b1 b2 s _ hB.size g2 k1 k3) ?_
 rintro _ W4 ⟨u4,rfl,a1,a3,a2⟩
 refine xb 4 0 a2 ?_
 have a0:=hB.trans a1
 exact xe 4 (.bool (Zmw s (IntKind.i64.wrap (s.blocks-1)))) ⟨by rw[Zwz rfl],a0⟩
def supRx(s:Sup):List Rx:=[(s.top,1,0),(s.details,3,0),(s.dslots,4,0),(s.dover,5,0),(s.mindex,6,0),(s.mover,5,0)]
def Ri(n:Nat):List Nat:=Ll (List.replicate n 0) 0
theorem Gq(n:Nat):(Ri n).length=n:=by unfold Ri;rw[Jl,B6]
def Zbc(l:Bl)(s:Sup):Cx:=if Qg s=false then([],[],1) else Rh l (Ri s.blocks.toNat) (supRx s)
theorem Zoj{l:Bl}{s:Sup}(h:Qg s=false):Zbc l s=([],[],1):=if_pos h
theorem Wp{l:Bl}{s:Sup}(h:Qg s=true):Zbc l s=Jw (Xp l (s.blocks.toNat+1)) (Ri s.blocks.toNat) (supRx s):=by
 unfold Zbc;rw[if_neg (by rw[h];decide)];unfold Rh;rw[Gq]
theorem Vf.more{f:List Nat→Rx→Cx}{cs c c':List Nat}{L:List Rx}(h:Vf f cs L c){x:Rx}(hc:(f c x).1=c')(h2:(f c x).2.2=0):Vf f cs (L++[x]) c':=hc▸h.next h2
theorem phi0(n:Nat):phi (Ri n)≤2001*n+1:=by
 unfold Ri
 by_cases h:0<n
 ·have hz:=Rg (cs:=List.replicate n 0) (k:=0) Do (by rw[B6];omega)
  have hs:=Ie (cs:=List.replicate n 0) (k:=0) Do (by rw[B6];omega)
  have:=phi_zero n
  unfold phi at this ⊢;omega
 ·obtain rfl:n=0:=by omega
  decide
theorem Zsw(n:Int)(w:World)(h:0≤n∧n≤65536):C0 65 #[V0 n] w (Kc (fun w' r=>∃ br g,r=.tuple #[P0 br,V0 0]∧w.heap.size≤br∧Blk w' br [.slice (S1 g) n.toNat n.toNat] 232∧w'.ownsRow w.heap.size 3 1 (.slice (S1 g) n.toNat n.toNat) n.toNat ((List.replicate n.toNat (0:Nat)).map nv)) w):=by
 obtain⟨m,rfl⟩:∃ m:Nat,n=(m:Int):=⟨n.toNat,by omega⟩
 exact Zih m w M0
theorem Zwf(B br g:Nat)(n:Int)(w:World)(kr:Blk w br [.slice (S1 g) n.toNat n.toNat] 232)(hBw:B≤w.heap.size)(hc:w.ownsRow B 3 1 (.slice (S1 g) n.toNat n.toNat) n.toNat ((List.replicate n.toNat 0).map nv))(hn:1≤n) :
 C0 66 #[P0 br,V0 0] w (fun e w'=>e=.returned (.tuple #[V0 1,V0 0])∧Below B w w'∧Ze [3] w w'∧w'.ownsRow B 3 1 (.slice (S1 g) n.toNat n.toNat) n.toNat ((Ri n.toNat).map nv)):=by
 have e0:(List.replicate n.toNat (0:Nat)).getD 0 0=0:=by rw[List.getD,O9];split<;>rfl
 have q:=Zij B br g n.toNat 0 (List.replicate n.toNat 0) w kr hBw hc B6 M0 (by rw[e0];omega)
 rw[e0] at q
 exact q
theorem Zkk(Bi b:Nat)(pi:O0)(ni ci:Nat)(l:Bl)(s:Sup)(w:World)(hI:ImgR Bi b pi ni ci l w) :
 C0 23 #[P0 b,.agg #[V0 s.tx,V0 s.time,V0 s.unit,V0 s.data,V0 s.blocks,V0 s.top,V0 s.details,V0 s.dslots,V0 s.dover,V0 s.mindex,V0 s.mover]] w (CntsP (Zbc l s) w):=by
 refine zin 67 Tryz.func23 ?_
 refine xa 2 [V0 s.tx,V0 s.time,V0 s.unit,V0 s.data,V0 s.blocks,V0 s.top,V0 s.details,V0 s.dslots,V0 s.dover,V0 s.mindex,V0 s.mover] 24 fun b1 W1 n1=>?_
 refine xlv 7 n1.blk.rp ?_
 refine xr 0 (Zpk s _) fun W2 m7=>?_
 refine xi 3 (!(Qg s)) (fun i3=>?_) (fun i3=>?_)
 ·have c9:Qg s=false:=Zb9 i3
  have hB:=bln n1.below m7
  refine xe 9 (.tuple #[S0,.iface 50 (V0 1)]) ?_
  exact Mo (bl:=[]) (Zoj c9) Do hB rfl
 have c9:Qg s=true:=Zb8 i3
 have u7:=Zvw c9
 have k4:=n1.blk.below m7
 refine xb 5 4 k4 ?_
 have hB:=bln n1.below m7
 have r6:=hB.size
 refine xc 0 (Zsw s.blocks _ M0) ?_
 rintro _ W4 ⟨_,rfl,r0,br,g,rfl,q8,r2,hc⟩
 replace q8:=N0 r6 q8
 have p3:=Zf hc hB.size
 have i6:=bln hB r0
 refine xc 10 (Zwf w.heap.size br g s.blocks _ r2 i6.size p3 M0) ?_
 rintro _ W5 ⟨rfl,r9,q2,hc⟩
 have q1:Vf (Xp l (s.blocks.toNat+1)) (Ri s.blocks.toNat) [] (Ri s.blocks.toNat):=Vf.nil _ _
 have s2:2≤s.blocks.toNat∧s.blocks.toNat≤14400:=by omega
 have v2:=phi0 s.blocks.toNat
 have r3:=zer_le (Ri s.blocks.toNat)
 rw[Gq] at r3
 refine xa 7 [P0 b,P0 br] 150 fun b6 W6 n6=>?_
 have j1:=i6.trans r9
 have g6:=n6.ge j1
 have b3:=((k4.below r0).only q2 Do).below n6.below
 refine xb 7 5 b3 ?_
 refine xb 2 6 b3 ?_
 refine xb 2 7 b3 ?_
 refine xb 2 8 b3 ?_
 refine xb 2 9 b3 ?_
 refine xb 2 10 b3 ?_
 refine xbs 1 6 [V0 s.top,V0 1,V0 s.details,V0 3,V0 s.dslots,V0 4,V0 s.dover,V0 5,V0 s.mindex,V0 (-1),V0 s.mover,V0 5] 151 fun b7 W7 n7=>?_
 have k8:=bln j1 n6.below
 have g7:=n7.ge k8
 refine xu 5 7 ?_
 refine xlv 14 (n7.blk.rpp 0 2) ?_
 refine xa 0 [V0 0,V0 0] 151 fun b8 W8 n8=>?_
 have i9:=n8.ne n7.blk
 have k0:=bln k8 n7.below
 have g8:=n8.ge k0
 refine xsv 0 n8.blk [V0 s.top,V0 1] fun W9 u9 k9=>?_
 refine xb 6 0 k9 ?_
 refine xb 1 1 k9 ?_
 have k6:=u9.blkT ((n6.blk.below n7.below).below n8.below) n8.blk Do
 have e1:=u9.blkT ((((r2.only q2 Do).below n6.below).below n7.below).below n8.below) n8.blk Do
 have p8:=u9.own2 (Zb (Zb (Zb hc n6.below) n7.below) n8.below) n8.blk Do
 have d7:=u9.below (bln k0 n8.below) g8
 refine xc 0 (args:=#[P0 b6,V0 s.top,V0 1]) ((Zar (s.blocks.toNat+1) w.heap.size Bi b b6 br pi ni ci l g s.blocks.toNat) (Ri s.blocks.toNat) s.top 1 _ ⟨hI.below d7,k6,e1,p8,Gq _,d7.size⟩ M0 M0 Do Do) ?_
 rintro e u5 o5
 rcases o5 with ⟨a0,c0,vr,rfl,g3,c7,c8⟩|⟨a0,rfl,g3,c7,hc⟩
 ·have b9:=q1.bad (x:=(s.top,1,0)) a0 [(s.details,3,0),(s.dslots,4,0),(s.dover,5,0),(s.mindex,6,0),(s.mover,5,0)]
  have n3:=d7.trans g3
  refine xe 23 (.tuple #[S0,.iface c0 (vr)]) ?_
  exact Mo ((Wp c9).trans b9) a0 n3 c8
 obtain⟨c1,q6⟩:∃ c,(Xp l (s.blocks.toNat+1) (Ri s.blocks.toNat) (s.top,1,0)).1=c:=⟨_,rfl⟩
 rw[q6] at hc
 have m9:Vf (Xp l (s.blocks.toNat+1)) (Ri s.blocks.toNat) [(s.top,1,0)] c1:=q1.more q6 a0
 have m2:=m9.well
 rw[Gq] at m2
 have s8:phi c1≤30000000:=by have:=m2.2.2;simp only[C7,D6] at this;omega
 have t6:zer c1<s.blocks.toNat+1:=by have:=m2.2.1;omega
 have g0:=(u9.blk (n7.blk.below n8.below) i9).only c7 Do
 refine xlv 32 (g0.rpp 2 2) ?_
 refine xa 0 [V0 0,V0 0] 151 fun u1 t9 b4=>?_
 have h8:=b4.ne g0
 have i7:=k9.only c7 Do
 have h3:=b4.ne i7
 have j5:=d7.trans g3
 have r4:=b4.ge j5
 refine xsv 0 b4.blk [V0 s.details,V0 3] fun t2 i2 o7=>?_
 refine xb 6 0 o7 ?_
 refine xb 1 1 o7 ?_
 have k3:=i2.blkT ((k6.only c7 Do).below b4.below) b4.blk Do
 have f4:=i2.blkT ((e1.only c7 Do).below b4.below) b4.blk Do
 have p9:=i2.own2 (Zb hc b4.below) b4.blk Do
 have d8:=i2.below (bln j5 b4.below) r4
 refine xc 0 ((Zar (s.blocks.toNat+1) w.heap.size Bi b b6 br pi ni ci l g s.blocks.toNat) c1 s.details 3 _ ⟨hI.below d8,k3,f4,p9,m2.1,d8.size⟩ M0 M0 Do Do) ?_
 rintro e t0 q0
 rcases q0 with ⟨a0,c0,vr,rfl,h5,b5,c8⟩|⟨a0,rfl,h5,b5,hc⟩
 ·have b9:=m9.bad (x:=(s.details,3,0)) a0 [(s.dslots,4,0),(s.dover,5,0),(s.mindex,6,0),(s.mover,5,0)]
  have p5:=d8.trans h5
  refine xe 23 (.tuple #[S0,.iface c0 (vr)]) ?_
  exact Mo ((Wp c9).trans b9) a0 p5 c8
 obtain⟨c2,q7⟩:∃ c,(Xp l (s.blocks.toNat+1) c1 (s.details,3,0)).1=c:=⟨_,rfl⟩
 rw[q7] at hc
 have p1:Vf (Xp l (s.blocks.toNat+1)) (Ri s.blocks.toNat) [(s.top,1,0),(s.details,3,0)] c2:=m9.more q7 a0
 have m0:=p1.well
 rw[Gq] at m0
 have u6:phi c2≤30000000:=by have:=m0.2.2;simp only[C7,D6] at this;omega
 have s9:zer c2<s.blocks.toNat+1:=by have:=m0.2.1;omega
 have g9:=(i2.blk (g0.below b4.below) h8).only b5 Do
 refine xlv 32 (g9.rpp 4 2) ?_
 refine xa 0 [V0 0,V0 0] 151 fun u8 v1 a7=>?_
 have h1:=a7.ne g9
 have i5:=(i2.blk (i7.below b4.below) h3).only b5 Do
 have g5:=a7.ne i5
 have f7:=o7.only b5 Do
 have d1:=a7.ne f7
 have f8:=d8.trans h5
 have s0:=a7.ge f8
 refine xsv 0 a7.blk [V0 s.dslots,V0 4] fun t8 h2 n0=>?_
 refine xb 6 0 n0 ?_
 refine xb 1 1 n0 ?_
 have j0:=h2.blkT ((k3.only b5 Do).below a7.below) a7.blk Do
 have e8:=h2.blkT ((f4.only b5 Do).below a7.below) a7.blk Do
 have m8:=h2.own2 (Zb hc a7.below) a7.blk Do
 have b2:=h2.below (bln f8 a7.below) s0
 refine xc 0 ((Zar (s.blocks.toNat+1) w.heap.size Bi b b6 br pi ni ci l g s.blocks.toNat) c2 s.dslots 4 _ ⟨hI.below b2,j0,e8,m8,m0.1,b2.size⟩ M0 M0 Do Do) ?_
 rintro e s3 m6
 rcases m6 with ⟨a0,c0,vr,rfl,i0,a8,c8⟩|⟨a0,rfl,i0,a8,hc⟩
 ·have b9:=p1.bad (x:=(s.dslots,4,0)) a0 [(s.dover,5,0),(s.mindex,6,0),(s.mover,5,0)]
  have j4:=b2.trans i0
  refine xe 23 (.tuple #[S0,.iface c0 (vr)]) ?_
  exact Mo ((Wp c9).trans b9) a0 j4 c8
 obtain⟨c3,i3⟩:∃ c,(Xp l (s.blocks.toNat+1) c2 (s.dslots,4,0)).1=c:=⟨_,rfl⟩
 rw[i3] at hc
 have o8:Vf (Xp l (s.blocks.toNat+1)) (Ri s.blocks.toNat) [(s.top,1,0),(s.details,3,0),(s.dslots,4,0)] c3:=p1.more i3 a0
 have l9:=o8.well
 rw[Gq] at l9
 have s7:phi c3≤30000000:=by have:=l9.2.2;simp only[C7,D6] at this;omega
 have v6:zer c3<s.blocks.toNat+1:=by have:=l9.2.1;omega
 have h9:=(h2.blk (g9.below a7.below) h1).only a8 Do
 refine xlv 32 (h9.rpp 6 2) ?_
 refine xa 0 [V0 0,V0 0] 151 fun u2 v0 a3=>?_
 have g1:=a3.ne h9
 have k2:=(h2.blk (i5.below a7.below) g5).only a8 Do
 have h7:=a3.ne k2
 have e5:=(h2.blk (f7.below a7.below) d1).only a8 Do
 have d6:=a3.ne e5
 have f0:=n0.only a8 Do
 have d5:=a3.ne f0
 have f2:=b2.trans i0
 have r7:=a3.ge f2
 refine xsv 0 a3.blk [V0 s.dover,V0 5] fun s5 f5 o1=>?_
 refine xb 6 0 o1 ?_
 refine xb 1 1 o1 ?_
 have l0:=f5.blkT ((j0.only a8 Do).below a3.below) a3.blk Do
 have f1:=f5.blkT ((e8.only a8 Do).below a3.below) a3.blk Do
 have n5:=f5.own2 (Zb hc a3.below) a3.blk Do
 have b0:=f5.below (bln f2 a3.below) r7
 refine xc 0 ((Zar (s.blocks.toNat+1) w.heap.size Bi b b6 br pi ni ci l g s.blocks.toNat) c3 s.dover 5 _ ⟨hI.below b0,l0,f1,n5,l9.1,b0.size⟩ M0 M0 Do Do) ?_
 rintro e t3 p7
 rcases p7 with ⟨a0,c0,vr,rfl,f9,a4,c8⟩|⟨a0,rfl,f9,a4,hc⟩
 ·have b9:=o8.bad (x:=(s.dover,5,0)) a0 [(s.mindex,6,0),(s.mover,5,0)]
  have j3:=b0.trans f9
  refine xe 23 (.tuple #[S0,.iface c0 (vr)]) ?_
  exact Mo ((Wp c9).trans b9) a0 j3 c8
 obtain⟨c4,q4⟩:∃ c,(Xp l (s.blocks.toNat+1) c3 (s.dover,5,0)).1=c:=⟨_,rfl⟩
 rw[q4] at hc
 have o2:Vf (Xp l (s.blocks.toNat+1)) (Ri s.blocks.toNat) [(s.top,1,0),(s.details,3,0),(s.dslots,4,0),(s.dover,5,0)] c4:=o8.more q4 a0
 have l7:=o2.well
 rw[Gq] at l7
 have v3:phi c4≤30000000:=by have:=l7.2.2;simp only[C7,D6] at this;omega
 have t7:zer c4<s.blocks.toNat+1:=by have:=l7.2.1;omega
 have h4:=(f5.blk (h9.below a3.below) g1).only a4 Do
 refine xlv 32 (h4.rpp 8 2) ?_
 refine xa 0 [V0 0,V0 0] 151 fun v4 u0 a1=>?_
 have i1:=a1.ne h4
 have l4:=(f5.blk (k2.below a3.below) h7).only a4 Do
 have h0:=a1.ne l4
 have e7:=(f5.blk (e5.below a3.below) d6).only a4 Do
 have d0:=a1.ne e7
 have e3:=(f5.blk (f0.below a3.below) d5).only a4 Do
 have d2:=a1.ne e3
 have e6:=o1.only a4 Do
 have d3:=a1.ne e6
 have e2:=b0.trans f9
 have r8:=a1.ge e2
 refine xsv 0 a1.blk [V0 s.mindex,V0 (-1)] fun v9 d4 n9=>?_
 refine xb 6 0 n9 ?_
 refine xb 1 1 n9 ?_
 have k7:=d4.blkT ((l0.only a4 Do).below a1.below) a1.blk Do
 have f3:=d4.blkT ((f1.only a4 Do).below a1.below) a1.blk Do
 have o9:=d4.own2 (Zb hc a1.below) a1.blk Do
 have a9:=d4.below (bln e2 a1.below) r8
 refine xc 0 ((Zar (s.blocks.toNat+1) w.heap.size Bi b b6 br pi ni ci l g s.blocks.toNat) c4 s.mindex 6 _ ⟨hI.below a9,k7,f3,o9,l7.1,a9.size⟩ M0 M0 Do Do) ?_
 rintro e t4 p6
 rcases p6 with ⟨a0,c0,vr,rfl,h6,a2,c8⟩|⟨a0,rfl,h6,a2,hc⟩
 ·have b9:=o2.bad (x:=(s.mindex,6,0)) a0 [(s.mover,5,0)]
  have j6:=a9.trans h6
  refine xe 23 (.tuple #[S0,.iface c0 (vr)]) ?_
  exact Mo ((Wp c9).trans b9) a0 j6 c8
 obtain⟨c5,r1⟩:∃ c,(Xp l (s.blocks.toNat+1) c4 (s.mindex,6,0)).1=c:=⟨_,rfl⟩
 rw[r1] at hc
 have n2:Vf (Xp l (s.blocks.toNat+1)) (Ri s.blocks.toNat) [(s.top,1,0),(s.details,3,0),(s.dslots,4,0),(s.dover,5,0),(s.mindex,6,0)] c5:=o2.more r1 a0
 have l5:=n2.well
 rw[Gq] at l5
 have s6:phi c5≤30000000:=by have:=l5.2.2;simp only[C7,D6] at this;omega
 have u4:zer c5<s.blocks.toNat+1:=by have:=l5.2.1;omega
 have k1:=(d4.blk (h4.below a1.below) i1).only a2 Do
 refine xlv 32 (k1.rpp 10 2) ?_
 refine xa 0 [V0 0,V0 0] 151 fun v8 t1 a6=>?_
 have o3:=a6.ne k1
 have m5:=(d4.blk (l4.below a1.below) h0).only a2 Do
 have o0:=a6.ne m5
 have k5:=(d4.blk (e7.below a1.below) d0).only a2 Do
 have l8:=a6.ne k5
 have i4:=(d4.blk (e3.below a1.below) d2).only a2 Do
 have m3:=a6.ne i4
 have i8:=(d4.blk (e6.below a1.below) d3).only a2 Do
 have l6:=a6.ne i8
 have l2:=n9.only a2 Do
 have m4:=a6.ne l2
 have e4:=a9.trans h6
 have s1:=a6.ge e4
 refine xsv 0 a6.blk [V0 s.mover,V0 5] fun v7 m1 q5=>?_
 refine xb 6 0 q5 ?_
 refine xb 1 1 q5 ?_
 have j9:=m1.blkT ((k7.only a2 Do).below a6.below) a6.blk Do
 have f6:=m1.blkT ((f3.only a2 Do).below a6.below) a6.blk Do
 have o6:=m1.own2 (Zb hc a6.below) a6.blk Do
 have a5:=m1.below (bln e4 a6.below) s1
 refine xc 0 ((Zar (s.blocks.toNat+1) w.heap.size Bi b b6 br pi ni ci l g s.blocks.toNat) c5 s.mover 5 _ ⟨hI.below a5,j9,f6,o6,l5.1,a5.size⟩ M0 M0 Do Do) ?_
 rintro e v5 p2
 rcases p2 with ⟨a0,c0,vr,rfl,e0,g2,c8⟩|⟨a0,rfl,e0,g2,hc⟩
 ·have b9:=n2.bad (x:=(s.mover,5,0)) a0 []
  have l1:=a5.trans e0
  refine xe 23 (.tuple #[S0,.iface c0 (vr)]) ?_
  exact Mo ((Wp c9).trans b9) a0 l1 c8
 obtain⟨c6,q3⟩:∃ c,(Xp l (s.blocks.toNat+1) c5 (s.mover,5,0)).1=c:=⟨_,rfl⟩
 rw[q3] at hc
 have p4:Vf (Xp l (s.blocks.toNat+1)) (Ri s.blocks.toNat) [(s.top,1,0),(s.details,3,0),(s.dslots,4,0),(s.dover,5,0),(s.mindex,6,0),(s.mover,5,0)] c6:=n2.more q3 a0
 have j7:=p4.well
 rw[Gq] at j7
 have u3:phi c6≤30000000:=by have:=j7.2.2;simp only[C7,D6] at this;omega
 have s4:zer c6<s.blocks.toNat+1:=by have:=j7.2.1;omega
 have o4:=j9.only g2 Do
 refine xb 35 1 o4 ?_
 have j2:=f6.only g2 Do
 refine xc 0 (Zhj br g s.blocks.toNat w.heap.size c6 _ j2 hc (j7.1) M0) ?_
 rintro _ t5 ⟨_,rfl,p0,q9,d9,rfl,r5⟩
 have n4:=(a5.trans e0).size
 have l3:=Zf r5 n4
 have j8:=bln (a5.trans e0) p0
 refine xe 5 (.tuple #[.slice q9 s.blocks.toNat d9,.nilIface]) ?_
 have e9:=Wp (l:=l) c9
 exact cnts_ok (by rw[e9];exact p4.1) (by rw[e9];exact p4.2) j7.1 j8 l3
end Go.Proofs.YtceeiinepijokaaGreatDoor
namespace Go.Proofs.YtceeiinepijokaaGreatDoor
set_option maxHeartbeats 8000000
set_option maxRecDepth 100000
open Go.RowKit Go.Extern.Stop Go.Stop Go.Extern
set_option linter.unusedVariables false
attribute [local irreducible] wpList wpAnyH Code.wp Oper.wp Go
variable {t u v:Int} {x k:Nat} {L:List Dv}
theorem Oe(n:Nat):((List.range n).flatMap fun _:Nat=>([]:List Nat))=[]:=by simp
theorem LayF.tells(h:LayF t u v x k L){a b:List Jo}{y:Jo}(e:F2 L=a++y::b){G:Nat→List Nat}(hD:Cz y.1 true→∀ k,k<y.2.length→G k=[])
 (hG:¬ Cz y.1 true→∀ i,i<y.2.length→∃ z,(∀ no:Int,Zfj no y.1 true (y.2.getD i Zo).2.1=z)∧Qs (Qb t u v x L k) [z] (G i)) (hd:∀ i j,i<j→j<y.2.length→∀ b∈G j,b∉G i) (hfr:∀ i,i<y.2.length→∀ b∈G i,b<1+Xj a∨1+Xj a+Ve y≤b) :
 ∃ S,Qs (Qb t u v x L k) [(((Xj (a++[y]):Nat):Int),y.1,0)] S∧S.Perm (rng (1+Xj a) (Ve y)++(List.range y.2.length).flatMap G):=by
 have hf:=h.fits
 have hk:=Hc x L
 have a2:=h.few
 have hy:=h.trees y (by rw[e];simp)
 obtain⟨W,hW,a0⟩:=h.tree e
 have hn:Xj (F2 L)=Xj a+(Ve y+Xj b):=by rw[e];exact Gp a (y::b)
 have a1:Ve y=Xk y.1 y.2.length:=rfl
 have hp:=Ww y
 have s:=Lf (G:=G) (q:=1+Xj a) (bs:=W) hW hy.1 hy.2.1 hy.2.2.1 M0 (by rw[a0];omega) M0 hD hG hd hfr
 rw[Ub,show 1+Xj a+Xk y.1 y.2.length-1=Xj (a++[y]) by rw[Qq];omega] at s
 exact s
theorem dead_2:Cz 2 true:=⟨rfl,by decide,by decide⟩
theorem dead_3:Cz 3 true:=⟨rfl,by decide,by decide⟩
theorem dead_5:Cz 5 true:=⟨rfl,by decide,by decide⟩
theorem LayF.tells0(h:LayF t u v x k L){a b:List Jo}{y:Jo}(e:F2 L=a++y::b)(hdd:Cz y.1 true):Qs (Qb t u v x L k) [(((Xj (a++[y]):Nat):Int),y.1,0)] (rng (1+Xj a) (Ve y)):=by
 obtain⟨S,hS,hp⟩:=h.tells e (G:=fun _=>[]) (fun _ _ _=>rfl) (fun q=>absurd hdd q) (fun _ _ _ _ b hb=>by cases hb) (fun _ _ b hb=>by cases hb)
 rw[Oe,G0] at hp
 exact hS.perm hp
theorem LayF.tell_dev(h:LayF t u v x k L){i:Nat}(hi:i<L.length):Qs (Qb t u v x L k) [(((Pk L i:Nat):Int),2,0)] (rng (1+Xj (Ua (L.take i))) (Ve (2,Hy (L.getD i dvD).2))):=by
 have s:=h.tells0 (Zui hi) dead_2
 rw[Qq,←Fb hi] at s
 exact s
theorem takeT_le{i j:Nat}(h:i≤j):Xj (Ua (L.take i))≤Xj (Ua (L.take j)):=by
 have:=Za3 (L:=L.take j) i
 rwa [O7,H3 h] at this
theorem Zxq{i j:Nat}(hi:i<j)(hl:i<L.length):Xj (Ua (L.take i))+Ve (2,Hy (L.getD i dvD).2)≤Xj (Ua (L.take j)):=by
 rw[←Fb hl]
 exact takeT_le hi
theorem Zlz:∀ n,n≤L.length→((List.range n).flatMap fun i=>rng (1+Xj (Ua (L.take i))) (Ve (2,Hy (L.getD i dvD).2)))=rng 1 (Xj (Ua (L.take n)))
 | 0,_=>by simp[rng,Ua,Xj]
 | n+1,h=>by
  rw[C3,C8,Zlz n M0]
  have e:Xj (Ua (L.take (n+1)))=Xj (Ua (L.take n))+Ve (2,Hy (L.getD n dvD).2):=Fb (L:=L) (i:=n) M0
  rw[e,Dn]
  simp
theorem Zmh{a n m:Nat}:(rng (a+n) m++rng a n).Perm (rng a (n+m)):=by
 rw[Dn]
 exact P7
theorem top_val{i:Nat}(hi:i<L.length)(h1:1≤Pk L i)(h2:Pk L i≤14399)(no:Int):Zfj no 1 true ((Nb L (Pk L)).getD i Zo).2.1=(((Pk L i:Nat):Int),2,0):=by
 rw[Gz hi]
 obtain⟨a,b⟩:=Ar h1 h2
 unfold Zfj
 rw[if_neg (fun q=>absurd q.2 Do),if_neg (fun q=>q a),b]
 rfl
theorem LayF.tell_top(h:LayF t u v x k L):Qs (Qb t u v x L k) [(((Xj (F1 L):Nat):Int),1,0)] (rng 1 (Xj (F1 L))):=by
 have a0:=h.devs
 obtain⟨S,hS,hp⟩:=h.tells (F2_top L) (G:=fun i=>rng (1+Xj (Ua (L.take i))) (Ve (2,Hy (L.getD i dvD).2))) (fun q=>absurd rfl q.2.1)
  (fun _ i hi=>⟨_,fun no=>top_val (by rwa [Qk] at hi) (a0.root i (by rwa [Qk] at hi)).1 (a0.root i (by rwa [Qk] at hi)).2 no,h.tell_dev (by rwa [Qk] at hi)⟩)
  (fun i j a1 hj b hb hq=>by
   rw[Qk] at hj
   have:=Zxq (L:=L) a1 M0
   have:=Jc.1 hb
   have:=Jc.1 hq
   omega)
  (fun i hi b hb=>by
   rw[Qk] at hi
   have:=Zxq (L:=L) (i:=i) (j:=L.length) hi hi
   rw[K2] at this
   have:=Jc.1 hb
   omega)
 rw[Qk,Zlz _ (At _),K2] at hp
 have e:Xj (F1 L)=Xj (Ua L)+Ve (1,Nb L (Pk L)):=Qq _ _
 rw[show Ua L++[(1,Nb L (Pk L))]=F1 L from rfl] at hS
 rw[e] at hS ⊢
 exact hS.perm (hp.trans Zmh)
theorem LayF.tell_det(h:LayF t u v x k L):Qs (Qb t u v x L k) [(((Xj (F2 L):Nat):Int),3,0)] (rng (1+Xj (F1 L)) (Ve (3,Pm L (Hw L)))):=h.tells0 (a:=F1 L) (y:=(3,Pm L (Hw L))) (b:=[]) rfl dead_3
end Go.Proofs.YtceeiinepijokaaGreatDoor
