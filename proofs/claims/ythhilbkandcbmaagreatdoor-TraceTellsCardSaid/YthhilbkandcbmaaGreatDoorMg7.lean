/- lay.Lay. -/
import Derived.Test.YthhilbkandcbmaaGreatDoorMg6
namespace Go.Proofs.YthhilbkandcbmaaGreatDoor
set_option maxHeartbeats 8000000
set_option maxRecDepth 100000
open Go.RowKit Go.Extern.Stop Go.Stop Go.Extern
set_option linter.unusedVariables false
attribute [local irreducible] wpList wpAnyH Code.wp Oper.wp Go
def LayO(l:Bl)(k:Nat)(w:World)(e:Ending)(w':World):Prop:=∃ bi g ci,e=.returned (.tuple #[P0 bi,.nilIface])∧B3 w w'∧ImgR w.heap.size bi (S1 g) (k*256) ci l w'
theorem lay_LayY(p:O0)(c n x k:Nat)(t u v:Int)(Z:List Zv)(w:World)(hZ:Z.length=n)(hP:DevsR w p c Z)(hk:PoolOk t u v (x:Int) (Z.map Prod.fst))(hk3:k≤3000)(hr:Pp x (Z.map Prod.fst)≤k) :
 C0 14 #[.agg #[V0 t,V0 u,V0 v,V0 (x:Int),.slice p n c],V0 (k:Int)] w (LayO (Cw t u v x (Z.map Prod.fst) k) k w):=by
 have c5:k≤14400:=by omega
 refine calls_of_wp_defers Tryz.func14 rfl ?_
 refine g_fr ⟨#[.agg #[V0 t,V0 u,V0 v,V0 (x:Int),.slice p n c],V0 (k:Int),undef,undef,undef,undef,undef,undef,undef,undef,undef,undef,undef,undef,undef,undef,undef,undef,undef,undef,undef,undef,undef,undef,undef,undef,undef,undef,undef,undef,undef,undef,undef,undef,undef,undef,undef,undef,undef,undef,undef,undef],[]⟩ (by kernel_rfl) ?_
 refine wp_seq ?_
 refine wp_region_lit ?_
 refine Ko (by kernel_rfl) (Zdr [V0 t,V0 u,V0 v,V0 (x:Int),.slice p n c] rfl (by kernel_rfl) ?_)
 intro b1 W1 n1
 have g1:=n1.ge (B4 w)
 have hB:=n1.below
 have k1:=n1.blk
 refine Ko (by kernel_rfl) (Wt [.pointer none] rfl (by kernel_rfl) ?_)
 intro b2 W2 n2
 have a6:=n2.ne k1
 have g2:=n2.ge hB
 replace hB:=bln hB n2.below
 replace k1:=k1.below n2.below
 have k2:=n2.blk
 refine Ko (by kernel_rfl) (Wt [.nilIface] rfl (by kernel_rfl) ?_)
 intro b3 W3 n3
 have a7:=n3.ne k1
 have a1:=n3.ne k2
 have g3:=n3.ge hB
 replace hB:=bln hB n3.below
 replace k1:=k1.below n3.below
 replace k2:=k2.below n3.below
 have k3:=n3.blk
 refine wpList_nil ?_
 refine wp_seq ?_
 refine wp_region_lit ?_
 refine Hk 1 [(9,.func (.func 23) #[] #[P0 b2,P0 b3])] (by kernel_rfl) ?_
 refine Ko (by kernel_rfl) (op_deferV (f:=23) (cap:=#[P0 b2,P0 b3]) rfl (by kernel_rfl) ?_)
 refine wpList_nil ?_
 refine wp_seq ?_
 refine wp_seq ?_
 refine wp_region_lit ?_
 refine Ko (by kernel_rfl) (Ml (b:=b1) (off:=0) [V0 t,V0 u,V0 v,V0 (x:Int),.slice p n c] _ rfl (by kernel_rfl) Tryz.underlying53 rfl (by kernel_rfl) k1.whole ?_)
 refine Ko (by kernel_rfl) (Qm (lb:=#[]) 24 #[.agg #[V0 t,V0 u,V0 v,V0 (x:Int),.slice p n c]] rfl (by kernel_rfl) (fun _ _=>by kernel_rfl) (by kernel_rfl) ((Lp p c n t u v (x:Int) Z _ hZ (hP.below hB)).mono ?_))
 rintro e W4 ⟨rfl,b5⟩
 refine⟨_,rfl,?_⟩
 replace hB:=bln hB b5
 replace k1:=k1.below b5
 replace k2:=k2.below b5
 replace k3:=k3.below b5
 refine Hk 1 [(6,V0 (Hl t u v (x:Int) (Z.map Prod.fst)))] (by kernel_rfl) ?_
 refine wpList_nil ?_
 refine wp_seq ?_
 refine wp_region_lit ?_
 refine Hk 2 [(12,V0 (Hl t u v (x:Int) (Z.map Prod.fst))),(13,.bool ((Hl t u v (x:Int) (Z.map Prod.fst)) != (0:Int)))] (by kernel_rfl) ?_
 refine wpList_nil ?_
 refine wp_cond_split (t:=((Hl t u v (x:Int) (Z.map Prod.fst)) != (0:Int))) (by kernel_rfl) (fun hh=>absurd (hh.symm.trans (show(((Hl t u v (x:Int) (Z.map Prod.fst)) != (0:Int)):Bool)=false from(by rw[Am.2 hk];rfl))) (by decide)) (fun _=>?_)
 refine wp_skip ?_
 refine wp_seq ?_
 refine wp_region_lit ?_
 refine Hk 1 [(17,V0 (k:Int))] (by kernel_rfl) ?_
 have b9:w.heap.size≤W4.heap.size:=hB.size
 have c2:=k2.lt
 have c4:=k3.lt
 refine Ko (by kernel_rfl) (Qm (lb:=#[]) 25 #[V0 (k:Int)] rfl (by kernel_rfl) (fun _ _=>by kernel_rfl) (by kernel_rfl) ((Zfg k _ (by omega)).mono ?_))
 rintro e W6 ⟨_,rfl,b0,bi,pi,ci,rfl,gi,hI⟩
 refine⟨_,rfl,?_⟩
 replace hB:=bln hB b0
 replace k1:=k1.below b0
 replace k2:=k2.below b0
 replace k3:=k3.below b0
 refine Hk 3 [(16,.tuple #[P0 bi,V0 0]),(19,P0 bi),(20,V0 0)] (by kernel_rfl) ?_
 refine Ko (by kernel_rfl) (Kg (v:=P0 bi) (b:=b2) (off:=0) rfl (by kernel_rfl) (by kernel_rfl) (by kernel_rfl) rfl k2 (by first|decide|simp) ?_)
 intro W7 u7 k7
 change Blk _ _ [P0 bi] _ at k7
 replace hB:=u7.below hB g2
 replace k1:=u7.blk k1 (Ne.symm (Ne.symm a6))
 replace k3:=u7.blk k3 (Ne.symm a1)
 replace hI:=hI.only (Zg.of_upd (T:=[24]) u7 k2 (by decide)) (by decide)
 refine Hk 1 [(7,V0 0)] (by kernel_rfl) ?_
 refine wpList_nil ?_
 refine wp_seq ?_
 refine wp_seq ?_
 refine wp_region_lit ?_
 refine Hk 2 [(21,V0 0),(22,.bool false)] (by kernel_rfl) ?_
 refine wpList_nil ?_
 refine wp_cond_false (by kernel_rfl) ?_
 refine wp_skip ?_
 refine wp_seq ?_
 refine wp_seq ?_
 refine wp_region_lit ?_
 refine Ko (by kernel_rfl) (Ml (b:=b1) (off:=0) [V0 t,V0 u,V0 v,V0 (x:Int),.slice p n c] _ rfl (by kernel_rfl) Tryz.underlying53 rfl (by kernel_rfl) k1.whole ?_)
 refine Hk 1 [(26,V0 (k:Int))] (by kernel_rfl) ?_
 refine Ko (by kernel_rfl) (Qm (lb:=#[]) 26 #[.agg #[V0 t,V0 u,V0 v,V0 (x:Int),.slice p n c],V0 (k:Int)] rfl (by kernel_rfl) (fun _ _=>by kernel_rfl) (by kernel_rfl) ((Zhk p c n x k t u v Z _ hZ (hP.below hB) hk hr c5).mono ?_))
 rintro e W8 ⟨rfl,a9⟩
 refine⟨_,rfl,?_⟩
 replace hB:=bln hB a9
 replace k1:=k1.below a9
 replace k7:=k7.below a9
 replace k3:=k3.below a9
 replace hI:=hI.below a9
 refine Hk 1 [(28,.bool false)] (by kernel_rfl) ?_
 refine wpList_nil ?_
 refine wp_cond_false (by kernel_rfl) ?_
 refine wp_skip ?_
 refine wp_seq ?_
 refine wp_region_lit ?_
 refine Ko (by kernel_rfl) (Vi ⟨b2,0,none⟩ (P0 bi) rfl (by kernel_rfl) (by kernel_rfl) (k7.cell (i:=0) rfl) ?_)
 have c7:Pp x (Z.map Prod.fst)≥3:=by unfold Pp Zcg;omega
 have c1:W4.heap.size≤(W8).heap.size:=Nat.le_trans gi (Nat.le_of_lt hI.blk.lt)
 obtain⟨g,rfl,c3⟩:=hI.base (by omega)
 refine Ko (by kernel_rfl) (Qm (lb:=#[]) 27 #[P0 bi,V0 1] rfl (by kernel_rfl) (fun _ _=>by kernel_rfl) (by kernel_rfl) ((Zha bi (S1 g) (k*256) ci 1 (k-1) (1:Int) rfl (by omega) _ hI.blk (by omega) (by decide) (by omega)).mono ?_))
 rintro e W9 ⟨_,rfl,a4,ba,pa,ca,rfl,ga,ka,ho⟩
 refine⟨_,rfl,?_⟩
 replace hB:=bln hB a4
 replace k1:=k1.below a4
 replace k7:=k7.below a4
 replace k3:=k3.below a4
 replace hI:=hI.below a4
 have hA:AlF (W4.heap.size) ba bi g (k*256) ci pa ca (k-1) (List.replicate (k*256) (0:UInt8)) [] _:=⟨ka,hI.blk,hI.row,Ze ho c1⟩
 have hC:AlC (W4.heap.size) ba (k*256) ci ca 1 (k-1):=⟨by omega,c3,Zbd ho (by omega),by omega,Nat.le_trans c1 ga⟩
 refine Hk 4 [(30,.tuple #[P0 ba,.nilIface]),(33,P0 ba),(34,.nilIface),(8,P0 ba)] (by kernel_rfl) ?_
 refine Ko (by kernel_rfl) (Kg (v:=.nilIface) (b:=b3) (off:=0) rfl (by kernel_rfl) (by kernel_rfl) (by kernel_rfl) rfl k3 (by first|decide|simp) ?_)
 intro c6 b6 a8
 change Blk _ _ [.nilIface] _ at a8
 replace hB:=b6.below hB g3
 replace k1:=b6.blk k1 (Ne.symm (Ne.symm a7))
 replace k7:=b6.blk k7 (Ne.symm (Ne.symm a1))
 replace hA:=hA.only (Zg.of_upd (T:=[32]) b6 k3 (by decide)) (by decide)
 refine wpList_nil ?_
 refine wp_seq ?_
 refine wp_region_lit ?_
 refine Ko (by kernel_rfl) (Vi ⟨b3,0,none⟩ .nilIface rfl (by kernel_rfl) (by kernel_rfl) (a8.cell (i:=0) rfl) ?_)
 refine Ko (by kernel_rfl) (Qm (lb:=#[]) 28 #[.nilIface] rfl (by kernel_rfl) (fun _ _=>by kernel_rfl) (by kernel_rfl) ((Vo _).mono ?_))
 rintro e d1 ⟨rfl,a2⟩
 refine⟨_,rfl,?_⟩
 replace hB:=bln hB a2
 replace k1:=k1.below a2
 replace k7:=k7.below a2
 replace a8:=a8.below a2
 replace hA:=hA.below a2
 refine wpList_nil ?_
 refine wp_seq ?_
 refine wp_region_lit ?_
 refine Hk 2 [(37,P0 ba),(38,.agg #[P0 ba])] (by kernel_rfl) ?_
 refine Ko (by kernel_rfl) (Ml (b:=b1) (off:=0) [V0 t,V0 u,V0 v,V0 (x:Int),.slice p n c] _ rfl (by kernel_rfl) Tryz.underlying53 rfl (by kernel_rfl) k1.whole ?_)
 refine Ko (by kernel_rfl) (Qm (lb:=#[]) 29 #[.agg #[P0 ba],.agg #[V0 t,V0 u,V0 v,V0 (x:Int),.slice p n c]] rfl (by kernel_rfl) (fun _ _=>by kernel_rfl) (by kernel_rfl) ((lay_all (W4.heap.size) ba bi g ci pa ca (k-1) k p c n x t u v Z (Z.map Prod.fst) _ hZ rfl hk (fun W h=>hP.below (hB.trans (h.mono b9))) rfl hC hA hr hk3 (Nat.le_trans gi (Nat.le_of_lt hA.blkI.lt))).mono ?_))
 rintro e c9 ⟨rfl,a5,hI⟩
 refine⟨_,rfl,?_⟩
 have a3:=k7.below' a5 c2
 have a0:=a8.below' a5 c4
 replace hB:=hB.trans (a5.mono b9)
 refine wpList_nil ?_
 refine wp_seq ?_
 refine wp_region_lit ?_
 refine Ko (by kernel_rfl) (Vi ⟨b2,0,none⟩ (P0 bi) rfl (by kernel_rfl) (by kernel_rfl) (a3.cell (i:=0) rfl) ?_)
 refine Ko (by kernel_rfl) (Kg (v:=P0 bi) (b:=b2) (off:=0) rfl (by kernel_rfl) (by kernel_rfl) (by kernel_rfl) rfl a3 (by first|decide|simp) ?_)
 intro d0 b7 b4
 change Blk _ _ [P0 bi] _ at b4
 replace hB:=b7.below hB g2
 replace a0:=b7.blk a0 (Ne.symm a1)
 replace hI:=hI.only (Zg.of_upd (T:=[24]) b7 a3 (by decide)) (by decide)
 refine Ko (by kernel_rfl) (Kg (v:=.nilIface) (b:=b3) (off:=0) rfl (by kernel_rfl) (by kernel_rfl) (by kernel_rfl) rfl a0 (by first|decide|simp) ?_)
 intro c8 b8 c0
 change Blk _ _ [.nilIface] _ at c0
 replace hB:=b8.below hB g3
 replace b4:=b8.blk b4 (Ne.symm (Ne.symm a1))
 replace hI:=hI.only (Zg.of_upd (T:=[32]) b8 a0 (by decide)) (by decide)
 refine wpList_nil ?_
 refine wp_ret ?_
 refine g_retD 23 #[P0 b2,P0 b3] (.tuple #[P0 bi,.nilIface]) rfl (fun _=>by kernel_rfl) (lay_idle b2 b3 _) fun W9 a4=>⟨res_kk rfl (by kernel_rfl) (by kernel_rfl) (b4.below a4) (c0.below a4) (by kernel_rfl) (by kernel_rfl),?_⟩
 exact⟨_,_,_,rfl,hB.trans (a4.mono hB.size),⟨hI.blk.below a4,Ze (Zb hI.row a4) b9,hI.hn⟩⟩
theorem levB_succ{t:Int}{leaf:Bool}{m v:Nat}{l:List Ent}{q:Nat}{bs:Bl}(j:Nat):Zat t leaf m v l q bs (j+1)=Vu (Zat t leaf m v l q bs j) ((q+j)*256) (Xw 2 ((q+j:Nat):Int) (Zc1 t leaf m v (Xm l m j))):=rfl
theorem Za5{t:Int}{leaf:Bool}{m v:Nat}{l:List Ent}{q:Nat}{bs:Bl}(E:EntsOk v l)(h1:1≤t)(h2:t≤5)(hm:Qi t leaf=m)(hv:Ht t leaf=v)(hl:leaf=false→1≤l.length)(j:Nat) :
 j≤ovN l.length m→(q+j)*256≤bs.length→(Zat t leaf m v l q bs j).length=bs.length∧(∀ i,i<j→Qj (Zat t leaf m v l q bs j) (q+i)=Xw 2 ((q+i:Nat):Int) (Zc1 t leaf m v (Xm l m i)))∧(∀ x,x<q→Qj (Zat t leaf m v l q bs j) x=Qj bs x):=by
 induction j with
 | zero=>exact fun _ _=>⟨rfl,fun i hi=>absurd hi (Nat.not_lt_zero i),fun x _=>rfl⟩
 | succ j ih =>
  intro hj hq
  obtain⟨a1,a2,a3⟩:=ih (by omega) (by omega)
  have a4:=Dc (Ii E h1 h2 hm hv hl (show j<ovN l.length m by omega))
  have a0:(Xw 2 ((q+j:Nat):Int) (Zc1 t leaf m v (Xm l m j))).length=256:=Ql (by rw[a4];decide)
  rw[levB_succ]
  generalize Zat t leaf m v l q bs j=y at a1 a2 a3 ⊢
  generalize hx:Xw 2 ((q+j:Nat):Int) (Zc1 t leaf m v (Xm l m j))=x at a0 ⊢
  have hk:q+j<y.length/256:=by rw[a1];omega
  refine⟨?_,fun i hi=>?_,fun z hz=>?_⟩
  ·rw[Qg (by rw[a0,a1];omega),a1]
  ·by_cases e:i=j
   ·subst e;rw[hx];exact Dd a0 hk
   ·rw[Qx a0 hk (by omega) (by omega)];exact a2 i (by omega)
  ·rw[Qx a0 hk (by omega) (by omega)];exact a3 z hz
theorem Zcm{t:Int}(h1:1≤t)(h2:t≤5)(n:Nat):∀ (u:List Ent) (q:Nat) (bs:Bl),u.length=n→1≤n→EntsOk 4 u→(q+((Aa n).sum-n))*256≤bs.length→(Ul t u q bs).2.length=bs.length∧∀ x,x<q→Qj (Ul t u q bs).2 x=Qj bs x:=by
 induction n using Nat.strongRecOn with
 | _ n ih =>
  intro u q bs hn a5 E hq
  subst hn
  by_cases h:u.length≤1
  ·rw[Wn h];exact⟨rfl,fun _ _=>rfl⟩
  ·have a4:=ov18 (x:=u.length) (by omega)
   have hp:=Vj u.length 18
   have a0:(Aa u.length).sum=u.length+(Aa (ovN u.length 18)).sum:=by rw[Jl h];rfl
   have hg:=Na (ovN u.length 18)
   rw[Nf h]
   obtain⟨a1,a2,a3⟩:=Za5 (t:=t) (leaf:=false) (m:=18) (v:=4) (l:=u) (q:=q) (bs:=bs) E h1 h2 rfl rfl (fun _=>by omega) (ovN u.length 18) (Nat.le_refl _) (by omega)
   obtain⟨b1,b2⟩:=ih (ovN u.length 18) (by omega) (upE u 18 q (ovN u.length 18)) (q+ovN u.length 18) (Zat t false 18 4 u q bs (ovN u.length 18)) (Xu _ _ _ _) hp (up_ok E (by decide)) (by rw[a1];omega)
   exact⟨by rw[b1,a1],fun x hx=>by rw[b2 x (by omega),a3 x hx]⟩
theorem Vh{t:Int}{l:List Ent}{q:Nat}{bs:Bl}(h1:1≤t)(h2:t≤5)(E:EntsOk (Ht t true) l)(hq:(q+Xq t l.length)*256≤bs.length):(Yo t l q bs).2.length=bs.length∧∀ x,x<q→Qj (Yo t l q bs).2 x=Qj bs x:=by
 obtain⟨m,hm⟩:∃ m,Qi t true=m:=⟨_,rfl⟩
 have a0:=Qh t true
 have a4:=Vj l.length m
 have hg:=Na (ovN l.length m)
 have hN:Xq t l.length=(Aa (ovN l.length m)).sum:=by unfold Xq Hw;rw[hm]
 rw[hm] at a0
 rw[hN] at hq
 unfold Yo
 rw[hm]
 obtain⟨a1,a2,a3⟩:=Za5 (t:=t) (leaf:=true) (m:=m) (v:=Ht t true) (l:=l) (q:=q) (bs:=bs) E h1 h2 hm rfl (fun h=>by cases h) (ovN l.length m) (Nat.le_refl _) (by omega)
 obtain⟨b1,b2⟩:=Zcm (t:=t) h1 h2 (ovN l.length m) (upE l m q (ovN l.length m)) (q+ovN l.length m) (Zat t true m (Ht t true) l q bs (ovN l.length m)) (Xu _ _ _ _) a4 (up_ok E a0.1) (by rw[a1];omega)
 exact⟨by rw[b1,a1],fun x hx=>by rw[b2 x (by omega),a3 x hx]⟩
theorem Wj{L:List (List Int)}{q:Nat}{bs:Bl}:∀ n,(q+n)*256≤bs.length→(Kj L q bs n).length=bs.length
 | 0,_=>rfl
 | n+1,h=>by
  have ih:=Wj (L:=L) (q:=q) (bs:=bs) n (by omega)
  have hx:(Xw 3 ((q+n:Nat):Int) (Rj (L.getD n []))).length=256:=Ql (by unfold Rj;rw[Ju];decide)
  show(Vu (Kj L q bs n) ((q+n)*256) (Xw 3 ((q+n:Nat):Int) (Rj (L.getD n [])))).length=_
  rw[Qg (by rw[hx,ih];omega),ih]
theorem forB_len(r:List Hq):∀ (q:Nat) (bs:Bl),(∀ x∈r,Mk x)→(q+Xp r)*256≤bs.length→(Za8 r q bs).length=bs.length:=by
 induction r with
 | nil=>intro q bs _ _;rfl
 | cons x r ih =>
  intro q bs h hb
  have hx:=h x (by simp)
  rw[show Xp (x::r)=Vw x+Xp r from rfl] at hb
  have hk:=Vh (q:=q) (bs:=bs) hx.1 hx.2.1 hx.2.2.1 (by change (q+Vw x)*256≤_;omega)
  rw[show Za8 (x::r) q bs=Za8 r (q+Vw x) (Yo x.1 x.2 q bs).2 from rfl,ih _ _ (fun y hy=>h y (by simp[hy])) (by rw[hk.1];omega),hk.1]
theorem supN_bdL{s:Sup}(h:Xk s=true):s.blocks≤14400∧∀ x∈Sy s,0≤x∧x.toNat<256 ^ 4:=by
 unfold Xk at h
 simp only[Bool.and_eq_true,decide_eq_true_eq,true_and] at h
 refine⟨by omega,fun x hx=>?_⟩
 simp only[Sy,List.mem_cons,List.not_mem_nil,or_false] at hx
 rcases hx with rfl|rfl|rfl|rfl|rfl|rfl|rfl|rfl|rfl|rfl|rfl<;>omega
theorem nums_read(N:List Int)(Q:Bl)(h:∀ x∈N,0≤x∧x.toNat<256 ^ 4)(P:Bl)(i:Nat)(hi:i<N.length):(Zh (P++(Jv N++Q)) (P.length+i*4) 4:Int)=N.getD i 0:=by
 induction N generalizing P i with
 | nil=>simp at hi
 | cons n N ih =>
  have e:Jv (n::N)=leB n 4++Jv N:=rfl
  cases i with
  | zero =>
   have:=h n (by simp)
   rw[e,List.append_assoc]
   simpa using Kf (P:=P) (Q:=Jv N++Q) (k:=P.length) (w:=4) (x:=n) rfl this.1 this.2
  | succ i =>
   have a0:i<N.length:=by simpa using hi
   have:=ih (fun x hx=>h x (by simp[hx])) (P++leB n 4) i a0
   rw[e,List.append_assoc,←List.append_assoc P]
   rw[List.length_append,Zm] at this
   rw[show P.length+(i+1)*4=P.length+4+i*4 by omega,this]
   simp[List.getD]
theorem Lk{s:Sup}(h:Xk s=true):Zf (Hu s)=s∧Zh (Hu s) 8 4=1:=by
 have hb:=(supN_bdL h).2
 have g:=nums_read (1::Sy s) (List.replicate 188 0) (fun x hx=>by
  rcases List.mem_cons.1 hx with rfl|q
  ·decide
  ·exact hb x q) Hi
 have g:∀ i,i<12→(Zh (Hu s) (8+i*4) 4:Int)=(1::Sy s).getD i 0:=fun i hi=>by
  have:=g i (by show i<12;exact hi)
  rw[show Hi.length=8 from rfl] at this
  unfold Hu
  rw[List.append_assoc]
  exact this
 constructor
 ·unfold Zf
  rw[show(Zh (Hu s) 12 4:Int)=s.tx from g 1 (by decide),show(Zh (Hu s) 16 4:Int)=s.time from g 2 (by decide),show(Zh (Hu s) 20 4:Int)=s.unit from g 3 (by decide),show(Zh (Hu s) 24 4:Int)=s.data from g 4 (by decide),show(Zh (Hu s) 28 4:Int)=s.blocks from g 5 (by decide),show(Zh (Hu s) 32 4:Int)=s.top from g 6 (by decide),show(Zh (Hu s) 36 4:Int)=s.details from g 7 (by decide),show(Zh (Hu s) 40 4:Int)=s.dslots from g 8 (by decide),show(Zh (Hu s) 44 4:Int)=s.dover from g 9 (by decide),show(Zh (Hu s) 48 4:Int)=s.mindex from g 10 (by decide),show(Zh (Hu s) 52 4:Int)=s.mover from g 11 (by decide)]
 ·have:(Zh (Hu s) 8 4:Int)=1:=g 0 (by decide)
  omega
theorem Zgf{s:Sup}(h:Xk s=true):Fz (Hu s)=true:=by
 rw[Dl (Vq s),(Lk h).1,h];simp
theorem sup_back{F:Bl}{s:Sup}{k:Nat}(hl:F.length=k*256)(hk:1≤k)(hb:Qj F 0=Xw 1 ((0:Nat):Int) (Hu s))(hr:Xk s=true)(hs:s.blocks≤(k:Int)):Zz F=0∧Zf (inB F 0)=s:=by
 obtain⟨h1,h2⟩:=seal_in (l:=F) (kind:=1) (k:=0) (li:=Hu s) (by decide) (by decide) (by omega) (by decide) (Vq s) hb
 have h1:inE F 1 0=0:=h1
 have h2:inB F 0=Hu s:=h2
 refine⟨?_,by rw[h2];exact(Lk hr).1⟩
 unfold Zz
 rw[if_pos h1,h2]
 unfold Gj
 rw[if_pos (Zgf hr),(Lk hr).1,if_neg (by rw[hl];omega)]
theorem Ea{L:List (List Int)}{q:Nat}{bs:Bl}:∀ n,(q+n)*256≤bs.length→∀ x,x<q→Qj (Kj L q bs n) x=Qj bs x
 | 0,_,_,_=>rfl
 | n+1,h,x,hx=>by
  have ih:=Ea (L:=L) (q:=q) (bs:=bs) n (by omega) x hx
  have hl:=Wj (L:=L) (q:=q) (bs:=bs) n (by omega)
  have a0:(Xw 3 ((q+n:Nat):Int) (Rj (L.getD n []))).length=256:=Ql (by unfold Rj;rw[Ju];decide)
  show Qj (Vu (Kj L q bs n) ((q+n)*256) (Xw 3 ((q+n:Nat):Int) (Rj (L.getD n [])))) x=_
  rw[Qx a0 (by rw[hl];omega) (by omega) (by rw[hl];omega),ih]
theorem plot_keep{l:List Int}{q:Nat}{bs:Bl}(hl:l.length≤65536)(hb:(q+Uf l)*256≤bs.length):(Ad l q bs).2.2.length=bs.length∧∀ x,x<q→Qj (Ad l q bs).2.2 x=Qj bs x:=by
 obtain⟨N,hN⟩:∃ N,bmN l.length=N:=⟨_,rfl⟩
 obtain⟨L,hL⟩:∃ L,Xn (Zu l) N=L:=⟨_,rfl⟩
 obtain⟨O,hO⟩:∃ O,Zx l l.length=O:=⟨_,rfl⟩
 have a3:Uf l=N+Xq 4 N+Xq 5 O.length:=by unfold Uf;rw[hN,hO]
 have a2:N≤69:=by unfold bmN at hN;omega
 have ES:EntsOk (Ht 4 true) (Xz L q N):=So _ _ _ (by omega)
 have EO:EntsOk (Ht 5 true) O:=hO▸Ma _ _ (by omega)
 have a0:=Wj (L:=L) (q:=q) (bs:=bs) N (by omega)
 have a1:=Ea (L:=L) (q:=q) (bs:=bs) N (by omega)
 have k4:=Vh (t:=4) (l:=Xz L q N) (q:=q+N) (bs:=Kj L q bs N) (by decide) (by decide) ES (by rw[a0,Jd];omega)
 have k5:=Vh (t:=5) (l:=O) (q:=q+N+Xq 4 N) (bs:=(Yo 4 (Xz L q N) (q+N) (Kj L q bs N)).2) (by decide) (by decide) EO (by rw[k4.1,a0];omega)
 have hP:(Ad l q bs).2.2=(Yo 5 O (q+N+Xq 4 N) (Yo 4 (Xz L q N) (q+N) (Kj L q bs N)).2).2:=by
  unfold Ad;simp only[hN,hL,hO]
 rw[hP]
 exact⟨by rw[k5.1,k4.1,a0],fun x hx=>by rw[k5.2 x (by omega),k4.2 x (by omega),a1 x hx]⟩
theorem meta_keep{l:List Int}{u:Nat}{bs:Bl}(hl:l.length≤3000)(hb:(u+Yq l)*256≤bs.length):(Ct l u 0 bs).2.2.length=bs.length∧∀ x,x<u→Qj (Ct l u 0 bs).2.2 x=Qj bs x:=by
 obtain⟨N,hN⟩:∃ N,bmN l.length=N:=⟨_,rfl⟩
 obtain⟨O,hO⟩:∃ O,Zx l l.length=O:=⟨_,rfl⟩
 obtain⟨T,hT⟩:∃ T,Xq 5 O.length=T:=⟨_,rfl⟩
 have hm:Yq l=T+N+1:=by unfold Yq;rw[hN,hO,hT]
 obtain⟨B,hB⟩:∃ B,Qw l u (Yq l)=B:=⟨_,rfl⟩
 have a4:B.length=l.length:=by rw[←hB,Qy]
 obtain⟨C,hC⟩:∃ C,Xn (Zu B) N=C:=⟨_,rfl⟩
 obtain⟨R,hR⟩:∃ R,Rs C (u+T) N=R:=⟨_,rfl⟩
 obtain⟨X,hX⟩:∃ X,Xw 4 ((u+T+N:Nat):Int) (idxB R)=X:=⟨_,rfl⟩
 have a5:N≤4:=by unfold bmN at hN;omega
 have hP:(Ct l u 0 bs).2.2=Vu (Kj C (u+T) (Yo 5 O u bs).2 N) ((u+T+N)*256) X:=by
  unfold Ct
  simp only[Nat.add_zero,hB,a4,hN,hO,hT,hC,hR,hX]
 have EO:EntsOk (Ht 5 true) O:=hO▸Ma _ _ (by omega)
 have a7:R.length=N:=by rw[←hR,Eh]
 have a0:=Vh (t:=5) (l:=O) (q:=u) (bs:=bs) (by decide) (by decide) EO (by rw[hT];omega)
 have a1:=Wj (L:=C) (q:=u+T) (bs:=(Yo 5 O u bs).2) N (by rw[a0.1];omega)
 have a3:=Ea (L:=C) (q:=u+T) (bs:=(Yo 5 O u bs).2) N (by rw[a0.1];omega)
 rw[hP]
 by_cases hN15:N≤15
 ·have a6:(idxB R).length=244:=Tv (by omega)
  have a2:X.length=256:=by rw[←hX];exact Ql (by omega)
  exact⟨by rw[Qg (by rw[a2,a1,a0.1];omega),a1,a0.1],fun x hx=>by rw[Qx a2 (by rw[a1,a0.1];omega) (by omega) (by rw[a1,a0.1];omega),a3 x (by omega),a0.2 x hx]⟩
 ·exact absurd hN15 (by omega)
theorem Dt{t u v:Int}{x k:Nat}{L:List Dv}(hk:PoolOk t u v (x:Int) L)(hr:Pp x L≤k)(hk3:k≤3000) :
 (Cw t u v x L k).length=k*256∧Zz (Cw t u v x L k)=0∧Zf (inB (Cw t u v x L k) 0)=Zg2 t u v x L k∧∀ j,1≤j→j<1+Xp (F2 L)→Qj (Cw t u v x L k) j=Qj (Nh L k) j:=by
 have a1:=Ae hr
 have hx:x≤65536:=by have:=hk.hdata;omega
 have a3:=Ov hk hr (by omega)
 have a5:∀ y∈F2 L,Mk y:=fun y hy=>by
  unfold F2 F1 at hy
  rcases List.mem_append.1 hy with q|q
  ·rcases List.mem_append.1 q with q|q
   ·exact devT_ok hk.devs y q
   ·rw[List.mem_singleton.1 q];exact top_ok hk.devs
  ·rw[List.mem_singleton.1 q];exact det_ok hk.devs
 have l1:(Nh L k).length=k*256:=by
  unfold Nh
  rw[forB_len _ _ _ a5 (by rw[List.length_replicate];omega),List.length_replicate]
 have a6:Wz x L=Xp (F2 L)+Uf (Yh x L):=rfl
 have p2:=plot_keep (l:=Yh x L) (q:=1+Xp (F2 L)) (bs:=Nh L k) (by rw[Yp];exact hx) (by rw[l1];omega)
 have e2:(Ha x L k)=Ad (Yh x L) (1+Xp (F2 L)) (Nh L k):=rfl
 rw[←e2] at p2
 have hn:Yq (Qa (Wz x L+1) k)=2+bmN k:=by
  unfold Yq
  rw[Lh,Xt,List.length_nil,Zbh];omega
 have p3:=meta_keep (l:=Qa (Wz x L+1) k) (u:=1+Wz x L) (bs:=(Ha x L k).2.2) (by rw[Xt];exact hk3) (by rw[hn,p2.1,l1];omega)
 have e3:(Pj x L k).2.2=(Ct (Qa (Wz x L+1) k) (1+Wz x L) 0 (Ha x L k).2.2).2.2:=by
  unfold Pj Ct
  simp only[Nat.add_zero]
 rw[←e3] at p3
 have l3:(Pj x L k).2.2.length=k*256:=by rw[p3.1,p2.1,l1]
 have a0:(Xw 1 (0:Nat) (Hu (Zg2 t u v x L k))).length=256:=Ql (by rw[Vq];decide)
 have lB:(Cw t u v x L k).length=k*256:=by
  unfold Cw
  rw[Qg (by rw[a0,l3];omega),l3]
 have a4:Qj (Cw t u v x L k) 0=Xw 1 ((0:Nat):Int) (Hu (Zg2 t u v x L k)):=by
  unfold Cw
  exact Dd a0 (by rw[l3];omega)
 obtain⟨s1,s2⟩:=sup_back lB (by omega) a4 a3 (Int.le_refl _)
 refine⟨lB,s1,s2,fun j a7 a2=>?_⟩
 unfold Cw
 rw[Qx a0 (by rw[l3];omega) (by omega) (by rw[l3];omega),p3.2 j (by omega),p2.2 j a2]
theorem ov_one{t:Int}{n:Nat}(h:n≤Qi t true):ovN n (Qi t true)=1:=by
 have hm:=(Qh t true).1
 have hp:=Vj n (Qi t true)
 have:(n+Qi t true-1)/Qi t true≤1:=by
  have:=Nat.div_lt_of_lt_mul (m:=n+Qi t true-1) (n:=Qi t true) (k:=2) (by omega)
  omega
 unfold ovN
 omega
theorem Hp{t:Int}{n:Nat}(h:n≤Qi t true):Xq t n=1:=by
 unfold Xq Hw
 rw[ov_one h,Hj (by decide)];rfl
theorem Zc8{t:Int}{l:List Ent}{q:Nat}{bs:Bl}(h:l.length≤Qi t true):Yo t l q bs=((q:Int),Vu bs (q*256) (Xw 2 ((q:Nat):Int) (Zc1 t true (Qi t true) (Ht t true) l))):=by
 unfold Yo
 rw[ov_one h,Wn (by rw[Xu];exact Nat.le_refl _)]
 have e:Xm l (Qi t true) 0=l:=by unfold Xm;rw[Nat.zero_mul,List.drop_zero,List.take_of_length_le h]
 show(((q+0:Nat):Int),Vu bs ((q+0)*256) (Xw 2 ((q+0:Nat):Int) (Zc1 t true (Qi t true) (Ht t true) (Xm l (Qi t true) 0))))=_
 rw[e,Nat.add_zero]
theorem one_ok{t:Int}{l:List Ent}(E:EntsOk (Ht t true) l)(h1:1≤t)(h2:t≤5)(h:l.length≤Qi t true):NodeOk t true l.length (Qi t true) (Ht t true) (Kb l) (Hc l):=by
 have e:Xm l (Qi t true) 0=l:=by unfold Xm;rw[Nat.zero_mul,List.drop_zero,List.take_of_length_le h]
 have:=Ii (l:=l) E h1 h2 rfl rfl (fun h=>by cases h) (i:=0) (by rw[ov_one h];decide)
 rw[e] at this
 exact this
theorem Zdo{F:Bl}{t:Int}{l:List Ent}{q:Nat}(E:EntsOk (Ht t true) l)(h1:1≤t)(h2:t≤5)(h:l.length≤Qi t true)(hq:q<F.length/256)(h4:q<14400)(hb:Qj F q=Xw 2 ((q:Nat):Int) (Zc1 t true (Qi t true) (Ht t true) l)) :
 Zy F (q:Int) t=0∧Yb (inB F (q:Int))=true∧Xf (inB F (q:Int))=l.length∧Fy F (q:Int)=Kb l∧Qb F (q:Int)=Hc l:=by
 have N:=one_ok E h1 h2 h
 obtain⟨he,a0⟩:=blk_back N rfl hq h4 hb t (.inr rfl)
 have B:=Zd3 N
 refine⟨he,by rw[a0];exact B.l,by rw[a0];exact B.c,?_,?_⟩
 ·unfold Fy;rw[a0,B.c];exact B.k
 ·unfold Qb;rw[a0,B.c];exact B.v
theorem mapV_read{m:Mp}(h1:0≤m.2.1∧m.2.1≤65535)(h2:0≤m.2.2∧m.2.2≤16777215):Xo Yz (Zcc m)=0∧(Um (Zcc m):Int)=m.2.1∧(Ws (Zcc m):Int)=m.2.2:=by
 obtain⟨he,hv⟩:=put_read (ps:=Yz) (N:=[m.2.1*16777216+m.2.2]) Zct rfl (by
  unfold Jz
  rw[show List.range Yz.length=[0] from rfl]
  simp[inP,Yz,List.getD];omega)
 have h:=hv 0 (by decide)
 have hn:(Za7 (Zcc m):Int)=m.2.1*16777216+m.2.2:=h
 refine⟨he,?_,?_⟩
 ·unfold Um;omega
 ·unfold Ws;omega
def L46:List Dv:=[((1,0,0,0),[]),((4,0,0,0),[(3,5,7)])]
def B46:Bl:=Cw 0 0 1 9 L46 20
theorem Im:DevsOk ((9:Nat):Int) L46:=by
 refine⟨by decide,by decide,?_,fun d hd=>?_⟩
 ·unfold L46;simp
 ·simp only[L46,List.mem_cons,List.not_mem_nil,or_false] at hd
  rcases hd with rfl|rfl
  ·exact⟨by decide,by decide,by decide,by decide,MapsOk.nil _⟩
  ·refine⟨by decide,by decide,by decide,by decide,by simp,fun m hm=>?_⟩
   rw[List.mem_singleton.1 hm]
   exact⟨by decide,by decide,by decide⟩
theorem Zef:PoolOk 0 0 1 ((9:Nat):Int) L46:=⟨by decide,by decide,by decide,by decide,Im⟩
theorem L46_oft:oftL 9 L46=0:=by decide
theorem De:Pp 9 L46≤20:=by
 have h3:Xq 3 L46.length=1:=Hp (by decide)
 have h1:Xq 1 L46.length=1:=Hp (by decide)
 have h2:Nt L46=2:=by
  unfold Nt L46
  have a:Xq 2 0=1:=Hp (by decide)
  have b:Xq 2 1=1:=Hp (by decide)
  simp[a,b]
 have h4:Xq 4 (bmN 9)=1:=Hp (by decide)
 have h5:Xq 5 0=1:=Hp (by decide)
 have hb:bmN 9=1:=by decide
 unfold Pp Zcg Cy
 rw[h3,h1,h2,h4,L46_oft,h5,hb]
 decide
def m46:List Ent:=Pd [(3,5,7)]
def T46:List Ent:=Pw L46 (Ep L46)
def D46:List Ent:=Mx L46 (Un L46)
theorem F46:F2 L46=[(2,[]),(2,m46),(1,T46),(3,D46)]:=rfl
theorem n46:Vw (2,[])=1∧Vw (2,m46)=1∧Vw (1,T46)=1∧Vw (3,D46)=1:=⟨Hp (by decide),Hp (by decide),Hp (by decide),Hp (by decide)⟩
theorem f46:Xp (F2 L46)=4∧Xp (F1 L46)=3:=by
 obtain⟨a,b,c,d⟩:=n46
 constructor
 ·rw[F46]
  show Vw (2,[])+(Vw (2,m46)+(Vw (1,T46)+(Vw (3,D46)+0)))=4
  rw[a,b,c,d]
 ·show Vw (2,[])+(Vw (2,m46)+(Vw (1,T46)+0))=3
  rw[a,b,c]
theorem r46:Ep L46 0=1∧Ep L46 1=2:=by
 obtain⟨a,b,c,d⟩:=n46
 constructor
 ·show Vw (2,[])+0=1
  rw[a]
 ·show Vw (2,[])+(Vw (2,m46)+0)=2
  rw[a,b]
theorem T46_is:T46=[(1,leB 1 4,0),(4,leB 2 4,0)]:=by
 unfold T46 Pw
 rw[show List.range L46.length=[0,1] from rfl]
 simp only[List.map_cons,List.map_nil,r46.1,r46.2]
 rfl
theorem b46:Nh L46 20=(Yo 3 D46 4 (Yo 1 T46 3 (Yo 2 m46 2 (Yo 2 [] 1 (List.replicate (20*256) (0:UInt8))).2).2).2).2:=by
 obtain⟨a,b,c,d⟩:=n46
 unfold Nh
 rw[F46]
 simp only[Za8,a,b,c]
theorem mE46:EntsOk (Ht 2 true) m46:=Zec (data:=9) ((Im.each ((4,0,0,0),[(3,5,7)]) (by simp[L46])).maps)
theorem TE46:EntsOk (Ht 1 true) T46:=Zdw Im
theorem DE46:EntsOk (Ht 3 true) D46:=(det_ok (C:=Un L46) Im).2.2.1
theorem blk46:Qj (Nh L46 20) 2=Xw 2 ((2:Nat):Int) (Zc1 2 true (Qi 2 true) (Ht 2 true) m46)∧Qj (Nh L46 20) 3=Xw 2 ((3:Nat):Int) (Zc1 1 true (Qi 1 true) (Ht 1 true) T46):=by
 obtain⟨a,b,c,d⟩:=n46
 have l0:(List.replicate (20*256) (0:UInt8)).length=20*256:=List.length_replicate
 have k1:=Vh (t:=2) (l:=[]) (q:=1) (bs:=List.replicate (20*256) (0:UInt8)) (by decide) (by decide) (⟨fun i hi=>absurd hi (by simp),fun j hj=>absurd hj (by simp),fun i hi=>absurd hi (by simp)⟩) (by rw[l0,show Xq 2 ([]:List Ent).length=1 from a];decide)
 rw[l0] at k1
 have k2:=Vh (t:=2) (l:=m46) (q:=2) (bs:=(Yo 2 [] 1 (List.replicate (20*256) (0:UInt8))).2) (by decide) (by decide) mE46 (by rw[k1.1,show Xq 2 m46.length=1 from b];decide)
 rw[k1.1] at k2
 have k3:=Vh (t:=1) (l:=T46) (q:=3) (bs:=(Yo 2 m46 2 (Yo 2 [] 1 (List.replicate (20*256) (0:UInt8))).2).2) (by decide) (by decide) TE46 (by rw[k2.1,show Xq 1 T46.length=1 from c];decide)
 rw[k2.1] at k3
 have k4:=Vh (t:=3) (l:=D46) (q:=4) (bs:=(Yo 1 T46 3 (Yo 2 m46 2 (Yo 2 [] 1 (List.replicate (20*256) (0:UInt8))).2).2).2) (by decide) (by decide) DE46 (by rw[k3.1,show Xq 3 D46.length=1 from d];decide)
 have s2:(Xw 2 ((2:Nat):Int) (Zc1 2 true (Qi 2 true) (Ht 2 true) m46)).length=256:=Ql (by rw[Dc (one_ok mE46 (by decide) (by decide) (by decide))];decide)
 have s3:(Xw 2 ((3:Nat):Int) (Zc1 1 true (Qi 1 true) (Ht 1 true) T46)).length=256:=Ql (by rw[Dc (one_ok TE46 (by decide) (by decide) (by decide))];decide)
 rw[b46]
 constructor
 ·rw[k4.2 2 (by decide),k3.2 2 (by decide),Zc8 (t:=2) (l:=m46) (by decide)]
  exact Dd s2 (by rw[k1.1];decide)
 ·rw[k4.2 3 (by decide),Zc8 (t:=1) (l:=T46) (by decide)]
  exact Dd s3 (by rw[k2.1];decide)
theorem top46:Zy B46 3 1=0∧Yb (inB B46 3)=true∧Xf (inB B46 3)=2∧Fy B46 3=[1,4]∧Qb B46 3=[leB 1 4,leB 2 4]:=by
 obtain⟨hl,_,_,hb⟩:=Dt Zef De (by decide)
 have a0:=hb 3 (by decide) (by rw[f46.1];decide)
 have h:=Zdo (F:=B46) (t:=1) (l:=T46) (q:=3) TE46 (by decide) (by decide) (by decide) (by unfold B46;rw[hl];decide) (by decide) (a0.trans blk46.2)
 obtain⟨h1,h2,h3,h4,h5⟩:=h
 refine⟨h1,h2,h3,?_,?_⟩
 ·rw[show(3:Int)=((3:Nat):Int) from rfl,h4,T46_is];rfl
 ·rw[show(3:Int)=((3:Nat):Int) from rfl,h5,T46_is];rfl
theorem dev46:Zy B46 2 2=0∧Yb (inB B46 2)=true∧Xf (inB B46 2)=1∧Fy B46 2=[3]∧Qb B46 2=[Zcc (3,5,7)]:=by
 obtain⟨hl,_,_,hb⟩:=Dt Zef De (by decide)
 have a0:=hb 2 (by decide) (by rw[f46.1];decide)
 exact Zdo (F:=B46) (t:=2) (l:=m46) (q:=2) mE46 (by decide) (by decide) (by decide) (by unfold B46;rw[hl];decide) (by decide) (a0.trans blk46.1)
theorem sup46:Zz B46=0∧(Zf (inB B46 0)).top=3:=by
 obtain⟨hl,h1,h2,hb⟩:=Dt Zef De (by decide)
 refine⟨h1,?_⟩
 unfold B46
 rw[h2]
 show((Xp (F1 L46):Nat):Int)=3
 rw[f46.2];rfl
theorem trC46a:trC [1,4] 4=2:=by decide
theorem trC46b:trC [3] 3=1:=by decide
theorem Ih:Xx B46 [0] 3 4 3=⟨[0,3,2],true,5,7,[],0⟩:=by
 obtain⟨a1,a2,a3,a4,a5⟩:=top46
 obtain⟨d1,d2,d3,d4,d5⟩:=dev46
 have v1:trV B46 3 4=leB 2 4:=by
  unfold trV
  rw[a4,trC46a]
  show(Qb B46 3).getD 1 []=_
  rw[a5];rfl
 have v2:trV B46 2 3=Zcc (3,5,7):=by
  unfold trV
  rw[d4,trC46b]
  show(Qb B46 2).getD 0 []=_
  rw[d5];rfl
 have f1:Zj B46 1 4 16 [0] 3=([0,3],.val (leB 2 4)):=by
  rw[Zj,if_neg (by rw[a1];decide),a4,if_neg (by rw[trC46a];decide),if_pos a2,if_pos (by decide),v1];rfl
 obtain⟨r1,r2⟩:=root_leB (q:=2) (by decide) (by decide)
 have r1:Xl (leB 2 4)=0:=r1
 have r2:(Xi (leB 2 4):Int)=2:=r2
 have f2:Zj B46 2 3 16 [0,3] 2=([0,3,2],.val (Zcc (3,5,7))):=by
  rw[Zj,if_neg (by rw[d1];decide),d4,if_neg (by rw[trC46b];decide),if_pos d2,if_pos (by decide),v2];rfl
 obtain⟨m1,m2,m3⟩:=mapV_read (m:=(3,5,7)) (by decide) (by decide)
 unfold Xx
 simp only[f1,trE,Dg,trS,r1,r2,f2,m1,m2,m3]
 simp
theorem sup46T:Pv B46 4 3=⟨[0,3,2],true,5,7,[],0⟩:=by
 rw[Ey sup46.1,sup46.2];exact Ih
def Z46 (b8:Nat):List Zv:=[(((1,0,0,0),[]),none,0),(((4,0,0,0),[(3,5,7)]),some ⟨b8,0,none⟩,1)]
theorem lay46(b8 b10:Nat)(w:World)(k8:Blk w b8 [V0 3,V0 5,V0 7] 50)(k10:Blk w b10 [V0 1,V0 0,V0 0,V0 0,S0,V0 4,V0 0,V0 0,V0 0,.slice (S1 b8) 1 1] 48):C0 14 #[.agg #[V0 0,V0 0,V0 1,V0 9,.slice (S1 b10) 2 2],V0 20] w (LayO B46 20 w):=by
 refine lay_LayY (S1 b10) 2 2 9 20 0 0 1 (Z46 b8) w rfl ⟨?_,fun i hi=>?_⟩ Zef (by decide) De
 ·exact k10.sl 2 2 (by decide) (by decide)
 ·have hi:i<2:=hi
  obtain rfl|rfl:i=0∨i=1:=by omega
  ·exact .inl ⟨none,0,rfl,rfl,rfl⟩
  ·exact k8.sl 1 1 (by decide) (by decide)
theorem trace46(Bi b:Nat)(p:O0)(n c:Nat)(w:World)(hI:ImgR Bi b p n c B46 w):C0 9 #[P0 b,V0 4,V0 3] w (Qd (fun w' r=>∃ q d,r=.tuple #[.agg #[.slice q 3 d,.bool true,V0 5,V0 7],.nilIface]∧w'.ownsRow w.heap.size 3 1 (.slice q 3 d) 3 (([0,3,2]:List Int).map V0)) w):=by
 refine(Eo Bi b p n c B46 4 3 w hI).mono ?_
 rintro e W h
 rw[sup46T] at h
 rcases h with ⟨h,_⟩|⟨_,q,d,rfl,hb,ho⟩
 ·exact absurd rfl h
 ·exact⟨_,rfl,hb,q,d,rfl,ho⟩
theorem lives46(w:World) :
 C0 4 #[] w (Ret (.bool true) w):=by
 refine zin 46 Tryz.func4 ?_
 refine xbs 9 1 [V0 3,V0 5,V0 7] 50 fun b1 W1 n1=>?_
 refine xbs 1 2 [V0 1,V0 0,V0 0,V0 0,S0,V0 4,V0 0,V0 0,V0 0,.slice (S1 b1) 1 1] 48 fun b2 W2 n2=>?_
 refine xa 1 [V0 0,V0 0,V0 0,V0 0,S0] 53 fun b3 W3 n3=>?_
 refine xsv 0 n3.blk [V0 0,V0 0,V0 1,V0 9,.slice (S1 b2) 2 2] fun W4 u4 k4=>?_
 have g3:=n3.ge (bln n1.below n2.below)
 refine xlv 4 k4.rp ?_
 have k2:=u4.blkT (n2.blk.below n3.below) n3.blk (by decide)
 have k1:=u4.blkT ((n1.blk.below n2.below).below n3.below) n3.blk (by decide)
 refine xc 0 (args:=#[.agg #[V0 0,V0 0,V0 1,V0 9,.slice (S1 b2) 2 2],V0 20]) (lay46 b1 b2 _ k1 k2) ?_
 rintro _ W5 ⟨bi,g,ci,rfl,a3,hI⟩
 refine xc 20 (args:=#[P0 bi,V0 4,V0 3]) (trace46 _ bi _ _ ci _ hI) ?_
 rintro _ W6 ⟨_,rfl,a6,q8,d8,rfl,a8⟩
 have a7:=(bln (u4.below (bln (bln n1.below n2.below) n3.below) g3) a3).size
 refine xa 3 [S0,.bool false,V0 0,V0 0] 30 fun b7 W7 n7=>?_
 refine xsv 0 n7.blk [.slice q8 3 d8,.bool true,V0 5,V0 7] fun W8 u8 k8=>?_
 have g7:=n7.ge (bln (bln (u4.below (bln (bln n1.below n2.below) n3.below) g3) a3) a6)
 refine xb 9 1 k8 ?_
 refine xb 3 2 k8 ?_
 refine xb 4 3 k8 ?_
 refine xb 4 0 k8 ?_
 refine xbs 0 3 [V0 0,V0 3,V0 2] 3 fun b9 W9 n9=>?_
 have hB:=u8.below (bln (bln (bln (u4.below (bln (bln n1.below n2.below) n3.below) g3) a3) a6) n7.below) g7
 have g9:=n9.ge hB
 have a0:=u8.own2 (Zb (Ze a8 a7) n7.below) n7.blk (by decide)
 have a2:=Xa a0 n9
 have a1:=Zb a0 n9.below
 refine xr 0 (args:=#[.slice q8 3 d8,.slice (S1 b9) 3 3]) (Sk q8 (S1 b9) d8 3 [0,3,2] _ (Zd a1) (n9.blk.sl 3 3 (by decide) (by decide))) fun a9 a4=>?_
 have a5:=bln (bln hB n9.below) a4
 exact xe 5 (.bool true) ⟨rfl,a5⟩
theorem Rb(a:O0)(c:Nat)(l:Bl)(top id v:Int)(w:World)(h:Bys w (.slice a l.length c) l)(hg:ErrT w) :
 C0 3 #[.slice a l.length c,V0 top,V0 id,V0 v] w (Ret (.bool true) w):=by
 have g1:=h.cap rfl
 refine zin 80 Tryz.func3 ?_
 refine xid 13 ((l.length:Int)>(13000:Int)) (fun i1=>?_) (fun i1=>?_)
 ·refine xr 2 (args:=#[]) (lives46 _) fun W2 i6=>?_
  exact xe 5 (.bool true) ⟨rfl,i6⟩
 refine xc 5 (args:=#[.slice a l.length c]) (image_OfR a c l.length ((l.length/256)*256) l _ rfl (by omega) (h.below (B4 w)) (by omega) g1) ?_
 rintro _ W3 ⟨_,rfl,g8,bi,pi,ci,rfl,_,hI⟩
 refine xc 1 (args:=#[.slice a l.length c]) (ref_OfM a c l.length (l.length/256) l _ rfl (by omega) (h.below g8) (by omega)) ?_
 rintro _ W4 ⟨_,rfl,h2,bj,pj,cj,rfl,_,hJ⟩
 have e3:=hI.below h2
 refine xc 10 (args:=#[P0 bi,V0 top,V0 id,V0 v]) ((Zco _ bi pi _ ci (l.take ((l.length/256)*256)) top id v _ e3).mono (fun _ _ q=>q.u (Tk (by decide)))) ?_
 rintro _ W5 ⟨p1,c1,v1,rfl,h3,j9,j1⟩
 have j8:=(bln g8 h2).size
 refine xa 3 [S0,.bool false,V0 0,V0 0] 30 fun b6 W6 n6=>?_
 have d5:=bln (bln g8 h2) h3
 have g6:=n6.ge d5
 refine xsv 0 n6.blk [.slice p1 ((Xx (l.take ((l.length/256)*256)) [] top id v).way.length) c1,.bool ((Xx (l.take ((l.length/256)*256)) [] top id v).found),V0 ((Xx (l.take ((l.length/256)*256)) [] top id v).b),V0 ((Xx (l.take ((l.length/256)*256)) [] top id v).t)] fun W7 u7 k7=>?_
 have f7:=((hJ.below h3).below n6.below).only (Zg.of_upd (T:=[30]) u7 n6.blk (by decide)) (by decide)
 refine xc 9 (args:=#[P0 bj,V0 top,V0 id,V0 v]) ((Zbn _ bj pj _ cj (l.take ((l.length/256)*256)) top id v _ f7).mono (fun _ _ q=>q.u (Tk (by decide)))) ?_
 rintro _ W8 ⟨q1,d1,a1,e1,rfl,d6,j7,j5⟩
 have h9:=(u7.below (bln d5 n6.below) g6).size
 refine xa 3 [S0,.bool false,V0 0,V0 0] 35 fun b9 W9 n9=>?_
 have f6:=bln (u7.below (bln d5 n6.below) g6) d6
 have g9:=n9.ge f6
 refine xa 0 [S0,V0 0] 37 fun l9 k1 b5=>?_
 have c8:=bln f6 n9.below
 have h6:=b5.ge c8
 have k9:=n9.blk.below b5.below
 refine xsv 0 k9 [.slice q1 ((Xx (l.take ((l.length/256)*256)) [] top id v).way.length) d1,.bool ((Xx (l.take ((l.length/256)*256)) [] top id v).found),V0 ((Xx (l.take ((l.length/256)*256)) [] top id v).b),V0 ((Xx (l.take ((l.length/256)*256)) [] top id v).t)] fun k6 c0 j0=>?_
 have c5:=c0.blkT b5.blk k9 (by decide)
 refine xsv 0 c5 [.slice a1 ((Xx (l.take ((l.length/256)*256)) [] top id v).fl.length) e1,V0 ((Xx (l.take ((l.length/256)*256)) [] top id v).c)] fun k4 b8 i2=>?_
 have h4:=(((((((e3.below h3).below n6.below).only (Zg.of_upd (T:=[30]) u7 n6.blk (by decide)) (by decide)).below d6).below n9.below).below b5.below).only (Zg.of_upd (T:=[35]) c0 k9 (by decide)) (by decide)).only (Zg.of_upd (T:=[37]) b8 c5 (by decide)) (by decide)
 refine xc 7 (args:=#[P0 bi,V0 id,V0 v]) ((Eo _ bi pi _ ci (l.take ((l.length/256)*256)) id v _ h4).mono (fun _ _ q=>q.u Zbq)) ?_
 rintro _ k5 ⟨p2,c2,v2,rfl,a6,j2,j3⟩
 have h1:=(b8.below (c0.below (bln c8 b5.below) g9) h6).size
 refine xa 3 [S0,.bool false,V0 0,V0 0] 30 fun l0 k3 a0=>?_
 have f8:=(b8.blkT (c0.blkT (((k7.below d6).below n9.below).below b5.below) k9 (by decide)) c5 (by decide)).below a6
 have d4:=a0.ne f8
 have d3:=bln (b8.below (c0.below (bln c8 b5.below) g9) h6) a6
 have h8:=a0.ge d3
 refine xsv 0 a0.blk [.slice p2 ((Pv (l.take ((l.length/256)*256)) id v).way.length) c2,.bool ((Pv (l.take ((l.length/256)*256)) id v).found),V0 ((Pv (l.take ((l.length/256)*256)) id v).b),V0 ((Pv (l.take ((l.length/256)*256)) id v).t)] fun m1 b7 i0=>?_
 have g2:=(((((((f7.below d6).below n9.below).below b5.below).only (Zg.of_upd (T:=[35]) c0 k9 (by decide)) (by decide)).only (Zg.of_upd (T:=[37]) b8 c5 (by decide)) (by decide)).below a6).below a0.below).only (Zg.of_upd (T:=[30]) b7 a0.blk (by decide)) (by decide)
 refine xc 8 (args:=#[P0 bj,V0 id,V0 v]) ((Zbw _ bj pj _ cj (l.take ((l.length/256)*256)) id v _ g2).mono (fun _ _ q=>q.u Zbq)) ?_
 rintro _ l1 ⟨q2,d2,a2,e2,rfl,a4,i7,i4⟩
 have e0:=(b7.below (bln d3 a0.below) h8).size
 refine xa 3 [S0,.bool false,V0 0,V0 0] 35 fun l7 l5 a9=>?_
 have c7:=(b7.blkT (((b8.blkT j0 c5 (by decide)).below a6).below a0.below) a0.blk (by decide)).below a4
 have d0:=a9.ne c7
 have e9:=bln (b7.below (bln d3 a0.below) h8) a4
 have j4:=a9.ge e9
 refine xa 0 [S0,V0 0] 37 fun l6 l4 a7=>?_
 have c6:=((b7.blkT ((i2.below a6).below a0.below) a0.blk (by decide)).below a4).below a9.below
 have c3:=a7.ne c6
 have d8:=bln e9 a9.below
 have i9:=a7.ge d8
 have b3:=a9.blk.below a7.below
 refine xsv 0 b3 [.slice q2 ((Pv (l.take ((l.length/256)*256)) id v).way.length) d2,.bool ((Pv (l.take ((l.length/256)*256)) id v).found),V0 ((Pv (l.take ((l.length/256)*256)) id v).b),V0 ((Pv (l.take ((l.length/256)*256)) id v).t)] fun l8 b2 i5=>?_
 have b4:=b2.blkT a7.blk b3 (by decide)
 refine xsv 0 b4 [.slice a2 ((Pv (l.take ((l.length/256)*256)) id v).fl.length) e2,V0 ((Pv (l.take ((l.length/256)*256)) id v).c)] fun b0 b1 j6=>?_
 refine xd 3 .z ?_
 have h0:=(b1.blkT (b2.blkT ((((b7.blk (f8.below a0.below) (Ne.symm (Ne.symm d4))).below a4).below a9.below).below a7.below) b3 (by decide)) b4 (by decide)).below (Za b0)
 refine xlv (.e [] 0) h0.rp ?_
 have e7:=(b1.blkT (b2.blk ((c7.below a9.below).below a7.below) (Ne.symm (Ne.symm d0))) b4 (by decide)).below (Za b0)
 refine xlv (.e [] 1) e7.rp ?_
 have f1:=Zb (b1.own2 (b2.own2 (Zb (Zb (Zb (b7.own2 (Zb (Zb (b8.own2 (c0.own2 (Zb (Zb (Zb (u7.own2 (Zb (Ze j9 j8) n6.below) n6.blk (by decide)) d6) n9.below) b5.below) k9 (by decide)) c5 (by decide)) a6) a0.below) a0.blk (by decide)) a4) a9.below) a7.below) b3 (by decide)) b4 (by decide)) (Za b0)
 have f2:=Zb (b1.own2 (b2.own2 (Zb (Zb (Zb (b7.own2 (Zb (Zb (b8.own2 (c0.own2 (Zb (Zb (Ze j7 h9) n9.below) b5.below) k9 (by decide)) c5 (by decide)) a6) a0.below) a0.blk (by decide)) a4) a9.below) a7.below) b3 (by decide)) b4 (by decide)) (Za b0)
 refine xr (.o [] 2) (args:=#[.agg #[.slice p1 ((Xx (l.take ((l.length/256)*256)) [] top id v).way.length) c1,.bool ((Xx (l.take ((l.length/256)*256)) [] top id v).found),V0 ((Xx (l.take ((l.length/256)*256)) [] top id v).b),V0 ((Xx (l.take ((l.length/256)*256)) [] top id v).t)],.agg #[.slice q1 ((Xx (l.take ((l.length/256)*256)) [] top id v).way.length) d1,.bool ((Xx (l.take ((l.length/256)*256)) [] top id v).found),V0 ((Xx (l.take ((l.length/256)*256)) [] top id v).b),V0 ((Xx (l.take ((l.length/256)*256)) [] top id v).t)]]) (Si (Xx (l.take ((l.length/256)*256)) [] top id v) p1 q1 c1 d1 _ (Zd f1) (Zd f2)) fun k0 a3=>?_
 have e5:=((b1.blk (b2.blkT (c6.below a7.below) b3 (by decide)) (Ne.symm (Ne.symm c3))).below (Za b0)).below a3
 refine xlv (.e [3,4] 6) e5.rp ?_
 have d7:=((((((((((((((((j1.below n6.below).only (Zg.of_upd (T:=[30]) u7 n6.blk (by decide)) (by decide)).below d6).below n9.below).below b5.below).only (Zg.of_upd (T:=[35]) c0 k9 (by decide)) (by decide)).only (Zg.of_upd (T:=[37]) b8 c5 (by decide)) (by decide)).below a6).below a0.below).only (Zg.of_upd (T:=[30]) b7 a0.blk (by decide)) (by decide)).below a4).below a9.below).below a7.below).only (Zg.of_upd (T:=[35]) b2 b3 (by decide)) (by decide)).only (Zg.of_upd (T:=[37]) b1 b4 (by decide)) (by decide)).below (Za b0)).below a3
 have e6:=bln (bln (b1.below (b2.below (bln d8 a7.below) j4) i9) (Za b0)) a3
 refine yc (.o [] 5) (args:=#[v1]) .z (told_T (O:=(Xx (l.take ((l.length/256)*256)) [] top id v)) (Tk (by decide)) v1 _ (hg.below e6) d7) ?_
 rintro _ m0 ⟨h5,rfl,a5,i3⟩
 refine⟨a5,?_⟩
 have f3:=Zb (Zb (Zb (b1.own2 (b2.own2 (Zb (Zb (Zb (b7.own2 (Zb (Zb (b8.own2 (c0.own2 (Zb (Zb (Ze j5 h9) n9.below) b5.below) k9 (by decide)) c5 (by decide)) a6) a0.below) a0.blk (by decide)) a4) a9.below) a7.below) b3 (by decide)) b4 (by decide)) (Za b0)) a3) a5
 refine xr (.o [] 7) (args:=#[h5,.agg #[.slice a1 ((Xx (l.take ((l.length/256)*256)) [] top id v).fl.length) e1,V0 ((Xx (l.take ((l.length/256)*256)) [] top id v).c)]]) (Sw (Xx (l.take ((l.length/256)*256)) [] top id v).fl (Xx (l.take ((l.length/256)*256)) [] top id v).c h5 _ _ i3 ⟨_,rfl,Zd f3⟩) fun k8 a8=>?_
 have e4:=((((b1.blkT (b2.blkT (((i0.below a4).below a9.below).below a7.below) b3 (by decide)) b4 (by decide)).below (Za b0)).below a3).below a5).below a8
 refine xlv (.e [8,9] 10) e4.rp ?_
 have f5:=((((b1.blkT i5 b4 (by decide)).below (Za b0)).below a3).below a5).below a8
 refine xlv (.e [] 11) f5.rp ?_
 have e8:=Zb (Zb (Zb (Zb (b1.own2 (b2.own2 (Zb (Zb (Zb (b7.own2 (Zb (Ze j2 h1) a0.below) a0.blk (by decide)) a4) a9.below) a7.below) b3 (by decide)) b4 (by decide)) (Za b0)) a3) a5) a8
 have d9:=Zb (Zb (Zb (Zb (b1.own2 (b2.own2 (Zb (Zb (Ze i7 e0) a9.below) a7.below) b3 (by decide)) b4 (by decide)) (Za b0)) a3) a5) a8
 refine xr (.o [] 12) (args:=#[.agg #[.slice p2 ((Pv (l.take ((l.length/256)*256)) id v).way.length) c2,.bool ((Pv (l.take ((l.length/256)*256)) id v).found),V0 ((Pv (l.take ((l.length/256)*256)) id v).b),V0 ((Pv (l.take ((l.length/256)*256)) id v).t)],.agg #[.slice q2 ((Pv (l.take ((l.length/256)*256)) id v).way.length) d2,.bool ((Pv (l.take ((l.length/256)*256)) id v).found),V0 ((Pv (l.take ((l.length/256)*256)) id v).b),V0 ((Pv (l.take ((l.length/256)*256)) id v).t)]]) (Si (Pv (l.take ((l.length/256)*256)) id v) p2 q2 c2 d2 _ (Zd e8) (Zd d9)) fun k2 c4=>?_
 have f4:=((((j6.below (Za b0)).below a3).below a5).below a8).below c4
 refine xlv (.e [13,14,15] 17) f4.rp ?_
 have f0:=(((((((((((j3.below a0.below).only (Zg.of_upd (T:=[30]) b7 a0.blk (by decide)) (by decide)).below a4).below a9.below).below a7.below).only (Zg.of_upd (T:=[35]) b2 b3 (by decide)) (by decide)).only (Zg.of_upd (T:=[37]) b1 b4 (by decide)) (by decide)).below (Za b0)).below a3).below a5).below a8).below c4
 have g0:=bln (bln (bln e6 a5) a8) c4
 refine yc (.o [] 16) (args:=#[v2]) .z (told_T (O:=(Pv (l.take ((l.length/256)*256)) id v)) Zbq v2 _ (hg.below g0) f0) ?_
 rintro _ l3 ⟨h7,rfl,c9,i8⟩
 refine⟨c9,?_⟩
 have f9:=Zb (Zb (Zb (Zb (Zb (Zb (b1.own2 (b2.own2 (Zb (Zb (Ze i4 e0) a9.below) a7.below) b3 (by decide)) b4 (by decide)) (Za b0)) a3) a5) a8) c4) c9
 refine xr (.o [] 18) (args:=#[h7,.agg #[.slice a2 ((Pv (l.take ((l.length/256)*256)) id v).fl.length) e2,V0 ((Pv (l.take ((l.length/256)*256)) id v).c)]]) (Sw (Pv (l.take ((l.length/256)*256)) id v).fl (Pv (l.take ((l.length/256)*256)) id v).c h7 _ _ i8 ⟨_,rfl,Zd f9⟩) fun m2 g7=>?_
 refine xr (.o [19,20] 21) (args:=#[]) (lives46 _) fun l2 g3=>?_
 have g5:=bln (bln (bln g0 c9) g7) g3
 exact xe (.r [22,23] 3) (.bool true) ⟨rfl,g5⟩
end Go.Proofs.YthhilbkandcbmaaGreatDoor
namespace Go.Proofs.YthhilbkandcbmaaGreatDoor
set_option maxHeartbeats 8000000
set_option maxRecDepth 100000
open Go.ChangeShapes Go.WideShapes Go.ChangeAt Go.RowKit Go.Joins
set_option linter.unusedVariables false
theorem Zf9{H:Type}{enc:TypeId×Value→H}{P:Program}{W:World}{r:Reach}{b0:Nat}{t e:TypeId}{v:Value}{d:DataW H}{p:List MemPlace}(ht:P.underlying t=some (.slice e))(he:P.underlying e=some (.int .u8))(hC:P.cellsOf e=1)
 (hv:Value.okWide P W r b0 t v) (h:DataW.Trod enc P W 0 (fun _=>true) true t v d p):∃ l,Bys W v l:=by
 obtain⟨a,a3,a7,rfl⟩:=okWide_slice ht hv
 obtain⟨a9,hf⟩:=h
 rcases open_ints ht he hC hf with ⟨a1,_⟩|⟨x,l,c,zs,a1,_,hl,hm,hz,_,a0,b1⟩
 ·simp[Value.cells] at a1
  obtain⟨rfl,rfl,rfl⟩:=a1
  exact⟨[],.inl ⟨_,_,rfl,rfl,rfl⟩⟩
 ·simp[Value.cells] at a1
  obtain⟨rfl,rfl,rfl⟩:=a1
  have b3:zs.length=a7:=by simpa using hz
  by_cases h0:a3=0
  ·subst h0
   exact⟨[],.inl ⟨_,_,rfl,rfl,rfl⟩⟩
  ·obtain⟨b,b2,a6⟩:=x
   have hc:=a0 0 (by omega)
   have a2:a6=none:=by simpa [Addr.add] using World.cell?_spot hc
   subst a2
   have a5:((zs.take a3).map fun n=>UInt8.ofNat n.toNat).length=a3:=by simp;omega
   refine⟨(zs.take a3).map fun n=>UInt8.ofNat n.toNat,.inr ⟨b,b2,a7,by rw[a5],by omega,hm,fun j x hj=>?_⟩⟩
   have a8:j<a3:=by have:=(List.getElem?_eq_some_iff.1 hj).1;simp at this;omega
   have e1:zs[j]? = some zs[j]:=List.getElem?_eq_getElem (by omega)
   have hw:=b1 zs[j] (List.getElem_mem _)
   have a4:=a0 j (by omega)
   have e2:zs.getD j 0=zs[j]:=by simp[List.getD,e1]
   rw[e2] at a4
   have hx:x=.int .u8 zs[j]:=by
    rw[List.getElem?_map,List.getElem?_map,List.getElem?_take_of_lt a8,e1] at hj
    simp only[Option.map_some,Option.some.injEq] at hj
    rw[←hj]
    have hb:0≤zs[j]∧zs[j]≤255:=by simpa [Lit.wf,IntKind.min,IntKind.max,IntKind.signed,IntKind.bits] using hw
    have h3:(zs[j].toNat%256:Nat)=zs[j].toNat:=Nat.mod_eq_of_lt (by omega)
    simp only[bv,UInt8.toNat_ofNat']
    rw[show(2 ^ 8:Nat)=256 from rfl,h3,Int.toNat_of_nonneg hb.1]
   subst hx
   by_cases hj0:j=0
   ·subst hj0;simpa [Addr.add] using a4
   ·simpa [Addr.add,hj0] using a4
end Go.Proofs.YthhilbkandcbmaaGreatDoor
