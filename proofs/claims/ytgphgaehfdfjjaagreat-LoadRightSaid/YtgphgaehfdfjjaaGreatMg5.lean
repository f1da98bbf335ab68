/- A scan of a packed tree: a plain law. -/
import Derived.Test.YtgphgaehfdfjjaaGreatMg4
namespace Go.Proofs.YtgphgaehfdfjjaaGreat
set_option maxHeartbeats 8000000
set_option maxRecDepth 100000
open Go.RowKit Go.Extern.Stop Go.Stop Go.Extern
set_option linter.unusedVariables false
attribute [local irreducible] wpList wpAnyH Code.wp Oper.wp Go
def kvE (x:Ent):Int×Bl:=(x.1,x.2.1)
def LaidF(F:Bl)(t:Int)(leaf:Bool)(m v:Nat)(u:List Ent)(q:Nat):Prop :=
 ∀ i,i<ovN u.length m→Jb F (q+i)=Yp 2 ((q+i:Nat):Int) (Zf0 t leaf m v (Zo u m i))
theorem Gi{t:Int}{leaf:Bool}{m v:Nat}{l:List Ent}{q:Nat}{bs:Bl}(j:Nat):Gl t leaf m v l q bs (j+1)=Vb (Gl t leaf m v l q bs j) ((q+j)*256) (Yp 2 ((q+j:Nat):Int) (Zf0 t leaf m v (Zo l m j))):=rfl
theorem Qi{t:Int}{leaf:Bool}{m v:Nat}{l:List Ent}{q:Nat}{bs:Bl}(E:EntsOk v l)(h1:1≤t)(h2:t≤5)(hm:Qq t leaf=m)(hv:Jv t leaf=v)(hl:leaf=false→1≤l.length)(j:Nat) :
 j≤ovN l.length m→(q+j)*256≤bs.length→(Gl t leaf m v l q bs j).length=bs.length∧(∀ i,i<j→Jb (Gl t leaf m v l q bs j) (q+i)=Yp 2 ((q+i:Nat):Int) (Zf0 t leaf m v (Zo l m i)))∧(∀ x,x<q→Jb (Gl t leaf m v l q bs j) x=Jb bs x):=by
 induction j with
 | zero=>exact fun _ _=>⟨rfl,fun i hi=>absurd hi (Nat.not_lt_zero i),fun x _=>rfl⟩
 | succ j ih =>
  intro hj hq
  obtain⟨a1,a2,a3⟩:=ih (by omega) (by omega)
  have a4:=Nq (Gm E h1 h2 hm hv hl (show j<ovN l.length m by omega))
  have a0:(Yp 2 ((q+j:Nat):Int) (Zf0 t leaf m v (Zo l m j))).length=256:=Ko (by rw[a4];decide)
  rw[Gi]
  generalize Gl t leaf m v l q bs j=y at a1 a2 a3 ⊢
  generalize hx:Yp 2 ((q+j:Nat):Int) (Zf0 t leaf m v (Zo l m j))=x at a0 ⊢
  have hk:q+j<y.length/256:=by rw[a1];omega
  refine⟨?_,fun i hi=>?_,fun z hz=>?_⟩
  ·rw[Yj (by rw[a0,a1];omega),a1]
  ·by_cases e:i=j
   ·subst e;rw[hx];exact blkB_put a0 hk
   ·rw[Gw a0 hk (by omega) (by omega)];exact a2 i (by omega)
  ·rw[Gw a0 hk (by omega) (by omega)];exact a3 z hz
theorem Up{t:Int}(h1:1≤t)(h2:t≤5)(n:Nat):∀ (u:List Ent) (q:Nat) (bs:Bl),u.length=n→1≤n→EntsOk 4 u→(q+((Kx n).sum-n))*256≤bs.length→(Ys t u q bs).2.length=bs.length∧∀ x,x<q→Jb (Ys t u q bs).2 x=Jb bs x:=by
 induction n using Nat.strongRecOn with
 | _ n ih =>
  intro u q bs hn a0 E hq
  subst hn
  by_cases h:u.length≤1
  ·rw[Qr h];exact⟨rfl,fun _ _=>rfl⟩
  ·have a4:=Zf9 (x:=u.length) (by omega)
   have hp:=Yd u.length 18
   have a5:(Kx u.length).sum=u.length+(Kx (ovN u.length 18)).sum:=by rw[Yz h];rfl
   have hg:=Vj (ovN u.length 18)
   rw[Yi h]
   obtain⟨a1,a2,a3⟩:=Qi (t:=t) (leaf:=false) (m:=18) (v:=4) (l:=u) (q:=q) (bs:=bs) E h1 h2 rfl rfl (fun _=>by omega) (ovN u.length 18) (Nat.le_refl _) (by omega)
   obtain⟨b1,b2⟩:=ih (ovN u.length 18) (by omega) (upE u 18 q (ovN u.length 18)) (q+ovN u.length 18) (Gl t false 18 4 u q bs (ovN u.length 18)) (Xf _ _ _ _) hp (Nk E (by decide)) (by rw[a1];omega)
   exact⟨by rw[b1,a1],fun x hx=>by rw[b2 x (by omega),a3 x hx]⟩
theorem Mf{t:Int}{leaf:Bool}{n m v:Nat}{K:List Int}{Vs:List Bl}(N:NodeOk t leaf n m v K Vs):Vy K:=by
 intro k hk a0
 rw[N.hK] at hk
 have:=N.hk1 (k-1) (by omega)
 rw[show k-1+1=k by omega] at this
 simpa [List.getD] using this
theorem Zd4{F:Bl}{way:List Int}{no t lo hi deep:Int}(hw:way.length<16)(hway:∀ y∈way,no≠y)(he:Xi F no t=0)(hr:Kw lo hi=true)(hs:Vy (Qu F no))(hk:∀ x∈Qu F no,lo≤x∧x<hi)
 (hd:Xm (inB F no)=true→deep=0∨deep=((way.length+1:Nat):Int)):Xn F way no t lo hi deep=0:=by
 have hf:Qv lo hi (Qu F no)=0:=by unfold Qv;rw[if_pos hr,if_pos hs,if_pos hk]
 have hh:Yu way no=false:=by
  unfold Yu;rw[List.any_eq_false]
  intro y hy
  simpa using hway y hy
 unfold Xn
 rw[if_neg (by rw[hh];simp),if_neg (by omega),if_neg (by rw[he];simp)]
 unfold Qu at hf
 rw[if_neg (by rw[hf];simp),if_neg (by rintro⟨a,b,c⟩;rcases hd a with h|h;exact b h;exact c h)]
structure Lev(F:List UInt8)(t fuel:Int)(h n base:Nat)(X:Nat→List (Int×List UInt8))(C:Nat→Nat):Prop where
 one:∀ i,i<n→1≤C i
 go:∀ i,i<n→∀ (d:Nat) (way:List Int) (lo hi:Int) (s:WS),h+1≤d→way.length+h+1≤16→(∀ y∈way,((base+n:Nat):Int)≤y)→Kw lo hi=true→(∀ x∈X i,lo≤x.1∧x.1<hi)→s.dry=false→((s.looked+C i:Nat):Int)≤fuel→(s.deep=0∨s.deep=((way.length+h+1:Nat):Int)) →
  ∃ (es:List Ent) (bl:List Int),es.map kvE=X i∧bl.length=C i∧Zn F t fuel d way ((base+i:Nat):Int) lo hi s={ s with es:=s.es++es,bs:=s.bs++bl,deep:=((way.length+h+1:Nat):Int),looked:=s.looked+C i }
theorem leaf_kv{c:List Ent}{no:Int}:(Kr (Ym c) (Vh c) no c.length).map kvE=c.map kvE:=by
 unfold Kr
 apply List.ext_getElem?
 intro j
 by_cases h:j<c.length
 ·simp[Ym,Vh,kvE,List.getD,h]
 ·rw[List.getElem?_eq_none (by simp;omega),List.getElem?_eq_none (by simp;omega)]
theorem lev_leaf{F:Bl}{t fuel:Int}{l:List Ent}{base len m v:Nat}(hm:Qq t true=m)(hv:Jv t true=v)(E:EntsOk v l)(h1:1≤t)(h2:t≤5)(hF:LaidF F t true m v l base)(hl:F.length=len)(hb:(base+ovN l.length m)*256≤len)(h4:base+ovN l.length m≤14400) :
  Lev F t fuel 0 (ovN l.length m) base (fun i=>(Zo l m i).map kvE) (fun _=>1) where
 one _ _:=Nat.le_refl _
 go i hi d way lo hi' s hd hw hway hr hX hdry hfu hdeep:=by
  obtain⟨d',rfl⟩:∃ d',d=d'+1:=⟨d-1,by omega⟩
  have N:=Gm E h1 h2 hm hv (fun h=>by cases h) hi
  have B:=Fi N
  obtain⟨he,a1⟩:=Zad N hl (by omega) (by omega) (hF i hi) t (.inr rfl)
  have hC:Zr (inB F ((base+i:Nat):Int))=(Zo l m i).length:=by rw[a1];exact B.c
  have hK:Qu F ((base+i:Nat):Int)=Ym (Zo l m i):=by unfold Qu;rw[hC,a1];exact B.k
  have hV:Nm F ((base+i:Nat):Int)=Vh (Zo l m i):=by unfold Nm;rw[hC,a1];exact B.v
  have hL:Xm (inB F ((base+i:Nat):Int))=true:=by rw[a1];exact B.l
  have hk:∀ x∈Ym (Zo l m i),lo≤x∧x<hi':=by
   intro x hx
   obtain⟨y,hy,rfl⟩:=List.mem_map.1 hx
   exact hX (kvE y) (List.mem_map.2 ⟨y,hy,rfl⟩)
  have a0:Xn F way ((base+i:Nat):Int) t lo hi' s.deep=0:=Zd4 (by omega) (fun y hy=>by have:=hway y hy;omega) he hr (by rw[hK];exact Mf N) (by rw[hK];exact hk) fun _=>hdeep
  refine⟨Kr (Ym (Zo l m i)) (Vh (Zo l m i)) ((base+i:Nat):Int) (Zo l m i).length,[((base+i:Nat):Int)],leaf_kv,rfl,?_⟩
  unfold Zn
  rw[if_neg (by omega),if_neg (by rw[a0];simp),if_pos hL,hC,hK,hV]
theorem Zar{f:Nat→Nat}{a b:Nat}(h:a≤b):((List.range a).map f).sum≤((List.range b).map f).sum:=by
 obtain⟨d,rfl⟩:∃ d,b=a+d:=⟨b-a,by omega⟩
 rw[List.range_add,List.map_append,List.sum_append];omega
theorem part_snd{hi:Int}{K:List Int}{k:Nat}(hk:k<K.length):(k+1<K.length∧(Xg hi K k).2=K.getD (k+1) 0)∨(k+1=K.length∧(Xg hi K k).2=hi):=by
 by_cases q:k+1<K.length
 ·left;exact⟨q,by simp[Xg,List.getD,q]⟩
 ·right;exact⟨by omega,by simp only[Xg];rw[List.getElem?_eq_none (by omega)];rfl⟩
theorem lev_loop{F:Bl}{t fuel:Int}{h n base:Nat}{X:Nat→List (Int×Bl)}{C:Nat→Nat}(L:Lev F t fuel h n base X C){way:List Int}{no hi':Int}{s0:WS}{z a d':Nat}(K:List Int)(hK:Qu F no=K)(hKl:K.length=z)(hidx:a+z≤n)
  (hval:∀ k,k<z→(Nm F no).getD k []=leB ((base+(a+k):Nat):Int) 4) (hkk:∀ k,k<z→∃ v r,X (a+k)=(K.getD k 0,v)::r) (hs:∀ a b,a<b→b<n→∀ x∈X a,∀ y∈X b,x.1<y.1) (hs1:∀ a,a<n→(X a).Pairwise fun x y=>x.1<y.1)
  (hk0:∀ k,k<z→0≤K.getD k 0∧K.getD k 0<hi') (hk1:∀ k,k+1<z→K.getD k 0<K.getD (k+1) 0) (hX2:∀ k,k<z→∀ x∈X (a+k),x.1<hi') (hhi:hi'≤281474976710656) (hb1:1≤base) (h4:base+n≤14400) (hd:h+1≤d') (hw:way.length+1+h+1≤16) (hway:∀ y∈way,((base+n:Nat):Int)≤y) (hno:((base+n:Nat):Int)≤no)
  (hdry:s0.dry=false) (hdeep:s0.deep=0∨s0.deep=((way.length+(h+1)+1:Nat):Int)) (hfu:((s0.looked+((List.range z).map fun j=>C (a+j)).sum:Nat):Int)≤fuel) (k:Nat) :
  k≤z→∃ (es:List Ent) (bl:List Int),es.map kvE=((List.range k).flatMap fun j=>X (a+j))∧bl.length=((List.range k).map fun j=>C (a+j)).sum ∧
    Xr (Zn F t fuel d') F way no hi' k s0={ s0 with es:=s0.es++es,bs:=s0.bs++bl,deep:=if k=0 then s0.deep else((way.length+(h+1)+1:Nat):Int),looked:=s0.looked+((List.range k).map fun j=>C (a+j)).sum }:=by
 induction k with
 | zero=>exact fun _=>⟨[],[],rfl,rfl,by simp[Xr]⟩
 | succ k ih =>
  intro a5
  obtain⟨es,bl,e1,e2,e3⟩:=ih (by omega)
  have a1:k<z:=by omega
  obtain⟨r1,r2⟩:=root_leB (q:=base+(a+k)) (by omega) (by omega)
  have a6:(Xg hi' (Qu F no) k).1=K.getD k 0:=by rw[hK];rfl
  have a4:=part_snd (hi:=hi') (K:=K) (k:=k) (by omega)
  rw[←hK] at a4
  have b2:∀ x∈X (a+k),K.getD k 0≤x.1:=by
   intro x hx
   obtain⟨v,r,hv⟩:=hkk k a1
   have a7:=hs1 (a+k) (by omega)
   rw[hv] at hx a7
   rcases List.mem_cons.1 hx with rfl|hx
   ·exact Int.le_refl _
   ·exact Int.le_of_lt ((List.pairwise_cons.1 a7).1 x hx)
  have b0:∀ x∈X (a+k),x.1<(Xg hi' (Qu F no) k).2:=by
   intro x hx
   rcases a4 with ⟨q1,q2⟩|⟨q1,q2⟩
   ·rw[hK] at q1
    obtain⟨v,r,hv⟩:=hkk (k+1) (by omega)
    rw[q2,hK]
    exact hs (a+k) (a+(k+1)) (by omega) (by omega) x hx (K.getD (k+1) 0,v) (by rw[hv];exact List.mem_cons_self)
   ·rw[q2];exact hX2 k a1 x hx
  have a9:Kw (Xg hi' (Qu F no) k).1 (Xg hi' (Qu F no) k).2=true:=by
   have g0:=hk0 k a1
   refine decide_eq_true ?_
   rw[a6]
   rcases a4 with ⟨q1,q2⟩|⟨q1,q2⟩
   ·rw[hK] at q1
    rw[q2,hK]
    have g1:=hk1 k (by omega)
    have g2:=hk0 (k+1) (by omega)
    omega
   ·rw[q2];omega
  have a2:=Zar (f:=fun j=>C (a+j)) (show k+1≤z from a5)
  have a0:((List.range (k+1)).map fun j=>C (a+j)).sum=((List.range k).map fun j=>C (a+j)).sum+C (a+k):=by rw[List.range_succ,List.map_append,List.sum_append];simp
  rw[a0] at a2
  have b1:((s0.looked+((List.range k).map fun j=>C (a+j)).sum+C (a+k):Nat):Int)≤fuel:=by omega
  have a3:(way++[no]).length=way.length+1:=by simp
  obtain⟨b3,a8,g1,g2,g3⟩:=L.go (a+k) (by omega) d' (way++[no]) (Xg hi' (Qu F no) k).1 (Xg hi' (Qu F no) k).2 { s0 with es:=s0.es++es,bs:=s0.bs++bl,deep:=if k=0 then s0.deep else((way.length+(h+1)+1:Nat):Int),looked:=s0.looked+((List.range k).map fun j=>C (a+j)).sum } hd (by rw[a3];omega) (by
    intro y hy
    rcases List.mem_append.1 hy with q|q
    ·exact hway y q
    ·rw[List.mem_singleton.1 q];exact hno) a9 (fun x hx=>⟨by rw[a6];exact b2 x hx,b0 x hx⟩) hdry b1 (by
    rw[a3,show way.length+1+h+1=way.length+(h+1)+1 by omega]
    by_cases q:k=0
    ·rcases hdeep with d|d
     ·exact .inl (by show(if k=0 then s0.deep else _)=0;rw[if_pos q];exact d)
     ·exact .inr (by show(if k=0 then s0.deep else _)=_;rw[if_pos q];exact d)
    ·exact .inr (by show(if k=0 then s0.deep else _)=_;rw[if_neg q]))
  refine⟨es++b3,bl++a8,?_,?_,?_⟩
  ·rw[List.map_append,e1,g1,List.range_succ,List.flatMap_append];simp
  ·rw[List.length_append,e2,g2,a0]
  ·rw[Js,e3]
   unfold Wm
   rw[if_neg (by rw[hdry];simp)]
   unfold Vz
   rw[hval k a1,if_pos r1,r2,g3,a0,if_neg (Nat.succ_ne_zero k),a3,show way.length+1+h+1=way.length+(h+1)+1 by omega,List.append_assoc,List.append_assoc]
   simp only[WS.mk.injEq,true_and,and_true]
   omega
theorem Zfm{F:Bl}{t fuel:Int}{h n base len:Nat}{X:Nat→List (Int×Bl)}{C:Nat→Nat}{u:List Ent}(L:Lev F t fuel h n base X C)(hn:u.length=n)(hu:∀ k,k<n→(u.getD k Zm).2.1=leB ((base+k:Nat):Int) 4)(hh:∀ k,k<n→∃ v r,X k=((u.getD k Zm).1,v)::r)
  (hs:∀ a b,a<b→b<n→∀ x∈X a,∀ y∈X b,x.1<y.1) (hs1:∀ a,a<n→(X a).Pairwise fun x y=>x.1<y.1) (E:EntsOk 4 u) (h1:1≤t) (h2:t≤5) (hn1:1≤n) (hb1:1≤base) (hF:LaidF F t false 18 4 u (base+n)) (hl:F.length=len) (hb:(base+n+ovN n 18)*256≤len) (h4:base+n+ovN n 18≤14400) :
  Lev F t fuel (h+1) (ovN n 18) (base+n) (fun i=>(List.range (Xw n 18 i)).flatMap fun j=>X (i*18+j)) (fun i=>1+((List.range (Xw n 18 i)).map fun j=>C (i*18+j)).sum) where
 one _ _:=Nat.le_add_right _ _
 go i hi d way lo hi' s hd hw hway hr hX hdry hfu hdeep:=by
  subst hn
  obtain⟨d',rfl⟩:∃ d',d=d'+1:=⟨d-1,by omega⟩
  have N:=Gm E h1 h2 (leaf:=false) (m:=18) (v:=4) rfl rfl (fun _=>hn1) hi
  have B:=Fi N
  obtain⟨he,a4⟩:=Zad N hl (by omega) (by omega) (hF i hi) t (.inr rfl)
  have b7:=Oi (m:=18) (by decide) hn1 hi
  have a1:=Vl u 18 i
  have a3:∀ j,j<Xw u.length 18 i→(Zo u 18 i).getD j Zm=u.getD (i*18+j) Zm:=fun j hj=>Vp hj
  have b8:1≤Xw u.length 18 i:=by unfold Xw;omega
  have b0:i*18+Xw u.length 18 i≤u.length:=by unfold Xw;omega
  replace hX:∀ x∈(List.range (Xw u.length 18 i)).flatMap (fun j=>X (i*18+j)),lo≤x.1∧x.1<hi':=hX
  replace hfu:((s.looked+(1+((List.range (Xw u.length 18 i)).map fun j=>C (i*18+j)).sum):Nat):Int)≤fuel:=hfu
  show ∃ (es:List Ent) (bl:List Int),es.map kvE=(List.range (Xw u.length 18 i)).flatMap (fun j=>X (i*18+j))∧bl.length=1+((List.range (Xw u.length 18 i)).map fun j=>C (i*18+j)).sum∧Zn F t fuel (d'+1) way ((base+u.length+i:Nat):Int) lo hi' s={ s with es:=s.es++es,bs:=s.bs++bl,deep:=((way.length+(h+1)+1:Nat):Int),looked:=s.looked+(1+((List.range (Xw u.length 18 i)).map fun j=>C (i*18+j)).sum) }
  generalize Xw u.length 18 i=z at a1 a3 b8 b0 hX hfu ⊢
  obtain⟨no,b4⟩:∃ no:Int,no=((base+u.length+i:Nat):Int):=⟨_,rfl⟩
  rw[←b4] at he a4 ⊢
  have hC:Zr (inB F no)=(Zo u 18 i).length:=by rw[a4];exact B.c
  have hK:Qu F no=Ym (Zo u 18 i):=by unfold Qu;rw[hC,a4];exact B.k
  have hV:Nm F no=Vh (Zo u 18 i):=by unfold Nm;rw[hC,a4];exact B.v
  have hL:Xm (inB F no)=false:=by rw[a4];exact B.l
  have b1:(Ym (Zo u 18 i)).length=z:=by rw[Gc,a1]
  have b9:(Vh (Zo u 18 i)).length=z:=by rw[Mz,a1]
  have b2:∀ j,j<z→(Ym (Zo u 18 i)).getD j 0=(u.getD (i*18+j) Zm).1:=fun j hj=>by rw[Mo (by rw[a1];exact hj),a3 j hj]
  have a6:∀ j,j<z→(Vh (Zo u 18 i)).getD j []=(u.getD (i*18+j) Zm).2.1:=fun j hj=>by rw[Rg (by rw[a1];exact hj),a3 j hj]
  have a8:∀ j,j<z→0≤(Ym (Zo u 18 i)).getD j 0∧(Ym (Zo u 18 i)).getD j 0≤281474976710655:=fun j hj=>N.hk0 j (by rw[a1];exact hj)
  have a5:∀ j,j+1<z→(Ym (Zo u 18 i)).getD j 0<(Ym (Zo u 18 i)).getD (j+1) 0:=fun j hj=>N.hk1 j (by rw[a1];exact hj)
  have a0:=Mf N
  have b5:(Zo u 18 i).length=z:=a1
  generalize Ym (Zo u 18 i)=K at hK b1 b2 a8 a5 a0
  generalize Vh (Zo u 18 i)=Vs at hV b9 a6
  rw[b5] at hC
  have a9:∀ j,j<z→∀ x∈X (i*18+j),lo≤x.1∧x.1<hi':=fun j hj x hx=>hX x (List.mem_flatMap.2 ⟨j,List.mem_range.2 hj,hx⟩)
  have a2:∀ j,j<z→∃ v r,X (i*18+j)=(K.getD j 0,v)::r:=fun j hj=>by rw[b2 j hj];exact hh _ (by omega)
  have b3:∀ j,j<z→lo≤K.getD j 0∧K.getD j 0<hi':=by
   intro j hj
   obtain⟨v,r,hv⟩:=a2 j hj
   exact a9 j hj (K.getD j 0,v) (by rw[hv];exact List.mem_cons_self)
  have hk:∀ x∈K,lo≤x∧x<hi':=by
   intro x hx
   obtain⟨j,hj,rfl⟩:=List.mem_iff_getElem.1 hx
   have:=b3 j (by omega)
   simpa [List.getD,hj] using this
  have b6:=of_decide_eq_true hr
  have a7:Xn F way no t lo hi' s.deep=0:=Zd4 (by omega) (fun y hy=>by have:=hway y hy;omega) he hr (by rw[hK];exact a0) (by rw[hK];exact hk) fun q=>by rw[hL] at q;cases q
  obtain⟨es,bl,e1,e2,e3⟩:=lev_loop L (way:=way) (no:=no) (hi':=hi') (s0:={ s with looked:=s.looked+1,bs:=s.bs++[no] }) (z:=z) (a:=i*18) (d':=d') K hK b1 b0
   (fun k hk=>by rw[hV,a6 k hk];exact hu _ (by omega)) a2 hs hs1 (fun k hk=>⟨(a8 k hk).1,(b3 k hk).2⟩) a5 (fun k hk x hx=>(a9 k hk x hx).2) b6.2.2 hb1 (by omega) (by omega) (by omega) (fun y hy=>by have:=hway y hy;omega) (by omega) hdry (by rw[show way.length+(h+1)+1=way.length+(h+1)+1 from rfl];exact hdeep) (by simp only;omega) z (Nat.le_refl _)
  refine⟨es,no::bl,e1,by rw[List.length_cons,e2];omega,?_⟩
  unfold Zn
  rw[if_neg (by omega),if_neg (by rw[a7];simp),if_neg (by rw[hL];simp),hC,e3,if_neg (by omega)]
  simp only[WS.mk.injEq,List.append_assoc,List.singleton_append,true_and,and_true]
  omega
theorem Ci{n m:Nat}(hm:1≤m)(C:Nat→Nat):∀ j,j≤ovN n m→((List.range j).map fun i=>1+((List.range (Xw n m i)).map fun k=>C (i*m+k)).sum).sum=j+((List.range (min (j*m) n)).map C).sum
 | 0,_=>by simp
 | j+1,hj=>by
  have a0:=Fp hm (show j<ovN n m by omega)
  have e:min ((j+1)*m) n=j*m+Xw n m j:=by unfold Xw;rw[Nat.add_mul,Nat.one_mul];omega
  rw[List.range_succ,List.map_append,List.sum_append,Ci hm C j (by omega),e,List.range_add,List.map_append,List.sum_append,Nat.min_eq_left a0]
  simp only[List.map_cons,List.map_nil,List.sum_cons,List.sum_nil,List.map_map]
  have:((List.range (Xw n m j)).map fun k=>C (j*m+k))=(List.range (Xw n m j)).map (C ∘ fun x=>j*m+x):=rfl
  rw[this];omega
theorem Ma{α:Type}{n m:Nat}(hm:1≤m)(X:Nat→List α):∀ j,j≤ovN n m→((List.range j).flatMap fun i=>(List.range (Xw n m i)).flatMap fun k=>X (i*m+k))=(List.range (min (j*m) n)).flatMap X
 | 0,_=>by simp
 | j+1,hj=>by
  have a0:=Fp hm (show j<ovN n m by omega)
  have e:min ((j+1)*m) n=j*m+Xw n m j:=by unfold Xw;rw[Nat.add_mul,Nat.one_mul];omega
  rw[List.range_succ,List.flatMap_append,Ma hm X j (by omega),e,List.range_add,List.flatMap_append,Nat.min_eq_left a0]
  simp[List.flatMap_map]
theorem ov_all{n m:Nat}(hm:1≤m):min (ovN n m*m) n=n:=by
 have h:=Nat.div_add_mod (n+m-1) m
 have h2:=Nat.mod_lt (n+m-1) (show 0<m by omega)
 have h3:(n+m-1)/m*m≤ovN n m*m:=Nat.mul_le_mul_right m (by unfold ovN;omega)
 rw[Nat.mul_comm] at h
 omega
def Zgc(X:List (Int×Bl))(total deep:Nat)(w:WS):Prop:=∃ (es:List Ent) (bl:List Int),es.map kvE=X∧bl.length=total∧w=⟨es,bl,(deep:Int),total,[],false⟩
theorem Af{t fuel:Int}(h1:1≤t)(h2:t≤5)(n:Nat):∀ (u:List Ent) (h base:Nat) (bs F:Bl) (X:Nat→List (Int×Bl)) (C:Nat→Nat),u.length=n→1≤n→EntsOk 4 u→(∀ k,k<n→(u.getD k Zm).2.1=leB ((base+k:Nat):Int) 4∧(u.getD k Zm).2.2=((base+k:Nat):Int)) →
 (2≤n→∀ k,k<n→∃ v r,X k=((u.getD k Zm).1,v)::r)→(∀ a b,a<b→b<n→∀ x∈X a,∀ y∈X b,x.1<y.1)→(∀ a,a<n→(X a).Pairwise fun x y=>x.1<y.1)→F=(Ys t u (base+n) bs).2→1≤base→(base+n+((Kx n).sum-n))*256≤bs.length→base+n+((Kx n).sum-n)≤14400→Lev F t fuel h n base X C→h+(Kx n).length≤16 →
 (∀ k,k<n→∀ x∈X k,0≤x.1∧x.1<281474976710656)→((((List.range n).map C).sum+((Kx n).sum-n):Nat):Int)≤fuel →
 Zgc ((List.range n).flatMap X) (((List.range n).map C).sum+((Kx n).sum-n)) (h+(Kx n).length) (Zd F (Ys t u (base+n) bs).1 t fuel):=by
 induction n using Nat.strongRecOn with
 | _ n ih =>
  intro u h base bs F X C hn b3 E hu hh hs b9 hF c4 b8 h4 L a0 hX a9
  subst hn
  by_cases h9:u.length≤1
  ·have c0:u.length=1:=by omega
   have c2:Kx u.length=[1]:=by rw[Vk h9,c0]
   rw[c2] at a0 a9 ⊢
   rw[c0] at a9 ⊢
   simp only[List.length_cons,List.length_nil,List.sum_cons,List.sum_nil,List.range_one,List.map_cons,List.map_nil,List.flatMap_cons,List.flatMap_nil,List.append_nil,Nat.sub_self,Nat.add_zero] at a0 a9 ⊢
   rw[Qr h9,(hu 0 (by omega)).2]
   obtain⟨es,bl,e1,e2,e3⟩:=L.go 0 (by omega) 17 [] 0 281474976710656 ws0 (by omega) (by simp;omega) (fun y hy=>by cases hy) (by decide) (fun x hx=>hX 0 (by omega) x hx) rfl (by simp only[ws0];omega) (.inl rfl)
   refine⟨es,bl,e1,e2,?_⟩
   unfold Zd
   rw[e3]
   simp[ws0]
  ·have c6:=Zf9 (x:=u.length) (by omega)
   have hp:=Yd u.length 18
   have c1:Kx u.length=u.length::Kx (ovN u.length 18):=Yz h9
   have hg:=Vj (ovN u.length 18)
   rw[c1] at b8 h4 a0 a9
   simp only[List.sum_cons,List.length_cons] at b8 h4 a0 a9
   obtain⟨a1,a2,a3⟩:=Qi (t:=t) (leaf:=false) (m:=18) (v:=4) (l:=u) (q:=base+u.length) (bs:=bs) E h1 h2 rfl rfl (fun _=>by omega) (ovN u.length 18) (Nat.le_refl _) (by omega)
   obtain⟨b1,b2⟩:=Up (t:=t) h1 h2 (ovN u.length 18) (upE u 18 (base+u.length) (ovN u.length 18)) (base+u.length+ovN u.length 18) (Gl t false 18 4 u (base+u.length) bs (ovN u.length 18)) (Xf _ _ _ _) hp (Nk E (by decide)) (by rw[a1];omega)
   have b6:F=(Ys t (upE u 18 (base+u.length) (ovN u.length 18)) (base+u.length+ovN u.length 18) (Gl t false 18 4 u (base+u.length) bs (ovN u.length 18))).2:=by rw[hF,Yi h9]
   have b0:F.length=bs.length:=by rw[b6,b1,a1]
   have a8:LaidF F t false 18 4 u (base+u.length):=by
    intro i hi
    rw[b6,b2 _ (by omega)];exact a2 i hi
   have L2:=Zfm L rfl (fun k hk=>(hu k hk).1) (hh (by omega)) hs b9 E h1 h2 b3 c4 a8 b0 (by omega) (by omega)
   have a7:∀ i,Xw u.length 18 i=min 18 (u.length-i*18):=fun i=>rfl
   have b7:∀ i,i<ovN u.length 18→i*18<u.length:=fun i hi=>Oi (by decide) b3 hi
   have b4:=ov_all (n:=u.length) (m:=18) (by decide)
   have a6:=Ci (n:=u.length) (m:=18) (by decide) C (ovN u.length 18) (Nat.le_refl _)
   have a4:=Ma (n:=u.length) (m:=18) (by decide) X (ovN u.length 18) (Nat.le_refl _)
   rw[b4] at a6 a4
   have b5:=ih (ovN u.length 18) (by omega) (upE u 18 (base+u.length) (ovN u.length 18)) (h+1) (base+u.length) (Gl t false 18 4 u (base+u.length) bs (ovN u.length 18)) F (fun i=>(List.range (Xw u.length 18 i)).flatMap fun j=>X (i*18+j)) (fun i=>1+((List.range (Xw u.length 18 i)).map fun j=>C (i*18+j)).sum) (Xf _ _ _ _) hp (Nk E (by decide)) (fun k hk=>by rw[Vx hk];exact⟨rfl,rfl⟩)
    (fun _ k hk=>by
     obtain⟨v,r,hv⟩:=hh (by omega) (k*18) (b7 k hk)
     obtain⟨z,hz⟩:∃ z,Xw u.length 18 k=z+1:=⟨Xw u.length 18 k-1,by have:=b7 k hk;rw[a7];omega⟩
     refine⟨v,r++(List.range z).flatMap fun j=>X (k*18+(j+1)),?_⟩
     show(List.range (Xw u.length 18 k)).flatMap _=_
     rw[hz,List.range_succ_eq_map,List.flatMap_cons,Nat.add_zero,hv,Vx hk,(Rs (v:=4) (by decide) b3 hk).1,List.flatMap_map]
     rfl)
    (fun a b c3 hb x hx y hy=>by
     obtain⟨j,hj,hx⟩:=List.mem_flatMap.1 hx
     obtain⟨j2,a5,hy⟩:=List.mem_flatMap.1 hy
     have hj:=List.mem_range.1 hj
     have a5:=List.mem_range.1 a5
     rw[a7] at hj a5
     have:(a+1)*18≤b*18:=Nat.mul_le_mul_right 18 c3
     exact hs (a*18+j) (b*18+j2) (by omega) (by omega) x hx y hy)
    (fun a ha=>by
     refine List.pairwise_flatMap.2 ⟨fun j hj=>?_,?_⟩
     ·have hj:=List.mem_range.1 hj
      rw[a7] at hj
      exact b9 _ (by omega)
     ·refine List.Pairwise.imp_of_mem ?_ (List.pairwise_lt_range)
      intro j j2 hj a5 c5 x hx y hy
      have a5:=List.mem_range.1 a5
      rw[a7] at a5
      exact hs (a*18+j) (a*18+j2) (by omega) (by omega) x hx y hy)
    b6 (by omega) (by rw[a1];omega) (by omega) L2 (by omega)
    (fun k hk x hx=>by
     obtain⟨j,hj,hx⟩:=List.mem_flatMap.1 hx
     have hj:=List.mem_range.1 hj
     rw[a7] at hj
     exact hX _ (by omega) x hx)
    (by rw[a6];omega)
   rw[a6,a4] at b5
   rw[Yi h9,c1,List.sum_cons,List.length_cons]
   have e1:ovN u.length 18+((List.range u.length).map C).sum+((Kx (ovN u.length 18)).sum-ovN u.length 18)=((List.range u.length).map C).sum+(u.length+(Kx (ovN u.length 18)).sum-u.length):=by omega
   have e2:h+1+(Kx (ovN u.length 18)).length=h+((Kx (ovN u.length 18)).length+1):=by omega
   rw[e1,e2] at b5
   exact b5
theorem Cw:∀ (k x:Nat),x≤18 ^ k→(Kx x).length≤k+1
 | 0,x,h=>by rw[Vk (by simpa using h)];simp
 | k+1,x,h=>by
  by_cases h1:x≤1
  ·rw[Vk h1];simp
  ·rw[Yz h1,List.length_cons]
   have:ovN x 18≤18 ^ k:=by
    rw[Nat.pow_succ] at h
    have hp:0<18 ^ k:=Nat.pow_pos (by decide)
    unfold ovN
    have:(x+18-1)/18≤18 ^ k:=by
     rw[Nat.div_le_iff_le_mul_add_pred (by decide)];omega
    omega
   have:=Cw k _ this
   omega
theorem Cv{l:List Ent}{m:Nat}:∀ j,((List.range j).flatMap fun i=>(Zo l m i).map kvE)=(l.take (j*m)).map kvE
 | 0=>by simp
 | j+1=>by
  rw[List.range_succ,List.flatMap_append,Cv j,Nat.add_mul,Nat.one_mul,List.take_add,List.map_append]
  simp[Zo]
theorem Zed(n:Nat):((List.range n).map fun _=>1).sum=n:=by
 induction n with
 | zero=>rfl
 | succ n ih=>rw[List.range_succ,List.map_append,List.sum_append,ih];simp
theorem Zc1{t fuel:Int}{l:List Ent}{q:Nat}{bs:Bl}(h1:1≤t)(h2:t≤5)(E:EntsOk (Jv t true) l)(hn:l.length≤32768)(hq:1≤q)(hbs:(q+Kz t l.length)*256≤bs.length)(h4:q+Kz t l.length≤14400)(hfu:(Kz t l.length:Int)≤fuel) :
 Zgc (l.map kvE) (Kz t l.length) (Kt t l.length).length (Zd (Xu t l q bs).2 (Xu t l q bs).1 t fuel):=by
 obtain⟨m,hm⟩:∃ m,Qq t true=m:=⟨_,rfl⟩
 obtain⟨v,hv⟩:∃ v,Jv t true=v:=⟨_,rfl⟩
 have a7:=Xv t true
 have h6:6≤Qq t true:=by
  unfold Qq;repeat' split
  all_goals first|decide|simp_all
 have b0:=Yd l.length m
 have hg:=Vj (ovN l.length m)
 have hN:Kz t l.length=(Kx (ovN l.length m)).sum:=by unfold Kz Kt;rw[hm]
 have hT:Xu t l q bs=Ys t (upE l m q (ovN l.length m)) (q+ovN l.length m) (Gl t true m v l q bs (ovN l.length m)):=by unfold Xu;rw[hm,hv]
 have hD:(Kt t l.length).length=0+(Kx (ovN l.length m)).length:=by unfold Kt;rw[hm,Nat.zero_add]
 rw[hv] at E
 rw[hm] at a7 h6
 rw[hN] at hbs h4 hfu ⊢
 rw[hD,hT]
 obtain⟨a1,a2,a3⟩:=Qi (t:=t) (leaf:=true) (m:=m) (v:=v) (l:=l) (q:=q) (bs:=bs) E h1 h2 hm hv (fun h=>by cases h) (ovN l.length m) (Nat.le_refl _) (by omega)
 obtain⟨b1,b2⟩:=Up (t:=t) h1 h2 (ovN l.length m) (upE l m q (ovN l.length m)) (q+ovN l.length m) (Gl t true m v l q bs (ovN l.length m)) (Xf _ _ _ _) b0 (Nk E a7.1) (by rw[a1];omega)
 have a9:(Ys t (upE l m q (ovN l.length m)) (q+ovN l.length m) (Gl t true m v l q bs (ovN l.length m))).2.length=bs.length:=by rw[b1,a1]
 have a6:LaidF (Ys t (upE l m q (ovN l.length m)) (q+ovN l.length m) (Gl t true m v l q bs (ovN l.length m))).2 t true m v l q:=by
   intro i hi
   rw[b2 _ (by omega)];exact a2 i hi
 have L:=lev_leaf (fuel:=fuel) hm hv E h1 h2 a6 a9 (by omega) (by omega)
 have b6:ovN l.length m≤5833:=by
   unfold ovN
   have:(l.length+m-1)/m≤5833:=by
    rw[Nat.div_le_iff_le_mul_add_pred (by omega)]
    have:=Nat.mul_le_mul_right 5833 h6
    omega
   omega
 have b8:=Cw 4 (ovN l.length m) (Nat.le_trans b6 (by decide))
 have a5:∀ {i j:Nat},j<Xw l.length m i→i*m+j<l.length:=fun {i j} hj=>by unfold Xw at hj;omega
 have a0:∀ {i:Nat} {x:Int×Bl},x∈(Zo l m i).map kvE→∃ j,j<Xw l.length m i∧x=kvE (l.getD (i*m+j) Zm):=by
   intro i x hx
   obtain⟨y,hy,rfl⟩:=List.mem_map.1 hx
   obtain⟨j,hj,rfl⟩:=List.mem_iff_getElem.1 hy
   have a4:j<Xw l.length m i:=by rw[←Vl];exact hj
   refine⟨j,a4,?_⟩
   rw[←Vp a4];simp[List.getD,hj]
 have a8:=Af (fuel:=fuel) h1 h2 (ovN l.length m) (upE l m q (ovN l.length m)) 0 q (Gl t true m v l q bs (ovN l.length m)) _ (fun i=>(Zo l m i).map kvE) (fun _=>1) (Xf _ _ _ _) b0 (Nk E a7.1) (fun k hk=>by rw[Vx hk];exact⟨rfl,rfl⟩)
   (fun b4 k hk=>by
    have b7:1≤l.length:=by
     rcases Nat.eq_zero_or_pos l.length with q0|q0
     ·rw[q0] at b4
      have:ovN 0 m=1:=by unfold ovN;rw[Nat.div_eq_of_lt (by omega)];rfl
      omega
     ·exact q0
    obtain⟨k1,k2⟩:=Rs (v:=v) (q:=q) a7.1 b7 hk
    have hz:0<Xw l.length m k:=by unfold Xw;omega
    rw[Vx hk,k1]
    have hc:=Vl l m k
    cases hcc:Zo l m k with
    | nil=>rw[hcc] at hc;simp at hc;omega
    | cons y r =>
     refine⟨y.2.1,r.map kvE,?_⟩
     have h0:=Vp (l:=l) (m:=m) (i:=k) (j:=0) hz
     rw[hcc,Nat.add_zero] at h0
     simp only[List.map_cons]
     have e0:y=l.getD (k*m) Zm:=by simpa [List.getD] using h0
     rw[e0];rfl)
   (fun a b b5 hb x hx y hy=>by
    obtain⟨j,hj,rfl⟩:=a0 hx
    obtain⟨j2,a4,rfl⟩:=a0 hy
    have:(a+1)*m≤b*m:=Nat.mul_le_mul_right m b5
    rw[Nat.add_mul,Nat.one_mul] at this
    have b9:j<m:=by unfold Xw at hj;omega
    exact E.mono (a:=a*m+j) (b:=b*m+j2) (by omega) (a5 a4))
   (fun a ha=>by
    rw[List.pairwise_map]
    refine List.pairwise_iff_getElem.2 fun i j hi hj c0=>?_
    have a4:j<Xw l.length m a:=by rw[←Vl];exact hj
    have e1:=Vp (l:=l) (m:=m) (i:=a) (j:=i) (by omega)
    have e2:=Vp (l:=l) (m:=m) (i:=a) (j:=j) a4
    simp only[List.getD,List.getElem?_eq_getElem hi,List.getElem?_eq_getElem hj,Option.getD_some] at e1 e2
    show(Zo l m a)[i].1<(Zo l m a)[j].1
    rw[e1,e2]
    exact E.mono (a:=a*m+i) (b:=a*m+j) (by omega) (a5 a4))
   rfl hq (by rw[a1];omega) (by omega) L (by omega)
   (fun k hk x hx=>by
    obtain⟨j,hj,rfl⟩:=a0 hx
    have:=E.hk _ (a5 hj)
    exact⟨this.1,by have:=this.2;simp only[kvE];omega⟩)
   (by rw[Zed];omega)
 rw[Zed,Cv] at a8
 rw[show ovN l.length m+((Kx (ovN l.length m)).sum-ovN l.length m)=(Kx (ovN l.length m)).sum by omega] at a8
 have b3:=ov_all (n:=l.length) (m:=m) a7.1
 rw[List.take_of_length_le (by omega)] at a8
 exact a8
theorem Zd1{l x y:Bl}{a b:Nat}(ha:a+x.length≤l.length)(hb:b+y.length≤l.length)(hd:a+x.length≤b∨b+y.length≤a):Vb (Vb l a x) b y=Vb (Vb l b y) a x:=by
 have e1:=Yj ha
 have e2:=Yj hb
 apply Nu
 ·rw[Yj (by rw[e1];exact hb),e1,Yj (by rw[e2];exact ha),e2]
 ·intro j hj
  rw[Qn (by rw[e1];exact hb),Qn ha,Qn (by rw[e2];exact ha),Qn hb]
  by_cases p:a≤j∧j<a+x.length
  ·rw[if_neg (by omega),if_pos p,if_pos p]
  ·rw[if_neg p,if_neg p]
theorem Im{t:Int}{leaf:Bool}{m v:Nat}{l:List Ent}{q k:Nat}{bs x:Bl}(E:EntsOk v l)(h1:1≤t)(h2:t≤5)(hm:Qq t leaf=m)(hv:Jv t leaf=v)(hl:leaf=false→1≤l.length)(hx:x.length=256)(hk:(k+1)*256≤bs.length)(j:Nat) :
 j≤ovN l.length m→(q+j)*256≤bs.length→(k<q∨q+j≤k)→Vb (Gl t leaf m v l q bs j) (k*256) x=Gl t leaf m v l q (Vb bs (k*256) x) j:=by
 induction j with
 | zero=>exact fun _ _ _=>by simp only[Gl]
 | succ j ih =>
  intro hj hq hd
  have ih:=ih (by omega) (by omega) (by omega)
  have a1:=(Qi (t:=t) (leaf:=leaf) (m:=m) (v:=v) (l:=l) (q:=q) (bs:=bs) E h1 h2 hm hv hl j (by omega) (by omega)).1
  have a0:=Nq (Gm E h1 h2 hm hv hl (show j<ovN l.length m by omega))
  have a2:(Yp 2 ((q+j:Nat):Int) (Zf0 t leaf m v (Zo l m j))).length=256:=Ko (by rw[a0];decide)
  rw[Gi,Gi,←ih]
  exact Zd1 (by rw[a2,a1];omega) (by rw[hx,a1];omega) (by rw[a2,hx];omega)
theorem Zcc{t:Int}(h1:1≤t)(h2:t≤5){k:Nat}{x:Bl}(hx:x.length=256)(n:Nat):∀ (u:List Ent) (q:Nat) (bs:Bl),u.length=n→1≤n→EntsOk 4 u→(q+((Kx n).sum-n))*256≤bs.length→(k+1)*256≤bs.length→(k<q∨q+((Kx n).sum-n)≤k) →
 Ys t u q (Vb bs (k*256) x)=((Ys t u q bs).1,Vb (Ys t u q bs).2 (k*256) x):=by
 induction n using Nat.strongRecOn with
 | _ n ih =>
  intro u q bs hn a0 E hq hk hd
  subst hn
  by_cases h:u.length≤1
  ·rw[Qr h,Qr h]
  ·have a4:=Zf9 (x:=u.length) (by omega)
   have hp:=Yd u.length 18
   have a5:(Kx u.length).sum=u.length+(Kx (ovN u.length 18)).sum:=by rw[Yz h];rfl
   have hg:=Vj (ovN u.length 18)
   rw[Yi h,Yi h]
   obtain⟨a1,a2,a3⟩:=Qi (t:=t) (leaf:=false) (m:=18) (v:=4) (l:=u) (q:=q) (bs:=bs) E h1 h2 rfl rfl (fun _=>by omega) (ovN u.length 18) (Nat.le_refl _) (by omega)
   rw[←Im (leaf:=false) (m:=18) (v:=4) E h1 h2 rfl rfl (fun _=>by omega) hx hk (ovN u.length 18) (Nat.le_refl _) (by omega) (by omega)]
   exact ih (ovN u.length 18) (by omega) (upE u 18 q (ovN u.length 18)) (q+ovN u.length 18) _ (Xf _ _ _ _) hp (Nk E (by decide)) (by rw[a1];omega) (by rw[a1];exact hk) (by omega)
theorem Zda{t:Int}{l:List Ent}{q k:Nat}{bs x:Bl}(h1:1≤t)(h2:t≤5)(E:EntsOk (Jv t true) l)(hx:x.length=256)(hq:(q+Kz t l.length)*256≤bs.length)(hk:(k+1)*256≤bs.length)(hd:k<q∨q+Kz t l.length≤k) :
 Xu t l q (Vb bs (k*256) x)=((Xu t l q bs).1,Vb (Xu t l q bs).2 (k*256) x):=by
 obtain⟨m,hm⟩:∃ m,Qq t true=m:=⟨_,rfl⟩
 have a0:=Xv t true
 have a4:=Yd l.length m
 have hg:=Vj (ovN l.length m)
 have hN:Kz t l.length=(Kx (ovN l.length m)).sum:=by unfold Kz Kt;rw[hm]
 rw[hm] at a0
 rw[hN] at hq hd
 unfold Xu
 rw[hm]
 obtain⟨a1,a2,a3⟩:=Qi (t:=t) (leaf:=true) (m:=m) (v:=Jv t true) (l:=l) (q:=q) (bs:=bs) E h1 h2 hm rfl (fun h=>by cases h) (ovN l.length m) (Nat.le_refl _) (by omega)
 rw[←Im E h1 h2 hm rfl (fun h=>by cases h) hx hk (ovN l.length m) (Nat.le_refl _) (by omega) (by omega)]
 exact Zcc h1 h2 hx (ovN l.length m) (upE l m q (ovN l.length m)) (q+ovN l.length m) _ (Xf _ _ _ _) a4 (Nk E a0.1) (by rw[a1];omega) (by rw[a1];exact hk) (by omega)
theorem Ch{t:Int}{l:List Ent}{q:Nat}{bs:Bl}(h1:1≤t)(h2:t≤5)(E:EntsOk (Jv t true) l)(hq:(q+Kz t l.length)*256≤bs.length):(Xu t l q bs).2.length=bs.length∧∀ x,x<q→Jb (Xu t l q bs).2 x=Jb bs x:=by
 obtain⟨m,hm⟩:∃ m,Qq t true=m:=⟨_,rfl⟩
 have a0:=Xv t true
 have a4:=Yd l.length m
 have hg:=Vj (ovN l.length m)
 have hN:Kz t l.length=(Kx (ovN l.length m)).sum:=by unfold Kz Kt;rw[hm]
 rw[hm] at a0
 rw[hN] at hq
 unfold Xu
 rw[hm]
 obtain⟨a1,a2,a3⟩:=Qi (t:=t) (leaf:=true) (m:=m) (v:=Jv t true) (l:=l) (q:=q) (bs:=bs) E h1 h2 hm rfl (fun h=>by cases h) (ovN l.length m) (Nat.le_refl _) (by omega)
 obtain⟨b1,b2⟩:=Up (t:=t) h1 h2 (ovN l.length m) (upE l m q (ovN l.length m)) (q+ovN l.length m) (Gl t true m (Jv t true) l q bs (ovN l.length m)) (Xf _ _ _ _) a4 (Nk E a0.1) (by rw[a1];omega)
 exact⟨by rw[b1,a1],fun x hx=>by rw[b2 x (by omega),a3 x hx]⟩
theorem Rb{t s:Int}{leaf:Bool}{m v:Nat}{l e:List Ent}{q p:Nat}{bs:Bl}(E:EntsOk v l)(h1:1≤t)(h2:t≤5)(hm:Qq t leaf=m)(hv:Jv t leaf=v)(hl:leaf=false→1≤l.length)(s1:1≤s)(s2:s≤5)(Es:EntsOk (Jv s true) e)(hp:(p+Kz s e.length)*256≤bs.length)(j:Nat) :
 j≤ovN l.length m→(q+j)*256≤bs.length→p+Kz s e.length≤q→Xu s e p (Gl t leaf m v l q bs j)=((Xu s e p bs).1,Gl t leaf m v l q (Xu s e p bs).2 j):=by
 induction j with
 | zero=>exact fun _ _ _=>by simp only[Gl]
 | succ j ih =>
  intro hj hq hd
  have ih:=ih (by omega) (by omega) hd
  have a1:=(Qi (t:=t) (leaf:=leaf) (m:=m) (v:=v) (l:=l) (q:=q) (bs:=bs) E h1 h2 hm hv hl j (by omega) (by omega)).1
  have a0:=Nq (Gm E h1 h2 hm hv hl (show j<ovN l.length m by omega))
  have a2:(Yp 2 ((q+j:Nat):Int) (Zf0 t leaf m v (Zo l m j))).length=256:=Ko (by rw[a0];decide)
  rw[Gi,Gi,Zda s1 s2 Es a2 (by rw[a1];exact hp) (by rw[a1];omega) (by omega),ih]
theorem Tu{t s:Int}{e:List Ent}{p:Nat}(h1:1≤t)(h2:t≤5)(s1:1≤s)(s2:s≤5)(Es:EntsOk (Jv s true) e)(n:Nat):∀ (u:List Ent) (q:Nat) (bs:Bl),u.length=n→1≤n→EntsOk 4 u→(q+((Kx n).sum-n))*256≤bs.length→(p+Kz s e.length)*256≤bs.length→p+Kz s e.length≤q →
 Xu s e p (Ys t u q bs).2=((Xu s e p bs).1,(Ys t u q (Xu s e p bs).2).2):=by
 induction n using Nat.strongRecOn with
 | _ n ih =>
  intro u q bs hn a4 E hq hp hd
  subst hn
  by_cases h:u.length≤1
  ·rw[Qr h,Qr h]
  ·have a5:=Zf9 (x:=u.length) (by omega)
   have a0:=Yd u.length 18
   have a6:(Kx u.length).sum=u.length+(Kx (ovN u.length 18)).sum:=by rw[Yz h];rfl
   have hg:=Vj (ovN u.length 18)
   obtain⟨a1,a2,a3⟩:=Qi (t:=t) (leaf:=false) (m:=18) (v:=4) (l:=u) (q:=q) (bs:=bs) E h1 h2 rfl rfl (fun _=>by omega) (ovN u.length 18) (Nat.le_refl _) (by omega)
   have hl:=Rb (leaf:=false) (m:=18) (v:=4) (p:=p) E h1 h2 rfl rfl (fun _=>by omega) s1 s2 Es hp (ovN u.length 18) (Nat.le_refl _) (by omega) hd
   rw[Yi h,Yi h,ih (ovN u.length 18) (by omega) (upE u 18 q (ovN u.length 18)) (q+ovN u.length 18) _ (Xf _ _ _ _) a0 (Nk E (by decide)) (by rw[a1];omega) (by rw[a1];exact hp) (by omega),hl]
theorem Zbd{t s:Int}{l e:List Ent}{q p:Nat}{bs:Bl}(h1:1≤t)(h2:t≤5)(E:EntsOk (Jv t true) l)(s1:1≤s)(s2:s≤5)(Es:EntsOk (Jv s true) e)(hq:(q+Kz t l.length)*256≤bs.length)(hd:p+Kz s e.length≤q) :
 Xu s e p (Xu t l q bs).2=((Xu s e p bs).1,(Xu t l q (Xu s e p bs).2).2):=by
 obtain⟨m,hm⟩:∃ m,Qq t true=m:=⟨_,rfl⟩
 have a4:=Xv t true
 have a5:=Yd l.length m
 have hg:=Vj (ovN l.length m)
 have hN:Kz t l.length=(Kx (ovN l.length m)).sum:=by unfold Kz Kt;rw[hm]
 rw[hm] at a4
 rw[hN] at hq
 have a0:(p+Kz s e.length)*256≤bs.length:=by omega
 obtain⟨a1,a2,a3⟩:=Qi (t:=t) (leaf:=true) (m:=m) (v:=Jv t true) (l:=l) (q:=q) (bs:=bs) E h1 h2 hm rfl (fun h=>by cases h) (ovN l.length m) (Nat.le_refl _) (by omega)
 have hl:=Rb (p:=p) E h1 h2 hm rfl (fun h=>by cases h) s1 s2 Es a0 (ovN l.length m) (Nat.le_refl _) (by omega) hd
 have hu:=Tu (p:=p) h1 h2 s1 s2 Es (ovN l.length m) (upE l m q (ovN l.length m)) (q+ovN l.length m) (Gl t true m (Jv t true) l q bs (ovN l.length m)) (Xf _ _ _ _) a5 (Nk E a4.1) (by rw[a1];omega) (by rw[a1];exact a0) (by omega)
 rw[show(Xu t l q bs)=Ys t (upE l m q (ovN l.length m)) (q+ovN l.length m) (Gl t true m (Jv t true) l q bs (ovN l.length m)) from by unfold Xu;rw[hm],hu,hl]
 rw[show(Xu t l q (Xu s e p bs).2)=Ys t (upE l m q (ovN l.length m)) (q+ovN l.length m) (Gl t true m (Jv t true) l q (Xu s e p bs).2 (ovN l.length m)) from by unfold Xu;rw[hm]]
abbrev Ur:=Int×List Ent
def Mx(x:Ur):Prop:=1≤x.1∧x.1≤5∧EntsOk (Jv x.1 true) x.2∧x.2.length≤32768
def Vq(x:Ur):Nat:=Kz x.1 x.2.length
def Ub:List Ur→Nat
 | []=>0
 | x::r=>Vq x+Ub r
def Bn:List Ur→Nat→Bl→Bl
 | [],_,bs=>bs
 | x::r,q,bs=>Bn r (q+Vq x) (Xu x.1 x.2 q bs).2
theorem Ah(a b:List Ur):Ub (a++b)=Ub a+Ub b:=by
 induction a with
 | nil=>simp[Ub]
 | cons x a ih=>simp only[List.cons_append,Ub,ih];omega
theorem Bh(a b:List Ur):∀ (q:Nat) (bs:Bl),Bn (a++b) q bs=Bn b (q+Ub a) (Bn a q bs):=by
 induction a with
 | nil=>intro q bs;simp[Bn,Ub]
 | cons x a ih =>
  intro q bs
  simp only[List.cons_append,Bn,Ub,ih]
  rw[show q+Vq x+Ub a=q+(Vq x+Ub a) by omega]
theorem Zaj(r:List Ur):∀ (q:Nat) (bs:Bl),(∀ x∈r,Mx x)→(q+Ub r)*256≤bs.length→(Bn r q bs).length=bs.length:=by
 induction r with
 | nil=>intro q bs _ _;rfl
 | cons x r ih =>
  intro q bs h hb
  have hx:=h x (by simp)
  rw[show Ub (x::r)=Vq x+Ub r from rfl] at hb
  have hk:=Ch (q:=q) (bs:=bs) hx.1 hx.2.1 hx.2.2.1 (by change (q+Vq x)*256≤_;omega)
  rw[show Bn (x::r) q bs=Bn r (q+Vq x) (Xu x.1 x.2 q bs).2 from rfl,ih _ _ (fun y hy=>h y (by simp[hy])) (by rw[hk.1];omega),hk.1]
theorem for_comm{y:Ur}{p:Nat}(hy:Mx y)(r:List Ur):∀ (q:Nat) (bs:Bl),(∀ x∈r,Mx x)→(q+Ub r)*256≤bs.length→p+Vq y≤q →
 Xu y.1 y.2 p (Bn r q bs)=((Xu y.1 y.2 p bs).1,Bn r q (Xu y.1 y.2 p bs).2):=by
 induction r with
 | nil=>intro q bs _ _ _;rfl
 | cons x r ih =>
  intro q bs h hb hp
  have hx:=h x (by simp)
  rw[show Ub (x::r)=Vq x+Ub r from rfl] at hb
  have hk:=Ch (q:=q) (bs:=bs) hx.1 hx.2.1 hx.2.2.1 (by change (q+Vq x)*256≤_;omega)
  have hc:=Zbd (t:=x.1) (s:=y.1) (l:=x.2) (e:=y.2) (q:=q) (p:=p) (bs:=bs) hx.1 hx.2.1 hx.2.2.1 hy.1 hy.2.1 hy.2.2.1 (by change (q+Vq x)*256≤_;omega) hp
  rw[show Bn (x::r) q bs=Bn r (q+Vq x) (Xu x.1 x.2 q bs).2 from rfl,show Bn (x::r) q (Xu y.1 y.2 p bs).2=Bn r (q+Vq x) (Xu x.1 x.2 q (Xu y.1 y.2 p bs).2).2 from rfl,ih _ _ (fun z hz=>h z (by simp[hz])) (by rw[hk.1];omega) (by omega),hc]
theorem for_scan{a b:List Ur}{y:Ur}{q:Nat}{bs:Bl}{fuel:Int}(h:∀ x∈a++y::b,Mx x)(hq:1≤q)(hb:(q+Ub (a++y::b))*256≤bs.length)(h4:q+Ub (a++y::b)≤14400)(hfu:(Vq y:Int)≤fuel) :
 Zgc (y.2.map kvE) (Vq y) (Kt y.1 y.2.length).length (Zd (Bn (a++y::b) q bs) (Xu y.1 y.2 (q+Ub a) (Bn a q bs)).1 y.1 fuel):=by
 have hy:=h y (by simp)
 have hn:Ub (a++y::b)=Ub a+(Vq y+Ub b):=Ah a (y::b)
 have a0:=Zaj a q bs (fun x hx=>h x (by simp[hx])) (by omega)
 have a1:=Zaj b (q+Ub a+Vq y) (Bn a q bs) (fun x hx=>h x (by simp[hx])) (by rw[a0];omega)
 have hc:=for_comm (p:=q+Ub a) hy b (q+Ub a+Vq y) (Bn a q bs) (fun x hx=>h x (by simp[hx])) (by rw[a0];omega) (Nat.le_refl _)
 have s:=Zc1 (t:=y.1) (fuel:=fuel) (l:=y.2) (q:=q+Ub a) (bs:=Bn b (q+Ub a+Vq y) (Bn a q bs)) hy.1 hy.2.1 hy.2.2.1 hy.2.2.2 (by omega) (by change (q+Ub a+Vq y)*256≤_;rw[a1,a0];omega) (by change q+Ub a+Vq y≤_;omega) hfu
 rw[hc] at s
 rw[Bh]
 exact s
def Zgn(B ba b g nn cc:Nat)(pa:O0)(ca f N k0:Nat)(bs:Bl)(t:Int)(leaf:Bool)(m v:Nat)(l:List Ent)(w:World)(e:Ending)(w':World):Prop :=
 ∃ p c,e=.returned (.tuple #[.slice p (ovN l.length m) c,.nilIface])∧Below B w w'∧Ze [72,5] w w'∧Fr [ba,g] w w'∧Al B ba b g nn cc pa ca f N (k0+ovN l.length m) (Gl t leaf m v l (f+k0) bs (ovN l.length m)) w'∧w'.ownsRow w.heap.size 45 3 (.slice p (ovN l.length m) c) (ovN l.length m) ((upE l m (f+k0) (ovN l.length m)).flatMap Hl)
theorem Au(B ba b g nn cc:Nat)(pa:O0)(ca f N k0:Nat)(bs:Bl)(t:Int)(leaf:Bool)(m v:Nat)(a:O0)(c:Nat)(l:List Ent)(w:World)(hC:AlC B ba nn cc ca f N)(hA:Al B ba b g nn cc pa ca f N k0 bs w)(ht1:1≤t)(ht2:t≤5)(hm:Qq t leaf=m)(hv:Jv t leaf=v)(E:EntsOk v l)(hl:leaf=false→1≤l.length)(hn:l.length≤32768)(hf1:1≤f)(hk:k0+ovN l.length m≤N)(hin:∀ W,Below B w W→Ze [72,5] w W→Sts Hl W (.slice a l.length c) l)(hBw:B≤w.heap.size) :
 C0 31 #[P0 ba,V0 t,.bool leaf,.slice a l.length c] w (Zgn B ba b g nn cc pa ca f N k0 bs t leaf m v l w):=by
 have m5:=Xv t leaf
 rw[hm] at m5
 have o4:=hC.hf
 have o2:=hC.hn
 refine zin 96 Tryz.func31 ?_
 refine xr 18 (args:=#[V0 t,.bool leaf]) (Mr t leaf m hm ht1 ht2 _) fun W1 i1=>?_
 refine xc 0 (args:=#[V0 (l.length:Int),V0 (m:Int)]) (Zcp l.length m _ hn (by omega) (by omega)) ?_
 rintro _ W2 ⟨_,rfl,i3,ps,cs,rfl,e6⟩
 have n2:=(blB (Below.refl B w) hBw i1).size
 have g0:=Zh e6 n2
 have j2:=(hA.below i1).below i3
 have hB:=blB (blB (Below.refl B w) hBw i1) hBw i3
 have hX:=(show Fr [ba,g] w _ from(Fr.of_below i1)).trans (Fr.of_below i3)
 have hO:=(show Ze [72,5] w _ from(Ze.of_below i1)).trans (Ze.of_below i3)
 refine zl 5 96 (fun zm l1 V=>∃ (i:Nat) (a2:O0) (c2:Nat) (l2:List Ent) (p4:O0) (c4:Nat),l1=[(0,P0 ba),(1,V0 t),(2,.bool leaf),(3,.slice a2 l2.length c2),(10,.slice p4 i c4),(26,.slice ps (ovN l.length m) cs),(27,V0 (↑(ovN l.length m):Int)),(28,V0 (i:Int))]∧zm=ovN l.length m-((i:Int)).toNat∧Below B w V∧Fr [ba,g] w V∧Ze [72,5] w V∧V.ownsRow w.heap.size 3 1 (.slice ps (ovN l.length m) cs) (ovN l.length m) ((sizL l.length m).map nv)∧V.ownsRow w.heap.size 45 3 (.slice p4 i c4) i ((upE l m (f+k0) i).flatMap Hl)∧Al B ba b g nn cc pa ca f N (k0+i) (Gl t leaf m v l (f+k0) bs i) V∧(∀ W,Below B w W→Ze [72,5] w W→Sts Hl W (.slice a2 l2.length c2) l2)∧i≤ovN l.length m∧l2=l.drop (i*m)) ⟨0,a,c,l,none,0,rfl,rfl,hB,hX,hO,g0,World.ownsRow_nil _ _ _ _,j2,?_,Nat.zero_le _,by simp⟩ ?_
 ·exact hin
 rintro _ _ W3 ⟨i,a2,c2,l2,p4,c4,rfl,rfl,e0,f6,d7,e6,l7,hA,i9,hi,g7⟩ J3 m1 r3
 have m2:=Sl.cap (i9 _ e0 d7)
 have p0:i<ovN l.length m→i*m≤l.length:=Fp (by omega)
 have k8:l2.length=l.length-i*m:=by rw[g7];simp
 have f1:Xw l.length m i≤l2.length:=by rw[k8];unfold Xw;omega
 refine xid 6 ((i:Int)<(↑(ovN l.length m):Int)) (fun m3=>?_) (fun m3=>?_)
 ·refine xx 6 _ (ovN l.length m) i 1 (Iu (Zg e6) (k:=i) (by omega)).1 ?_
  refine xl 0 ((Iu (Zg e6) (k:=i) (by omega)).2) ?_
  have j0:=e0
  have d2:=d7
  have d5:=f6
  refine xa 8 [V0 0,.bool false,S0,S0] 117 fun b6 W6 n6=>?_
  refine xsv 0 n6.blk [V0 t,.bool leaf,S0,S0] fun W7 u7 k7=>?_
  have g6:=n6.ge (B3 W3)
  refine xsH 7 (fun _ _ _ _ zo zx zy V=>Yn (k:=(Xw l.length m i)) (b:=a2) (n:=l2.length) (c:=c2) (i:=(↑(Xw l.length m i):Int)) (ki:=.i64) zo zx zy rfl (by omega) Tryz.underlying37 (by kernel_rfl) V) ?_
  have hB:=u7.below n6.below g6
  refine zl 5 96 (fun zm l1 V=>∃ (j:Nat) (kp:O0) (kc:Nat) (vp:O0) (vc:Nat),l1=[(0,P0 ba),(1,V0 t),(2,.bool leaf),(3,.slice a2 l2.length c2),(10,.slice p4 i c4),(12,V0 (↑(Xw l.length m i):Int)),(13,P0 b6),(26,.slice ps (ovN l.length m) cs),(27,V0 (↑(ovN l.length m):Int)),(28,V0 (i:Int)),(37,.slice a2 (Xw l.length m i) c2),(38,V0 (↑(Xw l.length m i):Int)),(39,V0 (j:Int))]∧zm=Xw l.length m i-((j:Int)).toNat∧B0 W3 V∧Blk V b6 ([V0 t,.bool leaf,.slice kp j kc,.slice vp j vc]) 117∧V.ownsRow W3.heap.size 3 1 (.slice kp j kc) j (((Ym l2).take j).map V0)∧V.ownsRow W3.heap.size 9 1 (.slice vp j vc) j (((Vh l2).take j).map sv)∧j≤Xw l.length m i) ⟨0,none,0,none,0,rfl,rfl,hB,k7,World.ownsRow_nil _ _ _ _,World.ownsRow_nil _ _ _ _,Nat.zero_le _⟩ ?_
  rintro _ _ W8 ⟨j,kp,kc,vp,vc,rfl,rfl,b9,b3,hK,hV,hj⟩ J8 m6 r8
  refine xid 6 ((j:Int)<(↑(Xw l.length m i):Int)) (fun n8=>?_) (fun n8=>?_)
  ·have b0:=i9 _ j0 d2
   refine xx 6 _ (Xw l.length m i) j 3 (Sts.cell b0 Yg Zm (k:=j) (i:=0) (by omega) rfl).1 ?_
   refine xlv 0 (Sts.rp (k:=j) (b0.below b9) Yg Zm (by omega) (by decide)) ?_
   refine xa 0 [V0 0,.string ⟨#[]⟩,V0 0] 45 fun r0 o5 c8=>?_
   have m4:=c8.ge b9
   refine xsv 0 c8.blk [V0 ((l2.getD j Zm).1),.string ⟨((l2.getD j Zm).2.1).toArray⟩,V0 ((l2.getD j Zm).2.2)] fun p2 j1 m0=>?_
   have b1:=j1.blkT (b3.below c8.below) c8.blk (by decide)
   refine xb 5 2 b1 ?_
   refine xb 1 0 m0 ?_
   refine xbs 0 1 [V0 ((l2.getD j Zm).1)] 3 fun q2 p1 d0=>?_
   have g5:=j1.below (bln b9 c8.below) m4
   have p7:=d0.ge g5
   have g8:=j1.own2 (Zb hK c8.below) c8.blk (by decide)
   have k2:=Xd g8 d0
   have c3:=Zb g8 d0.below
   have g3:=bln g5 d0.below
   refine xbi 0 fun _ _ _ _ zJ zQ zo zx zy zK=>Xk (m:=1) (news:=[V0 ((l2.getD j Zm).1)]) (V0 0) 1 8 (j+1) (((Ym l2).take (j+1)).map V0) zo Tryz.underlying68 (by kernel_rfl) rfl (by decide) zx c3 zy (d0.blk.sl 1 1 (by decide) (by decide)) rfl (by simp[Value.oneCell']) (by unfold maxLen;omega) (by omega) g3.size (by rfl) ((Zeb (by omega)).symm) fun i0 h8 o3 m7 e2 k4=>?_
   refine zK _ _ ?_
   have a1:=(b1.below d0.below).grown e2 c3 (by decide)
   refine xs 1 a1 [V0 t,.bool leaf,.slice i0 (j+1) h8,.slice vp j vc] fun r4 i8 l9=>?_
   refine xb 4 3 l9 ?_
   have e9:=i8.blkT ((m0.below d0.below).grown e2 c3 (by decide)) a1 (by decide)
   refine xb 1 1 e9 ?_
   refine xbs 0 1 [.string ⟨((l2.getD j Zm).2.1).toArray⟩] 9 fun q3 o7 e4=>?_
   have g9:=i8.below (g3.trans k4) g6
   have q6:=e4.ge g9
   have f2:=i8.own2 (Xb (Zb (j1.own2 (Zb hV c8.below) c8.blk (by decide)) d0.below) e2 c3 (by decide)) a1 (by decide)
   have k5:=Xd f2 e4
   have d9:=Zb f2 e4.below
   have e7:=bln g9 e4.below
   refine xbi 0 fun _ _ _ _ zJ zQ zo zx zy zK=>Xk (m:=1) (news:=[.string ⟨((l2.getD j Zm).2.1).toArray⟩]) (.string ⟨#[]⟩) 1 16 (j+1) (((Vh l2).take (j+1)).map sv) zo Tryz.underlying115 (by kernel_rfl) rfl (by decide) zx d9 zy (e4.blk.sl 1 1 (by decide) (by decide)) rfl (by simp[Value.oneCell']) (by unfold maxLen;omega) (by omega) e7.size (by rfl) ((Zgf (by omega)).symm) fun j4 k1 p9 n1 e8 k3=>?_
   refine zK _ _ ?_
   have b5:=(l9.below e4.below).grown e8 d9 (by decide)
   refine xs 1 b5 [V0 t,.bool leaf,.slice i0 (j+1) h8,.slice j4 (j+1) k1] fun q7 l4 o1=>?_
   refine xwm 4 ((j:Int)+1) (↑(j+1):Int) ?_
   have j7:=l4.below (e7.trans k3) g6
   have g2:=l4.own2 (Xb (Zb (i8.own2 m7 a1 (by decide)) e4.below) e8 d9 (by decide)) b5 (by decide)
   have g4:=l4.own2 n1 b5 (by decide)
   exact ze 2 (m6 _ _ _ ⟨j+1,_,_,_,_,rfl,rfl,j7,o1,g2,g4,by omega⟩ (by omega))
  refine xsL 9 (fun _ _ _ _ zo zx zy V=>Uv (k:=(Xw l.length m i)) (b:=a2) (n:=l2.length) (c:=c2) (i:=(↑(Xw l.length m i):Int)) (ki:=.i64) 3 zo zx zy rfl (by omega) Tryz.underlying37 (by kernel_rfl) V) ?_
  refine xlv 5 b3.rp ?_
  have a5:B0 W3 W8:=b9
  have h5:w.heap.size≤W3.heap.size:=j0.size
  have f5:Xw l.length m i=j:=by omega
  have o0:(Ym l2).take j=Ym (Zo l m i):=by rw[g7];exact Zca f5
  have m8:(Vh l2).take j=Vh (Zo l m i):=by rw[g7];exact Zb5 f5
  have i6:(Zo l m i).length=j:=by rw[Vl,f5]
  have e3:=Zh hK h5
  rw[o0] at e3
  have h9:=Zh hV h5
  rw[m8] at h9
  have hN:=Gm E ht1 ht2 hm hv hl (show i<ovN l.length m by omega)
  have h4:=Nq hN
  rw[i6] at hN
  have n7:Ky m v (Vg t leaf j m v) (Ym (Zo l m i)) (Vh (Zo l m i)) j=Zf0 t leaf m v (Zo l m i):=by rw[←i6];rfl
  refine xc 0 (args:=#[.agg #[V0 t,.bool leaf,.slice kp j kc,.slice vp j vc]]) (node_Put t leaf j m v (Ym (Zo l m i)) (Vh (Zo l m i)) kp vp kc vc _ hN (Zg e3) (Zg h9)) ?_
  rintro _ p3 ⟨_,rfl,a4,p6,c6,rfl,h6⟩
  have k9:=(blB j0 hBw a5).size
  have f4:=Zh h6 k9
  rw[n7] at f4
  have j5:=(hA.below a5).below a4
  have hO:=(d2.trans (Ze.of_below a5)).trans (Ze.of_below a4)
  have hB:=blB (blB j0 hBw a5) hBw a4
  refine xc 21 (args:=#[P0 ba,V0 2,.slice p6 244 c6]) (Zci B ba b g nn cc pa ca f N (k0+i) (Gl t leaf m v l (f+k0) bs i) 2 p6 c6 (Zf0 t leaf m v (Zo l m i)) (f+k0+i) 244 _ (Nat.add_assoc _ _ _).symm h4 hC j5 (by omega) (by decide) (by decide) (fun W _ hO=>Ka (Zg (Zi f4 hO (by decide))) h4) (by decide) (Nat.le_trans hBw hB.size)) ?_
  rintro _ q0 ⟨rfl,l0,a9,f8,hA⟩
  refine xr 20 (args:=#[V0 (↑(f+k0+i):Int)]) (Ct ((f+k0+i:Nat):Int) (by omega) (by omega) _) fun o6 a0=>?_
  refine xa 2 [V0 0,.string ⟨#[]⟩,V0 0] 45 fun r2 r1 a3=>?_
  have e1:=blB (hB.trans l0) hBw a0
  have c5:=a3.ge0 e1
  have b4:=Zb (Zi (Zb (Zb l7 a5) a4) a9 (by decide)) a0
  have a6:=Xd b4 a3
  refine xsv 0 a3.blk [V0 0,.string ⟨(leB (↑(f+k0+i):Int) 4).toArray⟩,V0 (↑(f+k0+i):Int)] fun q4 b2 f9=>?_
  refine xid 9 ((↑(Xw l.length m i):Int)>(0:Int)) (fun l3=>?_) (fun l3=>?_)
  ·have g1:((Ym (Zo l m i))).getD 0 0=((Zo l m i).getD 0 Zm).1:=Zfz f5 (by omega)
   have c7:=b2.blkT ((((b3.below a4).only a9 (by decide)).below a0).below a3.below) a3.blk (by decide)
   refine xb 2 2 c7 ?_
   have f7:=b2.own2 (Zb (Zb (Zi (Zb e3 a4) a9 (by decide)) a0) a3.below) a3.blk (by decide)
   refine xx 0 _ j 0 1 (IntsN.elem (Zg f7) (by rw[Gc,i6]) (k:=0) (by omega)).1 ?_
   refine xl 0 ((IntsN.elem (Zg f7) (by rw[Gc,i6]) (k:=0) (by omega)).2) ?_
   refine xs 1 f9 [V0 ((Ym (Zo l m i)).getD 0 0),.string ⟨(leB (↑(f+k0+i):Int) 4).toArray⟩,V0 (↑(f+k0+i):Int)] fun o8 e5 l8=>?_
   refine xlv 4 l8.rp ?_
   refine xbs 0 1 [V0 ((Ym (Zo l m i)).getD 0 0),.string ⟨(leB (↑(f+k0+i):Int) 4).toArray⟩,V0 (↑(f+k0+i):Int)] 45 fun q1 p5 b8=>?_
   have i4:=b8.ne l8
   have f0:=e5.below (b2.below (blB e1 hBw a3.below) (Nat.le_trans hBw c5)) (Nat.le_trans hBw c5)
   have p8:=b8.ge0 f0
   have d6:=e5.own3 (b2.own3 (Zb b4 a3.below) a6) a6
   have i7:=Xd d6 b8
   have a8:=Zb d6 b8.below
   have h7:=blB f0 hBw b8.below
   refine xbi 0 fun _ _ _ _ zJ zQ zo zx zy zK=>Xk (m:=1) (news:=[V0 ((Ym (Zo l m i)).getD 0 0),.string ⟨(leB (↑(f+k0+i):Int) 4).toArray⟩,V0 (↑(f+k0+i):Int)]) (.agg #[V0 0,.string ⟨#[]⟩,V0 0]) 3 32 (i+1) ((upE l m (f+k0) (i+1)).flatMap Hl) zo Tryz.underlying37 (by kernel_rfl) rfl (by decide) zx a8 zy (b8.blk.sl 1 1 (by decide) (by decide)) rfl (by simp[Value.oneCell']) (by unfold maxLen;omega) (by omega) h7.size (by rfl) (up_row (by first|exact g1|exact c9)) fun n0 n3 q8 m9 c1 l5=>?_
   refine zK _ _ ?_
   refine xwm 5 ((i:Int)+1) (↑(i+1):Int) ?_
   refine xv1 2 3 (show(.slice (Pq a2 (Xw l.length m i) c2 3) (l2.length-(Xw l.length m i)) (c2-(Xw l.length m i)):Value)=.slice (Pq a2 (Xw l.length m i) c2 3) ((l2.drop (Xw l.length m i)).length) (c2-Xw l.length m i) from by rw[List.length_drop]) ?_
   have j3:=(((((hA.below a0).below a3.below).only (Ze.of_upd (T:=[45]) b2 a3.blk (by decide)) (by decide)).only (Ze.of_upd (T:=[45]) e5 f9 (by decide)) (by decide)).below b8.below).only (Ze.of_grown (T:=[45]) c1 a8 (by decide)) (by decide)
   have d8:l2.drop (Xw l.length m i)=l.drop ((i+1)*m):=by
    rw[g7,List.drop_drop,Nat.add_mul,Nat.one_mul]
    unfold Xw
    rcases Nat.le_total m (l.length-i*m) with q|q
    ·rw[Nat.min_eq_left q]
    ·rw[Nat.min_eq_right q,List.drop_eq_nil_of_le (by omega),List.drop_eq_nil_of_le (by omega)]
   have k6:=h7.trans (l5.mono hBw)
   have hX:=(Fr.grown_new ((Fr.upd_new (Fr.upd_new (((((d5.trans (Fr.of_below a5)).trans (Fr.of_below a4)).trans (f8.mono (by simp))).trans (Fr.of_below a0)).trans (Fr.of_below a3.below)) b2 c5) e5 c5).trans (Fr.of_below b8.below)) c1 a8)
   have j6:=(Ze.grown_new ((Ze.upd_new (Ze.upd_new (((hO.trans a9).trans (Ze.of_below a0)).trans (Ze.of_below a3.below)) b2 c5) e5 c5).trans (Ze.of_below b8.below)) c1 a8)
   have h0:=Xb (Zb (e5.own2 (b2.own2 (Zb (Zb (Zi (Zb (Zb e6 a5) a4) a9 (by decide)) a0) a3.below) a3.blk (by decide)) f9 (by decide)) b8.below) c1 a8 (by decide)
   exact ze 0 (m1 _ _ _ ⟨i+1,_,_,(l2.drop (Xw l.length m i)),_,_,rfl,rfl,k6,hX,j6,h0,m9,j3,fun W h1 h2=>Sts.cut Yg (i9 W h1 h2) _ f1,by omega,d8⟩ (by omega))
  have c9:(0:Int)=((Zo l m i).getD 0 Zm).1:=Tg f5 (by omega)
  refine xlv 4 f9.rp ?_
  refine xbs 0 1 [V0 0,.string ⟨(leB (↑(f+k0+i):Int) 4).toArray⟩,V0 (↑(f+k0+i):Int)] 45 fun q5 o9 b7=>?_
  have i2:=b7.ne f9
  have d1:=b2.below (blB e1 hBw a3.below) (Nat.le_trans hBw c5)
  have q9:=b7.ge0 d1
  have d3:=b2.own3 (Zb b4 a3.below) a6
  have i5:=Xd d3 b7
  have a7:=Zb d3 b7.below
  have d4:=blB d1 hBw b7.below
  refine xbi 0 fun _ _ _ _ zJ zQ zo zx zy zK=>Xk (m:=1) (news:=[V0 0,.string ⟨(leB (↑(f+k0+i):Int) 4).toArray⟩,V0 (↑(f+k0+i):Int)]) (.agg #[V0 0,.string ⟨#[]⟩,V0 0]) 3 32 (i+1) ((upE l m (f+k0) (i+1)).flatMap Hl) zo Tryz.underlying37 (by kernel_rfl) rfl (by decide) zx a7 zy (b7.blk.sl 1 1 (by decide) (by decide)) rfl (by simp[Value.oneCell']) (by unfold maxLen;omega) (by omega) d4.size (by rfl) (up_row (by first|exact g1|exact c9)) fun n9 n4 r5 n5 c0 l6=>?_
  refine zK _ _ ?_
  refine xwm 5 ((i:Int)+1) (↑(i+1):Int) ?_
  refine xv1 2 3 (show(.slice (Pq a2 (Xw l.length m i) c2 3) (l2.length-(Xw l.length m i)) (c2-(Xw l.length m i)):Value)=.slice (Pq a2 (Xw l.length m i) c2 3) ((l2.drop (Xw l.length m i)).length) (c2-Xw l.length m i) from by rw[List.length_drop]) ?_
  have j8:=((((hA.below a0).below a3.below).only (Ze.of_upd (T:=[45]) b2 a3.blk (by decide)) (by decide)).below b7.below).only (Ze.of_grown (T:=[45]) c0 a7 (by decide)) (by decide)
  have d8:l2.drop (Xw l.length m i)=l.drop ((i+1)*m):=by
   rw[g7,List.drop_drop,Nat.add_mul,Nat.one_mul]
   unfold Xw
   rcases Nat.le_total m (l.length-i*m) with q|q
   ·rw[Nat.min_eq_left q]
   ·rw[Nat.min_eq_right q,List.drop_eq_nil_of_le (by omega),List.drop_eq_nil_of_le (by omega)]
  have f3:=d4.trans (l6.mono hBw)
  have hX:=(Fr.grown_new ((Fr.upd_new (((((d5.trans (Fr.of_below a5)).trans (Fr.of_below a4)).trans (f8.mono (by simp))).trans (Fr.of_below a0)).trans (Fr.of_below a3.below)) b2 c5).trans (Fr.of_below b7.below)) c0 a7)
  have j9:=(Ze.grown_new ((Ze.upd_new (((hO.trans a9).trans (Ze.of_below a0)).trans (Ze.of_below a3.below)) b2 c5).trans (Ze.of_below b7.below)) c0 a7)
  have h3:=Xb (Zb (b2.own2 (Zb (Zb (Zi (Zb (Zb e6 a5) a4) a9 (by decide)) a0) a3.below) a3.blk (by decide)) b7.below) c0 a7 (by decide)
  exact ze 0 (m1 _ _ _ ⟨i+1,_,_,(l2.drop (Xw l.length m i)),_,_,rfl,rfl,f3,hX,j9,h3,n5,j8,fun W h1 h2=>Sts.cut Yg (i9 W h1 h2) _ f1,by omega,d8⟩ (by omega))
 refine xe 13 (.tuple #[.slice p4 i c4,.nilIface]) ?_
 obtain rfl:i=ovN l.length m:=by omega
 exact⟨_,_,rfl,e0,d7,f6,hA,l7⟩
theorem Zgj{w w':World}(h:Ze [72,5] w w'):Ze [72,5,31] w w':=h.mono fun t ht=>by simp at ht ⊢;exact⟨ht.1,ht.2.1⟩
def Zeo(B ba b g nn cc:Nat)(pa:O0)(ca f N k0:Nat)(bs:Bl)(t:Int)(leaf:Bool)(m v:Nat)(l:List Ent)(b8:Nat)(w:World)(e:Ending)(w':World):Prop :=
 ∃ p c,e=.returned (.slice p (ovN l.length m) c)∧Below B w w'∧Ze [72,5,31] w w'∧Fr [ba,g,b8] w w'∧Blk w' b8 [.nilIface] 31∧Al B ba b g nn cc pa ca f N (k0+ovN l.length m) (Gl t leaf m v l (f+k0) bs (ovN l.length m)) w'∧w'.ownsRow w.heap.size 45 3 (.slice p (ovN l.length m) c) (ovN l.length m) ((upE l m (f+k0) (ovN l.length m)).flatMap Hl)
theorem Ll(B ba b g nn cc:Nat)(pa:O0)(ca f N k0:Nat)(bs:Bl)(t:Int)(leaf:Bool)(m v:Nat)(a:O0)(c:Nat)(l:List Ent)(b3 b4 b8:Nat)(w:World)(k3:Blk w b3 [P0 ba] 29)(k4:Blk w b4 [V0 t] 3)(k8:Blk w b8 [.nilIface] 31)(h38:b3≠b8)(h48:b4≠b8)(hB8:B≤b8)(hC:AlC B ba nn cc ca f N)(hA:Al B ba b g nn cc pa ca f N k0 bs w)(ht1:1≤t)(ht2:t≤5)(hm:Qq t leaf=m)(hv:Jv t leaf=v)(E:EntsOk v l)(hl:leaf=false→1≤l.length)(hn:l.length≤32768)(hf1:1≤f)(hk:k0+ovN l.length m≤N)(hin:∀ W,Below B w W→Ze [72,5,31] w W→Sts Hl W (.slice a l.length c) l)(hBw:B≤w.heap.size) :
 C0 30 #[.bool leaf,.slice a l.length c,P0 b3,P0 b4,P0 b8] w (Zeo B ba b g nn cc pa ca f N k0 bs t leaf m v l b8 w):=by
 refine zin 20 Tryz.func30 ?_
 refine xb 7 0 k3 ?_
 refine xb 0 0 k4 ?_
 refine xc 2 (args:=#[P0 ba,V0 t,.bool leaf,.slice a l.length c]) (Au B ba b g nn cc pa ca f N k0 bs t leaf m v a c l _ hC hA ht1 ht2 hm hv E hl hn hf1 hk (fun W h1 h2=>hin W ((Below.refl B _).trans h1) ((Ze.refl _ _).trans (Zgj h2))) (Nat.le_trans hBw (Below.refl B _).size)) ?_
 rintro _ W1 ⟨p4,c4,rfl,a6,a3,a4,hA,a7⟩
 have a5:=Nat.le_refl w.heap.size
 have a0:=k8.only a3 (by decide)
 refine xs 10 a0 [.nilIface] fun W2 u2 k2=>?_
 have hB:=u2.below a6 hB8
 have hO:=(show Ze [72,5,31] w _ from(Zgj a3)).trans (Ze.of_upd u2 a0 (by decide))
 have hX:=(show Fr [ba,g,b8] w _ from(a4.mono (by simp))).trans (Fr.of_upd u2 (by simp))
 have a2:=hA.only (Ze.of_upd (T:=[31]) u2 a0 (by decide)) (by decide)
 have a1:=u2.own2 (Zh a7 a5) a0 (by decide)
 exact xe 9 (.slice p4 (ovN l.length m) c4) ⟨_,_,rfl,hB,hO,hX,k2,a2,a1⟩
def Oa(B ba b g nn cc:Nat)(pa:O0)(ca f N k0:Nat)(bs:Bl)(t:Int)(l:List Ent)(w:World)(e:Ending)(w':World):Prop :=
 e=.returned (.tuple #[V0 (Xu t l (f+k0) bs).1,.nilIface])∧Below B w w'∧Ze [72,5,31] w w'∧Fr [ba,g] w w'∧Al B ba b g nn cc pa ca f N (k0+Kz t l.length) (Xu t l (f+k0) bs).2 w'
theorem Zav(B ba b g nn cc:Nat)(pa:O0)(ca f N k0:Nat)(bs:Bl)(t:Int)(a:O0)(c:Nat)(l:List Ent)(w:World)(hC:AlC B ba nn cc ca f N)(hA:Al B ba b g nn cc pa ca f N k0 bs w)(ht1:1≤t)(ht2:t≤5)(E:EntsOk (Jv t true) l)(hn:l.length≤32768)(hf1:1≤f)(hkN:k0≤N)(hk:k0+Kz t l.length≤N)(hin:∀ W,Below B w W→Ze [72,5,31] w W→Sts Hl W (.slice a l.length c) l)(hBw:B≤w.heap.size) :
 C0 11 #[P0 ba,V0 t,.slice a l.length c] w (Oa B ba b g nn cc pa ca f N k0 bs t l w):=by
 have f9:=Zah t l.length
 have g5:(ovN l.length (Qq t true))≤Kz t l.length:=Vj _
 have f6:=Rz l.length (Qq t true) (Xv t true).1
 have e9:=Yd l.length (Qq t true)
 have g0:=hC.hf
 have f8:=hC.hn
 refine zin 52 Tryz.func11 ?_
 refine xa 2 [P0 ba] 29 fun b1 W1 n1=>?_
 refine xa 0 [V0 t] 3 fun b2 W2 n2=>?_
 have k1:=n1.blk.below n2.below
 refine xb 8 0 k1 ?_
 have b9:=(hA.below n1.below).below n2.below
 refine xr 0 (args:=#[P0 ba]) (Ui ba b _ _ _ b9.blkA) fun W3 b5=>?_
 have k2:=n2.blk.below b5
 refine xb 7 0 k2 ?_
 have hB:=blB (blB (blB (Below.refl B w) hBw n1.below) hBw n2.below) hBw b5
 have hO:=((show Ze [72,5,31] w _ from(Ze.of_below n1.below)).trans (Ze.of_below n2.below)).trans (Ze.of_below b5)
 refine xr 1 (args:=#[V0 t,.slice a l.length c]) (Ap t (Jv t true) a c l _ ht1 ht2 rfl E (hin _ hB hO) hn) fun W4 b6=>?_
 refine xd 6 .z ?_
 have c5:=((k1.below b5).below b6).below (Za W4)
 refine xb (.e [] 0) 0 c5 ?_
 have c1:=(k2.below b6).below (Za W4)
 refine xb (.e [] 2) 0 c1 ?_
 have c3:=((b9.below b5).below b6).below (Za W4)
 refine xr (.o [3,4] 1) (args:=#[P0 ba]) (Zcs ba b pa N ca k0 _ c3.blkA hkN) fun W5 b8=>?_
 refine xr (.o [] 5) (args:=#[V0 t,V0 (l.length:Int)]) (Cs t l.length _ ht1 ht2 hn) fun W6 b4=>?_
 refine xk (.r [6,7] 2) (show(decide ((↑(N-k0):Int)<(↑(Kz t l.length):Int)):Bool)=false from decide_eq_false (by omega)) ?_
 refine xa 5 [.nilIface] 31 fun b7 W7 n7=>?_
 have a9:=blB (blB (blB (blB hB hBw b6) hBw (Za W4)) hBw b8) hBw b4
 have g7:=n7.ge0 a9
 have a7:=((c5.below b8).below b4).below n7.below
 have b3:=((c1.below b8).below b4).below n7.below
 have d2:=((c3.below b8).below b4).below n7.below
 have a6:=blB a9 hBw n7.below
 have c4:=((((hO.trans (Ze.of_below b6)).trans (Ze.of_below (Za W4))).trans (Ze.of_below b8)).trans (Ze.of_below b4)).trans (Ze.of_below n7.below)
 refine xc 12 (args:=#[.bool true,.slice a l.length c,P0 b1,P0 b2,P0 b7]) (Ll B ba b g nn cc pa ca f N k0 bs t true (Qq t true) (Jv t true) a c l b1 b2 b7 _ a7 b3 n7.blk (Blk.tne a7 n7.blk (by decide)) (Blk.tne b3 n7.blk (by decide)) (Nat.le_trans hBw g7) hC d2 ht1 ht2 rfl rfl E (by simp) hn hf1 (by omega) (fun W h1 h2=>hin W (a6.trans h1) (c4.trans h2)) (Nat.le_trans hBw a6.size)) ?_
 rintro _ W8 ⟨e6,d3,rfl,f2,e0,f0,d5,hA,a8⟩
 have f3:=(blB a9 hBw n7.below).size
 refine xv1 5 10 (show(.slice e6 (ovN l.length (Qq t true)) d3:Value)=.slice e6 ((upE l (Qq t true) (f+k0) (ovN l.length (Qq t true))).length) d3 from by rw[Xf]) ?_
 have c7:=Zh a8 f3
 have e4:=a6.trans f2
 have hX:=(Fr.trans_new ((((((((show Fr [ba,g] w _ from(Fr.of_below n1.below)).trans (Fr.of_below n2.below)).trans (Fr.of_below b5)).trans (Fr.of_below b6)).trans (Fr.of_below (Za W4))).trans (Fr.of_below b8)).trans (Fr.of_below b4)).trans (Fr.of_below n7.below)) f0 g7)
 have e5:=c4.trans e0
 have d9:=a7.only e0 (by decide)
 have d8:=b3.only e0 (by decide)
 refine zl 0 52 (fun zm f5 V=>∃ (u:List Ent) (K:Nat) (d0:Bl) (p:O0) (c2:Nat),f5=[(6,V0 0),(7,.nilIface),(8,P0 b7),(9,.func (.func 30) #[] #[P0 b1,P0 b2,P0 b7]),(10,.slice p u.length c2)]∧zm=u.length∧Below B w V∧Fr [ba,g] w V∧Ze [72,5,31] w V∧Blk V b1 ([P0 ba]) 29∧Blk V b2 ([V0 t]) 3∧Blk V b7 ([.nilIface]) 31∧V.ownsRow w.heap.size 45 3 (.slice p u.length c2) u.length (u.flatMap Hl)∧Al B ba b g nn cc pa ca f N K d0 V∧K+(Kx u.length).sum=k0+Kz t l.length+u.length∧1≤u.length∧u.length≤32768∧EntsOk 4 u∧Ys t u (f+K) d0=Xu t l (f+k0) bs) ⟨(upE l (Qq t true) (f+k0) (ovN l.length (Qq t true))),(k0+(ovN l.length (Qq t true))),(Gl t true (Qq t true) (Jv t true) l (f+k0) bs (ovN l.length (Qq t true))),e6,d3,rfl,rfl,e4,hX,e5,d9,d8,d5,(by rw[Xf];exact c7),hA,(by rw[Xf];unfold Kz Kt;omega),(by rw[Xf];exact e9),(by rw[Xf];omega),Nk E (Xv t true).1,(by rw[←Nat.add_assoc];rfl)⟩ ?_
 rintro _ _ W9 ⟨u,K,d0,p,c2,rfl,rfl,a4,c0,c6,a2,a1,a0,a8,hA,hK,f4,g1,hE,c9⟩ J9 f1 r9
 have g2:¬ u.length≤1→(Kx u.length).sum=u.length+(Kx (ovN u.length 18)).sum:=fun h=>by rw[Yz h];rfl
 have g3:=Vj (ovN u.length 18)
 have g4:2≤u.length→ovN u.length 18≤u.length/2:=Zf9
 have e2:=Yd u.length 18
 refine xb 3 0 a0 ?_
 refine xid 8 ((u.length:Int)>(1:Int)) (fun d4=>?_) (fun d4=>?_)
 ·refine xc 6 (args:=#[.bool false,.slice p u.length c2,P0 b1,P0 b2,P0 b7]) (Ll B ba b g nn cc pa ca f N K d0 t false 18 4 p c2 u b1 b2 b7 _ a2 a1 a0 (Blk.tne a2 a0 (by decide)) (Blk.tne a1 a0 (by decide)) (Nat.le_trans hBw g7) hC hA ht1 ht2 rfl rfl hE (fun _=>f4) (by omega) hf1 (by omega) (fun W _ h2=>Zg (Zi a8 h2 (by decide))) (Nat.le_trans hBw a4.size)) ?_
  rintro _ f7 ⟨e7,e8,rfl,e1,b0,e3,d5,hA,a8⟩
  refine xv1 3 10 (show(.slice e7 (ovN u.length 18) e8:Value)=.slice e7 ((upE u 18 (f+K) (ovN u.length 18)).length) e8 from by rw[Xf]) ?_
  have c8:=Zh a8 a4.size
  have d1:=a4.trans e1
  have d6:=(Fr.trans_new c0 e3 g7)
  have d7:=c6.trans b0
  have a5:=a2.only b0 (by decide)
  have a3:=a1.only b0 (by decide)
  refine ze 0 (f1 _ _ _ ⟨(upE u 18 (f+K) (ovN u.length 18)),(K+ovN u.length 18),_,_,_,rfl,rfl,d1,d6,d7,a5,a3,d5,(by rw[Xf];exact c8),hA,(by rw[Xf];omega),(by rw[Xf];exact e2),(by rw[Xf];omega),Nk hE (by decide),(by rw[←c9,←Nat.add_assoc];exact(Yi (by omega)).symm)⟩ ?_)
  show((upE u 18 (f+K) (ovN u.length 18)).length)<u.length
  rw[Xf];omega
 refine xb 8 0 a0 ?_
 refine xx 9 _ u.length 0 3 (Sts.cell (Zg a8) Yg Zm (k:=0) (i:=0) (by omega) rfl).1 ?_
 refine xl 1 ((Sts.cell (Zg a8) Yg Zm (k:=0) (i:=2) (by omega) rfl).2) ?_
 refine xe 5 (.tuple #[V0 ((u.getD 0 Zm).2.2),.nilIface]) ?_
 have h1:u.length≤1:=by omega
 rw[Qr h1] at c9
 rw[Vk h1] at hK
 simp only[List.sum_cons,List.sum_nil] at hK
 obtain rfl:K=k0+Kz t l.length:=by omega
 refine⟨by rw[←c9],a4,c6,c0,by rw[←c9];exact hA⟩
theorem Al.mono{B B' ba b g n c:Nat}{pa:O0}{ca f N k:Nat}{l:Bl}{w:World}(h:Al B' ba b g n c pa ca f N k l w)(hB:B≤B'):Al B ba b g n c pa ca f N k l w:=⟨h.blkA,h.blkI,Zh h.data hB,Zh h.nums hB⟩
theorem AlC.mono{B B' ba n c ca f N:Nat}(h:AlC B' ba n c ca f N)(hB:B≤B'):AlC B ba n c ca f N:=⟨h.hn,h.hc,h.hca,h.hf,Nat.le_trans hB h.hB⟩
theorem row_at{w:World}{base g n c size:Nat}{e:TypeId}{xs:List Value}(h:w.ownsRow base e size (.slice (S1 g) n c) n xs):∃ cur,w.heap[g]? = some (.cells cur e (0,0)):=by
 rcases h.2 with ⟨hv,_⟩|⟨g2,a0,cur,hv,_,hh,_⟩
 ·cases hv
 ·simp only[Value.slice.injEq,Option.some.injEq,Addr.mk.injEq] at hv
  obtain⟨⟨rfl,_,_⟩,_⟩:=hv
  exact⟨cur,hh⟩
theorem Al.ne{B ba b g n c:Nat}{pa:O0}{ca f N k:Nat}{l:Bl}{B2 ba2 b2 g2 n2 c2:Nat}{pa2:O0}{ca2 f2 N2 k2:Nat}{l2:Bl}{w:World}(h:Al B ba b g n c pa ca f N k l w)(h2:Al B2 ba2 b2 g2 n2 c2 pa2 ca2 f2 N2 k2 l2 w):b2≠ba∧b2≠g:=by
 constructor
 ·rintro rfl
  exact absurd (h.blkA.ty h2.blkI) (by decide)
 ·rintro rfl
  obtain⟨a0,hh⟩:=row_at h.data
  have h3:w.heap[b2]? = some (.cells [.slice (S1 g2) n2 c2].toArray 75 (0,0)):=h2.blkI
  rw[hh] at h3
  simp only[Option.some.injEq,Obj.cells.injEq] at h3
  exact absurd h3.2.1 (by decide)
theorem Al.apart{B2 ba2 b2 g2 n2 c2:Nat}{pa2:O0}{ca2 f2 N2 k2:Nat}{l2:Bl}{w W:World}{ba g:Nat}(h:Al B2 ba2 b2 g2 n2 c2 pa2 ca2 f2 N2 k2 l2 w)(hC:AlC B2 ba2 n2 c2 ca2 f2 N2)(h1:ba<B2)(h2:g<B2)(hne:b2≠ba∧b2≠g)(hX:Fr [ba,g] w W):Al B2 ba2 b2 g2 n2 c2 pa2 ca2 f2 N2 k2 l2 W:=by
 have hB:=hC.hB
 refine⟨h.blkA.fr hX (by simp;omega),h.blkI.fr hX (by simp;exact hne),Cx h.data hX fun k hk=>?_,Cx h.nums hX fun k hk=>?_⟩
 ·have:=(h.data.lt k hk).1;simp;omega
 ·have:=(h.nums.lt k hk).1;simp;omega
theorem Sy(B ba b g nn cc:Nat)(pa:O0)(ca f N k0:Nat)(bs:Bl)(t:Int)(a:O0)(c:Nat)(l:List Ent)(n:Nat)(w:World)(hl:l.length=n)(hC:AlC B ba nn cc ca f N)(hA:Al B ba b g nn cc pa ca f N k0 bs w)(ht1:1≤t)(ht2:t≤5)(E:EntsOk (Jv t true) l)(hn:n≤32768)(hf1:1≤f)(hkN:k0≤N)(hk:k0+Kz t n≤N)(hin:∀ W,Below B w W→Ze [72,5,31] w W→Sts Hl W (.slice a l.length c) l)(hBw:B≤w.heap.size) :
 C0 11 #[P0 ba,V0 t,.slice a n c] w (Oa B ba b g nn cc pa ca f N k0 bs t l w):=by
 subst hl;exact Zav B ba b g nn cc pa ca f N k0 bs t a c l w hC hA ht1 ht2 E hn hf1 hkN hk hin hBw
theorem Cy{t:Int}{l:List Ent}{q:Nat}{bs:Bl}(hq:1≤q):(Xu t l q bs).1=((q+Kz t l.length-1:Nat):Int):=by
 have hp:=Yd l.length (Qq t true)
 have hg:=Vj (ovN l.length (Qq t true))
 unfold Xu
 rw[Tv (by rw[Xf];exact hp) (by rw[Xf,Vx (by omega)];simp only[upX];congr 1;omega) (by omega),Xf]
 unfold Kz Kt
 congr 1;omega
theorem Ws(ps:List Gv)(N:List Int)(gl gn:O0)(cl cn n:Nat)(w:World)(hps:Ji ps)(hn:n=ps.length)(hNl:N.length=n)(hP:Sts Tk w (.slice gl ps.length cl) ps)(hN:Sl w (.slice gn n cn) n (N.map V0))(h:Uh ps N n=true) :
  C0 25 #[.slice gl ps.length cl,.slice gn n cn] w (Ret (.string ⟨(Zaq ps N ps.length).toArray⟩) w):=(Mm ps N gl gn cl cn n w hps hn hNl hP hN).mono (by
 rintro e W q
 rcases q with ⟨q,_⟩|⟨_,rfl,hb⟩
 ·rw[h] at q;cases q
 ·exact⟨rfl,hb⟩)
def M24:Bl:=Zaq Hu [50331652] 1
def D24:Bl:=Zaq Ku [1,5,0,0] 4
def R24:Bl:=leB 3 4
def eM:List Ent:=[(7,M24,0)]
def eR:List Ent:=[(2,R24,0)]
def eD:List Ent:=[(2,D24,0)]
def L24:List Ur:=[(1,[]),(3,[]),(2,eM),(1,eR),(3,eD)]
def Z24:Bl:=List.replicate 2560 0
theorem Z24_len:Z24.length=2560:=List.length_replicate
def B24 (k:Nat):Bl:=Bn (L24.take k) 1 Z24
def d24:Dv:=((2,5,0,0),[(7,3,4)])
theorem Ri:M24.length=8∧Xt Hu M24=0∧Ni M24=3∧Bw M24=4:=by decide
theorem Cq:D24.length=24∧Xt Ku D24=0∧Yk D24 0=1∧Yk D24 1=5∧Yk D24 2=0∧Yk D24 3=0:=by decide
theorem Zdm:R24.length=4∧Yo R24=0∧Kq R24=3:=by decide
theorem Oc(w:Nat):EntsOk w []:=⟨fun i hi=>absurd hi (by simp),fun j hj=>absurd hj (by simp),fun i hi=>absurd hi (by simp)⟩
theorem Fg{w:Nat}{k:Int}{v:Bl}(h0:0≤k)(h1:k<281474976710656)(hv:v.length=w):EntsOk w [(k,v,0)]:=by
 refine⟨fun i hi=>?_,fun j hj=>?_,fun i hi=>?_⟩
 ·obtain rfl:i=0:=by simp at hi;omega
  exact⟨h0,by simpa [List.getD] using (by omega:k≤281474976710655)⟩
 ·simp at hj
 ·obtain rfl:i=0:=by simp at hi;omega
  exact hv
theorem Jp{t:Int}{n:Nat}(h:n≤1):Kz t n=1:=by
 have hm:=Xv t true
 have hp:=Yd n (Qq t true)
 have ho:ovN n (Qq t true)=1:=by
  unfold ovN at hp ⊢
  have:n+Qq t true-1<2*Qq t true:=by omega
  have h2:=Nat.div_lt_of_lt_mul (m:=n+Qq t true-1) (n:=Qq t true) (k:=2) (by omega)
  omega
 unfold Kz Kt
 rw[ho,Vk (by decide)];rfl
theorem Zdu:∀ x∈L24,Mx x∧Vq x=1:=by
 intro x hx
 simp only[L24,List.mem_cons,List.not_mem_nil,or_false] at hx
 have h1:=Ri.1
 have h2:=Cq.1
 have h3:=Zdm.1
 rcases hx with rfl|rfl|rfl|rfl|rfl
 ·exact⟨⟨by decide,by decide,Oc _,by decide⟩,Jp (by decide)⟩
 ·exact⟨⟨by decide,by decide,Oc _,by decide⟩,Jp (by decide)⟩
 ·exact⟨⟨by decide,by decide,Fg (by decide) (by decide) (by rw[h1];rfl),by decide⟩,Jp (by decide)⟩
 ·exact⟨⟨by decide,by decide,Fg (by decide) (by decide) (by rw[h3];rfl),by decide⟩,Jp (by decide)⟩
 ·exact⟨⟨by decide,by decide,Fg (by decide) (by decide) (by rw[h2];rfl),by decide⟩,Jp (by decide)⟩
theorem Uy:∀ (L:List Ur),(∀ x∈L,Vq x=1)→Ub L=L.length
 | [],_=>rfl
 | x::r,h=>by
  show Vq x+Ub r=_
  rw[h x (by simp),Uy r fun y hy=>h y (by simp[hy])];simp;omega
theorem Ae(k:Nat):∀ x∈L24.take k,Mx x∧Vq x=1:=fun x hx=>Zdu x (List.mem_of_mem_take hx)
theorem B24_next{k:Nat}(hk:k<5){x:Ur}(hx:L24[k]? = some x):Xu x.1 x.2 (1+k) (B24 k)=(((1+k:Nat):Int),B24 (k+1)):=by
 have a0:k<L24.length:=hk
 have hn:=Zdu x (List.mem_of_getElem? hx)
 have a1:L24[k]=x:=by rw[List.getElem?_eq_getElem a0] at hx;exact Option.some.inj hx
 have h2:B24 (k+1)=(Xu x.1 x.2 (1+k) (B24 k)).2:=by
  unfold B24
  rw[List.take_succ_eq_append_getElem a0,Bh,a1,Uy _ fun x hx=>(Ae k x hx).2,List.length_take,Nat.min_eq_left (by omega)]
  rfl
 have h1:=Cy (t:=x.1) (l:=x.2) (q:=1+k) (bs:=B24 k) (by omega)
 rw[show Kz x.1 x.2.length=1 from hn.2] at h1
 rw[h2]
 exact Prod.ext h1 rfl
theorem Rq{k i:Nat}{t:Int}{e:List Ent}(r:Int)(hk:k≤5)(hi:i<k)(hx0:L24[i]? = some (t,e))(hr:((1+i:Nat):Int)=r):∃ es:List Ent,es.map kvE=e.map kvE∧(Zd (B24 k) r t 9).es=es∧(Zd (B24 k) r t 9).fs=[]:=by
 subst hr
 obtain⟨x,a2⟩:∃ x:Ur,x=(t,e):=⟨_,rfl⟩
 have hx:L24[i]? = some x:=by rw[a2];exact hx0
 have ht:t=x.1:=by rw[a2]
 have he:e=x.2:=by rw[a2]
 rw[ht,he]
 clear a2 hx0
 have a9:i<(L24.take k).length:=by rw[List.length_take];exact Nat.lt_min.2 ⟨hi,Nat.lt_of_lt_of_le hi hk⟩
 have a4:i<L24.length:=Nat.lt_of_lt_of_le hi hk
 have a8:(L24.take k)[i]=x:=by rw[List.getElem_take];rw[List.getElem?_eq_getElem a4] at hx;exact Option.some.inj hx
 have a1:L24.take k=(L24.take k).take i++x::(L24.take k).drop (i+1):=by rw[←a8,←List.drop_eq_getElem_cons a9,List.take_append_drop]
 have a0:∀ y∈(L24.take k).take i++x::(L24.take k).drop (i+1),Mx y∧Vq y=1:=by rw[←a1];exact Ae k
 have a3:=Uy _ fun y hy=>(a0 y hy).2
 rw[←a1] at a3
 have a6:(L24.take k).length≤5:=by rw[List.length_take];exact Nat.min_le_right _ _
 have a5:=(a0 x (by simp)).2
 have s:=for_scan (q:=1) (bs:=Z24) (fuel:=9) (fun y hy=>(a0 y hy).1) (by decide) (by rw[←a1,a3,Z24_len];omega) (by rw[←a1,a3];omega) (by rw[a5];decide)
 rw[←a1] at s
 have a7:(L24.take k).take i=L24.take i:=by rw[List.take_take,Nat.min_eq_left (by omega)]
 have b0:=Uy (L24.take i) fun y hy=>(Ae i y hy).2
 rw[a7,b0,List.length_take,Nat.min_eq_left (Nat.le_of_lt a4),Cy (by omega),show Kz x.1 x.2.length=1 from a5] at s
 obtain⟨es,bl,h1,_,h3⟩:=s
 refine⟨es,h1,?_⟩
 have h4:Zd (B24 k) ((1+i:Nat):Int) x.1 9=_:=h3
 rw[h4];exact⟨rfl,rfl⟩
theorem Zft{es:List Ent}{k:Int}{v:Bl}{a:Int}(h:es.map kvE=([(k,v,a)]:List Ent).map kvE):∃ a',es=[(k,v,a')]:=by
 match es,h with
 | [],h=>simp at h
 | [(k',v',a')],h =>
  simp only[kvE,List.map_cons,List.map_nil,List.cons.injEq,Prod.mk.injEq,and_true] at h
  obtain⟨rfl,rfl⟩:=h
  exact⟨a',rfl⟩
 | _::_::_,h=>simp at h
theorem load24a:Qp (B24 2) 1 2 5 9=([],0,[]):=by
 obtain⟨e1,h1,a4,a2⟩:=Rq (k:=2) (i:=0) (t:=1) (e:=[]) 1 (by decide) (by decide) rfl rfl
 obtain⟨e2,h2,a0,a5⟩:=Rq (k:=2) (i:=1) (t:=3) (e:=[]) 2 (by decide) (by decide) rfl rfl
 have a1:e1=[]:=by simpa using h1
 have a3:e2=[]:=by simpa using h2
 subst a1 a3
 rw[Hr a5 a2 (by rw[a0];decide) (by rw[a0,a4];rfl),a0]
 exact Fh (fun j hj=>absurd hj (by simp))
theorem load24b:Qp (B24 5) 4 5 5 9=([],0,[d24]):=by
 obtain⟨e1,h1,a4,a6⟩:=Rq (k:=5) (i:=3) (t:=1) (e:=eR) 4 (by decide) (by decide) rfl rfl
 obtain⟨e2,h2,a0,a7⟩:=Rq (k:=5) (i:=4) (t:=3) (e:=eD) 5 (by decide) (by decide) rfl rfl
 obtain⟨e3,h3,a8,a5⟩:=Rq (k:=5) (i:=2) (t:=2) (e:=eM) 3 (by decide) (by decide) rfl rfl
 obtain⟨a1,rfl⟩:=Zft h1
 obtain⟨a2,rfl⟩:=Zft h2
 obtain⟨a3,rfl⟩:=Zft h3
 have hm:Su (B24 5) 3 5 9=([],0,[(7,3,4)]):=by
  rw[Wc a5,a8]
  rw[Ev (fun j hj=>by
   obtain rfl:j=0:=by simp at hj;omega
   show Fd 5 M24=0
   exact Tf Ri.2.1 (by rw[Ri.2.2.1];decide))]
  show([],0,[Zcl (7,M24,a3)])=_
  unfold Zcl
  rw[Ri.2.2.1,Ri.2.2.2];rfl
 have ho:Vm (B24 5) (2,R24,a1) 5 9=([],0,[(7,3,4)]):=by
  unfold Vm
  rw[Zdm.2.2];exact hm
 rw[Hr a7 a6 (by rw[a0];exact(by decide:¬ (4096:Nat)<1)) (by rw[a0,a4];rfl),a0,a4]
 rw[Fh (fun j hj=>by
  obtain rfl:j=0:=by simp at hj;omega
  show(Nh (B24 5) (2,D24,a2) (2,R24,a1) 5 9 0).2=0
  rw[dev_7 (by exact(by decide:¬ (16777215:Int)<2)) Cq.2.1 Zdm.2.1 (by rw[ho]) (by rw[ho,Cq.2.2.1];rfl) (by rw[ho];decide)])]
 show([],0,[devX (B24 5) (2,D24,a2) (2,R24,a1) 5 9])=_
 unfold devX
 rw[ho,Cq.2.2.2.1,Cq.2.2.2.2.1,Cq.2.2.2.2.2];rfl
theorem Md(B ba b g c:Nat)(pa:O0)(ca k n:Nat)(t:Int)(e:List Ent)(a:O0)(cc:Nat)(r:Int)(w:World)(hk:k<5)(hx:L24[k]? = some (t,e))(hr:((1+k:Nat):Int)=r)(hn:e.length=n)(hC:AlC B ba 2560 c ca 1 9)(hA:Al B ba b g 2560 c pa ca 1 9 k (B24 k) w)
 (hin:∀ W,Below B w W→Ze [72,5,31] w W→Sts Hl W (.slice a e.length cc) e) (hBw:B≤w.heap.size) :
 C0 11 #[P0 ba,V0 t,.slice a n cc] w (fun e' w'=>e'=.returned (.tuple #[V0 r,.nilIface])∧Below B w w'∧Ze [72,5,31] w w'∧Fr [ba,g] w w'∧Al B ba b g 2560 c pa ca 1 9 (k+1) (B24 (k+1)) w'):=by
 subst hr
 have a0:=Zdu _ (List.mem_of_getElem? hx)
 have a3:Kz t e.length=1:=a0.2
 refine(Sy B ba b g 2560 c pa ca 1 9 k (B24 k) t a cc e n w hn hC hA a0.1.1 a0.1.2.1 a0.1.2.2.1 (by rw[←hn];exact a0.1.2.2.2) (by decide) (by omega) (by rw[←hn,a3];omega) hin hBw).mono ?_
 rintro e' w' ⟨rfl,hb,hO,hX,a2⟩
 have a1:=B24_next hk hx
 rw[show(1+k)=1+k from rfl] at a1
 simp only at a1
 rw[a3,a1] at a2
 rw[a1]
 exact⟨rfl,hb,hO,hX,a2⟩
theorem Wj(Bi b:Nat)(pi:O0)(ni ci:Nat)(l:Bl)(top details data fuel:Int)(n:Nat)(L:List Dv)(w:World)(hI:ImgR Bi b pi ni ci l w)(hfu:fuel≤1000)(hO:Qp l top details data fuel=([],0,L))(hn:L.length=n) :
 C0 14 #[P0 b,V0 top,V0 details,V0 data,V0 fuel] w (Kg (fun w' r=>∃ p c Z,r=.tuple #[.slice p n c,.nilIface]∧Z.map Prod.fst=L∧Xl w.heap.size w' Z∧w'.ownsRow w.heap.size 40 5 (.slice p n c) n (Z.flatMap Ca)) w):=by
 subst hn
 refine(Pg Bi b pi ni ci l top details data fuel w hI hfu).mono ?_
 rintro e W q
 rw[hO] at q
 rcases q with ⟨h,_⟩|⟨_,p,c,Z,rfl,hb,hZ,hM,ho⟩
 ·exact absurd rfl h
 ·exact⟨_,rfl,hb,p,c,Z,rfl,hZ,hM,ho⟩
theorem one_dev{Z:List Zv}{d:Dv}(h:Z.map Prod.fst=[d]):∃ p c,Z=[(d,p,c)]:=by
 match Z,h with
 | [],h=>simp at h
 | [(d',p,c)],h =>
  simp only[List.map_cons,List.map_nil,List.cons.injEq,and_true] at h
  subst h
  exact⟨p,c,rfl⟩
 | _::_::_,h=>simp at h
theorem Eu(Bi b:Nat)(pi:O0)(ni ci:Nat)(l:Bl)(top details data fuel:Int)(w:World)(hI:ImgR Bi b pi ni ci l w)(hfu:fuel≤1000)(hO:Qp l top details data fuel=([],0,[d24])) :
 C0 14 #[P0 b,V0 top,V0 details,V0 data,V0 fuel] w (Kg (fun w' r=>∃ p c pm cm,r=.tuple #[.slice p 1 c,.nilIface]∧w'.ownsRow w.heap.size 40 5 (.slice p 1 c) 1 (([(d24,pm,cm)]:List Zv).flatMap Ca)∧w'.ownsRow w.heap.size 42 3 (.slice pm 1 cm) 1 (([(7,3,4)]:List Mp).flatMap Uf)) w):=by
 refine(Wj Bi b pi ni ci l top details data fuel 1 [d24] w hI hfu hO rfl).mono ?_
 rintro e W ⟨_,rfl,hb,p,c,Z,rfl,hZ,hM,ho⟩
 obtain⟨pm,cm,rfl⟩:=one_dev hZ
 exact⟨_,rfl,hb,p,c,pm,cm,rfl,ho,hM 0 Nat.one_pos⟩
theorem Tt(w:World) :
 C0 10 #[V0 3,V0 4] w (Ret (.string ⟨M24.toArray⟩) w):=by
 refine zin 26 Tryz.func10 ?_
 refine xc 29 (args:=#[]) (Ua _) ?_
 rintro _ W1 ⟨_,rfl,a1,gl,rfl,gg,kl⟩
 refine xbs 4 1 [V0 50331652] 3 fun b2 W2 n2=>?_
 have a0:=kl.below n2.below
 refine xr 0 (args:=#[.slice (S1 gl) 1 1,.slice (S1 b2) 1 1]) (Ws Hu [50331652] (S1 gl) (S1 b2) 1 1 1 _ Zd8 rfl rfl (a0.sl 1 1 (by decide) (by decide)) (n2.blk.sl 1 1 (by decide) (by decide)) (by decide)) fun W3 a2=>?_
 have hB:=bln (bln a1 n2.below) a2
 exact xe 4 (.string ⟨M24.toArray⟩) ⟨rfl,hB⟩
theorem Bp(w:World) :
 C0 13 #[.agg #[V0 1,V0 5,V0 0,V0 0]] w (Ret (.string ⟨D24.toArray⟩) w):=by
 refine zin 14 Tryz.func13 ?_
 refine xa 2 [V0 1,V0 5,V0 0,V0 0] 51 fun b1 W1 n1=>?_
 refine xd 4 .z ?_
 have k1:=n1.blk.below (Za W1)
 refine xb (.e [1] 2) 0 k1 ?_
 refine xb (.e [3] 4) 1 k1 ?_
 refine xb (.e [5] 6) 2 k1 ?_
 refine xb (.e [7] 8) 3 k1 ?_
 refine xm2 0 0 9 ?_ ?_
 ·refine yc 0 (args:=#[]) .z (Jk _) ?_
  rintro _ W2 ⟨_,rfl,a2,gl,rfl,gg,kl⟩
  refine⟨a2,?_⟩
  refine xbs (.o [] 9) 4 [V0 1,V0 5,V0 0,V0 0] 3 fun b3 W3 n3=>?_
  have a0:=kl.below n3.below
  refine xr (.o [] 10) (args:=#[.slice (S1 gl) 4 4,.slice (S1 b3) 4 4]) (Ws Ku [1,5,0,0] (S1 gl) (S1 b3) 4 4 4 _ Ts rfl rfl (a0.sl 4 4 (by decide) (by decide)) (n3.blk.sl 4 4 (by decide) (by decide)) (by decide)) fun W4 a4=>?_
  have hB:=bln (bln (bln (bln n1.below (Za W1)) a2) n3.below) a4
  exact xe (.r [11] 3) (.string ⟨D24.toArray⟩) ⟨rfl,hB⟩
 refine xbs 0 4 [V0 1,V0 5,V0 0,V0 0] 3 fun b5 W5 n5=>?_
 refine yc (.o [] 0) (args:=#[]) .z (Jk _) ?_
 rintro _ W6 ⟨_,rfl,a1,gl,rfl,gg,kl⟩
 refine⟨a1,?_⟩
 have k5:=n5.blk.below a1
 refine xr (.o [] 10) (args:=#[.slice (S1 gl) 4 4,.slice (S1 b5) 4 4]) (Ws Ku [1,5,0,0] (S1 gl) (S1 b5) 4 4 4 _ Ts rfl rfl (kl.sl 4 4 (by decide) (by decide)) (k5.sl 4 4 (by decide) (by decide)) (by decide)) fun W7 a3=>?_
 have hB:=bln (bln (bln (bln n1.below (Za W1)) n5.below) a1) a3
 exact xe (.r [11] 3) (.string ⟨D24.toArray⟩) ⟨rfl,hB⟩
theorem Tl(w:World) :
 C0 7 #[] w (Ret (.bool true) w):=by
 refine zin 113 Tryz.func7 ?_
 refine xmk 7 fun _ _ _ _ zJ zQ zo zx zy zK=>Jj 2560 (.int .u8 0) 1 1 ((List.replicate 2560 (0:UInt8)).map bv) zo zx zy Tryz.underlying36 (by kernel_rfl) rfl (by omega) (by omega) (On 2560) fun b1 W1 n1=>?_
 refine zK _ _ ?_
 have o1:=Xo (size:=1) (n:=2560) n1.blk (n1.ge (B3 w)) (by rw[List.length_map,List.length_replicate]) (by unfold maxLen;omega)
 refine xc 0 (args:=#[.slice (S1 b1) 2560 2560]) (Zep (S1 b1) 2560 2560 2560 (List.replicate 2560 (0:UInt8)) _ List.length_replicate (by omega) (Ka (Zg o1) List.length_replicate) (by omega) (Nat.le_refl _)) ?_
 rintro _ W2 ⟨_,rfl,f3,bi,pi,ci,rfl,gi,ki,hd⟩
 have a6:=Zh hd n1.below.size
 rw[List.take_of_length_le (by rw[List.length_replicate];omega)] at a6
 obtain⟨g,rfl,f6⟩:=Ze6 a6 (by omega)
 have hB:=bln n1.below f3
 have e6:=hB.size
 refine xc 0 (args:=#[P0 bi,V0 1]) (Zcn bi (S1 g) 2560 ci 1 9 (1:Int) rfl (by omega) _ ki (by omega) (by decide) (by omega)) ?_
 rintro _ W3 ⟨_,rfl,d4,ba,pa,ca,rfl,ga,ka,ho⟩
 replace ga:=Nat.le_trans e6 ga
 have e0:=ki.below d4
 have d0:=Zb a6 d4
 have c2:=Zh ho hB.size
 have hA:Al w.heap.size ba bi g 2560 ci pa ca 1 9 0 (B24 0) _:=⟨ka,e0,d0,c2⟩
 have f2:9≤ca:=Zgg c2 (by decide)
 have hC:AlC w.heap.size ba 2560 ci ca 1 9:=⟨by omega,f6,f2,by omega,ga⟩
 have b7:=bln hB d4
 refine xc 24 (args:=#[P0 ba,V0 1,S0]) (Md w.heap.size ba bi g _ pa ca 0 0 1 [] none 0 1 _ (by decide) rfl rfl rfl hC hA (fun W _ h2=>.inl ⟨_,_,rfl,rfl,rfl⟩) b7.size) ?_
 rintro _ W4 ⟨rfl,f7,g5,h5,hA⟩
 have b3:=b7.trans f7
 refine xc 10 (args:=#[P0 ba,V0 3,S0]) (Md w.heap.size ba bi g _ pa ca 1 0 3 [] none 0 2 _ (by decide) rfl rfl rfl hC hA (fun W _ h2=>.inl ⟨_,_,rfl,rfl,rfl⟩) b3.size) ?_
 rintro _ W5 ⟨rfl,f4,f9,h1,hA⟩
 refine xr 10 (args:=#[P0 ba]) (Ui ba bi _ _ _ hA.blkA) fun W6 e3=>?_
 have a3:=hA.below e3
 refine xc 2 (args:=#[P0 bi,V0 1,V0 2,V0 5,V0 9]) (Wj w.heap.size bi (S1 g) 2560 ci (B24 2) 1 2 5 9 0 [] _ ⟨a3.blkI,a3.data,by omega⟩ (by decide) load24a rfl) ?_
 rintro _ W7 ⟨_,rfl,e4,px,cx,Zx,rfl,g8,_,_⟩
 refine xr 25 (args:=#[V0 3,V0 4]) (Tt _) fun W8 e2=>?_
 refine xbs 1 1 [V0 7,.string ⟨M24.toArray⟩,V0 0] 45 fun b9 W9 n9=>?_
 have c3:=bln (bln (bln (b3.trans f4) e3) e4) e2
 have g9:=n9.ge c3
 have d1:=((a3.below e4).below e2).below n9.below
 have b0:=bln c3 n9.below
 refine xc 0 (args:=#[P0 ba,V0 2,.slice (S1 b9) 1 1]) (Md w.heap.size ba bi g _ pa ca 2 1 2 eM (S1 b9) 1 3 _ (by decide) rfl rfl rfl hC d1 (fun W _ h2=>((n9.blk.only h2 (by decide)).sl 1 1 (by decide) (by decide))) b0.size) ?_
 rintro _ g6 ⟨rfl,d3,d5,f5,hA⟩
 refine xr 11 (args:=#[V0 3]) (Ct 3 (by decide) (by decide) _) fun f8 a5=>?_
 refine xbs 1 1 [V0 2,.string ⟨R24.toArray⟩,V0 0] 45 fun e1 g4 a4=>?_
 have c5:=(n9.blk.only d5 (by decide)).below a5
 have d2:=a4.ne c5
 have c0:=bln (b0.trans d3) a5
 have g7:=a4.ge c0
 have c7:=(hA.below a5).below a4.below
 have b5:=bln c0 a4.below
 refine xc 0 (args:=#[P0 ba,V0 1,.slice (S1 e1) 1 1]) (Md w.heap.size ba bi g _ pa ca 3 1 1 eR (S1 e1) 1 4 _ (by decide) rfl rfl rfl hC c7 (fun W _ h2=>((a4.blk.only h2 (by decide)).sl 1 1 (by decide) (by decide))) b5.size) ?_
 rintro _ g1 ⟨rfl,d9,b4,e7,hA⟩
 refine xr 10 (args:=#[.agg #[V0 1,V0 5,V0 0,V0 0]]) (Bp _) fun h4 a1=>?_
 refine xbs 1 1 [V0 2,.string ⟨D24.toArray⟩,V0 0] 45 fun e5 h3 a9=>?_
 have c9:=((c5.below a4.below).only b4 (by decide)).below a1
 have d8:=a9.ne c9
 have c4:=(a4.blk.only b4 (by decide)).below a1
 have c6:=a9.ne c4
 have b8:=bln (b5.trans d9) a1
 have g0:=a9.ge b8
 have d7:=(hA.below a1).below a9.below
 have a8:=bln b8 a9.below
 refine xc 0 (args:=#[P0 ba,V0 3,.slice (S1 e5) 1 1]) (Md w.heap.size ba bi g _ pa ca 4 1 3 eD (S1 e5) 1 5 _ (by decide) rfl rfl rfl hC d7 (fun W _ h2=>((a9.blk.only h2 (by decide)).sl 1 1 (by decide) (by decide))) a8.size) ?_
 rintro _ h0 ⟨rfl,c1,f0,e9,hA⟩
 refine xr 9 (args:=#[P0 ba]) (Ui ba bi _ _ _ hA.blkA) fun g2 a7=>?_
 have b2:=hA.below a7
 refine xc 2 (args:=#[P0 bi,V0 4,V0 5,V0 5,V0 9]) (Eu w.heap.size bi (S1 g) 2560 ci (B24 5) 4 5 5 9 _ ⟨b2.blkI,b2.data,by omega⟩ (by decide) load24b) ?_
 rintro _ g3 ⟨_,rfl,c8,pz,cz,pm,cm,rfl,f1,e8⟩
 have b6:=(bln (a8.trans c1) a7).size
 have a0:=Zh f1 b6
 refine xx 18 _ 1 0 5 (Sts.cell (f:=Ca) (l:=[(d24,pm,cm)]) (Zg a0) Vc zvD (k:=0) (i:=0) Nat.one_pos rfl).1 ?_
 refine xl 1 ((Sts.cell (f:=Ca) (l:=[(d24,pm,cm)]) (Zg a0) Vc zvD (k:=0) (i:=1) Nat.one_pos rfl).2) ?_
 refine xx 4 _ 1 0 5 (Sts.cell (f:=Ca) (l:=[(d24,pm,cm)]) (Zg a0) Vc zvD (k:=0) (i:=0) Nat.one_pos rfl).1 ?_
 refine xl 1 ((Sts.cell (f:=Ca) (l:=[(d24,pm,cm)]) (Zg a0) Vc zvD (k:=0) (i:=4) Nat.one_pos rfl).2) ?_
 refine xx 5 _ 1 0 5 (Sts.cell (f:=Ca) (l:=[(d24,pm,cm)]) (Zg a0) Vc zvD (k:=0) (i:=0) Nat.one_pos rfl).1 ?_
 refine xl 1 ((Sts.cell (f:=Ca) (l:=[(d24,pm,cm)]) (Zg a0) Vc zvD (k:=0) (i:=4) Nat.one_pos rfl).2) ?_
 have a2:=Zh e8 b6
 refine xx 0 _ 1 0 3 (Sts.cell (f:=Uf) (l:=[(7,3,4)]) (Zg a2) Je (0,0,0) (k:=0) (i:=0) (by decide) rfl).1 ?_
 refine xlv 0 (Sts.rp (k:=0) (show Sts Uf _ (.slice pm ([(7,3,4)]:List Mp).length cm) [(7,3,4)] from(Zg a2)) Je (0,0,0) (by decide) (by decide)) ?_
 have d6:=bln (bln (a8.trans c1) a7) c8
 exact xe 7 (.bool true) ⟨rfl,d6⟩
def Wa(O:List Int×Int×List Dv)(V:World)(p:O0)(c:Nat)(Z:List Zv):Prop:=Z.length=O.2.2.length∧Z.map Prod.fst=O.2.2∧Xl 0 V Z∧V.ownsRow 0 40 5 (.slice p O.2.2.length c) O.2.2.length (Z.flatMap Ca)
theorem Wa.below{O:List Int×Int×List Dv}{V W:World}{p:O0}{c:Nat}{Z:List Zv}(h:Wa O V p c Z)(hb:Below V.heap.size V W):Wa O W p c Z:=⟨h.1,h.2.1,h.2.2.1.below hb,Zb h.2.2.2 hb⟩
theorem Wa.only{O:List Int×Int×List Dv}{V W:World}{p:O0}{c:Nat}{Z:List Zv}{T:List TypeId}(h:Wa O V p c Z)(hO:Ze T V W)(hT:(T.contains 42||T.contains 40)=false):Wa O W p c Z:=by
 rw[Bool.or_eq_false_iff] at hT
 exact⟨h.1,h.2.1,h.2.2.1.only hO hT.1,Zi h.2.2.2 hO hT.2⟩
theorem Wa.read{O:List Int×Int×List Dv}{V:World}{p:O0}{c:Nat}{Z:List Zv}(h:Wa O V p c Z):DevsR V p c Z:=by
 have ho:=h.2.2.2
 rw[←h.1] at ho
 exact Zfn h.2.2.1 ho
theorem devsQ_of{O:List Int×Int×List Dv}{V:World}{B:Nat}{p:O0}{c:Nat}{Z:List Zv}(hZ:Z.map Prod.fst=O.2.2)(hM:Xl B V Z)(ho:V.ownsRow B 40 5 (.slice p O.2.2.length c) O.2.2.length (Z.flatMap Ca)):Wa O V p c Z:=by
 have hl:Z.length=O.2.2.length:=by rw[←hZ,List.length_map]
 exact⟨hl,hZ,hM.mono (Nat.zero_le _),Zh ho (Nat.zero_le _)⟩
theorem Rv(V:World){O:List Int×Int×List Dv}(h:O.2.2=[]):Wa O V none 0 []:=by
 refine⟨by rw[h];rfl,by rw[h];rfl,fun i hi=>absurd hi (by simp),?_⟩
 rw[h];exact World.ownsRow_nil _ _ _ _
theorem Ds(Bi b:Nat)(pi:O0)(ni ci:Nat)(l:Bl)(top details data fuel:Int)(w:World)(hI:ImgR Bi b pi ni ci l w)(hfu:fuel≤1000):C0 14 #[P0 b,V0 top,V0 details,V0 data,V0 fuel] w (fun e w' =>
 ((Qp l top details data fuel).2.1≠0∧∃ ty v,e=.returned (.tuple #[S0,.iface ty v])∧B0 w w'∧Qw w' ((Qp l top details data fuel).1.map some) (some (Qp l top details data fuel).2.1) (.iface ty v)) ∨
 ((Qp l top details data fuel).2.1=0∧∃ p c Z,e=.returned (.tuple #[.slice p (Qp l top details data fuel).2.2.length c,.nilIface])∧B0 w w'∧Wa (Qp l top details data fuel) w' p c Z)):=by
 refine(Pg Bi b pi ni ci l top details data fuel w hI hfu).mono ?_
 rintro e W q
 rcases q with q|⟨h,p,c,Z,rfl,hb,hZ,hM,ho⟩
 ·exact .inl q
 ·exact .inr ⟨h,p,c,Z,rfl,hb,devsQ_of hZ hM ho⟩
structure Sup where
 tx:Int
 time:Int
 unit:Int
 data:Int
 blocks:Int
 top:Int
 details:Int
 dslots:Int
 dover:Int
 mindex:Int
 mover:Int
def supC(s:Sup):List Value:=[V0 s.tx,V0 s.time,V0 s.unit,V0 s.data,V0 s.blocks,V0 s.top,V0 s.details,V0 s.dslots,V0 s.dover,V0 s.mindex,V0 s.mover]
def Sw(s:Sup):List Int:=[s.tx,s.time,s.unit,s.data,s.blocks,s.top,s.details,s.dslots,s.dover,s.mindex,s.mover]
def Vt(s:Sup):Bool:=(((((((((((true&&decide ((0:Int)≤s.tx∧s.tx≤2147483647))&&decide ((0:Int)≤s.time∧s.time≤16777215))&&decide ((1:Int)≤s.unit∧s.unit≤65536))&&decide ((0:Int)≤s.data∧s.data≤65536))&&decide ((2:Int)≤s.blocks∧s.blocks≤14400))&&decide ((1:Int)≤s.top∧s.top≤(s.blocks-1)))&&decide ((1:Int)≤s.details∧s.details≤(s.blocks-1)))&&decide ((1:Int)≤s.dslots∧s.dslots≤(s.blocks-1)))&&decide ((1:Int)≤s.dover∧s.dover≤(s.blocks-1)))&&decide ((1:Int)≤s.mindex∧s.mindex≤(s.blocks-1)))&&decide ((1:Int)≤s.mover∧s.mover≤(s.blocks-1)))
def Zf(l:Bl):Sup:=⟨(Zl l 12 4:Int),(Zl l 16 4:Int),(Zl l 20 4:Int),(Zl l 24 4:Int),(Zl l 28 4:Int),(Zl l 32 4:Int),(Zl l 36 4:Int),(Zl l 40 4:Int),(Zl l 44 4:Int),(Zl l 48 4:Int),(Zl l 52 4:Int)⟩
def Uc:Bl:=[83,67,65,78,84,76,73,78]
def Jy(N:List Int):Bl:=N.flatMap fun n=>leB n 4
theorem Mu(N:List Int):(Jy N).length=N.length*4:=by
 unfold Jy
 induction N with
 | nil=>rfl
 | cons n N ih=>rw[List.flatMap_cons,List.length_append,Zj,ih,List.length_cons];omega
def Aw(s:Sup):Bl:=Uc++Jy (1::Sw s)++List.replicate 188 0
theorem Zan(s:Sup):(Aw s).length=244:=by
 unfold Aw;rw[List.length_append,List.length_append,Mu,List.length_replicate];rfl
def Zei(l:Bl):Bool:=(l.take 8==Uc)&&decide (Zl l 8 4=1)&&Kc (l.drop 56)&&Vt (Zf l)
def Cn(n:Int):List Value:=[V0 4,V0 n]
theorem Oy(n:Int):(Cn n).length=2:=rfl
theorem Ng{l:Bl}{k:Nat}(h:k+4≤l.length):l.drop k=leB (Zl l k 4:Int) 4++l.drop (k+4):=by
 rw[leB_raw h,←List.drop_drop,List.take_append_drop]
theorem drop8{l:Bl}(hl:l.length=244):l.drop 8=Jy ((Zl l 8 4:Int)::Sw (Zf l))++l.drop 56:=by
 rw[Ng (k:=8) (by omega),Ng (k:=12) (by omega),Ng (k:=16) (by omega),Ng (k:=20) (by omega),Ng (k:=24) (by omega),Ng (k:=28) (by omega),Ng (k:=32) (by omega),Ng (k:=36) (by omega),Ng (k:=40) (by omega),Ng (k:=44) (by omega),Ng (k:=48) (by omega),Ng (k:=52) (by omega)]
 simp[Jy,Sw,Zf]
theorem Zdk(l:Bl):Kc l=true↔l=List.replicate l.length 0:=by
 unfold Kc
 rw[List.all_eq_true]
 constructor
 ·intro h;exact List.eq_replicate_iff.2 ⟨rfl,fun x hx=>by simpa using h x hx⟩
 ·intro h x hx;rw[h] at hx;rw[(List.mem_replicate.1 hx).2];rfl
theorem supB_eq{l:Bl}(hl:l.length=244):(Aw (Zf l)==l)=((l.take 8==Uc)&&decide (Zl l 8 4=1)&&Kc (l.drop 56)):=by
 have e1:l=l.take 8++(Jy ((Zl l 8 4:Int)::Sw (Zf l))++l.drop 56):=by rw[←drop8 hl,List.take_append_drop]
 have h8:(l.take 8).length=Uc.length:=by simp[Uc];omega
 have hn:∀ x:Int,(Jy (x::Sw (Zf l))).length=48:=fun x=>by rw[Mu];rfl
 have hr:=Qb l 8 4 (by decide)
 have a0:(l.drop 56).length=188:=by simp;omega
 rw[Bool.eq_iff_iff,beq_iff_eq,Bool.and_eq_true,Bool.and_eq_true,beq_iff_eq,decide_eq_true_iff,Zdk,a0]
 constructor
 ·intro h
  have e2:=h.trans e1
  rw[Aw,List.append_assoc] at e2
  obtain⟨a1,a2⟩:=List.append_inj e2 h8.symm
  obtain⟨a3,a4⟩:=List.append_inj a2 (by rw[hn,hn])
  have a5:leB (1:Int) 4=leB (Zl l 8 4:Int) 4:=by
   unfold Jy at a3
   rw[List.flatMap_cons,List.flatMap_cons] at a3
   exact(List.append_inj a3 (by rw[Zj,Zj])).1
  have a6:=leB_inj (m:=1) (n:=Zl l 8 4) (w:=4) (by decide) (by omega) a5
  exact⟨⟨a1.symm,a6.symm⟩,a4.symm⟩
 ·rintro⟨⟨a1,a2⟩,a3⟩
  conv=>rhs;rw[e1]
  rw[a1,a2,a3,Aw,List.append_assoc];rfl
theorem Yw(B bs bl bat off k:Nat)(cs:List Value)(a:O0)(c:Nat)(l:Bl)(lo hi:Value)(w:World)(hBw:B≤w.heap.size)(hBs:B≤bs)(hBa:B≤bat)(ks:Blk w bs cs 58)(ho:off<cs.length)(kl:Blk w bl [.slice a 244 c] 36)(ka:Blk w bat [V0 (k:Int)] 3)(hl:l.length=244)(h:Bys w (.slice a 244 c) l)(hk:k+4≤244) :
 C0 84 #[.pointer (some ⟨bs,off,none⟩),lo,hi,P0 bl,P0 bat] w ((fun e w'=>∃ u,e=.returned u∧Below B w w'∧Ze [58,3] w w'∧Blk w' bs (cs.set off (V0 (Zl l k 4:Int))) 58∧Blk w' bat [V0 (↑(k+4):Int)] 3)):=by
 refine zin 18 Tryz.func84 ?_
 refine xb 3 0 kl ?_
 refine xb 0 0 ka ?_
 refine xr 0 (args:=#[.slice a 244 c,V0 (k:Int),V0 4]) (Get_okN a 244 c k 4 (k:Int) 4 l _ hl rfl rfl (by decide) hk (by decide) h) fun W1 a2=>?_
 have a1:=ks.below a2
 refine xsg 4 a1 off (V0 (↑(Zl l k 4):Int)) (ho) fun W2 u2 k2=>?_
 replace k2:Blk W2 bs (cs.set off (V0 (Zl l k 4:Int))) 58:=by rw[←(Eq.refl (cs.set off (V0 (Zl l k 4:Int))))];exact k2
 have a0:=u2.blkT (ka.below a2) a1 (by decide)
 refine xb 3 0 a0 ?_
 refine xwm 0 ((k:Int)+4) (↑(k+4):Int) ?_
 refine xs 0 a0 [V0 (↑(k+4):Int)] fun W3 u3 k3=>?_
 have hB:=u3.below (u2.below (blB (Below.refl B w) hBw a2) hBs) hBa
 have hO:=((show Ze [58,3] w _ from(Ze.of_below a2)).trans (Ze.of_upd u2 a1 (by decide))).trans (Ze.of_upd u3 a0 (by decide))
 have a3:=u3.blkT k2 a0 (by decide)
 exact xe 1 (.tuple #[]) ⟨_,rfl,hB,hO,a3,k3⟩
theorem Yb(B bs bo off:Nat)(cs:List Value)(n lo hi:Int)(b:Bool)(w:World)(hBw:B≤w.heap.size)(hBo:B≤bo)(ks:Blk w bs cs 58)(hn:cs[off]? = some (V0 n))(ko:Blk w bo [.bool b] 4) :
 C0 123 #[.pointer (some ⟨bs,off,none⟩),V0 lo,V0 hi,P0 bo] w ((fun e w'=>∃ u,e=.returned u∧Below B w w'∧Ze [4] w w'∧Blk w' bo [.bool (b&&decide ((lo:Int)≤n∧n≤hi))] 4)):=by
 refine zin 22 Tryz.func123 ?_
 refine xb 1 0 ko ?_
 refine xg 1 [7,8] b (fun a1=>?_) (fun a1=>?_)
 ·refine xl 2 (ks.cell (i:=off) hn) ?_
  refine xg 4 [13,14,15] (decide (n≥lo)) (fun a0=>?_) (fun a0=>?_)
  ·have a0:=of_decide_eq_true a0
   refine xl 2 (ks.cell (i:=off) hn) ?_
   refine xs 3 ko [.bool (decide (n≤hi))] fun W3 u3 k3=>?_
   have hB:=u3.below (Below.refl B w) hBo
   have hO:=(show Ze [4] w _ from(Ze.of_upd u3 ko (by decide)))
   exact xe 1 (.tuple #[]) ⟨_,rfl,hB,hO,by rw[show(b&&decide ((lo:Int)≤n∧n≤hi))=decide (n≤hi) from by first|(rw[show decide ((lo:Int)≤n∧n≤hi)=false from decide_eq_false (by omega),Bool.and_false];done)|(simp_all;done)|(simp_all;omega)];exact k3⟩
  have a0:=of_decide_eq_false a0
  refine xs 6 ko [.bool false] fun W4 u4 k4=>?_
  have hB:=u4.below (Below.refl B w) hBo
  have hO:=(show Ze [4] w _ from(Ze.of_upd u4 ko (by decide)))
  exact xe 1 (.tuple #[]) ⟨_,rfl,hB,hO,by rw[show(b&&decide ((lo:Int)≤n∧n≤hi))=false from by first|(rw[show decide ((lo:Int)≤n∧n≤hi)=false from decide_eq_false (by omega),Bool.and_false];done)|(simp_all;done)|(simp_all;omega)];exact k4⟩
 refine xs 13 ko [.bool false] fun W5 u5 k5=>?_
 have hB:=u5.below (Below.refl B w) hBo
 have hO:=(show Ze [4] w _ from(Ze.of_upd u5 ko (by decide)))
 exact xe 1 (.tuple #[]) ⟨_,rfl,hB,hO,by rw[show(b&&decide ((lo:Int)≤n∧n≤hi))=false from by first|(rw[show decide ((lo:Int)≤n∧n≤hi)=false from decide_eq_false (by omega),Bool.and_false];done)|(simp_all;done)|(simp_all;omega)];exact k5⟩
theorem Dn(B bs bl bat:Nat)(a:O0)(c:Nat)(l:Bl)(w:World)(hBw:B≤w.heap.size)(hBs:B≤bs)(hBa:B≤bat)(ks:Blk w bs [V0 0,V0 0,V0 0,V0 0,V0 0,V0 0,V0 0,V0 0,V0 0,V0 0,V0 0] 58)(kl:Blk w bl [.slice a 244 c] 36)(ka:Blk w bat [V0 (↑(12:Nat):Int)] 3)(hl:l.length=244)(hin:∀ W,Below B w W→Bys W (.slice a 244 c) l) :
 C0 83 #[P0 bs,.func (.func 84) #[] #[P0 bl,P0 bat]] w ((fun e w'=>∃ u,e=.returned u∧Below B w w'∧Ze [58,3] w w'∧Blk w' bs (supC (Zf l)) 58)):=by
 have f5:=Qb l 28 4 (by decide)
 refine zin 64 Tryz.func83 ?_
 refine xc 6 (args:=#[P0 bs,V0 0,V0 2147483647,P0 bl,P0 bat]) (Yw B bs bl bat 0 12 _ a c l _ _ _ (Nat.le_trans hBw (Below.refl B _).size) hBs hBa ks (by simp) kl ka hl (hin _ (Below.refl B _)) (by decide)) ?_
 rintro _ W1 ⟨u1,rfl,e7,g7,f6,e9⟩
 change Blk _ _ [V0 (↑(Zl l 12 4):Int),V0 0,V0 0,V0 0,V0 0,V0 0,V0 0,V0 0,V0 0,V0 0,V0 0] _ at f6
 change Blk _ _ [V0 (↑(16:Nat):Int)] _ at e9
 have c1:=kl.only g7 (by decide)
 refine xc 8 (args:=#[.pointer (some ⟨bs,1,none⟩),V0 0,V0 16777215,P0 bl,P0 bat]) (Yw B bs bl bat 1 16 _ a c l _ _ _ (Nat.le_trans hBw e7.size) hBs hBa f6 (by simp) c1 e9 hl (hin _ e7) (by decide)) ?_
 rintro _ W2 ⟨u2,rfl,g9,f3,f4,g1⟩
 change Blk _ _ [V0 (↑(Zl l 12 4):Int),V0 (↑(Zl l 16 4):Int),V0 0,V0 0,V0 0,V0 0,V0 0,V0 0,V0 0,V0 0,V0 0] _ at f4
 change Blk _ _ [V0 (↑(20:Nat):Int)] _ at g1
 have a7:=e7.trans g9
 have d0:=c1.only f3 (by decide)
 refine xc 8 (args:=#[.pointer (some ⟨bs,2,none⟩),V0 1,V0 65536,P0 bl,P0 bat]) (Yw B bs bl bat 2 20 _ a c l _ _ _ (Nat.le_trans hBw a7.size) hBs hBa f4 (by simp) d0 g1 hl (hin _ a7) (by decide)) ?_
 rintro _ W3 ⟨u3,rfl,h2,g2,f0,f1⟩
 change Blk _ _ [V0 (↑(Zl l 12 4):Int),V0 (↑(Zl l 16 4):Int),V0 (↑(Zl l 20 4):Int),V0 0,V0 0,V0 0,V0 0,V0 0,V0 0,V0 0,V0 0] _ at f0
 change Blk _ _ [V0 (↑(24:Nat):Int)] _ at f1
 have a6:=a7.trans h2
 have d4:=d0.only g2 (by decide)
 refine xc 8 (args:=#[.pointer (some ⟨bs,3,none⟩),V0 0,V0 65536,P0 bl,P0 bat]) (Yw B bs bl bat 3 24 _ a c l _ _ _ (Nat.le_trans hBw a6.size) hBs hBa f0 (by simp) d4 f1 hl (hin _ a6) (by decide)) ?_
 rintro _ W4 ⟨u4,rfl,f5,g5,g3,f9⟩
 change Blk _ _ [V0 (↑(Zl l 12 4):Int),V0 (↑(Zl l 16 4):Int),V0 (↑(Zl l 20 4):Int),V0 (↑(Zl l 24 4):Int),V0 0,V0 0,V0 0,V0 0,V0 0,V0 0,V0 0] _ at g3
 change Blk _ _ [V0 (↑(28:Nat):Int)] _ at f9
 have a9:=a6.trans f5
 have b8:=d4.only g5 (by decide)
 refine xc 8 (args:=#[.pointer (some ⟨bs,4,none⟩),V0 2,V0 14400,P0 bl,P0 bat]) (Yw B bs bl bat 4 28 _ a c l _ _ _ (Nat.le_trans hBw a9.size) hBs hBa g3 (by simp) b8 f9 hl (hin _ a9) (by decide)) ?_
 rintro _ W5 ⟨u5,rfl,h3,g0,f8,g4⟩
 change Blk _ _ [V0 (↑(Zl l 12 4):Int),V0 (↑(Zl l 16 4):Int),V0 (↑(Zl l 20 4):Int),V0 (↑(Zl l 24 4):Int),V0 (↑(Zl l 28 4):Int),V0 0,V0 0,V0 0,V0 0,V0 0,V0 0] _ at f8
 change Blk _ _ [V0 (↑(32:Nat):Int)] _ at g4
 refine xd 3 .z ?_
 refine xbs (.o [0,1,2,3,4,5,6,7,8,9,10,11,12,13,14,15,16,17,20] 18) 6 [.pointer (some ⟨bs,5,none⟩),.pointer (some ⟨bs,6,none⟩),.pointer (some ⟨bs,7,none⟩),.pointer (some ⟨bs,8,none⟩),.pointer (some ⟨bs,9,none⟩),.pointer (some ⟨bs,10,none⟩)] 161 fun b6 W6 n6=>?_
 have b4:=blB (a9.trans h3) hBw (Za W5)
 have g6:=n6.ge0 b4
 refine xu (.r [19] 3) 7 ?_
 refine xb 14 0 n6.blk ?_
 have a1:=(f8.below (Za W5)).below n6.below
 refine xb 9 4 a1 ?_
 refine xw 0 ((↑(Zl l 28 4):Int)-1) ?_
 have a3:=blB b4 hBw n6.below
 have c2:=((b8.only g0 (by decide)).below (Za W5)).below n6.below
 have c3:=(g4.below (Za W5)).below n6.below
 refine xc 0 (args:=#[.pointer (some ⟨bs,5,none⟩),V0 1,V0 ((↑(Zl l 28 4):Int)-1),P0 bl,P0 bat]) (Yw B bs bl bat 5 32 _ a c l _ _ _ (Nat.le_trans hBw a3.size) hBs hBa a1 (by simp) c2 c3 hl (hin _ a3) (by decide)) ?_
 rintro _ W7 ⟨u7,rfl,h0,e3,d8,e8⟩
 change Blk _ _ [V0 (↑(Zl l 12 4):Int),V0 (↑(Zl l 16 4):Int),V0 (↑(Zl l 20 4):Int),V0 (↑(Zl l 24 4):Int),V0 (↑(Zl l 28 4):Int),V0 (↑(Zl l 32 4):Int),V0 0,V0 0,V0 0,V0 0,V0 0] _ at d8
 change Blk _ _ [V0 (↑(36:Nat):Int)] _ at e8
 have c8:=n6.blk.only e3 (by decide)
 refine xb 22 1 c8 ?_
 refine xb 9 4 d8 ?_
 refine xw 0 ((↑(Zl l 28 4):Int)-1) ?_
 have b0:=a3.trans h0
 have b7:=c2.only e3 (by decide)
 refine xc 0 (args:=#[.pointer (some ⟨bs,6,none⟩),V0 1,V0 ((↑(Zl l 28 4):Int)-1),P0 bl,P0 bat]) (Yw B bs bl bat 6 36 _ a c l _ _ _ (Nat.le_trans hBw b0.size) hBs hBa d8 (by simp) b7 e8 hl (hin _ b0) (by decide)) ?_
 rintro _ W8 ⟨u8,rfl,g8,e1,e2,f2⟩
 change Blk _ _ [V0 (↑(Zl l 12 4):Int),V0 (↑(Zl l 16 4):Int),V0 (↑(Zl l 20 4):Int),V0 (↑(Zl l 24 4):Int),V0 (↑(Zl l 28 4):Int),V0 (↑(Zl l 32 4):Int),V0 (↑(Zl l 36 4):Int),V0 0,V0 0,V0 0,V0 0] _ at e2
 change Blk _ _ [V0 (↑(40:Nat):Int)] _ at f2
 have c9:=c8.only e1 (by decide)
 refine xb 22 2 c9 ?_
 refine xb 9 4 e2 ?_
 refine xw 0 ((↑(Zl l 28 4):Int)-1) ?_
 have a2:=b0.trans g8
 have c6:=b7.only e1 (by decide)
 refine xc 0 (args:=#[.pointer (some ⟨bs,7,none⟩),V0 1,V0 ((↑(Zl l 28 4):Int)-1),P0 bl,P0 bat]) (Yw B bs bl bat 7 40 _ a c l _ _ _ (Nat.le_trans hBw a2.size) hBs hBa e2 (by simp) c6 f2 hl (hin _ a2) (by decide)) ?_
 rintro _ W9 ⟨u9,rfl,h1,e0,e4,f7⟩
 change Blk _ _ [V0 (↑(Zl l 12 4):Int),V0 (↑(Zl l 16 4):Int),V0 (↑(Zl l 20 4):Int),V0 (↑(Zl l 24 4):Int),V0 (↑(Zl l 28 4):Int),V0 (↑(Zl l 32 4):Int),V0 (↑(Zl l 36 4):Int),V0 (↑(Zl l 40 4):Int),V0 0,V0 0,V0 0] _ at e4
 change Blk _ _ [V0 (↑(44:Nat):Int)] _ at f7
 have d3:=c9.only e0 (by decide)
 refine xb 22 3 d3 ?_
 refine xb 9 4 e4 ?_
 refine xw 0 ((↑(Zl l 28 4):Int)-1) ?_
 have b3:=a2.trans h1
 have d2:=c6.only e0 (by decide)
 refine xc 0 (args:=#[.pointer (some ⟨bs,8,none⟩),V0 1,V0 ((↑(Zl l 28 4):Int)-1),P0 bl,P0 bat]) (Yw B bs bl bat 8 44 _ a c l _ _ _ (Nat.le_trans hBw b3.size) hBs hBa e4 (by simp) d2 f7 hl (hin _ b3) (by decide)) ?_
 rintro _ h4 ⟨h6,rfl,e5,b2,a5,b5⟩
 change Blk _ _ [V0 (↑(Zl l 12 4):Int),V0 (↑(Zl l 16 4):Int),V0 (↑(Zl l 20 4):Int),V0 (↑(Zl l 24 4):Int),V0 (↑(Zl l 28 4):Int),V0 (↑(Zl l 32 4):Int),V0 (↑(Zl l 36 4):Int),V0 (↑(Zl l 40 4):Int),V0 (↑(Zl l 44 4):Int),V0 0,V0 0] _ at a5
 change Blk _ _ [V0 (↑(48:Nat):Int)] _ at b5
 have c7:=d3.only b2 (by decide)
 refine xb 22 4 c7 ?_
 refine xb 9 4 a5 ?_
 refine xw 0 ((↑(Zl l 28 4):Int)-1) ?_
 have a8:=b3.trans e5
 have c4:=d2.only b2 (by decide)
 refine xc 0 (args:=#[.pointer (some ⟨bs,9,none⟩),V0 1,V0 ((↑(Zl l 28 4):Int)-1),P0 bl,P0 bat]) (Yw B bs bl bat 9 48 _ a c l _ _ _ (Nat.le_trans hBw a8.size) hBs hBa a5 (by simp) c4 b5 hl (hin _ a8) (by decide)) ?_
 rintro _ h7 ⟨h9,rfl,e6,a4,b1,c5⟩
 change Blk _ _ [V0 (↑(Zl l 12 4):Int),V0 (↑(Zl l 16 4):Int),V0 (↑(Zl l 20 4):Int),V0 (↑(Zl l 24 4):Int),V0 (↑(Zl l 28 4):Int),V0 (↑(Zl l 32 4):Int),V0 (↑(Zl l 36 4):Int),V0 (↑(Zl l 40 4):Int),V0 (↑(Zl l 44 4):Int),V0 (↑(Zl l 48 4):Int),V0 0] _ at b1
 change Blk _ _ [V0 (↑(52:Nat):Int)] _ at c5
 have d6:=c7.only a4 (by decide)
 refine xb 22 5 d6 ?_
 refine xb 9 4 b1 ?_
 refine xw 0 ((↑(Zl l 28 4):Int)-1) ?_
 have a0:=a8.trans e6
 have b9:=c4.only a4 (by decide)
 refine xc 0 (args:=#[.pointer (some ⟨bs,10,none⟩),V0 1,V0 ((↑(Zl l 28 4):Int)-1),P0 bl,P0 bat]) (Yw B bs bl bat 10 52 _ a c l _ _ _ (Nat.le_trans hBw a0.size) hBs hBa b1 (by simp) b9 c5 hl (hin _ a0) (by decide)) ?_
 rintro _ h8 ⟨h5,rfl,d5,d9,c0,d7⟩
 change Blk _ _ [V0 (↑(Zl l 12 4):Int),V0 (↑(Zl l 16 4):Int),V0 (↑(Zl l 20 4):Int),V0 (↑(Zl l 24 4):Int),V0 (↑(Zl l 28 4):Int),V0 (↑(Zl l 32 4):Int),V0 (↑(Zl l 36 4):Int),V0 (↑(Zl l 40 4):Int),V0 (↑(Zl l 44 4):Int),V0 (↑(Zl l 48 4):Int),V0 (↑(Zl l 52 4):Int)] _ at c0
 change Blk _ _ [V0 (↑(56:Nat):Int)] _ at d7
 have d1:=a0.trans d5
 have hO:=((((((((((((show Ze [58,3] w _ from g7).trans f3).trans g2).trans g5).trans g0).trans (Ze.of_below (Za W5))).trans (Ze.of_below n6.below)).trans e3).trans e1).trans e0).trans b2).trans a4).trans d9
 exact xe 19 (.tuple #[]) ⟨_,rfl,d1,hO,c0⟩
theorem Bu(B bs bo:Nat)(s:Sup)(w:World)(hBw:B≤w.heap.size)(hBo:B≤bo)(hb0:0≤s.blocks)(hb1:s.blocks<9223372036854775808)(ks:Blk w bs [V0 s.tx,V0 s.time,V0 s.unit,V0 s.data,V0 s.blocks,V0 s.top,V0 s.details,V0 s.dslots,V0 s.dover,V0 s.mindex,V0 s.mover] 58)(ko:Blk w bo [.bool true] 4) :
 C0 83 #[P0 bs,.func (.func 123) #[] #[P0 bo]] w ((fun e w'=>∃ u,e=.returned u∧Below B w w'∧Ze [4] w w'∧Blk w' bo [.bool (Vt s)] 4)):=by
 refine zin 64 Tryz.func83 ?_
 refine xc 6 (args:=#[P0 bs,V0 0,V0 2147483647,P0 bo]) (Yb B bs bo 0 _ s.tx 0 2147483647 true _ (Nat.le_trans hBw (Below.refl B _).size) hBo ks rfl ko) ?_
 rintro _ W1 ⟨u1,rfl,hb1,e4,f4⟩
 have c7:=ks.only e4 (by decide)
 refine xc 8 (args:=#[.pointer (some ⟨bs,1,none⟩),V0 0,V0 16777215,P0 bo]) (Yb B bs bo 1 _ s.time 0 16777215 (true&&decide ((0:Int)≤s.tx∧s.tx≤2147483647)) _ (Nat.le_trans hBw hb1.size) hBo c7 rfl f4) ?_
 rintro _ W2 ⟨u2,rfl,e8,e1,f5⟩
 have b9:=hb1.trans e8
 have b5:=c7.only e1 (by decide)
 refine xc 8 (args:=#[.pointer (some ⟨bs,2,none⟩),V0 1,V0 65536,P0 bo]) (Yb B bs bo 2 _ s.unit 1 65536 ((true&&decide ((0:Int)≤s.tx∧s.tx≤2147483647))&&decide ((0:Int)≤s.time∧s.time≤16777215)) _ (Nat.le_trans hBw b9.size) hBo b5 rfl f5) ?_
 rintro _ W3 ⟨u3,rfl,f2,e2,e7⟩
 have b0:=b9.trans f2
 have b7:=b5.only e2 (by decide)
 refine xc 8 (args:=#[.pointer (some ⟨bs,3,none⟩),V0 0,V0 65536,P0 bo]) (Yb B bs bo 3 _ s.data 0 65536 (((true&&decide ((0:Int)≤s.tx∧s.tx≤2147483647))&&decide ((0:Int)≤s.time∧s.time≤16777215))&&decide ((1:Int)≤s.unit∧s.unit≤65536)) _ (Nat.le_trans hBw b0.size) hBo b7 rfl e7) ?_
 rintro _ W4 ⟨u4,rfl,f6,e3,f7⟩
 have c6:=b0.trans f6
 have b8:=b7.only e3 (by decide)
 refine xc 8 (args:=#[.pointer (some ⟨bs,4,none⟩),V0 2,V0 14400,P0 bo]) (Yb B bs bo 4 _ s.blocks 2 14400 ((((true&&decide ((0:Int)≤s.tx∧s.tx≤2147483647))&&decide ((0:Int)≤s.time∧s.time≤16777215))&&decide ((1:Int)≤s.unit∧s.unit≤65536))&&decide ((0:Int)≤s.data∧s.data≤65536)) _ (Nat.le_trans hBw c6.size) hBo b8 rfl f7) ?_
 rintro _ W5 ⟨u5,rfl,e9,e0,f1⟩
 refine xd 3 .z ?_
 refine xbs (.o [0,1,2,3,4,5,6,7,8,9,10,11,12,13,14,15,16,17,20] 18) 6 [.pointer (some ⟨bs,5,none⟩),.pointer (some ⟨bs,6,none⟩),.pointer (some ⟨bs,7,none⟩),.pointer (some ⟨bs,8,none⟩),.pointer (some ⟨bs,9,none⟩),.pointer (some ⟨bs,10,none⟩)] 161 fun b6 W6 n6=>?_
 have a9:=blB (c6.trans e9) hBw (Za W5)
 have g6:=n6.ge0 a9
 refine xu (.r [19] 3) 7 ?_
 refine xb 14 0 n6.blk ?_
 have a7:=((b8.only e0 (by decide)).below (Za W5)).below n6.below
 refine xb 9 4 a7 ?_
 refine xw 0 (s.blocks-1) ?_
 have c3:=blB a9 hBw n6.below
 have c2:=(f1.below (Za W5)).below n6.below
 refine xc 0 (args:=#[.pointer (some ⟨bs,5,none⟩),V0 1,V0 (s.blocks-1),P0 bo]) (Yb B bs bo 5 _ s.top 1 (s.blocks-1) (((((true&&decide ((0:Int)≤s.tx∧s.tx≤2147483647))&&decide ((0:Int)≤s.time∧s.time≤16777215))&&decide ((1:Int)≤s.unit∧s.unit≤65536))&&decide ((0:Int)≤s.data∧s.data≤65536))&&decide ((2:Int)≤s.blocks∧s.blocks≤14400)) _ (Nat.le_trans hBw c3.size) hBo a7 rfl c2) ?_
 rintro _ W7 ⟨u7,rfl,f8,d9,f3⟩
 have b2:=n6.blk.only d9 (by decide)
 refine xb 22 1 b2 ?_
 have a5:=a7.only d9 (by decide)
 refine xb 9 4 a5 ?_
 refine xw 0 (s.blocks-1) ?_
 have b4:=c3.trans f8
 refine xc 0 (args:=#[.pointer (some ⟨bs,6,none⟩),V0 1,V0 (s.blocks-1),P0 bo]) (Yb B bs bo 6 _ s.details 1 (s.blocks-1) ((((((true&&decide ((0:Int)≤s.tx∧s.tx≤2147483647))&&decide ((0:Int)≤s.time∧s.time≤16777215))&&decide ((1:Int)≤s.unit∧s.unit≤65536))&&decide ((0:Int)≤s.data∧s.data≤65536))&&decide ((2:Int)≤s.blocks∧s.blocks≤14400))&&decide ((1:Int)≤s.top∧s.top≤(s.blocks-1))) _ (Nat.le_trans hBw b4.size) hBo a5 rfl f3) ?_
 rintro _ W8 ⟨u8,rfl,e5,d6,f0⟩
 have b3:=b2.only d6 (by decide)
 refine xb 22 2 b3 ?_
 have a3:=a5.only d6 (by decide)
 refine xb 9 4 a3 ?_
 refine xw 0 (s.blocks-1) ?_
 have c0:=b4.trans e5
 refine xc 0 (args:=#[.pointer (some ⟨bs,7,none⟩),V0 1,V0 (s.blocks-1),P0 bo]) (Yb B bs bo 7 _ s.dslots 1 (s.blocks-1) (((((((true&&decide ((0:Int)≤s.tx∧s.tx≤2147483647))&&decide ((0:Int)≤s.time∧s.time≤16777215))&&decide ((1:Int)≤s.unit∧s.unit≤65536))&&decide ((0:Int)≤s.data∧s.data≤65536))&&decide ((2:Int)≤s.blocks∧s.blocks≤14400))&&decide ((1:Int)≤s.top∧s.top≤(s.blocks-1)))&&decide ((1:Int)≤s.details∧s.details≤(s.blocks-1))) _ (Nat.le_trans hBw c0.size) hBo a3 rfl f0) ?_
 rintro _ W9 ⟨u9,rfl,f9,d4,e6⟩
 have c1:=b3.only d4 (by decide)
 refine xb 22 3 c1 ?_
 have a2:=a3.only d4 (by decide)
 refine xb 9 4 a2 ?_
 refine xw 0 (s.blocks-1) ?_
 have c8:=c0.trans f9
 refine xc 0 (args:=#[.pointer (some ⟨bs,8,none⟩),V0 1,V0 (s.blocks-1),P0 bo]) (Yb B bs bo 8 _ s.dover 1 (s.blocks-1) ((((((((true&&decide ((0:Int)≤s.tx∧s.tx≤2147483647))&&decide ((0:Int)≤s.time∧s.time≤16777215))&&decide ((1:Int)≤s.unit∧s.unit≤65536))&&decide ((0:Int)≤s.data∧s.data≤65536))&&decide ((2:Int)≤s.blocks∧s.blocks≤14400))&&decide ((1:Int)≤s.top∧s.top≤(s.blocks-1)))&&decide ((1:Int)≤s.details∧s.details≤(s.blocks-1)))&&decide ((1:Int)≤s.dslots∧s.dslots≤(s.blocks-1))) _ (Nat.le_trans hBw c8.size) hBo a2 rfl e6) ?_
 rintro _ g4 ⟨g0,rfl,d3,a4,d2⟩
 have c5:=c1.only a4 (by decide)
 refine xb 22 4 c5 ?_
 have a8:=a2.only a4 (by decide)
 refine xb 9 4 a8 ?_
 refine xw 0 (s.blocks-1) ?_
 have c4:=c8.trans d3
 refine xc 0 (args:=#[.pointer (some ⟨bs,9,none⟩),V0 1,V0 (s.blocks-1),P0 bo]) (Yb B bs bo 9 _ s.mindex 1 (s.blocks-1) (((((((((true&&decide ((0:Int)≤s.tx∧s.tx≤2147483647))&&decide ((0:Int)≤s.time∧s.time≤16777215))&&decide ((1:Int)≤s.unit∧s.unit≤65536))&&decide ((0:Int)≤s.data∧s.data≤65536))&&decide ((2:Int)≤s.blocks∧s.blocks≤14400))&&decide ((1:Int)≤s.top∧s.top≤(s.blocks-1)))&&decide ((1:Int)≤s.details∧s.details≤(s.blocks-1)))&&decide ((1:Int)≤s.dslots∧s.dslots≤(s.blocks-1)))&&decide ((1:Int)≤s.dover∧s.dover≤(s.blocks-1))) _ (Nat.le_trans hBw c4.size) hBo a8 rfl d2) ?_
 rintro _ g2 ⟨g3,rfl,d7,a6,d5⟩
 have d0:=c5.only a6 (by decide)
 refine xb 22 5 d0 ?_
 have a0:=a8.only a6 (by decide)
 refine xb 9 4 a0 ?_
 refine xw 0 (s.blocks-1) ?_
 have a1:=c4.trans d7
 refine xc 0 (args:=#[.pointer (some ⟨bs,10,none⟩),V0 1,V0 (s.blocks-1),P0 bo]) (Yb B bs bo 10 _ s.mover 1 (s.blocks-1) ((((((((((true&&decide ((0:Int)≤s.tx∧s.tx≤2147483647))&&decide ((0:Int)≤s.time∧s.time≤16777215))&&decide ((1:Int)≤s.unit∧s.unit≤65536))&&decide ((0:Int)≤s.data∧s.data≤65536))&&decide ((2:Int)≤s.blocks∧s.blocks≤14400))&&decide ((1:Int)≤s.top∧s.top≤(s.blocks-1)))&&decide ((1:Int)≤s.details∧s.details≤(s.blocks-1)))&&decide ((1:Int)≤s.dslots∧s.dslots≤(s.blocks-1)))&&decide ((1:Int)≤s.dover∧s.dover≤(s.blocks-1)))&&decide ((1:Int)≤s.mindex∧s.mindex≤(s.blocks-1))) _ (Nat.le_trans hBw a1.size) hBo a0 rfl d5) ?_
 rintro _ g1 ⟨g5,rfl,c9,d8,d1⟩
 have b1:=a1.trans c9
 have hO:=((((((((((((show Ze [4] w _ from e4).trans e1).trans e2).trans e3).trans e0).trans (Ze.of_below (Za W5))).trans (Ze.of_below n6.below)).trans d9).trans d6).trans d4).trans a4).trans a6).trans d8
 exact xe 19 (.tuple #[]) ⟨_,rfl,b1,hO,d1⟩
theorem Rw(s:Sup)(w:World)(hb0:0≤s.blocks)(hb1:s.blocks<9223372036854775808) :
 C0 111 #[.agg #[V0 s.tx,V0 s.time,V0 s.unit,V0 s.data,V0 s.blocks,V0 s.top,V0 s.details,V0 s.dslots,V0 s.dover,V0 s.mindex,V0 s.mover]] w (Ret (.bool (Vt s)) w):=by
 refine zin 7 Tryz.func111 ?_
 refine xa 2 [V0 s.tx,V0 s.time,V0 s.unit,V0 s.data,V0 s.blocks,V0 s.top,V0 s.details,V0 s.dslots,V0 s.dover,V0 s.mindex,V0 s.mover] 58 fun b1 W1 n1=>?_
 refine xa 5 [.bool false] 4 fun b2 W2 n2=>?_
 refine xs 0 n2.blk [.bool true] fun W3 u3 k3=>?_
 have g2:=n2.ge n1.below
 have hB:=u3.below (bln n1.below n2.below) g2
 have k1:=u3.blkT (n1.blk.below n2.below) n2.blk (by decide)
 refine xc 5 (args:=#[P0 b1,.func (.func 123) #[] #[P0 b2]]) (Bu w.heap.size b1 b2 s _ hB.size g2 hb0 hb1 k1 k3) ?_
 rintro _ W4 ⟨u4,rfl,a1,a3,a2⟩
 refine xb 4 0 a2 ?_
 have a0:=hB.trans a1
 exact xe 4 (.bool (Vt s)) ⟨rfl,a0⟩
theorem Vf(B Bx bs bl off n:Nat)(cs:List Value)(x:Int)(lo hi:Value)(p:O0)(c:Nat)(N:List Int)(w:World)(hBm:B≤Bx)(hBx:Bx≤w.heap.size)(hBw:B≤w.heap.size)(hBl:B≤bl)(ks:Blk w bs cs 58)(hn:cs[off]? = some (V0 x))(kl:Blk w bl [.slice p n c] 135)(hup:w.ownsRow Bx 111 2 (.slice p n c) n (N.flatMap Cn))(hnn:n≤1000) :
 C0 112 #[.pointer (some ⟨bs,off,none⟩),lo,hi,P0 bl] w ((fun e w'=>∃ u p' c',e=.returned u∧Below B w w'∧Ze [135,111] w w'∧Blk w' bl [.slice p' (n+1) c'] 135∧w'.ownsRow Bx 111 2 (.slice p' (n+1) c') (n+1) ((N++[x]).flatMap Cn))):=by
 refine zin 14 Tryz.func112 ?_
 refine xd 0 (.t B [135,111]) ?_
 have b7:=ks.below (Za w)
 refine xlt (.e [1,2] 3) (.t B [135,111]) (fun V hV=>(b7.only hV.2 (by decide)).cell (i:=off) hn) ?_
 refine xm2 (.b [4]) 0 5 ?_ ?_
 ·have a6:=kl.below (Za w)
  refine xb 0 0 a6 ?_
  refine xbs (.o [] 5) 1 [V0 4,V0 x] 111 fun b1 W1 n1=>?_
  have a5:=Zb hup (Za w)
  have b8:=Xd a5 n1
  have a1:=Zb a5 n1.below
  have hB:=blB (blB (Below.refl B w) hBw (Za w)) hBw n1.below
  refine ybi (.o [] 6) (.t B [135,111]) fun _ _ _ _ zJ zQ zo zx zy zK=>Xk (m:=1) (news:=[V0 4,V0 x]) (.agg #[V0 0,V0 0]) 2 16 (n+1) (((N++[x]).flatMap Cn)) zo Tryz.underlying135 (by kernel_rfl) rfl (by decide) zx a1 zy (n1.blk.sl 1 1 (by decide) (by decide)) rfl (by simp[Value.oneCell']) (by unfold maxLen;omega) (by omega) (Nat.le_trans hBx hB.size) (by rfl) (by rw[List.flatMap_append];rfl) fun c4 c3 W2 o2 b6 b9=>?_
  refine zK _ _ (Va (b9.mono hBm) b6 a1 (by decide)) ?_
  have a3:=(a6.below n1.below).grown b6 a1 (by decide)
  refine ys (.o [] 7) a3 [.slice c4 (n+1) c3] (.t B [135,111]) fun W3 u3 k3=>⟨(Zw u3 a3 hBl (by decide)),?_⟩
  have b2:=u3.below (hB.trans (b9.mono hBm)) hBl
  have hO:=(((show Ze [135,111] w _ from(Ze.of_below (Za w))).trans (Ze.of_below n1.below)).trans (Ze.of_grown b6 a1 (by decide))).trans (Ze.of_upd u3 a3 (by decide))
  have a8:=u3.own2 o2 a3 (by decide)
  exact xe 1 (.tuple #[]) ⟨_,_,_,rfl,b2,hO,k3,a8⟩
 refine xbs 0 1 [V0 4,V0 x] 111 fun b4 W4 n4=>?_
 have a4:=Zb hup (Za w)
 have b5:=Xd a4 n4
 have a7:=(kl.below (Za w)).below n4.below
 refine xb (.o [] 0) 0 a7 ?_
 have a0:=Zb a4 n4.below
 have hB:=blB (blB (Below.refl B w) hBw (Za w)) hBw n4.below
 refine ybi (.o [] 6) (.t B [135,111]) fun _ _ _ _ zJ zQ zo zx zy zK=>Xk (m:=1) (news:=[V0 4,V0 x]) (.agg #[V0 0,V0 0]) 2 16 (n+1) (((N++[x]).flatMap Cn)) zo Tryz.underlying135 (by kernel_rfl) rfl (by decide) zx a0 zy (n4.blk.sl 1 1 (by decide) (by decide)) rfl (by simp[Value.oneCell']) (by unfold maxLen;omega) (by omega) (Nat.le_trans hBx hB.size) (by rfl) (by rw[List.flatMap_append];rfl) fun c2 c1 W5 o5 b3 c0=>?_
 refine zK _ _ (Va (c0.mono hBm) b3 a0 (by decide)) ?_
 have a2:=a7.grown b3 a0 (by decide)
 refine ys (.o [] 7) a2 [.slice c2 (n+1) c1] (.t B [135,111]) fun W6 u6 k6=>⟨(Zw u6 a2 hBl (by decide)),?_⟩
 have a9:=u6.below (hB.trans (c0.mono hBm)) hBl
 have hO:=(((show Ze [135,111] w _ from(Ze.of_below (Za w))).trans (Ze.of_below n4.below)).trans (Ze.of_grown b3 a0 (by decide))).trans (Ze.of_upd u6 a2 (by decide))
 have b0:=u6.own2 o5 a2 (by decide)
 exact xe 1 (.tuple #[]) ⟨_,_,_,rfl,a9,hO,k6,b0⟩
theorem Fx(B Bx bs bl:Nat)(s:Sup)(p0:O0)(c0:Nat)(w:World)(hBm:B≤Bx)(hBx:Bx≤w.heap.size)(hBw:B≤w.heap.size)(hBl:B≤bl)(hb0:0≤s.blocks)(hb1:s.blocks<9223372036854775808)(ks:Blk w bs [V0 s.tx,V0 s.time,V0 s.unit,V0 s.data,V0 s.blocks,V0 s.top,V0 s.details,V0 s.dslots,V0 s.dover,V0 s.mindex,V0 s.mover] 58)(kl:Blk w bl [.slice p0 1 c0] 135)(hr0:w.ownsRow Bx 111 2 (.slice p0 1 c0) 1 ([1].flatMap Cn)) :
 C0 83 #[P0 bs,.func (.func 112) #[] #[P0 bl]] w ((fun e w'=>∃ u p c,e=.returned u∧Below B w w'∧Ze [135,111] w w'∧Blk w' bl [.slice p 12 c] 135∧w'.ownsRow Bx 111 2 (.slice p 12 c) 12 ((1::Sw s).flatMap Cn))):=by
 refine zin 64 Tryz.func83 ?_
 refine xc 6 (args:=#[P0 bs,V0 0,V0 2147483647,P0 bl]) (Vf B Bx bs bl 0 1 _ s.tx _ _ p0 c0 [1] _ hBm (Nat.le_trans hBx (Below.refl B _).size) (Nat.le_trans hBw (Below.refl B _).size) hBl ks rfl kl hr0 (by decide)) ?_
 rintro _ W1 ⟨u1,p1,c1,rfl,hb1,i1,g8,j1⟩
 have f4:World.ownsRow _ _ _ _ (.slice p1 2 c1) 2 ([1,s.tx].flatMap Cn):=j1
 replace g8:Blk _ _ [.slice p1 2 c1] _:=g8
 have d4:=ks.only i1 (by decide)
 refine xc 8 (args:=#[.pointer (some ⟨bs,1,none⟩),V0 0,V0 16777215,P0 bl]) (Vf B Bx bs bl 1 2 _ s.time _ _ p1 c1 [1,s.tx] _ hBm (Nat.le_trans hBx hb1.size) (Nat.le_trans hBw hb1.size) hBl d4 rfl g8 f4 (by decide)) ?_
 rintro _ W2 ⟨u2,p2,c2,rfl,i3,h5,h4,j3⟩
 have e7:World.ownsRow _ _ _ _ (.slice p2 3 c2) 3 ([1,s.tx,s.time].flatMap Cn):=j3
 replace h4:Blk _ _ [.slice p2 3 c2] _:=h4
 have b0:=hb1.trans i3
 have e1:=d4.only h5 (by decide)
 refine xc 8 (args:=#[.pointer (some ⟨bs,2,none⟩),V0 1,V0 65536,P0 bl]) (Vf B Bx bs bl 2 3 _ s.unit _ _ p2 c2 [1,s.tx,s.time] _ hBm (Nat.le_trans hBx b0.size) (Nat.le_trans hBw b0.size) hBl e1 rfl h4 e7 (by decide)) ?_
 rintro _ W3 ⟨u3,p3,c3,rfl,i9,h9,f3,i5⟩
 have f5:World.ownsRow _ _ _ _ (.slice p3 4 c3) 4 ([1,s.tx,s.time,s.unit].flatMap Cn):=i5
 replace f3:Blk _ _ [.slice p3 4 c3] _:=f3
 have a8:=b0.trans i9
 have d3:=e1.only h9 (by decide)
 refine xc 8 (args:=#[.pointer (some ⟨bs,3,none⟩),V0 0,V0 65536,P0 bl]) (Vf B Bx bs bl 3 4 _ s.data _ _ p3 c3 [1,s.tx,s.time,s.unit] _ hBm (Nat.le_trans hBx a8.size) (Nat.le_trans hBw a8.size) hBl d3 rfl f3 f5 (by decide)) ?_
 rintro _ W4 ⟨u4,p4,c4,rfl,j0,i0,e8,j6⟩
 have g0:World.ownsRow _ _ _ _ (.slice p4 5 c4) 5 ([1,s.tx,s.time,s.unit,s.data].flatMap Cn):=j6
 replace e8:Blk _ _ [.slice p4 5 c4] _:=e8
 have b3:=a8.trans j0
 have d9:=d3.only i0 (by decide)
 refine xc 8 (args:=#[.pointer (some ⟨bs,4,none⟩),V0 2,V0 14400,P0 bl]) (Vf B Bx bs bl 4 5 _ s.blocks _ _ p4 c4 [1,s.tx,s.time,s.unit,s.data] _ hBm (Nat.le_trans hBx b3.size) (Nat.le_trans hBw b3.size) hBl d9 rfl e8 g0 (by decide)) ?_
 rintro _ W5 ⟨u5,p5,c5,rfl,j7,h8,e9,j5⟩
 have g5:World.ownsRow _ _ _ _ (.slice p5 6 c5) 6 ([1,s.tx,s.time,s.unit,s.data,s.blocks].flatMap Cn):=j5
 replace e9:Blk _ _ [.slice p5 6 c5] _:=e9
 refine xd 3 .z ?_
 refine xbs (.o [0,1,2,3,4,5,6,7,8,9,10,11,12,13,14,15,16,17,20] 18) 6 [.pointer (some ⟨bs,5,none⟩),.pointer (some ⟨bs,6,none⟩),.pointer (some ⟨bs,7,none⟩),.pointer (some ⟨bs,8,none⟩),.pointer (some ⟨bs,9,none⟩),.pointer (some ⟨bs,10,none⟩)] 161 fun b6 W6 n6=>?_
 have d2:=blB (b3.trans j7) hBw (Za W5)
 have g6:=n6.ge0 d2
 refine xu (.r [19] 3) 7 ?_
 refine xb 14 0 n6.blk ?_
 have d0:=((d9.only h8 (by decide)).below (Za W5)).below n6.below
 refine xb 9 4 d0 ?_
 refine xw 0 (s.blocks-1) ?_
 have a3:=blB d2 hBw n6.below
 have e2:=(e9.below (Za W5)).below n6.below
 have a5:=Zb (Zb g5 (Za W5)) n6.below
 refine xc 0 (args:=#[.pointer (some ⟨bs,5,none⟩),V0 1,V0 (s.blocks-1),P0 bl]) (Vf B Bx bs bl 5 6 _ s.top _ _ p5 c5 [1,s.tx,s.time,s.unit,s.data,s.blocks] _ hBm (Nat.le_trans hBx a3.size) (Nat.le_trans hBw a3.size) hBl d0 rfl e2 a5 (by decide)) ?_
 rintro _ W7 ⟨u7,p6,c6,rfl,i6,f9,f8,j2⟩
 have h2:World.ownsRow _ _ _ _ (.slice p6 7 c6) 7 ([1,s.tx,s.time,s.unit,s.data,s.blocks,s.top].flatMap Cn):=j2
 replace f8:Blk _ _ [.slice p6 7 c6] _:=f8
 have d7:=n6.blk.only f9 (by decide)
 refine xb 22 1 d7 ?_
 have b1:=d0.only f9 (by decide)
 refine xb 9 4 b1 ?_
 refine xw 0 (s.blocks-1) ?_
 have b7:=a3.trans i6
 refine xc 0 (args:=#[.pointer (some ⟨bs,6,none⟩),V0 1,V0 (s.blocks-1),P0 bl]) (Vf B Bx bs bl 6 7 _ s.details _ _ p6 c6 [1,s.tx,s.time,s.unit,s.data,s.blocks,s.top] _ hBm (Nat.le_trans hBx b7.size) (Nat.le_trans hBw b7.size) hBl b1 rfl f8 h2 (by decide)) ?_
 rintro _ W8 ⟨u8,p7,c7,rfl,i2,f7,g1,i8⟩
 have f0:World.ownsRow _ _ _ _ (.slice p7 8 c7) 8 ([1,s.tx,s.time,s.unit,s.data,s.blocks,s.top,s.details].flatMap Cn):=i8
 replace g1:Blk _ _ [.slice p7 8 c7] _:=g1
 have d8:=d7.only f7 (by decide)
 refine xb 22 2 d8 ?_
 have b5:=b1.only f7 (by decide)
 refine xb 9 4 b5 ?_
 refine xw 0 (s.blocks-1) ?_
 have a2:=b7.trans i2
 refine xc 0 (args:=#[.pointer (some ⟨bs,7,none⟩),V0 1,V0 (s.blocks-1),P0 bl]) (Vf B Bx bs bl 7 8 _ s.dslots _ _ p7 c7 [1,s.tx,s.time,s.unit,s.data,s.blocks,s.top,s.details] _ hBm (Nat.le_trans hBx a2.size) (Nat.le_trans hBw a2.size) hBl b5 rfl g1 f0 (by decide)) ?_
 rintro _ W9 ⟨u9,p8,c8,rfl,i7,f6,g7,i4⟩
 have g3:World.ownsRow _ _ _ _ (.slice p8 9 c8) 9 ([1,s.tx,s.time,s.unit,s.data,s.blocks,s.top,s.details,s.dslots].flatMap Cn):=i4
 replace g7:Blk _ _ [.slice p8 9 c8] _:=g7
 have e3:=d8.only f6 (by decide)
 refine xb 22 3 e3 ?_
 have a9:=b5.only f6 (by decide)
 refine xb 9 4 a9 ?_
 refine xw 0 (s.blocks-1) ?_
 have d1:=a2.trans i7
 refine xc 0 (args:=#[.pointer (some ⟨bs,8,none⟩),V0 1,V0 (s.blocks-1),P0 bl]) (Vf B Bx bs bl 8 9 _ s.dover _ _ p8 c8 [1,s.tx,s.time,s.unit,s.data,s.blocks,s.top,s.details,s.dslots] _ hBm (Nat.le_trans hBx d1.size) (Nat.le_trans hBw d1.size) hBl a9 rfl g7 g3 (by decide)) ?_
 rintro _ j8 ⟨k0,p9,c9,rfl,h1,b9,a4,j4⟩
 have g2:World.ownsRow _ _ _ _ (.slice p9 10 c9) 10 ([1,s.tx,s.time,s.unit,s.data,s.blocks,s.top,s.details,s.dslots,s.dover].flatMap Cn):=j4
 replace a4:Blk _ _ [.slice p9 10 c9] _:=a4
 have d5:=e3.only b9 (by decide)
 refine xb 22 4 d5 ?_
 have b4:=a9.only b9 (by decide)
 refine xb 9 4 b4 ?_
 refine xw 0 (s.blocks-1) ?_
 have b2:=d1.trans h1
 refine xc 0 (args:=#[.pointer (some ⟨bs,9,none⟩),V0 1,V0 (s.blocks-1),P0 bl]) (Vf B Bx bs bl 9 10 _ s.mindex _ _ p9 c9 [1,s.tx,s.time,s.unit,s.data,s.blocks,s.top,s.details,s.dslots,s.dover] _ hBm (Nat.le_trans hBx b2.size) (Nat.le_trans hBw b2.size) hBl b4 rfl a4 g2 (by decide)) ?_
 rintro _ k2 ⟨k3,h0,g4,rfl,h3,a6,a7,g9⟩
 have d6:World.ownsRow _ _ _ _ (.slice h0 11 g4) 11 ([1,s.tx,s.time,s.unit,s.data,s.blocks,s.top,s.details,s.dslots,s.dover,s.mindex].flatMap Cn):=g9
 replace a7:Blk _ _ [.slice h0 11 g4] _:=a7
 have e6:=d5.only a6 (by decide)
 refine xb 22 5 e6 ?_
 have a1:=b4.only a6 (by decide)
 refine xb 9 4 a1 ?_
 refine xw 0 (s.blocks-1) ?_
 have a0:=b2.trans h3
 refine xc 0 (args:=#[.pointer (some ⟨bs,10,none⟩),V0 1,V0 (s.blocks-1),P0 bl]) (Vf B Bx bs bl 10 11 _ s.mover _ _ h0 g4 [1,s.tx,s.time,s.unit,s.data,s.blocks,s.top,s.details,s.dslots,s.dover,s.mindex] _ hBm (Nat.le_trans hBx a0.size) (Nat.le_trans hBw a0.size) hBl a1 rfl a7 d6 (by decide)) ?_
 rintro _ k1 ⟨j9,h7,h6,rfl,e5,f2,b8,f1⟩
 have e4:World.ownsRow _ _ _ _ (.slice h7 12 h6) 12 ([1,s.tx,s.time,s.unit,s.data,s.blocks,s.top,s.details,s.dslots,s.dover,s.mindex,s.mover].flatMap Cn):=f1
 replace b8:Blk _ _ [.slice h7 12 h6] _:=b8
 have e0:=a0.trans e5
 have hO:=((((((((((((show Ze [135,111] w _ from i1).trans h5).trans h9).trans i0).trans h8).trans (Ze.of_below (Za W5))).trans (Ze.of_below n6.below)).trans f9).trans f7).trans f6).trans b9).trans a6).trans f2
 exact xe 19 (.tuple #[]) ⟨_,_,_,rfl,e0,hO,b8,e4⟩
theorem Zcv{N:List Int}{i:Nat}(h:i<N.length):Jy (N.take (i+1))=Jy (N.take i)++leB (N.getD i 0) 4:=by
 unfold Jy
 rw[List.take_succ_eq_append_getElem h,List.flatMap_append]
 simp[List.getD,h]
theorem byte_inj{x y:UInt8}(h:(x.toNat:Int)=(y.toNat:Int)):x=y:=UInt8.toNat_inj.1 (by omega)
theorem bytes_ne{a b:Bl}{i:Nat}(hi:i<a.length)(hl:a.length=b.length)(h:((a.getD i 0).toNat:Int)≠((b.getD i 0).toNat:Int)):(a==b)=false:=by
 apply beq_false_of_ne
 rintro rfl
 exact h rfl
theorem bytes_eq{a b:Bl}(hl:a.length=b.length)(h:∀ j,j<a.length→a.getD j 0=b.getD j 0):(a==b)=true:=by
 rw[beq_iff_eq]
 apply List.ext_getElem hl
 intro j h1 h2
 have:=h j h1
 simpa [List.getD,h1,h2] using this
theorem Dm(p q:O0)(c d:Nat)(a b:Bl)(w:World)(hl:a.length≤100000000)(h:Bys w (.slice p a.length c) a)(h2:Bys w (.slice q b.length d) b) :
 C0 87 #[.slice p a.length c,.slice q b.length d] w (Ret (.bool (a==b)) w):=by
 refine zin 26 Tryz.func87 ?_
 refine xin 15 (a.length:Int) (b.length:Int) (fun a6=>?_) (fun a6=>?_)
 ·refine xe 7 (.bool false) ?_
  rw[show(a==b)=false from beq_false_of_ne (fun q=>by subst q;simp at *)];exact⟨rfl,(B3 w)⟩
 have hB:=Below.refl w.heap.size w
 refine zl 11 26 (fun zm a3 V=>∃ (i:Nat),a3=[(0,.slice p a.length c),(1,.slice q b.length d),(12,V0 (a.length:Int)),(13,V0 (i:Int))]∧zm=a.length-((i:Int)).toNat∧B0 w V∧i≤a.length∧(∀ j,j<i→a.getD j 0=b.getD j 0)) ⟨0,rfl,rfl,hB,Nat.zero_le _,?_⟩ ?_
 ·exact fun j hj=>absurd hj (by omega)
 rintro _ _ W2 ⟨i,rfl,rfl,a1,hi,hz⟩ J2 a5 r2
 refine xid 6 ((i:Int)<(a.length:Int)) (fun a2=>?_) (fun a2=>?_)
 ·refine xd 11 .z ?_
  refine xx (.e [0,1] 2) _ a.length i 1 (Bys.elem h (k:=i) (by omega)).1 ?_
  have a0:=bln a1 (Za W2)
  refine xl (.e [] 3) ((Bys.elem (h.below a0) (k:=i) (by omega)).2) ?_
  refine xx (.e [4,5] 6) _ b.length i 1 (Bys.elem h2 (k:=i) (by omega)).1 ?_
  refine xl (.e [] 7) ((Bys.elem (h2.below a0) (k:=i) (by omega)).2) ?_
  refine xin (.r [8] 2) (↑(a.getD i 0).toNat:Int) (↑(b.getD i 0).toNat:Int) (fun a4=>?_) (fun a4=>?_)
  ·refine xe 11 (.bool false) ?_
   rw[bytes_ne (i:=i) (by omega) (by omega) (by assumption)];exact⟨rfl,a0⟩
  refine xwm 4 ((i:Int)+1) (↑(i+1):Int) ?_
  exact ze 2 (a5 _ _ _ ⟨i+1,rfl,rfl,a0,by omega,fun j hj=>(Nat.lt_or_ge j i).elim (hz j) (fun q=>by obtain rfl:j=i:=(by omega);exact byte_inj (by assumption))⟩ (by omega))
 refine xe 11 (.bool true) ?_
 rw[bytes_eq (by omega) (fun j hj=>hz j (by omega))];exact⟨rfl,a1⟩
theorem Bz(p q:O0)(c d m n:Nat)(a b:Bl)(w:World)(hm:a.length=m)(hn:b.length=n)(hl:m≤100000000)(h:Bys w (.slice p m c) a)(h2:Bys w (.slice q n d) b):C0 87 #[.slice p m c,.slice q n d] w (Ret (.bool (a==b)) w):=by
 subst hm hn;exact Dm p q c d a b w hl h h2
theorem Pack_4s(p:O0)(c:Nat)(N:List Int)(w:World)(hn2:N.length≤1000)(hN:∀ i,i<N.length→0≤N.getD i 0∧N.getD i 0<4294967296)(hF:Sts Cn w (.slice p N.length c) N) :
 C0 45 #[.slice p N.length c] w (Kg (fun w' r=>∃ q d,r=.tuple #[.slice q (N.length*4) d,V0 0]∧w'.ownsRow w.heap.size 5 1 (.slice q (N.length*4) d) (N.length*4) ((Jy N).map bv)) w):=by
 refine zin 32 Tryz.func45 ?_
 have hB:=Below.refl w.heap.size w
 refine zl 20 32 (fun zm b0 V=>∃ (i m:Nat) (q:O0) (d:Nat),b0=[(4,.slice q m d),(7,.slice p N.length c),(8,V0 (N.length:Int)),(9,V0 (i:Int))]∧zm=N.length-((i:Int)).toNat∧B0 w V∧V.ownsRow w.heap.size 5 1 (.slice q m d) m ((Jy (N.take i)).map bv)∧i≤N.length∧m=i*4) ⟨0,0,_,_,rfl,rfl,hB,World.ownsRow_nil _ _ _ _,Nat.zero_le _,rfl⟩ ?_
 rintro _ _ W1 ⟨i,m,q,d,rfl,rfl,a0,ho,hi,hm⟩ J1 b2 r1
 refine xid 6 ((i:Int)<(N.length:Int)) (fun b1=>?_) (fun b1=>?_)
 ·refine xx 6 _ N.length i 2 (Sts.cell hF Oy 0 (k:=i) (i:=0) (by omega) rfl).1 ?_
  refine xlv 0 (Sts.rp (k:=i) (hF.below a0) Oy 0 (by omega) (by decide)) ?_
  refine xa 0 [V0 0,V0 0] 111 fun b3 W3 n3=>?_
  have g3:=n3.ge a0
  refine xsv 0 n3.blk [V0 4,V0 (N.getD i 0)] fun W4 u4 k4=>?_
  refine xb 6 0 k4 ?_
  refine xr 0 (args:=#[V0 4]) (Dq _) fun W5 a5=>?_
  have a2:=k4.below a5
  refine xb 10 1 a2 ?_
  refine xb 1 0 a2 ?_
  refine xr 0 (args:=#[V0 (N.getD i 0),V0 4]) (Od (N.getD i 0) (hN i (by omega)).1 (hN i (by omega)).2 _) fun W6 a6=>?_
  have a3:=a2.below a6
  refine xb 9 1 a3 ?_
  refine xb 1 0 a3 ?_
  refine xc 0 (args:=#[V0 (N.getD i 0),V0 4]) (Em (N.getD i 0) (hN i (by omega)).1 _) ?_
  rintro _ W7 ⟨_,rfl,a9,h2⟩
  have b4:=(bln (bln (u4.below (bln a0 n3.below) g3) a5) a6).size
  have a1:=Zh h2 b4
  unfold Ud at a1
  rw[Zj] at a1
  obtain⟨p2,c2,rfl⟩:=(Zg a1).slice
  have a8:=Zb (Zb (Zb (u4.own2 (Zb ho n3.below) n3.blk (by decide)) a5) a6) a9
  have a4:=bln (bln (bln (u4.below (bln a0 n3.below) g3) a5) a6) a9
  refine xbi 0 fun _ _ _ _ zJ zQ zo zx zy zK=>Xk (m:=4) (news:=(leB (N.getD i 0) 4).map bv) (.int .u8 0) 1 1 (m+4) (((Jy (N.take (i+1))).map bv)) zo Tryz.underlying36 (by kernel_rfl) rfl (by decide) zx a8 zy (Zg a1) (by simp[Zj]) (Qt _) (by unfold maxLen;omega) (by omega) a4.size (by rfl) (by rw[Zcv (by omega),List.map_append]) fun b6 b7 W8 o8 b8 b5=>?_
  refine zK _ _ ?_
  refine xwm 5 ((i:Int)+1) (↑(i+1):Int) ?_
  have a7:=a4.trans b5
  exact ze 2 (b2 _ _ _ ⟨i+1,_,_,_,rfl,rfl,a7,o8,by omega,by omega⟩ (by omega))
 refine xe 13 (.tuple #[.slice q m d,V0 0]) ?_
 obtain rfl:i=N.length:=by omega
 rw[List.take_length] at ho
 subst hm
 exact⟨_,rfl,a0,_,_,rfl,ho⟩
theorem sup_put3(s:Sup):((Uc++List.replicate 236 (0:UInt8)).map bv).take 8++(Jy (1::Sw s)).map bv++((Uc++List.replicate 236 (0:UInt8)).map bv).drop (8+48)=(Aw s).map bv:=by
 unfold Aw
 rw[List.map_append (l₁:=Uc++Jy (1::Sw s)),List.map_append (l₁:=Uc) (l₂:=Jy (1::Sw s))]
 congr 1
theorem supN_bd{s:Sup}(h:Vt s=true):∀ i,i<(1::Sw s).length→0≤(1::Sw s).getD i 0∧(1::Sw s).getD i 0<4294967296:=by
 unfold Vt at h
 simp only[Bool.and_eq_true,decide_eq_true_iff,Bool.true_and] at h
 intro i hi
 have a0:i<12:=hi
 obtain rfl|rfl|rfl|rfl|rfl|rfl|rfl|rfl|rfl|rfl|rfl|rfl:i=0∨i=1∨i=2∨i=3∨i=4∨i=5∨i=6∨i=7∨i=8∨i=9∨i=10∨i=11:=by omega
 all_goals simp[Sw,List.getD]
 all_goals omega
theorem Tz(s:Sup)(w:World)(hb0:0≤s.blocks)(hb1:s.blocks<9223372036854775808)(hr:Vt s=false) :
 C0 86 #[.agg #[V0 s.tx,V0 s.time,V0 s.unit,V0 s.data,V0 s.blocks,V0 s.top,V0 s.details,V0 s.dslots,V0 s.dover,V0 s.mindex,V0 s.mover]] w (Ret (.tuple #[S0,V0 1]) w):=by
 refine zin 28 Tryz.func86 ?_
 refine xa 2 [V0 s.tx,V0 s.time,V0 s.unit,V0 s.data,V0 s.blocks,V0 s.top,V0 s.details,V0 s.dslots,V0 s.dover,V0 s.mindex,V0 s.mover] 58 fun b1 W1 n1=>?_
 refine xlv 7 n1.blk.rp ?_
 refine xr 0 (args:=#[.agg #[V0 s.tx,V0 s.time,V0 s.unit,V0 s.data,V0 s.blocks,V0 s.top,V0 s.details,V0 s.dslots,V0 s.dover,V0 s.mindex,V0 s.mover]]) (Rw s _ hb0 hb1) fun W2 a0=>?_
 refine xk 3 (show(!(Vt s):Bool)=true from by rw[hr];rfl) ?_
 have hB:=bln n1.below a0
 exact xe 8 (.tuple #[S0,V0 1]) ⟨rfl,hB⟩
theorem Zcy(s:Sup)(w:World)(hb0:0≤s.blocks)(hb1:s.blocks<9223372036854775808)(hr:Vt s=true) :
 C0 86 #[.agg #[V0 s.tx,V0 s.time,V0 s.unit,V0 s.data,V0 s.blocks,V0 s.top,V0 s.details,V0 s.dslots,V0 s.dover,V0 s.mindex,V0 s.mover]] w (Kg (fun w' r=>∃ p c,r=.tuple #[.slice p 244 c,V0 0]∧w'.ownsRow w.heap.size 5 1 (.slice p 244 c) 244 ((Aw s).map bv)) w):=by
 have hN:=supN_bd hr
 refine zin 28 Tryz.func86 ?_
 refine xa 2 [V0 s.tx,V0 s.time,V0 s.unit,V0 s.data,V0 s.blocks,V0 s.top,V0 s.details,V0 s.dslots,V0 s.dover,V0 s.mindex,V0 s.mover] 58 fun b1 W1 n1=>?_
 refine xlv 7 n1.blk.rp ?_
 refine xr 0 (args:=#[.agg #[V0 s.tx,V0 s.time,V0 s.unit,V0 s.data,V0 s.blocks,V0 s.top,V0 s.details,V0 s.dslots,V0 s.dover,V0 s.mindex,V0 s.mover]]) (Rw s _ hb0 hb1) fun W2 a3=>?_
 refine xk 3 (show(!(Vt s):Bool)=false from by rw[hr];rfl) ?_
 refine xbs 5 1 [V0 4,V0 1] 111 fun b3 W3 n3=>?_
 refine xa 0 [S0] 135 fun b4 W4 n4=>?_
 refine xs 0 n4.blk [.slice (S1 b3) 1 1] fun W5 u5 k5=>?_
 have g4:=n4.ge (bln (bln n1.below a3) n3.below)
 have k3:=u5.blkT (n3.blk.below n4.below) n4.blk (by decide)
 have g3:=n3.ge (bln n1.below a3)
 have a5:World.ownsRow W5 w.heap.size 111 2 (.slice (S1 b3) 1 1) 1 (([1]:List Int).flatMap Cn):=Xo (size:=2) (n:=1) k3 g3 rfl (by decide)
 have hB:=u5.below (bln (bln (bln n1.below a3) n3.below) n4.below) g4
 have a9:=u5.blkT (((n1.blk.below a3).below n3.below).below n4.below) n4.blk (by decide)
 refine xc 5 (args:=#[P0 b1,.func (.func 112) #[] #[P0 b4]]) (Fx w.heap.size w.heap.size b1 b4 s _ 1 _ (Nat.le_refl _) hB.size hB.size g4 hb0 hb1 a9 k5 a5) ?_
 rintro _ W6 ⟨u6,b7,b8,rfl,c0,d1,c9,b6⟩
 refine xb 4 0 c9 ?_
 refine xc 0 (args:=#[.slice b7 12 b8]) (Pack_4s b7 b8 (1::Sw s) _ (show 12≤1000 by decide) hN (Zg b6)) ?_
 rintro _ W7 ⟨_,rfl,c8,q2,d2,rfl,h2⟩
 have c5:=(hB.trans c0).size
 have b0:=Zh h2 c5
 replace h2:World.ownsRow _ _ _ _ (.slice q2 48 d2) 48 ((Jy (1::Sw s)).map bv):=b0
 have a6:=bln (hB.trans c0) c8
 have c1:=a6
 refine xmk 9 fun _ _ _ _ zJ zQ zo zx zy zK=>Jj 244 (.int .u8 0) 1 1 ((List.replicate 244 (0:UInt8)).map bv) zo zx zy Tryz.underlying36 (by kernel_rfl) rfl (by omega) (by omega) (On 244) fun b9 W9 n9=>?_
 refine zK _ _ ?_
 have o9:=Xo (size:=1) (n:=244) n9.blk (n9.ge (B3 W7)) (by rw[List.length_map,List.length_replicate]) (by unfold maxLen;omega)
 refine xbi 7 (t2:=9) fun _ _ _ _ zJ zQ zo zx zy zK=>Oz (dLen:=244) (dCap:=244) (off:=0) ([83,67,65,78,84,76,73,78]) (((Uc++List.replicate 236 (0:UInt8)).map bv)) zo Tryz.underlying36 (by kernel_rfl) zx zy o9 (by decide) (by decide) n9.below.size (by rfl) fun d0 c2 c4 a7=>?_
 refine zK _ _ ?_
 have a1:=Zg h2
 have a0:=n9.below.trans a7
 refine xbi 2 (t2:=36) fun _ _ _ _ zJ zQ zo zx zy zK=>Uj (dLen:=236) (dCap:=236) (off:=8) 48 ((Jy (1::Sw s)).map bv) (((Aw s).map bv)) zo Tryz.underlying36 (by kernel_rfl) zx zy (a1.below a0) c2 (by rw[List.length_map,Mu];rfl) (by decide) (by decide) (Qt _) a0.size (sup_put3 s) fun c3 c6 c7 b2=>?_
 refine zK _ _ ?_
 have b5:=a0.trans b2
 have a8:B0 W7 c3:=b5
 have a4:w.heap.size≤W7.heap.size:=c1.size
 have hB:=bln c1 a8
 have a2:=Zh c6 a4
 exact xe 10 (.tuple #[.slice (S1 b9) 244 244,V0 0]) ⟨_,rfl,hB,_,_,rfl,a2⟩
theorem readS_bd(l:Bl):0≤(Zf l).blocks∧(Zf l).blocks<9223372036854775808:=by
 have:=Qb l 28 4 (by decide)
 show 0≤(Zl l 28 4:Int)∧(Zl l 28 4:Int)<9223372036854775808
 omega
theorem sup_PutP(s:Sup)(w:World)(hb:0≤s.blocks∧s.blocks<9223372036854775808):C0 86 #[.agg #[V0 s.tx,V0 s.time,V0 s.unit,V0 s.data,V0 s.blocks,V0 s.top,V0 s.details,V0 s.dslots,V0 s.dover,V0 s.mindex,V0 s.mover]] w (fun e w' =>
 (Vt s=false∧e=.returned (.tuple #[S0,V0 1])∧B0 w w') ∨
 (Vt s=true∧∃ p c,e=.returned (.tuple #[.slice p 244 c,V0 0])∧B0 w w'∧w'.ownsRow w.heap.size 5 1 (.slice p 244 c) 244 ((Aw s).map bv))):=by
 cases hr:Vt s with
 | false =>
  refine(Tz s w hb.1 hb.2 hr).mono ?_
  rintro e W ⟨rfl,h⟩
  exact .inl ⟨rfl,rfl,h⟩
 | true =>
  refine(Zcy s w hb.1 hb.2 hr).mono ?_
  rintro e W ⟨_,rfl,h,p,c,rfl,ho⟩
  exact .inr ⟨rfl,p,c,rfl,h,ho⟩
def SupP(l:Bl)(w:World)(e:Ending)(w':World):Prop :=
 (Zei l=false∧e=.returned (.tuple #[.agg #[V0 0,V0 0,V0 0,V0 0,V0 0,V0 0,V0 0,V0 0,V0 0,V0 0,V0 0],V0 7])∧B0 w w')∨(Zei l=true∧e=.returned (.tuple #[.agg #[V0 ((Zf l).tx),V0 ((Zf l).time),V0 ((Zf l).unit),V0 ((Zf l).data),V0 ((Zf l).blocks),V0 ((Zf l).top),V0 ((Zf l).details),V0 ((Zf l).dslots),V0 ((Zf l).dover),V0 ((Zf l).mindex),V0 ((Zf l).mover)],V0 0])∧B0 w w')
theorem Fj{l:Bl}(hl:l.length=244):Zei l=((Aw (Zf l)==l)&&Vt (Zf l)):=by rw[supB_eq hl];rfl
theorem sup_Read(a:O0)(c:Nat)(l:Bl)(w:World)(hl:l.length=244)(h:Bys w (.slice a 244 c) l) :
 C0 63 #[.slice a 244 c] w (SupP l w):=by
 refine zin 29 Tryz.func63 ?_
 refine xa 2 [.slice a 244 c] 36 fun b1 W1 n1=>?_
 refine xa 0 [V0 0,V0 0,V0 0,V0 0,V0 0,V0 0,V0 0,V0 0,V0 0,V0 0,V0 0] 58 fun b2 W2 n2=>?_
 refine xa 5 [V0 0,V0 0,V0 0,V0 0,V0 0,V0 0,V0 0,V0 0,V0 0,V0 0,V0 0] 58 fun b3 W3 n3=>?_
 have c5:=n3.ne n2.blk
 have k1:=(n1.blk.below n2.below).below n3.below
 refine xb 5 0 k1 ?_
 refine xa 9 [V0 0] 3 fun b4 W4 n4=>?_
 refine xs 0 n4.blk [V0 12] fun W5 u5 k5=>?_
 have g4:=n4.ge (bln (bln n1.below n2.below) n3.below)
 have c0:=u5.blkT ((n2.blk.below n3.below).below n4.below) n4.blk (by decide)
 have c7:=c0
 have hB:=u5.below (bln (bln (bln n1.below n2.below) n3.below) n4.below) g4
 have k3:=u5.blkT (n3.blk.below n4.below) n4.blk (by decide)
 have a3:=u5.blkT (k1.below n4.below) n4.blk (by decide)
 have g3:=n3.ge (bln n1.below n2.below)
 refine xc 5 (args:=#[P0 b3,.func (.func 84) #[] #[P0 b1,P0 b4]]) (Dn b3 b3 b1 b4 a c l _ (by have:=n3.at_;have:=hB.size;have q:=(k3).lt;omega) (Nat.le_refl _) (by have q1:=n3.at_;have q2:=n3.size;have q3:=n4.at_;omega) k3 a3 k5 hl (fun W q=>h.below (hB.trans (q.mono g3)))) ?_
 rintro _ W6 ⟨u6,rfl,b0,d3,a9⟩
 have c2:=c7.below' b0 (by have q1:=n2.at_;have q2:=n2.size;have q3:=n3.at_;omega)
 replace a9:Blk _ _ [V0 ((Zf l).tx),V0 ((Zf l).time),V0 ((Zf l).unit),V0 ((Zf l).data),V0 ((Zf l).blocks),V0 ((Zf l).top),V0 ((Zf l).details),V0 ((Zf l).dslots),V0 ((Zf l).dover),V0 ((Zf l).mindex),V0 ((Zf l).mover)] _:=a9
 refine xlv 5 a9.rp ?_
 refine xc 0 (args:=#[.agg #[V0 ((Zf l).tx),V0 ((Zf l).time),V0 ((Zf l).unit),V0 ((Zf l).data),V0 ((Zf l).blocks),V0 ((Zf l).top),V0 ((Zf l).details),V0 ((Zf l).dslots),V0 ((Zf l).dover),V0 ((Zf l).mindex),V0 ((Zf l).mover)]]) (sup_PutP (Zf l) _ (readS_bd l)) ?_
 rintro e W7 d0
 rcases d0 with ⟨b9,rfl,a0⟩|⟨b9,p4,c4,rfl,a0,h4⟩
 ·have a4:=c2.below a0
  refine xsv 23 a4 [V0 0,V0 0,V0 0,V0 0,V0 0,V0 0,V0 0,V0 0,V0 0,V0 0,V0 0] fun W8 u8 k8=>?_
  have g2:=n2.ge n1.below
  have c1:=u8.below (bln (hB.trans (b0.mono g3)) a0) g2
  exact xec 5 k8 (.tuple #[.agg #[V0 0,V0 0,V0 0,V0 0,V0 0,V0 0,V0 0,V0 0,V0 0,V0 0,V0 0],V0 7]) (.inl ⟨by rw[Fj hl,b9];exact Bool.and_false _,rfl,c1⟩)
 have c8:=(hB.trans (b0.mono g3)).size
 have b6:=(a3.only d3 (by decide)).below a0
 refine xb 13 0 b6 ?_
 have b8:=Zh h4 c8
 have a1:=bln (hB.trans (b0.mono g3)) a0
 refine xr 0 (args:=#[.slice p4 244 c4,.slice a 244 c]) (Bz p4 a c4 c 244 244 (Aw (Zf l)) l _ (Zan _) hl (by decide) (Ka (Zg b8) (Zan _)) (h.below a1)) fun W9 a8=>?_
 refine xi 4 (!(Aw (Zf l)==l)) (fun a2=>?_) (fun a2=>?_)
 ·have b7:(Aw (Zf l)==l)=false:=by simpa using a2
  have a7:=(c2.below a0).below a8
  refine xsv 3 a7 [V0 0,V0 0,V0 0,V0 0,V0 0,V0 0,V0 0,V0 0,V0 0,V0 0,V0 0] fun d5 d1 c9=>?_
  have g2:=n2.ge n1.below
  have c3:=d1.below (bln a1 a8) g2
  exact xec 5 c9 (.tuple #[.agg #[V0 0,V0 0,V0 0,V0 0,V0 0,V0 0,V0 0,V0 0,V0 0,V0 0,V0 0],V0 7]) (.inl ⟨by rw[Fj hl,b7];rfl,rfl,c3⟩)
 have b7:(Aw (Zf l)==l)=true:=by simpa using a2
 have a5:=(a9.below a0).below a8
 refine xlv 4 a5.rp ?_
 have a6:=(c2.below a0).below a8
 refine xsv 0 a6 [V0 ((Zf l).tx),V0 ((Zf l).time),V0 ((Zf l).unit),V0 ((Zf l).data),V0 ((Zf l).blocks),V0 ((Zf l).top),V0 ((Zf l).details),V0 ((Zf l).dslots),V0 ((Zf l).dover),V0 ((Zf l).mindex),V0 ((Zf l).mover)] fun d4 d2 c6=>?_
 have g2:=n2.ge n1.below
 have b5:=d2.below (bln a1 a8) g2
 exact xec 4 c6 (.tuple #[.agg #[V0 ((Zf l).tx),V0 ((Zf l).time),V0 ((Zf l).unit),V0 ((Zf l).data),V0 ((Zf l).blocks),V0 ((Zf l).top),V0 ((Zf l).details),V0 ((Zf l).dslots),V0 ((Zf l).dover),V0 ((Zf l).mindex),V0 ((Zf l).mover)],V0 0]) (.inr ⟨by rw[Fj hl,b7,b9];rfl,rfl,b5⟩)
def Hw(l:Bl)(n:Nat):Int:=if Zei l then(if(n:Int)<(Zf l).blocks then 2 else 0) else 7
def Xj(l:Bl):Int:=if inE l 1 0=0 then Hw (inB l 0) (l.length/256) else inE l 1 0
def Sup1P(l:Bl)(n:Nat)(w:World)(e:Ending)(w':World):Prop :=
 (Hw l n≠0∧∃ s:Sup,e=.returned (.tuple #[.agg #[V0 s.tx,V0 s.time,V0 s.unit,V0 s.data,V0 s.blocks,V0 s.top,V0 s.details,V0 s.dslots,V0 s.dover,V0 s.mindex,V0 s.mover],V0 (Hw l n)])∧B0 w w')∨(Hw l n=0∧e=.returned (.tuple #[.agg #[V0 ((Zf l).tx),V0 ((Zf l).time),V0 ((Zf l).unit),V0 ((Zf l).data),V0 ((Zf l).blocks),V0 ((Zf l).top),V0 ((Zf l).details),V0 ((Zf l).dslots),V0 ((Zf l).dover),V0 ((Zf l).mindex),V0 ((Zf l).mover)],V0 0])∧B0 w w')
def Zem(l:Bl)(w:World)(e:Ending)(w':World):Prop :=
 (Xj l≠0∧∃ b,e=.returned (.tuple #[.agg #[V0 0,V0 0,V0 0,V0 0,V0 0,V0 0,V0 0,V0 0,V0 0,V0 0,V0 0],.iface 150 (P0 b)])∧B0 w w'∧Qw w' [some 0] (some (Xj l)) (.iface 150 (P0 b))) ∨
 (Xj l=0∧e=.returned (.tuple #[.agg #[V0 ((Zf (inB l 0)).tx),V0 ((Zf (inB l 0)).time),V0 ((Zf (inB l 0)).unit),V0 ((Zf (inB l 0)).data),V0 ((Zf (inB l 0)).blocks),V0 ((Zf (inB l 0)).top),V0 ((Zf (inB l 0)).details),V0 ((Zf (inB l 0)).dslots),V0 ((Zf (inB l 0)).dover),V0 ((Zf (inB l 0)).mindex),V0 ((Zf (inB l 0)).mover)],.nilIface])∧B0 w w')
def supZ:Sup:=⟨0,0,0,0,0,0,0,0,0,0,0⟩
theorem super_1(B b bm:Nat)(pi:O0)(ni ci:Nat)(li:Bl)(a:O0)(c:Nat)(l:Bl)(w:World)(hI:ImgR B b pi ni ci li w)(km:Blk w bm [P0 b] 34)(hl:l.length=244)(h:Bys w (.slice a 244 c) l) :
 C0 62 #[.slice a 244 c,P0 bm] w (Sup1P l (ni/256) w):=by
 have c8:=hI.hn
 refine zin 24 Tryz.func62 ?_
 refine xa 2 [V0 0,V0 0,V0 0,V0 0,V0 0,V0 0,V0 0,V0 0,V0 0,V0 0,V0 0] 58 fun b1 W1 n1=>?_
 refine xc 6 (args:=#[.slice a 244 c]) (sup_Read a c l _ hl (h.below n1.below)) ?_
 rintro e W2 c7
 rcases c7 with ⟨a3,rfl,a5⟩|⟨a3,rfl,a5⟩
 ·refine xa 3 [V0 0,V0 0,V0 0,V0 0,V0 0,V0 0,V0 0,V0 0,V0 0,V0 0,V0 0] 58 fun b3 W3 n3=>?_
  have k1:=n1.blk.below a5
  have a6:=n3.ne k1
  have a7:=bln n1.below a5
  have g3:=n3.ge a7
  refine xsv 0 n3.blk [V0 0,V0 0,V0 0,V0 0,V0 0,V0 0,V0 0,V0 0,V0 0,V0 0,V0 0] fun W4 u4 k4=>?_
  refine xd 5 .z ?_
  have c1:=k4.below (Za W4)
  refine xlv (.r [0,1,2,3,4,5,6,7,8] 7) c1.rp ?_
  have b8:=(u4.blk (k1.below n3.below) (Ne.symm (Ne.symm a6))).below (Za W4)
  refine xsv 1 b8 [V0 0,V0 0,V0 0,V0 0,V0 0,V0 0,V0 0,V0 0,V0 0,V0 0,V0 0] fun W5 u5 k5=>?_
  have g1:=n1.ge (B3 w)
  have a9:=u5.below (bln (u4.below (bln a7 n3.below) g3) (Za W4)) g1
  exact xec 4 k5 (.tuple #[.agg #[V0 0,V0 0,V0 0,V0 0,V0 0,V0 0,V0 0,V0 0,V0 0,V0 0,V0 0],V0 7]) (.inl ⟨by unfold Hw;rw[a3,if_neg (by decide)];decide,supZ,by unfold Hw;rw[a3,if_neg (by decide)];rfl,a9⟩)
 refine xa 3 [V0 0,V0 0,V0 0,V0 0,V0 0,V0 0,V0 0,V0 0,V0 0,V0 0,V0 0] 58 fun b6 W6 n6=>?_
 have k1:=n1.blk.below a5
 have a0:=n6.ne k1
 have a8:=bln n1.below a5
 have g6:=n6.ge a8
 refine xsv 0 n6.blk [V0 ((Zf l).tx),V0 ((Zf l).time),V0 ((Zf l).unit),V0 ((Zf l).data),V0 ((Zf l).blocks),V0 ((Zf l).top),V0 ((Zf l).details),V0 ((Zf l).dslots),V0 ((Zf l).dover),V0 ((Zf l).mindex),V0 ((Zf l).mover)] fun W7 u7 k7=>?_
 refine xd 5 .z ?_
 have a2:=k7.below (Za W7)
 refine xb (.e [0,1,2,3] 4) 4 a2 ?_
 have b4:=(u7.blkT (((km.below n1.below).below a5).below n6.below) n6.blk (by decide)).below (Za W7)
 refine xb (.e [] 5) 0 b4 ?_
 have a1:=bln (u7.below (bln a8 n6.below) g6) (Za W7)
 refine xr (.o [] 6) (args:=#[P0 b]) (Vo b _ ni ci _ (hI.below a1).blk (by omega)) fun W8 a4=>?_
 refine xid (.r [7,8] 2) ((Zf l).blocks>(↑(ni/256):Int)) (fun c5=>?_) (fun c5=>?_)
 ·have b5:=a2.below a4
  refine xlv 2 b5.rp ?_
  have b0:=((u7.blk (k1.below n6.below) (Ne.symm (Ne.symm a0))).below (Za W7)).below a4
  refine xsv 0 b0 [V0 ((Zf l).tx),V0 ((Zf l).time),V0 ((Zf l).unit),V0 ((Zf l).data),V0 ((Zf l).blocks),V0 ((Zf l).top),V0 ((Zf l).details),V0 ((Zf l).dslots),V0 ((Zf l).dover),V0 ((Zf l).mindex),V0 ((Zf l).mover)] fun d0 c3 c2=>?_
  have g1:=n1.ge (B3 w)
  have c0:=c3.below (bln a1 a4) g1
  exact xec 5 c2 (.tuple #[.agg #[V0 ((Zf l).tx),V0 ((Zf l).time),V0 ((Zf l).unit),V0 ((Zf l).data),V0 ((Zf l).blocks),V0 ((Zf l).top),V0 ((Zf l).details),V0 ((Zf l).dslots),V0 ((Zf l).dover),V0 ((Zf l).mindex),V0 ((Zf l).mover)],V0 2]) (.inl ⟨by unfold Hw;rw[if_pos a3,if_pos (by omega)];decide,Zf l,by unfold Hw;rw[if_pos a3,if_pos (by omega)],c0⟩)
 have b7:=a2.below a4
 refine xlv 4 b7.rp ?_
 have b9:=((u7.blk (k1.below n6.below) (Ne.symm (Ne.symm a0))).below (Za W7)).below a4
 refine xsv 1 b9 [V0 ((Zf l).tx),V0 ((Zf l).time),V0 ((Zf l).unit),V0 ((Zf l).data),V0 ((Zf l).blocks),V0 ((Zf l).top),V0 ((Zf l).details),V0 ((Zf l).dslots),V0 ((Zf l).dover),V0 ((Zf l).mindex),V0 ((Zf l).mover)] fun c9 c6 c4=>?_
 have g1:=n1.ge (B3 w)
 have b2:=c6.below (bln a1 a4) g1
 exact xec 4 c4 (.tuple #[.agg #[V0 ((Zf l).tx),V0 ((Zf l).time),V0 ((Zf l).unit),V0 ((Zf l).data),V0 ((Zf l).blocks),V0 ((Zf l).top),V0 ((Zf l).details),V0 ((Zf l).dslots),V0 ((Zf l).dover),V0 ((Zf l).mindex),V0 ((Zf l).mover)],V0 0]) (.inr ⟨by unfold Hw;rw[if_pos a3,if_neg (by omega)],rfl,b2⟩)
theorem Zdt(B b:Nat)(p:O0)(n c:Nat)(l:Bl)(w:World)(hI:ImgR B b p n c l w)(bt:Nat)(kt:Blk w bt [P0 b] 34) :
 C0 61 #[P0 b,V0 0,V0 1,.func (.func 62) #[] #[P0 bt]] w (Zem l w):=by
 refine zin 56 Tryz.func61 ?_
 refine xa 2 [V0 0,V0 0,V0 0,V0 0,V0 0,V0 0,V0 0,V0 0,V0 0,V0 0,V0 0] 58 fun b1 W1 n1=>?_
 refine xa 5 [V0 0,V0 0,V0 0,V0 0,V0 0,V0 0,V0 0,V0 0,V0 0,V0 0,V0 0] 58 fun b2 W2 n2=>?_
 have h4:=n2.ne n1.blk
 have hB:=bln n1.below n2.below
 refine xc 6 (args:=#[P0 b,V0 0]) (Cr B b p n c l 0 _ (hI.below hB)) ?_
 rintro e W3 h9
 rcases h9 with ⟨ho,vr,rfl,a0⟩|⟨j,hk,hj,p2,c2,rfl,a0,ho⟩
 ·refine xd 16 (.t w.heap.size [58]) ?_
  refine xm2 (.b [1,2,3]) 0 4 ?_ ?_
  ·have k2:=(n2.blk.below a0).below (Za W3)
   refine xlv 0 k2.rp ?_
   refine yc (.o [] 4) (args:=#[V0 0,.iface 26 (V0 3)]) (.t w.heap.size [58]) (Xs 0 3 _) ?_
   rintro _ W4 ⟨_,rfl,f3,e2⟩
   refine⟨(SF.of_below _ f3),?_⟩
   rw[if_neg (by decide),if_neg (by decide)] at e2
   have i6:=e2
   obtain⟨j5,k3,rfl,_,_⟩:=i6
   have c1:=(((n1.blk.below n2.below).below a0).below (Za W3)).below f3
   have g1:=n1.ge (B3 w)
   refine ysv (.o [] 5) c1 [V0 0,V0 0,V0 0,V0 0,V0 0,V0 0,V0 0,V0 0,V0 0,V0 0,V0 0] (.t w.heap.size [58]) fun W5 u5 k5=>⟨(Zw u5 c1 g1 (by decide)),?_⟩
   have f9:=u5.below (bln (bln (bln hB a0) (Za W3)) f3) g1
   have d4:=e2.upd u5 c1 (by decide)
   refine xec (.r [6] 4) k5 (.tuple #[.agg #[V0 0,V0 0,V0 0,V0 0,V0 0,V0 0,V0 0,V0 0,V0 0,V0 0,V0 0],.iface 150 (P0 j5)]) ?_
   have he:Xj l=3:=by unfold Xj;rw[Fa hI.len ho];rfl
   exact .inl ⟨by rw[he];decide,_,rfl,f9,by rw[he];exact d4⟩
  refine yc 0 (args:=#[V0 0,.iface 26 (V0 3)]) (.t w.heap.size [58]) (Xs 0 3 _) ?_
  rintro _ W6 ⟨_,rfl,e0,f0⟩
  refine⟨(SF.of_below _ e0),?_⟩
  rw[if_neg (by decide),if_neg (by decide)] at f0
  have i3:=f0
  obtain⟨j7,k8,rfl,_,_⟩:=i3
  have k2:=((n2.blk.below a0).below (Za W3)).below e0
  refine xlv (.o [] 0) k2.rp ?_
  have b9:=(((n1.blk.below n2.below).below a0).below (Za W3)).below e0
  have g1:=n1.ge (B3 w)
  refine ysv (.o [] 5) b9 [V0 0,V0 0,V0 0,V0 0,V0 0,V0 0,V0 0,V0 0,V0 0,V0 0,V0 0] (.t w.heap.size [58]) fun W7 u7 k7=>⟨(Zw u7 b9 g1 (by decide)),?_⟩
  have f5:=u7.below (bln (bln (bln hB a0) (Za W3)) e0) g1
  have d6:=f0.upd u7 b9 (by decide)
  refine xec (.r [6] 4) k7 (.tuple #[.agg #[V0 0,V0 0,V0 0,V0 0,V0 0,V0 0,V0 0,V0 0,V0 0,V0 0,V0 0],.iface 150 (P0 j7)]) ?_
  have he:Xj l=3:=by unfold Xj;rw[Fa hI.len ho];rfl
  exact .inl ⟨by rw[he];decide,_,rfl,f5,by rw[he];exact d6⟩
 have i1:=(bln n1.below n2.below).size
 have j4:j<l.length/256:=by rw[hI.len];exact hj
 have h1:=Kf j4
 have d9:=Zes (l:=l) (kind:=1) hI.len hk hj
 have g7:=Zh ho i1
 refine xc 22 (args:=#[.slice p2 256 c2,V0 1,V0 0]) (Cj 1 0 p2 256 c2 (Jb l j) _ h1 (Ka (Zg g7) h1)) ?_
 rintro e W8 j0
 rcases j0 with ⟨hs,rfl,a2⟩|⟨hs,p3,c3,rfl,a2,h3⟩
 ·refine xk 14 (show(((Yy 1 0 (Jb l j)) != (0:Int)):Bool)=true from bne_iff_ne.2 hs) ?_
  refine xd 1 (.t w.heap.size [58]) ?_
  refine xm2 (.b [1,2,3]) 0 4 ?_ ?_
  ·have k2:=((n2.blk.below a0).below a2).below (Za W8)
   refine xlv 0 k2.rp ?_
   refine yc (.o [] 4) (args:=#[V0 0,.iface 26 (V0 (Yy 1 0 (Jb l j)))]) (.t w.heap.size [58]) (Xs 0 (Yy 1 0 (Jb l j)) _) ?_
   rintro _ W9 ⟨_,rfl,e8,e5⟩
   refine⟨(SF.of_below _ e8),?_⟩
   rw[if_neg hs,if_neg hs] at e5
   have i7:=e5
   obtain⟨i8,l2,rfl,_,_⟩:=i7
   have c4:=((((n1.blk.below n2.below).below a0).below a2).below (Za W8)).below e8
   have g1:=n1.ge (B3 w)
   refine ysv (.o [] 5) c4 [V0 0,V0 0,V0 0,V0 0,V0 0,V0 0,V0 0,V0 0,V0 0,V0 0,V0 0] (.t w.heap.size [58]) fun k0 e9 j2=>⟨(Zw e9 c4 g1 (by decide)),?_⟩
   have g0:=e9.below (bln (bln (bln (bln hB a0) a2) (Za W8)) e8) g1
   have d8:=e5.upd e9 c4 (by decide)
   refine xec (.r [6] 4) j2 (.tuple #[.agg #[V0 0,V0 0,V0 0,V0 0,V0 0,V0 0,V0 0,V0 0,V0 0,V0 0,V0 0],.iface 150 (P0 i8)]) ?_
   have he:Xj l=Yy 1 0 (Jb l j):=by unfold Xj;rw[d9,if_neg hs]
   exact .inl ⟨by rw[he];exact hs,_,rfl,g0,by rw[he];exact d8⟩
  refine yc 0 (args:=#[V0 0,.iface 26 (V0 (Yy 1 0 (Jb l j)))]) (.t w.heap.size [58]) (Xs 0 (Yy 1 0 (Jb l j)) _) ?_
  rintro _ k6 ⟨_,rfl,a8,c7⟩
  refine⟨(SF.of_below _ a8),?_⟩
  rw[if_neg hs,if_neg hs] at c7
  have g5:=c7
  obtain⟨g4,i2,rfl,_,_⟩:=g5
  have k2:=(((n2.blk.below a0).below a2).below (Za W8)).below a8
  refine xlv (.o [] 0) k2.rp ?_
  have b6:=((((n1.blk.below n2.below).below a0).below a2).below (Za W8)).below a8
  have g1:=n1.ge (B3 w)
  refine ysv (.o [] 5) b6 [V0 0,V0 0,V0 0,V0 0,V0 0,V0 0,V0 0,V0 0,V0 0,V0 0,V0 0] (.t w.heap.size [58]) fun k4 e7 h5=>⟨(Zw e7 b6 g1 (by decide)),?_⟩
  have e1:=e7.below (bln (bln (bln (bln hB a0) a2) (Za W8)) a8) g1
  have b0:=c7.upd e7 b6 (by decide)
  refine xec (.r [6] 4) h5 (.tuple #[.agg #[V0 0,V0 0,V0 0,V0 0,V0 0,V0 0,V0 0,V0 0,V0 0,V0 0,V0 0],.iface 150 (P0 g4)]) ?_
  have he:Xj l=Yy 1 0 (Jb l j):=by unfold Xj;rw[d9,if_neg hs]
  exact .inl ⟨by rw[he];exact hs,_,rfl,e1,by rw[he];exact b0⟩
 have j3:=(bln hB a0).size
 have d7:=Zh h3 j3
 have h6:((Jb l j).drop 8).take 244=inB l 0:=(Zfe hk).symm
 have h0:=Zdg hI.len hk hj
 rw[h6] at d7
 have a6:=bln (bln hB a0) a2
 refine xc 21 (args:=#[.slice p3 244 c3,P0 bt]) (super_1 B b bt p n c l p3 c3 (inB l 0) _ (hI.below a6) (kt.below a6) h0 (Ka (Zg d7) h0)) ?_
 rintro e j9 f8
 rcases f8 with ⟨hz,s9,rfl,a1⟩|⟨hz,rfl,a1⟩
 ·refine xa 3 [V0 0,V0 0,V0 0,V0 0,V0 0,V0 0,V0 0,V0 0,V0 0,V0 0,V0 0] 58 fun l4 l8 a5=>?_
  have c0:=(((n1.blk.below n2.below).below a0).below a2).below a1
  have a4:=a5.ne c0
  have k2:=((n2.blk.below a0).below a2).below a1
  have a3:=a5.ne k2
  have c6:=bln a6 a1
  have h2:=a5.ge c6
  refine xsv 0 a5.blk [V0 s9.tx,V0 s9.time,V0 s9.unit,V0 s9.data,V0 s9.blocks,V0 s9.top,V0 s9.details,V0 s9.dslots,V0 s9.dover,V0 s9.mindex,V0 s9.mover] fun c9 d0 j8=>?_
  refine xk 10 (show(((Hw (inB l 0) (n/256)) != (0:Int)):Bool)=true from bne_iff_ne.2 hz) ?_
  refine xd 1 (.t w.heap.size [58]) ?_
  refine xm2 (.b [1,2,3]) 0 4 ?_ ?_
  ·have g3:=(d0.blk (k2.below a5.below) (Ne.symm (Ne.symm a3))).below (Za c9)
   refine xlv 0 g3.rp ?_
   refine yc (.o [] 4) (args:=#[V0 0,.iface 26 (V0 (Hw (inB l 0) (n/256)))]) (.t w.heap.size [58]) (Xs 0 (Hw (inB l 0) (n/256)) _) ?_
   rintro _ l0 ⟨_,rfl,b8,a9⟩
   refine⟨(SF.of_below _ b8),?_⟩
   rw[if_neg hz,if_neg hz] at a9
   have f1:=a9
   obtain⟨e6,h7,rfl,_,_⟩:=f1
   have b7:=((d0.blk (c0.below a5.below) (Ne.symm (Ne.symm a4))).below (Za c9)).below b8
   have g1:=n1.ge (B3 w)
   refine ysv (.o [] 5) b7 [V0 0,V0 0,V0 0,V0 0,V0 0,V0 0,V0 0,V0 0,V0 0,V0 0,V0 0] (.t w.heap.size [58]) fun l5 g8 j6=>⟨(Zw g8 b7 g1 (by decide)),?_⟩
   have e3:=g8.below (bln (bln (d0.below (bln c6 a5.below) h2) (Za c9)) b8) g1
   have b3:=a9.upd g8 b7 (by decide)
   refine xec (.r [6] 4) j6 (.tuple #[.agg #[V0 0,V0 0,V0 0,V0 0,V0 0,V0 0,V0 0,V0 0,V0 0,V0 0,V0 0],.iface 150 (P0 e6)]) ?_
   have he:Xj l=Hw (inB l 0) (n/256):=by unfold Xj;rw[d9,if_pos hs,hI.len]
   exact .inl ⟨by rw[he];exact hz,_,rfl,e3,by rw[he];exact b3⟩
  refine yc 0 (args:=#[V0 0,.iface 26 (V0 (Hw (inB l 0) (n/256)))]) (.t w.heap.size [58]) (Xs 0 (Hw (inB l 0) (n/256)) _) ?_
  rintro _ l6 ⟨_,rfl,a7,c5⟩
  refine⟨(SF.of_below _ a7),?_⟩
  rw[if_neg hz,if_neg hz] at c5
  have e4:=c5
  obtain⟨f7,i0,rfl,_,_⟩:=e4
  have g2:=((d0.blk (k2.below a5.below) (Ne.symm (Ne.symm a3))).below (Za c9)).below a7
  refine xlv (.o [] 0) g2.rp ?_
  have b4:=((d0.blk (c0.below a5.below) (Ne.symm (Ne.symm a4))).below (Za c9)).below a7
  have g1:=n1.ge (B3 w)
  refine ysv (.o [] 5) b4 [V0 0,V0 0,V0 0,V0 0,V0 0,V0 0,V0 0,V0 0,V0 0,V0 0,V0 0] (.t w.heap.size [58]) fun k9 f4 h8=>⟨(Zw f4 b4 g1 (by decide)),?_⟩
  have g6:=f4.below (bln (bln (d0.below (bln c6 a5.below) h2) (Za c9)) a7) g1
  have b5:=c5.upd f4 b4 (by decide)
  refine xec (.r [6] 4) h8 (.tuple #[.agg #[V0 0,V0 0,V0 0,V0 0,V0 0,V0 0,V0 0,V0 0,V0 0,V0 0,V0 0],.iface 150 (P0 f7)]) ?_
  have he:Xj l=Hw (inB l 0) (n/256):=by unfold Xj;rw[d9,if_pos hs,hI.len]
  exact .inl ⟨by rw[he];exact hz,_,rfl,g6,by rw[he];exact b5⟩
 refine xa 3 [V0 0,V0 0,V0 0,V0 0,V0 0,V0 0,V0 0,V0 0,V0 0,V0 0,V0 0] 58 fun l3 l1 d1=>?_
 have d3:=(((n1.blk.below n2.below).below a0).below a2).below a1
 have c8:=d1.ne d3
 have k2:=((n2.blk.below a0).below a2).below a1
 have f6:=d1.ne k2
 have d5:=bln a6 a1
 have i9:=d1.ge d5
 refine xsv 0 d1.blk [V0 ((Zf (inB l 0)).tx),V0 ((Zf (inB l 0)).time),V0 ((Zf (inB l 0)).unit),V0 ((Zf (inB l 0)).data),V0 ((Zf (inB l 0)).blocks),V0 ((Zf (inB l 0)).top),V0 ((Zf (inB l 0)).details),V0 ((Zf (inB l 0)).dslots),V0 ((Zf (inB l 0)).dover),V0 ((Zf (inB l 0)).mindex),V0 ((Zf (inB l 0)).mover)] fun k1 g9 j1=>?_
 refine xlv 15 j1.rp ?_
 have f2:=g9.blk (d3.below d1.below) (Ne.symm (Ne.symm c8))
 refine xsv 0 f2 [V0 ((Zf (inB l 0)).tx),V0 ((Zf (inB l 0)).time),V0 ((Zf (inB l 0)).unit),V0 ((Zf (inB l 0)).data),V0 ((Zf (inB l 0)).blocks),V0 ((Zf (inB l 0)).top),V0 ((Zf (inB l 0)).details),V0 ((Zf (inB l 0)).dslots),V0 ((Zf (inB l 0)).dover),V0 ((Zf (inB l 0)).mindex),V0 ((Zf (inB l 0)).mover)] fun l7 i5 i4=>?_
 have g1:=n1.ge (B3 w)
 have d2:=i5.below (g9.below (bln d5 d1.below) i9) g1
 exact xec 4 i4 (.tuple #[.agg #[V0 ((Zf (inB l 0)).tx),V0 ((Zf (inB l 0)).time),V0 ((Zf (inB l 0)).unit),V0 ((Zf (inB l 0)).data),V0 ((Zf (inB l 0)).blocks),V0 ((Zf (inB l 0)).top),V0 ((Zf (inB l 0)).details),V0 ((Zf (inB l 0)).dslots),V0 ((Zf (inB l 0)).dover),V0 ((Zf (inB l 0)).mindex),V0 ((Zf (inB l 0)).mover)],.nilIface]) (.inr ⟨by unfold Xj;rw[d9,if_pos hs,hI.len,hz],rfl,d2⟩)
theorem Aj(B b:Nat)(p:O0)(n c:Nat)(l:Bl)(w:World)(hI:ImgR B b p n c l w) :
 C0 40 #[P0 b] w (Zem l w):=by
 refine zin 9 Tryz.func40 ?_
 refine xa 2 [P0 b] 34 fun b1 W1 n1=>?_
 refine xa 0 [V0 0,V0 0,V0 0,V0 0,V0 0,V0 0,V0 0,V0 0,V0 0,V0 0,V0 0] 58 fun b2 W2 n2=>?_
 have k1:=n1.blk.below n2.below
 refine xb 5 0 k1 ?_
 have hB:=bln n1.below n2.below
 refine xc 1 (args:=#[P0 b,V0 0,V0 1,.func (.func 62) #[] #[P0 b1]]) (Zdt B b p n c l _ (hI.below hB) b1 k1) ?_
 rintro e W3 a4
 rcases a4 with ⟨he,bf,rfl,a0,hv⟩|⟨he,rfl,a0⟩
 ·have k2:=n2.blk.below a0
  refine xsv 2 k2 [V0 0,V0 0,V0 0,V0 0,V0 0,V0 0,V0 0,V0 0,V0 0,V0 0,V0 0] fun W4 u4 k4=>?_
  have g2:=n2.ge n1.below
  have a3:=u4.below (bln hB a0) g2
  have a1:=hv.upd u4 k2 (by decide)
  exact xec 4 k4 (.tuple #[.agg #[V0 0,V0 0,V0 0,V0 0,V0 0,V0 0,V0 0,V0 0,V0 0,V0 0,V0 0],.iface 150 (P0 bf)]) (.inl ⟨he,_,rfl,a3,a1⟩)
 have k2:=n2.blk.below a0
 refine xsv 2 k2 [V0 ((Zf (inB l 0)).tx),V0 ((Zf (inB l 0)).time),V0 ((Zf (inB l 0)).unit),V0 ((Zf (inB l 0)).data),V0 ((Zf (inB l 0)).blocks),V0 ((Zf (inB l 0)).top),V0 ((Zf (inB l 0)).details),V0 ((Zf (inB l 0)).dslots),V0 ((Zf (inB l 0)).dover),V0 ((Zf (inB l 0)).mindex),V0 ((Zf (inB l 0)).mover)] fun W5 u5 k5=>?_
 have g2:=n2.ge n1.below
 have a2:=u5.below (bln hB a0) g2
 exact xec 4 k5 (.tuple #[.agg #[V0 ((Zf (inB l 0)).tx),V0 ((Zf (inB l 0)).time),V0 ((Zf (inB l 0)).unit),V0 ((Zf (inB l 0)).data),V0 ((Zf (inB l 0)).blocks),V0 ((Zf (inB l 0)).top),V0 ((Zf (inB l 0)).details),V0 ((Zf (inB l 0)).dslots),V0 ((Zf (inB l 0)).dover),V0 ((Zf (inB l 0)).mindex),V0 ((Zf (inB l 0)).mover)],.nilIface]) (.inr ⟨he,rfl,a2⟩)
def Ra(l:Bl)(fuel:Int):List Int×Int×List Dv:=if Xj l≠0 then([0],Xj l,[]) else Qp l (Zf (inB l 0)).top (Zf (inB l 0)).details (Zf (inB l 0)).data fuel
theorem Fz{l:Bl}{fuel:Int}(h:Xj l≠0):Ra l fuel=([0],Xj l,[]):=if_pos h
theorem Ww{l:Bl}{fuel:Int}(h:Xj l=0):Ra l fuel=Qp l (Zf (inB l 0)).top (Zf (inB l 0)).details (Zf (inB l 0)).data fuel:=if_neg (fun q=>q h)
def Ze3(O:List Int×Int×List Dv)(S:Sup)(w:World)(e:Ending)(w':World):Prop :=
 (O.2.1≠0∧∃ ty v,e=.returned (.tuple #[.agg #[V0 0,V0 0,V0 0,V0 0,S0],.agg #[V0 0,V0 0,V0 0,V0 0,V0 0,V0 0,V0 0,V0 0,V0 0,V0 0,V0 0],.iface ty v])∧B0 w w'∧Qw w' (O.1.map some) (some O.2.1) (.iface ty v)) ∨
 (O.2.1=0∧∃ p c Z,e=.returned (.tuple #[.agg #[V0 S.tx,V0 S.time,V0 S.unit,V0 S.data,.slice p O.2.2.length c],.agg #[V0 S.tx,V0 S.time,V0 S.unit,V0 S.data,V0 S.blocks,V0 S.top,V0 S.details,V0 S.dslots,V0 S.dover,V0 S.mindex,V0 S.mover],.nilIface])∧B0 w w'∧Wa O w' p c Z)
theorem Rd{O:List Int×Int×List Dv}{S:Sup}{bl:List Int}{er:Int}{L:List Dv}{w W:World}{ty:TypeId}{v:Value}(h:O=(bl,er,L))(her:er≠0)(hb:B0 w W)(hv:Qw W (bl.map some) (some er) (.iface ty v)):Ze3 O S w (.returned (.tuple #[.agg #[V0 0,V0 0,V0 0,V0 0,S0],.agg #[V0 0,V0 0,V0 0,V0 0,V0 0,V0 0,V0 0,V0 0,V0 0,V0 0,V0 0],.iface ty v])) W:=by
 subst h;exact .inl ⟨her,ty,v,rfl,hb,hv⟩
theorem lpool_ok{O O':List Int×Int×List Dv}{S:Sup}{w W:World}{p:O0}{c:Nat}{Z:List Zv}(h:O=O')(her:O'.2.1=0)(hb:B0 w W)(hD:Wa O' W p c Z):Ze3 O S w (.returned (.tuple #[.agg #[V0 S.tx,V0 S.time,V0 S.unit,V0 S.data,.slice p O'.2.2.length c],.agg #[V0 S.tx,V0 S.time,V0 S.unit,V0 S.data,V0 S.blocks,V0 S.top,V0 S.details,V0 S.dslots,V0 S.dover,V0 S.mindex,V0 S.mover],.nilIface])) W:=by
 subst h;exact .inr ⟨her,p,c,Z,rfl,hb,hD⟩
theorem Zge(Bi b:Nat)(pi:O0)(ni ci:Nat)(l:Bl)(fuel:Int)(w:World)(hI:ImgR Bi b pi ni ci l w)(hfu:fuel≤1000) :
 C0 17 #[P0 b,V0 fuel] w (Ze3 (Ra l fuel) (Zf (inB l 0)) w):=by
 refine zin 48 Tryz.func17 ?_
 refine xa 2 [V0 0,V0 0,V0 0,V0 0,S0] 24 fun b1 W1 n1=>?_
 refine xa 0 [V0 0,V0 0,V0 0,V0 0,V0 0,V0 0,V0 0,V0 0,V0 0,V0 0,V0 0] 58 fun b2 W2 n2=>?_
 have hB:=bln n1.below n2.below
 refine xc 6 (args:=#[P0 b]) (Aj Bi b pi ni ci l _ (hI.below hB)) ?_
 rintro e W3 d6
 rcases d6 with ⟨a8,bs,rfl,a3,d0⟩|⟨a8,rfl,a3⟩
 ·refine xa 3 [V0 0,V0 0,V0 0,V0 0,V0 0,V0 0,V0 0,V0 0,V0 0,V0 0,V0 0] 58 fun b4 W4 n4=>?_
  have k2:=n2.blk.below a3
  have b0:=n4.ne k2
  have b5:=bln hB a3
  have g4:=n4.ge b5
  refine xsv 0 n4.blk [V0 0,V0 0,V0 0,V0 0,V0 0,V0 0,V0 0,V0 0,V0 0,V0 0,V0 0] fun W5 u5 k5=>?_
  have k1:=u5.blkT (((n1.blk.below n2.below).below a3).below n4.below) n4.blk (by decide)
  refine xsv 16 k1 [V0 0,V0 0,V0 0,V0 0,S0] fun W6 u6 k6=>?_
  have g1:=n1.ge (B3 w)
  have a5:=u6.blkT (u5.blk (k2.below n4.below) (Ne.symm (Ne.symm b0))) k1 (by decide)
  refine xsv 0 a5 [V0 0,V0 0,V0 0,V0 0,V0 0,V0 0,V0 0,V0 0,V0 0,V0 0,V0 0] fun W7 u7 k7=>?_
  have g2:=n2.ge n1.below
  have c1:=(((d0.below n4.below).only (Ze.of_upd (T:=[58]) u5 n4.blk (by decide)) (by decide)).only (Ze.of_upd (T:=[24]) u6 k1 (by decide)) (by decide)).only (Ze.of_upd (T:=[58]) u7 a5 (by decide)) (by decide)
  have c5:=u7.below (u6.below (u5.below (bln b5 n4.below) g4) g1) g2
  have c6:=u7.blkT k6 a5 (by decide)
  exact xecm 5 [(b1,[V0 0,V0 0,V0 0,V0 0,S0]),(b2,[V0 0,V0 0,V0 0,V0 0,V0 0,V0 0,V0 0,V0 0,V0 0,V0 0,V0 0])] ⟨⟨_,c6⟩,⟨_,k7⟩,trivial⟩ (.tuple #[.agg #[V0 0,V0 0,V0 0,V0 0,S0],.agg #[V0 0,V0 0,V0 0,V0 0,V0 0,V0 0,V0 0,V0 0,V0 0,V0 0,V0 0],.iface 150 (P0 bs)]) (Rd (Fz a8) a8 c5 c1)
 refine xa 3 [V0 0,V0 0,V0 0,V0 0,V0 0,V0 0,V0 0,V0 0,V0 0,V0 0,V0 0] 58 fun b8 W8 n8=>?_
 have k2:=n2.blk.below a3
 have a0:=n8.ne k2
 have b9:=bln hB a3
 have g8:=n8.ge b9
 refine xsv 0 n8.blk [V0 (((Zf (inB l 0))).tx),V0 (((Zf (inB l 0))).time),V0 (((Zf (inB l 0))).unit),V0 (((Zf (inB l 0))).data),V0 (((Zf (inB l 0))).blocks),V0 (((Zf (inB l 0))).top),V0 (((Zf (inB l 0))).details),V0 (((Zf (inB l 0))).dslots),V0 (((Zf (inB l 0))).dover),V0 (((Zf (inB l 0))).mindex),V0 (((Zf (inB l 0))).mover)] fun W9 u9 k9=>?_
 refine xb 17 5 k9 ?_
 refine xb 1 6 k9 ?_
 refine xb 1 3 k9 ?_
 have a4:=u9.below (bln b9 n8.below) g8
 refine xc 1 (args:=#[P0 b,V0 (((Zf (inB l 0))).top),V0 (((Zf (inB l 0))).details),V0 (((Zf (inB l 0))).data),V0 fuel]) (Ds Bi b pi ni ci l (Zf (inB l 0)).top (Zf (inB l 0)).details (Zf (inB l 0)).data fuel _ (hI.below a4) hfu) ?_
 rintro e b6 c8
 rcases c8 with ⟨c4,d9,v9,rfl,a2,d0⟩|⟨c4,p9,c9,Z9,rfl,a2,d8⟩
 ·have k1:=(u9.blkT (((n1.blk.below n2.below).below a3).below n8.below) n8.blk (by decide)).below a2
  refine xsv 20 k1 [V0 0,V0 0,V0 0,V0 0,S0] fun e2 d1 d7=>?_
  have g1:=n1.ge (B3 w)
  have a7:=d1.blkT ((u9.blk (k2.below n8.below) (Ne.symm (Ne.symm a0))).below a2) k1 (by decide)
  refine xsv 0 a7 [V0 0,V0 0,V0 0,V0 0,V0 0,V0 0,V0 0,V0 0,V0 0,V0 0,V0 0] fun e1 d3 d4=>?_
  have g2:=n2.ge n1.below
  have a9:=(d0.only (Ze.of_upd (T:=[24]) d1 k1 (by decide)) (by decide)).only (Ze.of_upd (T:=[58]) d3 a7 (by decide)) (by decide)
  have d2:=d3.below (d1.below (bln a4 a2) g1) g2
  have b3:=d3.blkT d7 a7 (by decide)
  exact xecm 5 [(b1,[V0 0,V0 0,V0 0,V0 0,S0]),(b2,[V0 0,V0 0,V0 0,V0 0,V0 0,V0 0,V0 0,V0 0,V0 0,V0 0,V0 0])] ⟨⟨_,b3⟩,⟨_,d4⟩,trivial⟩ (.tuple #[.agg #[V0 0,V0 0,V0 0,V0 0,S0],.agg #[V0 0,V0 0,V0 0,V0 0,V0 0,V0 0,V0 0,V0 0,V0 0,V0 0,V0 0],.iface d9 (v9)]) (Rd (Ww a8) c4 d2 a9)
 refine xd 18 (.f w.heap.size [b1,b2]) ?_
 have a1:=(k9.below a2).below (Za b6)
 have k1:=((u9.blkT (((n1.blk.below n2.below).below a3).below n8.below) n8.blk (by decide)).below a2).below (Za b6)
 refine xlt (.e [0] 1) (.f w.heap.size [b1,b2]) (fun V hV=>(a1.fr hV.2 (by simp only[List.mem_cons,List.not_mem_nil,or_false];rintro(h|h);exact(Blk.tne a1 k1 (by decide)) h;exact(Ne.symm a0) h)).cell (i:=0) rfl) ?_
 refine xlt (.e [2] 3) (.f w.heap.size [b1,b2]) (fun V hV=>(a1.fr hV.2 (by simp only[List.mem_cons,List.not_mem_nil,or_false];rintro(h|h);exact(Blk.tne a1 k1 (by decide)) h;exact(Ne.symm a0) h)).cell (i:=1) rfl) ?_
 refine xlt (.e [4] 5) (.f w.heap.size [b1,b2]) (fun V hV=>(a1.fr hV.2 (by simp only[List.mem_cons,List.not_mem_nil,or_false];rintro(h|h);exact(Blk.tne a1 k1 (by decide)) h;exact(Ne.symm a0) h)).cell (i:=2) rfl) ?_
 refine xlt (.e [6] 7) (.f w.heap.size [b1,b2]) (fun V hV=>(a1.fr hV.2 (by simp only[List.mem_cons,List.not_mem_nil,or_false];rintro(h|h);exact(Blk.tne a1 k1 (by decide)) h;exact(Ne.symm a0) h)).cell (i:=3) rfl) ?_
 refine xlvt (.e [8,9] 10) (.f w.heap.size [b1,b2]) (fun V hV=>(a1.fr hV.2 (by simp only[List.mem_cons,List.not_mem_nil,or_false];rintro(h|h);exact(Blk.tne a1 k1 (by decide)) h;exact(Ne.symm a0) h)).rp) ?_
 have g1:=n1.ge (B3 w)
 refine ysv (.o [] 11) k1 [V0 (((Zf (inB l 0))).tx),V0 (((Zf (inB l 0))).time),V0 (((Zf (inB l 0))).unit),V0 (((Zf (inB l 0))).data),.slice p9 ((Qp l (Zf (inB l 0)).top (Zf (inB l 0)).details (Zf (inB l 0)).data fuel).2.2.length) c9] (.f w.heap.size [b1,b2]) fun e3 c3 d5=>⟨(Zc7 c3 g1 (by simp)),?_⟩
 have a6:=c3.blkT (((u9.blk (k2.below n8.below) (Ne.symm (Ne.symm a0))).below a2).below (Za b6)) k1 (by decide)
 have g2:=n2.ge n1.below
 refine ysv (.o [] 12) a6 [V0 (((Zf (inB l 0))).tx),V0 (((Zf (inB l 0))).time),V0 (((Zf (inB l 0))).unit),V0 (((Zf (inB l 0))).data),V0 (((Zf (inB l 0))).blocks),V0 (((Zf (inB l 0))).top),V0 (((Zf (inB l 0))).details),V0 (((Zf (inB l 0))).dslots),V0 (((Zf (inB l 0))).dover),V0 (((Zf (inB l 0))).mindex),V0 (((Zf (inB l 0))).mover)] (.f w.heap.size [b1,b2]) fun e4 c2 e0=>⟨(Zc7 c2 g2 (by simp)),?_⟩
 have c0:=((d8.below (Za b6)).only (Ze.of_upd (T:=[24]) c3 k1 (by decide)) (by decide)).only (Ze.of_upd (T:=[58]) c2 a6 (by decide)) (by decide)
 have c7:=c2.below (c3.below (bln (bln a4 a2) (Za b6)) g1) g2
 have b7:=c2.blkT d5 a6 (by decide)
 exact xecm (.r [13] 3) [(b1,[V0 (((Zf (inB l 0))).tx),V0 (((Zf (inB l 0))).time),V0 (((Zf (inB l 0))).unit),V0 (((Zf (inB l 0))).data),.slice p9 ((Qp l (Zf (inB l 0)).top (Zf (inB l 0)).details (Zf (inB l 0)).data fuel).2.2.length) c9]),(b2,[V0 (((Zf (inB l 0))).tx),V0 (((Zf (inB l 0))).time),V0 (((Zf (inB l 0))).unit),V0 (((Zf (inB l 0))).data),V0 (((Zf (inB l 0))).blocks),V0 (((Zf (inB l 0))).top),V0 (((Zf (inB l 0))).details),V0 (((Zf (inB l 0))).dslots),V0 (((Zf (inB l 0))).dover),V0 (((Zf (inB l 0))).mindex),V0 (((Zf (inB l 0))).mover)])] ⟨⟨_,b7⟩,⟨_,e0⟩,trivial⟩ (.tuple #[.agg #[V0 (((Zf (inB l 0))).tx),V0 (((Zf (inB l 0))).time),V0 (((Zf (inB l 0))).unit),V0 (((Zf (inB l 0))).data),.slice p9 ((Qp l (Zf (inB l 0)).top (Zf (inB l 0)).details (Zf (inB l 0)).data fuel).2.2.length) c9],.agg #[V0 (((Zf (inB l 0))).tx),V0 (((Zf (inB l 0))).time),V0 (((Zf (inB l 0))).unit),V0 (((Zf (inB l 0))).data),V0 (((Zf (inB l 0))).blocks),V0 (((Zf (inB l 0))).top),V0 (((Zf (inB l 0))).details),V0 (((Zf (inB l 0))).dslots),V0 (((Zf (inB l 0))).dover),V0 (((Zf (inB l 0))).mindex),V0 (((Zf (inB l 0))).mover)],.nilIface]) (lpool_ok (Ww a8) c4 c7 c0)
structure MapsOk(data:Int)(M:List Mp):Prop where
 rise:M.Pairwise (fun x y=>x.1<y.1)
 each:∀ m∈M,(0≤m.1∧m.1≤281474976710655)∧(0≤m.2.1∧m.2.1<data)∧0≤m.2.2∧m.2.2≤16777215
theorem MapsOk.nil(data:Int):MapsOk data []:=⟨.nil,fun _ h=>by cases h⟩
structure DevOk(data:Int)(d:Dv):Prop where
 id:0≤d.1.1∧d.1.1≤16777215
 tx:0≤d.1.2.1∧d.1.2.1≤2147483647
 made:0≤d.1.2.2.1∧d.1.2.2.1≤16777215
 snap:0≤d.1.2.2.2∧d.1.2.2.2≤16777215
 maps:MapsOk data d.2
def Nc(L:List Dv):Nat:=(L.map fun d=>d.2.length).sum
structure DevsOk(data:Int)(L:List Dv):Prop where
 few:L.length≤4096
 sum:Nc L≤16384
 rise:L.Pairwise (fun x y=>x.1.1<y.1.1)
 each:∀ d∈L,DevOk data d
theorem DevsOk.nil(data:Int):DevsOk data []:=⟨by decide,by decide,.nil,fun _ h=>by cases h⟩
theorem Re(l:Bl)(root tree fuel:Int):Ox 0 281474976710656 (Zd l root tree fuel).es:=by
 obtain⟨es,fs,h⟩:=Jq l root tree fuel
 have h1:(Zd l root tree fuel).es=es:=by rw[h.esE];rfl
 rw[h1];exact h.rise
theorem Az{es:List Ent}{data:Int}(h:Ox 0 281474976710656 es):MapsOk data (Ea es data).2.2:=by
 unfold Ea
 split
 ·exact .nil _
 ·rename_i hf
  rw[List.find?_eq_none] at hf
  refine⟨?_,fun m hm=>?_⟩
  ·show(es.map Zcl).Pairwise _
   rw[List.pairwise_map];exact h.1
  ·obtain⟨x,hx,rfl⟩:=List.mem_map.1 hm
   have hk:=h.2 x hx
   obtain⟨i,hi,rfl⟩:=List.getElem_of_mem hx
   have he:=hf i (List.mem_range.2 hi)
   have e1:es.getD i Zm=es[i]:=by simp[List.getD,hi]
   rw[e1] at he
   have hb:=mapB_bd es[i].2.1
   have hq:Fd data es[i].2.1=0:=by simpa using he
   unfold Fd at hq
   split at hq
   ·rename_i h1;exact absurd hq h1
   ·split at hq
    ·exact absurd hq (by decide)
    ·rename_i h2
     unfold Zcl
     refine⟨⟨hk.1,by show es[i].1≤_;omega⟩,⟨Int.natCast_nonneg _,by show(Ni es[i].2.1:Int)<data;omega⟩,Int.natCast_nonneg _,by show(Bw es[i].2.1:Int)≤_;omega⟩
theorem Tm(l:Bl)(root data fuel:Int):MapsOk data (Su l root data fuel).2.2:=by
 unfold Su
 split
 ·exact .nil _
 ·exact Az (Re _ _ _ _)
theorem detV_bd{v:Bl}(h:Xt Ku v=0):Yk v 1≤2147483647∧Yk v 2≤16777215∧Yk v 3≤16777215:=by
 have hr:Gb Ku v=true:=by
  unfold Xt at h
  split at h
  ·split at h
   ·assumption
   ·simp at h
  ·simp at h
 unfold Yk Yr
 rw[if_pos h]
 unfold Gb Uh at hr
 rw[List.all_eq_true] at hr
 have e:∀ i,i<4→((Jt Ku v).map fun n:Nat=>(n:Int)).getD i 0=(((Jt Ku v).getD i 0:Nat):Int):=fun i hi=>by
  simp[List.getD,show i<(Jt Ku v).length by rw[Uz];exact hi]
 have h1:=of_decide_eq_true (hr 1 (List.mem_range.2 (by decide)))
 have h2:=of_decide_eq_true (hr 2 (List.mem_range.2 (by decide)))
 have h3:=of_decide_eq_true (hr 3 (List.mem_range.2 (by decide)))
 rw[e _ (by decide)] at h1 h2 h3
 have a1:(((Jt Ku v).getD 1 0:Nat):Int)≤2147483647:=h1.2
 have a2:(((Jt Ku v).getD 2 0:Nat):Int)≤16777215:=h2.2
 have a3:(((Jt Ku v).getD 3 0:Nat):Int)≤16777215:=h3.2
 omega
theorem Ft{l:Bl}{x y:Ent}{data fuel:Int}{sum:Nat}(h:(Nh l x y data fuel sum).2=0):x.1≤16777215∧Xt Ku x.2.1=0∧sum+(Vm l y data fuel).2.2.length≤16384:=by
 unfold Nh at h
 split at h
 ·exact absurd h (show ¬ (9:Int)=0 by decide)
 split at h
 ·rename_i h1;exact absurd h h1
 split at h
 ·rename_i h1;exact absurd h h1
 split at h
 ·rename_i h1;exact absurd h h1
 split at h
 ·exact absurd h (show ¬ (13:Int)=0 by decide)
 split at h
 ·exact absurd h (show ¬ (2:Int)=0 by decide)
 rename_i h1 h2 h3 h4 h5 h6
 exact⟨by omega,Classical.not_not.1 h2,by omega⟩
theorem Ov(l:Bl)(D T:List Ent)(data fuel:Int):∀ i,Nc (Zgk l D T data fuel i)=sumL l T data fuel i
 | 0=>rfl
 | i+1=>by
  have ih:=Ov l D T data fuel i
  unfold Nc at ih ⊢
  rw[Be,List.map_append,List.sum_append,ih]
  simp[sumL,devX]
theorem Tc{l:Bl}{D T:List Ent}{data fuel:Int}(hD:Ox 0 281474976710656 D)(hl:D.length≤4096):DevsOk data (Sr l D T data fuel).2.2:=by
 unfold Sr
 split
 ·exact .nil _
 ·rename_i hf
  rw[List.find?_eq_none] at hf
  have hz:∀ i,i<D.length→(Nh l (D.getD i Zm) (T.getD i Zm) data fuel (sumL l T data fuel i)).2=0:=fun i hi=>by simpa [Zd9] using hf i (List.mem_range.2 hi)
  refine⟨by show(Zgk l D T data fuel D.length).length≤_;rw[devL_len];exact hl,?_,?_,fun d hd=>?_⟩
  ·show Nc (Zgk l D T data fuel D.length)≤_
   rw[Ov]
   cases hn:D.length with
   | zero=>exact(by decide:(0:Nat)≤16384)
   | succ n=>exact(Ft (hz n (by omega))).2.2
  ·show((List.range D.length).map _).Pairwise _
   rw[List.pairwise_map,List.pairwise_iff_getElem]
   intro i j hi hj a0
   rw[List.length_range] at hi hj
   rw[List.getElem_range,List.getElem_range]
   have:=List.pairwise_iff_getElem.1 hD.1 i j hi hj a0
   show(D.getD i Zm).1<(D.getD j Zm).1
   rw[show D.getD i Zm=D[i] from by simp[List.getD,hi],show D.getD j Zm=D[j] from by simp[List.getD,hj]]
   exact this
  ·obtain⟨i,hi,rfl⟩:=List.mem_map.1 hd
   have hi:=List.mem_range.1 hi
   obtain⟨a,b,c⟩:=Ft (hz i hi)
   have hk:=hD.2 (D.getD i Zm) (by rw[show D.getD i Zm=D[i] from by simp[List.getD,hi]];exact List.getElem_mem hi)
   obtain⟨b1,b2,b3⟩:=detV_bd b
   exact⟨⟨hk.1,a⟩,⟨Int.natCast_nonneg _,by show(Yk (D.getD i Zm).2.1 1:Int)≤_;omega⟩,⟨Int.natCast_nonneg _,by show(Yk (D.getD i Zm).2.1 2:Int)≤_;omega⟩,⟨Int.natCast_nonneg _,by show(Yk (D.getD i Zm).2.1 3:Int)≤_;omega⟩,Tm _ _ _ _⟩
theorem Tq(l:Bl)(top details data fuel:Int):DevsOk data (Qp l top details data fuel).2.2:=by
 unfold Qp
 split
 ·exact .nil _
 split
 ·exact .nil _
 split
 ·exact .nil _
 split
 ·exact .nil _
 split
 ·exact .nil _
 exact Tc (Re _ _ _ _) (by omega)
def inZ (n lo hi:Int):Bool:=decide (lo≤n∧n≤hi)
theorem inZ_t{n lo hi:Int}:inZ n lo hi=true↔lo≤n∧n≤hi:=decide_eq_true_iff
def dvE (d:Dv)(last:Int):Int:=if inZ d.1.1 0 16777215&&(inZ d.1.2.1 0 2147483647&&(inZ d.1.2.2.1 0 16777215&&inZ d.1.2.2.2 0 16777215)) then(if d.1.1≤last then 8 else 0) else 2
def mpE (data:Int)(m:Mp)(last:Int):Int:=if inZ m.1 0 281474976710655&&(inZ m.2.1 0 (data-1)&&inZ m.2.2 0 16777215) then(if m.1≤last then 8 else 0) else 2
def Cc(data:Int):List Mp→Int→Int
 | [],_=>0
 | m::r,last=>if mpE data m last≠0 then mpE data m last else Cc data r m.1
def Zc6(data:Int):List Dv→Int→Int
 | [],_=>0
 | d::r,last=>if dvE d last≠0 then dvE d last else if Cc data d.2 (-1)≠0 then Cc data d.2 (-1) else Zc6 data r d.1.1
def Zba(tx time unit data:Int)(L:List Dv):Int :=
 if(inZ tx 0 2147483647&&inZ time 0 16777215)&&(inZ unit 1 65536&&inZ data 0 65536) then(if 4096<L.length∨16384<Nc L then 2 else Zc6 data L (-1)) else 2
theorem mpE_2{data:Int}{m:Mp}{last:Int}(h:(inZ m.1 0 281474976710655&&(inZ m.2.1 0 (data-1)&&inZ m.2.2 0 16777215))=false):mpE data m last=2:=if_neg (by rw[h];decide)
theorem mpE_8{data:Int}{m:Mp}{last:Int}(h:(inZ m.1 0 281474976710655&&(inZ m.2.1 0 (data-1)&&inZ m.2.2 0 16777215))=true)(h2:m.1≤last):mpE data m last=8:=(if_pos h).trans (if_pos h2)
theorem mpE_0{data:Int}{m:Mp}{last:Int}(h:(inZ m.1 0 281474976710655&&(inZ m.2.1 0 (data-1)&&inZ m.2.2 0 16777215))=true)(h2:¬ m.1≤last):mpE data m last=0:=(if_pos h).trans (if_neg h2)
theorem dvE_2{d:Dv}{last:Int}(h:(inZ d.1.1 0 16777215&&(inZ d.1.2.1 0 2147483647&&(inZ d.1.2.2.1 0 16777215&&inZ d.1.2.2.2 0 16777215)))=false):dvE d last=2:=if_neg (by rw[h];decide)
theorem dvE_8{d:Dv}{last:Int}(h:(inZ d.1.1 0 16777215&&(inZ d.1.2.1 0 2147483647&&(inZ d.1.2.2.1 0 16777215&&inZ d.1.2.2.2 0 16777215)))=true)(h2:d.1.1≤last):dvE d last=8:=(if_pos h).trans (if_pos h2)
theorem dvE_0{d:Dv}{last:Int}(h:(inZ d.1.1 0 16777215&&(inZ d.1.2.1 0 2147483647&&(inZ d.1.2.2.1 0 16777215&&inZ d.1.2.2.2 0 16777215)))=true)(h2:¬ d.1.1≤last):dvE d last=0:=(if_pos h).trans (if_neg h2)
theorem mpE_ok{data:Int}{m:Mp}{last:Int}:mpE data m last=0↔((0≤m.1∧m.1≤281474976710655)∧(0≤m.2.1∧m.2.1<data)∧0≤m.2.2∧m.2.2≤16777215)∧last<m.1:=by
 unfold mpE
 simp only[Bool.and_eq_true,inZ_t]
 split
 ·split
  ·exact⟨fun h=>absurd h (by decide),fun h=>by omega⟩
  ·exact⟨fun _=>by omega,fun _=>rfl⟩
 ·exact⟨fun h=>absurd h (by decide),fun h=>by omega⟩
theorem dvE_ok{d:Dv}{last:Int}:dvE d last=0↔((0≤d.1.1∧d.1.1≤16777215)∧(0≤d.1.2.1∧d.1.2.1≤2147483647)∧(0≤d.1.2.2.1∧d.1.2.2.1≤16777215)∧0≤d.1.2.2.2∧d.1.2.2.2≤16777215)∧last<d.1.1:=by
 unfold dvE
 simp only[Bool.and_eq_true,inZ_t]
 split
 ·split
  ·exact⟨fun h=>absurd h (by decide),fun h=>by omega⟩
  ·exact⟨fun _=>by omega,fun _=>rfl⟩
 ·exact⟨fun h=>absurd h (by decide),fun h=>by omega⟩
theorem Ig{data:Int}:∀ {M:List Mp} {last:Int},Cc data M last=0↔MapsOk data M∧∀ m∈M,last<m.1
 | [],last=>⟨fun _=>⟨.nil _,fun _ h=>by cases h⟩,fun _=>rfl⟩
 | m::r,last=>by
  have ih:=@Ig data r m.1
  show(if mpE data m last≠0 then mpE data m last else Cc data r m.1)=0↔_
  by_cases h:mpE data m last=0
  ·rw[if_neg (fun q=>q h),ih]
   have h2:=mpE_ok.1 h
   constructor
   ·rintro⟨a,b⟩
    refine⟨⟨.cons b a.rise,fun x hx=>?_⟩,fun x hx=>?_⟩
    ·rcases List.mem_cons.1 hx with rfl|hx
     ·exact h2.1
     ·exact a.each x hx
    ·rcases List.mem_cons.1 hx with rfl|hx
     ·exact h2.2
     ·have:=b x hx;omega
   ·rintro⟨a,_⟩
    obtain⟨c1,c2⟩:=List.pairwise_cons.1 a.rise
    exact⟨⟨c2,fun x hx=>a.each x (List.mem_cons_of_mem _ hx)⟩,c1⟩
  ·rw[if_pos h]
   exact⟨fun q=>absurd q h,fun q=>absurd (mpE_ok.2 ⟨q.1.each m (List.mem_cons_self ..),q.2 m (List.mem_cons_self ..)⟩) h⟩
theorem Zex{data:Int}:∀ {L:List Dv} {last:Int},Zc6 data L last=0↔(L.Pairwise (fun x y=>x.1.1<y.1.1)∧∀ d∈L,DevOk data d)∧∀ d∈L,last<d.1.1
  | [],last=>⟨fun _=>⟨⟨.nil,fun _ h=>by cases h⟩,fun _ h=>by cases h⟩,fun _=>rfl⟩
  | d :: r, last => by
    have ih:=@Zex data r d.1.1
    show(if dvE d last≠0 then dvE d last else if Cc data d.2 (-1)≠0 then Cc data d.2 (-1) else Zc6 data r d.1.1)=0↔_
    by_cases h:dvE d last=0
    · rw[if_neg (fun q=>q h)]
      have h2:=dvE_ok.1 h
      by_cases g:Cc data d.2 (-1)=0
      · rw[if_neg (fun q=>q g),ih]
        have g2:=Ig.1 g
        constructor
        · rintro⟨⟨a1,a2⟩,b⟩
          refine⟨⟨.cons b a1,fun x hx=>?_⟩,fun x hx=>?_⟩
          · rcases List.mem_cons.1 hx with rfl|hx
            · exact⟨h2.1.1,h2.1.2.1,h2.1.2.2.1,h2.1.2.2.2,g2.1⟩
            · exact a2 x hx
          · rcases List.mem_cons.1 hx with rfl|hx
            · exact h2.2
            · have:=b x hx;omega
        · rintro⟨⟨a1,a2⟩,_⟩
          obtain⟨c1,c2⟩:=List.pairwise_cons.1 a1
          exact⟨⟨c2,fun x hx=>a2 x (List.mem_cons_of_mem _ hx)⟩,c1⟩
      · rw[if_pos g]
        refine⟨fun q=>absurd q g,fun q=>absurd (Ig.2 ⟨(q.1.2 d (List.mem_cons_self ..)).maps,fun m hm=>?_⟩) g⟩
        have:=(q.1.2 d (List.mem_cons_self ..)).maps.each m hm;omega
    · rw[if_pos h]
      refine⟨fun q=>absurd q h,fun q=>absurd (dvE_ok.2 ⟨?_,q.2 d (List.mem_cons_self ..)⟩) h⟩
      have:=q.1.2 d (List.mem_cons_self ..)
      exact⟨this.id,this.tx,this.made,this.snap⟩
structure PoolOk(tx time unit data:Int)(L:List Dv):Prop where
 htx:0≤tx∧tx≤2147483647
 htime:0≤time∧time≤16777215
 hunit:1≤unit∧unit≤65536
 hdata:0≤data∧data≤65536
 devs:DevsOk data L
theorem poolE_ok{tx time unit data:Int}{L:List Dv}:Zba tx time unit data L=0↔PoolOk tx time unit data L:=by
 unfold Zba
 simp only[Bool.and_eq_true,inZ_t]
 split
 ·rename_i h
  split
  ·rename_i g
   refine⟨fun q=>absurd q (by decide),fun q=>?_⟩
   have a:=q.devs.few
   have b:=q.devs.sum
   omega
  ·rename_i g
   rw[Zex]
   constructor
   ·rintro⟨⟨a,b⟩,_⟩
    exact⟨h.1.1,h.1.2,h.2.1,h.2.2,by omega,by omega,a,b⟩
   ·intro q
    exact⟨⟨q.devs.rise,q.devs.each⟩,fun d hd=>by have:=(q.devs.each d hd).id;omega⟩
 ·rename_i h
  exact⟨fun q=>absurd q (by decide),fun q=>absurd ⟨⟨q.htx,q.htime⟩,q.hunit,q.hdata⟩ h⟩
theorem Zdr{L:List Dv}{n:Nat}(h:n<L.length){x:Dv}:Nc (L.take (n+1))=Nc (L.take n)+(L.getD n x).2.length:=by
 unfold Nc
 rw[List.take_succ_eq_append_getElem h,List.map_append,List.sum_append]
 simp[List.getD,h]
theorem Gg{data:Int}{M:List Mp}{i:Nat}{x:Mp}{last:Int}(h:i<M.length):Cc data (M.drop i) last=if mpE data (M.getD i x) last≠0 then mpE data (M.getD i x) last else Cc data (M.drop (i+1)) (M.getD i x).1:=by
 rw[List.drop_eq_getElem_cons h,show M.getD i x=M[i] from by simp[List.getD,h]];rfl
theorem mpsE_end{data:Int}{M:List Mp}{i:Nat}{last:Int}(h:M.length≤i):Cc data (M.drop i) last=0:=by
 rw[List.drop_eq_nil_of_le h];rfl
theorem Zdx{data:Int}{L:List Dv}{i:Nat}{x:Dv}{last:Int}(h:i<L.length):Zc6 data (L.drop i) last=if dvE (L.getD i x) last≠0 then dvE (L.getD i x) last else if Cc data (L.getD i x).2 (-1)≠0 then Cc data (L.getD i x).2 (-1) else Zc6 data (L.drop (i+1)) (L.getD i x).1.1:=by
 rw[List.drop_eq_getElem_cons h,show L.getD i x=L[i] from by simp[List.getD,h]];rfl
theorem dvsE_end{data:Int}{L:List Dv}{i:Nat}{last:Int}(h:L.length≤i):Zc6 data (L.drop i) last=0:=by
 rw[List.drop_eq_nil_of_le h];rfl
theorem Hf(n lo hi:Int)(w:World) :
 C0 20 #[V0 n,V0 lo,V0 hi] w (Ret (.bool (inZ n lo hi)) w):=by
 refine zin 15 Tryz.func20 ?_
 refine xg 11 [9,10] (decide (lo≤n)) (fun a0=>?_) (fun a0=>?_)
 ·have a0:=of_decide_eq_true a0
  exact xe 8 (.bool (decide (n≤hi))) ⟨by rw[show inZ n lo hi=decide (n≤hi) from by unfold inZ;exact decide_eq_decide.2 (by omega)],(B3 w)⟩
 have a0:=of_decide_eq_false a0
 exact xe 8 (.bool false) ⟨by rw[show inZ n lo hi=false from decide_eq_false (by omega)],(B3 w)⟩
theorem Um(t:Int)(w:World) :
 C0 44 #[V0 t] w (Ret (.bool !(inZ t 0 16777215)) w):=by
 refine zin 6 Tryz.func44 ?_
 refine xr 8 (args:=#[V0 t,V0 0,V0 16777215]) (Hf t 0 16777215 _) fun W1 a0=>?_
 exact xe 5 (.bool (!(inZ t 0 16777215))) ⟨rfl,a0⟩
theorem indexT1(t:Int)(b:Nat)(w:World)(k:Blk w b [V0 t] 3) :
 C0 65 #[.slice (S1 b) 1 1,.func (.func 44) #[] #[]] w ((fun e w'=>((inZ t 0 16777215)=true∧e=.returned (V0 (-1))∧B0 w w')∨((inZ t 0 16777215)=false∧∃ i:Nat,e=.returned (V0 (i:Int))∧B0 w w'))):=by
 refine zin 19 Tryz.func65 ?_
 refine xu 14 2 ?_
 refine xb 23 0 k ?_
 refine xr 0 (args:=#[V0 t]) (Um t _) fun W1 a0=>?_
 refine xi 2 (!(inZ t 0 16777215)) (fun a1=>?_) (fun a1=>?_)
 ·exact xe 12 (V0 0) (.inr ⟨by simp_all,0,rfl,a0⟩)
 exact xe 26 (V0 (-1)) (.inl ⟨by simp_all,rfl,a0⟩)
theorem Zbi(t:Int)(b:Nat)(w:World)(k:Blk w b [V0 t] 3) :
 C0 43 #[.slice (S1 b) 1 1,.func (.func 44) #[] #[]] w (Ret (.bool !(inZ t 0 16777215)) w):=by
 refine zin 9 Tryz.func43 ?_
 refine xc 9 (args:=#[.slice (S1 b) 1 1,.func (.func 44) #[] #[]]) (indexT1 t b _ k) ?_
 rintro e W1 a1
 rcases a1 with ⟨hz,rfl,a0⟩|⟨hz,i0,rfl,a0⟩
 ·exact xe 5 (.bool false) ⟨by first|(rw[hz];rfl)|(rw[hz,decide_eq_true (by omega)];rfl),a0⟩
 exact xe 5 (.bool (decide ((i0:Int)≥(0:Int)))) ⟨by first|(rw[hz];rfl)|(rw[hz,decide_eq_true (by omega)];rfl),a0⟩
theorem Fv(tx:Int)(t:Int)(b:Nat)(w:World)(k:Blk w b [V0 t] 3) :
 C0 19 #[V0 tx,.slice (S1 b) 1 1] w (Ret (.bool ((inZ tx 0 2147483647)&&(inZ t 0 16777215))) w):=by
 refine zin 12 Tryz.func19 ?_
 refine xr 8 (args:=#[V0 tx,V0 0,V0 2147483647]) (Hf tx 0 2147483647 _) fun W1 a0=>?_
 refine xg 1 [6,7] (inZ tx 0 2147483647) (fun a3=>?_) (fun a3=>?_)
 ·have a2:=k.below a0
  refine xr 1 (args:=#[.slice (S1 b) 1 1,.func (.func 44) #[] #[]]) (Zbi t b _ a2) fun W3 a1=>?_
  have hB:=bln a0 a1
  exact xe 6 (.bool (!(!(inZ t 0 16777215)))) ⟨by simp_all,hB⟩
 exact xe 8 (.bool false) ⟨by simp_all,a0⟩
theorem indexT2(t u:Int)(b:Nat)(w:World)(k:Blk w b [V0 t,V0 u] 3) :
 C0 65 #[.slice (S1 b) 2 2,.func (.func 44) #[] #[]] w ((fun e w'=>(((inZ t 0 16777215)&&(inZ u 0 16777215))=true∧e=.returned (V0 (-1))∧B0 w w')∨(((inZ t 0 16777215)&&(inZ u 0 16777215))=false∧∃ i:Nat,e=.returned (V0 (i:Int))∧B0 w w'))):=by
 refine zin 19 Tryz.func65 ?_
 refine xu 14 3 ?_
 refine xb 23 0 k ?_
 refine xr 0 (args:=#[V0 t]) (Um t _) fun W1 a0=>?_
 refine xi 2 (!(inZ t 0 16777215)) (fun a3=>?_) (fun a3=>?_)
 ·exact xe 12 (V0 0) (.inr ⟨by simp_all,0,rfl,a0⟩)
 have a2:=k.below a0
 refine xb 31 1 a2 ?_
 refine xr 0 (args:=#[V0 u]) (Um u _) fun W3 a1=>?_
 refine xi 2 (!(inZ u 0 16777215)) (fun a4=>?_) (fun a4=>?_)
 ·have hB:=bln a0 a1
  exact xe 12 (V0 1) (.inr ⟨by simp_all,1,rfl,hB⟩)
 have hB:=bln a0 a1
 exact xe 26 (V0 (-1)) (.inl ⟨by simp_all,rfl,hB⟩)
theorem Zcd(t u:Int)(b:Nat)(w:World)(k:Blk w b [V0 t,V0 u] 3) :
 C0 43 #[.slice (S1 b) 2 2,.func (.func 44) #[] #[]] w (Ret (.bool !((inZ t 0 16777215)&&(inZ u 0 16777215))) w):=by
 refine zin 9 Tryz.func43 ?_
 refine xc 9 (args:=#[.slice (S1 b) 2 2,.func (.func 44) #[] #[]]) (indexT2 t u b _ k) ?_
 rintro e W1 a1
 rcases a1 with ⟨hz,rfl,a0⟩|⟨hz,i0,rfl,a0⟩
 ·exact xe 5 (.bool false) ⟨by first|(rw[hz];rfl)|(rw[hz,decide_eq_true (by omega)];rfl),a0⟩
 exact xe 5 (.bool (decide ((i0:Int)≥(0:Int)))) ⟨by first|(rw[hz];rfl)|(rw[hz,decide_eq_true (by omega)];rfl),a0⟩
theorem Fo(tx:Int)(t u:Int)(b:Nat)(w:World)(k:Blk w b [V0 t,V0 u] 3) :
 C0 19 #[V0 tx,.slice (S1 b) 2 2] w (Ret (.bool ((inZ tx 0 2147483647)&&((inZ t 0 16777215)&&(inZ u 0 16777215)))) w):=by
 refine zin 12 Tryz.func19 ?_
 refine xr 8 (args:=#[V0 tx,V0 0,V0 2147483647]) (Hf tx 0 2147483647 _) fun W1 a0=>?_
 refine xg 1 [6,7] (inZ tx 0 2147483647) (fun a3=>?_) (fun a3=>?_)
 ·have a2:=k.below a0
  refine xr 1 (args:=#[.slice (S1 b) 2 2,.func (.func 44) #[] #[]]) (Zcd t u b _ a2) fun W3 a1=>?_
  have hB:=bln a0 a1
  exact xe 6 (.bool (!(!((inZ t 0 16777215)&&(inZ u 0 16777215))))) ⟨by simp_all,hB⟩
 exact xe 8 (.bool false) ⟨by simp_all,a0⟩
theorem Ia(d:Dv)(last:Int)(a:O0)(n c:Nat)(w:World) :
 C0 21 #[.agg #[V0 d.1.1,V0 d.1.2.1,V0 d.1.2.2.1,V0 d.1.2.2.2,.slice a n c],V0 last] w (Ret (V0 (dvE d last)) w):=by
 refine zin 26 Tryz.func21 ?_
 refine xa 2 [V0 d.1.1,V0 d.1.2.1,V0 d.1.2.2.1,V0 d.1.2.2.2,.slice a n c] 40 fun b1 W1 n1=>?_
 refine xb 8 0 n1.blk ?_
 refine xr 0 (args:=#[V0 d.1.1,V0 0,V0 16777215]) (Hf d.1.1 0 16777215 _) fun W2 a3=>?_
 refine xg 2 [9,10] (!(inZ d.1.1 0 16777215)) (fun a0=>?_) (fun a0=>?_)
 ·have a0:=Ro a0
  have hB:=bln n1.below a3
  exact xe 22 (V0 2) ⟨by rw[dvE_2 (by rw[a0];rfl)],hB⟩
 have a0:=Rc a0
 have a1:=n1.blk.below a3
 refine xb 1 1 a1 ?_
 refine xb 1 2 a1 ?_
 refine xb 1 3 a1 ?_
 refine xbs 0 2 [V0 d.1.2.2.1,V0 d.1.2.2.2] 3 fun b4 W4 n4=>?_
 refine xr 0 (args:=#[V0 d.1.2.1,.slice (S1 b4) 2 2]) (Fo d.1.2.1 d.1.2.2.1 d.1.2.2.2 b4 _ n4.blk) fun W5 a4=>?_
 refine xi 5 (!((inZ d.1.2.1 0 2147483647)&&((inZ d.1.2.2.1 0 16777215)&&(inZ d.1.2.2.2 0 16777215)))) (fun a2=>?_) (fun a2=>?_)
 ·have a2:=Ro a2
  have hB:=bln (bln (bln n1.below a3) n4.below) a4
  exact xe 8 (V0 2) ⟨by rw[dvE_2 (by rw[a0,a2];rfl)],hB⟩
 have a2:=Rc a2
 have a5:=(a1.below n4.below).below a4
 refine xb 3 0 a5 ?_
 refine xid 5 (d.1.1≤last) (fun a6=>?_) (fun a6=>?_)
 ·have hB:=bln (bln (bln n1.below a3) n4.below) a4
  exact xe 8 (V0 8) ⟨by rw[dvE_8 (by rw[a0,a2];rfl) (by omega)],hB⟩
 have hB:=bln (bln (bln n1.below a3) n4.below) a4
 exact xe 9 (V0 0) ⟨by rw[dvE_0 (by rw[a0,a2];rfl) (by omega)],hB⟩
theorem Il(a:O0)(c:Nat)(L:List Mp)(data:Int)(w:World)(hd:0≤data∧data≤65536)(ha:Sts Uf w (.slice a L.length c) L) :
 C0 22 #[.slice a L.length c,V0 data] w (Ret (V0 (Cc data L (-1))) w):=by
 have c1:=Sl.len ha
 refine zin 41 Tryz.func22 ?_
 have hB:=Below.refl w.heap.size w
 refine zl 19 41 (fun zm b9 V=>∃ (i:Nat) (a4:Int),b9=[(1,V0 data),(5,V0 a4),(8,.slice a L.length c),(9,V0 (L.length:Int)),(10,V0 (i:Int))]∧zm=L.length-((i:Int)).toNat∧B0 w V∧i≤L.length∧Cc data L (-1)=Cc data (L.drop i) a4) ⟨0,(-1),rfl,rfl,hB,Nat.zero_le _,rfl⟩ ?_
 rintro _ _ W1 ⟨i,a4,rfl,rfl,a1,hi,he⟩ J1 b8 r1
 refine xid 6 ((i:Int)<(L.length:Int)) (fun c0=>?_) (fun c0=>?_)
 ·refine xx 6 _ L.length i 3 (Sts.cell ha Je mpD (k:=i) (i:=0) (by omega) rfl).1 ?_
  refine xlv 0 (Sts.rp (k:=i) (ha.below a1) Je mpD (by omega) (by decide)) ?_
  refine xa 0 [V0 0,V0 0,V0 0] 42 fun b3 W3 n3=>?_
  have g3:=n3.ge a1
  refine xsv 0 n3.blk [V0 ((L.getD i mpD).1),V0 ((L.getD i mpD).2.1),V0 ((L.getD i mpD).2.2)] fun W4 u4 k4=>?_
  refine xb 7 0 k4 ?_
  refine xr 0 (args:=#[V0 ((L.getD i mpD).1),V0 0,V0 281474976710655]) (Hf ((L.getD i mpD).1) 0 281474976710655 _) fun W5 a5=>?_
  refine xg 2 [18,19] (!(inZ ((L.getD i mpD).1) 0 281474976710655)) (fun a2=>?_) (fun a2=>?_)
  ·have a2:=Ro a2
   have b5:=bln (u4.below (bln a1 n3.below) g3) a5
   exact xe 30 (V0 2) ⟨by rw[he,Gg (x:=mpD) (by omega),mpE_2 (by rw[a2];rfl)];rfl,b5⟩
  have a2:=Rc a2
  have a8:=k4.below a5
  refine xb 1 1 a8 ?_
  refine xw 1 (data-1) ?_
  refine xr 0 (args:=#[V0 ((L.getD i mpD).2.1),V0 0,V0 (data-1)]) (Hf ((L.getD i mpD).2.1) 0 (data-1) _) fun W7 a9=>?_
  refine xg 3 [25,26,27] (!(inZ ((L.getD i mpD).2.1) 0 (data-1))) (fun a3=>?_) (fun a3=>?_)
  ·have a3:=Ro a3
   have b2:=bln (bln (u4.below (bln a1 n3.below) g3) a5) a9
   exact xe 22 (V0 2) ⟨by rw[he,Gg (x:=mpD) (by omega),mpE_2 (by rw[a2,a3];rfl)];rfl,b2⟩
  have a3:=Rc a3
  have a6:=a8.below a9
  refine xb 1 2 a6 ?_
  refine xr 0 (args:=#[V0 ((L.getD i mpD).2.2),V0 0,V0 16777215]) (Hf ((L.getD i mpD).2.2) 0 16777215 _) fun W9 b0=>?_
  refine xi 5 (!(inZ ((L.getD i mpD).2.2) 0 16777215)) (fun a0=>?_) (fun a0=>?_)
  ·have a0:=Ro a0
   have b7:=bln (bln (bln (u4.below (bln a1 n3.below) g3) a5) a9) b0
   exact xe 13 (V0 2) ⟨by rw[he,Gg (x:=mpD) (by omega),mpE_2 (by rw[a2,a3,a0];rfl)];rfl,b7⟩
  have a0:=Rc a0
  have a7:=a6.below b0
  refine xb 3 0 a7 ?_
  refine xid 5 ((L.getD i mpD).1≤a4) (fun b4=>?_) (fun b4=>?_)
  ·have b1:=bln (bln (bln (u4.below (bln a1 n3.below) g3) a5) a9) b0
   exact xe 13 (V0 8) ⟨by rw[he,Gg (x:=mpD) (by omega),mpE_8 (by rw[a2,a3,a0];rfl) (by omega)];rfl,b1⟩
  refine xb 5 0 a7 ?_
  refine xwm 5 ((i:Int)+1) (↑(i+1):Int) ?_
  have b6:=bln (bln (bln (u4.below (bln a1 n3.below) g3) a5) a9) b0
  exact ze 2 (b8 _ _ _ ⟨i+1,(L.getD i mpD).1,rfl,rfl,b6,by omega,by rw[he,Gg (x:=mpD) (by omega),mpE_0 (by rw[a2,a3,a0];rfl) (by omega)];rfl⟩ (by omega))
 exact xe 11 (V0 0) ⟨by rw[he,mpsE_end (by omega)],a1⟩
theorem zfst{Z:List Zv}{i:Nat}(h:i<Z.length)(x:Dv):(Z.map Prod.fst).getD i x=(Z.getD i zvD).1:=by simp[List.getD,h]
theorem Wy{data:Int}{Z:List Zv}{i:Nat}{last:Int}(h:i<Z.length):Zc6 data ((Z.map Prod.fst).drop i) last=if dvE (Z.getD i zvD).1 last≠0 then dvE (Z.getD i zvD).1 last else if Cc data (Z.getD i zvD).1.2 (-1)≠0 then Cc data (Z.getD i zvD).1.2 (-1) else Zc6 data ((Z.map Prod.fst).drop (i+1)) (Z.getD i zvD).1.1.1:=by
 rw[Zdx (x:=zvD.1) (by rw[List.length_map];exact h),zfst h]
theorem Cp{Z:List Zv}{i:Nat}(h:i<Z.length):Nc ((Z.map Prod.fst).take (i+1))=Nc ((Z.map Prod.fst).take i)+(Z.getD i zvD).1.2.length:=by
 rw[Zdr (x:=zvD.1) (by rw[List.length_map];exact h),zfst h]
theorem Ps(L:List Dv)(i:Nat):Nc (L.take i)≤Nc L:=by
 conv=>rhs;rw[←List.take_append_drop i L]
 unfold Nc
 rw[List.map_append,List.sum_append];omega
theorem Zcx(p:O0)(c n:Nat)(t u v x:Int)(Z:List Zv)(w:World)(hZ:Z.length=n)(hP:DevsR w p c Z)(hs:Nc (Z.map Prod.fst)≤1000000000) :
 C0 5 #[.agg #[V0 t,V0 u,V0 v,V0 x,.slice p n c]] w (Ret (V0 (↑(Nc (Z.map Prod.fst)):Int)) w):=by
 have a9:=Sl.len (hP.rowN hZ)
 refine zin 20 Tryz.func5 ?_
 refine xa 2 [V0 t,V0 u,V0 v,V0 x,.slice p n c] 24 fun b1 W1 n1=>?_
 refine xb 12 4 n1.blk ?_
 refine zl 5 20 (fun zm a5 V=>∃ (i:Nat),a5=[(2,V0 0),(3,V0 (↑(Nc ((Z.map Prod.fst).take i)):Int)),(7,.slice p n c),(8,V0 (n:Int)),(9,V0 (i:Int))]∧zm=n-((i:Int)).toNat∧B0 w V∧Blk V b1 ([V0 t,V0 u,V0 v,V0 x,.slice p n c]) 24∧i≤n) ⟨0,rfl,rfl,n1.below,n1.blk,Nat.zero_le _⟩ ?_
 rintro _ _ W2 ⟨i,rfl,rfl,a0,a2,hi⟩ J2 a7 r2
 have b0:=Ps (Z.map Prod.fst) i
 refine xid 6 ((i:Int)<(n:Int)) (fun a4=>?_) (fun a4=>?_)
 ·have a6:=Cp (Z:=Z) (i:=i) (by omega);have a8:=Ps (Z.map Prod.fst) (i+1)
  refine xx 6 _ n i 5 (hP.someN hZ (i:=i) (by omega)) ?_
  refine xlv 0 (Sts.rp (k:=i) (hP.below a0).row Vc zvD (by omega) (by decide)) ?_
  refine xa 0 [V0 0,V0 0,V0 0,V0 0,S0] 40 fun b4 W4 n4=>?_
  have g4:=n4.ge a0
  refine xsv 0 n4.blk [V0 ((Z.getD i zvD).1.1.1),V0 ((Z.getD i zvD).1.1.2.1),V0 ((Z.getD i zvD).1.1.2.2.1),V0 ((Z.getD i zvD).1.1.2.2.2),.slice ((Z.getD i zvD).2.1) ((Z.getD i zvD).1.2.length) ((Z.getD i zvD).2.2)] fun W5 u5 k5=>?_
  refine xb 5 4 k5 ?_
  refine xwm 1 ((↑(Nc ((Z.map Prod.fst).take i)):Int)+(↑((Z.getD i zvD).1.2.length):Int)) (↑((Nc ((Z.map Prod.fst).take i))+((Z.getD i zvD).1.2.length)):Int) ?_
  refine xwm 5 ((i:Int)+1) (↑(i+1):Int) ?_
  refine xv1 2 3 (show(V0 (↑((Nc ((Z.map Prod.fst).take i))+((Z.getD i zvD).1.2.length)):Int):Value)=V0 (↑(Nc ((Z.map Prod.fst).take (i+1))):Int) from by rw[Cp (i:=i) (by omega)]) ?_
  have a3:=u5.below (bln a0 n4.below) g4
  have a1:=u5.blkT (a2.below n4.below) n4.blk (by decide)
  exact ze 0 (a7 _ _ _ ⟨i+1,rfl,rfl,a3,a1,by omega⟩ (by omega))
 exact xe 12 (V0 (↑(Nc ((Z.map Prod.fst).take i)):Int)) ⟨by rw[List.take_of_length_le (by rw[List.length_map];omega)],a0⟩
theorem Lo{tx time unit data:Int}{L:List Dv}(h:((inZ tx 0 2147483647&&inZ time 0 16777215)&&(inZ unit 1 65536&&inZ data 0 65536))=false):Zba tx time unit data L=2:=if_neg (by rw[h];decide)
theorem Ru{tx time unit data:Int}{L:List Dv}(h:((inZ tx 0 2147483647&&inZ time 0 16777215)&&(inZ unit 1 65536&&inZ data 0 65536))=true)(h2:4096<L.length∨16384<Nc L):Zba tx time unit data L=2:=(if_pos h).trans (if_pos h2)
theorem Wx{tx time unit data:Int}{L:List Dv}(h:((inZ tx 0 2147483647&&inZ time 0 16777215)&&(inZ unit 1 65536&&inZ data 0 65536))=true)(h2:¬ (4096<L.length∨16384<Nc L)):Zba tx time unit data L=Zc6 data L (-1):=(if_pos h).trans (if_neg h2)
theorem Zbs(p:O0)(c n:Nat)(t u v x:Int)(Z:List Zv)(w:World)(hZ:Z.length=n)(hP:DevsR w p c Z)(hs:Nc (Z.map Prod.fst)≤1000000000) :
 C0 6 #[.agg #[V0 t,V0 u,V0 v,V0 x,.slice p n c]] w (Ret (V0 (Zba t u v x (Z.map Prod.fst))) w):=by
 have e3:=Sl.len (hP.rowN hZ)
 refine zin 60 Tryz.func6 ?_
 refine xa 2 [V0 t,V0 u,V0 v,V0 x,.slice p n c] 24 fun b1 W1 n1=>?_
 refine xb 7 0 n1.blk ?_
 refine xb 1 1 n1.blk ?_
 refine xbs 0 1 [V0 u] 3 fun b2 W2 n2=>?_
 refine xr 0 (args:=#[V0 t,.slice (S1 b2) 1 1]) (Fv t u b2 _ n2.blk) fun W3 b8=>?_
 refine xg 2 [14,15] (!((inZ t 0 2147483647)&&(inZ u 0 16777215))) (fun a3=>?_) (fun a3=>?_)
 ·have a3:=Ro a3
  have hB:=bln (bln n1.below n2.below) b8
  exact xe 21 (V0 2) ⟨by rw[Lo (by rw[a3];rfl)],hB⟩
 have a3:=Rc a3
 have c5:=(n1.blk.below n2.below).below b8
 refine xb 1 2 c5 ?_
 refine xr 0 (args:=#[V0 v,V0 1,V0 65536]) (Hf v 1 65536 _) fun W5 c2=>?_
 refine xg 3 [19,20,21] (!(inZ v 1 65536)) (fun a5=>?_) (fun a5=>?_)
 ·have a5:=Ro a5
  have hB:=bln (bln (bln n1.below n2.below) b8) c2
  exact xe 15 (V0 2) ⟨by rw[Lo (by rw[a3,a5];rfl)],hB⟩
 have a5:=Rc a5
 have c3:=c5.below c2
 refine xb 1 3 c3 ?_
 refine xr 0 (args:=#[V0 x,V0 0,V0 65536]) (Hf x 0 65536 _) fun W7 c7=>?_
 refine xi 4 (!(inZ x 0 65536)) (fun a4=>?_) (fun a4=>?_)
 ·have a4:=Ro a4
  have hB:=bln (bln (bln (bln n1.below n2.below) b8) c2) c7
  exact xe 7 (V0 2) ⟨by rw[Lo (by rw[a3,a5,a4];rfl)],hB⟩
 have a4:=Rc a4
 have b9:=c3.below c7
 refine xb 6 4 b9 ?_
 refine xg 3 [30,31] (decide ((n:Int)>(4096:Int))) (fun c4=>?_) (fun c4=>?_)
 ·have c4:=of_decide_eq_true c4
  have hB:=bln (bln (bln (bln n1.below n2.below) b8) c2) c7
  exact xe 14 (V0 2) ⟨by rw[Ru (by rw[a3,a5,a4];rfl) (by rw[List.length_map];omega)],hB⟩
 have c4:=of_decide_eq_false c4
 refine xlv 0 b9.rp ?_
 have hB:=bln (bln (bln (bln n1.below n2.below) b8) c2) c7
 refine xr 0 (args:=#[.agg #[V0 t,V0 u,V0 v,V0 x,.slice p n c]]) (Zcx p c n t u v x Z _ hZ (hP.below hB) hs) fun e9 b3=>?_
 refine xid 4 ((↑(Nc (Z.map Prod.fst)):Int)>(16384:Int)) (fun d4=>?_) (fun d4=>?_)
 ·have d6:=bln hB b3
  exact xe 7 (V0 2) ⟨by rw[Ru (by rw[a3,a5,a4];rfl) (by rw[List.length_map];omega)],d6⟩
 have d2:¬ (4096<(Z.map Prod.fst).length∨16384<Nc (Z.map Prod.fst)):=by rw[List.length_map];omega
 have c8:=b9.below b3
 refine xb 11 4 c8 ?_
 have d0:=bln hB b3
 have d5:=(((n2.blk.below b8).below c2).below c7).below b3
 refine zl 5 60 (fun zm e2 V=>∃ (i:Nat) (a2:Int),e2=[(1,P0 b1),(3,V0 a2),(37,.slice p n c),(38,V0 (n:Int)),(39,V0 (i:Int))]∧zm=n-((i:Int)).toNat∧B0 w V∧Blk V b1 ([V0 t,V0 u,V0 v,V0 x,.slice p n c]) 24∧Blk V b2 ([V0 u]) 3∧i≤n∧Zc6 x (Z.map Prod.fst) (-1)=Zc6 x ((Z.map Prod.fst).drop i) a2) ⟨0,(-1),rfl,rfl,d0,c8,d5,Nat.zero_le _,rfl⟩ ?_
 rintro _ _ e4 ⟨i,a2,rfl,rfl,a0,b7,c0,hi,he⟩ e8 d1 e5
 have hx:=inZ_t.1 a4
 refine xid 6 ((i:Int)<(n:Int)) (fun d8=>?_) (fun d8=>?_)
 ·refine xx 6 _ n i 5 (hP.someN hZ (i:=i) (by omega)) ?_
  refine xlv 0 (Sts.rp (k:=i) (hP.below a0).row Vc zvD (by omega) (by decide)) ?_
  refine xa 0 [V0 0,V0 0,V0 0,V0 0,S0] 40 fun e6 f2 b5=>?_
  have e1:=b5.ge a0
  refine xsv 0 b5.blk [V0 ((Z.getD i zvD).1.1.1),V0 ((Z.getD i zvD).1.1.2.1),V0 ((Z.getD i zvD).1.1.2.2.1),V0 ((Z.getD i zvD).1.1.2.2.2),.slice ((Z.getD i zvD).2.1) ((Z.getD i zvD).1.2.length) ((Z.getD i zvD).2.2)] fun f1 c9 e0=>?_
  refine xlv 5 e0.rp ?_
  refine xr 1 (args:=#[.agg #[V0 ((Z.getD i zvD).1.1.1),V0 ((Z.getD i zvD).1.1.2.1),V0 ((Z.getD i zvD).1.1.2.2.1),V0 ((Z.getD i zvD).1.1.2.2.2),.slice ((Z.getD i zvD).2.1) ((Z.getD i zvD).1.2.length) ((Z.getD i zvD).2.2)],V0 a2]) (Ia (Z.getD i zvD).1 a2 _ _ _ _) fun f0 a8=>?_
  refine xin 9 (dvE (Z.getD i zvD).1 a2) (0:Int) (fun b0=>?_) (fun b0=>?_)
  ·have d9:=bln (c9.below (bln a0 b5.below) e1) a8
   exact xe 13 (V0 (dvE (Z.getD i zvD).1 a2)) ⟨by rw[Wx (by rw[a3,a5,a4];rfl) d2,he,Wy (by omega),if_pos b0],d9⟩
  have b4:=e0.below a8
  refine xb 6 4 b4 ?_
  have a1:=(c9.blkT (b7.below b5.below) b5.blk (by decide)).below a8
  refine xb 1 3 a1 ?_
  have b6:=bln (c9.below (bln a0 b5.below) e1) a8
  refine xr 0 (args:=#[.slice ((Z.getD i zvD).2.1) ((Z.getD i zvD).1.2.length) ((Z.getD i zvD).2.2),V0 x]) (Il _ _ (Z.getD i zvD).1.2 x _ hx ((hP.below b6).each i (by omega))) fun e7 a6=>?_
  refine xin 9 (Cc x (Z.getD i zvD).1.2 (-1)) (0:Int) (fun c1=>?_) (fun c1=>?_)
  ·have d7:=bln b6 a6
   exact xe 13 (V0 (Cc x (Z.getD i zvD).1.2 (-1))) ⟨by rw[Wx (by rw[a3,a5,a4];rfl) d2,he,Wy (by omega),if_neg (fun q=>q b0),if_pos c1],d7⟩
  have c6:=b4.below a6
  refine xb 4 0 c6 ?_
  refine xwm 5 ((i:Int)+1) (↑(i+1):Int) ?_
  have d3:=bln b6 a6
  have a9:=a1.below a6
  have a7:=((c9.blkT (c0.below b5.below) b5.blk (by decide)).below a8).below a6
  exact ze 2 (d1 _ _ _ ⟨i+1,(Z.getD i zvD).1.1.1,rfl,rfl,d3,a9,a7,by omega,by rw[he,Wy (by omega),if_neg (fun q=>q b0),if_neg (fun q=>q c1)]⟩ (by omega))
 exact xe 11 (V0 0) ⟨by rw[Wx (by rw[a3,a5,a4];rfl) d2,he,dvsE_end (by rw[List.length_map];omega)],a0⟩
theorem Eg(a b:O0)(ca cb:Nat)(L:List Mp)(w:World)(ha:Sts Uf w (.slice a L.length ca) L)(hb:Sts Uf w (.slice b L.length cb) L) :
 C0 64 #[.slice a L.length ca,.slice b L.length cb] w (Ret (.bool true) w):=by
 have a5:=Sl.len ha
 refine zin 26 Tryz.func64 ?_
 refine xk 15 (show(((L.length:Int) != (L.length:Int)):Bool)=false from by simp) ?_
 have hB:=Below.refl w.heap.size w
 refine zl 11 26 (fun zm a2 V=>∃ (i:Nat),a2=[(0,.slice a L.length ca),(1,.slice b L.length cb),(12,V0 (L.length:Int)),(13,V0 (i:Int))]∧zm=L.length-((i:Int)).toNat∧B0 w V∧i≤L.length) ⟨0,rfl,rfl,hB,Nat.zero_le _⟩ ?_
 rintro _ _ W1 ⟨i,rfl,rfl,a1,hi⟩ J1 a4 r1
 refine xid 6 ((i:Int)<(L.length:Int)) (fun a3=>?_) (fun a3=>?_)
 ·refine xd 11 .z ?_
  refine xx (.e [0,1] 2) _ L.length i 3 (Sts.cell ha Je mpD (k:=i) (i:=0) (by omega) rfl).1 ?_
  have a0:=bln a1 (Za W1)
  refine xlv (.e [] 3) (Sts.rp (k:=i) (ha.below a0) Je mpD (by omega) (by decide)) ?_
  refine xx (.e [4,5] 6) _ L.length i 3 (Sts.cell hb Je mpD (k:=i) (i:=0) (by omega) rfl).1 ?_
  refine xlv (.e [] 7) (Sts.rp (k:=i) (hb.below a0) Je mpD (by omega) (by decide)) ?_
  refine xbo (.e [] 8) (t:=42) (t2:=42) (fun _ _ _ _ zo zx zy V hV=>Zff (L.getD i mpD) zo zx zy V) ?_
  refine xwm 7 ((i:Int)+1) (↑(i+1):Int) ?_
  exact ze 2 (a4 _ _ _ ⟨i+1,rfl,rfl,a0,by omega⟩ (by omega))
 exact xe 11 (.bool true) ⟨rfl,a1⟩
theorem Zb6(a b:O0)(ca cb:Nat)(d:Dv)(w:World)(ha:Sts Uf w (.slice a d.2.length ca) d.2)(hb:Sts Uf w (.slice b d.2.length cb) d.2) :
 C0 42 #[.agg #[V0 d.1.1,V0 d.1.2.1,V0 d.1.2.2.1,V0 d.1.2.2.2,.slice a d.2.length ca],.agg #[V0 d.1.1,V0 d.1.2.1,V0 d.1.2.2.1,V0 d.1.2.2.2,.slice b d.2.length cb]] w (Ret (.bool true) w):=by
 refine zin 38 Tryz.func42 ?_
 refine xa 2 [V0 d.1.1,V0 d.1.2.1,V0 d.1.2.2.1,V0 d.1.2.2.2,.slice a d.2.length ca] 40 fun b1 W1 n1=>?_
 refine xa 0 [V0 d.1.1,V0 d.1.2.1,V0 d.1.2.2.1,V0 d.1.2.2.2,.slice b d.2.length cb] 40 fun b2 W2 n2=>?_
 have a2:=n2.ne n1.blk
 have a0:=n1.blk.below n2.below
 refine xb 6 0 a0 ?_
 refine xb 1 0 n2.blk ?_
 refine xgk 2 [9,10] (show((d.1.1==d.1.1):Bool)=true from by simp) ?_
 refine xb 1 1 a0 ?_
 refine xb 1 1 n2.blk ?_
 refine xgk 3 [15,16,17] (show((d.1.2.1==d.1.2.1):Bool)=true from by simp) ?_
 refine xb 1 2 a0 ?_
 refine xb 1 2 n2.blk ?_
 refine xgk 3 [22,23,24] (show((d.1.2.2.1==d.1.2.2.1):Bool)=true from by simp) ?_
 refine xb 1 3 a0 ?_
 refine xb 1 3 n2.blk ?_
 refine xgk 3 [29,30,31] (show((d.1.2.2.2==d.1.2.2.2):Bool)=true from by simp) ?_
 refine xb 1 4 a0 ?_
 refine xb 1 4 n2.blk ?_
 have hB:=bln n1.below n2.below
 refine xr 0 (args:=#[.slice a d.2.length ca,.slice b d.2.length cb]) (Eg a b ca cb d.2 _ (ha.below hB) (hb.below hB)) fun W7 a3=>?_
 have a1:=bln hB a3
 exact xe 5 (.bool true) ⟨rfl,a1⟩
theorem Tp(a b:O0)(ca cb:Nat)(d e:Dv)(w:World)(h:d=e)(ha:Sts Uf w (.slice a d.2.length ca) d.2)(hb:Sts Uf w (.slice b e.2.length cb) e.2) :
 C0 42 #[.agg #[V0 d.1.1,V0 d.1.2.1,V0 d.1.2.2.1,V0 d.1.2.2.2,.slice a d.2.length ca],.agg #[V0 e.1.1,V0 e.1.2.1,V0 e.1.2.2.1,V0 e.1.2.2.2,.slice b e.2.length cb]] w (Ret (.bool true) w):=by
 subst h;exact Zb6 a b ca cb d w ha hb
theorem Zbw(p q:O0)(c d n:Nat)(Z Y:List Zv)(w:World)(hZ:Z.length=n)(hY:Y.length=n)(hZY:∀ i,i<n→(Z.getD i zvD).1=(Y.getD i zvD).1)(hP:DevsR w p c Z)(hQ:DevsR w q d Y) :
 C0 41 #[.slice p n c,.slice q n d,.func (.func 42) #[] #[]] w (Ret (.bool true) w):=by
 have b0:=Sl.len (hP.rowN hZ)
 refine zin 32 Tryz.func41 ?_
 refine xk 15 (show(((n:Int) != (n:Int)):Bool)=false from by simp) ?_
 have hB:=Below.refl w.heap.size w
 refine zl 11 32 (fun zm a6 V=>∃ (i:Nat),a6=[(1,.slice q n d),(2,.func (.func 42) #[] #[]),(15,.slice p n c),(16,V0 (n:Int)),(17,V0 (i:Int))]∧zm=n-((i:Int)).toNat∧B0 w V∧i≤n) ⟨0,rfl,rfl,hB,Nat.zero_le _⟩ ?_
 rintro _ _ W1 ⟨i,rfl,rfl,a0,hi⟩ J1 a8 r1
 refine xid 6 ((i:Int)<(n:Int)) (fun a7=>?_) (fun a7=>?_)
 ·refine xx 7 _ n i 5 (hP.someN hZ (i:=i) (by omega)) ?_
  refine xlv 0 (Sts.rp (k:=i) (hP.below a0).row Vc zvD (by omega) (by decide)) ?_
  refine xa 0 [V0 0,V0 0,V0 0,V0 0,S0] 40 fun b3 W3 n3=>?_
  have g3:=n3.ge a0
  refine xsv 1 n3.blk [V0 ((Z.getD i zvD).1.1.1),V0 ((Z.getD i zvD).1.1.2.1),V0 ((Z.getD i zvD).1.1.2.2.1),V0 ((Z.getD i zvD).1.1.2.2.2),.slice ((Z.getD i zvD).2.1) ((Z.getD i zvD).1.2.length) ((Z.getD i zvD).2.2)] fun W4 u4 k4=>?_
  refine xx 6 _ n i 5 (hQ.someN hY (i:=i) (by omega)) ?_
  have a2:=u4.below (bln a0 n3.below) g3
  refine xlv 0 (Sts.rp (k:=i) (hQ.below a2).row Vc zvD (by omega) (by decide)) ?_
  refine xa 0 [V0 0,V0 0,V0 0,V0 0,S0] 40 fun b5 W5 n5=>?_
  have a3:=n5.ne k4
  have g5:=n5.ge a2
  refine xsv 0 n5.blk [V0 ((Y.getD i zvD).1.1.1),V0 ((Y.getD i zvD).1.1.2.1),V0 ((Y.getD i zvD).1.1.2.2.1),V0 ((Y.getD i zvD).1.1.2.2.2),.slice ((Y.getD i zvD).2.1) ((Y.getD i zvD).1.2.length) ((Y.getD i zvD).2.2)] fun W6 u6 k6=>?_
  have a4:=u6.blk (k4.below n5.below) (Ne.symm (Ne.symm a3))
  refine xlv 5 a4.rp ?_
  refine xlv 0 k6.rp ?_
  have a1:=u6.below (bln a2 n5.below) g5
  refine xr 0 (args:=#[.agg #[V0 ((Z.getD i zvD).1.1.1),V0 ((Z.getD i zvD).1.1.2.1),V0 ((Z.getD i zvD).1.1.2.2.1),V0 ((Z.getD i zvD).1.1.2.2.2),.slice ((Z.getD i zvD).2.1) ((Z.getD i zvD).1.2.length) ((Z.getD i zvD).2.2)],.agg #[V0 ((Y.getD i zvD).1.1.1),V0 ((Y.getD i zvD).1.1.2.1),V0 ((Y.getD i zvD).1.1.2.2.1),V0 ((Y.getD i zvD).1.1.2.2.2),.slice ((Y.getD i zvD).2.1) ((Y.getD i zvD).1.2.length) ((Y.getD i zvD).2.2)]]) (Tp (Z.getD i zvD).2.1 (Y.getD i zvD).2.1 (Z.getD i zvD).2.2 (Y.getD i zvD).2.2 (Z.getD i zvD).1 (Y.getD i zvD).1 _ (hZY i (by omega)) ((hP.below a1).each i (by omega)) ((hQ.below a1).each i (by omega))) fun W7 a9=>?_
  refine xwm 8 ((i:Int)+1) (↑(i+1):Int) ?_
  have a5:=bln a1 a9
  exact ze 2 (a8 _ _ _ ⟨i+1,rfl,rfl,a5,by omega⟩ (by omega))
 exact xe 11 (.bool true) ⟨rfl,a0⟩
theorem Zeq(p q:O0)(c d n:Nat)(t u v x:Int)(Z Y:List Zv)(w:World)(hZ:Z.length=n)(hY:Y.length=n)(hZY:∀ i,i<n→(Z.getD i zvD).1=(Y.getD i zvD).1)(hP:DevsR w p c Z)(hQ:DevsR w q d Y) :
 C0 18 #[.agg #[V0 t,V0 u,V0 v,V0 x,.slice p n c],.agg #[V0 t,V0 u,V0 v,V0 x,.slice q n d]] w (Ret (.bool true) w):=by
 refine zin 38 Tryz.func18 ?_
 refine xa 2 [V0 t,V0 u,V0 v,V0 x,.slice p n c] 24 fun b1 W1 n1=>?_
 refine xa 0 [V0 t,V0 u,V0 v,V0 x,.slice q n d] 24 fun b2 W2 n2=>?_
 have a2:=n2.ne n1.blk
 have a0:=n1.blk.below n2.below
 refine xb 6 0 a0 ?_
 refine xb 1 0 n2.blk ?_
 refine xgk 2 [9,10] (show((t==t):Bool)=true from by simp) ?_
 refine xb 1 1 a0 ?_
 refine xb 1 1 n2.blk ?_
 refine xgk 3 [15,16,17] (show((u==u):Bool)=true from by simp) ?_
 refine xb 1 2 a0 ?_
 refine xb 1 2 n2.blk ?_
 refine xgk 3 [22,23,24] (show((v==v):Bool)=true from by simp) ?_
 refine xb 1 3 a0 ?_
 refine xb 1 3 n2.blk ?_
 refine xgk 3 [29,30,31] (show((x==x):Bool)=true from by simp) ?_
 refine xb 1 4 a0 ?_
 refine xb 1 4 n2.blk ?_
 have hB:=bln n1.below n2.below
 refine xr 0 (args:=#[.slice p n c,.slice q n d,.func (.func 42) #[] #[]]) (Zbw p q c d n Z Y _ hZ hY hZY (hP.below hB) (hQ.below hB)) fun W7 a3=>?_
 have a1:=bln hB a3
 exact xe 5 (.bool true) ⟨rfl,a1⟩
end Go.Proofs.YtgphgaehfdfjjaaGreat
