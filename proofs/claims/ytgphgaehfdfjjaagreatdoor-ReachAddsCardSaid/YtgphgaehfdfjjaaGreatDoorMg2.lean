/- node.Width and node.Max at the five trees; package tall: over, Levels, Nodes, Sizes. -/
import Derived.Lib.AppendZerosOnto
import Derived.Lib.BufferWrite
import Derived.Lib.AppendStr
import Derived.Laws.IdiomStrings
import Derived.Test.YtgphgaehfdfjjaaGreatDoorMg1
namespace Go.Proofs.YtgphgaehfdfjjaaGreatDoor
set_option maxHeartbeats 8000000
set_option maxRecDepth 100000
open Go.RowKit Go.Extern.Stop Go.Stop Go.Extern
set_option linter.unusedVariables false
attribute [local irreducible] wpList wpAnyH Code.wp Oper.wp Go
theorem Na(w:World) :
 C0 76 #[V0 1,.bool true] w (Ret (V0 4) w):=by
 refine zin 31 Tryz.func76 ?_
 exact xe 94 (V0 4) ⟨rfl,(B4 w)⟩
theorem Zbi(w:World) :
 C0 77 #[V0 1,.bool true] w (Ret (V0 18) w):=by
 refine zin 16 Tryz.func77 ?_
 refine xr 9 (args:=#[V0 1,.bool true]) (Na _) fun W1 a0=>?_
 exact xe 24 (V0 18) ⟨rfl,a0⟩
theorem Py(w:World) :
 C0 76 #[V0 1,.bool false] w (Ret (V0 4) w):=by
 refine zin 31 Tryz.func76 ?_
 exact xe 41 (V0 4) ⟨rfl,(B4 w)⟩
theorem Zay(w:World) :
 C0 77 #[V0 1,.bool false] w (Ret (V0 18) w):=by
 refine zin 16 Tryz.func77 ?_
 refine xr 9 (args:=#[V0 1,.bool false]) (Py _) fun W1 a0=>?_
 exact xe 24 (V0 18) ⟨rfl,a0⟩
theorem Po(w:World) :
 C0 76 #[V0 2,.bool true] w (Ret (V0 8) w):=by
 refine zin 31 Tryz.func76 ?_
 exact xe 101 (V0 8) ⟨rfl,(B4 w)⟩
theorem Zaf(w:World) :
 C0 77 #[V0 2,.bool true] w (Ret (V0 12) w):=by
 refine zin 16 Tryz.func77 ?_
 refine xr 9 (args:=#[V0 2,.bool true]) (Po _) fun W1 a0=>?_
 exact xe 24 (V0 12) ⟨rfl,a0⟩
theorem Pz(w:World) :
 C0 76 #[V0 2,.bool false] w (Ret (V0 4) w):=by
 refine zin 31 Tryz.func76 ?_
 exact xe 41 (V0 4) ⟨rfl,(B4 w)⟩
theorem Zbw(w:World) :
 C0 77 #[V0 2,.bool false] w (Ret (V0 18) w):=by
 refine zin 16 Tryz.func77 ?_
 refine xr 9 (args:=#[V0 2,.bool false]) (Pz _) fun W1 a0=>?_
 exact xe 24 (V0 18) ⟨rfl,a0⟩
theorem Pn(w:World) :
 C0 76 #[V0 3,.bool true] w (Ret (V0 24) w):=by
 refine zin 31 Tryz.func76 ?_
 exact xe 93 (V0 24) ⟨rfl,(B4 w)⟩
theorem Zbx(w:World) :
 C0 77 #[V0 3,.bool true] w (Ret (V0 6) w):=by
 refine zin 16 Tryz.func77 ?_
 refine xr 9 (args:=#[V0 3,.bool true]) (Pn _) fun W1 a0=>?_
 exact xe 24 (V0 6) ⟨rfl,a0⟩
theorem Pk(w:World) :
 C0 76 #[V0 3,.bool false] w (Ret (V0 4) w):=by
 refine zin 31 Tryz.func76 ?_
 exact xe 41 (V0 4) ⟨rfl,(B4 w)⟩
theorem Zaz(w:World) :
 C0 77 #[V0 3,.bool false] w (Ret (V0 18) w):=by
 refine zin 16 Tryz.func77 ?_
 refine xr 9 (args:=#[V0 3,.bool false]) (Pk _) fun W1 a0=>?_
 exact xe 24 (V0 18) ⟨rfl,a0⟩
theorem Pj(w:World) :
 C0 76 #[V0 4,.bool true] w (Ret (V0 16) w):=by
 refine zin 31 Tryz.func76 ?_
 exact xe 98 (V0 16) ⟨rfl,(B4 w)⟩
theorem Zap(w:World) :
 C0 77 #[V0 4,.bool true] w (Ret (V0 9) w):=by
 refine zin 16 Tryz.func77 ?_
 refine xr 9 (args:=#[V0 4,.bool true]) (Pj _) fun W1 a0=>?_
 exact xe 24 (V0 9) ⟨rfl,a0⟩
theorem Pw(w:World) :
 C0 76 #[V0 4,.bool false] w (Ret (V0 4) w):=by
 refine zin 31 Tryz.func76 ?_
 exact xe 41 (V0 4) ⟨rfl,(B4 w)⟩
theorem Zbu(w:World) :
 C0 77 #[V0 4,.bool false] w (Ret (V0 18) w):=by
 refine zin 16 Tryz.func77 ?_
 refine xr 9 (args:=#[V0 4,.bool false]) (Pw _) fun W1 a0=>?_
 exact xe 24 (V0 18) ⟨rfl,a0⟩
theorem Pr(w:World) :
 C0 76 #[V0 5,.bool true] w (Ret (V0 4) w):=by
 refine zin 31 Tryz.func76 ?_
 exact xe 94 (V0 4) ⟨rfl,(B4 w)⟩
theorem Zb2(w:World) :
 C0 77 #[V0 5,.bool true] w (Ret (V0 18) w):=by
 refine zin 16 Tryz.func77 ?_
 refine xr 9 (args:=#[V0 5,.bool true]) (Pr _) fun W1 a0=>?_
 exact xe 24 (V0 18) ⟨rfl,a0⟩
theorem Pv(w:World) :
 C0 76 #[V0 5,.bool false] w (Ret (V0 4) w):=by
 refine zin 31 Tryz.func76 ?_
 exact xe 41 (V0 4) ⟨rfl,(B4 w)⟩
theorem Zb9(w:World) :
 C0 77 #[V0 5,.bool false] w (Ret (V0 18) w):=by
 refine zin 16 Tryz.func77 ?_
 refine xr 9 (args:=#[V0 5,.bool false]) (Pv _) fun W1 a0=>?_
 exact xe 24 (V0 18) ⟨rfl,a0⟩
def Lp(t:Int)(leaf:Bool):Nat:=if leaf=false then 4 else if t=2 then 8 else if t=3 then 24 else if t=4 then 16 else 4
def Yy(t:Int)(leaf:Bool):Nat:=if leaf=false then 18 else if t=2 then 12 else if t=3 then 6 else if t=4 then 9 else 18
theorem Bs(t:Int)(leaf:Bool)(h1:1≤t)(h2:t≤5)(w:World):C0 76 #[V0 t,.bool leaf] w (Ret (V0 (Lp t leaf:Int)) w):=by
 obtain rfl|rfl|rfl|rfl|rfl:t=1∨t=2∨t=3∨t=4∨t=5:=by omega
 all_goals cases leaf
 ·exact Py w
 ·exact Na w
 ·exact Pz w
 ·exact Po w
 ·exact Pk w
 ·exact Pn w
 ·exact Pw w
 ·exact Pj w
 ·exact Pv w
 ·exact Pr w
theorem Ng(t:Int)(leaf:Bool)(h1:1≤t)(h2:t≤5)(w:World):C0 77 #[V0 t,.bool leaf] w (Ret (V0 (Yy t leaf:Int)) w):=by
 obtain rfl|rfl|rfl|rfl|rfl:t=1∨t=2∨t=3∨t=4∨t=5:=by omega
 all_goals cases leaf
 ·exact Zay w
 ·exact Zbi w
 ·exact Zbw w
 ·exact Zaf w
 ·exact Zaz w
 ·exact Zbx w
 ·exact Zbu w
 ·exact Zap w
 ·exact Zb9 w
 ·exact Zb2 w
theorem Yo(t:Int)(leaf:Bool):1≤Yy t leaf∧Yy t leaf≤18:=by
 unfold Yy;repeat' split
 all_goals decide
theorem run_quo{P:Program}{a:Act}{o:Oper}{t:TypeId}{x y:Operand}{t2:TypeId}{p q r:Int}{k:IntKind}(ho:o.op=.binOp .quo t x y t2)(hx:a.eval x=.int k p)(hy:a.eval y=.int k q)(hq:q≠0)(hr:k.wrap (Int.tdiv p q)=r)(w:World) :
 (execOp a.eval o).run P w=.ok (.value (.int k r)) w:=by
 subst hr
 have hb:(binOp .quo t (.int k p) (.int k q)).run P w=.ok (.int k (k.wrap (p.tdiv q))) w:=by
  simp[binOp,Op.intDiv,hq]
 have hg:(eqGuard .quo t x y (.int k p) (.int k q)).run P w=.ok () w:=rfl
 simp only[execOp,ho,hx,hy,Sem.run_bind,hg,Result.andThen_ok,hb]
 rfl
def ovN (n m:Nat):Nat:=max 1 ((n+m-1)/m)
theorem max_cast(a b:Nat):(if(b:Int)>(a:Int) then(b:Int) else(a:Int))=((max a b:Nat):Int):=by split<;>omega
theorem Qq(n m:Nat):1≤ovN n m:=by unfold ovN;omega
theorem Fs(n m:Nat)(hm:1≤m):ovN n m≤n+1:=by
 have:(n+m-1)/m≤n:=by
  rw[Nat.div_le_iff_le_mul_add_pred (by omega)]
  have:=Nat.le_mul_of_pos_left n hm
  omega
 unfold ovN;omega
theorem ov18{x:Nat}(h:2≤x):ovN x 18≤x/2:=by unfold ovN;omega
theorem Mr(n m:Nat)(w:World)(hn:n≤1000000)(hm:1≤m)(hm2:m≤1000000) :
 C0 159 #[V0 (n:Int),V0 (m:Int)] w (Ret (V0 (ovN n m:Int)) w):=by
 refine zin 12 Tryz.func159 ?_
 refine xwm 9 ((n:Int)+(m:Int)) (↑(n+m):Int) ?_
 refine xwm 0 ((↑(n+m):Int)-1) (↑((n+m)-1):Int) ?_
 refine xbo 1 (t:=3) (t2:=3) (fun _ _ _ _ zo zx zy V hV=>run_quo (r:=(↑((n+m-1)/m):Int)) zo zx zy (by omega) (Te (n+m-1) m (by omega) (by omega)) V) ?_
 refine xq 0 (congrArg V0 (show(if(↑((n+m-1)/m):Int)>(1:Int) then(↑((n+m-1)/m):Int) else(1:Int):Int)=(↑(ovN n m):Int) from max_cast 1 ((n+m-1)/m))) ?_
 exact xe 4 (V0 (↑(ovN n m):Int)) ⟨rfl,(B4 w)⟩
def lenOf:Value→Nat
 | .slice _ n _=>n
 | _=>0
def nv (n:Nat):Value:=V0 (n:Int)
def Aa(x:Nat):List Nat:=if h:x≤1 then [x] else x::Aa (ovN x 18)
termination_by x
decreasing_by have:=ov18 (x:=x) (by omega);omega
theorem Ht{x:Nat}(h:x≤1):Aa x=[x]:=by rw[Aa];simp[h]
theorem Hq{x:Nat}(h:¬ x≤1):Aa x=x::Aa (ovN x 18):=by rw[Aa];simp[h]
theorem Ag{x:Nat}(h:1≤x):(Aa x).sum≤2*x:=by
 induction x using Nat.strongRecOn with
 | _ x ih =>
  by_cases h1:x≤1
  ·rw[Ht h1];simp;omega
  ·rw[Hq h1,List.sum_cons]
   have h2:=ov18 (x:=x) (by omega)
   have:=ih (ovN x 18) (by omega) (Qq _ _)
   omega
theorem levs_len{x:Nat}(h:1≤x):(Aa x).length≤x:=by
 induction x using Nat.strongRecOn with
 | _ x ih =>
  by_cases h1:x≤1
  ·rw[Ht h1];simpa using h
  ·rw[Hq h1,List.length_cons]
   have h2:=ov18 (x:=x) (by omega)
   have:=ih (ovN x 18) (by omega) (Qq _ _)
   omega
theorem Zu{w:World}{b:O0}{n c:Nat}{l:List Nat}(h:Sl w (.slice b n c) n (l.map nv))(hl:l.length=n){k:Nat}(hk:k<n):b.isSome=true∧w.cell? (Zv b (k*1))=some (V0 ((l.getD k 0:Nat):Int)):=by
 have e:l.map nv=(l.map fun x:Nat=>(x:Int)).map V0:=by simp[nv]
 rw[e] at h
 have:=IntsN.elem h (by simpa using hl) hk
 rw[show(l.map fun x:Nat=>(x:Int)).getD k 0=((l.getD k 0:Nat):Int) by simp[List.getD,List.getElem?_eq_getElem (show k<l.length by omega)]] at this
 exact this
theorem Fu{xs:List Nat}{x j:Nat}(h:xs.length=j):(xs++[x]).getD j 0=x:=by subst h;simp[List.getD]
theorem Dg{L:List Nat}{k:Nat}(h:k<L.length):(L.take (k+1)).sum=(L.take k).sum+L.getD k 0:=by
 rw[List.take_add_one,List.sum_append];simp[List.getD,List.getElem?_eq_getElem h]
theorem Zey{L:List Nat}(k:Nat):(L.take k).sum≤L.sum:=by
 conv=>rhs;rw[←List.take_append_drop k L,List.sum_append]
 omega
def Ks(t:Int)(n:Nat):List Nat:=Aa (ovN n (Yy t true))
def Yi(t:Int)(n:Nat):Nat:=(Ks t n).sum
theorem levL_len(t:Int)(n:Nat):(Ks t n).length≤n+1:=by
 have:=levs_len (Qq n (Yy t true));have:=Fs n (Yy t true) (Yo t true).1;unfold Ks;omega
theorem Nm(t:Int)(n:Nat):Yi t n≤2*n+2:=by
 have:=Ag (Qq n (Yy t true));have:=Fs n (Yy t true) (Yo t true).1;unfold Yi Ks;omega
theorem Sq(t:Int)(n:Nat)(w:World)(h1:1≤t)(h2:t≤5)(hn:n≤32768) :
 C0 106 #[V0 t,V0 (n:Int)] w (Qi (fun w' r=>∃ p c,r=.slice p (Ks t n).length c∧w'.ownsRow w.heap.size 3 1 (.slice p (Ks t n).length c) (Ks t n).length ((Ks t n).map nv)) w):=by
 have b2:=(Yo t true).1
 have d2:=(Yo t true).2
 have c8:=Fs n (Yy t true) b2
 have c0:=Qq n (Yy t true)
 refine zin 45 Tryz.func106 ?_
 refine xr 8 (args:=#[V0 t,.bool true]) (Ng t true h1 h2 _) fun W1 b0=>?_
 refine xr 1 (args:=#[V0 t,.bool false]) (Ng t false h1 h2 _) fun W2 b1=>?_
 refine xgk 10 [13,14] (show(((↑(Yy t true):Int)==(0:Int)):Bool)=false from by simp;omega) ?_
 refine xgk 4 [16,17,18] (show(decide ((n:Int)<(0:Int)):Bool)=false from decide_eq_false (by omega)) ?_
 refine xk 5 (show(decide ((n:Int)>(32768:Int)):Bool)=false from decide_eq_false (by omega)) ?_
 refine xr 6 (args:=#[V0 (n:Int),V0 (↑(Yy t true):Int)]) (Mr n (Yy t true) _ (by omega) b2 (by omega)) fun W5 b3=>?_
 refine xbs 0 1 [V0 (↑(ovN n (Yy t true)):Int)] 3 fun b6 W6 n6=>?_
 have g6:=n6.ge (bln (bln b0 b1) b3)
 have hB:=bln (bln (bln b0 b1) b3) n6.below
 refine zl 5 45 (fun zm c3 V=>∃ (j x:Nat) (xs:List Nat) (p:O0) (c:Nat),c3=[(4,S0),(6,V0 18),(7,.slice p (j+1) c)]∧zm=40000-(j+1)∧B3 w V∧V.ownsRow w.heap.size 3 1 (.slice p (j+1) c) (j+1) ((xs++[x]).map nv)∧xs.length=j∧1≤x∧x≤32769∧xs++Aa x=Ks t n∧j+x≤40000) ⟨0,(ovN n (Yy t true)),[],_,_,rfl,rfl,hB,Xf (size:=1) (n:=1) n6.blk g6 rfl (by unfold maxLen;decide),rfl,c0,by omega,rfl,by omega⟩ ?_
 rintro _ _ W7 ⟨j,x,xs,p,c,rfl,rfl,a3,ho,a0,c9,c5,b4,hj⟩ J7 b7 r7
 refine xwm 6 ((↑(j+1):Int)-1) (j:Int) ?_
 refine xx 0 _ (j+1) j 1 (Zu (Ze ho) (by simp[a0]) (k:=j) (by omega)).1 ?_
 refine xl 0 (by have:=(Zu (Ze ho) (by simp[a0]) (k:=j) (by omega)).2;rwa [Fu a0] at this) ?_
 refine xid 3 ((x:Int)>(1:Int)) (fun b9=>?_) (fun b9=>?_)
 ·refine xwm 8 ((↑(j+1):Int)-1) (j:Int) ?_
  refine xx 0 _ (j+1) j 1 (Zu (Ze ho) (by simp[a0]) (k:=j) (by omega)).1 ?_
  refine xl 0 (by have:=(Zu (Ze ho) (by simp[a0]) (k:=j) (by omega)).2;rwa [Fu a0] at this) ?_
  refine xr 1 (args:=#[V0 (x:Int),V0 18]) (Mr x 18 _ (by omega) (by decide) (by decide)) fun W9 b5=>?_
  refine xbs 0 1 [V0 (↑(ovN x 18):Int)] 3 fun d1 d0 a4=>?_
  have a2:=bln a3 b5
  have c7:=a4.ge a2
  have a5:=Zb ho b5
  have a8:=Zz a5 a4
  have a9:=Zb a5 a4.below
  have a1:=bln a2 a4.below
  refine xbi 0 fun _ _ _ _ zJ zQ zo zx zy zK=>Zx (m:=1) (news:=[V0 (↑(ovN x 18):Int)]) (V0 0) 1 8 (j+1+1) (((xs++[x])++[ovN x 18]).map nv) zo Tryz.underlying28 (by kernel_rfl) rfl (by decide) zx a9 zy (a4.blk.sl 1 1 (by decide) (by decide)) rfl (by simp[Value.oneCell']) (by unfold maxLen;omega) (by omega) a1.size (by rfl) (by simp[nv]) fun c1 c4 c6 c2 b8 a6=>?_
  refine zK _ _ ?_
  have d3:=ov18 (x:=x) (by omega)
  have a7:=a1.trans a6
  exact ze 3 (b7 _ _ _ ⟨j+1,(ovN x 18),xs++[x],_,_,rfl,rfl,a7,c2,by simp[a0],Qq _ _,by omega,by rw[←b4,Hq (x:=x) (by omega)];simp,by omega⟩ (by omega))
 refine xe 12 (.slice p (j+1) c) ?_
 have e:Ks t n=xs++[x]:=by rw[←b4,Ht (x:=x) (by omega)]
 have el:(Ks t n).length=j+1:=by rw[e];simp[a0]
 exact⟨_,rfl,a3,p,c,by rw[el],by rw[el,e];exact ho⟩
theorem Jb(t:Int)(n:Nat)(w:World)(h1:1≤t)(h2:t≤5)(hn:n≤32768) :
 C0 51 #[V0 t,V0 (n:Int)] w (Ret (V0 (Yi t n:Int)) w):=by
 refine zin 21 Tryz.func51 ?_
 refine xc 15 (args:=#[V0 t,V0 (n:Int)]) (Sq t n _ h1 h2 hn) ?_
 rintro _ W1 ⟨_,rfl,a3,p,c,rfl,ho⟩
 have a2:=Nat.le_refl w.heap.size
 have a1:=Zd ho a2
 refine zl 5 21 (fun zm a4 V=>∃ (k:Nat),a4=[(4,V0 0),(5,V0 (↑((Ks t n).take k).sum:Int)),(10,.slice p ((Ks t n).length) c),(11,V0 (↑((Ks t n).length):Int)),(12,V0 (k:Int))]∧zm=(Ks t n).length-((k:Int)).toNat∧B3 w V∧V.ownsRow w.heap.size 3 1 (.slice p (Ks t n).length c) (Ks t n).length ((Ks t n).map nv)∧k≤(Ks t n).length) ⟨0,rfl,rfl,a3,a1,Nat.zero_le _⟩ ?_
 rintro _ _ W2 ⟨k,rfl,rfl,a0,ho,hk⟩ J2 a5 r2
 have a9:=levL_len t n
 have a2:=Nm t n
 unfold Yi at a2
 have a8:=Zey (L:=Ks t n) (k+1)
 have a7:k<(Ks t n).length→((Ks t n).take (k+1)).sum=((Ks t n).take k).sum+(Ks t n).getD k 0:=Dg
 refine xid 6 ((k:Int)<(↑((Ks t n).length):Int)) (fun a6=>?_) (fun a6=>?_)
 ·refine xx 6 _ ((Ks t n).length) k 1 (Zu (Ze ho) rfl (k:=k) (by omega)).1 ?_
  refine xl 0 ((Zu (Ze ho) rfl (k:=k) (by omega)).2) ?_
  refine xwm 6 ((↑((Ks t n).take k).sum:Int)+(↑((Ks t n).getD k 0):Int)) (↑(((Ks t n).take k).sum+((Ks t n).getD k 0)):Int) ?_
  refine xwm 5 ((k:Int)+1) (↑(k+1):Int) ?_
  refine xv1 2 5 (show(V0 (↑(((Ks t n).take k).sum+((Ks t n).getD k 0)):Int):Value)=V0 (↑((Ks t n).take (k+1)).sum:Int) from by rw[Dg (by omega)]) ?_
  exact ze 0 (a5 _ _ _ ⟨k+1,rfl,rfl,a0,ho,by omega⟩ (by omega))
 refine xe 12 (V0 (↑((Ks t n).take k).sum:Int)) ?_
 have e:k=(Ks t n).length:=by omega
 subst e
 rw[List.take_length]
 exact⟨rfl,a0⟩
def Qw(n m i:Nat):Nat:=min m (n-i*m)
theorem Zc0{n m i:Nat}(hm:1≤m)(h:i<ovN n m):i*m≤n:=by
 unfold ovN at h
 rcases Nat.eq_zero_or_pos i with rfl|hi
 ·omega
 ·have h1:i+1≤(n+m-1)/m:=by omega
  have h2:=(Nat.le_div_iff_mul_le (by omega)).1 h1
  rw[Nat.add_mul] at h2
  omega
def Ei(n m k:Nat):List Value:=(List.range (ovN n m)).map fun i=>V0 (if i<k then(Qw n m i:Int) else 0)
def sizL(n m:Nat):List Nat:=(List.range (ovN n m)).map (Qw n m)
theorem Zft(n m:Nat):Ha (Value.int .i64 0).cells.toList (ovN n m)=Ei n m 0:=by
 rw[show(Value.int .i64 0).cells.toList=[Value.int .i64 0] from rfl,Ha,Ei]
 simp[List.map_const']
theorem sizK_all(n m:Nat):Ei n m (ovN n m)=(sizL n m).map nv:=by
 unfold Ei sizL nv
 rw[List.map_map]
 apply List.map_congr_left
 intro i hi
 rw[List.mem_range] at hi
 simp[hi]
theorem sizK_set{n m k:Nat}(h:k<ovN n m):(Ei n m k).set k (V0 (Qw n m k:Int))=Ei n m (k+1):=by
 apply List.ext_getElem?
 intro i
 by_cases hi:i<ovN n m
 ·by_cases e:k=i
  ·subst e
   rw[List.getElem?_set_self (by simpa [Ei] using h)]
   simp[Ei,List.getElem?_range h]
  ·rw[List.getElem?_set_ne e]
   simp only[Ei,List.getElem?_map,List.getElem?_range hi,Option.map_some]
   by_cases e2:i<k
   ·simp[e2,show i<k+1 by omega]
   ·simp[e2,show ¬ i<k+1 by omega]
 ·rw[List.getElem?_eq_none (by simp[Ei];omega),List.getElem?_eq_none (by simp[Ei];omega)]
theorem sizL_len(n m:Nat):(sizL n m).length=ovN n m:=by simp[sizL]
theorem Zba(n m:Nat)(w:World)(hn:n≤32768)(hm:1≤m)(hm2:m≤32768) :
 C0 107 #[V0 (n:Int),V0 (m:Int)] w (Qi (fun w' r=>∃ p c,r=.slice p (ovN n m) c∧w'.ownsRow w.heap.size 3 1 (.slice p (ovN n m) c) (ovN n m) ((sizL n m).map nv)) w):=by
 have a7:=Fs n m hm
 refine zin 40 Tryz.func107 ?_
 refine xgk 11 [8,9] (show(decide ((n:Int)<(0:Int)):Bool)=false from decide_eq_false (by omega)) ?_
 refine xgk 4 [11,12,13] (show(decide ((n:Int)>(32768:Int)):Bool)=false from decide_eq_false (by omega)) ?_
 refine xk 5 (show(decide ((m:Int)<(1:Int)):Bool)=false from decide_eq_false (by omega)) ?_
 refine xq 5 (congrArg V0 (show(if(32768:Int)<(m:Int) then(32768:Int) else(m:Int):Int)=(m:Int) from if_neg (by omega))) ?_
 refine xr 7 (args:=#[V0 (n:Int),V0 (m:Int)]) (Mr n m _ (by omega) hm (by omega)) fun W3 a3=>?_
 refine xmk 0 fun _ _ _ _ zJ zQ zo zx zy zK=>Vq (ovN n m) (V0 0) 1 8 (Ei n m 0) zo zx zy Tryz.underlying28 (by kernel_rfl) rfl (by omega) (by omega) (Zft n m) fun b4 W4 n4=>?_
 refine zK _ _ ?_
 have hB:=bln a3 n4.below
 refine zl 12 40 (fun zm a4 V=>∃ (k:Nat),a4=[(0,V0 (n:Int)),(1,V0 (m:Int)),(4,S0),(5,.slice (S1 b4) (ovN n m) (ovN n m)),(24,V0 (↑(ovN n m):Int)),(25,V0 (k:Int))]∧zm=ovN n m-((k:Int)).toNat∧B3 w V∧Blk V b4 (Ei n m k) 3∧k≤ovN n m) ⟨0,rfl,rfl,hB,n4.blk,Nat.zero_le _⟩ ?_
 rintro _ _ W5 ⟨k,rfl,rfl,a1,a0,hk⟩ J5 a6 r5
 have a8:k<ovN n m→k*m≤n:=Zc0 hm
 refine xid 6 ((k:Int)<(↑(ovN n m):Int)) (fun a5=>?_) (fun a5=>?_)
 ·refine xwm 17 ((k:Int)*(m:Int)) (↑(k*m):Int) ?_
  refine xwm 0 ((n:Int)-(↑(k*m):Int)) (↑(n-(k*m)):Int) ?_
  refine xxb 1 b4 0 (ovN n m) k 1 ?_
  refine xsg 0 a0 (0+k*1) (V0 (if(↑(n-(k*m)):Int)<(m:Int) then(↑(n-(k*m)):Int) else(m:Int))) (by simp[Ei];omega) fun W7 u7 k7=>?_
  replace k7:Blk W7 b4 (Ei n m (k+1)) 3:=by rw[←(show(Ei n m k).set (0+k*1) (V0 (if(↑(n-(k*m)):Int)<(m:Int) then(↑(n-(k*m)):Int) else(m:Int)))=Ei n m (k+1) from by rw[show 0+k*1=k by omega,show(if(↑(n-(k*m)):Int)<(m:Int) then(↑(n-(k*m)):Int) else(m:Int))=(↑(Qw n m k):Int) from Cs m (n-k*m)];exact sizK_set (by omega))];exact k7
  have g4:=n4.ge a3
  refine xwm 4 ((k:Int)+1) (↑(k+1):Int) ?_
  have a2:=u7.below a1 g4
  exact ze 2 (a6 _ _ _ ⟨k+1,rfl,rfl,a2,k7,by omega⟩ (by omega))
 have g4:=n4.ge a3
 refine xe 12 (.slice (S1 b4) (ovN n m) (ovN n m)) ?_
 have e:k=ovN n m:=by omega
 subst e
 have ho:=Xf (size:=1) (n:=ovN n m) a0 g4 (by simp[Ei]) (by unfold maxLen;omega)
 rw[sizK_all] at ho
 exact⟨_,rfl,a1,_,_,rfl,ho⟩
def Zh(l:Bl):Nat→Nat→Nat
 | _,0=>0
 | k,w+1=>(l.getD k 0).toNat+256*Zh l (k+1) w
theorem Ub(l:Bl):∀ (w k:Nat),Zh l k w<256 ^ w
 | 0,k=>by simp[Zh]
 | w+1,k=>by
  have:=Ub l w (k+1)
  have h:=(l.getD k 0).toNat_lt
  rw[Zh,Nat.pow_succ];omega
theorem Tz(l:Bl)(k w:Nat)(hw:w≤7):Zh l k w<72057594037927936:=Nat.lt_of_lt_of_le (Ub l w k) (by rw[show(72057594037927936:Nat)=256 ^ 7 from rfl];exact Nat.pow_le_pow_right (by decide) hw)
theorem Qt(l:Bl)(k w:Nat)(hw:w≤4):Zh l k w<4294967296:=Nat.lt_of_lt_of_le (Ub l w k) (by rw[show(4294967296:Nat)=256 ^ 4 from rfl];exact Nat.pow_le_pow_right (by decide) hw)
theorem Ah{n b:Nat}(hn:n<72057594037927936)(hb:b<256):IntKind.u64.wrap (↑(BitVec.ofInt 64 (IntKind.u64.wrap ((n:Int)*2 ^ 8)) ||| BitVec.ofInt 64 (b:Int)).toNat:Int)=((b+256*n:Nat):Int):=by
 have h1:IntKind.u64.wrap ((n:Int)*2 ^ 8)=((n*2 ^ 8:Nat):Int):=by
  rw[show(n:Int)*2 ^ 8=((n*2 ^ 8:Nat):Int) by omega];exact IntWalk.u64_in _ (by constructor<;>omega)
 rw[h1,BitVec.ofInt_natCast,BitVec.ofInt_natCast,BitVec.toNat_or,BitVec.toNat_ofNat,BitVec.toNat_ofNat,Nat.mod_eq_of_lt (by omega),Nat.mod_eq_of_lt (by omega)]
 rw[←Nat.shiftLeft_eq,←Nat.shiftLeft_add_eq_or_of_lt (by exact hb:b<2 ^ 8),Nat.shiftLeft_eq,IntWalk.u64_in _ (by constructor<;>omega)]
 congr 1;omega
theorem Zdb{n:Nat}(h:n<18446744073709551616):IntKind.u64.wrap (n:Int)=(n:Int):=IntWalk.u64_in _ (by constructor<;>omega)
theorem Oj(a:O0)(m c k w:Nat)(hw:w=1∨w=2∨w=4∨w=8)(hk:k+w≤m)(hm:m≤100000000)(W:World) :
 C0 139 #[.slice a m c,V0 (k:Int),V0 (w:Int)] W (Ret (V0 0) W):=by
 rcases hw with rfl|rfl|rfl|rfl
 ·exact there_1 a m c k hk hm W
 ·exact Zfr a m c k hk hm W
 ·exact Zf6 a m c k hk hm W
 ·exact there_8 a m c k hk hm W
theorem Iv(a:O0)(c k w:Nat)(l:Bl)(W:World)(hw:w=1∨w=2∨w=4∨w=8)(hk:k+w≤l.length)(hl:l.length≤100000000)(h:Bys W (.slice a l.length c) l)(hq:Zh l k w<9223372036854775808) :
 C0 79 #[.slice a l.length c,V0 (k:Int),V0 (w:Int)] W (Ret (.tuple #[V0 (Zh l k w:Int),V0 0]) W):=by
 refine zin 38 Tryz.func79 ?_
 refine xr 12 (args:=#[.slice a l.length c,V0 (k:Int),V0 (w:Int)]) (Oj a l.length c k w hw hk hl _) fun W1 a1=>?_
 refine xw 21 ((w:Int)-1) ?_
 refine zl 4 38 (fun zm a2 V=>∃ (j r:Nat),a2=[(0,.slice a l.length c),(1,V0 (k:Int)),(6,V0 0),(7,V0 0),(9,.int .u64 (↑(Zh l (k+j) r):Int)),(10,V0 ((j:Int)-1))]∧zm=(((j:Int)-1)+1).toNat∧B3 W V∧j+r=w) ⟨w,0,rfl,rfl,a1,by omega⟩ ?_
 rintro _ _ W2 ⟨j,r,rfl,rfl,a0,a5⟩ J2 a3 r2
 refine xid 7 ((j:Int)-1≥(0:Int)) (fun a4=>?_) (fun a4=>?_)
 ·refine xq 10 (congrArg V0 (show IntKind.i64.wrap ((k:Int)+((j:Int)-1))=(↑(k+(j-1)):Int) from(show IntKind.i64.wrap ((k:Int)+((j:Int)-1))=((k:Int)+((j:Int)-1)) from by first|exact IntWalk.i64_in _ (by omega)|(simp only[IntKind.wrap];omega)).trans (by omega))) ?_
  refine xx 0 _ l.length (k+(j-1)) 1 (Bys.elem h (k:=(k+(j-1))) (by omega)).1 ?_
  refine xl 0 ((Bys.elem (h.below a0) (k:=(k+(j-1))) (by omega)).2) ?_
  refine xq 0 (congrArg (Value.int .u64) (show(IntKind.u64.wrap (↑(l.getD (k+(j-1)) 0).toNat:Int):Int)=(↑(l.getD (k+(j-1)) 0).toNat:Int) from Zdb (by have:=(l.getD (k+(j-1)) 0).toNat_lt;omega))) ?_
  refine xq 0 (congrArg (Value.int .u64) (show(IntKind.u64.wrap (↑(BitVec.ofInt 64 (IntKind.u64.wrap ((↑(Zh l (k+j) r):Int)*2 ^ 8)) ||| BitVec.ofInt 64 (↑(l.getD (k+(j-1)) 0).toNat:Int)).toNat:Int):Int)=(↑(Zh l (k+(j-1)) (r+1)):Int) from(Ah (Tz l (k+j) r (by omega)) (l.getD (k+(j-1)) 0).toNat_lt).trans (congrArg (fun x:Nat=>(x:Int)) (by rw[Zh,show k+(j-1)+1=k+j by omega])))) ?_
  refine xq 6 (congrArg V0 (show IntKind.i64.wrap ((j:Int)-1-1)=((↑(j-1:Nat):Int)-1) from(show IntKind.i64.wrap ((j:Int)-1-1)=((j:Int)-1-1) from by first|exact IntWalk.i64_in _ (by omega)|(simp only[IntKind.wrap];omega)).trans (by omega))) ?_
  exact ze 2 (a3 _ _ _ ⟨j-1,r+1,rfl,rfl,a0,by omega⟩ (by omega))
 refine xk 12 (show(decide ((↑(Zh l (k+j) r):Int)≥(9223372036854775808:Int)):Bool)=false from by rw[(show Zh l (k+j) r=Zh l k w from by rw[show j=0 by omega,show r=w by omega];rfl)];exact decide_eq_false (by omega)) ?_
 refine xq 5 (congrArg V0 (show(IntKind.i64.wrap (↑(Zh l (k+j) r):Int):Int)=(↑(Zh l k w):Int) from by rw[(show Zh l (k+j) r=Zh l k w from by rw[show j=0 by omega,show r=w by omega];rfl)];exact Gp hq)) ?_
 exact xe 5 (.tuple #[V0 (↑(Zh l k w):Int),V0 0]) ⟨rfl,a0⟩
theorem Zff(a:O0)(c k w:Nat)(l:Bl)(W:World)(hw:w=1∨w=2∨w=4∨w=8)(hk:k+w≤l.length)(hl:l.length≤100000000)(h:Bys W (.slice a l.length c) l)(hq:¬ Zh l k w<9223372036854775808) :
 C0 79 #[.slice a l.length c,V0 (k:Int),V0 (w:Int)] W (Ret (.tuple #[V0 0,V0 2]) W):=by
 refine zin 38 Tryz.func79 ?_
 refine xr 12 (args:=#[.slice a l.length c,V0 (k:Int),V0 (w:Int)]) (Oj a l.length c k w hw hk hl _) fun W1 a1=>?_
 refine xw 21 ((w:Int)-1) ?_
 refine zl 4 38 (fun zm a2 V=>∃ (j r:Nat),a2=[(0,.slice a l.length c),(1,V0 (k:Int)),(6,V0 0),(7,V0 0),(9,.int .u64 (↑(Zh l (k+j) r):Int)),(10,V0 ((j:Int)-1))]∧zm=(((j:Int)-1)+1).toNat∧B3 W V∧j+r=w) ⟨w,0,rfl,rfl,a1,by omega⟩ ?_
 rintro _ _ W2 ⟨j,r,rfl,rfl,a0,a5⟩ J2 a3 r2
 refine xid 7 ((j:Int)-1≥(0:Int)) (fun a4=>?_) (fun a4=>?_)
 ·refine xq 10 (congrArg V0 (show IntKind.i64.wrap ((k:Int)+((j:Int)-1))=(↑(k+(j-1)):Int) from(show IntKind.i64.wrap ((k:Int)+((j:Int)-1))=((k:Int)+((j:Int)-1)) from by first|exact IntWalk.i64_in _ (by omega)|(simp only[IntKind.wrap];omega)).trans (by omega))) ?_
  refine xx 0 _ l.length (k+(j-1)) 1 (Bys.elem h (k:=(k+(j-1))) (by omega)).1 ?_
  refine xl 0 ((Bys.elem (h.below a0) (k:=(k+(j-1))) (by omega)).2) ?_
  refine xq 0 (congrArg (Value.int .u64) (show(IntKind.u64.wrap (↑(l.getD (k+(j-1)) 0).toNat:Int):Int)=(↑(l.getD (k+(j-1)) 0).toNat:Int) from Zdb (by have:=(l.getD (k+(j-1)) 0).toNat_lt;omega))) ?_
  refine xq 0 (congrArg (Value.int .u64) (show(IntKind.u64.wrap (↑(BitVec.ofInt 64 (IntKind.u64.wrap ((↑(Zh l (k+j) r):Int)*2 ^ 8)) ||| BitVec.ofInt 64 (↑(l.getD (k+(j-1)) 0).toNat:Int)).toNat:Int):Int)=(↑(Zh l (k+(j-1)) (r+1)):Int) from(Ah (Tz l (k+j) r (by omega)) (l.getD (k+(j-1)) 0).toNat_lt).trans (congrArg (fun x:Nat=>(x:Int)) (by rw[Zh,show k+(j-1)+1=k+j by omega])))) ?_
  refine xq 6 (congrArg V0 (show IntKind.i64.wrap ((j:Int)-1-1)=((↑(j-1:Nat):Int)-1) from(show IntKind.i64.wrap ((j:Int)-1-1)=((j:Int)-1-1) from by first|exact IntWalk.i64_in _ (by omega)|(simp only[IntKind.wrap];omega)).trans (by omega))) ?_
  exact ze 2 (a3 _ _ _ ⟨j-1,r+1,rfl,rfl,a0,by omega⟩ (by omega))
 refine xk 12 (show(decide ((↑(Zh l (k+j) r):Int)≥(9223372036854775808:Int)):Bool)=true from by rw[(show Zh l (k+j) r=Zh l k w from by rw[show j=0 by omega,show r=w by omega];rfl)];exact decide_eq_true (by omega)) ?_
 exact xe 8 (.tuple #[V0 0,V0 2]) ⟨rfl,a0⟩
def Jw(l:Bl):Nat→List Nat→List Nat
 | _,[]=>[]
 | k,w::r=>Zh l k w::Jw l (k+w) r
theorem Ef(l:Bl):∀ (ws:List Nat) (k:Nat),(Jw l k ws).length=ws.length
 | [],k=>rfl
 | w::r,k=>by simp[Jw,Ef l r]
theorem Nv(l:Bl)(w:Nat):∀ (ws:List Nat) (k:Nat),Jw l k (ws++[w])=Jw l k ws++[Zh l (k+ws.sum) w]
 | [],k=>by simp[Jw]
 | x::r,k=>by simp[Jw,Nv l w r,Nat.add_assoc]
theorem Eh(l:Bl):∀ (ws:List Nat) (k i:Nat),i<ws.length→(Jw l k ws).getD i 0=Zh l (k+(ws.take i).sum) (ws.getD i 0)
 | [],k,i,h=>by simp at h
 | w::r,k,0,h=>by simp[Jw]
 | w::r,k,i+1,h=>by
  have:=Eh l r (k+w) i (by simpa using h)
  simp only[List.getD_eq_getElem?_getD] at this ⊢
  simp[Jw,this,Nat.add_assoc]
theorem Uk{ws:List Nat}{i:Nat}(h:i<ws.length):ws.take (i+1)=ws.take i++[ws.getD i 0]:=by
 rw[List.take_succ_eq_append_getElem h];simp[List.getD,h]
theorem Mk{ws:List Nat}{i:Nat}(h:i<ws.length):(ws.take i).sum+ws.getD i 0≤ws.sum:=by
 have h1:=Dg h;have h2:=Zey (L:=ws) (i+1);omega
def getV(l:Bl)(k w:Nat):Int:=if Zh l k w<9223372036854775808 then(Zh l k w:Int) else 0
def Zfk(l:Bl)(k w:Nat):Int:=if Zh l k w<9223372036854775808 then 0 else 2
theorem Zds{l:Bl}{k w:Nat}(h:Zfk l k w=0):Zh l k w<9223372036854775808:=by unfold Zfk at h;split at h;assumption;cases h
theorem getE_two{l:Bl}{k w:Nat}(h:Zfk l k w≠0):¬ Zh l k w<9223372036854775808∧Zfk l k w=2:=by unfold Zfk at h ⊢;split at h;exact absurd rfl h;rename_i h2;exact⟨h2,if_neg h2⟩
theorem Zd7{l:Bl}{k w:Nat}(h:Zh l k w<9223372036854775808):Zfk l k w=0:=if_pos h
theorem Tt{l:Bl}{k w:Nat}(h:Zh l k w<9223372036854775808):getV l k w=(Zh l k w:Int):=if_pos h
theorem Zd1(a:O0)(c k w:Nat)(l:Bl)(W:World)(hw:w=1∨w=2∨w=4∨w=8)(hk:k+w≤l.length)(hl:l.length≤100000000)(h:Bys W (.slice a l.length c) l) :
 C0 79 #[.slice a l.length c,V0 (k:Int),V0 (w:Int)] W (Ret (.tuple #[V0 (getV l k w),V0 (Zfk l k w)]) W):=by
 by_cases hq:Zh l k w<9223372036854775808
 ·rw[Tt hq,Zd7 hq];exact Iv a c k w l W hw hk hl h hq
 ·rw[getV,Zfk,if_neg hq,if_neg hq];exact Zff a c k w l W hw hk hl h hq
theorem Fo(a:O0)(c:Nat)(l:Bl)(aw:O0)(cw:Nat)(ws:List Nat)(W:World)(hk:∀ i,i<ws.length→ws.getD i 0=1∨ws.getD i 0=2∨ws.getD i 0=4∨ws.getD i 0=8)(hs:ws.sum≤l.length)(hl:l.length≤100000000)(hw:ws.length≤1000)(h:Bys W (.slice a l.length c) l)(hws:Sl W (.slice aw ws.length cw) ws.length (ws.map nv))(hq:∀ i,i<ws.length→(Jw l 0 ws).getD i 0<9223372036854775808) :
 C0 136 #[.slice a l.length c,.slice aw ws.length cw] W (Qi (fun w' r=>∃ p c,r=.tuple #[.slice p ws.length c,V0 0]∧w'.ownsRow W.heap.size 3 1 (.slice p ws.length c) ws.length ((Jw l 0 ws).map nv)) W):=by
 refine zin 37 Tryz.func136 ?_
 have hB:=Below.refl W.heap.size W
 refine zl 25 37 (fun zm b0 V=>∃ (i:Nat) (p:O0) (c2:Nat),b0=[(0,.slice a l.length c),(6,.slice p i c2),(7,V0 (↑(ws.take i).sum:Int)),(12,.slice aw ws.length cw),(13,V0 (ws.length:Int)),(14,V0 (i:Int))]∧zm=ws.length-((i:Int)).toNat∧B3 W V∧V.ownsRow W.heap.size 3 1 (.slice p i c2) i ((Jw l 0 (ws.take i)).map nv)∧i≤ws.length) ⟨0,_,_,rfl,rfl,hB,World.ownsRow_nil _ _ _ _,Nat.zero_le _⟩ ?_
 rintro _ _ W1 ⟨i,p,c2,rfl,rfl,a0,ho,hi⟩ J1 a9 r1
 have b3:i<ws.length→(ws.take i).sum+ws.getD i 0≤ws.sum:=Mk
 have a8:i<ws.length→(Jw l 0 ws).getD i 0=Zh l (ws.take i).sum (ws.getD i 0):=fun h=>by rw[Eh l ws 0 i h,Nat.zero_add]
 refine xid 6 ((i:Int)<(ws.length:Int)) (fun b2=>?_) (fun b2=>?_)
 ·refine xx 6 _ ws.length i 1 (Zu hws rfl (k:=i) (by omega)).1 ?_
  refine xl 0 ((Zu (hws.below a0) rfl (k:=i) (by omega)).2) ?_
  refine xr 8 (args:=#[.slice a l.length c,V0 (↑(ws.take i).sum:Int),V0 (↑(ws.getD i 0):Int)]) (Zd1 a c (ws.take i).sum (ws.getD i 0) l _ (hk i (by omega)) (by omega) hl (h.below a0)) fun W3 a6=>?_
  refine xk 14 (show(((Zfk l (ws.take i).sum (ws.getD i 0)) != (0:Int)):Bool)=false from by rw[Zd7 (by rw[←a8 (by omega)];exact hq i (by omega))];rfl) ?_
  refine xbs 6 1 [V0 (getV l (ws.take i).sum (ws.getD i 0))] 3 fun b4 W4 n4=>?_
  have a1:=bln a0 a6
  have g4:=n4.ge a1
  have a3:=Zb ho a6
  have a7:=Zz a3 n4
  have a4:=Zb a3 n4.below
  have a2:=bln a1 n4.below
  refine xbi 0 fun _ _ _ _ zJ zQ zo zx zy zK=>Zx (m:=1) (news:=[V0 (getV l (ws.take i).sum (ws.getD i 0))]) (V0 0) 1 8 (i+1) ((Jw l 0 (ws.take (i+1))).map nv) zo Tryz.underlying28 (by kernel_rfl) rfl (by decide) zx a4 zy (n4.blk.sl 1 1 (by decide) (by decide)) rfl (by simp[Value.oneCell']) (by unfold maxLen;omega) (by omega) a2.size (by rfl) (by rw[Uk (by omega),Nv,Nat.zero_add,List.map_append];simp only[List.map_cons,List.map_nil,nv];rw[Tt (by rw[←a8 (by omega)];exact hq i (by omega))]) fun b5 b6 W5 o5 b7 b1=>?_
  refine zK _ _ ?_
  refine xwm 6 ((↑(ws.take i).sum:Int)+(↑(ws.getD i 0):Int)) (↑((ws.take i).sum+(ws.getD i 0)):Int) ?_
  refine xwm 5 ((i:Int)+1) (↑(i+1):Int) ?_
  refine xv1 2 7 (show(V0 (↑((ws.take i).sum+(ws.getD i 0)):Int):Value)=V0 (↑(ws.take (i+1)).sum:Int) from by rw[Uk (by omega),List.sum_append];simp) ?_
  have a5:=a2.trans b1
  exact ze 0 (a9 _ _ _ ⟨i+1,_,_,rfl,rfl,a5,o5,by omega⟩ (by omega))
 refine xe 13 (.tuple #[.slice p i c2,V0 0]) ?_
 obtain rfl:i=ws.length:=by omega
 rw[List.take_length] at ho
 exact⟨_,rfl,a0,_,_,rfl,ho⟩
theorem Zat(a:O0)(c:Nat)(l:Bl)(aw:O0)(cw:Nat)(ws:List Nat)(W:World)(hk:∀ i,i<ws.length→ws.getD i 0=1∨ws.getD i 0=2∨ws.getD i 0=4∨ws.getD i 0=8)(hs:ws.sum≤l.length)(hl:l.length≤100000000)(hw:ws.length≤1000)(h:Bys W (.slice a l.length c) l)(hws:Sl W (.slice aw ws.length cw) ws.length (ws.map nv))(hq:¬ ∀ i,i<ws.length→(Jw l 0 ws).getD i 0<9223372036854775808) :
 C0 136 #[.slice a l.length c,.slice aw ws.length cw] W (Ret (.tuple #[S0,V0 2]) W):=by
 refine zin 37 Tryz.func136 ?_
 have hB:=Below.refl W.heap.size W
 refine zl 25 37 (fun zm b6 V=>∃ (i:Nat) (p:O0) (c2:Nat),b6=[(0,.slice a l.length c),(6,.slice p i c2),(7,V0 (↑(ws.take i).sum:Int)),(12,.slice aw ws.length cw),(13,V0 (ws.length:Int)),(14,V0 (i:Int))]∧zm=ws.length-((i:Int)).toNat∧B3 W V∧V.ownsRow W.heap.size 3 1 (.slice p i c2) i ((Jw l 0 (ws.take i)).map nv)∧i≤ws.length∧(∀ j,j<i→(Jw l 0 ws).getD j 0<9223372036854775808)) ⟨0,_,_,rfl,rfl,hB,World.ownsRow_nil _ _ _ _,Nat.zero_le _,?_⟩ ?_
 ·exact fun j hj=>absurd hj (by omega)
 rintro _ _ W1 ⟨i,p,c2,rfl,rfl,a0,ho,hi,a2⟩ J1 b2 r1
 have b8:i<ws.length→(ws.take i).sum+ws.getD i 0≤ws.sum:=Mk
 have b4:i<ws.length→(Jw l 0 ws).getD i 0=Zh l (ws.take i).sum (ws.getD i 0):=fun h=>by rw[Eh l ws 0 i h,Nat.zero_add]
 refine xid 6 ((i:Int)<(ws.length:Int)) (fun b3=>?_) (fun b3=>?_)
 ·refine xx 6 _ ws.length i 1 (Zu hws rfl (k:=i) (by omega)).1 ?_
  refine xl 0 ((Zu (hws.below a0) rfl (k:=i) (by omega)).2) ?_
  refine xr 8 (args:=#[.slice a l.length c,V0 (↑(ws.take i).sum:Int),V0 (↑(ws.getD i 0):Int)]) (Zd1 a c (ws.take i).sum (ws.getD i 0) l _ (hk i (by omega)) (by omega) hl (h.below a0)) fun W3 b0=>?_
  refine xin 14 (Zfk l (ws.take i).sum (ws.getD i 0)) (0:Int) (fun a7=>?_) (fun a7=>?_)
  ·have a5:=getE_two a7
   have a6:=bln a0 b0
   refine xe 14 (.tuple #[S0,V0 (Zfk l (ws.take i).sum (ws.getD i 0))]) ?_
   rw[a5.2];exact⟨rfl,a6⟩
  have a5:=Zds a7
  refine xbs 6 1 [V0 (getV l (ws.take i).sum (ws.getD i 0))] 3 fun b5 W5 n5=>?_
  have a4:=bln a0 b0
  have g5:=n5.ge a4
  have a3:=Zb ho b0
  have b1:=Zz a3 n5
  have a8:=Zb a3 n5.below
  have a1:=bln a4 n5.below
  refine xbi 0 fun _ _ _ _ zJ zQ zo zx zy zK=>Zx (m:=1) (news:=[V0 (getV l (ws.take i).sum (ws.getD i 0))]) (V0 0) 1 8 (i+1) ((Jw l 0 (ws.take (i+1))).map nv) zo Tryz.underlying28 (by kernel_rfl) rfl (by decide) zx a8 zy (n5.blk.sl 1 1 (by decide) (by decide)) rfl (by simp[Value.oneCell']) (by unfold maxLen;omega) (by omega) a1.size (by rfl) (by rw[Uk (by omega),Nv,Nat.zero_add,List.map_append];simp only[List.map_cons,List.map_nil,nv];rw[Tt a5]) fun c0 b9 W6 o6 c1 b7=>?_
  refine zK _ _ ?_
  refine xwm 6 ((↑(ws.take i).sum:Int)+(↑(ws.getD i 0):Int)) (↑((ws.take i).sum+(ws.getD i 0)):Int) ?_
  refine xwm 5 ((i:Int)+1) (↑(i+1):Int) ?_
  refine xv1 2 7 (show(V0 (↑((ws.take i).sum+(ws.getD i 0)):Int):Value)=V0 (↑(ws.take (i+1)).sum:Int) from by rw[Uk (by omega),List.sum_append];simp) ?_
  have a9:=a1.trans b7
  exact ze 0 (b2 _ _ _ ⟨i+1,_,_,rfl,rfl,a9,o6,by omega,fun j hj=>(Nat.lt_or_ge j i).elim (fun q=>a2 j q) (fun q=>by obtain rfl:j=i:=(by omega);rw[b4 (by omega)];exact a5)⟩ (by omega))
 refine xe 13 (.tuple #[.slice p i c2,V0 0]) ?_
 exact absurd (fun j hj=>a2 j (by omega)) hq
theorem Jf{P:Program}{a:Act}{o:Oper}{src dst e:TypeId}{x:Operand}{b:O0}{n c:Nat}{l:Bl}{w:World}(ho:o.op=.convert src dst x)(hx:a.eval x=.slice b n c)(h:Bys w (.slice b n c) l)(hl:l.length=n)
 (hs:P.underlying src=some (.slice e)) (he:P.underlying e=some (.int .u8)) (hd:P.underlying dst=some .string):(execOp a.eval o).run P w=.ok (.value (.string ⟨l.toArray⟩)) w:=by
 have hr:(convert src dst (.slice b n c)).run P w=.ok (.string ⟨l.toArray⟩) w:=by
  subst hl
  rcases Sl.at h with hn|⟨g,a0,rfl,hc⟩
  ·obtain rfl:l=[]:=by simpa using hn
   cases b with
   | none=>rw[run_convert_bytes_string w src dst e none _ c hs he hd];rfl
   | some p=>exact run_convert_bytes_back w src dst e p c [] hs he hd (fun j hj=>by simp at hj)
  ·exact run_convert_bytes_back w src dst e _ c l hs he hd (fun j hj=>by rw[Addr.add_mid];exact hc j _ (by simp[List.getElem?_eq_getElem hj,bv]))
 simp only[execOp,ho,hx,Sem.run_bind,hr];rfl
theorem Al.below{B ba b g n c:Nat}{pa:O0}{ca f N k:Nat}{l:Bl}{w W:World}(h:Al B ba b g n c pa ca f N k l w)(hb:B3 w W):Al B ba b g n c pa ca f N k l W:=⟨h.blkA.below hb,h.blkI.below hb,Zb h.data hb,Zb h.nums hb⟩
theorem Hg{w:World}{base n c size:Nat}{e:TypeId}{p:O0}{xs:List Value}(h:w.ownsRow base e size (.slice p n c) n xs)(hn:0<n):∃ g,p=some ⟨g,0,none⟩∧n≤c:=by
 rcases h.2 with ⟨_,h0⟩|⟨g,a1,a0,hv,_,_,hc,_⟩
 ·omega
 ·simp only[Value.slice.injEq] at hv;exact⟨g,hv.1,by omega⟩
theorem Bys.cap{w:World}{a:O0}{n c:Nat}{l:Bl}(h:Bys w (.slice a n c) l)(hl:l.length=n):n≤c:=by
 rcases h with ⟨a',c',h1,h2,_⟩|⟨b,a0,cap,h1,h2,_,_⟩
 ·omega
 ·simp only[Value.slice.injEq] at h1;omega
theorem Zf1(a:O0)(c n m:Nat)(l:Bl)(w:World)(hn:l.length=n)(hm:min (n/256) 14400*256=m)(h:Bys w (.slice a n c) l)(hl:n≤100000000)(hc:n≤c) :
 C0 6 #[.slice a n c] w (Qi (fun w' r=>∃ b p c,r=P0 b∧w.heap.size≤b∧Blk w' b [.slice p m c] 72∧w'.ownsRow w.heap.size 5 1 (.slice p m c) m ((l.take m).map bv)) w):=by
 subst hn hm;exact Ap a c l w h hl hc
theorem Ou(b:Nat)(p0:O0)(n c f N:Nat)(fi:Int)(hfi:fi=(f:Int))(hN:n/256-f=N)(w:World)(hk:Blk w b [.slice p0 n c] 72)(hn:n≤3686400)(h1:1≤f)(h2:f≤n/256) :
 C0 20 #[P0 b,V0 fi] w (Qi (fun w' r=>∃ ba p c2,r=.tuple #[P0 ba,.nilIface]∧w.heap.size≤ba∧Blk w' ba [.slice p N c2,V0 0,P0 b] 125∧w'.ownsRow w.heap.size 3 1 (.slice p N c2) N ((Bf f N).map V0)) w):=by
 subst hfi hN;exact Zdq b p0 n c f w hk hn h1 h2
end Go.Proofs.YtgphgaehfdfjjaaGreatDoor
namespace Go.Proofs.YtgphgaehfdfjjaaGreatDoor
set_option maxHeartbeats 8000000
set_option maxRecDepth 100000
open Go.RowKit Go.Extern.Stop Go.Stop Go.Extern
set_option linter.unusedVariables false
attribute [local irreducible] wpList wpAnyH Code.wp Oper.wp Go
section
variable {P:Program} {a:Act}
theorem Hd{o:Oper}{t e:TypeId}{x y y2:Operand}{b:O0}{n k h c:Nat}{i j:Int}{ki kj:IntKind}(size:Nat)(ho:o.op=.slice t x (some y) (some y2) none)(hx:a.eval x=.slice b n c)(hy:a.eval y=.int ki i)(hi:i=(k:Int))(hy2:a.eval y2=.int kj j)(hj:j=(h:Int))(hk:k≤h)(hc:h≤c)
 (ht:P.underlying t=some (.slice e)) (hs:(P.info? e).map (·.size)=some size) (w:World):(execOp a.eval o).run P w=.ok (.value (.slice (Jh b k c size) (h-k) (c-k))) w:=by
 cases hq:P.info? e with
 | none=>simp[hq] at hs
 | some q =>
  have a0:q.size=size:=by simpa [hq] using hs
  subst hi hj
  have h1:(0:Int)≤(k:Int):=by omega
  have h2:(0:Int)≤(h:Int):=by omega
  have h3:(k:Int)≤(h:Int):=by omega
  have h4:(h:Int)≤(c:Int):=by omega
  by_cases h5:c=k
  ·simp_all [execOp,Instr.sliceAt,Instr.slice,Instr.sliceBounds,Instr.sliceBound,asIntOf,run_underlying ht,sizeOf,typeInfo,Jh]
  ·simp_all [execOp,Instr.sliceAt,Instr.slice,Instr.sliceBounds,Instr.sliceBound,asIntOf,run_underlying ht,sizeOf,typeInfo,Jh]
end
theorem Bys.cut{w:World}{b:O0}{n c:Nat}{l:Bl}(h:Bys w (.slice b n c) l)(hl:l.length=n)(k m:Nat)(hk:k≤m)(hm:m≤n):Bys w (.slice (Jh b k c 1) (m-k) (c-k)) ((l.drop k).take (m-k)):=by
 have a0:((l.drop k).take (m-k)).length=m-k:=by simp;omega
 have a2:=Bys.cap h hl
 rcases h with ⟨a',c',h1,h2,h3⟩|⟨g,a1,a3,h1,h2,h3,h4⟩
 ·obtain rfl:k=0:=by omega
  obtain rfl:m=0:=by omega
  refine .inl ⟨Jh b 0 c 1,c-0,?_,by simp,by simp⟩
  simp
 ·simp only[Value.slice.injEq] at h1
  obtain⟨rfl,_,rfl⟩:=h1
  by_cases hz:m-k=0
  ·refine .inl ⟨Jh (some ⟨g,a1,none⟩) k c 1,c-k,by rw[hz],by omega,?_⟩
   rw[hz];rfl
  ·refine .inr ⟨g,a1+k*1,c-k,?_,by omega,by omega,fun j x hj=>?_⟩
   ·rw[Jh,if_neg (by omega),a0];simp[Addr.add]
   ·rw[List.getElem?_map,List.getElem?_take] at hj
    split at hj
    ·rw[List.getElem?_drop] at hj
     have:=h4 (k+j) x (by rw[List.getElem?_map];exact hj)
     rwa [Nat.mul_one,Nat.add_assoc]
    ·cases hj
def Ve(l:Bl):Bool:=l.all (·==0)
theorem Bd{l:Bl}(h:∀ j,j<l.length→l.getD j 0=0):Ve l=true:=by
 unfold Ve
 rw[List.all_eq_true]
 intro x hx
 obtain⟨j,hj,rfl⟩:=List.mem_iff_getElem.1 hx
 have:=h j hj
 simpa [List.getD,hj] using this
theorem Sh{l:Bl}{j:Nat}(hj:j<l.length)(h:((l.getD j 0).toNat:Int)≠0):Ve l=false:=by
 unfold Ve
 rw[List.all_eq_false]
 refine⟨l[j],List.getElem_mem hj,?_⟩
 intro h2
 apply h
 have:l[j]=0:=by simpa using h2
 simp[List.getD,hj,this]
theorem Zer{x:UInt8}(h:(x.toNat:Int)=0):x=0:=by
 have h1:x.toNat=0:=by omega
 exact UInt8.toNat_inj.1 (by rw[h1];rfl)
theorem zero_1(n:Int)(w:World) :
 C0 138 #[.int .u8 n] w (Ret (.bool (n != 0)) w):=by
 refine zin 5 Tryz.func138 ?_
 exact xe 13 (.bool (n != (0:Int))) ⟨rfl,(B4 w)⟩
theorem Zd3(a:O0)(c:Nat)(l:Bl)(w:World)(hl:l.length≤100000000)(h:Bys w (.slice a l.length c) l) :
 C0 177 #[.slice a l.length c,.func (.func 138) #[] #[]] w (fun e w'=>(Ve l=true∧e=.returned (V0 (-1))∧B3 w w')∨(Ve l=false∧∃ i:Nat,e=.returned (V0 (i:Int))∧B3 w w')):=by
 refine zin 19 Tryz.func177 ?_
 have hB:=Below.refl w.heap.size w
 refine zl 14 19 (fun zm a5 V=>∃ (i:Nat),a5=[(0,.slice a l.length c),(1,.func (.func 138) #[] #[]),(7,V0 (l.length:Int)),(8,V0 (i:Int))]∧zm=l.length-((i:Int)).toNat∧B3 w V∧i≤l.length∧(∀ j,j<i→l.getD j 0=0)) ⟨0,rfl,rfl,hB,Nat.zero_le _,?_⟩ ?_
 ·exact fun j hj=>absurd hj (by omega)
 rintro _ _ W1 ⟨i,rfl,rfl,a0,hi,hz⟩ J1 a4 r1
 refine xid 6 ((i:Int)<(l.length:Int)) (fun a7=>?_) (fun a7=>?_)
 ·refine xx 15 _ l.length i 1 (Bys.elem h (k:=i) (by omega)).1 ?_
  refine xl 0 ((Bys.elem (h.below a0) (k:=i) (by omega)).2) ?_
  refine xr 0 (args:=#[.int .u8 (↑(l.getD i 0).toNat:Int)]) (zero_1 (↑(l.getD i 0).toNat:Int) _) fun W3 a3=>?_
  refine xin 2 (↑(l.getD i 0).toNat:Int) (0:Int) (fun a6=>?_) (fun a6=>?_)
  ·have a1:=bln a0 a3
   exact xe 12 (V0 (i:Int)) (.inr ⟨Sh (j:=i) (by omega) (by assumption),_,rfl,a1⟩)
  refine xwm 4 ((i:Int)+1) (↑(i+1):Int) ?_
  have a2:=bln a0 a3
  exact ze 2 (a4 _ _ _ ⟨i+1,rfl,rfl,a2,by omega,fun j hj=>(Nat.lt_or_ge j i).elim (hz j) (fun q=>by obtain rfl:j=i:=(by omega);exact Zer (by assumption))⟩ (by omega))
 exact xe 11 (V0 (-1)) (.inl ⟨Bd (fun j hj=>hz j (by omega)),rfl,a0⟩)
theorem Fx(a:O0)(c:Nat)(l:Bl)(w:World)(hl:l.length≤100000000)(h:Bys w (.slice a l.length c) l) :
 C0 137 #[.slice a l.length c,.func (.func 138) #[] #[]] w (Ret (.bool (!Ve l)) w):=by
 refine zin 9 Tryz.func137 ?_
 refine xc 9 (args:=#[.slice a l.length c,.func (.func 138) #[] #[]]) (Zd3 a c l _ hl (h.below (B4 w))) ?_
 rintro e W1 a1
 rcases a1 with ⟨hz,rfl,a0⟩|⟨hz,i0,rfl,a0⟩
 ·refine xe 5 (.bool false) ?_
  rw[hz];exact⟨rfl,a0⟩
 refine xe 5 (.bool (decide ((i0:Int)≥(0:Int)))) ?_
 rw[hz,show decide ((i0:Int)≥(0:Int))=true from decide_eq_true (by omega)];exact⟨rfl,a0⟩
theorem Zdu(a:O0)(c:Nat)(l:Bl)(w:World)(hl:l.length≤100000000)(h:Bys w (.slice a l.length c) l) :
 C0 78 #[.slice a l.length c] w (Ret (.bool (Ve l)) w):=by
 refine zin 6 Tryz.func78 ?_
 refine xr 8 (args:=#[.slice a l.length c,.func (.func 138) #[] #[]]) (Fx a c l _ hl (h.below (B4 w))) fun W1 a0=>?_
 refine xe 5 (.bool (!(!Ve l))) ?_
 rw[Bool.not_not];exact⟨rfl,a0⟩
def Gk(kind no:Int):Bool:=decide (1≤kind∧kind≤4∧0≤no∧no<14400)
theorem Ts(kind no:Int)(w:World) :
 C0 128 #[V0 kind,V0 no] w (Ret (.bool (Gk kind no)) w):=by
 refine zin 19 Tryz.func128 ?_
 refine xg 10 [6,7] (decide (kind≥(1:Int))) (fun a0=>?_) (fun a0=>?_)
 ·have a0:=of_decide_eq_true a0
  refine xg 4 [9,10,11] (decide (kind≤(4:Int))) (fun a2=>?_) (fun a2=>?_)
  ·have a2:=of_decide_eq_true a2
   refine xg 4 [13,14,15] (decide (no≥(0:Int))) (fun a1=>?_) (fun a1=>?_)
   ·have a1:=of_decide_eq_true a1
    exact xe 7 (.bool (decide (no<(14400:Int)))) ⟨by rw[show Gk kind no=decide (no<14400) from decide_eq_decide.2 ⟨fun h=>h.2.2.2,fun h=>⟨by omega,by omega,by omega,h⟩⟩],(B4 w)⟩
   have a1:=of_decide_eq_false a1
   exact xe 7 (.bool false) ⟨by rw[show Gk kind no=false from decide_eq_false (by omega)],(B4 w)⟩
  have a2:=of_decide_eq_false a2
  exact xe 11 (.bool false) ⟨by rw[show Gk kind no=false from decide_eq_false (by omega)],(B4 w)⟩
 have a0:=of_decide_eq_false a0
 exact xe 15 (.bool false) ⟨by rw[show Gk kind no=false from decide_eq_false (by omega)],(B4 w)⟩
theorem Zdo(a:O0)(c k w:Nat)(l:Bl)(W:World)(hw:w=1∨w=2∨w=4)(hk:k+w≤l.length)(hl:l.length≤100000000)(h:Bys W (.slice a l.length c) l) :
 C0 131 #[.slice a l.length c,V0 (k:Int),V0 (w:Int)] W (Ret (V0 (Zh l k w:Int)) W):=by
 refine zin 17 Tryz.func131 ?_
 refine xr 10 (args:=#[.slice a l.length c,V0 (k:Int),V0 (w:Int)]) (Iv a c k w l _ (by omega) hk hl (h.below (B4 W)) (by have:=Qt l k w (by omega);omega)) fun W1 a0=>?_
 exact xe 14 (V0 (↑(Zh l k w):Int)) ⟨rfl,a0⟩
theorem Hy(a:O0)(n c k w:Nat)(ki wi:Int)(l:Bl)(W:World)(hn:l.length=n)(hki:ki=(k:Int))(hwi:wi=(w:Int))(hw:w=1∨w=2∨w=4)(hk:k+w≤n)(hl:n≤100000000)(h:Bys W (.slice a n c) l) :
 C0 131 #[.slice a n c,V0 ki,V0 wi] W (Ret (V0 (Zh l k w:Int)) W):=by
 subst hn hki hwi;exact Zdo a c k w l W hw hk hl h
def Uc(kind no:Int)(l:Bl):Nat→Bool
 | 0=>!Gk kind no
 | 1=>(l.length:Int) != 256
 | 2=>(Zh l 252 4:Int) != (Lo l kind:Int)
 | 3=>(Zh l 0 4:Int) != no
 | 4=>(Zh l 4 2:Int) != kind
 | _=>(Zh l 6 2:Int) != 0
def Xz(kind no:Int)(l:Bl):Int :=
 if Uc kind no l 0 then 1 else if Uc kind no l 1 then 7 else if Uc kind no l 2 then 4 else if Uc kind no l 3 then 5 else if Uc kind no l 4 then 6 else if Uc kind no l 5 then 7 else 0
theorem Zcl{kind no:Int}{l:Bl}(h:Uc kind no l 1=false):l.length=256:=by
 have:(l.length:Int)=256:=Qh h
 omega
theorem open_1(kind no:Int)(w:World)(l:Bl)(bk:Nat)(kk:Blk w bk [V0 kind] 3)(bn:Nat)(kn:Blk w bn [V0 no] 3) :
 C0 127 #[P0 bk,P0 bn] w (Ret (.bool (Uc kind no l 0)) w):=by
 refine zin 7 Tryz.func127 ?_
 refine xb 7 0 kk ?_
 refine xb 0 0 kn ?_
 refine xr 0 (args:=#[V0 kind,V0 no]) (Ts kind no _) fun W1 a0=>?_
 exact xe 5 (.bool (!(Gk kind no))) ⟨rfl,a0⟩
theorem open_2(kind no:Int)(w:World)(bb:Nat)(a:O0)(c:Nat)(l:Bl)(kb:Blk w bb [.slice a l.length c] 22) :
 C0 129 #[P0 bb] w (Ret (.bool (Uc kind no l 1)) w):=by
 refine zin 5 Tryz.func129 ?_
 refine xb 7 0 kb ?_
 exact xe 6 (.bool ((l.length:Int) != (256:Int))) ⟨rfl,(B4 w)⟩
theorem Zfp(kind:Int)(a:O0)(c n:Nat)(l:Bl)(w:World)(hn:l.length=n)(h256:n=256)(hc:256≤c)(h:Bys w (.slice a n c) l) :
 C0 132 #[.slice a n c,V0 kind] w (Ret (V0 (Lo l kind:Int)) w):=by
 subst h256;exact Av kind a c l w hn hc h
theorem open_3(kind no:Int)(w:World)(bb:Nat)(a:O0)(c:Nat)(l:Bl)(kb:Blk w bb [.slice a l.length c] 22)(bk:Nat)(kk:Blk w bk [V0 kind] 3)(hl:l.length=256)(hc:256≤c)(h:Bys w (.slice a l.length c) l) :
 C0 130 #[P0 bb,P0 bk] w (Ret (.bool (Uc kind no l 2)) w):=by
 refine zin 9 Tryz.func130 ?_
 refine xd 6 .z ?_
 have a1:=kb.below (Za w)
 refine xb (.e [] 0) 0 a1 ?_
 refine xb (.e [] 2) 0 a1 ?_
 have a2:=kk.below (Za w)
 refine xb (.e [] 3) 0 a2 ?_
 have hB:=(Za w)
 refine xr (.o [] 1) (args:=#[.slice a l.length c,V0 252,V0 4]) (Hy a l.length c 252 4 252 4 l _ rfl rfl rfl (by decide) (by omega) (by omega) (h.below hB)) fun W1 a4=>?_
 have a0:=bln hB a4
 refine xr (.o [] 4) (args:=#[.slice a l.length c,V0 kind]) (Zfp kind a c l.length l _ rfl hl hc (h.below a0)) fun W2 a5=>?_
 have a3:=bln a0 a5
 exact xe (.r [5,6] 3) (.bool ((↑(Zh l 252 4):Int) != (↑(Lo l kind):Int))) ⟨rfl,a3⟩
theorem open_4(kind no:Int)(w:World)(bb:Nat)(a:O0)(c:Nat)(l:Bl)(kb:Blk w bb [.slice a l.length c] 22)(bn:Nat)(kn:Blk w bn [V0 no] 3)(hl:l.length=256)(hc:256≤c)(h:Bys w (.slice a l.length c) l) :
 C0 133 #[P0 bb,P0 bn] w (Ret (.bool (Uc kind no l 3)) w):=by
 refine zin 7 Tryz.func133 ?_
 refine xd 6 .z ?_
 have a1:=kb.below (Za w)
 refine xb (.e [] 0) 0 a1 ?_
 have a0:=kn.below (Za w)
 refine xb (.e [] 2) 0 a0 ?_
 have hB:=(Za w)
 refine xr (.o [] 1) (args:=#[.slice a l.length c,V0 0,V0 4]) (Hy a l.length c 0 4 0 4 l _ rfl rfl rfl (by decide) (by omega) (by omega) (h.below hB)) fun W1 a3=>?_
 have a2:=bln hB a3
 exact xe (.r [3,4] 3) (.bool ((↑(Zh l 0 4):Int) != no)) ⟨rfl,a2⟩
theorem open_5(kind no:Int)(w:World)(bb:Nat)(a:O0)(c:Nat)(l:Bl)(kb:Blk w bb [.slice a l.length c] 22)(bk:Nat)(kk:Blk w bk [V0 kind] 3)(hl:l.length=256)(hc:256≤c)(h:Bys w (.slice a l.length c) l) :
 C0 134 #[P0 bb,P0 bk] w (Ret (.bool (Uc kind no l 4)) w):=by
 refine zin 7 Tryz.func134 ?_
 refine xd 6 .z ?_
 have a0:=kb.below (Za w)
 refine xb (.e [] 0) 0 a0 ?_
 have a1:=kk.below (Za w)
 refine xb (.e [] 2) 0 a1 ?_
 have hB:=(Za w)
 refine xr (.o [] 1) (args:=#[.slice a l.length c,V0 4,V0 2]) (Hy a l.length c 4 2 4 2 l _ rfl rfl rfl (by decide) (by omega) (by omega) (h.below hB)) fun W1 a3=>?_
 have a2:=bln hB a3
 exact xe (.r [3,4] 3) (.bool ((↑(Zh l 4 2):Int) != kind)) ⟨rfl,a2⟩
theorem open_6(kind no:Int)(w:World)(bb:Nat)(a:O0)(c:Nat)(l:Bl)(kb:Blk w bb [.slice a l.length c] 22)(hl:l.length=256)(hc:256≤c)(h:Bys w (.slice a l.length c) l) :
 C0 135 #[P0 bb] w (Ret (.bool (Uc kind no l 5)) w):=by
 refine zin 5 Tryz.func135 ?_
 refine xb 7 0 kb ?_
 refine xr 0 (args:=#[.slice a l.length c,V0 6,V0 2]) (Hy a l.length c 6 2 6 2 l _ rfl rfl rfl (by decide) (by omega) (by omega) (h.below (B4 w))) fun W1 a0=>?_
 exact xe 5 (.bool ((↑(Zh l 6 2):Int) != (0:Int))) ⟨rfl,a0⟩
def OpenP(kind no:Int)(l:Bl)(w:World)(e:Ending)(w':World):Prop :=
 (Xz kind no l≠0∧e=.returned (.tuple #[S0,V0 (Xz kind no l)])∧B3 w w') ∨
 (Xz kind no l=0∧∃ p c,e=.returned (.tuple #[.slice p 244 c,V0 0])∧B3 w w'∧w'.ownsRow w.heap.size 5 1 (.slice p 244 c) 244 (((l.drop 8).take 244).map bv))
theorem Fe(kind no:Int)(a:O0)(c:Nat)(l:Bl)(w:World)(h:Bys w (.slice a l.length c) l) :
 C0 74 #[.slice a l.length c,V0 kind,V0 no] w (OpenP kind no l w):=by
 have m5:=h.cap rfl
 refine zin 39 Tryz.func74 ?_
 refine xa 2 [.slice a l.length c] 22 fun b1 W1 n1=>?_
 refine xa 0 [V0 kind] 3 fun b2 W2 n2=>?_
 refine xa 0 [V0 no] 3 fun b3 W3 n3=>?_
 have l7:=n3.ne n2.blk
 refine xbs 18 6 [.func (.func 127) #[] #[P0 b2,P0 b3],V0 1,.func (.func 129) #[] #[P0 b1],V0 7,.func (.func 130) #[] #[P0 b1,P0 b2],V0 4,.func (.func 133) #[] #[P0 b1,P0 b3],V0 5,.func (.func 134) #[] #[P0 b1,P0 b2],V0 6,.func (.func 135) #[] #[P0 b1],V0 7] 251 fun b4 W4 n4=>?_
 refine xu 12 7 ?_
 refine xlv 14 (n4.blk.rpp 0 2) ?_
 refine xa 0 [.nilFunc,V0 0] 251 fun b5 W5 n5=>?_
 have h7:=n5.ne n4.blk
 refine xsv 0 n5.blk [.func (.func 127) #[] #[P0 b2,P0 b3],V0 1] fun W6 u6 k6=>?_
 have g5:=n5.ge (bln (bln (bln n1.below n2.below) n3.below) n4.below)
 refine xb 5 0 k6 ?_
 have i0:=u6.blkT (((n2.blk.below n3.below).below n4.below).below n5.below) n5.blk (by decide)
 have k3:=u6.blkT ((n3.blk.below n4.below).below n5.below) n5.blk (by decide)
 refine xr 0 (args:=#[P0 b2,P0 b3]) (open_1 kind no _ l b2 i0 b3 k3) fun W7 b6=>?_
 refine xi 2 (Uc kind no l 0) (fun j5=>?_) (fun j5=>?_)
 ·have c7:=j5
  refine xd 1 .z ?_
  have j4:=(k6.below b6).below (Za W7)
  refine xb (.e [0] 1) 1 j4 ?_
  have hB:=bln (bln (u6.below (bln (bln (bln (bln n1.below n2.below) n3.below) n4.below) n5.below) g5) b6) (Za W7)
  refine xe (.r [2,3] 8) (.tuple #[S0,V0 1]) ?_
  have he:Xz kind no l=1:=by simp[Xz,c7]
  exact .inl ⟨by rw[he];decide,by rw[he],hB⟩
 have c7:=j5
 have d7:=(u6.blk (n4.blk.below n5.below) (Ne.symm (Ne.symm h7))).below b6
 refine xlv 22 (d7.rpp 2 2) ?_
 refine xa 0 [.nilFunc,V0 0] 251 fun b9 W9 n9=>?_
 have g2:=n9.ne d7
 have h2:=k6.below b6
 have f7:=n9.ne h2
 refine xsv 0 n9.blk [.func (.func 129) #[] #[P0 b1],V0 7] fun n0 e6 j7=>?_
 have g9:=n9.ge (bln (u6.below (bln (bln (bln (bln n1.below n2.below) n3.below) n4.below) n5.below) g5) b6)
 refine xb 5 0 j7 ?_
 have k1:=e6.blkT (((u6.blkT ((((n1.blk.below n2.below).below n3.below).below n4.below).below n5.below) n5.blk (by decide)).below b6).below n9.below) n9.blk (by decide)
 refine xr 0 (args:=#[P0 b1]) (open_2 kind no _ b1 a c l k1) fun m3 a3=>?_
 refine xi 2 (Uc kind no l 1) (fun e1=>?_) (fun e1=>?_)
 ·have a4:=e1
  refine xd 1 .z ?_
  have g8:=(j7.below a3).below (Za m3)
  refine xb (.e [0] 1) 1 g8 ?_
  have hB:=bln (bln (e6.below (bln (bln (u6.below (bln (bln (bln (bln n1.below n2.below) n3.below) n4.below) n5.below) g5) b6) n9.below) g9) a3) (Za m3)
  refine xe (.r [2,3] 8) (.tuple #[S0,V0 7]) ?_
  have he:Xz kind no l=7:=by simp[Xz,c7,a4]
  exact .inl ⟨by rw[he];decide,by rw[he],hB⟩
 have a4:=e1
 have m0:=Zcl a4
 have f3:=(e6.blk (d7.below n9.below) (Ne.symm (Ne.symm g2))).below a3
 refine xlv 22 (f3.rpp 4 2) ?_
 refine xa 0 [.nilFunc,V0 0] 251 fun o2 o1 a7=>?_
 have f5:=a7.ne f3
 have i4:=(e6.blk (h2.below n9.below) (Ne.symm (Ne.symm f7))).below a3
 have d6:=a7.ne i4
 have c9:=j7.below a3
 have d4:=a7.ne c9
 have hB:=bln (e6.below (bln (bln (u6.below (bln (bln (bln (bln n1.below n2.below) n3.below) n4.below) n5.below) g5) b6) n9.below) g9) a3
 have m6:=a7.ge hB
 refine xsv 0 a7.blk [.func (.func 130) #[] #[P0 b1,P0 b2],V0 4] fun o5 e8 l2=>?_
 refine xb 5 0 l2 ?_
 have h3:=e8.blkT ((k1.below a3).below a7.below) a7.blk (by decide)
 have i5:=e8.blkT (((e6.blkT ((i0.below b6).below n9.below) n9.blk (by decide)).below a3).below a7.below) a7.blk (by decide)
 have e5:=e8.below (bln hB a7.below) m6
 refine xr 0 (args:=#[P0 b1,P0 b2]) (open_3 kind no _ b1 a c l h3 b2 i5 (Zcl a4) (by have:=Zcl a4;have:=h.cap rfl;omega) (h.below e5)) fun l5 a2=>?_
 refine xi 2 (Uc kind no l 2) (fun f0=>?_) (fun f0=>?_)
 ·have f6:=f0
  refine xd 1 .z ?_
  have f8:=(l2.below a2).below (Za l5)
  refine xb (.e [0] 1) 1 f8 ?_
  have k2:=bln (bln e5 a2) (Za l5)
  refine xe (.r [2,3] 8) (.tuple #[S0,V0 4]) ?_
  have he:Xz kind no l=4:=by simp[Xz,c7,a4,f6]
  exact .inl ⟨by rw[he];decide,by rw[he],k2⟩
 have f6:=f0
 have f1:=(e8.blk (f3.below a7.below) (Ne.symm (Ne.symm f5))).below a2
 refine xlv 22 (f1.rpp 6 2) ?_
 refine xa 0 [.nilFunc,V0 0] 251 fun n6 m9 a5=>?_
 have d8:=a5.ne f1
 have h9:=(e8.blk (i4.below a7.below) (Ne.symm (Ne.symm d6))).below a2
 have f4:=a5.ne h9
 have c4:=(e8.blk (c9.below a7.below) (Ne.symm (Ne.symm d4))).below a2
 have e4:=a5.ne c4
 have d0:=l2.below a2
 have b8:=a5.ne d0
 have i2:=bln e5 a2
 have m8:=a5.ge i2
 refine xsv 0 a5.blk [.func (.func 133) #[] #[P0 b1,P0 b3],V0 5] fun o7 c6 l1=>?_
 refine xb 5 0 l1 ?_
 have h5:=c6.blkT ((h3.below a2).below a5.below) a5.blk (by decide)
 have k7:=c6.blkT (((e8.blkT (((e6.blkT ((k3.below b6).below n9.below) n9.blk (by decide)).below a3).below a7.below) a7.blk (by decide)).below a2).below a5.below) a5.blk (by decide)
 have e0:=c6.below (bln i2 a5.below) m8
 refine xr 0 (args:=#[P0 b1,P0 b3]) (open_4 kind no _ b1 a c l h5 b3 k7 (Zcl a4) (by have:=Zcl a4;have:=h.cap rfl;omega) (h.below e0)) fun m2 a0=>?_
 refine xi 2 (Uc kind no l 3) (fun e2=>?_) (fun e2=>?_)
 ·have h0:=e2
  refine xd 1 .z ?_
  have g7:=(l1.below a0).below (Za m2)
  refine xb (.e [0] 1) 1 g7 ?_
  have k5:=bln (bln e0 a0) (Za m2)
  refine xe (.r [2,3] 8) (.tuple #[S0,V0 5]) ?_
  have he:Xz kind no l=5:=by simp[Xz,c7,a4,f6,h0]
  exact .inl ⟨by rw[he];decide,by rw[he],k5⟩
 have h0:=e2
 have e9:=(c6.blk (f1.below a5.below) (Ne.symm (Ne.symm d8))).below a0
 refine xlv 22 (e9.rpp 8 2) ?_
 refine xa 0 [.nilFunc,V0 0] 251 fun n7 o6 a6=>?_
 have d9:=a6.ne e9
 have h4:=(c6.blk (h9.below a5.below) (Ne.symm (Ne.symm f4))).below a0
 have e3:=a6.ne h4
 have c2:=(c6.blk (c4.below a5.below) (Ne.symm (Ne.symm e4))).below a0
 have d5:=a6.ne c2
 have c8:=(c6.blk (d0.below a5.below) (Ne.symm (Ne.symm b8))).below a0
 have c1:=a6.ne c8
 have c5:=l1.below a0
 have b7:=a6.ne c5
 have h8:=bln e0 a0
 have m4:=a6.ge h8
 refine xsv 0 a6.blk [.func (.func 134) #[] #[P0 b1,P0 b2],V0 6] fun o8 d1 k0=>?_
 refine xb 5 0 k0 ?_
 have g3:=d1.blkT ((h5.below a0).below a6.below) a6.blk (by decide)
 have l3:=d1.blkT (((c6.blkT ((i5.below a2).below a5.below) a5.blk (by decide)).below a0).below a6.below) a6.blk (by decide)
 have e7:=d1.below (bln h8 a6.below) m4
 refine xr 0 (args:=#[P0 b1,P0 b2]) (open_5 kind no _ b1 a c l g3 b2 l3 (Zcl a4) (by have:=Zcl a4;have:=h.cap rfl;omega) (h.below e7)) fun l8 a1=>?_
 refine xi 2 (Uc kind no l 4) (fun d3=>?_) (fun d3=>?_)
 ·have i9:=d3
  refine xd 1 .z ?_
  have f9:=(k0.below a1).below (Za l8)
  refine xb (.e [0] 1) 1 f9 ?_
  have l0:=bln (bln e7 a1) (Za l8)
  refine xe (.r [2,3] 8) (.tuple #[S0,V0 6]) ?_
  have he:Xz kind no l=6:=by simp[Xz,c7,a4,f6,h0,i9]
  exact .inl ⟨by rw[he];decide,by rw[he],l0⟩
 have i9:=d3
 have h1:=(d1.blk (e9.below a6.below) (Ne.symm (Ne.symm d9))).below a1
 refine xlv 22 (h1.rpp 10 2) ?_
 refine xa 0 [.nilFunc,V0 0] 251 fun o3 o0 b0=>?_
 have k9:=b0.ne h1
 have j8:=(d1.blk (h4.below a6.below) (Ne.symm (Ne.symm e3))).below a1
 have j6:=b0.ne j8
 have h6:=(d1.blk (c2.below a6.below) (Ne.symm (Ne.symm d5))).below a1
 have l4:=b0.ne h6
 have i3:=(d1.blk (c8.below a6.below) (Ne.symm (Ne.symm c1))).below a1
 have j2:=b0.ne i3
 have g1:=(d1.blk (c5.below a6.below) (Ne.symm (Ne.symm b7))).below a1
 have j1:=b0.ne g1
 have i7:=k0.below a1
 have j0:=b0.ne i7
 have g6:=bln e7 a1
 have m7:=b0.ge g6
 refine xsv 0 b0.blk [.func (.func 135) #[] #[P0 b1],V0 7] fun o4 m1 l9=>?_
 refine xb 5 0 l9 ?_
 have i1:=m1.blkT ((g3.below a1).below b0.below) b0.blk (by decide)
 have a8:=m1.below (bln g6 b0.below) m7
 refine xr 0 (args:=#[P0 b1]) (open_6 kind no _ b1 a c l i1  (Zcl a4) (by have:=Zcl a4;have:=h.cap rfl;omega) (h.below a8)) fun l6 a9=>?_
 refine xi 2 (Uc kind no l 5) (fun f2=>?_) (fun f2=>?_)
 ·have j3:=f2
  refine xd 1 .z ?_
  have i6:=(l9.below a9).below (Za l6)
  refine xb (.e [0] 1) 1 i6 ?_
  have i8:=bln (bln a8 a9) (Za l6)
  refine xe (.r [2,3] 8) (.tuple #[S0,V0 7]) ?_
  have he:Xz kind no l=7:=by simp[Xz,c7,a4,f6,h0,i9,j3]
  exact .inl ⟨by rw[he];decide,by rw[he],i8⟩
 have j3:=f2
 have k8:=i1.below a9
 refine xb 22 0 k8 ?_
 refine xsB 0 (fun _ _ _ _ _ zo zx zy zz V=>Hd (k:=8) (h:=252) (b:=a) (n:=l.length) (c:=c) (i:=8) (ki:=.i64) (j:=252) (kj:=.i64) 1 zo zx zy rfl zz rfl (by omega) (by omega) Tryz.underlying22 (by kernel_rfl) V) ?_
 have d2:=bln a8 a9
 refine xc 0 (args:=#[.slice (Jh a 8 c 1) 244 (c-8)]) (Yk (Jh a 8 c 1) 244 (c-8) ((l.drop 8).take 244) _ (by have:=Zcl a4;simp;omega) ((Bys.cut h rfl 8 252 (by decide) (by have:=Zcl a4;omega)).below d2) (by decide)) ?_
 rintro _ n8 ⟨_,rfl,k4,ho⟩
 have j9:=(bln a8 a9).size
 have c0:=Zd ho j9
 unfold Gv at c0
 rw[show((l.drop 8).take 244).length=244 from by have:=Zcl a4;simp;omega] at c0
 obtain⟨p,c3,rfl⟩:=(Ze c0).slice
 have g0:=bln d2 k4
 exact xe 5 (.tuple #[.slice p 244 c3,V0 0]) (.inr ⟨by simp[Xz,c7,a4,f6,h0,i9,j3],_,_,rfl,g0,c0⟩)
end Go.Proofs.YtgphgaehfdfjjaaGreatDoor
namespace Go.Proofs.YtgphgaehfdfjjaaGreatDoor
set_option maxHeartbeats 8000000
set_option maxRecDepth 100000
open Go.RowKit Go.Extern.Stop Go.Stop Go.Extern
set_option linter.unusedVariables false
attribute [local irreducible] wpList wpAnyH Code.wp Oper.wp Go
section
variable {P:Program} {a:Act}
theorem Zcv{o:Oper}{t t2:TypeId}{x y:Operand}{n s:Nat}{j:Int}{kj:IntKind}(ho:o.op=.binOp .shr t x y t2)(hx:a.eval x=.int .u8 (n:Int))(hy:a.eval y=.int kj j)(hj:j=(s:Int))(hs:s≤8)(w:World):(execOp a.eval o).run P w=.ok (.value (.int .u8 ((n/2 ^ s:Nat):Int))) w:=by
 subst hj
 have e:=shift_shr_u8 kj (n:Int) (s:Int) (Int.natCast_nonneg s) (by omega)
 simp only[execOp,ho,hx,hy,eqGuard_shr,binOp_shr,e]
 simp
end
theorem Zdv(a:O0)(n c k w:Nat)(ki wi:Int)(l:Bl)(W:World)(hn:l.length=n)(hki:ki=(k:Int))(hwi:wi=(w:Int))(hw:w=1∨w=2∨w=4)(hk:k+w≤n)(hl:n≤100000000)(h:Bys W (.slice a n c) l) :
 C0 79 #[.slice a n c,V0 ki,V0 wi] W (Ret (.tuple #[V0 (Zh l k w:Int),V0 0]) W):=by
 subst hn hki hwi;exact Iv a c k w l W (by omega) hk hl h (by have:=Qt l k w (by omega);omega)
def Zex(l:Bl)(i:Nat):Nat:=(l.getD (4+i/4) 0).toNat/2 ^ (i%4*2)%4
theorem i64_and3{n:Nat}(h:n<9223372036854775808):IntKind.i64.wrap (↑(BitVec.ofInt 64 (n:Int) &&& BitVec.ofInt 64 (3:Int)).toNat:Int)=((n%4:Nat):Int):=by
 rw[show(3:Int)=((3:Nat):Int) from rfl,BitVec.ofInt_natCast,BitVec.ofInt_natCast,BitVec.toNat_and,BitVec.toNat_ofNat,BitVec.toNat_ofNat,Nat.mod_eq_of_lt (by omega),Nat.mod_eq_of_lt (by omega)]
 rw[show n &&& 3=n%4 from Nat.and_two_pow_sub_one_eq_mod n 2]
 exact Gp (by omega)
theorem Dz(n k:Nat)(hn:n<9223372036854775808)(hk:0<k):IntKind.i64.wrap (Int.tdiv (n:Int) (k:Int))=((n/k:Nat):Int):=by
 rw[Int.tdiv_eq_ediv_of_nonneg (Int.natCast_nonneg _),←Int.natCast_ediv]
 exact Gp (Nat.lt_of_le_of_lt (Nat.div_le_self _ _) hn)
theorem Fz(n k:Nat):Int.tmod (n:Int) (k:Int)=((n%k:Nat):Int):=by
 rw[Int.tmod_eq_emod_of_nonneg (Int.natCast_nonneg _),←Int.natCast_emod]
theorem shr_lt(l:Bl)(k s:Nat):(l.getD k 0).toNat/2 ^ s<256:=Nat.lt_of_le_of_lt (Nat.div_le_self _ _) (l.getD k 0).toNat_lt
def Me(l:Bl)(n:Nat):List Nat:=(List.range n).map (Zex l)
theorem Zas(l:Bl)(n:Nat):Me l (n+1)=Me l n++[Zex l n]:=by simp[Me,List.range_succ]
def Oh(l:Bl):Prop:=l.length=244∧Zh l 0 4≤960∧∀ i,i<960→Zh l 0 4≤i→Zex l i=0
def BitsP(l:Bl)(w:World)(e:Ending)(w':World):Prop :=
 (¬ Oh l∧e=.returned (.tuple #[S0,V0 7])∧B3 w w') ∨
 (Oh l∧∃ p c,e=.returned (.tuple #[.slice p (Zh l 0 4) c,V0 0])∧B3 w w'∧w'.ownsRow w.heap.size 3 1 (.slice p (Zh l 0 4) c) (Zh l 0 4) ((Me l (Zh l 0 4)).map nv))
theorem Zeb(a:O0)(c:Nat)(l:Bl)(w:World)(hl:l.length≤100000000)(h:Bys w (.slice a l.length c) l) :
 C0 173 #[.slice a l.length c] w (BitsP l w):=by
 refine zin 47 Tryz.func173 ?_
 refine xin 14 (l.length:Int) (244:Int) (fun a7=>?_) (fun a7=>?_)
 ·exact xe 8 (.tuple #[S0,V0 7]) (.inl ⟨fun h=>by have:=h.1;omega,rfl,(B4 w)⟩)
 refine xr 5 (args:=#[.slice a l.length c,V0 0,V0 4]) (Zdv a l.length c 0 4 0 4 l _ rfl rfl rfl (by decide) (by omega) hl (h.below (B4 w))) fun W2 a5=>?_
 refine xid 14 ((↑(Zh l 0 4):Int)>(960:Int)) (fun b1=>?_) (fun b1=>?_)
 ·exact xe 8 (.tuple #[S0,V0 7]) (.inl ⟨fun h=>by have:=h.2.1;omega,rfl,a5⟩)
 refine zl 14 47 (fun zm a8 V=>∃ (i m:Nat) (p:O0) (c2:Nat),a8=[(0,.slice a l.length c),(4,V0 (↑(Zh l 0 4):Int)),(6,.slice p m c2),(19,V0 (i:Int))]∧zm=960-((i:Int)).toNat∧B3 w V∧V.ownsRow w.heap.size 3 1 (.slice p m c2) m ((Me l m).map nv)∧i≤960∧m=min i (Zh l 0 4)∧(∀ j,j<i→Zh l 0 4≤j→Zex l j=0)) ⟨0,0,_,_,rfl,rfl,a5,World.ownsRow_nil _ _ _ _,Nat.zero_le _,by omega,?_⟩ ?_
 ·exact fun j hj=>absurd hj (by omega)
 rintro _ _ W4 ⟨i,m,p,c2,rfl,rfl,a0,ho,hi,hm,hz⟩ J4 a4 r4
 refine xid 6 ((i:Int)<(960:Int)) (fun b0=>?_) (fun b0=>?_)
 ·refine xq 14 (congrArg V0 (show(IntKind.i64.wrap (Int.tdiv (i:Int) 4):Int)=(↑(i/4):Int) from Dz i 4 (by omega) (by decide))) ?_
  refine xwm 0 (4+(↑(i/4):Int)) (↑(4+(i/4)):Int) ?_
  refine xx 0 _ l.length (4+(i/4)) 1 (Bys.elem h (k:=(4+(i/4))) (by omega)).1 ?_
  refine xl 0 ((Bys.elem (h.below a0) (k:=(4+(i/4))) (by omega)).2) ?_
  refine xq 1 (congrArg V0 (show(Int.tmod (i:Int) 4:Int)=(↑(i%4):Int) from Fz i 4)) ?_
  refine xwm 0 ((↑(i%4):Int)*2) (↑((i%4)*2):Int) ?_
  refine xbo 0 (t:=5) (t2:=3) (fun _ _ _ _ zo zx zy V hV=>Zcv (n:=((l.getD (4+(i/4)) 0).toNat)) (s:=((i%4)*2)) (kj:=.i64) (j:=(↑((i%4)*2):Int)) zo zx zy rfl (by omega) V) ?_
  refine xq 0 (congrArg V0 (show(IntKind.i64.wrap (↑((l.getD (4+(i/4)) 0).toNat/2 ^ ((i%4)*2)):Int):Int)=(↑((l.getD (4+(i/4)) 0).toNat/2 ^ ((i%4)*2)):Int) from Gp (by have:=shr_lt l (4+i/4) (i%4*2);omega))) ?_
  refine xq 0 (congrArg V0 (show(IntKind.i64.wrap (↑(BitVec.ofInt 64 (↑((l.getD (4+(i/4)) 0).toNat/2 ^ ((i%4)*2)):Int) &&& BitVec.ofInt 64 (3:Int)).toNat:Int):Int)=(↑(Zex l i):Int) from i64_and3 (by have:=shr_lt l (4+i/4) (i%4*2);omega))) ?_
  refine xid 12 ((i:Int)<(↑(Zh l 0 4):Int)) (fun b3=>?_) (fun b3=>?_)
  ·refine xbs 3 1 [V0 (↑(Zex l i):Int)] 3 fun b7 W7 n7=>?_
   have g7:=n7.ge a0
   have a6:=Zz ho n7
   have a2:=Zb ho n7.below
   have a1:=bln a0 n7.below
   refine xbi 0 fun _ _ _ _ zJ zQ zo zx zy zK=>Zx (m:=1) (news:=[V0 (↑(Zex l i):Int)]) (V0 0) 1 8 (m+1) ((Me l (m+1)).map nv) zo Tryz.underlying28 (by kernel_rfl) rfl (by decide) zx a2 zy (n7.blk.sl 1 1 (by decide) (by decide)) rfl (by simp[Value.oneCell']) (by unfold maxLen;omega) (by omega) a1.size (by rfl) (by rw[Zas,List.map_append,show m=i by omega];rfl) fun b6 b4 W8 o8 b5 a9=>?_
   refine zK _ _ ?_
   refine xwm 6 ((i:Int)+1) (↑(i+1):Int) ?_
   have a3:=a1.trans a9
   exact ze 2 (a4 _ _ _ ⟨i+1,m+1,_,_,rfl,rfl,a3,o8,by omega,by omega,fun j hj hc=>(Nat.lt_or_ge j i).elim (fun q=>hz j q hc) (fun q=>by obtain rfl:j=i:=(by omega);omega)⟩ (by omega))
  refine xin 7 (↑(Zex l i):Int) (0:Int) (fun b2=>?_) (fun b2=>?_)
  ·exact xe 13 (.tuple #[S0,V0 7]) (.inl ⟨fun h=>by have:=h.2.2 i (by omega) (by omega);omega,rfl,a0⟩)
  refine xwm 5 ((i:Int)+1) (↑(i+1):Int) ?_
  exact ze 2 (a4 _ _ _ ⟨i+1,m,_,_,rfl,rfl,a0,ho,by omega,by omega,fun j hj hc=>(Nat.lt_or_ge j i).elim (fun q=>hz j q hc) (fun q=>by obtain rfl:j=i:=(by omega);omega)⟩ (by omega))
 refine xe 13 (.tuple #[.slice p m c2,V0 0]) ?_
 obtain rfl:m=Zh l 0 4:=by omega
 exact .inr ⟨⟨by omega,by omega,fun j hj hc=>hz j (by omega) hc⟩,_,_,rfl,a0,ho⟩
end Go.Proofs.YtgphgaehfdfjjaaGreatDoor
namespace Go.Proofs.YtgphgaehfdfjjaaGreatDoor
set_option maxHeartbeats 8000000
set_option maxRecDepth 100000
open Go.RowKit
theorem Blk.ty{w:World}{b:Nat}{cs cs':List Value}{t t':TypeId}(k:Blk w b cs t)(q:Blk w b cs' t'):t=t':=by
 have h1:w.heap[b]? = some (.cells cs.toArray t (0,0)):=k
 have h2:w.heap[b]? = some (.cells cs'.toArray t' (0,0)):=q
 rw[h1] at h2
 simp only[Option.some.injEq,Obj.cells.injEq] at h2
 exact h2.2.1
theorem Vz.upd{w W:World}{b:Nat}{cs:List Value}{t:TypeId}{l:List (Option Int)}{c:Option Int}{v:Value}(h:Vz w l c v)(u:Upd w b W)(k:Blk w b cs t)(hne:t≠218):Vz W l c v :=
 h.kept fun _ _ q=>u.blk q (by rintro rfl;exact hne (k.ty q))
theorem Vz.grown{w W:World}{e:TypeId}{base size n:Nat}{s:Value}{xs:List Value}{l:List (Option Int)}{c:Option Int}{v:Value}(h:Vz w l c v)(hg:w.grownBy W s.ownBlock)(hown:w.ownsRow base e size s n xs)(hne:e≠218):Vz W l c v :=
 h.kept fun _ _ q=>q.grown hg hown hne
theorem Vz.only{T:List TypeId}{w W:World}{l:List (Option Int)}{c:Option Int}{v:Value}(h:Vz w l c v)(k:Zg T w W)(hne:T.contains 218=false):Vz W l c v:=h.kept fun _ _ q=>q.only k hne
end Go.Proofs.YtgphgaehfdfjjaaGreatDoor
namespace Go.Proofs.YtgphgaehfdfjjaaGreatDoor
set_option maxHeartbeats 8000000
set_option maxRecDepth 100000
open Go.RowKit Go.Extern.Stop Go.Stop Go.Extern
set_option linter.unusedVariables false
attribute [local irreducible] wpList wpAnyH Code.wp Oper.wp Go
structure ImgR(B b:Nat)(p:Option Addr)(n c:Nat)(l:List UInt8)(w:World):Prop where
 blk:Blk w b [.slice p n c] 72
 row:w.ownsRow B 5 1 (.slice p n c) n (l.map bv)
 hn:n≤3686400
theorem ImgR.below{B b:Nat}{p:O0}{n c:Nat}{l:Bl}{w W:World}(h:ImgR B b p n c l w)(hb:B3 w W):ImgR B b p n c l W:=⟨h.blk.below hb,Zb h.row hb,h.hn⟩
theorem ImgR.only{B b:Nat}{p:O0}{n c:Nat}{l:Bl}{w W:World}{T:List TypeId}(h:ImgR B b p n c l w)(hO:Zg T w W)(hT:T.contains 72=false∧T.contains 5=false):ImgR B b p n c l W:=⟨h.blk.only hO hT.1,Zo h.row hO hT.2,h.hn⟩
theorem ImgR.len{B b:Nat}{p:O0}{n c:Nat}{l:Bl}{w:World}(h:ImgR B b p n c l w):l.length=n:=by have:=h.row.1;simpa using this
theorem ImgR.base{B b:Nat}{p:O0}{n c:Nat}{l:Bl}{w:World}(h:ImgR B b p n c l w)(hn:0<n):∃ g,p=some ⟨g,0,none⟩∧n≤c:=by
 rcases h.row.2 with ⟨_,h0⟩|⟨g,a1,a0,hv,_,_,hc,_⟩
 ·omega
 ·simp only[Value.slice.injEq] at hv
  obtain⟨rfl,_,rfl⟩:=hv
  exact⟨g,rfl,hc⟩
def Kd(l:Bl)(j:Nat):Bl:=(l.drop (j*256)).take 256
theorem Qu{l:Bl}{j:Nat}(h:j<l.length/256):(Kd l j).length=256:=by simp[Kd];omega
theorem Bys.mid{w:World}{g off n c:Nat}{l:Bl}(h:Bys w (.slice (some ⟨g,off,none⟩) n c) l)(hl:l.length=n)(k m:Nat)(hm:0<m)(hk:k+m≤n):Bys w (.slice (some ⟨g,off+k,none⟩) m m) ((l.drop k).take m):=by
 have a0:((l.drop k).take m).length=m:=by simp;omega
 rcases h with ⟨a',c',h1,h2,h3⟩|⟨g',a1,a2,h1,h2,h3,h4⟩
 ·omega
 ·simp only[Value.slice.injEq,Option.some.injEq,Addr.mk.injEq] at h1
  obtain⟨⟨rfl,rfl,_⟩,_,rfl⟩:=h1
  refine .inr ⟨g,off+k,m,by rw[a0],by omega,by omega,fun j x hj=>?_⟩
  rw[List.getElem?_map,List.getElem?_take] at hj
  split at hj
  ·rw[List.getElem?_drop] at hj
   have:=h4 (k+j) x (by rw[List.getElem?_map];exact hj)
   rwa [←Nat.add_assoc] at this
  ·cases hj
theorem ImgR.part{B b g:Nat}{n c:Nat}{l:Bl}{w:World}(h:ImgR B b (S1 g) n c l w){j:Nat}(hj:j<n/256):Bys w (.slice (some ⟨g,j*256,none⟩) 256 256) (Kd l j):=by
 have:=Bys.mid (Yl (Ze h.row) h.len) h.len (j*256) 256 (by decide) (by omega)
 rwa [Nat.zero_add] at this
def ReadP(n:Nat)(l:Bl)(k:Int)(w:World)(e:Ending)(w':World):Prop :=
 (¬ (0≤k∧k<(n/256:Nat))∧∃ v,e=.returned (.tuple #[v,V0 3])∧B3 w w') ∨
 (∃ j:Nat,k=(j:Int)∧j<n/256∧∃ p c,e=.returned (.tuple #[.slice p 256 c,V0 0])∧B3 w w'∧w'.ownsRow w.heap.size 5 1 (.slice p 256 c) 256 ((Kd l j).map bv))
theorem Lg(b:Nat)(p:O0)(n c:Nat)(k:Int)(w:World)(hk:Blk w b [.slice p n c] 72)(hn:n≤100000000)(ho:¬ (0≤k∧k<(n/256:Nat))) :
 C0 125 #[P0 b,V0 k] w (Ret (.tuple #[S0,V0 3]) w):=by
 refine zin 33 Tryz.func125 ?_
 refine xg 21 [13,14] (decide (k<(0:Int))) (fun a0=>?_) (fun a0=>?_)
 ·have a0:=of_decide_eq_true a0
  exact xe 18 (.tuple #[S0,V0 3]) ⟨rfl,(B4 w)⟩
 have a0:=of_decide_eq_false a0
 refine xr 2 (args:=#[P0 b]) (Qy b _ n c _ (hk.below (B4 w)) hn) fun W2 a1=>?_
 refine xk 5 (show(decide (k≥(↑(n/256):Int)):Bool)=true from decide_eq_true (by omega)) ?_
 exact xe 9 (.tuple #[S0,V0 3]) ⟨rfl,a1⟩
theorem Ba(B b:Nat)(p:O0)(n c:Nat)(l:Bl)(k:Int)(w:World)(hI:ImgR B b p n c l w)(ho:¬ (0≤k∧k<(n/256:Nat))) :
 C0 72 #[P0 b,V0 k] w (Qi (fun _ r=>∃ v,r=.tuple #[v,V0 3]) w):=by
 refine zin 17 Tryz.func72 ?_
 refine xr 10 (args:=#[P0 b,V0 k]) (Lg b p n c k _ (hI.below (B4 w)).blk (by have:=hI.hn;omega) ho) fun W1 a0=>?_
 refine xc 10 (args:=#[S0]) (Et 0 _) ?_
 rintro _ W2 ⟨v2,rfl,a1,_⟩
 have hB:=bln a0 a1
 exact xe 6 (.tuple #[v2,V0 3]) ⟨_,rfl,hB,_,rfl⟩
theorem Dh(B b g:Nat)(n c:Nat)(l:Bl)(j:Nat)(w:World)(hI:ImgR B b (S1 g) n c l w)(hj:j<n/256)(hc:n≤c) :
 C0 72 #[P0 b,V0 (j:Int)] w (Qi (fun w' r=>∃ p2 c3,r=.tuple #[.slice p2 256 c3,V0 0]∧w'.ownsRow w.heap.size 5 1 (.slice p2 256 c3) 256 ((Kd l j).map bv)) w):=by
 have a3:=Qu (l:=l) (j:=j) (by rw[hI.len];exact hj)
 refine zin 17 Tryz.func72 ?_
 refine xr 10 (args:=#[P0 b,V0 (j:Int)]) (Ny b g n c j _ (hI.below (B4 w)).blk (by have:=hI.hn;omega) hc hj) fun W1 a1=>?_
 refine xc 10 (args:=#[.slice (some ⟨g,(j*256),none⟩) 256 256]) (Yk (some ⟨g,(j*256),none⟩) 256 256 (Kd l j) _ a3 ((hI.below a1).part hj) (by decide)) ?_
 rintro _ W2 ⟨_,rfl,a4,ho⟩
 have a0:=Zd ho a1.size
 unfold Gv at a0
 rw[a3] at a0
 obtain⟨p2,c3,rfl⟩:=(Ze a0).slice
 have a2:=bln a1 a4
 exact xe 6 (.tuple #[.slice p2 256 c3,V0 0]) ⟨_,rfl,a2,_,_,rfl,a0⟩
theorem Ph(B b:Nat)(p:O0)(n c:Nat)(l:Bl)(k:Int)(w:World)(hI:ImgR B b p n c l w) :
 C0 72 #[P0 b,V0 k] w (ReadP n l k w):=by
 by_cases h:0≤k∧k<(n/256:Nat)
 ·obtain⟨g,rfl,hc⟩:=hI.base (by omega)
  obtain⟨j,rfl⟩:∃ j:Nat,k=j:=⟨k.toNat,by omega⟩
  refine(Dh B b g n c l j w hI (by omega) hc).mono ?_
  rintro e W ⟨_,rfl,hb,p2,c3,rfl,ho⟩
  exact .inr ⟨j,rfl,by omega,_,_,rfl,hb,ho⟩
 ·refine(Ba B b p n c l k w hI h).mono ?_
  rintro e W ⟨_,rfl,hb,v,rfl⟩
  exact .inl ⟨h,_,rfl,hb⟩
def inE (l:Bl)(kind no:Int):Int:=if 0≤no∧no<(l.length/256:Nat) then Xz kind no (Kd l no.toNat) else 3
def inB (l:Bl)(no:Int):Bl:=((Kd l no.toNat).drop 8).take 244
theorem Dl{l:Bl}{kind no:Int}{n:Nat}(hl:l.length=n)(h:¬ (0≤no∧no<(n/256:Nat))):inE l kind no=3:=by subst hl;exact if_neg h
theorem Ri{l:Bl}{kind no:Int}{n j:Nat}(hl:l.length=n)(hk:no=(j:Int))(h:j<n/256):inE l kind no=Xz kind no (Kd l j):=by
 subst hl hk;rw[inE,if_pos ⟨by omega,by omega⟩];rfl
theorem Rd{l:Bl}{no:Int}{j:Nat}(hk:no=(j:Int)):inB l no=((Kd l j).drop 8).take 244:=by subst hk;rfl
theorem Sy{l:Bl}{no:Int}{n j:Nat}(hl:l.length=n)(hk:no=(j:Int))(h:j<n/256):(inB l no).length=244:=by
 subst hl hk;have:=Qu h;simp[inB,this]
theorem Dd{l l':Bl}(h:l.length=l'.length)(h2:∀ j,j<l.length→l.getD j 0=l'.getD j 0):l=l':=by
 apply List.ext_getElem h
 intro j h3 h4
 have:=h2 j h3
 simpa [List.getD,h3,h4] using this
theorem Ko{l:Bl}{k:Nat}{x:Bl}(h:k+x.length≤l.length)(j:Nat):(Qs l k x).getD j 0=if k≤j∧j<k+x.length then x.getD (j-k) 0 else l.getD j 0:=by
 unfold Qs
 simp only[List.getD]
 rw[List.append_assoc,List.getElem?_append,List.getElem?_append]
 have e:(l.take k).length=k:=by simp;omega
 rw[e]
 by_cases h1:j<k
 ·rw[if_pos h1,if_neg (by omega),List.getElem?_take,if_pos h1]
 ·rw[if_neg h1]
  by_cases h2:j-k<x.length
  ·rw[if_pos h2,if_pos (by omega)]
  ·rw[if_neg h2,if_neg (by omega),List.getElem?_drop,show k+x.length+(j-k-x.length)=j by omega]
theorem Ca{l l':Bl}:∀ (w k:Nat),(∀ j,k≤j→j<k+w→l.getD j 0=l'.getD j 0)→Zh l k w=Zh l' k w
 | 0,k,h=>rfl
 | w+1,k,h=>by rw[Zh,Zh,h k (by omega) (by omega),Ca w (k+1) fun j h1 h2=>h j (by omega) (by omega)]
theorem Ky{l:Bl}:∀ (w k m:Nat),(∀ i,i<w→l.getD (k+i) 0=UInt8.ofNat (m/256 ^ i))→Zh l k w=m%256 ^ w
 | 0,k,m,h=>by simp[Zh,Nat.mod_one]
 | w+1,k,m,h=>by
  have h0:=h 0 (by omega)
  simp only[Nat.add_zero,Nat.pow_zero,Nat.div_one] at h0
  have h1:=Ky (l:=l) w (k+1) (m/256) fun i hi=>by
   have:=h (i+1) (by omega)
   rw[Nat.pow_succ,Nat.mul_comm,←Nat.div_div_eq_div_mul] at this
   rw[show k+1+i=k+(i+1) by omega];exact this
  rw[Zh,h0,h1,Nat.pow_succ,Nat.mul_comm (256 ^ w) 256,Nat.mod_mul]
  congr 1
theorem Dy{l:Bl}{k w:Nat}{n:Int}(h:k+w≤l.length)(h0:0≤n)(hb:n.toNat<256 ^ w):(Zh (Qs l k (leB n w)) k w:Int)=n:=by
 rw[Ky w k n.toNat,Nat.mod_eq_of_lt hb]
 ·omega
 ·intro i hi
  rw[Ko (by rw[Zf];exact h),if_pos (by rw[Zf];omega),show k+i-k=i by omega]
  simp[leB,Zl,List.getD,List.getElem?_range hi]
theorem Xs{l x:Bl}{k j w:Nat}(h:k+x.length≤l.length)(hd:j+w≤k∨k+x.length≤j):Zh (Qs l k x) j w=Zh l j w :=
 Ca w j fun i h1 h2=>by rw[Ko h,if_neg (by omega)]
theorem Zfd{l:Bl}{k w:Nat}(h:∀ j,k≤j→j<k+w→l.getD j 0=0):Zh l k w=0:=by
 have:=Ky (l:=l) w k 0 fun i hi=>by rw[h (k+i) (by omega) (by omega)];simp
 simpa using this
theorem sumB_put{l x:Bl}{kind:Int}(h:252≤l.length):Lo (Qs l 252 x) kind=Lo l kind:=by
 unfold Lo Qs
 rw[List.append_assoc,List.take_append_of_le_length (by simp;omega),List.take_take];rfl
theorem Uo(n j:Nat):(List.replicate n (0:UInt8)).getD j 0=0:=by
 simp[List.getD,List.getElem?_replicate];split<;>rfl
def Fw(li:Bl):Bl:=li++List.replicate (244-li.length) 0
theorem Eu{kind no:Int}{li:Bl}(h1:1≤kind)(h2:kind≤4)(h3:0≤no)(h4:no<14400)(hl:li.length≤244):Xz kind no (Yg kind no li)=0:=by
 have l1:=Jd hl
 have l2:=Kz (no:=no) hl
 have l3:=Vc (kind:=kind) (no:=no) hl
 have l4:=Ka (kind:=kind) (no:=no) hl
 have a0:Uc kind no (Yg kind no li) 0=false:=by simp only[Uc];rw[show Gk kind no=true from decide_eq_true (by omega)];rfl
 have a1:Uc kind no (Yg kind no li) 1=false:=by simp only[Uc,l4];rfl
 have a2:Uc kind no (Yg kind no li) 2=false:=by
  have hs:Lo (Yg kind no li) kind=Lo (Ga kind no li) kind:=by unfold Yg;exact sumB_put (by omega)
  have hr:(Zh (Yg kind no li) 252 4:Int)=(Lo (Ga kind no li) kind:Int):=by
   unfold Yg
   exact Dy (by omega) (by omega) (by have:=Ze7 (Ga kind no li) kind;simpa using this)
  simp only[Uc,hr,hs];simp
 have a3:Uc kind no (Yg kind no li) 3=false:=by
  have hr:(Zh (Yg kind no li) 0 4:Int)=no:=by
   unfold Yg
   rw[Xs (by rw[Zf];omega) (.inl (by omega))]
   unfold Ga
   rw[Xs (by rw[Zf];omega) (.inl (by omega))]
   unfold Sz
   exact Dy (by omega) (by omega) (by omega)
  simp only[Uc,hr];simp
 have a4:Uc kind no (Yg kind no li) 4=false:=by
  have hr:(Zh (Yg kind no li) 4 2:Int)=kind:=by
   unfold Yg
   rw[Xs (by rw[Zf];omega) (.inl (by omega))]
   unfold Ga
   exact Dy (by omega) (by omega) (by omega)
  simp only[Uc,hr];simp
 have a5:Uc kind no (Yg kind no li) 5=false:=by
  have hr:Zh (Yg kind no li) 6 2=0:=by
   unfold Yg
   rw[Xs (by rw[Zf];omega) (.inl (by omega))]
   unfold Ga
   rw[Xs (by rw[Zf];omega) (.inr (by rw[Zf];omega))]
   unfold Sz
   rw[Xs (by rw[Zf];omega) (.inr (by rw[Zf];omega))]
   unfold Fi
   rw[Xs (by rw[List.length_replicate];omega) (.inl (by omega))]
   exact Zfd fun j _ _=>Uo 256 j
  simp only[Uc,hr];rfl
 simp[Xz,a0,a1,a2,a3,a4,a5]
theorem Zfy{kind no:Int}{li:Bl}(hl:li.length≤244):((Yg kind no li).drop 8).take 244=Fw li:=by
 have l1:=Jd hl
 have l2:=Kz (no:=no) hl
 have l3:=Vc (kind:=kind) (no:=no) hl
 have l4:=Ka (kind:=kind) (no:=no) hl
 apply Dd
 ·simp[Fw,l4];omega
 ·intro j hj
  have a0:j<244:=by simp[l4] at hj;omega
  have e:(((Yg kind no li).drop 8).take 244).getD j 0=(Yg kind no li).getD (8+j) 0:=by
   simp only[List.getD];rw[List.getElem?_take,if_pos a0,List.getElem?_drop]
  rw[e]
  unfold Yg
  rw[Ko (by rw[Zf];omega),if_neg (by rw[Zf];omega)]
  unfold Ga
  rw[Ko (by rw[Zf];omega),if_neg (by rw[Zf];omega)]
  unfold Sz
  rw[Ko (by rw[Zf];omega),if_neg (by rw[Zf];omega)]
  unfold Fi
  rw[Ko (by rw[List.length_replicate];omega),Uo]
  unfold Fw
  simp only[List.getD]
  rw[List.getElem?_append]
  by_cases h:j<li.length
  ·rw[if_pos ⟨by omega,by omega⟩,if_pos h,show 8+j-8=j by omega]
  ·rw[if_neg (by omega),if_neg h]
   have:=Uo (244-li.length) (j-li.length)
   simp only[List.getD] at this
   exact this.symm
theorem blkB_put{l x:Bl}{k:Nat}(hx:x.length=256)(hk:k<l.length/256):Kd (Qs l (k*256) x) k=x:=by
 have a0:k*256+256≤l.length:=by omega
 have hp:=Qe (l:=l) (k:=k*256) (x:=x) (by omega)
 apply Dd
 ·rw[Qu (by rw[hp];exact hk),hx]
 ·intro j hj
  rw[Qu (by rw[hp];exact hk)] at hj
  have e:(Kd (Qs l (k*256) x) k).getD j 0=(Qs l (k*256) x).getD (k*256+j) 0:=by
   simp only[Kd,List.getD];rw[List.getElem?_take,if_pos hj,List.getElem?_drop]
  rw[e,Ko (by omega),if_pos (by omega),show k*256+j-k*256=j by omega]
theorem Bb{l x:Bl}{k i:Nat}(hx:x.length=256)(hk:k<l.length/256)(hne:i≠k)(hi:i<l.length/256):Kd (Qs l (k*256) x) i=Kd l i:=by
 have a0:k*256+256≤l.length:=by omega
 have hp:=Qe (l:=l) (k:=k*256) (x:=x) (by omega)
 apply Dd
 ·rw[Qu (by rw[hp];exact hi),Qu hi]
 ·intro j hj
  rw[Qu (by rw[hp];exact hi)] at hj
  have e:∀ l:Bl,(Kd l i).getD j 0=l.getD (i*256+j) 0:=fun l=>by
   simp only[Kd,List.getD];rw[List.getElem?_take,if_pos hj,List.getElem?_drop]
  rw[e,e,Ko (by omega),if_neg (by omega)]
theorem Xr(k:Nat):Builtin.zeroCells #[Value.int .u8 0] k=(List.replicate k (Value.int .u8 0)).toArray:=by
 apply Array.ext'
 unfold Builtin.zeroCells
 simp only[List.size_toArray,List.length_cons,List.length_nil,Nat.zero_add,Nat.mul_one,Nat.mod_one]
 rw[Array.toList_map]
 simp only[Array.toList_range]
 apply List.ext_getElem?
 intro i
 simp only[List.getElem?_map,List.getElem?_replicate]
 by_cases h:i<k
 ·rw[List.getElem?_range h,if_pos h];rfl
 ·rw[if_neg h,List.getElem?_eq_none (by simpa using h)];rfl
theorem Hh{P:Program}(w:World)(t tn ty e:TypeId)(i:TypeInfo)(kq kn:IntKind)(ht:P.underlying t=some (.slice e))(htn:P.underlying tn=some (.int kn))(hi:P.info? e=some i)(hz:i.zero=some (.int .u8 0))(hs1:i.size=1)(hb1:i.bytes=1)
 (g n c k:Nat) (cur:Array Value) (hg:w.heap[g]? = some (.cells cur e (0,0))) (h0:0<k) (hroom:n+k≤c) (hfit:n+k≤cur.size) (hk:n+k≤1000000) :
 (Builtin.append_ #[t,tn] ty #[.slice (S1 g) n c,.int kq k]).run P w =
 .ok (.slice (S1 g) (n+k) c) (w.setRow g (cur.toList.take n++List.replicate k (Value.int .u8 0)++cur.toList.drop (n+k)).toArray):=by
 have a3:k≠0:=by omega
 have hw:IntKind.i64.wrap (k:Int)=k:=by rw[IntKind.wrap_i64];omega
 have a1:¬ (281474976710656<(k:Int)):=by omega
 have a0:¬ ((k:Int)<0):=by omega
 have a2:=run_storeCells_at P g n e (List.replicate k (.int .u8 0)) 0 cur w hg (by simpa using hfit) (by intro u hu;rw[(List.mem_replicate.1 hu).2];rfl)
 simp only[Nat.add_zero,List.length_replicate] at a2
 simp[Builtin.append_,run_underlying ht,run_underlying htn,sizeOf,typeInfo,zeroValue,hi,hz,hs1,hb1,asInt,asIntOf,hw,a0,a1,a3,hroom,Addr.add_lit,show(Value.int IntKind.u8 0).cells=#[Value.int .u8 0] from rfl,Xr,a2]
theorem op_appZo{P:Program}{a:Act}{w:World}{K:Act→World→Prop}{Q:Exit→Act→World→Prop}{o:Oper}{s x:Operand}{t tn e:TypeId}{kq kn:IntKind}{base:Nat}{v:Value}{n:Nat}{xs:List Value}(k n':Nat)(xs':List Value)
 (ho:o.op=.call { callee:=.builtin .append,args:=#[s,x],argTypes:=#[t,tn] }) (ht:P.underlying t=some (.slice e)) (htn:P.underlying tn=some (.int kn)) (hi:(P.info? e).map (fun i=>(i.zero,i.size,i.bytes))=some (some (.int .u8 0),1,1))
 (hs:a.eval s=v) (hown:w.ownsRow base e 1 v n xs) (hx:a.eval x=.int kq (k:Int)) (h0:0<k) (hk:n+k≤1000000) (hbase:base≤w.heap.size) (hn:n+k=n') (hxs:xs++List.replicate k (.int .u8 0)=xs')
 (h:∀ b c' W,W.ownsRow base e 1 (.slice b n' c') n' xs'→w.grownBy W v.ownBlock→Below base w W→K (a.put o.dst (.slice b n' c')) W):o.wp P a w K Q:=by
 subst hn hxs
 cases hq:P.info? e with
 | none=>simp[hq] at hi
 | some i =>
  simp only[hq,Option.map_some,Option.some.injEq,Prod.mk.injEq] at hi
  obtain⟨hz,h1,h2⟩:=hi
  have a5:xs.length=n:=by simpa using hown.1
  have a0:(xs++List.replicate k (Value.int .u8 0)).length=(n+k)*1:=by simp[a5]
  rcases hown.2 with ⟨rfl,rfl⟩|⟨g,c,a1,rfl,b0,hg,b4,a2,b1,a4⟩
  ·obtain rfl:xs=[]:=List.eq_nil_of_length_eq_zero a5
   have hr:=Lib.run_append_nil_zeros (P:=P) w t tn o.type e i (.int .u8 0) kq kn ht htn hq hz k h0 (by omega) (by omega) (by rw[h2];omega)
   unfold Oper.wp execOp
   simp only[ho,resolve,invoke,builtin,Sem.run_bind,Sem.run_pure,Result.andThen_ok,List.map_toArray,List.map_cons,List.map_nil,hs,hx,hr]
   have a6:=grownCap_ge w k 0 e
   have a2:grownCap w k 0 e≤maxLen:=grownCap_le_maxLen w k 0 e (by unfold maxLen;omega)
   simp only[Nat.zero_add,List.nil_append] at h
   refine h _ _ _ ⟨by simp,.inr ⟨w.heap.size,_,_,rfl,hbase,heap_alloc_new w.drew _,a6,a2,?_,?_⟩⟩ ⟨rfl,rfl,rfl,by simp,fun k hk _=>by first|exact heap_alloc_old w.drew _ k hk|exact heap_alloc_old w.drew _ hk⟩ (((Za w).trans (show Below w.drew.heap.size w.drew _ from blx w.drew _)).mono hbase)
   ·rw[show(Value.int .u8 0).cells=#[Value.int .u8 0] from rfl,Xr,Xr];simp;omega
   ·rw[show(Value.int .u8 0).cells=#[Value.int .u8 0] from rfl,Xr,Xr]
    simp only[Array.toList_append,Nat.mul_one]
    exact List.take_left' (by simp)
  by_cases hroom:n+k≤c
  ·have b3:a1.size=c:=by simpa using b1
   have hr:=Hh (P:=P) w t tn o.type e i kq kn ht htn hq hz h1 h2 g n c k a1 hg h0 hroom (by omega) hk
   unfold Oper.wp execOp
   simp only[ho,resolve,invoke,builtin,Sem.run_bind,Sem.run_pure,Result.andThen_ok,List.map_toArray,List.map_cons,List.map_nil,hs,hx,hr]
   have a8:w.grownBy (w.setRow g (a1.toList.take n++List.replicate k (Value.int .u8 0)++a1.toList.drop (n+k)).toArray) (Value.ownBlock (.slice (S1 g) n c)):=⟨rfl,rfl,rfl,by simp,fun k' _ b2=>setRow_other w g k' _ (fun e=>b2 (by simp[Value.ownBlock,e]))⟩
   refine h _ _ _ ⟨a0,.inr ⟨g,c,_,rfl,b0,setRow_heap w g a1 _ e _ hg,hroom,a2,?_,?_⟩⟩ a8 (Vr a8 hown (Nat.le_refl _) hbase)
   ·simp only[List.size_toArray,List.length_append,List.length_take,List.length_drop,Array.length_toList,List.length_replicate]
    omega
   ·have a9:a1.toList.take n=xs:=by simpa using a4
    rw[a9,←a0]
    exact List.take_left
  ·have a3:∀ j u,xs[j]? = some u→w.cell? ((⟨g,0,none⟩:Addr).add j)=some u:=hown.cells (g:=g) rfl
   have a7:=run_firstCells_some (P:=P) (w:=w.drew) i.size n ⟨g,0,none⟩ n c xs (by rw[a5,h1,Nat.mul_one]) (by simpa using a3)
   have hr:=Lib.run_append_grow_zeros (P:=P) w t tn o.type e i (.int .u8 0) kq kn ht htn hq hz (S1 g) n c xs a7 k h0 (by omega) (by omega) (by omega) (by rw[h2];omega) (by rw[h2];exact growslice_fits (by omega) (by omega))
   unfold Oper.wp execOp
   simp only[ho,resolve,invoke,builtin,Sem.run_bind,Sem.run_pure,Result.andThen_ok,List.map_toArray,List.map_cons,List.map_nil,hs,hx,hr]
   have a6:=grownCap_ge w (n+k) c e
   have a2:grownCap w (n+k) c e≤maxLen:=grownCap_le_maxLen w (n+k) c e (by unfold maxLen;omega)
   refine h _ _ _ ⟨a0,.inr ⟨w.heap.size,_,_,rfl,hbase,heap_alloc_new w.drew _,a6,a2,?_,?_⟩⟩ ⟨rfl,rfl,rfl,by simp,fun k hk _=>by first|exact heap_alloc_old w.drew _ k hk|exact heap_alloc_old w.drew _ hk⟩ (((Za w).trans (show Below w.drew.heap.size w.drew _ from blx w.drew _)).mono hbase)
   ·rw[show(Value.int .u8 0).cells=#[Value.int .u8 0] from rfl,Xr,Xr];simp[a5];omega
   ·rw[show(Value.int .u8 0).cells=#[Value.int .u8 0] from rfl,Xr,Xr]
    simp only[Array.toList_append,List.append_assoc]
    rw[←List.append_assoc,←a0]
    exact List.take_left
end Go.Proofs.YtgphgaehfdfjjaaGreatDoor
namespace Go.Proofs.YtgphgaehfdfjjaaGreatDoor
set_option maxHeartbeats 8000000
set_option maxRecDepth 100000
open Go.RowKit Go.Extern.Stop Go.Stop Go.Extern
set_option linter.unusedVariables false
section
variable {P:Program} {Q:Exit→Act→World→Prop} {a:Act} {w:World} {K:Act→World→Prop}
theorem op_copyS{o:Oper}{d x:Operand}{dT sT e:TypeId}{base g off n cap dLen dCap:Nat}{xs:List Value}(l:Bl)(xs':List Value)(ho:o.op=.call { callee:=.builtin .copy,args:=#[d,x],argTypes:=#[dT,sT] })(hu:P.underlying dT=some (.slice e))(hsz:(P.info? e).map (·.size)=some 1)
 (hd:a.eval d=.slice (some ⟨g,off,none⟩) dLen dCap) (hs:a.eval x=.string ⟨l.toArray⟩) (hown:w.ownsRow base e 1 (.slice (S1 g) n cap) n xs) (hm:l.length≤dLen) (hfit:off+l.length≤n)
 (hbase:base≤w.heap.size) (hxs:xs.take off++l.map bv++xs.drop (off+l.length)=xs')
 (h:∀ W,W.ownsRow base e 1 (.slice (S1 g) n cap) n xs'→w.grownBy W (Value.slice (S1 g) n cap).ownBlock→Below base w W→K (a.put o.dst (V0 (l.length:Int))) W):o.wp P a w K Q:=by
 obtain⟨hl,hr⟩:=hown
 rcases hr with ⟨hv,_⟩|⟨g2,b3,a1,hv,a6,hh,a5,a7,a4,a8⟩
 ·cases hv
 simp only[Value.slice.injEq,Option.some.injEq,Addr.mk.injEq] at hv
 obtain⟨⟨rfl,_,_⟩,_,rfl⟩:=hv
 have b0:xs.length=n:=by simpa using hl
 have a3:a1.toList.length=cap:=by simpa using a4
 have a9:(l.map bv).length=l.length:=by simp
 have b1:∀ W,W.heap[g]? = some (.cells (a1.toList.take off++l.map bv++a1.toList.drop (off+l.length)).toArray e (0,0))→w.grownBy W (some g)→K (a.put o.dst (V0 (l.length:Int))) W:=by
  intro W hW hg
  refine h W ⟨?_,.inr ⟨g,cap,_,rfl,a6,hW,a5,a7,?_,?_⟩⟩ hg (Vr (v:=.slice (S1 g) n cap) hg ⟨hl,.inr ⟨g,cap,a1,rfl,a6,hh,a5,a7,a4,a8⟩⟩ (Nat.le_refl _) hbase)
  ·rw[←hxs];simp;omega
  ·simp only[List.size_toArray,List.length_append,List.length_take,List.length_drop,a3,Nat.mul_one,a9];omega
  ·have hA:(a1.toList.take off++l.map bv).length=off+l.length:=by simp only[List.length_append,List.length_take,a3,a9];omega
   rw[←hxs,←a8]
   simp only[Nat.mul_one]
   rw[List.take_append,List.take_of_length_le (by rw[hA];omega),hA,List.take_take,Nat.min_eq_left (by omega:off≤n),List.drop_take]
 have a0:(⟨l.toArray⟩:ByteArray).size=l.length:=by show l.toArray.size=l.length;simp
 have a2:=Go.Lib.run_copy_row_string (P:=P) w dT sT o.type e g off dLen dCap ⟨l.toArray⟩ a1 e hu hsz hh (by rw[a0];exact hm) (by rw[a0,a4];omega)
 rw[a0] at a2
 have b2:Go.Lib.byteCells (⟨l.toArray⟩:ByteArray).data.toList=l.map bv:=rfl
 rw[b2] at a2
 have h2:(execOp a.eval o).run P w=.ok (.value (V0 (l.length:Int))) (w.setRow g (a1.toList.take off++l.map bv++a1.toList.drop (off+l.length)).toArray):=by
  simp[execOp,ho,resolve,invoke,builtin,hd,hs,a2,Result.andThen,goInt]
 exact Kx h2 (b1 _ (setRow_heap w g _ _ e _ hh) ⟨rfl,rfl,rfl,by simp,fun k _ hk=>setRow_other w g k _ (fun e=>hk (by rw[e]))⟩)
theorem Sl.head{b:O0}{n c:Nat}{xs:List Value}(h:Sl w (.slice b n c) n xs)(hn:xs.length=n)(m:Nat)(hm:m≤n):Sl w (.slice b m c) m (xs.take m):=by
 rcases h with ⟨a',c',h1,h2,h3⟩|⟨b',a1,a2,h1,h2,h3,h4⟩
 ·obtain rfl:m=0:=by omega
  simp only[Value.slice.injEq] at h1
  exact .inl ⟨b,c,rfl,rfl,by simp⟩
 ·simp only[Value.slice.injEq] at h1
  obtain⟨rfl,_,rfl⟩:=h1
  refine .inr ⟨b',a1,c,rfl,by omega,h3,fun j x hj=>h4 j x ?_⟩
  have a0:j<m:=by have:=(List.getElem?_eq_some_iff.1 hj).1;simp at this;omega
  rwa [List.getElem?_take_of_lt a0] at hj
def sv (l:Bl):Value:=.string ⟨l.toArray⟩
theorem Strs.elem{b:O0}{n c:Nat}{V:List Bl}(h:Sl w (.slice b n c) n (V.map sv))(hl:V.length=n){k:Nat}(hk:k<n):b.isSome=true∧w.cell? (Zv b (k*1))=some (.string ⟨(V.getD k []).toArray⟩):=by
 rcases h with ⟨a',c',h1,h2,h3⟩|⟨b',a0,a1,h1,h2,h3,h4⟩
 ·omega
 ·simp only[Value.slice.injEq] at h1
  obtain⟨rfl,_,rfl⟩:=h1
  refine⟨rfl,?_⟩
  have:=h4 k (sv (V.getD k [])) (by simp[List.getD,List.getElem?_eq_getElem (show k<V.length by omega)])
  rw[Nat.mul_one]
  show w.cell? ((⟨b',a0,none⟩:Addr).add k)=_
  rw[Addr.add_mid]
  exact this
end
end Go.Proofs.YtgphgaehfdfjjaaGreatDoor
namespace Go.Proofs.YtgphgaehfdfjjaaGreatDoor
set_option maxHeartbeats 8000000
set_option maxRecDepth 100000
open Go.RowKit Go.Extern.Stop Go.Stop Go.Extern
set_option linter.unusedVariables false
section
variable {P:Program} {a:Act} {w:World} {K:Act→World→Prop} {Q:Exit→Act→World→Prop}
theorem Sn(l:Bl):Lib.strCells ⟨l.toArray⟩=l.map bv:=by
 unfold Lib.strCells bv
 simp
theorem op_appS{o:Oper}{s x:Operand}{t u e:TypeId}{base:Nat}{v:Value}{n:Nat}{xs:List Value}(l:Bl)(n':Nat)(xs':List Value)(ho:o.op=.call { callee:=.builtin .append,args:=#[s,x],argTypes:=#[t,u] })
 (ht:P.underlying t=some (.slice e)) (hu:P.underlying u=some .string) (hi:(P.info? e).map (fun i=>(i.zero,i.size,i.bytes))=some (some (.int .u8 0),1,1)) (hs:a.eval s=v) (hown:w.ownsRow base e 1 v n xs) (hx:a.eval x=.string ⟨l.toArray⟩)
 (hb:n+l.length≤100000000) (hbase:base≤w.heap.size) (hn:n+l.length=n') (hxs:xs++l.map bv=xs')
 (h:∀ b c W,W.ownsRow base e 1 (.slice b n' c) n' xs'→w.grownBy W v.ownBlock→Below base w W→K (a.put o.dst (.slice b n' c)) W):o.wp P a w K Q:=by
 cases hq:P.info? e with
 | none=>simp[hq] at hi
 | some i =>
  simp only[hq,Option.map_some,Option.some.injEq,Prod.mk.injEq] at hi
  have a0:(⟨l.toArray⟩:ByteArray).size=l.length:=by simp[ByteArray.size]
  obtain⟨v',W,hr,h2,h3,_⟩:=Lib.run_append_own_string (P:=P) w base t u o.type e i ht hu hq hi.1 hi.2.1 hi.2.2 v n xs hown ⟨l.toArray⟩ (by rw[a0];unfold maxLen;omega) (by rw[a0];omega) hbase
  rw[a0,Sn] at h2
  subst hn hxs
  obtain⟨b,c,rfl⟩:=(Ze h2).slice
  unfold Oper.wp execOp
  simp only[ho,resolve,invoke,builtin,Sem.run_bind,Sem.run_pure,Result.andThen_ok,List.map_toArray,List.map_cons,List.map_nil,hs,hx,hr]
  exact h b c W h2 h3 (Vr h3 hown (Nat.le_refl _) hbase)
theorem Ra(g k:Nat):Zv (S1 g) (k*1)=⟨g,k,none⟩:=by
 simp[Zv,Addr.add];exact fun h=>h.symm
theorem Gr{o:Oper}{t e:TypeId}{x y:Operand}{g n c k base:Nat}{xs:List Value}{v:Value}(ho:o.op=.store t x y)(hx:a.eval x=.pointer (some (Zv (S1 g) (k*1))))(hy:a.eval y=v)
 (hi:(P.info? t).map (·.size)=some 1) (h1:v.oneCell'=true) (hown:w.ownsRow base e 1 (.slice (S1 g) n c) n xs) (hk:k<n)
 (h:∀ W,Upd w g W→W.ownsRow base e 1 (.slice (S1 g) n c) n (xs.set k v)→K (a.put o.dst undef) W):o.wp P a w K Q:=by
 obtain⟨hl,h2⟩:=hown
 rcases h2 with ⟨h2,_⟩|⟨g',a3,a0,hv,hg,hh,hc,hm,a1,a2⟩
 ·cases h2
 ·simp only[Value.slice.injEq,Option.some.injEq,Addr.mk.injEq] at hv
  obtain⟨⟨rfl,_⟩,_,rfl⟩:=hv
  have hb:Blk w g a0.toList e:=by unfold Blk;simpa using hh
  rw[Ra] at hx
  refine Uu ho hx hy hi h1 hb (by simp;omega) fun W hu hW=>h W hu ⟨by simpa using hl,.inr ⟨g,c,(a0.toList.set k v).toArray,rfl,hg,hW,hc,hm,by simpa using a1,?_⟩⟩
  rw[←a2]
  simp[List.take_set]
end
section
variable {P:Program} {ops:Array Oper} {Q:Exit→Act→World→Prop} {a a':Act} {w:World} {S:World→Prop} {md:Region.Mode} {L L':Array Bool} {fuel:Nat}
end
theorem Md{w:World}{base e size g n c:Nat}{xs:List Value}(h:w.ownsRow base e size (.slice (S1 g) n c) n xs):base≤g:=(h.lt g rfl).1
theorem Cz{w:World}{base e size g n c:Nat}{xs:List Value}(h:w.ownsRow base e size (.slice (S1 g) n c) n xs):∃ cs,Blk w g cs e:=by
 rcases h.2 with ⟨h2,_⟩|⟨g',a1,a0,hv,hg,hh,_⟩
 ·cases h2
 ·simp only[Value.slice.injEq,Option.some.injEq,Addr.mk.injEq] at hv
  obtain⟨⟨rfl,_⟩,_⟩:=hv
  exact⟨a0.toList,by unfold Blk;simpa using hh⟩
theorem Cj{w:World}{base e size g n c b:Nat}{t:TypeId}{xs cs:List Value}(k:Blk w b cs t)(h:w.ownsRow base e size (.slice (S1 g) n c) n xs)(hne:t≠e):b≠g:=by
 rintro rfl
 obtain⟨a0,k'⟩:=Cz h
 have h1:w.heap[b]? = some (.cells cs.toArray t (0,0)):=k
 rw[show w.heap[b]? = some (.cells a0.toArray e (0,0)) from k'] at h1
 simp only[Option.some.injEq,Obj.cells.injEq] at h1
 exact hne h1.2.1.symm
theorem Zg.of_updRow{T:List TypeId}{w W:World}{base e size g n c:Nat}{xs:List Value}(u:Upd w g W)(h:w.ownsRow base e size (.slice (S1 g) n c) n xs)(hT:T.contains e=true):Zg T w W:=by
 obtain⟨cs,k⟩:=Cz h
 exact Zg.of_upd u k hT
theorem Upd.ownRow{w W:World}{base base2 e e2 size size2 g n c n2:Nat}{v:Value}{xs ys:List Value}(u:Upd w g W)(h:w.ownsRow base2 e2 size2 v n2 ys)(o:w.ownsRow base e size (.slice (S1 g) n c) n xs)(hne:e2≠e):W.ownsRow base2 e2 size2 v n2 ys:=by
 obtain⟨cs,k⟩:=Cz o
 exact u.own2 h k hne
end Go.Proofs.YtgphgaehfdfjjaaGreatDoor
namespace Go.Proofs.YtgphgaehfdfjjaaGreatDoor
set_option maxHeartbeats 8000000
set_option maxRecDepth 100000
open Go.RowKit
set_option linter.unusedVariables false
theorem Zf2(bs:ByteArray)(i:Nat)(r:Bl):ByteArray.toList.loop bs i r=r.reverse++bs.data.toList.drop i:=by
 have hs:bs.data.toList.length=bs.size:=by rw[Array.length_toList];rfl
 rw[ByteArray.toList.loop]
 split
 ·rename_i h
  have h':i<bs.data.toList.length:=by omega
  rw[Zf2 bs (i+1) _,List.drop_eq_getElem_cons h']
  have e:bs.get! i=bs.data.toList[i]:=by
   have h2:i<bs.data.size:=by rw[←Array.length_toList];exact h'
   show bs.data[i]! = _
   rw[getElem!_pos bs.data i h2];simp
  rw[e];simp
 ·rename_i h
  rw[List.drop_eq_nil_of_le (by omega)];simp
termination_by bs.size-i
theorem Io(a:Bl):(⟨a.toArray⟩:ByteArray).toList=a:=by
 unfold ByteArray.toList;rw[Zf2];simp
theorem Zdy(a b:Bl):((⟨a.toArray⟩:ByteArray).toList==(⟨b.toArray⟩:ByteArray).toList)=(a==b):=by rw[Io,Io]
theorem Zch{b:Bool}(h:(!b)=true):b=false:=by simpa using h
theorem Zb1{b:Bool}(h:(!b)=false):b=true:=by simpa using h
end Go.Proofs.YtgphgaehfdfjjaaGreatDoor
namespace Go.Proofs.YtgphgaehfdfjjaaGreatDoor
set_option maxHeartbeats 8000000
set_option maxRecDepth 100000
open Go.RowKit Go.Extern.Stop Go.Stop Go.Extern
set_option linter.unusedVariables false
attribute [local irreducible] wpList wpAnyH Code.wp Oper.wp Go
theorem Px(g:Nat)(n:Int)(h0:0≤n)(hb:n<4294967296)(w:World)(hk:Blk w g [V0 4,V0 n] 229) :
 C0 114 #[.slice (S1 g) 1 1] w (Qi (fun w' r=>∃ p c,r=.tuple #[.slice p 4 c,V0 0]∧w'.ownsRow w.heap.size 5 1 (.slice p 4 c) 4 ((leB n 4).map bv)) w):=by
 refine zin 32 Tryz.func114 ?_
 refine xu 20 2 ?_
 refine xlv 14 hk.rp ?_
 refine xa 0 [V0 0,V0 0] 229 fun b1 W1 n1=>?_
 have a8:=n1.ne hk
 refine xsv 0 n1.blk [V0 4,V0 n] fun W2 u2 k2=>?_
 have g1:=n1.ge (B4 w)
 refine xb 6 0 k2 ?_
 refine xr 0 (args:=#[V0 4]) (Ru _) fun W3 a5=>?_
 have a1:=k2.below a5
 refine xb 10 1 a1 ?_
 refine xb 1 0 a1 ?_
 refine xr 0 (args:=#[V0 n,V0 4]) (Ze0 (n) (h0) (hb) _) fun W4 a3=>?_
 have a2:=a1.below a3
 refine xb 9 1 a2 ?_
 refine xb 1 0 a2 ?_
 refine xc 0 (args:=#[V0 n,V0 4]) (Ti (n) (h0) _) ?_
 rintro _ W5 ⟨_,rfl,b5,a6⟩
 have a9:=(bln (bln (u2.below n1.below g1) a5) a3).size
 have a0:=Zd a6 a9
 unfold Gv at a0
 rw[Zf] at a0
 obtain⟨b2,b3,rfl⟩:=(Ze a0).slice
 have o6:=World.ownsRow_nil W5 w.heap.size 5 1
 have hB:=bln (bln (bln (u2.below n1.below g1) a5) a3) b5
 refine xbi 0 fun _ _ _ _ zJ zQ zo zx zy zK=>Zx (m:=4) (news:=(leB (n) 4).map bv) (.int .u8 0) 1 1 (4) ((leB (n) 4).map bv) zo Tryz.underlying22 (by kernel_rfl) rfl (by decide) zx o6 zy (Ze a0) (by simp[Zf]) (Yj _) (by unfold maxLen;omega) (by omega) hB.size (by rfl) (by simp) fun a7 b0 W7 o7 b6 b4=>?_
 refine zK _ _ ?_
 have a4:=hB.trans b4
 exact xe 29 (.tuple #[.slice a7 4 b0,V0 0]) ⟨_,rfl,a4,_,_,rfl,o7⟩
theorem Zf3(g:Nat)(n:Int)(h0:0≤n)(w:World)(hk:Blk w g [V0 8,V0 n] 229) :
 C0 114 #[.slice (S1 g) 1 1] w (Qi (fun w' r=>∃ p c,r=.tuple #[.slice p 8 c,V0 0]∧w'.ownsRow w.heap.size 5 1 (.slice p 8 c) 8 ((leB n 8).map bv)) w):=by
 refine zin 32 Tryz.func114 ?_
 refine xu 20 2 ?_
 refine xlv 14 hk.rp ?_
 refine xa 0 [V0 0,V0 0] 229 fun b1 W1 n1=>?_
 have a8:=n1.ne hk
 refine xsv 0 n1.blk [V0 8,V0 n] fun W2 u2 k2=>?_
 have g1:=n1.ge (B4 w)
 refine xb 6 0 k2 ?_
 refine xr 0 (args:=#[V0 8]) (Zf4 _) fun W3 a5=>?_
 have a1:=k2.below a5
 refine xb 10 1 a1 ?_
 refine xb 1 0 a1 ?_
 refine xr 0 (args:=#[V0 n,V0 8]) (fits_8 (n) (h0) _) fun W4 a3=>?_
 have a2:=a1.below a3
 refine xb 9 1 a2 ?_
 refine xb 1 0 a2 ?_
 refine xc 0 (args:=#[V0 n,V0 8]) (bytes_8 (n) (h0) _) ?_
 rintro _ W5 ⟨_,rfl,b5,a6⟩
 have a9:=(bln (bln (u2.below n1.below g1) a5) a3).size
 have a0:=Zd a6 a9
 unfold Gv at a0
 rw[Zf] at a0
 obtain⟨b2,b3,rfl⟩:=(Ze a0).slice
 have o6:=World.ownsRow_nil W5 w.heap.size 5 1
 have hB:=bln (bln (bln (u2.below n1.below g1) a5) a3) b5
 refine xbi 0 fun _ _ _ _ zJ zQ zo zx zy zK=>Zx (m:=8) (news:=(leB (n) 8).map bv) (.int .u8 0) 1 1 (8) ((leB (n) 8).map bv) zo Tryz.underlying22 (by kernel_rfl) rfl (by decide) zx o6 zy (Ze a0) (by simp[Zf]) (Yj _) (by unfold maxLen;omega) (by omega) hB.size (by rfl) (by simp) fun a7 b0 W7 o7 b6 b4=>?_
 refine zK _ _ ?_
 have a4:=hB.trans b4
 exact xe 29 (.tuple #[.slice a7 8 b0,V0 0]) ⟨_,rfl,a4,_,_,rfl,o7⟩
theorem Zd2(g:Nat)(f t k v m:Int)(hf:0≤f)(hf2:f<256)(ht:0≤t)(ht2:t<256)(hk1:0≤k)(hk2:k<65536)(hv:0≤v)(hv2:v<65536)(hm:0≤m)(hm2:m<65536)(w:World)(hk:Blk w g [V0 1,V0 f,V0 1,V0 t,V0 2,V0 k,V0 2,V0 v,V0 2,V0 m,V0 4,V0 0] 229) :
 C0 114 #[.slice (S1 g) 6 6] w (Qi (fun w' r=>∃ p c,r=.tuple #[.slice p 12 c,V0 0]∧w'.ownsRow w.heap.size 5 1 (.slice p 12 c) 12 ((leB f 1++leB t 1++leB k 2++leB v 2++leB m 2++leB 0 4).map bv)) w):=by
 refine zin 32 Tryz.func114 ?_
 refine xu 20 7 ?_
 refine xlv 14 (hk.rpp 0 2) ?_
 refine xa 0 [V0 0,V0 0] 229 fun b1 W1 n1=>?_
 have m7:=n1.ne hk
 refine xsv 0 n1.blk [V0 1,V0 f] fun W2 u2 k2=>?_
 have g1:=n1.ge (B4 w)
 refine xb 6 0 k2 ?_
 refine xr 0 (args:=#[V0 1]) (Sa _) fun W3 k0=>?_
 have g7:=k2.below k0
 refine xb 10 1 g7 ?_
 refine xb 1 0 g7 ?_
 refine xr 0 (args:=#[V0 f,V0 1]) (fits_1 (f) (hf) (hf2) _) fun W4 j7=>?_
 have h2:=g7.below j7
 refine xb 9 1 h2 ?_
 refine xb 1 0 h2 ?_
 refine xc 0 (args:=#[V0 f,V0 1]) (Zes (f) (hf) _) ?_
 rintro _ W5 ⟨_,rfl,l7,m5⟩
 have p2:=(bln (bln (u2.below n1.below g1) k0) j7).size
 have a7:=Zd m5 p2
 unfold Gv at a7
 rw[Zf] at a7
 obtain⟨p9,o5,rfl⟩:=(Ze a7).slice
 have o6:=World.ownsRow_nil W5 w.heap.size 5 1
 have hB:=bln (bln (bln (u2.below n1.below g1) k0) j7) l7
 refine xbi 0 fun _ _ _ _ zJ zQ zo zx zy zK=>Zx (m:=1) (news:=(leB (f) 1).map bv) (.int .u8 0) 1 1 (1) ((leB (f) 1).map bv) zo Tryz.underlying22 (by kernel_rfl) rfl (by decide) zx o6 zy (Ze a7) (by simp[Zf]) (Yj _) (by unfold maxLen;omega) (by omega) hB.size (by rfl) (by simp) fun t5 t7 W7 o7 n0 o2=>?_
 refine zK _ _ ?_
 have f9:=((((u2.blk (hk.below n1.below) (Ne.symm (Ne.symm m7))).below k0).below j7).below l7).grown n0 o6 (by decide)
 refine xlv 23 (f9.rpp 2 2) ?_
 refine xa 0 [V0 0,V0 0] 229 fun b8 W8 n8=>?_
 have l1:=n8.ne f9
 have i8:=(h2.below l7).grown n0 o6 (by decide)
 have h7:=n8.ne i8
 have g2:=hB.trans o2
 have g8:=n8.ge g2
 refine xsv 0 n8.blk [V0 1,V0 t] fun W9 u9 k9=>?_
 refine xb 6 0 k9 ?_
 refine xr 0 (args:=#[V0 1]) (Sa _) fun r4 c2=>?_
 have f3:=k9.below c2
 refine xb 10 1 f3 ?_
 refine xb 1 0 f3 ?_
 refine xr 0 (args:=#[V0 t,V0 1]) (fits_1 (t) (ht) (ht2) _) fun t9 c3=>?_
 have f0:=f3.below c3
 refine xb 9 1 f0 ?_
 refine xb 1 0 f0 ?_
 refine xc 0 (args:=#[V0 t,V0 1]) (Zes (t) (ht) _) ?_
 rintro _ s5 ⟨_,rfl,d5,m4⟩
 have k8:=(bln (bln (u9.below (bln g2 n8.below) g8) c2) c3).size
 have a3:=Zd m4 k8
 unfold Gv at a3
 rw[Zf] at a3
 obtain⟨p0,o3,rfl⟩:=(Ze a3).slice
 have e2:=Zb (Zb (Zb (u9.own2 (Zb o7 n8.below) n8.blk (by decide)) c2) c3) d5
 have i1:=bln (bln (bln (u9.below (bln g2 n8.below) g8) c2) c3) d5
 refine xbi 0 fun _ _ _ _ zJ zQ zo zx zy zK=>Zx (m:=1) (news:=(leB (t) 1).map bv) (.int .u8 0) 1 1 (2) ((leB (f) 1++leB (t) 1).map bv) zo Tryz.underlying22 (by kernel_rfl) rfl (by decide) zx e2 zy (Ze a3) (by simp[Zf]) (Yj _) (by unfold maxLen;omega) (by omega) i1.size (by rfl) (by simp) fun o8 q0 t0 q1 f5 l6=>?_
 refine zK _ _ ?_
 have g5:=((((u9.blk (f9.below n8.below) (Ne.symm (Ne.symm l1))).below c2).below c3).below d5).grown f5 e2 (by decide)
 refine xlv 23 (g5.rpp 4 2) ?_
 refine xa 0 [V0 0,V0 0] 229 fun r9 t8 c5=>?_
 have h4:=c5.ne g5
 have j4:=((((u9.blk (i8.below n8.below) (Ne.symm (Ne.symm h7))).below c2).below c3).below d5).grown f5 e2 (by decide)
 have f8:=c5.ne j4
 have j1:=(f0.below d5).grown f5 e2 (by decide)
 have g6:=c5.ne j1
 have h0:=i1.trans l6
 have n2:=c5.ge h0
 refine xsv 0 c5.blk [V0 2,V0 k] fun r2 h3 n5=>?_
 refine xb 6 0 n5 ?_
 refine xr 0 (args:=#[V0 2]) (Cr _) fun u5 b9=>?_
 have d2:=n5.below b9
 refine xb 10 1 d2 ?_
 refine xb 1 0 d2 ?_
 refine xr 0 (args:=#[V0 k,V0 2]) (Ip (k) (hk1) (hk2) _) fun r3 b6=>?_
 have c8:=d2.below b6
 refine xb 9 1 c8 ?_
 refine xb 1 0 c8 ?_
 refine xc 0 (args:=#[V0 k,V0 2]) (Eg (k) (hk1) _) ?_
 rintro _ u3 ⟨_,rfl,c1,k1⟩
 have m6:=(bln (bln (h3.below (bln h0 c5.below) n2) b9) b6).size
 have a4:=Zd k1 m6
 unfold Gv at a4
 rw[Zf] at a4
 obtain⟨o1,p1,rfl⟩:=(Ze a4).slice
 have b2:=Zb (Zb (Zb (h3.own2 (Zb q1 c5.below) c5.blk (by decide)) b9) b6) c1
 have h5:=bln (bln (bln (h3.below (bln h0 c5.below) n2) b9) b6) c1
 refine xbi 0 fun _ _ _ _ zJ zQ zo zx zy zK=>Zx (m:=2) (news:=(leB (k) 2).map bv) (.int .u8 0) 1 1 (4) ((leB (f) 1++leB (t) 1++leB (k) 2).map bv) zo Tryz.underlying22 (by kernel_rfl) rfl (by decide) zx b2 zy (Ze a4) (by simp[Zf]) (Yj _) (by unfold maxLen;omega) (by omega) h5.size (by rfl) (by simp) fun q5 p3 t6 q2 d7 l0=>?_
 refine zK _ _ ?_
 have g9:=((((h3.blk (g5.below c5.below) (Ne.symm (Ne.symm h4))).below b9).below b6).below c1).grown d7 b2 (by decide)
 refine xlv 23 (g9.rpp 6 2) ?_
 refine xa 0 [V0 0,V0 0] 229 fun t2 s3 c0=>?_
 have h8:=c0.ne g9
 have h6:=((((h3.blk (j4.below c5.below) (Ne.symm (Ne.symm f8))).below b9).below b6).below c1).grown d7 b2 (by decide)
 have f6:=c0.ne h6
 have j2:=((((h3.blk (j1.below c5.below) (Ne.symm (Ne.symm g6))).below b9).below b6).below c1).grown d7 b2 (by decide)
 have f1:=c0.ne j2
 have e8:=(c8.below c1).grown d7 b2 (by decide)
 have d6:=c0.ne e8
 have g0:=h5.trans l0
 have n7:=c0.ge g0
 refine xsv 0 c0.blk [V0 2,V0 v] fun u0 f7 m9=>?_
 refine xb 6 0 m9 ?_
 refine xr 0 (args:=#[V0 2]) (Cr _) fun u4 b0=>?_
 have d3:=m9.below b0
 refine xb 10 1 d3 ?_
 refine xb 1 0 d3 ?_
 refine xr 0 (args:=#[V0 v,V0 2]) (Ip (v) (hv) (hv2) _) fun s6 b3=>?_
 have d1:=d3.below b3
 refine xb 9 1 d1 ?_
 refine xb 1 0 d1 ?_
 refine xc 0 (args:=#[V0 v,V0 2]) (Eg (v) (hv) _) ?_
 rintro _ r5 ⟨_,rfl,b7,l2⟩
 have l4:=(bln (bln (f7.below (bln g0 c0.below) n7) b0) b3).size
 have a9:=Zd l2 l4
 unfold Gv at a9
 rw[Zf] at a9
 obtain⟨q8,p6,rfl⟩:=(Ze a9).slice
 have a1:=Zb (Zb (Zb (f7.own2 (Zb q2 c0.below) c0.blk (by decide)) b0) b3) b7
 have i5:=bln (bln (bln (f7.below (bln g0 c0.below) n7) b0) b3) b7
 refine xbi 0 fun _ _ _ _ zJ zQ zo zx zy zK=>Zx (m:=2) (news:=(leB (v) 2).map bv) (.int .u8 0) 1 1 (6) ((leB (f) 1++leB (t) 1++leB (k) 2++leB (v) 2).map bv) zo Tryz.underlying22 (by kernel_rfl) rfl (by decide) zx a1 zy (Ze a9) (by simp[Zf]) (Yj _) (by unfold maxLen;omega) (by omega) i5.size (by rfl) (by simp) fun p5 o9 s7 p8 d4 m2=>?_
 refine zK _ _ ?_
 have f2:=((((f7.blk (g9.below c0.below) (Ne.symm (Ne.symm h8))).below b0).below b3).below b7).grown d4 a1 (by decide)
 refine xlv 23 (f2.rpp 8 2) ?_
 refine xa 0 [V0 0,V0 0] 229 fun r8 t4 b5=>?_
 have j3:=b5.ne f2
 have i6:=((((f7.blk (h6.below c0.below) (Ne.symm (Ne.symm f6))).below b0).below b3).below b7).grown d4 a1 (by decide)
 have h1:=b5.ne i6
 have i7:=((((f7.blk (j2.below c0.below) (Ne.symm (Ne.symm f1))).below b0).below b3).below b7).grown d4 a1 (by decide)
 have e9:=b5.ne i7
 have e5:=((((f7.blk (e8.below c0.below) (Ne.symm (Ne.symm d6))).below b0).below b3).below b7).grown d4 a1 (by decide)
 have d8:=b5.ne e5
 have e6:=(d1.below b7).grown d4 a1 (by decide)
 have e1:=b5.ne e6
 have g3:=i5.trans m2
 have o0:=b5.ge g3
 refine xsv 0 b5.blk [V0 2,V0 m] fun r6 e4 n4=>?_
 refine xb 6 0 n4 ?_
 refine xr 0 (args:=#[V0 2]) (Cr _) fun r1 a2=>?_
 have d0:=n4.below a2
 refine xb 10 1 d0 ?_
 refine xb 1 0 d0 ?_
 refine xr 0 (args:=#[V0 m,V0 2]) (Ip (m) (hm) (hm2) _) fun s4 a6=>?_
 have c7:=d0.below a6
 refine xb 9 1 c7 ?_
 refine xb 1 0 c7 ?_
 refine xc 0 (args:=#[V0 m,V0 2]) (Eg (m) (hm) _) ?_
 rintro _ s8 ⟨_,rfl,b4,m3⟩
 have k3:=(bln (bln (e4.below (bln g3 b5.below) o0) a2) a6).size
 have a5:=Zd m3 k3
 unfold Gv at a5
 rw[Zf] at a5
 obtain⟨p7,p4,rfl⟩:=(Ze a5).slice
 have a0:=Zb (Zb (Zb (e4.own2 (Zb p8 b5.below) b5.blk (by decide)) a2) a6) b4
 have i4:=bln (bln (bln (e4.below (bln g3 b5.below) o0) a2) a6) b4
 refine xbi 0 fun _ _ _ _ zJ zQ zo zx zy zK=>Zx (m:=2) (news:=(leB (m) 2).map bv) (.int .u8 0) 1 1 (8) ((leB (f) 1++leB (t) 1++leB (k) 2++leB (v) 2++leB (m) 2).map bv) zo Tryz.underlying22 (by kernel_rfl) rfl (by decide) zx a0 zy (Ze a5) (by simp[Zf]) (Yj _) (by unfold maxLen;omega) (by omega) i4.size (by rfl) (by simp) fun q9 q3 t3 o4 c4 k5=>?_
 refine zK _ _ ?_
 have i3:=((((e4.blk (f2.below b5.below) (Ne.symm (Ne.symm j3))).below a2).below a6).below b4).grown c4 a0 (by decide)
 refine xlv 23 (i3.rpp 10 2) ?_
 refine xa 0 [V0 0,V0 0] 229 fun s0 r7 c6=>?_
 have n6:=c6.ne i3
 have l8:=((((e4.blk (i6.below b5.below) (Ne.symm (Ne.symm h1))).below a2).below a6).below b4).grown c4 a0 (by decide)
 have k4:=c6.ne l8
 have m0:=((((e4.blk (i7.below b5.below) (Ne.symm (Ne.symm e9))).below a2).below a6).below b4).grown c4 a0 (by decide)
 have l9:=c6.ne m0
 have i0:=((((e4.blk (e5.below b5.below) (Ne.symm (Ne.symm d8))).below a2).below a6).below b4).grown c4 a0 (by decide)
 have j6:=c6.ne i0
 have h9:=((((e4.blk (e6.below b5.below) (Ne.symm (Ne.symm e1))).below a2).below a6).below b4).grown c4 a0 (by decide)
 have j9:=c6.ne h9
 have i2:=(c7.below b4).grown c4 a0 (by decide)
 have j8:=c6.ne i2
 have f4:=i4.trans k5
 have n9:=c6.ge f4
 refine xsv 0 c6.blk [V0 4,V0 0] fun t1 m1 n3=>?_
 refine xb 6 0 n3 ?_
 refine xr 0 (args:=#[V0 4]) (Ru _) fun s9 d9=>?_
 have c9:=n3.below d9
 refine xb 10 1 c9 ?_
 refine xb 1 0 c9 ?_
 refine xr 0 (args:=#[V0 0,V0 4]) (Ze0 (0) (by decide) (by decide) _) fun u1 e0=>?_
 have e7:=c9.below e0
 refine xb 9 1 e7 ?_
 refine xb 1 0 e7 ?_
 refine xc 0 (args:=#[V0 0,V0 4]) (Ti (0) (by decide) _) ?_
 rintro _ s2 ⟨_,rfl,i9,k7⟩
 have k6:=(bln (bln (m1.below (bln f4 c6.below) n9) d9) e0).size
 have a8:=Zd k7 k6
 unfold Gv at a8
 rw[Zf] at a8
 obtain⟨r0,q4,rfl⟩:=(Ze a8).slice
 have j0:=Zb (Zb (Zb (m1.own2 (Zb o4 c6.below) c6.blk (by decide)) d9) e0) i9
 have e3:=bln (bln (bln (m1.below (bln f4 c6.below) n9) d9) e0) i9
 refine xbi 0 fun _ _ _ _ zJ zQ zo zx zy zK=>Zx (m:=4) (news:=(leB (0) 4).map bv) (.int .u8 0) 1 1 (12) ((leB (f) 1++leB (t) 1++leB (k) 2++leB (v) 2++leB (m) 2++leB (0) 4).map bv) zo Tryz.underlying22 (by kernel_rfl) rfl (by decide) zx j0 zy (Ze a8) (by simp[Zf]) (Yj _) (by unfold maxLen;omega) (by omega) e3.size (by rfl) (by simp) fun m8 l3 s1 q7 q6 l5=>?_
 refine zK _ _ ?_
 have j5:=e3.trans l5
 exact xe 29 (.tuple #[.slice m8 12 l3,V0 0]) ⟨_,rfl,j5,_,_,rfl,q7⟩
theorem Sl.cap{w:World}{b:O0}{n c:Nat}{xs:List Value}(h:Sl w (.slice b n c) n xs):n≤c:=by
 rcases h with ⟨a',c',h1,h2,_⟩|⟨b',a0,cap,h1,h2,_,_⟩
 ·omega
 ·simp only[Value.slice.injEq] at h1;omega
def Ji(b:Bool):Int:=if b then 1 else 0
theorem Ds(b:Bool):0≤Ji b∧Ji b<256:=by cases b<;>decide
structure NodeOk(t:Int)(leaf:Bool)(n m v:Nat)(K:List Int)(Vs:List (List UInt8)):Prop where
 ht1:1≤t
 ht2:t≤5
 hm:Yy t leaf=m
 hv:Lp t leaf=v
 hK:K.length=n
 hV:Vs.length=n
 hn:n≤m
 hl:leaf=false→1≤n
 hk0:∀ i,i<n→0≤K.getD i 0∧K.getD i 0≤281474976710655
 hk1:∀ j,j+1<n→K.getD j 0<K.getD (j+1) 0
 hw:∀ i,i<n→(Vs.getD i []).length=v
theorem Nz(t:Int)(leaf:Bool):4≤Lp t leaf∧Lp t leaf≤24:=by
 unfold Lp
 repeat' split
 all_goals decide
theorem fitN(t:Int)(leaf:Bool):12+Yy t leaf*8+Yy t leaf*Lp t leaf≤244:=by
 unfold Lp Yy
 repeat' split
 all_goals decide
theorem Fy{K:List Int}{i j:Nat}(h:j<i):(K.take i).getD j 0=K.getD j 0:=by simp[List.getD,List.getElem?_take_of_lt h]
theorem Nn(t:Int)(leaf:Bool)(m:Nat)(hm:Yy t leaf=m)(h1:1≤t)(h2:t≤5)(w:World):C0 77 #[V0 t,.bool leaf] w (Ret (V0 (m:Int)) w):=by
 subst hm;exact Ng t leaf h1 h2 w
theorem Gw(t:Int)(leaf:Bool)(v:Nat)(hv:Lp t leaf=v)(h1:1≤t)(h2:t≤5)(w:World):C0 76 #[V0 t,.bool leaf] w (Ret (V0 (v:Int)) w):=by
 subst hv;exact Bs t leaf h1 h2 w
theorem Zeu(leaf:Bool)(w:World) :
 C0 161 #[.bool leaf] w (Ret (V0 (Ji leaf)) w):=by
 refine zin 4 Tryz.func161 ?_
 refine xi 11 leaf (fun a0=>?_) (fun a0=>?_)
 ·exact xe 7 (V0 1) ⟨by simp_all [Ji],(B4 w)⟩
 exact xe 8 (V0 0) ⟨by simp_all [Ji],(B4 w)⟩
theorem Og(a:O0)(i c:Nat)(L:List Int)(k:Int)(w:World)(hL:L.length=i)(h:Sl w (.slice a i c) i (L.map V0))(h1:0≤k)(h2:k≤281474976710655)(h3:∀ j,i=j+1→L.getD j 0<k)(hi:i≤1000) :
 C0 80 #[.slice a i c,V0 k] w (Ret (V0 0) w):=by
 refine zin 26 Tryz.func80 ?_
 refine xgk 12 [7,8] (show(decide (k<(0:Int)):Bool)=false from decide_eq_false (by omega)) ?_
 refine xk 6 (show(decide (k>(281474976710655:Int)):Bool)=false from decide_eq_false (by omega)) ?_
 refine xg 6 [15,16] (decide ((i:Int)>(0:Int))) (fun a0=>?_) (fun a0=>?_)
 ·have a0:=of_decide_eq_true a0
  refine xwm 3 ((i:Int)-1) (↑(i-1):Int) ?_
  refine xx 0 _ i (i-1) 1 (IntsN.elem h hL (k:=(i-1)) (by omega)).1 ?_
  refine xl 0 ((IntsN.elem h hL (k:=(i-1)) (by omega)).2) ?_
  refine xk 6 (show(decide ((L.getD (i-1) 0)≥k):Bool)=false from decide_eq_false (by have:=h3 (i-1) (by omega);omega)) ?_
  exact xe 9 (V0 0) ⟨rfl,(B4 w)⟩
 have a0:=of_decide_eq_false a0
 exact xe 22 (V0 0) ⟨rfl,(B4 w)⟩
theorem Za2(t:Int)(leaf:Bool)(n m v:Nat)(K:List Int)(Vs:List Bl)(ak av:O0)(ck cv:Nat)(w:World)(N:NodeOk t leaf n m v K Vs)(hKs:Sl w (.slice ak n ck) n (K.map V0))(hVs:Sl w (.slice av n cv) n (Vs.map sv)) :
 C0 160 #[.agg #[V0 t,.bool leaf,.slice ak n ck,.slice av n cv]] w (Ret (.bool true) w):=by
 have b9:=N.ht1
 have c0:=N.ht2
 have c7:=N.hn
 have c5:=Nz t leaf
 rw[N.hv] at c5
 have c4:=Yo t leaf
 rw[N.hm] at c4
 have b5:=fitN t leaf
 rw[N.hm,N.hv] at b5
 have c6:=Sl.cap hKs
 refine zin 70 Tryz.func160 ?_
 refine xa 2 [V0 t,.bool leaf,.slice ak n ck,.slice av n cv] 38 fun b1 W1 n1=>?_
 refine xb 6 0 n1.blk ?_
 refine xb 1 1 n1.blk ?_
 refine xr 0 (args:=#[V0 t,.bool leaf]) (Gw t leaf v N.hv b9 c0 _) fun W2 b3=>?_
 refine xd 5 .z ?_
 refine xgk (.b [0,1,2]) [12,13] (show(((v:Int)==(0:Int)):Bool)=false from by simp;omega) ?_
 have a5:=(n1.blk.below b3).below (Za W2)
 refine xb (.e [3] 4) 2 a5 ?_
 refine xb (.e [5,6] 7) 0 a5 ?_
 refine xb (.e [8] 9) 1 a5 ?_
 refine xr (.o [] 10) (args:=#[V0 t,.bool leaf]) (Nn t leaf m N.hm b9 c0 _) fun W4 b6=>?_
 refine xgk (.b [11,12,13]) [22,23,24] (show(decide ((n:Int)>(m:Int)):Bool)=false from decide_eq_false (by omega)) ?_
 have a1:=a5.below b6
 refine xb (.e [14] 15) 3 a1 ?_
 refine xb (.e [16,17] 18) 2 a1 ?_
 refine xgk (.b [19,20,21,22]) [31,32,33] (show(((n:Int) != (n:Int)):Bool)=false from by simp) ?_
 refine xb (.e [23] 24) 1 a1 ?_
 refine xg (.b [25,26]) [36,37] (!leaf) (fun c3=>?_) (fun c3=>?_)
 ·refine xb (.e [27] 28) 2 a1 ?_
  refine xk (.r [29,30,31,32] 2) (show(((n:Int)==(0:Int)):Bool)=false from by have:=N.hl (by simp_all);simp;omega) ?_
  refine xb 6 2 a1 ?_
  have hB:=bln (bln (bln n1.below b3) (Za W2)) b6
  refine zl 5 70 (fun zm b7 V=>∃ (i:Nat),b7=[(1,P0 b1),(3,V0 (v:Int)),(45,.slice ak n ck),(46,V0 (n:Int)),(47,V0 (i:Int))]∧zm=n-((i:Int)).toNat∧B3 w V∧Blk V b1 ([V0 t,.bool leaf,.slice ak n ck,.slice av n cv]) 38∧i≤n) ⟨0,rfl,rfl,hB,a1,Nat.zero_le _⟩ ?_
  rintro _ _ W8 ⟨i,rfl,rfl,a6,a7,hi⟩ J8 c1 r8
  refine xid 6 ((i:Int)<(n:Int)) (fun c2=>?_) (fun c2=>?_)
  ·refine xx 7 _ n i 1 (IntsN.elem hKs N.hK (k:=i) (by omega)).1 ?_
   refine xl 0 ((IntsN.elem (hKs.below a6) N.hK (k:=i) (by omega)).2) ?_
   refine xb 7 2 a7 ?_
   refine xsH 1 (fun _ _ _ _ zo zx zy V=>Vk (k:=i) (b:=ak) (n:=n) (c:=ck) (i:=(i:Int)) (ki:=.i64) zo zx zy rfl (by omega) Tryz.underlying28 (by kernel_rfl) V) ?_
   refine xr 1 (args:=#[.slice ak i ck,V0 (K.getD i 0)]) (Og ak i ck (K.take i) (K.getD i 0) _ (by rw[List.length_take,N.hK];omega) (by rw[List.map_take];exact(hKs.below a6).head (by simpa using N.hK) i (by omega)) (N.hk0 i (by omega)).1 (N.hk0 i (by omega)).2 (fun j e=>by subst e;rw[Fy (by omega)];exact N.hk1 j (by omega)) (by omega)) fun d0 b0=>?_
   have a3:=a7.below b0
   refine xb 3 3 a3 ?_
   refine xx 1 _ n i 1 (Strs.elem hVs N.hV (k:=i) (by omega)).1 ?_
   have a9:=bln a6 b0
   refine xl 0 ((Strs.elem (hVs.below a9) N.hV (k:=i) (by omega)).2) ?_
   refine xk 6 (show(((↑(Vs.getD i []).length:Int) != (v:Int)):Bool)=false from by rw[N.hw i (by omega)];simp) ?_
   refine xw 4 ((i:Int)+1) ?_
   exact ze 2 (c1 _ _ _ ⟨i+1,rfl,rfl,a9,a3,by omega⟩ (by omega))
  exact xe 11 (.bool true) ⟨rfl,a6⟩
 refine xb (.r [27,28,29,30,31,32] 9) 2 a1 ?_
 have hB:=bln (bln (bln n1.below b3) (Za W2)) b6
 refine zl 5 70 (fun zm b7 V=>∃ (i:Nat),b7=[(1,P0 b1),(3,V0 (v:Int)),(45,.slice ak n ck),(46,V0 (n:Int)),(47,V0 (i:Int))]∧zm=n-((i:Int)).toNat∧B3 w V∧Blk V b1 ([V0 t,.bool leaf,.slice ak n ck,.slice av n cv]) 38∧i≤n) ⟨0,rfl,rfl,hB,a1,Nat.zero_le _⟩ ?_
 rintro _ _ c9 ⟨i,rfl,rfl,a2,a4,hi⟩ d1 b8 d2
 refine xid 6 ((i:Int)<(n:Int)) (fun b4=>?_) (fun b4=>?_)
 ·refine xx 7 _ n i 1 (IntsN.elem hKs N.hK (k:=i) (by omega)).1 ?_
  refine xl 0 ((IntsN.elem (hKs.below a2) N.hK (k:=i) (by omega)).2) ?_
  refine xb 7 2 a4 ?_
  refine xsH 1 (fun _ _ _ _ zo zx zy V=>Vk (k:=i) (b:=ak) (n:=n) (c:=ck) (i:=(i:Int)) (ki:=.i64) zo zx zy rfl (by omega) Tryz.underlying28 (by kernel_rfl) V) ?_
  refine xr 1 (args:=#[.slice ak i ck,V0 (K.getD i 0)]) (Og ak i ck (K.take i) (K.getD i 0) _ (by rw[List.length_take,N.hK];omega) (by rw[List.map_take];exact(hKs.below a2).head (by simpa using N.hK) i (by omega)) (N.hk0 i (by omega)).1 (N.hk0 i (by omega)).2 (fun j e=>by subst e;rw[Fy (by omega)];exact N.hk1 j (by omega)) (by omega)) fun c8 a8=>?_
  have a0:=a4.below a8
  refine xb 3 3 a0 ?_
  refine xx 1 _ n i 1 (Strs.elem hVs N.hV (k:=i) (by omega)).1 ?_
  have b2:=bln a2 a8
  refine xl 0 ((Strs.elem (hVs.below b2) N.hV (k:=i) (by omega)).2) ?_
  refine xk 6 (show(((↑(Vs.getD i []).length:Int) != (v:Int)):Bool)=false from by rw[N.hw i (by omega)];simp) ?_
  refine xw 4 ((i:Int)+1) ?_
  exact ze 2 (b8 _ _ _ ⟨i+1,rfl,rfl,b2,a0,by omega⟩ (by omega))
 exact xe 11 (.bool true) ⟨rfl,a2⟩
def widG(t:Int)(leaf:Bool):Nat:=if 1≤t∧t≤5 then Lp t leaf else 0
def Zfw(t:Int)(leaf:Bool):Nat:=if 1≤t∧t≤5 then Yy t leaf else 0
theorem fitG(t:Int)(leaf:Bool):12+Zfw t leaf*8+Zfw t leaf*widG t leaf≤244:=by
 unfold Zfw widG;split
 ·exact fitN t leaf
 ·decide
theorem maxG_le(t:Int)(leaf:Bool):Zfw t leaf≤18:=by
 unfold Zfw;split
 ·exact(Yo t leaf).2
 ·decide
theorem widG_le(t:Int)(leaf:Bool):widG t leaf≤24:=by
 unfold widG;split
 ·exact(Nz t leaf).2
 ·decide
theorem Gf(t:Int)(leaf:Bool)(w:World)(h:¬ (1≤t∧t≤5)) :
 C0 76 #[V0 t,.bool leaf] w (Ret (V0 0) w):=by
 refine zin 31 Tryz.func76 ?_
 refine xg 17 [8,9] (decide (t<(1:Int))) (fun a0=>?_) (fun a0=>?_)
 ·have a0:=of_decide_eq_true a0
  exact xe 15 (V0 0) ⟨rfl,(B4 w)⟩
 have a0:=of_decide_eq_false a0
 refine xk 6 (show(decide (t>(5:Int)):Bool)=true from decide_eq_true (by omega)) ?_
 exact xe 8 (V0 0) ⟨rfl,(B4 w)⟩
theorem Gz(t:Int)(leaf:Bool)(w:World):C0 76 #[V0 t,.bool leaf] w (Ret (V0 (widG t leaf:Int)) w):=by
 unfold widG
 by_cases h:1≤t∧t≤5
 ·rw[if_pos h];exact Bs t leaf h.1 h.2 w
 ·rw[if_neg h];exact Gf t leaf w h
theorem Rj(t:Int)(leaf:Bool)(w:World)(h:¬ (1≤t∧t≤5)) :
 C0 77 #[V0 t,.bool leaf] w (Ret (V0 0) w):=by
 refine zin 16 Tryz.func77 ?_
 refine xr 9 (args:=#[V0 t,.bool leaf]) (Gf t leaf _ h) fun W1 a0=>?_
 exact xe 18 (V0 0) ⟨rfl,a0⟩
theorem Fj(t:Int)(leaf:Bool)(w:World):C0 77 #[V0 t,.bool leaf] w (Ret (V0 (Zfw t leaf:Int)) w):=by
 unfold Zfw
 by_cases h:1≤t∧t≤5
 ·rw[if_pos h];exact Ng t leaf h.1 h.2 w
 ·rw[if_neg h];exact Rj t leaf w h
def Zcb(L:List Int)(i:Nat)(k:Int):Int:=if k<0∨281474976710655<k then 2 else if 0<i∧k≤L.getD (i-1) 0 then 8 else 0
def Yx(l:Bl):Int:=(Zh l 1 1:Int)
def Qf(l:Bl):Bool:=(Zh l 0 1:Int)==(1:Int)
def Xb(l:Bl):Nat:=Zh l 2 2
def Yu(l:Bl):Nat:=widG (Yx l) (Qf l)
def Qr(l:Bl):Nat:=Zfw (Yx l) (Qf l)
def Nu(l:Bl):Bool:=decide (Zh l 0 1≤1∧Yu l≠0∧Zh l 2 2≤Qr l∧Zh l 4 2=Yu l∧Zh l 6 2=Qr l∧Zh l 8 4=0∧(Zh l 0 1=1∨0<Zh l 2 2))
def ShapeP(l:Bl)(w:World)(e:Ending)(w':World):Prop :=
 (Nu l=false∧∃ a b c,e=.returned (.tuple #[.agg #[V0 a,.bool b,S0,S0],V0 c,.bool false])∧B3 w w') ∨
 (Nu l=true∧e=.returned (.tuple #[.agg #[V0 (Yx l),.bool (Qf l),S0,S0],V0 (Xb l:Int),.bool true])∧B3 w w')
theorem Wt(a:O0)(n c:Nat)(l:Bl)(aw:O0)(cw m:Nat)(ws:List Nat)(xs:List Nat)(W:World)(hn:l.length=n)(hm:ws.length=m)(hx:Jw l 0 ws=xs)(hk:∀ i,i<ws.length→ws.getD i 0=1∨ws.getD i 0=2∨ws.getD i 0=4∨ws.getD i 0=8)(hs:ws.sum≤n)(hl:n≤100000000)(hw:ws.length≤1000)(h:Bys W (.slice a n c) l)(hws:Sl W (.slice aw m cw) m (ws.map nv))(hq:∀ i,i<ws.length→(Jw l 0 ws).getD i 0<9223372036854775808) :
 C0 136 #[.slice a n c,.slice aw m cw] W (Qi (fun w' r=>∃ p c,r=.tuple #[.slice p m c,V0 0]∧w'.ownsRow W.heap.size 3 1 (.slice p m c) m (xs.map nv)) W):=by
 subst hn hm hx;exact Fo a c l aw cw ws W hk hs hl hw h hws hq
def Qd(l:Bl):List Nat:=[Zh l 0 1,Zh l 1 1,Zh l 2 2,Zh l 4 2,Zh l 6 2,Zh l 8 4]
theorem head6_bd(l:Bl)(i:Nat)(hi:i<6):(Jw l 0 [1,1,2,2,2,4]).getD i 0<9223372036854775808:=by
 have h1:=Qt l 0 1 (by decide)
 have h2:=Qt l 1 1 (by decide)
 have h3:=Qt l 2 2 (by decide)
 have h4:=Qt l 4 2 (by decide)
 have h5:=Qt l 6 2 (by decide)
 have h6:=Qt l 8 4 (by decide)
 obtain rfl|rfl|rfl|rfl|rfl|rfl:i=0∨i=1∨i=2∨i=3∨i=4∨i=5:=by omega
 all_goals simp[Jw]
 all_goals omega
theorem Zan(a:O0)(c:Nat)(l:Bl)(w:World)(hl:l.length=244)(h:Bys w (.slice a 244 c) l) :
 C0 75 #[.slice a 244 c] w (ShapeP l w):=by
 refine zin 92 Tryz.func75 ?_
 refine xa 2 [V0 0,.bool false,S0,S0] 38 fun b1 W1 n1=>?_
 refine xbs 18 6 [V0 1,V0 1,V0 2,V0 2,V0 2,V0 4] 3 fun b2 W2 n2=>?_
 have hB:=bln n1.below n2.below
 refine xc 0 (args:=#[.slice a 244 c,.slice (S1 b2) 6 6]) (Wt a 244 c l (S1 b2) 6 6 [1,1,2,2,2,4] (Qd l) _ hl rfl rfl (by decide) (by decide) (by decide) (by decide) (h.below hB) (n2.blk.sl 6 6 (by decide) (by decide)) (head6_bd l)) ?_
 rintro _ W3 ⟨_,rfl,f5,p5,c5,rfl,h5⟩
 have f7:=(bln n1.below n2.below).size
 refine xd 8 (.t w.heap.size [38]) ?_
 have b0:=Zb (Zd h5 f7) (Za W3)
 refine xx (.e [0] 1) _ 6 1 1 (Zu (l:=Qd l) (Ze b0) rfl (k:=1) (by decide)).1 ?_
 refine xlt (.e [] 2) (.t w.heap.size [38]) (fun V hV=>(Zu (l:=Qd l) (Ze (Zo b0 hV.2 (by decide))) rfl (k:=1) (by decide)).2) ?_
 refine xx (.e [3] 4) _ 6 0 1 (Zu (l:=Qd l) (Ze b0) rfl (k:=0) (by decide)).1 ?_
 refine xlt (.e [] 5) (.t w.heap.size [38]) (fun V hV=>(Zu (l:=Qd l) (Ze (Zo b0 hV.2 (by decide))) rfl (k:=0) (by decide)).2) ?_
 refine xa (.o [6,7] 8) [V0 0,.bool false,S0,S0] 38 fun b4 W4 n4=>?_
 have k1:=((n1.blk.below n2.below).below f5).below (Za W3)
 have a3:=n4.ne k1
 have a5:=bln (bln hB f5) (Za W3)
 have g4:=n4.ge a5
 refine ysv (.o [] 9) n4.blk [V0 (↑(Zh l 1 1):Int),.bool ((↑(Zh l 0 1):Int)==(1:Int)),S0,S0] (.t w.heap.size [38]) fun W5 u5 k5=>⟨(Xj u5 n4.blk g4 (by decide)),?_⟩
 have b8:=u5.own2 (Zb b0 n4.below) n4.blk (by decide)
 refine xx 6 _ 6 0 1 (Zu (l:=Qd l) (Ze b8) rfl (k:=0) (by decide)).1 ?_
 refine xl 0 ((Zu (l:=Qd l) (Ze b8) rfl (k:=0) (by decide)).2) ?_
 refine xg 2 [32,33] (decide ((↑(Zh l 0 1):Int)>(1:Int))) (fun c6=>?_) (fun c6=>?_)
 ·have c6:=of_decide_eq_true c6
  have d4:=u5.blk (k1.below n4.below) (Ne.symm (Ne.symm a3))
  refine xsv 13 d4 [V0 0,.bool false,S0,S0] fun W7 u7 k7=>?_
  have g1:=n1.ge (B4 w)
  have d5:=u7.below (u5.below (bln a5 n4.below) g4) g1
  exact xec 6 k7 (.tuple #[.agg #[V0 0,.bool false,S0,S0],V0 0,.bool false]) (.inl ⟨decide_eq_false (by omega),_,_,_,rfl,d5⟩)
 have c6:=of_decide_eq_false c6
 refine xb 1 0 k5 ?_
 refine xb 1 1 k5 ?_
 refine xr 0 (args:=#[V0 (↑(Zh l 1 1):Int),.bool ((↑(Zh l 0 1):Int)==(1:Int))]) (Gz (Yx l) (Qf l) _) fun W8 a7=>?_
 refine xie 4 (↑(Yu l):Int) (0:Int) (fun f8=>?_) (fun f8=>?_)
 ·have d6:=(u5.blk (k1.below n4.below) (Ne.symm (Ne.symm a3))).below a7
  refine xsv 3 d6 [V0 0,.bool false,S0,S0] fun h1 f9 g2=>?_
  have g1:=n1.ge (B4 w)
  have d8:=f9.below (bln (u5.below (bln a5 n4.below) g4) a7) g1
  exact xec 6 g2 (.tuple #[.agg #[V0 0,.bool false,S0,S0],V0 0,.bool false]) (.inl ⟨decide_eq_false (by omega),_,_,_,rfl,d8⟩)
 refine xd 3 .z ?_
 have a6:=(k5.below a7).below (Za W8)
 refine xb (.e [0] 1) 0 a6 ?_
 refine xb (.e [2] 3) 1 a6 ?_
 refine xb (.e [5] 6) 0 a6 ?_
 refine xb (.e [7] 8) 1 a6 ?_
 refine xr (.o [] 4) (args:=#[V0 (↑(Zh l 1 1):Int),.bool ((↑(Zh l 0 1):Int)==(1:Int))]) (Gz (Yx l) (Qf l) _) fun h0 a0=>?_
 refine xr (.o [] 9) (args:=#[V0 (↑(Zh l 1 1):Int),.bool ((↑(Zh l 0 1):Int)==(1:Int))]) (Fj (Yx l) (Qf l) _) fun a4 a1=>?_
 have a2:=Zb (Zb (Zb (Zb b8 a7) (Za W8)) a0) a1
 refine xx (.r [10,11] 5) _ 6 2 1 (Zu (l:=Qd l) (Ze a2) rfl (k:=2) (by decide)).1 ?_
 refine xl 0 ((Zu (l:=Qd l) (Ze a2) rfl (k:=2) (by decide)).2) ?_
 refine xg 3 [56,57] (decide ((↑(Zh l 2 2):Int)≤(↑(Qr l):Int))) (fun b5=>?_) (fun b5=>?_)
 ·have b5:=of_decide_eq_true b5
  refine xx 1 _ 6 3 1 (Zu (l:=Qd l) (Ze a2) rfl (k:=3) (by decide)).1 ?_
  refine xl 0 ((Zu (l:=Qd l) (Ze a2) rfl (k:=3) (by decide)).2) ?_
  refine xg 4 [62,63,64] ((↑(Zh l 4 2):Int)==(↑(Yu l):Int)) (fun b3=>?_) (fun b3=>?_)
  ·have b3:=eq_of_beq b3
   refine xx 1 _ 6 4 1 (Zu (l:=Qd l) (Ze a2) rfl (k:=4) (by decide)).1 ?_
   refine xl 0 ((Zu (l:=Qd l) (Ze a2) rfl (k:=4) (by decide)).2) ?_
   refine xg 4 [69,70,71] ((↑(Zh l 6 2):Int)==(↑(Qr l):Int)) (fun a9=>?_) (fun a9=>?_)
   ·have a9:=eq_of_beq a9
    refine xx 1 _ 6 5 1 (Zu (l:=Qd l) (Ze a2) rfl (k:=5) (by decide)).1 ?_
    refine xl 0 ((Zu (l:=Qd l) (Ze a2) rfl (k:=5) (by decide)).2) ?_
    refine xg 3 [75,76,77] ((↑(Zh l 8 4):Int)==(0:Int)) (fun b6=>?_) (fun b6=>?_)
    ·have b6:=eq_of_beq b6
     have b7:=(a6.below a0).below a1
     refine xb 1 1 b7 ?_
     refine xg 1 [27,37,45,50,79,80] ((↑(Zh l 0 1):Int)==(1:Int)) (fun a8=>?_) (fun a8=>?_)
     ·have a8:=eq_of_beq a8
      refine xd 10 (.t w.heap.size [38]) ?_
      have c8:=Zb a2 (Za a4)
      refine xx (.e [1] 2) _ 6 2 1 (Zu (l:=Qd l) (Ze c8) rfl (k:=2) (by decide)).1 ?_
      refine xlt (.e [] 3) (.t w.heap.size [38]) (fun V hV=>(Zu (l:=Qd l) (Ze (Zo c8 hV.2 (by decide))) rfl (k:=2) (by decide)).2) ?_
      have e1:=b7.below (Za a4)
      refine xlv (.o [4] 0) e1.rp ?_
      have d1:=(((((u5.blk (k1.below n4.below) (Ne.symm (Ne.symm a3))).below a7).below (Za W8)).below a0).below a1).below (Za a4)
      have g1:=n1.ge (B4 w)
      refine ysv (.o [] 5) d1 [V0 (↑(Zh l 1 1):Int),.bool ((↑(Zh l 0 1):Int)==(1:Int)),S0,S0] (.t w.heap.size [38]) fun h4 f2 g6=>⟨(Xj f2 d1 g1 (by decide)),?_⟩
      have e8:=f2.below (bln (bln (bln (bln (bln (u5.below (bln a5 n4.below) g4) a7) (Za W8)) a0) a1) (Za a4)) g1
      exact xec (.r [6,7] 3) g6 (.tuple #[.agg #[V0 (↑(Zh l 1 1):Int),.bool ((↑(Zh l 0 1):Int)==(1:Int)),S0,S0],V0 (↑(Zh l 2 2):Int),.bool true]) (.inr ⟨decide_eq_true (by omega),rfl,e8⟩)
     have a8:=Xm a8
     refine xx 1 _ 6 2 1 (Zu (l:=Qd l) (Ze a2) rfl (k:=2) (by decide)).1 ?_
     refine xl 0 ((Zu (l:=Qd l) (Ze a2) rfl (k:=2) (by decide)).2) ?_
     refine xd 7 (.t w.heap.size [38]) ?_
     have c2:=Zb a2 (Za a4)
     refine xx (.e [1] 2) _ 6 2 1 (Zu (l:=Qd l) (Ze c2) rfl (k:=2) (by decide)).1 ?_
     refine xlt (.e [] 3) (.t w.heap.size [38]) (fun V hV=>(Zu (l:=Qd l) (Ze (Zo c2 hV.2 (by decide))) rfl (k:=2) (by decide)).2) ?_
     have e4:=b7.below (Za a4)
     refine xlv (.o [4] 0) e4.rp ?_
     have c1:=(((((u5.blk (k1.below n4.below) (Ne.symm (Ne.symm a3))).below a7).below (Za W8)).below a0).below a1).below (Za a4)
     have g1:=n1.ge (B4 w)
     refine ysv (.o [] 5) c1 [V0 (↑(Zh l 1 1):Int),.bool ((↑(Zh l 0 1):Int)==(1:Int)),S0,S0] (.t w.heap.size [38]) fun g9 f3 g5=>⟨(Xj f3 c1 g1 (by decide)),?_⟩
     have b9:=f3.below (bln (bln (bln (bln (bln (u5.below (bln a5 n4.below) g4) a7) (Za W8)) a0) a1) (Za a4)) g1
     refine xec (.r [6,7] 3) g5 (.tuple #[.agg #[V0 (↑(Zh l 1 1):Int),.bool ((↑(Zh l 0 1):Int)==(1:Int)),S0,S0],V0 (↑(Zh l 2 2):Int),.bool (decide ((↑(Zh l 2 2):Int)>(0:Int)))]) ?_
     rcases Bool.eq_false_or_eq_true (decide ((↑(Zh l 2 2):Int)>(0:Int))) with hq|hq
     ·have g0:=of_decide_eq_true hq
      rw[hq];exact .inr ⟨decide_eq_true (by omega),rfl,b9⟩
     ·have g0:=of_decide_eq_false hq
      rw[hq];exact .inl ⟨decide_eq_false (by omega),_,_,_,rfl,b9⟩
    have b6:=Xm b6
    refine xd 13 (.t w.heap.size [38]) ?_
    have c0:=Zb a2 (Za a4)
    refine xx (.e [1] 2) _ 6 2 1 (Zu (l:=Qd l) (Ze c0) rfl (k:=2) (by decide)).1 ?_
    refine xlt (.e [] 3) (.t w.heap.size [38]) (fun V hV=>(Zu (l:=Qd l) (Ze (Zo c0 hV.2 (by decide))) rfl (k:=2) (by decide)).2) ?_
    have e6:=((a6.below a0).below a1).below (Za a4)
    refine xlv (.o [4] 0) e6.rp ?_
    have c7:=(((((u5.blk (k1.below n4.below) (Ne.symm (Ne.symm a3))).below a7).below (Za W8)).below a0).below a1).below (Za a4)
    have g1:=n1.ge (B4 w)
    refine ysv (.o [] 5) c7 [V0 (↑(Zh l 1 1):Int),.bool ((↑(Zh l 0 1):Int)==(1:Int)),S0,S0] (.t w.heap.size [38]) fun h3 e9 f6=>⟨(Xj e9 c7 g1 (by decide)),?_⟩
    have e5:=e9.below (bln (bln (bln (bln (bln (u5.below (bln a5 n4.below) g4) a7) (Za W8)) a0) a1) (Za a4)) g1
    exact xec (.r [6,7] 3) f6 (.tuple #[.agg #[V0 (↑(Zh l 1 1):Int),.bool ((↑(Zh l 0 1):Int)==(1:Int)),S0,S0],V0 (↑(Zh l 2 2):Int),.bool false]) (.inl ⟨decide_eq_false (by omega),_,_,_,rfl,e5⟩)
   have a9:=Xm a9
   refine xd 19 (.t w.heap.size [38]) ?_
   have c4:=Zb a2 (Za a4)
   refine xx (.e [1] 2) _ 6 2 1 (Zu (l:=Qd l) (Ze c4) rfl (k:=2) (by decide)).1 ?_
   refine xlt (.e [] 3) (.t w.heap.size [38]) (fun V hV=>(Zu (l:=Qd l) (Ze (Zo c4 hV.2 (by decide))) rfl (k:=2) (by decide)).2) ?_
   have e3:=((a6.below a0).below a1).below (Za a4)
   refine xlv (.o [4] 0) e3.rp ?_
   have d3:=(((((u5.blk (k1.below n4.below) (Ne.symm (Ne.symm a3))).below a7).below (Za W8)).below a0).below a1).below (Za a4)
   have g1:=n1.ge (B4 w)
   refine ysv (.o [] 5) d3 [V0 (↑(Zh l 1 1):Int),.bool ((↑(Zh l 0 1):Int)==(1:Int)),S0,S0] (.t w.heap.size [38]) fun h2 f4 g3=>⟨(Xj f4 d3 g1 (by decide)),?_⟩
   have d7:=f4.below (bln (bln (bln (bln (bln (u5.below (bln a5 n4.below) g4) a7) (Za W8)) a0) a1) (Za a4)) g1
   exact xec (.r [6,7] 3) g3 (.tuple #[.agg #[V0 (↑(Zh l 1 1):Int),.bool ((↑(Zh l 0 1):Int)==(1:Int)),S0,S0],V0 (↑(Zh l 2 2):Int),.bool false]) (.inl ⟨decide_eq_false (by omega),_,_,_,rfl,d7⟩)
  have b3:=Xm b3
  refine xd 26 (.t w.heap.size [38]) ?_
  have c9:=Zb a2 (Za a4)
  refine xx (.e [1] 2) _ 6 2 1 (Zu (l:=Qd l) (Ze c9) rfl (k:=2) (by decide)).1 ?_
  refine xlt (.e [] 3) (.t w.heap.size [38]) (fun V hV=>(Zu (l:=Qd l) (Ze (Zo c9 hV.2 (by decide))) rfl (k:=2) (by decide)).2) ?_
  have d9:=((a6.below a0).below a1).below (Za a4)
  refine xlv (.o [4] 0) d9.rp ?_
  have d0:=(((((u5.blk (k1.below n4.below) (Ne.symm (Ne.symm a3))).below a7).below (Za W8)).below a0).below a1).below (Za a4)
  have g1:=n1.ge (B4 w)
  refine ysv (.o [] 5) d0 [V0 (↑(Zh l 1 1):Int),.bool ((↑(Zh l 0 1):Int)==(1:Int)),S0,S0] (.t w.heap.size [38]) fun h7 f0 g8=>⟨(Xj f0 d0 g1 (by decide)),?_⟩
  have e2:=f0.below (bln (bln (bln (bln (bln (u5.below (bln a5 n4.below) g4) a7) (Za W8)) a0) a1) (Za a4)) g1
  exact xec (.r [6,7] 3) g8 (.tuple #[.agg #[V0 (↑(Zh l 1 1):Int),.bool ((↑(Zh l 0 1):Int)==(1:Int)),S0,S0],V0 (↑(Zh l 2 2):Int),.bool false]) (.inl ⟨decide_eq_false (by omega),_,_,_,rfl,e2⟩)
 have b5:=of_decide_eq_false b5
 refine xd 33 (.t w.heap.size [38]) ?_
 have d2:=Zb a2 (Za a4)
 refine xx (.e [1] 2) _ 6 2 1 (Zu (l:=Qd l) (Ze d2) rfl (k:=2) (by decide)).1 ?_
 refine xlt (.e [] 3) (.t w.heap.size [38]) (fun V hV=>(Zu (l:=Qd l) (Ze (Zo d2 hV.2 (by decide))) rfl (k:=2) (by decide)).2) ?_
 have e0:=((a6.below a0).below a1).below (Za a4)
 refine xlv (.o [4] 0) e0.rp ?_
 have c3:=(((((u5.blk (k1.below n4.below) (Ne.symm (Ne.symm a3))).below a7).below (Za W8)).below a0).below a1).below (Za a4)
 have g1:=n1.ge (B4 w)
 refine ysv (.o [] 5) c3 [V0 (↑(Zh l 1 1):Int),.bool ((↑(Zh l 0 1):Int)==(1:Int)),S0,S0] (.t w.heap.size [38]) fun h6 f1 g7=>⟨(Xj f1 c3 g1 (by decide)),?_⟩
 have e7:=f1.below (bln (bln (bln (bln (bln (u5.below (bln a5 n4.below) g4) a7) (Za W8)) a0) a1) (Za a4)) g1
 exact xec (.r [6,7] 3) g7 (.tuple #[.agg #[V0 (↑(Zh l 1 1):Int),.bool ((↑(Zh l 0 1):Int)==(1:Int)),S0,S0],V0 (↑(Zh l 2 2):Int),.bool false]) (.inl ⟨decide_eq_false (by omega),_,_,_,rfl,e7⟩)
theorem Zfc(a:O0)(i c:Nat)(L:List Int)(k:Int)(w:World)(hL:L.length=i)(h:Sl w (.slice a i c) i (L.map V0))(hi:i≤1000) :
 C0 80 #[.slice a i c,V0 k] w (Ret (V0 (Zcb L i k)) w):=by
 refine zin 26 Tryz.func80 ?_
 refine xg 12 [7,8] (decide (k<(0:Int))) (fun a0=>?_) (fun a0=>?_)
 ·have a0:=of_decide_eq_true a0
  exact xe 15 (V0 2) ⟨by rw[show Zcb L i k=2 from by unfold Zcb;rw[if_pos (by omega)]],(B4 w)⟩
 have a0:=of_decide_eq_false a0
 refine xid 6 (k>(281474976710655:Int)) (fun a3=>?_) (fun a3=>?_)
 ·exact xe 8 (V0 2) ⟨by rw[show Zcb L i k=2 from by unfold Zcb;rw[if_pos (by omega)]],(B4 w)⟩
 refine xg 6 [15,16] (decide ((i:Int)>(0:Int))) (fun a1=>?_) (fun a1=>?_)
 ·have a1:=of_decide_eq_true a1
  refine xwm 3 ((i:Int)-1) (↑(i-1):Int) ?_
  refine xx 0 _ i (i-1) 1 (IntsN.elem h hL (k:=(i-1)) (by omega)).1 ?_
  refine xl 0 ((IntsN.elem h hL (k:=(i-1)) (by omega)).2) ?_
  refine xid 6 ((L.getD (i-1) 0)≥k) (fun a2=>?_) (fun a2=>?_)
  ·exact xe 8 (V0 8) ⟨by rw[show Zcb L i k=8 from by unfold Zcb;rw[if_neg (by omega),if_pos (by omega)]],(B4 w)⟩
  exact xe 9 (V0 0) ⟨by rw[show Zcb L i k=0 from by unfold Zcb;rw[if_neg (by omega),if_neg (by omega)]],(B4 w)⟩
 have a1:=of_decide_eq_false a1
 exact xe 22 (V0 0) ⟨by rw[show Zcb L i k=0 from by unfold Zcb;rw[if_neg (by omega),if_neg (by omega)]],(B4 w)⟩
def El(l:Bl)(i:Nat):Nat:=Zh l (12+i*8) 8
def Gb(l:Bl)(n:Nat):List Int:=(List.range n).map fun i=>(El l i:Int)
theorem Nx(l:Bl)(n:Nat):(Gb l n).length=n:=by simp[Gb]
theorem Zam(l:Bl)(n:Nat):Gb l (n+1)=Gb l n++[(El l n:Int)]:=by simp[Gb,List.range_succ]
theorem Rl(l:Bl){n i:Nat}(h:i<n):(Gb l n).getD i 0=(El l i:Int):=by simp[Gb,List.getD,List.getElem?_range h]
def Zbv(l:Bl)(i:Nat):Bl:=(l.drop (12+Qr l*8+i*Yu l)).take (Yu l)
def Ho(l:Bl)(n:Nat):List Bl:=(List.range n).map (Zbv l)
theorem Ku(l:Bl)(n:Nat):(Ho l n).length=n:=by simp[Ho]
theorem Bm(l:Bl)(n:Nat):Ho l (n+1)=Ho l n++[Zbv l n]:=by simp[Ho,List.range_succ]
theorem Er(l:Bl){n i:Nat}(h:i<n):(Ho l n).getD i []=Zbv l i:=by simp[Ho,List.getD,List.getElem?_range h]
def Cp(l:Bl)(i:Nat):Int:=if 281474976710655<El l i then 2 else if 0<i∧El l i≤El l (i-1) then 8 else 0
def Yf(l:Bl):Nat→Int
 | 0=>0
 | i+1=>if Yf l i≠0 then Yf l i else Cp l i
theorem Pu{l:Bl}{i:Nat}(h:Yf l i≠0):∀ n,i≤n→Yf l n=Yf l i
 | 0,h2=>by
  obtain rfl:i=0:=by omega
  rfl
 | n+1,h2=>by
   by_cases e:i=n+1
   ·rw[e]
   ·have ih:=Pu h n (by omega)
    rw[Yf,if_pos (by rw[ih];exact h),ih]
theorem Bw{l:Bl}{i n:Nat}(h:Yf l i=0)(he:Cp l i≠0)(hi:i<n):Yf l n=Cp l i:=by
 have e:Yf l (i+1)=Cp l i:=by rw[Yf,if_neg (by rw[h];decide)]
 rw[Pu (by rw[e];exact he) n hi,e]
theorem Hk{l:Bl}{i:Nat}(h:Yf l i=0)(he:Cp l i=0):Yf l (i+1)=0:=by rw[Yf,if_neg (by rw[h];decide),he]
theorem keyE_R{l:Bl}{i:Nat}:Zcb (Gb l i) i (El l i:Int)=Cp l i:=by
 unfold Zcb Cp
 by_cases h:281474976710655<El l i
 ·rw[if_pos (by omega),if_pos h]
 ·rw[if_neg (by omega),if_neg h]
  by_cases h2:0<i
  ·rw[Rl l (show i-1<i by omega)]
   by_cases h3:El l i≤El l (i-1)
   ·rw[if_pos (by omega),if_pos (by omega)]
   ·rw[if_neg (by omega),if_neg (by omega)]
  ·rw[if_neg (by omega),if_neg (by omega)]
def Cw(l:Bl):Nat:=12+Xb l*8
def Zaj(l:Bl):Nat:=12+Qr l*8
def Dv(l:Bl):Nat:=Zaj l+Xb l*Yu l
def Sw(l:Bl):Bool:=Ve ((l.drop (Cw l)).take (Zaj l-Cw l))&&Ve ((l.drop (Dv l)).take (244-Dv l))
def Vd(l:Bl):Int:=if Nu l then(if Sw l then Yf l (Xb l) else 7) else 7
def NodeP(l:Bl)(w:World)(e:Ending)(w':World):Prop :=
 (Vd l≠0∧e=.returned (.tuple #[.agg #[V0 0,.bool false,S0,S0],V0 (Vd l)])∧B3 w w') ∨
 (Vd l=0∧∃ kp kc vp vc,e=.returned (.tuple #[.agg #[V0 (Yx l),.bool (Qf l),.slice kp (Xb l) kc,.slice vp (Xb l) vc],V0 0])∧B3 w w' ∧
  w'.ownsRow w.heap.size 3 1 (.slice kp (Xb l) kc) (Xb l) ((Gb l (Xb l)).map V0)∧w'.ownsRow w.heap.size 9 1 (.slice vp (Xb l) vc) (Xb l) ((Ho l (Xb l)).map sv))
theorem La{l:Bl}(h:Nu l=true):Xb l≤Qr l:=(of_decide_eq_true h).2.2.1
theorem Wx(a:O0)(n c:Nat)(l:Bl)(w:World)(hn:l.length=n)(hl:n≤100000000)(h:Bys w (.slice a n c) l):C0 78 #[.slice a n c] w (Ret (.bool (Ve l)) w):=by
 subst hn;exact Zdu a c l w hl h
theorem valN_bys{a:O0}{c i:Nat}{l:Bl}{w:World}(h:Bys w (.slice a 244 c) l)(hl:l.length=244)(hb:12+Qr l*8+(i+1)*Yu l≤244)(hi:(i+1)*Yu l=i*Yu l+Yu l) :
 Bys w (.slice (Jh a (12+Qr l*8+i*Yu l) c 1) (12+Qr l*8+(i+1)*Yu l-(12+Qr l*8+i*Yu l)) (c-(12+Qr l*8+i*Yu l))) (Zbv l i):=by
 have:=Bys.cut h hl (12+Qr l*8+i*Yu l) (12+Qr l*8+(i+1)*Yu l) (by omega) hb
 rw[show 12+Qr l*8+(i+1)*Yu l-(12+Qr l*8+i*Yu l)=Yu l by omega] at this ⊢
 exact this
theorem Zd8{i:Nat}{l:Bl}(hl:l.length=244)(hb:12+Qr l*8+(i+1)*Yu l≤244)(hi:(i+1)*Yu l=i*Yu l+Yu l):(Zbv l i).length=12+Qr l*8+(i+1)*Yu l-(12+Qr l*8+i*Yu l):=by
 unfold Zbv;simp only[List.length_take,List.length_drop];omega
def GetP(l:Bl)(k w:Nat)(W:World)(e:Ending)(w':World):Prop :=
 (Zh l k w<9223372036854775808∧e=.returned (.tuple #[V0 (Zh l k w:Int),V0 0])∧B3 W w')∨(¬ Zh l k w<9223372036854775808∧e=.returned (.tuple #[V0 0,V0 2])∧B3 W w')
theorem Get_P(a:O0)(n c k w:Nat)(l:Bl)(W:World)(hn:l.length=n)(hw:w=1∨w=2∨w=4∨w=8)(hk:k+w≤n)(hl:n≤100000000)(h:Bys W (.slice a n c) l)(wi:Int)(hwi:wi=(w:Int)) :
 C0 79 #[.slice a n c,V0 (k:Int),V0 wi] W (GetP l k w W):=by
 subst hn hwi
 by_cases hq:Zh l k w<9223372036854775808
 ·refine(Iv a c k w l W hw hk hl h hq).mono ?_
  rintro e V ⟨rfl,hb⟩;exact .inl ⟨hq,rfl,hb⟩
 ·refine(Zff a c k w l W hw hk hl h hq).mono ?_
  rintro e V ⟨rfl,hb⟩;exact .inr ⟨hq,rfl,hb⟩
theorem Zf8(l:Bl)(a:O0)(i c:Nat)(w:World)(h:Sl w (.slice a i c) i ((Gb l i).map V0))(hi:i≤1000) :
 C0 80 #[.slice a i c,V0 (↑(El l i):Int)] w (fun e w'=>(Cp l i=0∧e=.returned (V0 0)∧B3 w w')∨(Cp l i≠0∧e=.returned (V0 (Cp l i))∧B3 w w')):=by
 refine(Zfc a i c (Gb l i) (El l i) w (Nx l i) h hi).mono ?_
 rintro e W ⟨rfl,hb⟩
 rw[keyE_R]
 by_cases hz:Cp l i=0
 ·exact .inl ⟨hz,by rw[hz],hb⟩
 ·exact .inr ⟨hz,rfl,hb⟩
theorem Zde(a:O0)(c:Nat)(l:Bl)(w:World)(hl:l.length=244)(h:Bys w (.slice a 244 c) l) :
 C0 36 #[.slice a 244 c] w (NodeP l w):=by
 have m1:=Bys.cap h hl
 refine zin 104 Tryz.func36 ?_
 refine xa 2 [V0 0,.bool false,S0,S0] 38 fun b1 W1 n1=>?_
 refine xc 6 (args:=#[.slice a 244 c]) (Zan a c l _ hl (h.below n1.below)) ?_
 rintro e W2 l4
 rcases l4 with ⟨hs,t0,l0,c0,rfl,f6⟩|⟨hs,rfl,f6⟩
 ·refine xa 4 [V0 0,.bool false,S0,S0] 38 fun b3 W3 n3=>?_
  have k1:=n1.blk.below f6
  have g8:=n3.ne k1
  have g0:=bln n1.below f6
  have g3:=n3.ge g0
  refine xsv 0 n3.blk [V0 t0,.bool l0,S0,S0] fun W4 u4 k4=>?_
  have j2:=u4.blk (k1.below n3.below) (Ne.symm (Ne.symm g8))
  refine xsv 15 j2 [V0 0,.bool false,S0,S0] fun W5 u5 k5=>?_
  have g1:=n1.ge (B4 w)
  have i8:=u5.below (u4.below (bln g0 n3.below) g3) g1
  refine xec 5 k5 (.tuple #[.agg #[V0 0,.bool false,S0,S0],V0 7]) ?_
  have he:Vd l=7:=by unfold Vd;simp[hs]
  exact .inl ⟨by rw[he];decide,by rw[he],i8⟩
 have m0:=La hs
 have i0:=fitG (Yx l) (Qf l)
 have j9:=maxG_le (Yx l) (Qf l)
 have h5:=widG_le (Yx l) (Qf l)
 change 12+Qr l*8+Qr l*Yu l≤244 at i0
 change Qr l≤18 at j9
 change Yu l≤24 at h5
 have o8:Xb l*Yu l≤Qr l*Yu l:=Nat.mul_le_mul_right _ m0
 refine xa 4 [V0 0,.bool false,S0,S0] 38 fun b6 W6 n6=>?_
 have k1:=n1.blk.below f6
 have a3:=n6.ne k1
 have h1:=bln n1.below f6
 have g6:=n6.ge h1
 refine xsv 0 n6.blk [V0 (Yx l),.bool (Qf l),S0,S0] fun W7 u7 k7=>?_
 refine xd 15 .z ?_
 have c5:=k7.below (Za W7)
 refine xb (.e [0] 1) 0 c5 ?_
 refine xb (.e [2] 3) 1 c5 ?_
 refine xb (.e [5] 6) 0 c5 ?_
 refine xb (.e [7] 8) 1 c5 ?_
 refine xr (.o [] 4) (args:=#[V0 (Yx l),.bool (Qf l)]) (Gz (Yx l) (Qf l) _) fun W8 f4=>?_
 refine xr (.o [] 9) (args:=#[V0 (Yx l),.bool (Qf l)]) (Fj (Yx l) (Qf l) _) fun W9 g9=>?_
 refine xwm (.r [10,11] 5) ((↑(Qr l):Int)*8) (↑((Qr l)*8):Int) ?_
 refine xwm 0 (12+(↑((Qr l)*8):Int)) (↑(12+((Qr l)*8)):Int) ?_
 refine xwm 8 ((↑(Xb l):Int)*8) (↑((Xb l)*8):Int) ?_
 refine xwm 0 (12+(↑((Xb l)*8):Int)) (↑(12+((Xb l)*8)):Int) ?_
 refine xsB 1 (fun _ _ _ _ _ zo zx zy zz V=>Hd (k:=(12+((Xb l)*8))) (h:=(12+((Qr l)*8))) (b:=a) (n:=244) (c:=c) (i:=(↑(12+((Xb l)*8)):Int)) (ki:=.i64) (j:=(↑(12+((Qr l)*8)):Int)) (kj:=.i64) 1 zo zx zy rfl zz rfl (by omega) (by omega) Tryz.underlying22 (by kernel_rfl) V) ?_
 have e0:=bln (bln (bln (u7.below (bln h1 n6.below) g6) (Za W7)) f4) g9
 refine xr 0 (args:=#[.slice (Jh a (12+((Xb l)*8)) c 1) ((12+((Qr l)*8))-(12+((Xb l)*8))) (c-(12+((Xb l)*8)))]) (Wx (Jh a (12+((Xb l)*8)) c 1) ((12+((Qr l)*8))-(12+((Xb l)*8))) (c-(12+((Xb l)*8))) _ _ (by simp;omega) (by omega) ((Bys.cut h hl (12+((Xb l)*8)) (12+((Qr l)*8)) (by omega) (by omega)).below e0)) fun n5 b2=>?_
 refine xg 2 [42,43] (!(Ve ((l.drop (Cw l)).take (Zaj l-Cw l)))) (fun e2=>?_) (fun e2=>?_)
 ·have h4:Ve ((l.drop (Cw l)).take (Zaj l-Cw l))=false:=by simpa using e2
  have j3:=((((u7.blk (k1.below n6.below) (Ne.symm (Ne.symm a3))).below (Za W7)).below f4).below g9).below b2
  refine xsv 16 j3 [V0 0,.bool false,S0,S0] fun o4 l8 m8=>?_
  have g1:=n1.ge (B4 w)
  have j1:=l8.below (bln e0 b2) g1
  refine xec 5 m8 (.tuple #[.agg #[V0 0,.bool false,S0,S0],V0 7]) ?_
  have he:Vd l=7:=by unfold Vd;simp[hs,Sw,h4]
  exact .inl ⟨by rw[he];decide,by rw[he],j1⟩
 have h4:Ve ((l.drop (Cw l)).take (Zaj l-Cw l))=true:=by simpa using e2
 refine xwm 4 ((↑(Xb l):Int)*(↑(Yu l):Int)) (↑((Xb l)*(Yu l)):Int) ?_
 refine xwm 0 ((↑(12+((Qr l)*8)):Int)+(↑((Xb l)*(Yu l)):Int)) (↑((12+((Qr l)*8))+((Xb l)*(Yu l))):Int) ?_
 refine xsL 0 (fun _ _ _ _ zo zx zy V=>Vw (k:=((12+((Qr l)*8))+((Xb l)*(Yu l)))) (b:=a) (n:=244) (c:=c) (i:=(↑((12+((Qr l)*8))+((Xb l)*(Yu l))):Int)) (ki:=.i64) 1 zo zx zy rfl (by omega) Tryz.underlying22 (by kernel_rfl) V) ?_
 have e1:=bln e0 b2
 refine xr 0 (args:=#[.slice (Jh a ((12+((Qr l)*8))+((Xb l)*(Yu l))) c 1) (244-((12+((Qr l)*8))+((Xb l)*(Yu l)))) (c-((12+((Qr l)*8))+((Xb l)*(Yu l))))]) (Wx (Jh a ((12+((Qr l)*8))+((Xb l)*(Yu l))) c 1) (244-((12+((Qr l)*8))+((Xb l)*(Yu l)))) (c-((12+((Qr l)*8))+((Xb l)*(Yu l)))) _ _ (by simp;omega) (by omega) ((Bys.cut h hl (12+((Qr l)*8)+((Xb l)*(Yu l))) 244 (by omega) (by omega)).below e1)) fun o9 b9=>?_
 refine xi 4 (!(Ve ((l.drop (Dv l)).take (244-Dv l)))) (fun d9=>?_) (fun d9=>?_)
 ·have h8:Ve ((l.drop (Dv l)).take (244-Dv l))=false:=by simpa using d9
  have i1:=(((((u7.blk (k1.below n6.below) (Ne.symm (Ne.symm a3))).below (Za W7)).below f4).below g9).below b2).below b9
  refine xsv 3 i1 [V0 0,.bool false,S0,S0] fun n4 m6 m3=>?_
  have g1:=n1.ge (B4 w)
  have j4:=m6.below (bln e1 b9) g1
  refine xec 5 m3 (.tuple #[.agg #[V0 0,.bool false,S0,S0],V0 7]) ?_
  have he:Vd l=7:=by unfold Vd;simp[hs,Sw,h4,h8]
  exact .inl ⟨by rw[he];decide,by rw[he],j4⟩
 have h8:Ve ((l.drop (Dv l)).take (244-Dv l))=true:=by simpa using d9
 have h9:Sw l=true:=by unfold Sw;rw[h4,h8];rfl
 have j7:=bln e1 b9
 have k0:=(((((u7.blk (k1.below n6.below) (Ne.symm (Ne.symm a3))).below (Za W7)).below f4).below g9).below b2).below b9
 have i6:=(((c5.below f4).below g9).below b2).below b9
 refine zl 10 104 (fun zm l6 V=>∃ (i:Nat) (kp:O0) (kc:Nat) (vp:O0) (vc:Nat),l6=[(0,.slice a 244 c),(2,P0 b1),(4,P0 b6),(7,V0 (↑(Yu l):Int)),(9,V0 (↑(12+((Qr l)*8)):Int)),(55,V0 (↑(Xb l):Int)),(56,V0 (i:Int))]∧zm=Xb l-((i:Int)).toNat∧B3 w V∧Blk V b1 ([V0 0,.bool false,S0,S0]) 38∧Blk V b6 ([V0 (Yx l),.bool (Qf l),.slice kp i kc,.slice vp i vc]) 38∧V.ownsRow w.heap.size 3 1 (.slice kp i kc) i ((Gb l i).map V0)∧V.ownsRow w.heap.size 9 1 (.slice vp i vc) i ((Ho l i).map sv)∧i≤Xb l∧Yf l i=0) ⟨0,none,0,none,0,rfl,rfl,j7,k0,i6,World.ownsRow_nil _ _ _ _,World.ownsRow_nil _ _ _ _,Nat.zero_le _,rfl⟩ ?_
 rintro _ _ q0 ⟨i,kp,kc,vp,vc,rfl,rfl,a5,a0,c4,hK,hV,hi,hz⟩ p6 f2 o0
 have k6:(i+1)*Yu l=i*Yu l+Yu l:=Nat.succ_mul i (Yu l)
 have l3:i<Xb l→(i+1)*Yu l≤Qr l*Yu l:=fun hh=>Nat.mul_le_mul_right _ (by omega)
 refine xid 6 ((i:Int)<(↑(Xb l):Int)) (fun i4=>?_) (fun i4=>?_)
 ·refine xwm 14 ((i:Int)*8) (↑(i*8):Int) ?_
  refine xwm 0 (12+(↑(i*8):Int)) (↑(12+(i*8)):Int) ?_
  refine xc 0 (args:=#[.slice a 244 c,V0 (↑(12+(i*8)):Int),V0 8]) (Get_P a 244 c (12+(i*8)) 8 l _ hl (by decide) (by omega) (by decide) (h.below a5) 8 rfl) ?_
  rintro e p9 i9
  rcases i9 with ⟨m5,rfl,a2⟩|⟨m5,rfl,a2⟩
  ·have a6:=c4.below a2
   refine xb 17 2 a6 ?_
   have h3:=Zb hK a2
   refine xc 1 (args:=#[.slice kp i kc,V0 (↑(El l i):Int)]) (Zf8 l kp i kc _ (Ze h3) (by omega)) ?_
   rintro e p5 i3
   rcases i3 with ⟨e5,rfl,a4⟩|⟨e5,rfl,a4⟩
   ·have a7:=a6.below a4
    refine xb 16 2 a7 ?_
    refine xbs 1 1 [V0 (↑(El l i):Int)] 3 fun p0 o2 c7=>?_
    have f3:=bln (bln a5 a2) a4
    have p4:=c7.ge f3
    have e7:=Zb h3 a4
    have h6:=Zz e7 c7
    have b5:=Zb e7 c7.below
    have d2:=bln f3 c7.below
    refine xbi 0 fun _ _ _ _ zJ zQ zo zx zy zK=>Zx (m:=1) (news:=[V0 (↑(El l i):Int)]) (V0 0) 1 8 (i+1) ((Gb l (i+1)).map V0) zo Tryz.underlying28 (by kernel_rfl) rfl (by decide) zx b5 zy (c7.blk.sl 1 1 (by decide) (by decide)) rfl (by simp[Value.oneCell']) (by unfold maxLen;omega) (by omega) d2.size (by rfl) (by rw[Zam,List.map_append];rfl) fun e3 e4 p8 k9 d0 i5=>?_
    refine zK _ _ ?_
    have a1:=(a7.below c7.below).grown d0 b5 (by decide)
    refine xs 1 a1 [V0 (Yx l),.bool (Qf l),.slice e3 (i+1) e4,.slice vp i vc] fun d7 e6 k8=>?_
    refine xd 2 (.t w.heap.size [9,38]) ?_
    refine xwm (.e [0,2,3,4,5] 6) ((i:Int)*(↑(Yu l):Int)) (↑(i*(Yu l)):Int) ?_
    refine xwm (.e [] 7) ((↑(12+((Qr l)*8)):Int)+(↑(i*(Yu l)):Int)) (↑((12+((Qr l)*8))+(i*(Yu l))):Int) ?_
    refine xwm (.e [8,9] 10) ((i:Int)+1) (↑(i+1):Int) ?_
    refine xwm (.e [11] 12) ((↑(i+1):Int)*(↑(Yu l):Int)) (↑((i+1)*(Yu l)):Int) ?_
    refine xwm (.e [] 13) ((↑(12+((Qr l)*8)):Int)+(↑((i+1)*(Yu l)):Int)) (↑((12+((Qr l)*8))+((i+1)*(Yu l))):Int) ?_
    refine xsB (.e [] 14) (fun _ _ _ _ _ zo zx zy zz V=>Hd (k:=((12+((Qr l)*8))+(i*(Yu l)))) (h:=((12+((Qr l)*8))+((i+1)*(Yu l)))) (b:=a) (n:=244) (c:=c) (i:=(↑((12+((Qr l)*8))+(i*(Yu l))):Int)) (ki:=.i64) (j:=(↑((12+((Qr l)*8))+((i+1)*(Yu l))):Int)) (kj:=.i64) 1 zo zx zy rfl zz rfl (by omega) (by omega) Tryz.underlying22 (by kernel_rfl) V) ?_
    have b4:=Zb (e6.own2 (Xn (Zb (Zb (Zb hV a2) a4) c7.below) d0 b5 (by decide)) a1 (by decide)) (Za d7)
    have a8:=bln (e6.below (d2.trans i5) g6) (Za d7)
    refine xcvt (.e [] 15) (.t w.heap.size [9,38]) (fun _ _ _ zo zx V b4=>Jf zo zx ((valN_bys h hl (by omega) k6).below (Il a8 b4 (Nat.le_refl _))) (Zd8 hl (by omega) k6) Tryz.underlying22 Tryz.underlying5 Tryz.underlying9) ?_
    refine xm2 0 1 16 ?_ ?_
    ·have d3:=k8.below (Za d7)
     refine xb 0 3 d3 ?_
     refine xbs (.o [] 16) 1 [.string ⟨(Zbv l i).toArray⟩] 9 fun p2 o5 d6=>?_
     have n8:=d6.ge a8
     have i2:=Zz b4 d6
     have b8:=Zb b4 d6.below
     have d8:=bln a8 d6.below
     refine ybi (.o [] 17) (.t w.heap.size [9,38]) fun _ _ _ _ zJ zQ zo zx zy zK=>Zx (m:=1) (news:=[.string ⟨(Zbv l i).toArray⟩]) (.string ⟨#[]⟩) 1 16 (i+1) ((Ho l (i+1)).map sv) zo Tryz.underlying36 (by kernel_rfl) rfl (by decide) zx b8 zy (d6.blk.sl 1 1 (by decide) (by decide)) rfl (by simp[Value.oneCell']) (by unfold maxLen;omega) (by omega) d8.size (by rfl) (by rw[Bm,List.map_append];rfl) fun k3 j8 n7 l9 c9 f0=>?_
     refine zK _ _ (Xy f0 c9 b8 (by decide)) ?_
     have b0:=(d3.below d6.below).grown c9 b8 (by decide)
     refine ys (.o [18] 19) b0 [V0 (Yx l),.bool (Qf l),.slice e3 (i+1) e4,.slice k3 (i+1) j8] (.t w.heap.size [9,38]) fun o6 g2 m4=>⟨(Xj g2 b0 g6 (by decide)),?_⟩
     refine xwm 4 ((i:Int)+1) (↑(i+1):Int) ?_
     have e8:=g2.below (d8.trans f0) g6
     have c2:=g2.blk ((((e6.blk ((((a0.below a2).below a4).below c7.below).grown d0 b5 (by decide)) (Ne.symm (Ne.symm a3))).below (Za d7)).below d6.below).grown c9 b8 (by decide)) (Ne.symm (Ne.symm a3))
     have h2:=g2.own2 (Xn (Zb (Zb (e6.own2 k9 a1 (by decide)) (Za d7)) d6.below) c9 b8 (by decide)) b0 (by decide)
     have e9:=g2.own2 l9 b0 (by decide)
     exact ze 2 (f2 _ _ _ ⟨i+1,_,_,_,_,rfl,rfl,e8,c2,m4,h2,e9,by omega,Hk hz e5⟩ (by omega))
    refine xbs 0 1 [.string ⟨(Zbv l i).toArray⟩] 9 fun o1 p3 d4=>?_
    have p7:=d4.ge a8
    have h7:=Zz b4 d4
    have d5:=(k8.below (Za d7)).below d4.below
    refine xb (.o [] 1) 3 d5 ?_
    have c3:=Zb b4 d4.below
    have d1:=bln a8 d4.below
    refine ybi (.o [] 17) (.t w.heap.size [9,38]) fun _ _ _ _ zJ zQ zo zx zy zK=>Zx (m:=1) (news:=[.string ⟨(Zbv l i).toArray⟩]) (.string ⟨#[]⟩) 1 16 (i+1) ((Ho l (i+1)).map sv) zo Tryz.underlying36 (by kernel_rfl) rfl (by decide) zx c3 zy (d4.blk.sl 1 1 (by decide) (by decide)) rfl (by simp[Value.oneCell']) (by unfold maxLen;omega) (by omega) d1.size (by rfl) (by rw[Bm,List.map_append];rfl) fun j0 k2 n9 l2 c8 f9=>?_
    refine zK _ _ (Xy f9 c8 c3 (by decide)) ?_
    have a9:=d5.grown c8 c3 (by decide)
    refine ys (.o [18] 19) a9 [V0 (Yx l),.bool (Qf l),.slice e3 (i+1) e4,.slice j0 (i+1) k2] (.t w.heap.size [9,38]) fun n2 f8 m9=>⟨(Xj f8 a9 g6 (by decide)),?_⟩
    refine xwm 4 ((i:Int)+1) (↑(i+1):Int) ?_
    have g5:=f8.below (d1.trans f9) g6
    have c6:=f8.blk ((((e6.blk ((((a0.below a2).below a4).below c7.below).grown d0 b5 (by decide)) (Ne.symm (Ne.symm a3))).below (Za d7)).below d4.below).grown c8 c3 (by decide)) (Ne.symm (Ne.symm a3))
    have h0:=f8.own2 (Xn (Zb (Zb (e6.own2 k9 a1 (by decide)) (Za d7)) d4.below) c8 c3 (by decide)) a9 (by decide)
    have f7:=f8.own2 l2 a9 (by decide)
    exact ze 2 (f2 _ _ _ ⟨i+1,_,_,_,_,rfl,rfl,g5,c6,m9,h0,f7,by omega,Hk hz e5⟩ (by omega))
   refine xk 10 (show(((Cp l i) != (0:Int)):Bool)=true from bne_iff_ne.2 e5) ?_
   have b7:=(a0.below a2).below a4
   refine xsv 4 b7 [V0 0,.bool false,S0,S0] fun o3 n0 m2=>?_
   have g1:=n1.ge (B4 w)
   have f5:=n0.below (bln (bln a5 a2) a4) g1
   refine xec 10 m2 (.tuple #[.agg #[V0 0,.bool false,S0,S0],V0 (Cp l i)]) ?_
   have he:Vd l=Cp l i:=by unfold Vd;rw[if_pos hs,if_pos h9,Bw hz e5 (by omega)]
   exact .inl ⟨by rw[he];exact e5,by rw[he],f5⟩
  have c1:=a0.below a2
  refine xsv 29 c1 [V0 0,.bool false,S0,S0] fun o7 l5 m7=>?_
  have g1:=n1.ge (B4 w)
  have g7:=l5.below (bln a5 a2) g1
  refine xec 10 m7 (.tuple #[.agg #[V0 0,.bool false,S0,S0],V0 2]) ?_
  have l1:Cp l i=2:=by unfold Cp;rw[if_pos (by unfold El;omega)]
  have he:Vd l=2:=by unfold Vd;rw[if_pos hs,if_pos h9,Bw hz (by rw[l1];decide) (by omega),l1]
  exact .inl ⟨by rw[he];decide,by rw[he],g7⟩
 refine xlv 7 c4.rp ?_
 refine xsv 0 a0 [V0 (Yx l),.bool (Qf l),.slice kp i kc,.slice vp i vc] fun p1 j6 l7=>?_
 have g1:=n1.ge (B4 w)
 have f1:=j6.below a5 g1
 have i7:=j6.own2 hK a0 (by decide)
 have j5:=j6.own2 hV a0 (by decide)
 refine xec 4 l7 (.tuple #[.agg #[V0 (Yx l),.bool (Qf l),.slice kp i kc,.slice vp i vc],V0 0]) ?_
 obtain rfl:i=Xb l:=by omega
 exact .inr ⟨by unfold Vd;rw[if_pos hs,if_pos h9,hz],_,_,_,_,rfl,f1,i7,j5⟩
theorem Gq{P:Program}{a:Act}{w:World}{K:Act→World→Prop}{Q:Exit→Act→World→Prop}{o:Oper}{src dst e:TypeId}{x:Operand}(l:Bl)(ho:o.op=.convert src dst x)(hx:a.eval x=.string ⟨l.toArray⟩)
 (hs:P.underlying src=some .string) (hd:P.underlying dst=some (.slice e)) (he:P.underlying e=some (.int .u8)) (hl:l.length≤1000000)
 (k:∀ b c W,B3 w W→Bys W (.slice (S1 b) l.length c) l→K (a.put o.dst (.slice (S1 b) l.length c)) W):o.wp P a w K Q:=by
 have hr:=run_bytes_of_string (P:=P) w src dst e ⟨l.toArray⟩ hs hd he
 have a2:(⟨l.toArray⟩:ByteArray).size=l.length:=by simp[ByteArray.size]
 rw[a2] at hr
 obtain⟨W1,a1⟩:∃ W1,W1=w.drew.alloc (.cells (bytesRow ⟨l.toArray⟩ (grownCap w l.length 0 e)) e ((bytesRow ⟨l.toArray⟩ (grownCap w l.length 0 e)).size,(bytesRow ⟨l.toArray⟩ (grownCap w l.length 0 e)).size+1)):=⟨_,rfl⟩
 rw[←a1] at hr
 have h2:(execOp a.eval o).run P w=.ok (.value (.slice (some ⟨w.heap.size,0,none⟩) l.length (grownCap w l.length 0 e))) W1:=by
  simp only[execOp,ho,hx,Sem.run_bind,hr];rfl
 refine Kx h2 (k _ _ _ (by rw[a1];exact(Za w).trans (show Below w.drew.heap.size w.drew _ from blx w.drew _)) (.inr ⟨w.heap.size,0,_,rfl,grownCap_ge w l.length 0 e,grownCap_le_maxLen w l.length 0 e (by unfold maxLen;omega),fun j y hj=>?_⟩))
 have a0:j<l.length:=by have:=(List.getElem?_eq_some_iff.1 hj).1;simpa using this
 have hb:=bytesRow_at ⟨l.toArray⟩ (grownCap w l.length 0 e) j (by simpa using a0)
 have hy:y=.int .u8 ((l.toArray[j]'(by simpa using a0)).toNat:Int):=by
  rw[List.getElem?_map,List.getElem?_eq_getElem a0] at hj
  simp only[Option.map_some,Option.some.injEq] at hj
  rw[←hj];rfl
 have hh:W1.heap[w.heap.size]? = some (.cells (bytesRow ⟨l.toArray⟩ (grownCap w l.length 0 e)) e ((bytesRow ⟨l.toArray⟩ (grownCap w l.length 0 e)).size,(bytesRow ⟨l.toArray⟩ (grownCap w l.length 0 e)).size+1)):=by rw[a1];exact heap_alloc_new w.drew _
 rw[hy]
 simp[World.cell?,hh,hb]
def Vv(s:Bl):Int:=if s.length=4 then(if 1≤Zh s 0 4∧Zh s 0 4≤14399 then 0 else 2) else 7
def Wh(s:Bl):Nat:=if Vv s=0 then Zh s 0 4 else 0
theorem Ib(bs:ByteArray)(i:Nat)(r:Bl)(h:i≤bs.size):(ByteArray.toList.loop bs i r).length=r.length+(bs.size-i):=by
 rw[ByteArray.toList.loop]
 split
 ·rename_i h2
  rw[Ib bs (i+1) _ (by omega)]
  simp;omega
 ·simp;omega
termination_by bs.size-i
theorem By(bs:ByteArray):bs.toList.length=bs.size:=by
 unfold ByteArray.toList;rw[Ib _ _ _ (Nat.zero_le _)];simp
theorem four_ne(n:Int):((⟨(leB n 4).toArray⟩:ByteArray).toList==(⟨#[]⟩:ByteArray).toList)=false:=by
 cases hq:((⟨(leB n 4).toArray⟩:ByteArray).toList==(⟨#[]⟩:ByteArray).toList) with
 | false=>rfl
 | true =>
  have e:=congrArg List.length (eq_of_beq hq)
  rw[By,By] at e
  simp[ByteArray.size,Zf] at e
theorem Tm(w:World) :
 C0 89 #[] w (Qi (fun w' r=>∃ b,r=.slice (S1 b) 1 1∧w.heap.size≤b∧Blk w' b [V0 4,V0 1,V0 14399] 270) w):=by
 refine zin 3 Tryz.func89 ?_
 refine xbs 8 1 [V0 4,V0 1,V0 14399] 270 fun b1 W1 n1=>?_
 have g1:=n1.ge (B4 w)
 exact xe 4 (.slice (S1 b1) 1 1) ⟨_,rfl,n1.below,_,rfl,g1,n1.blk⟩
theorem Zbf(gl:Nat)(an:O0)(cn:Nat)(n:Int)(w:World)(hl:Blk w gl [V0 4,V0 1,V0 14399] 270)(hn:Sl w (.slice an 1 cn) 1 [V0 n])(h1:1≤n)(h2:n≤14399) :
 C0 87 #[.slice (S1 gl) 1 1,.slice an 1 cn] w (Ret (.string ⟨(leB n 4).toArray⟩) w):=by
 have b6:=h1
 have b2:=h2
 clear h2
 refine zin 51 Tryz.func87 ?_
 refine xu 19 2 ?_
 refine xlv 15 hl.rp ?_
 refine xa 0 [V0 0,V0 0,V0 0] 270 fun b1 W1 n1=>?_
 have a6:=n1.ne hl
 refine xsv 1 n1.blk [V0 4,V0 1,V0 14399] fun W2 u2 k2=>?_
 have g1:=n1.ge (B4 w)
 refine xd 4 .z ?_
 refine xx (.e [0,1] 2) _ 1 0 1 (Ints.elem (l:=[n]) hn (k:=0) (by simp)).1 ?_
 have hB:=bln (u2.below n1.below g1) (Za W2)
 refine xl (.e [] 3) ((Ints.elem (l:=[n]) (hn.below hB) (k:=0) (by simp)).2) ?_
 have a1:=k2.below (Za W2)
 refine xb (.e [4] 5) 1 a1 ?_
 refine xgk (.b [6,7]) [23,24] (show(decide (n<(1:Int)):Bool)=false from decide_eq_false (by omega)) ?_
 refine xx (.e [8,9] 10) _ 1 0 1 (Ints.elem (l:=[n]) hn (k:=0) (by simp)).1 ?_
 refine xl (.e [] 11) ((Ints.elem (l:=[n]) (hn.below hB) (k:=0) (by simp)).2) ?_
 refine xb (.e [12] 13) 2 a1 ?_
 refine xk (.r [14,15] 2) (show(decide (n>(14399:Int)):Bool)=false from decide_eq_false (by omega)) ?_
 refine xd 3 .z ?_
 have a3:=a1.below (Za W2.drew)
 refine xb (.e [0] 1) 0 a3 ?_
 refine xx (.e [2,3] 4) _ 1 0 1 (Ints.elem (l:=[n]) hn (k:=0) (by simp)).1 ?_
 have a0:=bln hB (Za W2.drew)
 refine xl (.e [] 5) ((Ints.elem (l:=[n]) (hn.below a0) (k:=0) (by simp)).2) ?_
 refine xbs (.o [6] 7) 1 [V0 4,V0 n] 229 fun b4 W4 n4=>?_
 have g4:=n4.ge a0
 refine yc (.o [] 8) (args:=#[.slice (S1 b4) 1 1]) .z (Px b4 n (by omega) (by omega) _ n4.blk) ?_
 rintro _ W5 ⟨_,rfl,a7,p2,c2,rfl,h2⟩
 have a8:=(bln a0 n4.below).size
 refine⟨a7,?_⟩
 have o6:=World.ownsRow_nil W5 w.heap.size 5 1
 have a4:=Zd h2 a8
 have a2:=bln (bln a0 n4.below) a7
 refine xbi (.r [9,10,11,12,13] 5) fun _ _ _ _ zJ zQ zo zx zy zK=>Zx (m:=4) (news:=(leB n 4).map bv) (.int .u8 0) 1 1 (4) ((leB n 4).map bv) zo Tryz.underlying22 (by kernel_rfl) rfl (by decide) zx o6 zy (Ze a4) (by simp[Zf]) (Yj _) (by unfold maxLen;omega) (by omega) a2.size (by rfl) (by simp) fun b0 b3 W7 o7 b5 a9=>?_
 refine zK _ _ ?_
 refine xcv0 24 (fun _ _ _ zo zx=>Jf zo zx (Yl (Ze o7) (Zf _ _)) (Zf _ _) Tryz.underlying22 Tryz.underlying5 Tryz.underlying9) ?_
 have a5:=a2.trans a9
 exact xe 4 (.string ⟨(leB n 4).toArray⟩) ⟨rfl,a5⟩
theorem Zbj(gl:Nat)(an:O0)(cn:Nat)(n:Int)(w:World)(hl:Blk w gl [V0 4,V0 1,V0 14399] 270)(hn:Sl w (.slice an 1 cn) 1 [V0 n])(h:¬ (1≤n∧n≤14399)) :
 C0 87 #[.slice (S1 gl) 1 1,.slice an 1 cn] w (Ret (.string ⟨#[]⟩) w):=by
 refine zin 51 Tryz.func87 ?_
 refine xu 19 2 ?_
 refine xlv 15 hl.rp ?_
 refine xa 0 [V0 0,V0 0,V0 0] 270 fun b1 W1 n1=>?_
 have a2:=n1.ne hl
 refine xsv 1 n1.blk [V0 4,V0 1,V0 14399] fun W2 u2 k2=>?_
 have g1:=n1.ge (B4 w)
 refine xd 4 .z ?_
 refine xx (.e [0,1] 2) _ 1 0 1 (Ints.elem (l:=[n]) hn (k:=0) (by simp)).1 ?_
 have hB:=bln (u2.below n1.below g1) (Za W2)
 refine xl (.e [] 3) ((Ints.elem (l:=[n]) (hn.below hB) (k:=0) (by simp)).2) ?_
 have a1:=k2.below (Za W2)
 refine xb (.e [4] 5) 1 a1 ?_
 refine xg (.b [6,7]) [23,24] (decide (n<(1:Int))) (fun a0=>?_) (fun a0=>?_)
 ·have a0:=of_decide_eq_true a0
  exact xe (.r [8,9,10,11,12,13,14,15] 15) (.string ⟨#[]⟩) ⟨rfl,hB⟩
 have a0:=of_decide_eq_false a0
 refine xx (.e [8,9] 10) _ 1 0 1 (Ints.elem (l:=[n]) hn (k:=0) (by simp)).1 ?_
 refine xl (.e [] 11) ((Ints.elem (l:=[n]) (hn.below hB) (k:=0) (by simp)).2) ?_
 refine xb (.e [12] 13) 2 a1 ?_
 refine xk (.r [14,15] 2) (show(decide (n>(14399:Int)):Bool)=true from decide_eq_true (by omega)) ?_
 exact xe 12 (.string ⟨#[]⟩) ⟨rfl,hB⟩
theorem Lv(gl:Nat)(s:Bl)(w:World)(hl:Blk w gl [V0 4,V0 1,V0 14399] 270)(hs:s.length≤1000)(h4:s.length≠4) :
 C0 140 #[.slice (S1 gl) 1 1,.string ⟨s.toArray⟩] w (Qi (fun w' r=>∃ p c,r=.tuple #[.slice p 1 c,V0 7]∧w'.ownsRow w.heap.size 3 1 (.slice p 1 c) 1 [V0 0]) w):=by
 refine zin 54 Tryz.func140 ?_
 refine xu 25 2 ?_
 refine xlv 14 hl.rp ?_
 refine xa 0 [V0 0,V0 0,V0 0] 270 fun b1 W1 n1=>?_
 have a4:=n1.ne hl
 refine xsv 0 n1.blk [V0 4,V0 1,V0 14399] fun W2 u2 k2=>?_
 have g1:=n1.ge (B4 w)
 refine xb 6 0 k2 ?_
 refine xbs 0 1 [V0 4] 3 fun b3 W3 n3=>?_
 have o4:=World.ownsRow_nil W3 w.heap.size 3 1
 have hB:=bln (u2.below n1.below g1) n3.below
 refine xbi 0 fun _ _ _ _ zJ zQ zo zx zy zK=>Zx (m:=1) (news:=[V0 4]) (V0 0) 1 8 (1) ([Value.int .i64 4]) zo Tryz.underlying28 (by kernel_rfl) rfl (by decide) zx o4 zy (n3.blk.sl 1 1 (by decide) (by decide)) rfl (by simp[Value.oneCell']) (by unfold maxLen;omega) (by omega) hB.size (by rfl) (by rfl) fun a7 a8 W5 o5 a5 a6=>?_
 refine zK _ _ ?_
 have a1:=(k2.below n3.below).grown a5 o4 (by decide)
 refine xb 6 0 a1 ?_
 refine xk 31 (show(((s.length:Int) != (4:Int)):Bool)=true from bne_iff_ne.2 (by omega)) ?_
 refine xmk 4 fun _ _ _ _ zJ zQ zo zx zy zK=>Vq 1 (V0 0) 1 8 [Value.int .i64 0] zo zx zy Tryz.underlying28 (by kernel_rfl) rfl (by omega) (by omega) (rfl) fun b6 W6 n6=>?_
 have a0:=hB.trans a6
 have g6:=n6.ge a0
 have a3:=Zz o5 n6
 refine zK _ _ ?_
 have a2:=bln a0 n6.below
 have o6:=Xf (size:=1) (n:=1) n6.blk g6 (rfl) (by unfold maxLen;omega)
 exact xe 6 (.tuple #[.slice (S1 b6) 1 1,V0 7]) ⟨_,rfl,a2,_,_,rfl,o6⟩
theorem Da(gl:Nat)(s:Bl)(w:World)(hl:Blk w gl [V0 4,V0 1,V0 14399] 270)(hs:s.length≤1000)(h4:s.length=4)(h1:1≤Zh s 0 4)(h2:Zh s 0 4≤14399) :
 C0 140 #[.slice (S1 gl) 1 1,.string ⟨s.toArray⟩] w (Qi (fun w' r=>∃ p c,r=.tuple #[.slice p 1 c,V0 0]∧w'.ownsRow w.heap.size 3 1 (.slice p 1 c) 1 [V0 (↑(Zh s 0 4):Int)]) w):=by
 refine zin 54 Tryz.func140 ?_
 refine xu 25 2 ?_
 refine xlv 14 hl.rp ?_
 refine xa 0 [V0 0,V0 0,V0 0] 270 fun b1 W1 n1=>?_
 have a0:=n1.ne hl
 refine xsv 0 n1.blk [V0 4,V0 1,V0 14399] fun W2 u2 k2=>?_
 have g1:=n1.ge (B4 w)
 refine xb 6 0 k2 ?_
 refine xbs 0 1 [V0 4] 3 fun b3 W3 n3=>?_
 have o4:=World.ownsRow_nil W3 w.heap.size 3 1
 have hB:=bln (u2.below n1.below g1) n3.below
 refine xbi 0 fun _ _ _ _ zJ zQ zo zx zy zK=>Zx (m:=1) (news:=[V0 4]) (V0 0) 1 8 (1) ([Value.int .i64 4]) zo Tryz.underlying28 (by kernel_rfl) rfl (by decide) zx o4 zy (n3.blk.sl 1 1 (by decide) (by decide)) rfl (by simp[Value.oneCell']) (by unfold maxLen;omega) (by omega) hB.size (by rfl) (by rfl) fun a9 b0 W5 o5 b2 b5=>?_
 refine zK _ _ ?_
 have a6:=(k2.below n3.below).grown b2 o4 (by decide)
 refine xb 6 0 a6 ?_
 refine xk 31 (show(((s.length:Int) != (4:Int)):Bool)=false from by rw[h4];rfl) ?_
 refine xcf 5 fun _ _ _ zJ zQ zo zx zK=>Gq s zo zx Tryz.underlying9 Tryz.underlying22 Tryz.underlying5 (by omega) ?_
 intro bz cz W6 a2 b7
 refine zK _ _ ?_
 have a7:=Zb o5 a2
 refine xc 1 (args:=#[.slice (S1 bz) s.length cz,.slice a9 1 b0]) (Wt (S1 bz) s.length cz s a9 b0 1 [4] [Zh s 0 4] _ rfl rfl rfl (by decide) (by simp;omega) (by omega) (by decide) b7 (Ze a7) (fun i hi=>by obtain rfl:i=0:=(by simpa using hi);have:=Qt s 0 4 (by decide);simp[Jw];omega)) ?_
 rintro _ W7 ⟨_,rfl,b4,p5,c5,rfl,h5⟩
 have b6:=(bln (hB.trans b5) a2).size
 have a4:=((((u2.blk (hl.below n1.below) (Ne.symm (Ne.symm a0))).below n3.below).grown b2 o4 (by decide)).below a2).below b4
 have a1:=Zd h5 b6
 refine xr 15 (args:=#[.slice (S1 gl) 1 1,.slice p5 1 c5]) (Zbf gl p5 c5 (↑(Zh s 0 4):Int) _ a4 (Ze a1) (by omega) (by omega)) fun W8 a8=>?_
 refine xk 4 (show(((⟨(leB (↑(Zh s 0 4):Int) 4).toArray⟩:ByteArray).toList==(⟨#[]⟩:ByteArray).toList):Bool)=false from four_ne _) ?_
 have a5:=bln (bln (bln (hB.trans b5) a2) b4) a8
 have a3:=Zb a1 a8
 exact xe 10 (.tuple #[.slice p5 1 c5,V0 0]) ⟨_,rfl,a5,_,_,rfl,a3⟩
theorem Lr(gl:Nat)(s:Bl)(w:World)(hl:Blk w gl [V0 4,V0 1,V0 14399] 270)(hs:s.length≤1000)(h4:s.length=4)(h1:¬ (1≤(Zh s 0 4:Int)∧(Zh s 0 4:Int)≤14399)) :
 C0 140 #[.slice (S1 gl) 1 1,.string ⟨s.toArray⟩] w (Qi (fun w' r=>∃ p c,r=.tuple #[.slice p 1 c,V0 2]∧w'.ownsRow w.heap.size 3 1 (.slice p 1 c) 1 [V0 0]) w):=by
 refine zin 54 Tryz.func140 ?_
 refine xu 25 2 ?_
 refine xlv 14 hl.rp ?_
 refine xa 0 [V0 0,V0 0,V0 0] 270 fun b1 W1 n1=>?_
 have a0:=n1.ne hl
 refine xsv 0 n1.blk [V0 4,V0 1,V0 14399] fun W2 u2 k2=>?_
 have g1:=n1.ge (B4 w)
 refine xb 6 0 k2 ?_
 refine xbs 0 1 [V0 4] 3 fun b3 W3 n3=>?_
 have o4:=World.ownsRow_nil W3 w.heap.size 3 1
 have hB:=bln (u2.below n1.below g1) n3.below
 refine xbi 0 fun _ _ _ _ zJ zQ zo zx zy zK=>Zx (m:=1) (news:=[V0 4]) (V0 0) 1 8 (1) ([Value.int .i64 4]) zo Tryz.underlying28 (by kernel_rfl) rfl (by decide) zx o4 zy (n3.blk.sl 1 1 (by decide) (by decide)) rfl (by simp[Value.oneCell']) (by unfold maxLen;omega) (by omega) hB.size (by rfl) (by rfl) fun b7 b5 W5 o5 b4 b6=>?_
 refine zK _ _ ?_
 have a6:=(k2.below n3.below).grown b4 o4 (by decide)
 refine xb 6 0 a6 ?_
 refine xk 31 (show(((s.length:Int) != (4:Int)):Bool)=false from by rw[h4];rfl) ?_
 refine xcf 5 fun _ _ _ zJ zQ zo zx zK=>Gq s zo zx Tryz.underlying9 Tryz.underlying22 Tryz.underlying5 (by omega) ?_
 intro bz cz W6 a4 c1
 refine zK _ _ ?_
 have a1:=Zb o5 a4
 refine xc 1 (args:=#[.slice (S1 bz) s.length cz,.slice b7 1 b5]) (Wt (S1 bz) s.length cz s b7 b5 1 [4] [Zh s 0 4] _ rfl rfl rfl (by decide) (by simp;omega) (by omega) (by decide) c1 (Ze a1) (fun i hi=>by obtain rfl:i=0:=(by simpa using hi);have:=Qt s 0 4 (by decide);simp[Jw];omega)) ?_
 rintro _ W7 ⟨_,rfl,a7,p5,c5,rfl,h5⟩
 have c2:=(bln (hB.trans b6) a4).size
 have a8:=((((u2.blk (hl.below n1.below) (Ne.symm (Ne.symm a0))).below n3.below).grown b4 o4 (by decide)).below a4).below a7
 have a3:=Zd h5 c2
 refine xr 15 (args:=#[.slice (S1 gl) 1 1,.slice p5 1 c5]) (Zbj gl p5 c5 (↑(Zh s 0 4):Int) _ a8 (Ze a3) (by omega)) fun W8 a5=>?_
 refine xmk 9 fun _ _ _ _ zJ zQ zo zx zy zK=>Vq 1 (V0 0) 1 8 [Value.int .i64 0] zo zx zy Tryz.underlying28 (by kernel_rfl) rfl (by omega) (by omega) (rfl) fun b9 W9 n9=>?_
 have a2:=bln (bln (bln (hB.trans b6) a4) a7) a5
 have g9:=n9.ge a2
 have a9:=Zb (Zb a1 a7) a5
 have c0:=Zz a9 n9
 have b0:=Zb a3 a5
 have b8:=Zz b0 n9
 refine zK _ _ ?_
 have b2:=bln a2 n9.below
 have o9:=Xf (size:=1) (n:=1) n9.blk g9 (rfl) (by unfold maxLen;omega)
 exact xe 6 (.tuple #[.slice (S1 b9) 1 1,V0 2]) ⟨_,rfl,b2,_,_,rfl,o9⟩
theorem Sb(gl:Nat)(s:Bl)(w:World)(hl:Blk w gl [V0 4,V0 1,V0 14399] 270)(hs:s.length≤1000):C0 140 #[.slice (S1 gl) 1 1,.string ⟨s.toArray⟩] w (Qi (fun w' r=>∃ p c,r=.tuple #[.slice p 1 c,V0 (Vv s)]∧w'.ownsRow w.heap.size 3 1 (.slice p 1 c) 1 [V0 (Wh s:Int)]) w):=by
 by_cases h4:s.length=4
 ·by_cases h1:1≤Zh s 0 4∧Zh s 0 4≤14399
  ·have he:Vv s=0:=by unfold Vv;rw[if_pos h4,if_pos h1]
   rw[he,Wh,if_pos he]
   exact Da gl s w hl hs h4 h1.1 h1.2
  ·have he:Vv s=2:=by unfold Vv;rw[if_pos h4,if_neg h1]
   rw[he,Wh,if_neg (by rw[he];decide)]
   exact Lr gl s w hl hs h4 (by omega)
 ·have he:Vv s=7:=by unfold Vv;rw[if_neg h4]
  rw[he,Wh,if_neg (by rw[he];decide)]
  exact Lv gl s w hl hs h4
theorem Gi(s:Bl)(w:World)(hs:s.length≤1000) :
 C0 144 #[.string ⟨s.toArray⟩] w (Ret (.tuple #[V0 (Wh s:Int),V0 (Vv s)]) w):=by
 refine zin 16 Tryz.func144 ?_
 refine xc 8 (args:=#[]) (Tm _) ?_
 rintro _ W1 ⟨_,rfl,a1,gl,rfl,gg,kl⟩
 refine xc 1 (args:=#[.slice (S1 gl) 1 1,.string ⟨s.toArray⟩]) (Sb gl s _ kl hs) ?_
 rintro _ W2 ⟨_,rfl,a2,p5,c5,rfl,h5⟩
 have a0:=Zd h5 a1.size
 refine xx 10 _ 1 0 1 (Ints.elem (l:=[(Wh s:Int)]) (Ze a0) (k:=0) (by simp)).1 ?_
 refine xl 0 ((Ints.elem (l:=[(Wh s:Int)]) (Ze a0) (k:=0) (by simp)).2) ?_
 have hB:=bln a1 a2
 exact xe 6 (.tuple #[V0 (↑(Wh s):Int),V0 (Vv s)]) ⟨rfl,hB⟩
abbrev Gd:=Nat×Int×Int
def Zbc(p:Gd):List Value:=[V0 (p.1:Int),V0 p.2.1,V0 p.2.2]
theorem Kw(p:Gd):(Zbc p).length=3:=rfl
def Xl:Gd:=(4,0,0)
def Hf(ps:List Gd):Prop:=ps.length≤1000∧∀ i,i<ps.length→((ps.getD i Xl).1=4∨(ps.getD i Xl).1=8)∧0≤(ps.getD i Xl).2.1∧(ps.getD i Xl).2.2<9223372036854775808∧((ps.getD i Xl).1=4→(ps.getD i Xl).2.2<4294967296)
def inP (p:Gd)(n:Int):Bool:=decide (p.2.1≤n∧n≤p.2.2)
def Pi(ps:List Gd)(N:List Int)(k:Nat):Bool:=(List.range k).all fun i=>inP (ps.getD i Xl) (N.getD i 0)
theorem Zby(ps:List Gd)(N:List Int)(k:Nat):Pi ps N (k+1)=(Pi ps N k&&inP (ps.getD k Xl) (N.getD k 0)):=by simp[Pi,List.range_succ]
theorem Bv{ps:List Gd}{N:List Int}{i k:Nat}(hi:i<k)(h:inP (ps.getD i Xl) (N.getD i 0)=false):Pi ps N k=false:=by
 unfold Pi
 rw[List.all_eq_false]
 exact⟨i,List.mem_range.2 hi,by rw[h];decide⟩
def Zfx(ps:List Gd)(N:List Int)(k:Nat):Bl:=(List.range k).flatMap fun i=>leB (N.getD i 0) (ps.getD i Xl).1
theorem Mo(ps:List Gd)(N:List Int)(k:Nat):Zfx ps N (k+1)=Zfx ps N k++leB (N.getD k 0) (ps.getD k Xl).1:=by simp[Zfx,List.range_succ]
def Jk(ps:List Gd)(k:Nat):List Nat:=(List.range k).map fun i=>(ps.getD i Xl).1
theorem Vb(ps:List Gd)(k:Nat):Jk ps (k+1)=Jk ps k++[(ps.getD k Xl).1]:=by simp[Jk,List.range_succ]
theorem Ut(ps:List Gd)(k:Nat):(Jk ps k).length=k:=by simp[Jk]
theorem wids_get(ps:List Gd){k i:Nat}(h:i<k):(Jk ps k).getD i 0=(ps.getD i Xl).1:=by simp[Jk,List.getD,List.getElem?_range h]
theorem Oa(ps:List Gd)(N:List Int)(k:Nat):(Zfx ps N k).length=(Jk ps k).sum:=by
 induction k with
 | zero=>rfl
 | succ k ih=>rw[Mo,Vb,List.length_append,Zf,ih];simp
theorem Pack_48(g w:Nat)(n:Int)(W:World)(hw:w=4∨w=8)(h0:0≤n)(hb:w=4→n<4294967296)(hk:Blk W g [V0 (w:Int),V0 n] 229):C0 114 #[.slice (S1 g) 1 1] W (Qi (fun w' r=>∃ p c,r=.tuple #[.slice p w c,V0 0]∧w'.ownsRow W.heap.size 5 1 (.slice p w c) w ((leB n w).map bv)) W):=by
 rcases hw with rfl|rfl
 ·exact Px g n h0 (hb rfl) W hk
 ·exact Zf3 g n h0 W hk
def ValPutP(ps:List Gd)(N:List Int)(w:World)(e:Ending)(w':World):Prop :=
 (Pi ps N ps.length=false∧e=.returned (.string ⟨#[]⟩)∧B3 w w')∨(Pi ps N ps.length=true∧e=.returned (.string ⟨(Zfx ps N ps.length).toArray⟩)∧B3 w w')
theorem Zbh(ps:List Gd)(N:List Int)(gl gn:O0)(cl cn:Nat)(w:World)(hps:Hf ps)(hNl:N.length=ps.length)(hP:Sts Zbc w (.slice gl ps.length cl) ps)(hN:Sl w (.slice gn ps.length cn) ps.length (N.map V0)) :
 C0 87 #[.slice gl ps.length cl,.slice gn ps.length cn] w (ValPutP ps N w):=by
 have c3:=hps.1
 refine zin 51 Tryz.func87 ?_
 have hB:=Below.refl w.heap.size w
 refine zl 19 51 (fun zm b6 V=>∃ (i m:Nat) (q:O0) (d:Nat),b6=[(1,.slice gn ps.length cn),(5,.slice q m d),(10,.slice gl ps.length cl),(11,V0 (ps.length:Int)),(12,V0 (i:Int))]∧zm=ps.length-((i:Int)).toNat∧B3 w V∧V.ownsRow w.heap.size 5 1 (.slice q m d) m ((Zfx ps N i).map bv)∧i≤ps.length∧m=(Jk ps i).sum∧m≤i*8∧Pi ps N i=true) ⟨0,0,_,_,rfl,rfl,hB,World.ownsRow_nil _ _ _ _,Nat.zero_le _,rfl,Nat.zero_le _,rfl⟩ ?_
 rintro _ _ W1 ⟨i,m,q,d,rfl,rfl,a1,ho,hi,hm,c4,a5⟩ J1 b2 r1
 refine xid 6 ((i:Int)<(ps.length:Int)) (fun b4=>?_) (fun b4=>?_)
 ·refine xx 7 _ ps.length i 3 (Sts.cell hP Kw Xl (k:=i) (i:=0) (by omega) rfl).1 ?_
  refine xlv 0 (Sts.rp (k:=i) (hP.below a1) Kw Xl (by omega) (by decide)) ?_
  refine xa 0 [V0 0,V0 0,V0 0] 270 fun b3 W3 n3=>?_
  have g3:=n3.ge a1
  refine xsv 1 n3.blk [V0 (↑(ps.getD i Xl).1:Int),V0 ((ps.getD i Xl).2.1),V0 ((ps.getD i Xl).2.2)] fun W4 u4 k4=>?_
  refine xd 4 .z ?_
  refine xx (.e [0,1] 2) _ ps.length i 1 (IntsN.elem hN hNl (k:=i) (by omega)).1 ?_
  have a0:=bln (u4.below (bln a1 n3.below) g3) (Za W4)
  refine xl (.e [] 3) ((IntsN.elem (hN.below a0) hNl (k:=i) (by omega)).2) ?_
  have a3:=k4.below (Za W4)
  refine xb (.e [4] 5) 1 a3 ?_
  refine xg (.b [6,7]) [23,24] (decide ((N.getD i 0)<(ps.getD i Xl).2.1)) (fun a6=>?_) (fun a6=>?_)
  ·have a6:=of_decide_eq_true a6
   exact xe (.r [8,9,10,11,12,13,14,15] 15) (.string ⟨#[]⟩) (.inl ⟨Bv (i:=i) (by omega) (decide_eq_false (by omega)),rfl,a0⟩)
  have a6:=of_decide_eq_false a6
  refine xx (.e [8,9] 10) _ ps.length i 1 (IntsN.elem hN hNl (k:=i) (by omega)).1 ?_
  refine xl (.e [] 11) ((IntsN.elem (hN.below a0) hNl (k:=i) (by omega)).2) ?_
  refine xb (.e [12] 13) 2 a3 ?_
  refine xid (.r [14,15] 2) ((N.getD i 0)>(ps.getD i Xl).2.2) (fun b5=>?_) (fun b5=>?_)
  ·exact xe 12 (.string ⟨#[]⟩) (.inl ⟨Bv (i:=i) (by omega) (decide_eq_false (by omega)),rfl,a0⟩)
  refine xd 3 .z ?_
  have a9:=a3.below (Za W4.drew)
  refine xb (.e [0] 1) 0 a9 ?_
  refine xx (.e [2,3] 4) _ ps.length i 1 (IntsN.elem hN hNl (k:=i) (by omega)).1 ?_
  have a2:=bln a0 (Za W4.drew)
  refine xl (.e [] 5) ((IntsN.elem (hN.below a2) hNl (k:=i) (by omega)).2) ?_
  refine xbs (.o [6] 7) 1 [V0 (↑(ps.getD i Xl).1:Int),V0 (N.getD i 0)] 229 fun b7 W7 n7=>?_
  have g7:=n7.ge a2
  refine yc (.o [] 8) (args:=#[.slice (S1 b7) 1 1]) .z (Pack_48 b7 (ps.getD i Xl).1 (N.getD i 0) _ (hps.2 i (by omega)).1 (by have:=(hps.2 i (by omega)).2.1;omega) (fun q=>by have:=(hps.2 i (by omega)).2.2.2 q;omega) n7.blk) ?_
  rintro _ W8 ⟨_,rfl,a7,p2,c2,rfl,h2⟩
  have b8:=(bln a2 n7.below).size
  refine⟨a7,?_⟩
  have b0:=Zb (Zb (Zb (Zb (u4.own2 (Zb ho n3.below) n3.blk (by decide)) (Za W4)) (Za W4.drew)) n7.below) a7
  have a8:=Zd h2 b8
  have a4:=bln (bln a2 n7.below) a7
  refine xbi (.r [9,10,11,12,13] 5) fun _ _ _ _ zJ zQ zo zx zy zK=>Zx (m:=(ps.getD i Xl).1) (news:=(leB (N.getD i 0) (ps.getD i Xl).1).map bv) (.int .u8 0) 1 1 ((m+(ps.getD i Xl).1)) (((Zfx ps N (i+1)).map bv)) zo Tryz.underlying22 (by kernel_rfl) rfl (by decide) zx b0 zy (Ze a8) (by simp[Zf]) (Yj _) (by unfold maxLen;have:=(hps.2 i (by omega)).1;omega) (by have:=(hps.2 i (by omega)).1;omega) a4.size (by rfl) (by rw[Mo,List.map_append]) fun c5 c0 W9 o9 c1 b9=>?_
  refine zK _ _ ?_
  refine xwm 5 ((i:Int)+1) (↑(i+1):Int) ?_
  have b1:=a4.trans b9
  exact ze 2 (b2 _ _ _ ⟨i+1,_,_,_,rfl,rfl,b1,o9,by omega,by rw[Vb,hm];simp,by have:=(hps.2 i (by omega)).1;omega,by rw[Zby,a5];exact decide_eq_true ⟨by omega,by omega⟩⟩ (by omega))
 refine xcv0 8 (fun _ _ _ zo zx=>Jf zo zx (Yl (Ze ho) (by rw[Oa];exact hm.symm)) (by rw[Oa];exact hm.symm) Tryz.underlying22 Tryz.underlying5 Tryz.underlying9) ?_
 refine xe 4 (.string ⟨(Zfx ps N i).toArray⟩) ?_
 obtain rfl:i=ps.length:=by omega
 exact .inr ⟨a5,rfl,a1⟩
def Lc(ps:List Gd)(s:Bl):List Nat:=Jw s 0 (Jk ps ps.length)
theorem Ff(ps:List Gd)(s:Bl):(Lc ps s).length=ps.length:=by rw[Lc,Ef,Ut]
def Gn(ps:List Gd)(s:Bl):Bool:=Pi ps ((Lc ps s).map fun n:Nat=>(n:Int)) ps.length
def Yd(ps:List Gd)(s:Bl):Int:=if s.length=(Jk ps ps.length).sum then(if Gn ps s then 0 else 2) else 7
def Yp(ps:List Gd)(s:Bl):List Nat:=if Yd ps s=0 then Lc ps s else List.replicate ps.length 0
theorem Kv(ps:List Gd)(s:Bl):(Yp ps s).length=ps.length:=by
 unfold Yp;split
 ·exact Ff ps s
 ·simp
theorem Zd4{ps:List Gd}{s:Bl}(hp:Hf ps)(h:Gn ps s=true):∀ i,i<(Jk ps ps.length).length→(Jw s 0 (Jk ps ps.length)).getD i 0<9223372036854775808:=by
 intro i hi
 rw[Ut] at hi
 unfold Gn Pi at h
 rw[List.all_eq_true] at h
 have h1:=of_decide_eq_true (h i (List.mem_range.2 hi))
 have h2:=(hp.2 i hi).2.2.1
 rw[show((Lc ps s).map fun n:Nat=>(n:Int)).getD i 0=(((Lc ps s).getD i 0:Nat):Int) by simp[List.getD,show i<(Lc ps s).length by rw[Ff];exact hi]] at h1
 change (Lc ps s).getD i 0<_
 omega
theorem map_nv(l:List Nat):l.map nv=(l.map fun n:Nat=>(n:Int)).map V0:=by simp[nv]
theorem putL_ne{ps:List Gd}{N:List Int}(hp:Hf ps)(h0:0<ps.length):((⟨(Zfx ps N ps.length).toArray⟩:ByteArray).toList==(⟨#[]⟩:ByteArray).toList)=false:=by
 rw[show(⟨#[]⟩:ByteArray)=⟨([]:Bl).toArray⟩ from rfl,Zdy]
 apply beq_false_of_ne
 intro q
 have h1:=congrArg List.length q
 obtain⟨k,hk⟩:∃ k,ps.length=k+1:=⟨ps.length-1,by omega⟩
 rw[hk,Mo,List.length_append,Zf] at h1
 rw[List.length_nil] at h1
 have:=(hp.2 k (by omega)).1
 omega
theorem Ee(n:Nat):Ha (Value.int .i64 0).cells.toList n=(List.replicate n 0).map nv:=by
 rw[show(Value.int .i64 0).cells.toList=[Value.int .i64 0] from rfl,Ha,List.map_replicate]
 induction n with
 | zero=>rfl
 | succ n ih=>rw[List.replicate_succ,List.flatten_cons,ih,List.replicate_succ];rfl
theorem Mv(ps:List Gd)(s:Bl)(gl:O0)(cl:Nat)(w:World)(hps:Hf ps)(h0:0<ps.length)(hs:s.length≤100000)(hP:Sts Zbc w (.slice gl ps.length cl) ps)(hsl:s.length≠(Jk ps ps.length).sum) :
 C0 140 #[.slice gl ps.length cl,.string ⟨s.toArray⟩] w (Qi (fun w' r=>∃ p c,r=.tuple #[.slice p ps.length c,V0 (Yd ps s)]∧w'.ownsRow w.heap.size 3 1 (.slice p ps.length c) ps.length ((Yp ps s).map nv)) w):=by
 have b9:=hps.1
 refine zin 54 Tryz.func140 ?_
 have hB:=Below.refl w.heap.size w
 refine zl 25 54 (fun zm b2 V=>∃ (i:Nat) (q:O0) (d:Nat),b2=[(0,.slice gl ps.length cl),(1,.string ⟨s.toArray⟩),(4,S0),(5,V0 0),(6,.slice q i d),(7,V0 (↑(Jk ps i).sum:Int)),(12,.slice gl ps.length cl),(13,V0 (ps.length:Int)),(14,V0 (i:Int))]∧zm=ps.length-((i:Int)).toNat∧B3 w V∧V.ownsRow w.heap.size 3 1 (.slice q i d) i ((Jk ps i).map nv)∧i≤ps.length∧(Jk ps i).sum≤i*8) ⟨0,_,_,rfl,rfl,hB,World.ownsRow_nil _ _ _ _,Nat.zero_le _,Nat.zero_le _⟩ ?_
 rintro _ _ W1 ⟨i,q,d,rfl,rfl,a0,ho,hi,c1⟩ J1 b0 r1
 have b4:i<ps.length→(ps.getD i Xl).1≤8:=fun q=>by have:=(hps.2 i q).1;omega
 refine xid 6 ((i:Int)<(ps.length:Int)) (fun b1=>?_) (fun b1=>?_)
 ·refine xx 6 _ ps.length i 3 (Sts.cell hP Kw Xl (k:=i) (i:=0) (by omega) rfl).1 ?_
  refine xlv 0 (Sts.rp (k:=i) (hP.below a0) Kw Xl (by omega) (by decide)) ?_
  refine xa 0 [V0 0,V0 0,V0 0] 270 fun b3 W3 n3=>?_
  have g3:=n3.ge a0
  refine xsv 0 n3.blk [V0 (↑(ps.getD i Xl).1:Int),V0 ((ps.getD i Xl).2.1),V0 ((ps.getD i Xl).2.2)] fun W4 u4 k4=>?_
  refine xb 6 0 k4 ?_
  refine xbs 0 1 [V0 (↑(ps.getD i Xl).1:Int)] 3 fun b5 W5 n5=>?_
  have a1:=u4.below (bln a0 n3.below) g3
  have g5:=n5.ge a1
  have a3:=u4.own2 (Zb ho n3.below) n3.blk (by decide)
  have a9:=Zz a3 n5
  have a2:=Zb a3 n5.below
  have a4:=bln a1 n5.below
  refine xbi 0 fun _ _ _ _ zJ zQ zo zx zy zK=>Zx (m:=1) (news:=[V0 (↑(ps.getD i Xl).1:Int)]) (V0 0) 1 8 (i+1) (((Jk ps (i+1)).map nv)) zo Tryz.underlying28 (by kernel_rfl) rfl (by decide) zx a2 zy (n5.blk.sl 1 1 (by decide) (by decide)) rfl (by simp[Value.oneCell']) (by unfold maxLen;omega) (by omega) a4.size (by rfl) (by rw[Vb,List.map_append];rfl) fun c2 c0 W6 o6 b6 b8=>?_
  refine zK _ _ ?_
  have a6:=(k4.below n5.below).grown b6 a2 (by decide)
  refine xb 6 0 a6 ?_
  refine xwm 0 ((↑(Jk ps i).sum:Int)+(↑(ps.getD i Xl).1:Int)) (↑((Jk ps i).sum+((ps.getD i Xl).1)):Int) ?_
  refine xwm 5 ((i:Int)+1) (↑(i+1):Int) ?_
  refine xv1 2 7 (show(V0 (↑((Jk ps i).sum+((ps.getD i Xl).1)):Int):Value)=V0 (↑(Jk ps (i+1)).sum:Int) from by rw[Vb];simp) ?_
  have a5:=a4.trans b8
  exact ze 0 (b0 _ _ _ ⟨i+1,_,_,rfl,rfl,a5,o6,by omega,by rw[Vb,List.sum_append,List.sum_cons,List.sum_nil];have:=b4 (by omega);omega⟩ (by omega))
 refine xk 14 (show(((s.length:Int) != (↑(Jk ps i).sum:Int)):Bool)=true from bne_iff_ne.2 (by rw[show i=ps.length by omega];omega)) ?_
 refine xmk 4 fun _ _ _ _ zJ zQ zo zx zy zK=>Vq ps.length (V0 0) 1 8 ((List.replicate ps.length 0).map nv) zo zx zy Tryz.underlying28 (by kernel_rfl) rfl (by omega) (by omega) (Ee _) fun b7 W7 n7=>?_
 have g7:=n7.ge a0
 have a8:=Zz ho n7
 refine zK _ _ ?_
 have a7:=bln a0 n7.below
 have o7:=Xf (size:=1) (n:=ps.length) n7.blk g7 (by simp) (by unfold maxLen;omega)
 refine xe 6 (.tuple #[.slice (S1 b7) ps.length ps.length,V0 7]) ?_
 have he:Yd ps s=7:=if_neg hsl
 exact⟨_,rfl,a7,_,_,by rw[he],by rw[Yp,if_neg (by rw[he];decide)];exact o7⟩
def UnpP(s:Bl)(ws:List Nat)(n:Nat)(W:World)(e:Ending)(w':World):Prop :=
 ((¬ ∀ i,i<ws.length→(Jw s 0 ws).getD i 0<9223372036854775808)∧e=.returned (.tuple #[S0,V0 2])∧B3 W w') ∨
 ((∀ i,i<ws.length→(Jw s 0 ws).getD i 0<9223372036854775808)∧∃ p c,e=.returned (.tuple #[.slice p n c,V0 0])∧B3 W w'∧w'.ownsRow W.heap.size 3 1 (.slice p n c) n ((Jw s 0 ws).map nv))
theorem Unpack_P(a:O0)(n c m:Nat)(s:Bl)(aw:O0)(cw:Nat)(ws:List Nat)(W:World)(hn:s.length=n)(hm:ws.length=m)(hk:∀ i,i<ws.length→ws.getD i 0=1∨ws.getD i 0=2∨ws.getD i 0=4∨ws.getD i 0=8)(hs:ws.sum≤n)(hl:n≤100000000)(hw:m≤1000)(h:Bys W (.slice a n c) s)(hws:Sl W (.slice aw m cw) m (ws.map nv)) :
 C0 136 #[.slice a n c,.slice aw m cw] W (UnpP s ws m W):=by
 subst hn hm
 by_cases hq:∀ i,i<ws.length→(Jw s 0 ws).getD i 0<9223372036854775808
 ·refine(Fo a c s aw cw ws W hk hs hl hw h hws hq).mono ?_
  rintro e V ⟨_,rfl,hb,p,c2,rfl,ho⟩
  exact .inr ⟨hq,p,c2,rfl,hb,ho⟩
 ·refine(Zat a c s aw cw ws W hk hs hl hw h hws hq).mono ?_
  rintro e V ⟨rfl,hb⟩
  exact .inl ⟨hq,rfl,hb⟩
theorem Zdc(ps:List Gd)(s:Bl)(k:Nat):((Jw s 0 (Jk ps k)).map fun n:Nat=>(n:Int)).length=k:=by rw[List.length_map,Ef,Ut]
theorem Tj(ps:List Gd)(N:List Int)(gl gn:O0)(cl cn n:Nat)(w:World)(hps:Hf ps)(hn:n=ps.length)(hNl:N.length=n)(hP:Sts Zbc w (.slice gl ps.length cl) ps)(hN:Sl w (.slice gn n cn) n (N.map V0)) :
 C0 87 #[.slice gl ps.length cl,.slice gn n cn] w (fun e w'=>(Pi ps N n=false∧e=.returned (.string ⟨#[]⟩)∧B3 w w')∨(Pi ps N n=true∧e=.returned (.string ⟨(Zfx ps N ps.length).toArray⟩)∧B3 w w')):=by
 subst hn;exact Zbh ps N gl gn cl cn w hps hNl hP hN
theorem Lz(ps:List Gd)(s:Bl)(gl:O0)(cl:Nat)(w:World)(hps:Hf ps)(h0:0<ps.length)(hs:s.length≤100000)(hP:Sts Zbc w (.slice gl ps.length cl) ps)(hsl:s.length=(Jk ps ps.length).sum) :
 C0 140 #[.slice gl ps.length cl,.string ⟨s.toArray⟩] w (Qi (fun w' r=>∃ p c,r=.tuple #[.slice p ps.length c,V0 (Yd ps s)]∧w'.ownsRow w.heap.size 3 1 (.slice p ps.length c) ps.length ((Yp ps s).map nv)) w):=by
 have f1:=hps.1
 refine zin 54 Tryz.func140 ?_
 have hB:=Below.refl w.heap.size w
 refine zl 25 54 (fun zm e3 V=>∃ (i:Nat) (q:O0) (d:Nat),e3=[(0,.slice gl ps.length cl),(1,.string ⟨s.toArray⟩),(4,S0),(5,V0 0),(6,.slice q i d),(7,V0 (↑(Jk ps i).sum:Int)),(12,.slice gl ps.length cl),(13,V0 (ps.length:Int)),(14,V0 (i:Int))]∧zm=ps.length-((i:Int)).toNat∧B3 w V∧V.ownsRow w.heap.size 3 1 (.slice q i d) i ((Jk ps i).map nv)∧i≤ps.length∧(Jk ps i).sum≤i*8) ⟨0,_,_,rfl,rfl,hB,World.ownsRow_nil _ _ _ _,Nat.zero_le _,Nat.zero_le _⟩ ?_
 rintro _ _ W1 ⟨i,q,d,rfl,rfl,a0,ho,hi,f3⟩ J1 d7 r1
 have e4:i<ps.length→(ps.getD i Xl).1≤8:=fun q=>by have:=(hps.2 i q).1;omega
 refine xid 6 ((i:Int)<(ps.length:Int)) (fun d9=>?_) (fun d9=>?_)
 ·refine xx 6 _ ps.length i 3 (Sts.cell hP Kw Xl (k:=i) (i:=0) (by omega) rfl).1 ?_
  refine xlv 0 (Sts.rp (k:=i) (hP.below a0) Kw Xl (by omega) (by decide)) ?_
  refine xa 0 [V0 0,V0 0,V0 0] 270 fun b3 W3 n3=>?_
  have g3:=n3.ge a0
  refine xsv 0 n3.blk [V0 (↑(ps.getD i Xl).1:Int),V0 ((ps.getD i Xl).2.1),V0 ((ps.getD i Xl).2.2)] fun W4 u4 k4=>?_
  refine xb 6 0 k4 ?_
  refine xbs 0 1 [V0 (↑(ps.getD i Xl).1:Int)] 3 fun b5 W5 n5=>?_
  have a7:=u4.below (bln a0 n3.below) g3
  have g5:=n5.ge a7
  have b0:=u4.own2 (Zb ho n3.below) n3.blk (by decide)
  have d5:=Zz b0 n5
  have a9:=Zb b0 n5.below
  have b4:=bln a7 n5.below
  refine xbi 0 fun _ _ _ _ zJ zQ zo zx zy zK=>Zx (m:=1) (news:=[V0 (↑(ps.getD i Xl).1:Int)]) (V0 0) 1 8 (i+1) (((Jk ps (i+1)).map nv)) zo Tryz.underlying28 (by kernel_rfl) rfl (by decide) zx a9 zy (n5.blk.sl 1 1 (by decide) (by decide)) rfl (by simp[Value.oneCell']) (by unfold maxLen;omega) (by omega) b4.size (by rfl) (by rw[Vb,List.map_append];rfl) fun f4 f2 W6 o6 e6 e8=>?_
  refine zK _ _ ?_
  have c6:=(k4.below n5.below).grown e6 a9 (by decide)
  refine xb 6 0 c6 ?_
  refine xwm 0 ((↑(Jk ps i).sum:Int)+(↑(ps.getD i Xl).1:Int)) (↑((Jk ps i).sum+((ps.getD i Xl).1)):Int) ?_
  refine xwm 5 ((i:Int)+1) (↑(i+1):Int) ?_
  refine xv1 2 7 (show(V0 (↑((Jk ps i).sum+((ps.getD i Xl).1)):Int):Value)=V0 (↑(Jk ps (i+1)).sum:Int) from by rw[Vb];simp) ?_
  have c4:=b4.trans e8
  exact ze 0 (d7 _ _ _ ⟨i+1,_,_,rfl,rfl,c4,o6,by omega,by rw[Vb,List.sum_append,List.sum_cons,List.sum_nil];have:=e4 (by omega);omega⟩ (by omega))
 refine xk 14 (show(((s.length:Int) != (↑(Jk ps i).sum:Int)):Bool)=false from by rw[show i=ps.length by omega,hsl];simp) ?_
 refine xcf 5 fun _ _ _ zJ zQ zo zx zK=>Gq s zo zx Tryz.underlying9 Tryz.underlying22 Tryz.underlying5 (by omega) ?_
 intro bz cz W7 b6 e0
 refine zK _ _ ?_
 have a2:=Zb ho b6
 refine xc 1 (args:=#[.slice (S1 bz) s.length cz,.slice q i d]) (Unpack_P (S1 bz) s.length cz i s q d (Jk ps i) _ rfl (Ut ps i) (fun j hj=>by rw[Ut] at hj;rw[wids_get ps hj];have:=(hps.2 j (by omega)).1;omega) (by rw[show i=ps.length by omega];omega) (by omega) (by omega) e0 (Ze a2)) ?_
 rintro e W8 d6
 rcases d6 with ⟨hq,rfl,a6⟩|⟨hq,p5,c5,rfl,a6,h5⟩
 ·have a5:i=ps.length:=by omega
  have c2:Gn ps s=false:=by rw[←Bool.not_eq_true];intro q;exact hq (by rw[a5];exact Zd4 hps q)
  refine xmk 25 fun _ _ _ _ zJ zQ zo zx zy zK=>Vq ps.length (V0 0) 1 8 ((List.replicate ps.length 0).map nv) zo zx zy Tryz.underlying28 (by kernel_rfl) rfl (by omega) (by omega) (Ee _) fun b9 W9 n9=>?_
  have b1:=bln (bln a0 b6) a6
  have g9:=n9.ge b1
  have c3:=Zb a2 a6
  have d4:=Zz c3 n9
  refine zK _ _ ?_
  have b8:=bln b1 n9.below
  have o9:=Xf (size:=1) (n:=ps.length) n9.blk g9 (by simp) (by unfold maxLen;omega)
  refine xe 6 (.tuple #[.slice (S1 b9) ps.length ps.length,V0 2]) ?_
  have he:Yd ps s=2:=by unfold Yd;rw[if_pos hsl,if_neg (by rw[c2];decide)]
  exact⟨_,rfl,b8,_,_,by rw[he],by rw[Yp,if_neg (by rw[he];decide)];exact o9⟩
 have e5:=(bln a0 b6).size
 have a5:i=ps.length:=by omega
 have a3:=Zd h5 e5
 have e1:Sl (W8) (.slice p5 i c5) i (((Jw s 0 (Jk ps i)).map fun n:Nat=>(n:Int)).map V0):=by have q:=Ze a3;rw[map_nv] at q;exact q
 have a4:=bln (bln a0 b6) a6
 refine xc 15 (args:=#[.slice gl ps.length cl,.slice p5 i c5]) (Tj ps ((Jw s 0 (Jk ps i)).map fun n:Nat=>(n:Int)) gl p5 cl c5 i _ hps a5 (Zdc ps s i) (hP.below a4) e1) ?_
 rintro e f0 b7
 rcases b7 with ⟨c1,rfl,a1⟩|⟨c1,rfl,a1⟩
 ·have c2:Gn ps s=false:=by unfold Gn Lc;rw[←a5];exact c1
  refine xmk 9 fun _ _ _ _ zJ zQ zo zx zy zK=>Vq ps.length (V0 0) 1 8 ((List.replicate ps.length 0).map nv) zo zx zy Tryz.underlying28 (by kernel_rfl) rfl (by omega) (by omega) (Ee _) fun d8 e9 b2=>?_
  have a8:=bln a4 a1
  have e7:=b2.ge a8
  have d2:=Zb (Zb a2 a6) a1
  have c7:=Zz d2 b2
  have c9:=Zb a3 a1
  have c0:=Zz c9 b2
  refine zK _ _ ?_
  have c8:=bln a8 b2.below
  have e2:=Xf (size:=1) (n:=ps.length) b2.blk e7 (by simp) (by unfold maxLen;omega)
  refine xe 6 (.tuple #[.slice (S1 d8) ps.length ps.length,V0 2]) ?_
  have he:Yd ps s=2:=by unfold Yd;rw[if_pos hsl,if_neg (by rw[c2];decide)]
  exact⟨_,rfl,c8,_,_,by rw[he],by rw[Yp,if_neg (by rw[he];decide)];exact e2⟩
 have d0:Gn ps s=true:=by unfold Gn Lc;rw[←a5];exact c1
 refine xk 4 (show(((⟨(Zfx ps ((Jw s 0 (Jk ps i)).map fun n:Nat=>(n:Int)) ps.length).toArray⟩:ByteArray).toList==(⟨#[]⟩:ByteArray).toList):Bool)=false from putL_ne hps h0) ?_
 have d3:=bln a4 a1
 have d1:=Zb a3 a1
 refine xe 10 (.tuple #[.slice p5 i c5,V0 0]) ?_
 have he:Yd ps s=0:=by unfold Yd;rw[if_pos hsl,if_pos d0]
 subst a5
 exact⟨_,rfl,d3,_,_,by rw[he],by rw[Yp,if_pos he];exact d1⟩
theorem Sg(ps:List Gd)(s:Bl)(gl:O0)(cl:Nat)(w:World)(hps:Hf ps)(h0:0<ps.length)(hs:s.length≤100000)(hP:Sts Zbc w (.slice gl ps.length cl) ps) :
 C0 140 #[.slice gl ps.length cl,.string ⟨s.toArray⟩] w (Qi (fun w' r=>∃ p c,r=.tuple #[.slice p ps.length c,V0 (Yd ps s)]∧w'.ownsRow w.heap.size 3 1 (.slice p ps.length c) ps.length ((Yp ps s).map nv)) w):=by
 by_cases h:s.length=(Jk ps ps.length).sum
 ·exact Lz ps s gl cl w hps h0 hs hP h
 ·exact Mv ps s gl cl w hps h0 hs hP h
end Go.Proofs.YtgphgaehfdfjjaaGreatDoor
namespace Go.Proofs.YtgphgaehfdfjjaaGreatDoor
set_option maxHeartbeats 8000000
set_option maxRecDepth 100000
open Go.RowKit
set_option linter.unusedVariables false
section
variable {P:Program} {a:Act}
theorem Zc5(l:Bl)(b c:Nat):(ByteArray.mk l.toArray).extract b c=ByteArray.mk ((l.drop b).take (c-b)).toArray:=ByteArray.extract_mk l b c
theorem run_strH{o:Oper}{t:TypeId}{x y:Operand}{l:Bl}{k:Nat}{j:Int}{kj:IntKind}(ho:o.op=.slice t x none (some y) none)(hx:a.eval x=.string ⟨l.toArray⟩)(hy:a.eval y=.int kj j)(hj:j=(k:Int))(hk:k≤l.length)
 (ht:P.underlying t=some .string) (w:World):(execOp a.eval o).run P w=.ok (.value (.string ⟨(l.take k).toArray⟩)) w:=by
 subst hj
 have hs:((k:Int))≤((⟨l.toArray⟩:ByteArray).size:Int):=by simp[ByteArray.size];omega
 have h:=run_slice_string_h (P:=P) (w:=w) (t:=t) (s:=⟨l.toArray⟩) ht kj (k:Int) (by omega) hs
 rw[Zc5,List.drop_zero,Int.toNat_natCast,Nat.sub_zero] at h
 simp only[execOp,ho,hx,Option.map_some,Option.map_none,hy]
 simp[run_sliceAt_string,ht,h]
theorem run_strL{o:Oper}{t:TypeId}{x y:Operand}{l:Bl}{k:Nat}{j:Int}{kj:IntKind}(ho:o.op=.slice t x (some y) none none)(hx:a.eval x=.string ⟨l.toArray⟩)(hy:a.eval y=.int kj j)(hj:j=(k:Int))(hk:k≤l.length)
 (ht:P.underlying t=some .string) (w:World):(execOp a.eval o).run P w=.ok (.value (.string ⟨(l.drop k).toArray⟩)) w:=by
 subst hj
 have hs:((k:Int))≤((⟨l.toArray⟩:ByteArray).size:Int):=by simp[ByteArray.size];omega
 have h:=run_slice_string_l (P:=P) (w:=w) (t:=t) (s:=⟨l.toArray⟩) ht kj (k:Int) (by omega) hs
 rw[Zc5,Int.toNat_natCast,show(⟨l.toArray⟩:ByteArray).size=l.length by simp[ByteArray.size],List.take_of_length_le (by simp)] at h
 simp only[execOp,ho,hx,Option.map_some,Option.map_none,hy]
 simp[run_sliceAt_string,ht,h]
end
end Go.Proofs.YtgphgaehfdfjjaaGreatDoor
namespace Go.Proofs.YtgphgaehfdfjjaaGreatDoor
set_option maxHeartbeats 8000000
set_option maxRecDepth 100000
open Go.RowKit Go.Extern.Stop Go.Stop Go.Extern
set_option linter.unusedVariables false
attribute [local irreducible] wpList wpAnyH Code.wp Oper.wp Go
theorem Co(kind no:Int)(a:O0)(n c:Nat)(l:Bl)(w:World)(hn:l.length=n)(h:Bys w (.slice a n c) l):C0 74 #[.slice a n c,V0 kind,V0 no] w (OpenP kind no l w):=by
 subst hn;exact Fe kind no a c l w h
def Yh(l:Bl)(tree:Int):Int:=if Vd l=0 then(if tree=0∨Yx l=tree then 0 else 6) else Vd l
def Xa(l:Bl)(no tree:Int):Int:=if inE l 2 no=0 then Yh (inB l no) tree else inE l 2 no
def Node1P(l:Bl)(tree:Int)(w:World)(e:Ending)(w':World):Prop :=
 (Yh l tree≠0∧∃ a b kp n1 kc vp n2 vc,e=.returned (.tuple #[.agg #[V0 a,.bool b,.slice kp n1 kc,.slice vp n2 vc],V0 (Yh l tree)])∧B3 w w') ∨
 (Yh l tree=0∧∃ kp kc vp vc,e=.returned (.tuple #[.agg #[V0 (Yx l),.bool (Qf l),.slice kp (Xb l) kc,.slice vp (Xb l) vc],V0 0])∧B3 w w' ∧
  w'.ownsRow w.heap.size 3 1 (.slice kp (Xb l) kc) (Xb l) ((Gb l (Xb l)).map V0)∧w'.ownsRow w.heap.size 9 1 (.slice vp (Xb l) vc) (Xb l) ((Ho l (Xb l)).map sv))
def Ai(l:Bl)(no tree:Int)(w:World)(e:Ending)(w':World):Prop :=
 (Xa l no tree≠0∧∃ b,e=.returned (.tuple #[.agg #[V0 0,.bool false,S0,S0],.iface 215 (P0 b)])∧B3 w w'∧Vz w' [some no] (some (Xa l no tree)) (.iface 215 (P0 b))) ∨
 (Xa l no tree=0∧∃ kp kc vp vc,e=.returned (.tuple #[.agg #[V0 (Yx (inB l no)),.bool (Qf (inB l no)),.slice kp (Xb (inB l no)) kc,.slice vp (Xb (inB l no)) vc],.nilIface])∧B3 w w' ∧
  w'.ownsRow w.heap.size 3 1 (.slice kp (Xb (inB l no)) kc) (Xb (inB l no)) ((Gb (inB l no) (Xb (inB l no))).map V0)∧w'.ownsRow w.heap.size 9 1 (.slice vp (Xb (inB l no)) vc) (Xb (inB l no)) ((Ho (inB l no) (Xb (inB l no))).map sv))
theorem node_1(tree:Int)(bt:Nat)(a:O0)(c:Nat)(l:Bl)(w:World)(kt:Blk w bt [V0 tree] 3)(hl:l.length=244)(h:Bys w (.slice a 244 c) l) :
 C0 35 #[.slice a 244 c,P0 bt] w (Node1P l tree w):=by
 refine zin 27 Tryz.func35 ?_
 refine xa 2 [V0 0,.bool false,S0,S0] 38 fun b1 W1 n1=>?_
 refine xc 6 (args:=#[.slice a 244 c]) (Zde a c l _ hl (h.below n1.below)) ?_
 rintro e W2 c8
 rcases c8 with ⟨hz,rfl,a4⟩|⟨hz,kp,kc,vp,vc,rfl,a4,hk,c5⟩
 ·refine xa 3 [V0 0,.bool false,S0,S0] 38 fun b3 W3 n3=>?_
  have k1:=n1.blk.below a4
  have b0:=n3.ne k1
  have a7:=bln n1.below a4
  have g3:=n3.ge a7
  refine xsv 0 n3.blk [V0 0,.bool false,S0,S0] fun W4 u4 k4=>?_
  refine xgk 9 [13,14] (show(((Vd l)==(0:Int)):Bool)=false from beq_false_of_ne hz) ?_
  refine xlv 16 k4.rp ?_
  have b6:=u4.blk (k1.below n3.below) (Ne.symm (Ne.symm b0))
  refine xsv 1 b6 [V0 0,.bool false,S0,S0] fun W6 u6 k6=>?_
  have g1:=n1.ge (B4 w)
  have c4:=u6.below (u4.below (bln a7 n3.below) g3) g1
  exact xec 4 k6 (.tuple #[.agg #[V0 0,.bool false,S0,S0],V0 (Vd l)]) (.inl ⟨by unfold Yh;rw[if_neg hz];exact hz,_,_,_,_,_,_,_,_,by unfold Yh;rw[if_neg hz],c4⟩)
 refine xa 3 [V0 0,.bool false,S0,S0] 38 fun b7 W7 n7=>?_
 have k1:=n1.blk.below a4
 have a0:=n7.ne k1
 have a1:=bln n1.below a4
 have g7:=n7.ge a1
 refine xsv 0 n7.blk [V0 (Yx l),.bool (Qf l),.slice kp (Xb l) kc,.slice vp (Xb l) vc] fun W8 u8 k8=>?_
 have a8:=u8.blkT (((kt.below n1.below).below a4).below n7.below) n7.blk (by decide)
 refine xb 9 0 a8 ?_
 refine xg 3 [16,17,18] (tree != (0:Int)) (fun a5=>?_) (fun a5=>?_)
 ·have a5:=Fq a5
  refine xb 1 0 k8 ?_
  refine xb 0 0 a8 ?_
  refine xin 4 (Yx l) tree (fun c0=>?_) (fun c0=>?_)
  ·refine xlv 2 k8.rp ?_
   have b9:=u8.blk (k1.below n7.below) (Ne.symm (Ne.symm a0))
   refine xsv 0 b9 [V0 (Yx l),.bool (Qf l),.slice kp (Xb l) kc,.slice vp (Xb l) vc] fun d2 d0 c7=>?_
   have g1:=n1.ge (B4 w)
   have c3:=d0.below (u8.below (bln a1 n7.below) g7) g1
   exact xec 5 c7 (.tuple #[.agg #[V0 (Yx l),.bool (Qf l),.slice kp (Xb l) kc,.slice vp (Xb l) vc],V0 6]) (.inl ⟨by unfold Yh;rw[if_pos hz,if_neg (by omega)];decide,_,_,_,_,_,_,_,_,by unfold Yh;rw[if_pos hz,if_neg (by omega)],c3⟩)
  refine xlv 4 k8.rp ?_
  have a3:=u8.blk (k1.below n7.below) (Ne.symm (Ne.symm a0))
  refine xsv 1 a3 [V0 (Yx l),.bool (Qf l),.slice kp (Xb l) kc,.slice vp (Xb l) vc] fun d3 b5 c6=>?_
  have g1:=n1.ge (B4 w)
  have b2:=b5.below (u8.below (bln a1 n7.below) g7) g1
  have c2:=b5.own2 (u8.own2 (Zb (Zd hk n1.below.size) n7.below) n7.blk (by decide)) a3 (by decide)
  have a6:=b5.own2 (u8.own2 (Zb (Zd c5 n1.below.size) n7.below) n7.blk (by decide)) a3 (by decide)
  exact xec 4 c6 (.tuple #[.agg #[V0 (Yx l),.bool (Qf l),.slice kp (Xb l) kc,.slice vp (Xb l) vc],V0 0]) (.inr ⟨by unfold Yh;rw[if_pos hz,if_pos (by omega)],_,_,_,_,rfl,b2,c2,a6⟩)
 have a5:=Qh a5
 refine xlv 12 k8.rp ?_
 have a2:=u8.blk (k1.below n7.below) (Ne.symm (Ne.symm a0))
 refine xsv 1 a2 [V0 (Yx l),.bool (Qf l),.slice kp (Xb l) kc,.slice vp (Xb l) vc] fun d1 b8 c9=>?_
 have g1:=n1.ge (B4 w)
 have c1:=b8.below (u8.below (bln a1 n7.below) g7) g1
 have b4:=b8.own2 (u8.own2 (Zb (Zd hk n1.below.size) n7.below) n7.blk (by decide)) a2 (by decide)
 have a9:=b8.own2 (u8.own2 (Zb (Zd c5 n1.below.size) n7.below) n7.blk (by decide)) a2 (by decide)
 exact xec 4 c9 (.tuple #[.agg #[V0 (Yx l),.bool (Qf l),.slice kp (Xb l) kc,.slice vp (Xb l) vc],V0 0]) (.inr ⟨by unfold Yh;rw[if_pos hz,if_pos (by omega)],_,_,_,_,rfl,c1,b4,a9⟩)
theorem readNode(B b:Nat)(p:O0)(n c:Nat)(l:Bl)(no tree:Int)(w:World)(hI:ImgR B b p n c l w)(bt:Nat)(kt:Blk w bt [V0 tree] 3) :
 C0 34 #[P0 b,V0 no,V0 2,.func (.func 35) #[] #[P0 bt]] w (Ai l no tree w):=by
 refine zin 56 Tryz.func34 ?_
 refine xa 2 [V0 0,.bool false,S0,S0] 38 fun b1 W1 n1=>?_
 refine xa 5 [V0 0,.bool false,S0,S0] 38 fun b2 W2 n2=>?_
 have h8:=n2.ne n1.blk
 have hB:=bln n1.below n2.below
 refine xc 6 (args:=#[P0 b,V0 no]) (Ph B b p n c l no _ (hI.below hB)) ?_
 rintro e W3 j7
 rcases j7 with ⟨ho,vr,rfl,a0⟩|⟨j,hk,hj,p2,c2,rfl,a0,ho⟩
 ·refine xd 16 (.t w.heap.size [38]) ?_
  refine xm2 (.b [1,2,3]) 0 4 ?_ ?_
  ·have k2:=(n2.blk.below a0).below (Za W3)
   refine xlv 0 k2.rp ?_
   refine yc (.o [] 4) (args:=#[V0 no,.iface 33 (V0 3)]) (.t w.heap.size [38]) (Xk no 3 _) ?_
   rintro _ W4 ⟨_,rfl,f3,e9⟩
   refine⟨(SF.of_below _ f3),?_⟩
   rw[if_neg (by decide),if_neg (by decide)] at e9
   have i3:=e9
   obtain⟨i8,l2,rfl,_,_⟩:=i3
   have b9:=(((n1.blk.below n2.below).below a0).below (Za W3)).below f3
   have g1:=n1.ge (B4 w)
   refine ysv (.o [] 5) b9 [V0 0,.bool false,S0,S0] (.t w.heap.size [38]) fun W5 u5 k5=>⟨(Xj u5 b9 g1 (by decide)),?_⟩
   have g2:=u5.below (bln (bln (bln hB a0) (Za W3)) f3) g1
   have e4:=e9.upd u5 b9 (by decide)
   refine xec (.r [6] 4) k5 (.tuple #[.agg #[V0 0,.bool false,S0,S0],.iface 215 (P0 i8)]) ?_
   have he:Xa l no tree=3:=by unfold Xa;rw[Dl hI.len ho];rfl
   exact .inl ⟨by rw[he];decide,_,rfl,g2,by rw[he];exact e4⟩
  refine yc 0 (args:=#[V0 no,.iface 33 (V0 3)]) (.t w.heap.size [38]) (Xk no 3 _) ?_
  rintro _ W6 ⟨_,rfl,e5,h1⟩
  refine⟨(SF.of_below _ e5),?_⟩
  rw[if_neg (by decide),if_neg (by decide)] at h1
  have i9:=h1
  obtain⟨k3,m7,rfl,_,_⟩:=i9
  have k2:=((n2.blk.below a0).below (Za W3)).below e5
  refine xlv (.o [] 0) k2.rp ?_
  have c0:=(((n1.blk.below n2.below).below a0).below (Za W3)).below e5
  have g1:=n1.ge (B4 w)
  refine ysv (.o [] 5) c0 [V0 0,.bool false,S0,S0] (.t w.heap.size [38]) fun W7 u7 k7=>⟨(Xj u7 c0 g1 (by decide)),?_⟩
  have f7:=u7.below (bln (bln (bln hB a0) (Za W3)) e5) g1
  have d6:=h1.upd u7 c0 (by decide)
  refine xec (.r [6] 4) k7 (.tuple #[.agg #[V0 0,.bool false,S0,S0],.iface 215 (P0 k3)]) ?_
  have he:Xa l no tree=3:=by unfold Xa;rw[Dl hI.len ho];rfl
  exact .inl ⟨by rw[he];decide,_,rfl,f7,by rw[he];exact d6⟩
 have j5:=(bln n1.below n2.below).size
 have j8:j<l.length/256:=by rw[hI.len];exact hj
 have i1:=Qu j8
 have e2:=Ri (l:=l) (kind:=2) hI.len hk hj
 have f4:=Zd ho j5
 refine xc 22 (args:=#[.slice p2 256 c2,V0 2,V0 no]) (Co 2 no p2 256 c2 (Kd l j) _ i1 (Yl (Ze f4) i1)) ?_
 rintro e W8 j4
 rcases j4 with ⟨hs,rfl,a2⟩|⟨hs,p3,c3,rfl,a2,h3⟩
 ·refine xk 14 (show(((Xz 2 no (Kd l j)) != (0:Int)):Bool)=true from bne_iff_ne.2 hs) ?_
  refine xd 1 (.t w.heap.size [38]) ?_
  refine xm2 (.b [1,2,3]) 0 4 ?_ ?_
  ·have k2:=((n2.blk.below a0).below a2).below (Za W8)
   refine xlv 0 k2.rp ?_
   refine yc (.o [] 4) (args:=#[V0 no,.iface 33 (V0 (Xz 2 no (Kd l j)))]) (.t w.heap.size [38]) (Xk no (Xz 2 no (Kd l j)) _) ?_
   rintro _ W9 ⟨_,rfl,h0,f6⟩
   refine⟨(SF.of_below _ h0),?_⟩
   rw[if_neg hs,if_neg hs] at f6
   have i6:=f6
   obtain⟨i7,l0,rfl,_,_⟩:=i6
   have b3:=((((n1.blk.below n2.below).below a0).below a2).below (Za W8)).below h0
   have g1:=n1.ge (B4 w)
   refine ysv (.o [] 5) b3 [V0 0,.bool false,S0,S0] (.t w.heap.size [38]) fun k9 g3 i2=>⟨(Xj g3 b3 g1 (by decide)),?_⟩
   have h4:=g3.below (bln (bln (bln (bln hB a0) a2) (Za W8)) h0) g1
   have d9:=f6.upd g3 b3 (by decide)
   refine xec (.r [6] 4) i2 (.tuple #[.agg #[V0 0,.bool false,S0,S0],.iface 215 (P0 i7)]) ?_
   have he:Xa l no tree=Xz 2 no (Kd l j):=by unfold Xa;rw[e2,if_neg hs]
   exact .inl ⟨by rw[he];exact hs,_,rfl,h4,by rw[he];exact d9⟩
  refine yc 0 (args:=#[V0 no,.iface 33 (V0 (Xz 2 no (Kd l j)))]) (.t w.heap.size [38]) (Xk no (Xz 2 no (Kd l j)) _) ?_
  rintro _ m0 ⟨_,rfl,a9,d0⟩
  refine⟨(SF.of_below _ a9),?_⟩
  rw[if_neg hs,if_neg hs] at d0
  have h7:=d0
  obtain⟨g8,i5,rfl,_,_⟩:=h7
  have k2:=(((n2.blk.below a0).below a2).below (Za W8)).below a9
  refine xlv (.o [] 0) k2.rp ?_
  have c7:=((((n1.blk.below n2.below).below a0).below a2).below (Za W8)).below a9
  have g1:=n1.ge (B4 w)
  refine ysv (.o [] 5) c7 [V0 0,.bool false,S0,S0] (.t w.heap.size [38]) fun l4 f0 k4=>⟨(Xj f0 c7 g1 (by decide)),?_⟩
  have e8:=f0.below (bln (bln (bln (bln hB a0) a2) (Za W8)) a9) g1
  have b7:=d0.upd f0 c7 (by decide)
  refine xec (.r [6] 4) k4 (.tuple #[.agg #[V0 0,.bool false,S0,S0],.iface 215 (P0 g8)]) ?_
  have he:Xa l no tree=Xz 2 no (Kd l j):=by unfold Xa;rw[e2,if_neg hs]
  exact .inl ⟨by rw[he];exact hs,_,rfl,e8,by rw[he];exact b7⟩
 have j0:=(bln hB a0).size
 have e0:=Zd h3 j0
 have k1:((Kd l j).drop 8).take 244=inB l no:=(Rd hk).symm
 have i0:=Sy hI.len hk hj
 rw[k1] at e0
 have b8:=bln (bln hB a0) a2
 refine xc 21 (args:=#[.slice p3 244 c3,P0 bt]) (node_1 tree bt p3 c3 (inB l no) _ (kt.below b8) i0 (Yl (Ze e0) i0)) ?_
 rintro e l5 f2
 rcases f2 with ⟨hz,a5,b5,kp,m1,kc,vp,m2,vc,rfl,a1⟩|⟨hz,kp,kc,vp,vc,rfl,a1,hk,j6⟩
 ·refine xa 3 [V0 0,.bool false,S0,S0] 38 fun l1 l9 a7=>?_
  have c5:=(((n1.blk.below n2.below).below a0).below a2).below a1
  have a3:=a7.ne c5
  have k2:=((n2.blk.below a0).below a2).below a1
  have a4:=a7.ne k2
  have c6:=bln b8 a1
  have h9:=a7.ge c6
  refine xsv 0 a7.blk [V0 a5,.bool b5,.slice kp m1 kc,.slice vp m2 vc] fun d3 d4 l7=>?_
  refine xk 10 (show(((Yh (inB l no) tree) != (0:Int)):Bool)=true from bne_iff_ne.2 hz) ?_
  refine xd 1 (.t w.heap.size [38]) ?_
  refine xm2 (.b [1,2,3]) 0 4 ?_ ?_
  ·have h2:=(d4.blk (k2.below a7.below) (Ne.symm (Ne.symm a4))).below (Za d3)
   refine xlv 0 h2.rp ?_
   refine yc (.o [] 4) (args:=#[V0 no,.iface 33 (V0 (Yh (inB l no) tree))]) (.t w.heap.size [38]) (Xk no (Yh (inB l no) tree) _) ?_
   rintro _ m6 ⟨_,rfl,c8,d2⟩
   refine⟨(SF.of_below _ c8),?_⟩
   rw[if_neg hz,if_neg hz] at d2
   have g6:=d2
   obtain⟨f1,j1,rfl,_,_⟩:=g6
   have d1:=((d4.blk (c5.below a7.below) (Ne.symm (Ne.symm a3))).below (Za d3)).below c8
   have g1:=n1.ge (B4 w)
   refine ysv (.o [] 5) d1 [V0 0,.bool false,S0,S0] (.t w.heap.size [38]) fun k8 g9 j3=>⟨(Xj g9 d1 g1 (by decide)),?_⟩
   have g5:=g9.below (bln (bln (d4.below (bln c6 a7.below) h9) (Za d3)) c8) g1
   have c4:=d2.upd g9 d1 (by decide)
   refine xec (.r [6] 4) j3 (.tuple #[.agg #[V0 0,.bool false,S0,S0],.iface 215 (P0 f1)]) ?_
   have he:Xa l no tree=Yh (inB l no) tree:=by unfold Xa;rw[e2,if_pos hs]
   exact .inl ⟨by rw[he];exact hz,_,rfl,g5,by rw[he];exact c4⟩
  refine yc 0 (args:=#[V0 no,.iface 33 (V0 (Yh (inB l no) tree))]) (.t w.heap.size [38]) (Xk no (Yh (inB l no) tree) _) ?_
  rintro _ m4 ⟨_,rfl,a8,b6⟩
  refine⟨(SF.of_below _ a8),?_⟩
  rw[if_neg hz,if_neg hz] at b6
  have f8:=b6
  obtain⟨e7,k6,rfl,_,_⟩:=f8
  have h6:=((d4.blk (k2.below a7.below) (Ne.symm (Ne.symm a4))).below (Za d3)).below a8
  refine xlv (.o [] 0) h6.rp ?_
  have c9:=((d4.blk (c5.below a7.below) (Ne.symm (Ne.symm a3))).below (Za d3)).below a8
  have g1:=n1.ge (B4 w)
  refine ysv (.o [] 5) c9 [V0 0,.bool false,S0,S0] (.t w.heap.size [38]) fun l8 h5 j9=>⟨(Xj h5 c9 g1 (by decide)),?_⟩
  have g7:=h5.below (bln (bln (d4.below (bln c6 a7.below) h9) (Za d3)) a8) g1
  have c1:=b6.upd h5 c9 (by decide)
  refine xec (.r [6] 4) j9 (.tuple #[.agg #[V0 0,.bool false,S0,S0],.iface 215 (P0 e7)]) ?_
  have he:Xa l no tree=Yh (inB l no) tree:=by unfold Xa;rw[e2,if_pos hs]
  exact .inl ⟨by rw[he];exact hz,_,rfl,g7,by rw[he];exact c1⟩
 have e3:=(bln (bln hB a0) a2).size
 refine xa 3 [V0 0,.bool false,S0,S0] 38 fun l6 l3 a6=>?_
 have d8:=(((n1.blk.below n2.below).below a0).below a2).below a1
 have b4:=a6.ne d8
 have k2:=((n2.blk.below a0).below a2).below a1
 have f9:=a6.ne k2
 have e1:=bln b8 a1
 have k0:=a6.ge e1
 refine xsv 0 a6.blk [V0 (Yx (inB l no)),.bool (Qf (inB l no)),.slice kp (Xb (inB l no)) kc,.slice vp (Xb (inB l no)) vc] fun m3 e6 i4=>?_
 refine xlv 15 i4.rp ?_
 have b0:=e6.blk (d8.below a6.below) (Ne.symm (Ne.symm b4))
 refine xsv 0 b0 [V0 (Yx (inB l no)),.bool (Qf (inB l no)),.slice kp (Xb (inB l no)) kc,.slice vp (Xb (inB l no)) vc] fun m5 g0 j2=>?_
 have g1:=n1.ge (B4 w)
 have d5:=g0.below (e6.below (bln e1 a6.below) k0) g1
 have f5:=g0.own2 (e6.own2 (Zb (Zd hk e3) a6.below) a6.blk (by decide)) b0 (by decide)
 have d7:=g0.own2 (e6.own2 (Zb (Zd j6 e3) a6.below) a6.blk (by decide)) b0 (by decide)
 exact xec 4 j2 (.tuple #[.agg #[V0 (Yx (inB l no)),.bool (Qf (inB l no)),.slice kp (Xb (inB l no)) kc,.slice vp (Xb (inB l no)) vc],.nilIface]) (.inr ⟨by unfold Xa;rw[e2,if_pos hs,hz],_,_,_,_,rfl,d5,f5,d7⟩)
theorem Bh(B b:Nat)(p:O0)(n c:Nat)(l:Bl)(no tree:Int)(w:World)(hI:ImgR B b p n c l w) :
 C0 10 #[P0 b,V0 no,V0 tree] w (Ai l no tree w):=by
 refine zin 14 Tryz.func10 ?_
 refine xa 2 [V0 tree] 3 fun b1 W1 n1=>?_
 refine xa 0 [V0 0,.bool false,S0,S0] 38 fun b2 W2 n2=>?_
 have hB:=bln n1.below n2.below
 have k1:=n1.blk.below n2.below
 refine xc 8 (args:=#[P0 b,V0 no,V0 2,.func (.func 35) #[] #[P0 b1]]) (readNode B b p n c l no tree _ (hI.below hB) b1 k1) ?_
 rintro e W3 a7
 rcases a7 with ⟨he,bf,rfl,a0,hv⟩|⟨he,kp,kc,vp,vc,rfl,a0,hk,a8⟩
 ·have k2:=n2.blk.below a0
  refine xsv 2 k2 [V0 0,.bool false,S0,S0] fun W4 u4 k4=>?_
  have g2:=n2.ge n1.below
  have a2:=u4.below (bln hB a0) g2
  have a4:=hv.upd u4 k2 (by decide)
  exact xec 4 k4 (.tuple #[.agg #[V0 0,.bool false,S0,S0],.iface 215 (P0 bf)]) (.inl ⟨he,_,rfl,a2,a4⟩)
 have a6:=(bln n1.below n2.below).size
 have k2:=n2.blk.below a0
 refine xsv 2 k2 [V0 (Yx (inB l no)),.bool (Qf (inB l no)),.slice kp (Xb (inB l no)) kc,.slice vp (Xb (inB l no)) vc] fun W5 u5 k5=>?_
 have g2:=n2.ge n1.below
 have a5:=u5.below (bln hB a0) g2
 have a3:=u5.own2 (Zd hk a6) k2 (by decide)
 have a1:=u5.own2 (Zd a8 a6) k2 (by decide)
 exact xec 4 k5 (.tuple #[.agg #[V0 (Yx (inB l no)),.bool (Qf (inB l no)),.slice kp (Xb (inB l no)) kc,.slice vp (Xb (inB l no)) vc],.nilIface]) (.inr ⟨he,_,_,_,_,rfl,a5,a3,a1⟩)
end Go.Proofs.YtgphgaehfdfjjaaGreatDoor
