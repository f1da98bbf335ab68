/- node.Width and node.Max at the five trees; package tall: over, Levels, Nodes, Sizes. -/
import Derived.Lib.BufferWrite
import Derived.Laws.IdiomStrings
import Derived.Test.YtgphgaehfdfjjaaGreatRows
import Derived.RangeFuncNested
import Derived.RangeFuncBound
import Derived.RangeFuncCalls
import Derived.RangeFuncLeaves
import Derived.Shelf.Abstract
import Derived.Shelf.RegionOpen
import Derived.OwnWalkIn
import Derived.TacticsInMore
import Derived.LoopNIn
import Derived.LoopIn
import Derived.Test.YtgphgaehfdfjjaaGreatMg1
namespace Go.Proofs.YtgphgaehfdfjjaaGreat
set_option maxHeartbeats 8000000
set_option maxRecDepth 100000
open Go.RowKit Go.Extern.Stop Go.Stop Go.Extern
set_option linter.unusedVariables false
attribute [local irreducible] wpList wpAnyH Code.wp Oper.wp Go
theorem Pm(w:World) :
 C0 46 #[V0 1,.bool true] w (Ret (V0 4) w):=by
 refine zin 31 Tryz.func46 ?_
 exact xe 94 (V0 4) ⟨rfl,(B3 w)⟩
theorem Zaz(w:World) :
 C0 50 #[V0 1,.bool true] w (Ret (V0 18) w):=by
 refine zin 16 Tryz.func50 ?_
 refine xr 9 (args:=#[V0 1,.bool true]) (Pm _) fun W1 a0=>?_
 exact xe 24 (V0 18) ⟨rfl,a0⟩
theorem Pu(w:World) :
 C0 46 #[V0 1,.bool false] w (Ret (V0 4) w):=by
 refine zin 31 Tryz.func46 ?_
 exact xe 41 (V0 4) ⟨rfl,(B3 w)⟩
theorem Za9(w:World) :
 C0 50 #[V0 1,.bool false] w (Ret (V0 18) w):=by
 refine zin 16 Tryz.func50 ?_
 refine xr 9 (args:=#[V0 1,.bool false]) (Pu _) fun W1 a0=>?_
 exact xe 24 (V0 18) ⟨rfl,a0⟩
theorem Nd(w:World) :
 C0 46 #[V0 2,.bool true] w (Ret (V0 8) w):=by
 refine zin 31 Tryz.func46 ?_
 exact xe 101 (V0 8) ⟨rfl,(B3 w)⟩
theorem Zbf(w:World) :
 C0 50 #[V0 2,.bool true] w (Ret (V0 12) w):=by
 refine zin 16 Tryz.func50 ?_
 refine xr 9 (args:=#[V0 2,.bool true]) (Nd _) fun W1 a0=>?_
 exact xe 24 (V0 12) ⟨rfl,a0⟩
theorem Nf(w:World) :
 C0 46 #[V0 2,.bool false] w (Ret (V0 4) w):=by
 refine zin 31 Tryz.func46 ?_
 exact xe 41 (V0 4) ⟨rfl,(B3 w)⟩
theorem Zch(w:World) :
 C0 50 #[V0 2,.bool false] w (Ret (V0 18) w):=by
 refine zin 16 Tryz.func50 ?_
 refine xr 9 (args:=#[V0 2,.bool false]) (Nf _) fun W1 a0=>?_
 exact xe 24 (V0 18) ⟨rfl,a0⟩
theorem Pf(w:World) :
 C0 46 #[V0 3,.bool true] w (Ret (V0 24) w):=by
 refine zin 31 Tryz.func46 ?_
 exact xe 93 (V0 24) ⟨rfl,(B3 w)⟩
theorem Zce(w:World) :
 C0 50 #[V0 3,.bool true] w (Ret (V0 6) w):=by
 refine zin 16 Tryz.func50 ?_
 refine xr 9 (args:=#[V0 3,.bool true]) (Pf _) fun W1 a0=>?_
 exact xe 24 (V0 6) ⟨rfl,a0⟩
theorem Pr(w:World) :
 C0 46 #[V0 3,.bool false] w (Ret (V0 4) w):=by
 refine zin 31 Tryz.func46 ?_
 exact xe 41 (V0 4) ⟨rfl,(B3 w)⟩
theorem Zcr(w:World) :
 C0 50 #[V0 3,.bool false] w (Ret (V0 18) w):=by
 refine zin 16 Tryz.func50 ?_
 refine xr 9 (args:=#[V0 3,.bool false]) (Pr _) fun W1 a0=>?_
 exact xe 24 (V0 18) ⟨rfl,a0⟩
theorem Ph(w:World) :
 C0 46 #[V0 4,.bool true] w (Ret (V0 16) w):=by
 refine zin 31 Tryz.func46 ?_
 exact xe 98 (V0 16) ⟨rfl,(B3 w)⟩
theorem Zbx(w:World) :
 C0 50 #[V0 4,.bool true] w (Ret (V0 9) w):=by
 refine zin 16 Tryz.func50 ?_
 refine xr 9 (args:=#[V0 4,.bool true]) (Ph _) fun W1 a0=>?_
 exact xe 24 (V0 9) ⟨rfl,a0⟩
theorem Po(w:World) :
 C0 46 #[V0 4,.bool false] w (Ret (V0 4) w):=by
 refine zin 31 Tryz.func46 ?_
 exact xe 41 (V0 4) ⟨rfl,(B3 w)⟩
theorem Zbv(w:World) :
 C0 50 #[V0 4,.bool false] w (Ret (V0 18) w):=by
 refine zin 16 Tryz.func50 ?_
 refine xr 9 (args:=#[V0 4,.bool false]) (Po _) fun W1 a0=>?_
 exact xe 24 (V0 18) ⟨rfl,a0⟩
theorem Pv(w:World) :
 C0 46 #[V0 5,.bool true] w (Ret (V0 4) w):=by
 refine zin 31 Tryz.func46 ?_
 exact xe 94 (V0 4) ⟨rfl,(B3 w)⟩
theorem Zbj(w:World) :
 C0 50 #[V0 5,.bool true] w (Ret (V0 18) w):=by
 refine zin 16 Tryz.func50 ?_
 refine xr 9 (args:=#[V0 5,.bool true]) (Pv _) fun W1 a0=>?_
 exact xe 24 (V0 18) ⟨rfl,a0⟩
theorem Pi(w:World) :
 C0 46 #[V0 5,.bool false] w (Ret (V0 4) w):=by
 refine zin 31 Tryz.func46 ?_
 exact xe 41 (V0 4) ⟨rfl,(B3 w)⟩
theorem Za5(w:World) :
 C0 50 #[V0 5,.bool false] w (Ret (V0 18) w):=by
 refine zin 16 Tryz.func50 ?_
 refine xr 9 (args:=#[V0 5,.bool false]) (Pi _) fun W1 a0=>?_
 exact xe 24 (V0 18) ⟨rfl,a0⟩
def Jv(t:Int)(leaf:Bool):Nat:=if leaf=false then 4 else if t=2 then 8 else if t=3 then 24 else if t=4 then 16 else 4
def Qq(t:Int)(leaf:Bool):Nat:=if leaf=false then 18 else if t=2 then 12 else if t=3 then 6 else if t=4 then 9 else 18
theorem Dj(t:Int)(leaf:Bool)(h1:1≤t)(h2:t≤5)(w:World):C0 46 #[V0 t,.bool leaf] w (Ret (V0 (Jv t leaf:Int)) w):=by
 obtain rfl|rfl|rfl|rfl|rfl:t=1∨t=2∨t=3∨t=4∨t=5:=by omega
 all_goals cases leaf
 ·exact Pu w
 ·exact Pm w
 ·exact Nf w
 ·exact Nd w
 ·exact Pr w
 ·exact Pf w
 ·exact Po w
 ·exact Ph w
 ·exact Pi w
 ·exact Pv w
theorem Nt(t:Int)(leaf:Bool)(h1:1≤t)(h2:t≤5)(w:World):C0 50 #[V0 t,.bool leaf] w (Ret (V0 (Qq t leaf:Int)) w):=by
 obtain rfl|rfl|rfl|rfl|rfl:t=1∨t=2∨t=3∨t=4∨t=5:=by omega
 all_goals cases leaf
 ·exact Za9 w
 ·exact Zaz w
 ·exact Zch w
 ·exact Zbf w
 ·exact Zcr w
 ·exact Zce w
 ·exact Zbv w
 ·exact Zbx w
 ·exact Za5 w
 ·exact Zbj w
theorem Xv(t:Int)(leaf:Bool):1≤Qq t leaf∧Qq t leaf≤18:=by
 unfold Qq;repeat' split
 all_goals decide
theorem run_quo{P:Program}{a:Act}{o:Oper}{t:TypeId}{x y:Operand}{t2:TypeId}{p q r:Int}{k:IntKind}(ho:o.op=.binOp .quo t x y t2)(hx:a.eval x=.int k p)(hy:a.eval y=.int k q)(hq:q≠0)(hr:k.wrap (Int.tdiv p q)=r)(w:World) :
 (execOp a.eval o).run P w=.ok (.value (.int k r)) w:=by
 subst hr
 have hb:(binOp .quo t (.int k p) (.int k q)).run P w=.ok (.int k (k.wrap (p.tdiv q))) w:=by
  simp[binOp,Op.intDiv,hq]
 have hg:(eqGuard .quo t x y (.int k p) (.int k q)).run P w=.ok () w:=rfl
 simp only[execOp,ho,hx,hy,Sem.run_bind,hg,Result.andThen_ok,hb]
 rfl
def ovN (n m:Nat):Nat:=max 1 ((n+m-1)/m)
theorem max_cast(a b:Nat):(if(b:Int)>(a:Int) then(b:Int) else(a:Int))=((max a b:Nat):Int):=by split<;>omega
theorem Yd(n m:Nat):1≤ovN n m:=by unfold ovN;omega
theorem Rz(n m:Nat)(hm:1≤m):ovN n m≤n+1:=by
 have:(n+m-1)/m≤n:=by
  rw[Nat.div_le_iff_le_mul_add_pred (by omega)]
  have:=Nat.le_mul_of_pos_left n hm
  omega
 unfold ovN;omega
theorem Zf9{x:Nat}(h:2≤x):ovN x 18≤x/2:=by unfold ovN;omega
theorem Lc(n m:Nat)(w:World)(hn:n≤1000000)(hm:1≤m)(hm2:m≤1000000) :
 C0 69 #[V0 (n:Int),V0 (m:Int)] w (Ret (V0 (ovN n m:Int)) w):=by
 refine zin 12 Tryz.func69 ?_
 refine xwm 9 ((n:Int)+(m:Int)) (↑(n+m):Int) ?_
 refine xwm 0 ((↑(n+m):Int)-1) (↑((n+m)-1):Int) ?_
 refine xbo 1 (t:=3) (t2:=3) (fun _ _ _ _ zo zx zy V hV=>run_quo (r:=(↑((n+m-1)/m):Int)) zo zx zy (by omega) (Ac (n+m-1) m (by omega) (by omega)) V) ?_
 refine xq 0 (congrArg V0 (show(if(↑((n+m-1)/m):Int)>(1:Int) then(↑((n+m-1)/m):Int) else(1:Int):Int)=(↑(ovN n m):Int) from max_cast 1 ((n+m-1)/m))) ?_
 exact xe 4 (V0 (↑(ovN n m):Int)) ⟨rfl,(B3 w)⟩
def lenOf:Value→Nat
 | .slice _ n _=>n
 | _=>0
def nv (n:Nat):Value:=V0 (n:Int)
def Kx(x:Nat):List Nat:=if h:x≤1 then [x] else x::Kx (ovN x 18)
termination_by x
decreasing_by have:=Zf9 (x:=x) (by omega);omega
theorem Vk{x:Nat}(h:x≤1):Kx x=[x]:=by rw[Kx];simp[h]
theorem Yz{x:Nat}(h:¬ x≤1):Kx x=x::Kx (ovN x 18):=by rw[Kx];simp[h]
theorem levs_sum{x:Nat}(h:1≤x):(Kx x).sum≤2*x:=by
 induction x using Nat.strongRecOn with
 | _ x ih =>
  by_cases h1:x≤1
  ·rw[Vk h1];simp;omega
  ·rw[Yz h1,List.sum_cons]
   have h2:=Zf9 (x:=x) (by omega)
   have:=ih (ovN x 18) (by omega) (Yd _ _)
   omega
theorem levs_len{x:Nat}(h:1≤x):(Kx x).length≤x:=by
 induction x using Nat.strongRecOn with
 | _ x ih =>
  by_cases h1:x≤1
  ·rw[Vk h1];simpa using h
  ·rw[Yz h1,List.length_cons]
   have h2:=Zf9 (x:=x) (by omega)
   have:=ih (ovN x 18) (by omega) (Yd _ _)
   omega
theorem Zu{w:World}{b:O0}{n c:Nat}{l:List Nat}(h:Sl w (.slice b n c) n (l.map nv))(hl:l.length=n){k:Nat}(hk:k<n):b.isSome=true∧w.cell? (Xa b (k*1))=some (V0 ((l.getD k 0:Nat):Int)):=by
 have e:l.map nv=(l.map fun x:Nat=>(x:Int)).map V0:=by simp[nv]
 rw[e] at h
 have:=IntsN.elem h (by simpa using hl) hk
 rw[show(l.map fun x:Nat=>(x:Int)).getD k 0=((l.getD k 0:Nat):Int) by simp[List.getD,List.getElem?_eq_getElem (show k<l.length by omega)]] at this
 exact this
theorem Sm{xs:List Nat}{x j:Nat}(h:xs.length=j):(xs++[x]).getD j 0=x:=by subst h;simp[List.getD]
theorem Ek{L:List Nat}{k:Nat}(h:k<L.length):(L.take (k+1)).sum=(L.take k).sum+L.getD k 0:=by
 rw[List.take_add_one,List.sum_append];simp[List.getD,List.getElem?_eq_getElem h]
theorem Ze5{L:List Nat}(k:Nat):(L.take k).sum≤L.sum:=by
 conv=>rhs;rw[←List.take_append_drop k L,List.sum_append]
 omega
def Kt(t:Int)(n:Nat):List Nat:=Kx (ovN n (Qq t true))
def Kz(t:Int)(n:Nat):Nat:=(Kt t n).sum
theorem levL_len(t:Int)(n:Nat):(Kt t n).length≤n+1:=by
 have:=levs_len (Yd n (Qq t true));have:=Rz n (Qq t true) (Xv t true).1;unfold Kt;omega
theorem nodN_le(t:Int)(n:Nat):Kz t n≤2*n+2:=by
 have:=levs_sum (Yd n (Qq t true));have:=Rz n (Qq t true) (Xv t true).1;unfold Kz Kt;omega
theorem To(t:Int)(n:Nat)(w:World)(h1:1≤t)(h2:t≤5)(hn:n≤32768) :
 C0 48 #[V0 t,V0 (n:Int)] w (Kg (fun w' r=>∃ p c,r=.slice p (Kt t n).length c∧w'.ownsRow w.heap.size 3 1 (.slice p (Kt t n).length c) (Kt t n).length ((Kt t n).map nv)) w):=by
 have b0:=(Xv t true).1
 have d3:=(Xv t true).2
 have c5:=Rz n (Qq t true) b0
 have b7:=Yd n (Qq t true)
 refine zin 45 Tryz.func48 ?_
 refine xr 8 (args:=#[V0 t,.bool true]) (Nt t true h1 h2 _) fun W1 b3=>?_
 refine xr 1 (args:=#[V0 t,.bool false]) (Nt t false h1 h2 _) fun W2 b2=>?_
 refine xgk 10 [13,14] (show(((↑(Qq t true):Int)==(0:Int)):Bool)=false from by simp;omega) ?_
 refine xgk 4 [16,17,18] (show(decide ((n:Int)<(0:Int)):Bool)=false from decide_eq_false (by omega)) ?_
 refine xk 5 (show(decide ((n:Int)>(32768:Int)):Bool)=false from decide_eq_false (by omega)) ?_
 refine xr 6 (args:=#[V0 (n:Int),V0 (↑(Qq t true):Int)]) (Lc n (Qq t true) _ (by omega) b0 (by omega)) fun W5 b4=>?_
 refine xbs 0 1 [V0 (↑(ovN n (Qq t true)):Int)] 3 fun b6 W6 n6=>?_
 have g6:=n6.ge (bln (bln b3 b2) b4)
 have hB:=bln (bln (bln b3 b2) b4) n6.below
 refine zl 5 45 (fun zm c2 V=>∃ (j x:Nat) (xs:List Nat) (p:O0) (c:Nat),c2=[(4,S0),(6,V0 18),(7,.slice p (j+1) c)]∧zm=40000-(j+1)∧B0 w V∧V.ownsRow w.heap.size 3 1 (.slice p (j+1) c) (j+1) ((xs++[x]).map nv)∧xs.length=j∧1≤x∧x≤32769∧xs++Kx x=Kt t n∧j+x≤40000) ⟨0,(ovN n (Qq t true)),[],_,_,rfl,rfl,hB,Xo (size:=1) (n:=1) n6.blk g6 rfl (by unfold maxLen;decide),rfl,b7,by omega,rfl,by omega⟩ ?_
 rintro _ _ W7 ⟨j,x,xs,p,c,rfl,rfl,a3,ho,a0,c7,c8,b1,hj⟩ J7 c3 r7
 refine xwm 6 ((↑(j+1):Int)-1) (j:Int) ?_
 refine xx 0 _ (j+1) j 1 (Zu (Zg ho) (by simp[a0]) (k:=j) (by omega)).1 ?_
 refine xl 0 (by have:=(Zu (Zg ho) (by simp[a0]) (k:=j) (by omega)).2;rwa [Sm a0] at this) ?_
 refine xid 3 ((x:Int)>(1:Int)) (fun b8=>?_) (fun b8=>?_)
 ·refine xwm 8 ((↑(j+1):Int)-1) (j:Int) ?_
  refine xx 0 _ (j+1) j 1 (Zu (Zg ho) (by simp[a0]) (k:=j) (by omega)).1 ?_
  refine xl 0 (by have:=(Zu (Zg ho) (by simp[a0]) (k:=j) (by omega)).2;rwa [Sm a0] at this) ?_
  refine xr 1 (args:=#[V0 (x:Int),V0 18]) (Lc x 18 _ (by omega) (by decide) (by decide)) fun W9 b5=>?_
  refine xbs 0 1 [V0 (↑(ovN x 18):Int)] 3 fun d0 c9 a5=>?_
  have a2:=bln a3 b5
  have d1:=a5.ge a2
  have a4:=Zb ho b5
  have a9:=Xd a4 a5
  have a6:=Zb a4 a5.below
  have a1:=bln a2 a5.below
  refine xbi 0 fun _ _ _ _ zJ zQ zo zx zy zK=>Xk (m:=1) (news:=[V0 (↑(ovN x 18):Int)]) (V0 0) 1 8 (j+1+1) (((xs++[x])++[ovN x 18]).map nv) zo Tryz.underlying68 (by kernel_rfl) rfl (by decide) zx a6 zy (a5.blk.sl 1 1 (by decide) (by decide)) rfl (by simp[Value.oneCell']) (by unfold maxLen;omega) (by omega) a1.size (by rfl) (by simp[nv]) fun c4 c1 c6 b9 c0 a7=>?_
  refine zK _ _ ?_
  have d2:=Zf9 (x:=x) (by omega)
  have a8:=a1.trans a7
  exact ze 3 (c3 _ _ _ ⟨j+1,(ovN x 18),xs++[x],_,_,rfl,rfl,a8,b9,by simp[a0],Yd _ _,by omega,by rw[←b1,Yz (x:=x) (by omega)];simp,by omega⟩ (by omega))
 refine xe 12 (.slice p (j+1) c) ?_
 have e:Kt t n=xs++[x]:=by rw[←b1,Vk (x:=x) (by omega)]
 have el:(Kt t n).length=j+1:=by rw[e];simp[a0]
 exact⟨_,rfl,a3,p,c,by rw[el],by rw[el,e];exact ho⟩
theorem Cs(t:Int)(n:Nat)(w:World)(h1:1≤t)(h2:t≤5)(hn:n≤32768) :
 C0 29 #[V0 t,V0 (n:Int)] w (Ret (V0 (Kz t n:Int)) w):=by
 refine zin 21 Tryz.func29 ?_
 refine xc 15 (args:=#[V0 t,V0 (n:Int)]) (To t n _ h1 h2 hn) ?_
 rintro _ W1 ⟨_,rfl,a5,p,c,rfl,ho⟩
 have a1:=Nat.le_refl w.heap.size
 have a2:=Zh ho a1
 refine zl 5 21 (fun zm a4 V=>∃ (k:Nat),a4=[(4,V0 0),(5,V0 (↑((Kt t n).take k).sum:Int)),(10,.slice p ((Kt t n).length) c),(11,V0 (↑((Kt t n).length):Int)),(12,V0 (k:Int))]∧zm=(Kt t n).length-((k:Int)).toNat∧B0 w V∧V.ownsRow w.heap.size 3 1 (.slice p (Kt t n).length c) (Kt t n).length ((Kt t n).map nv)∧k≤(Kt t n).length) ⟨0,rfl,rfl,a5,a2,Nat.zero_le _⟩ ?_
 rintro _ _ W2 ⟨k,rfl,rfl,a0,ho,hk⟩ J2 a6 r2
 have a9:=levL_len t n
 have a1:=nodN_le t n
 unfold Kz at a1
 have a7:=Ze5 (L:=Kt t n) (k+1)
 have a8:k<(Kt t n).length→((Kt t n).take (k+1)).sum=((Kt t n).take k).sum+(Kt t n).getD k 0:=Ek
 refine xid 6 ((k:Int)<(↑((Kt t n).length):Int)) (fun a3=>?_) (fun a3=>?_)
 ·refine xx 6 _ ((Kt t n).length) k 1 (Zu (Zg ho) rfl (k:=k) (by omega)).1 ?_
  refine xl 0 ((Zu (Zg ho) rfl (k:=k) (by omega)).2) ?_
  refine xwm 6 ((↑((Kt t n).take k).sum:Int)+(↑((Kt t n).getD k 0):Int)) (↑(((Kt t n).take k).sum+((Kt t n).getD k 0)):Int) ?_
  refine xwm 5 ((k:Int)+1) (↑(k+1):Int) ?_
  refine xv1 2 5 (show(V0 (↑(((Kt t n).take k).sum+((Kt t n).getD k 0)):Int):Value)=V0 (↑((Kt t n).take (k+1)).sum:Int) from by rw[Ek (by omega)]) ?_
  exact ze 0 (a6 _ _ _ ⟨k+1,rfl,rfl,a0,ho,by omega⟩ (by omega))
 refine xe 12 (V0 (↑((Kt t n).take k).sum:Int)) ?_
 have e:k=(Kt t n).length:=by omega
 subst e
 rw[List.take_length]
 exact⟨rfl,a0⟩
def Xw(n m i:Nat):Nat:=min m (n-i*m)
theorem Fp{n m i:Nat}(hm:1≤m)(h:i<ovN n m):i*m≤n:=by
 unfold ovN at h
 rcases Nat.eq_zero_or_pos i with rfl|hi
 ·omega
 ·have h1:i+1≤(n+m-1)/m:=by omega
  have h2:=(Nat.le_div_iff_mul_le (by omega)).1 h1
  rw[Nat.add_mul] at h2
  omega
def Fk(n m k:Nat):List Value:=(List.range (ovN n m)).map fun i=>V0 (if i<k then(Xw n m i:Int) else 0)
def sizL(n m:Nat):List Nat:=(List.range (ovN n m)).map (Xw n m)
theorem Zeh(n m:Nat):Ja (Value.int .i64 0).cells.toList (ovN n m)=Fk n m 0:=by
 rw[show(Value.int .i64 0).cells.toList=[Value.int .i64 0] from rfl,Ja,Fk]
 simp[List.map_const']
theorem sizK_all(n m:Nat):Fk n m (ovN n m)=(sizL n m).map nv:=by
 unfold Fk sizL nv
 rw[List.map_map]
 apply List.map_congr_left
 intro i hi
 rw[List.mem_range] at hi
 simp[hi]
theorem sizK_set{n m k:Nat}(h:k<ovN n m):(Fk n m k).set k (V0 (Xw n m k:Int))=Fk n m (k+1):=by
 apply List.ext_getElem?
 intro i
 by_cases hi:i<ovN n m
 ·by_cases e:k=i
  ·subst e
   rw[List.getElem?_set_self (by simpa [Fk] using h)]
   simp[Fk,List.getElem?_range h]
  ·rw[List.getElem?_set_ne e]
   simp only[Fk,List.getElem?_map,List.getElem?_range hi,Option.map_some]
   by_cases e2:i<k
   ·simp[e2,show i<k+1 by omega]
   ·simp[e2,show ¬ i<k+1 by omega]
 ·rw[List.getElem?_eq_none (by simp[Fk];omega),List.getElem?_eq_none (by simp[Fk];omega)]
theorem sizL_len(n m:Nat):(sizL n m).length=ovN n m:=by simp[sizL]
theorem Zcp(n m:Nat)(w:World)(hn:n≤32768)(hm:1≤m)(hm2:m≤32768) :
 C0 49 #[V0 (n:Int),V0 (m:Int)] w (Kg (fun w' r=>∃ p c,r=.slice p (ovN n m) c∧w'.ownsRow w.heap.size 3 1 (.slice p (ovN n m) c) (ovN n m) ((sizL n m).map nv)) w):=by
 have a8:=Rz n m hm
 refine zin 40 Tryz.func49 ?_
 refine xgk 11 [8,9] (show(decide ((n:Int)<(0:Int)):Bool)=false from decide_eq_false (by omega)) ?_
 refine xgk 4 [11,12,13] (show(decide ((n:Int)>(32768:Int)):Bool)=false from decide_eq_false (by omega)) ?_
 refine xk 5 (show(decide ((m:Int)<(1:Int)):Bool)=false from decide_eq_false (by omega)) ?_
 refine xq 5 (congrArg V0 (show(if(32768:Int)<(m:Int) then(32768:Int) else(m:Int):Int)=(m:Int) from if_neg (by omega))) ?_
 refine xr 7 (args:=#[V0 (n:Int),V0 (m:Int)]) (Lc n m _ (by omega) hm (by omega)) fun W3 a3=>?_
 refine xmk 0 fun _ _ _ _ zJ zQ zo zx zy zK=>Jj (ovN n m) (V0 0) 1 8 (Fk n m 0) zo zx zy Tryz.underlying68 (by kernel_rfl) rfl (by omega) (by omega) (Zeh n m) fun b4 W4 n4=>?_
 refine zK _ _ ?_
 have hB:=bln a3 n4.below
 refine zl 12 40 (fun zm a4 V=>∃ (k:Nat),a4=[(0,V0 (n:Int)),(1,V0 (m:Int)),(4,S0),(5,.slice (S1 b4) (ovN n m) (ovN n m)),(24,V0 (↑(ovN n m):Int)),(25,V0 (k:Int))]∧zm=ovN n m-((k:Int)).toNat∧B0 w V∧Blk V b4 (Fk n m k) 3∧k≤ovN n m) ⟨0,rfl,rfl,hB,n4.blk,Nat.zero_le _⟩ ?_
 rintro _ _ W5 ⟨k,rfl,rfl,a1,a0,hk⟩ J5 a6 r5
 have a7:k<ovN n m→k*m≤n:=Fp hm
 refine xid 6 ((k:Int)<(↑(ovN n m):Int)) (fun a5=>?_) (fun a5=>?_)
 ·refine xwm 17 ((k:Int)*(m:Int)) (↑(k*m):Int) ?_
  refine xwm 0 ((n:Int)-(↑(k*m):Int)) (↑(n-(k*m)):Int) ?_
  refine xxb 1 b4 0 (ovN n m) k 1 ?_
  refine xsg 0 a0 (0+k*1) (V0 (if(↑(n-(k*m)):Int)<(m:Int) then(↑(n-(k*m)):Int) else(m:Int))) (by simp[Fk];omega) fun W7 u7 k7=>?_
  replace k7:Blk W7 b4 (Fk n m (k+1)) 3:=by rw[←(show(Fk n m k).set (0+k*1) (V0 (if(↑(n-(k*m)):Int)<(m:Int) then(↑(n-(k*m)):Int) else(m:Int)))=Fk n m (k+1) from by rw[show 0+k*1=k by omega,show(if(↑(n-(k*m)):Int)<(m:Int) then(↑(n-(k*m)):Int) else(m:Int))=(↑(Xw n m k):Int) from Oq m (n-k*m)];exact sizK_set (by omega))];exact k7
  have g4:=n4.ge a3
  refine xwm 4 ((k:Int)+1) (↑(k+1):Int) ?_
  have a2:=u7.below a1 g4
  exact ze 2 (a6 _ _ _ ⟨k+1,rfl,rfl,a2,k7,by omega⟩ (by omega))
 have g4:=n4.ge a3
 refine xe 12 (.slice (S1 b4) (ovN n m) (ovN n m)) ?_
 have e:k=ovN n m:=by omega
 subst e
 have ho:=Xo (size:=1) (n:=ovN n m) a0 g4 (by simp[Fk]) (by unfold maxLen;omega)
 rw[sizK_all] at ho
 exact⟨_,rfl,a1,_,_,rfl,ho⟩
def Zl(l:Bl):Nat→Nat→Nat
 | _,0=>0
 | k,w+1=>(l.getD k 0).toNat+256*Zl l (k+1) w
theorem Ez(l:Bl):∀ (w k:Nat),Zl l k w<256 ^ w
 | 0,k=>by simp[Zl]
 | w+1,k=>by
  have:=Ez l w (k+1)
  have h:=(l.getD k 0).toNat_lt
  rw[Zl,Nat.pow_succ];omega
theorem Zam(l:Bl)(k w:Nat)(hw:w≤7):Zl l k w<72057594037927936:=Nat.lt_of_lt_of_le (Ez l w k) (by rw[show(72057594037927936:Nat)=256 ^ 7 from rfl];exact Nat.pow_le_pow_right (by decide) hw)
theorem Qb(l:Bl)(k w:Nat)(hw:w≤4):Zl l k w<4294967296:=Nat.lt_of_lt_of_le (Ez l w k) (by rw[show(4294967296:Nat)=256 ^ 4 from rfl];exact Nat.pow_le_pow_right (by decide) hw)
theorem Ou{n b:Nat}(hn:n<72057594037927936)(hb:b<256):IntKind.u64.wrap (↑(BitVec.ofInt 64 (IntKind.u64.wrap ((n:Int)*2 ^ 8)) ||| BitVec.ofInt 64 (b:Int)).toNat:Int)=((b+256*n:Nat):Int):=by
 have h1:IntKind.u64.wrap ((n:Int)*2 ^ 8)=((n*2 ^ 8:Nat):Int):=by
  rw[show(n:Int)*2 ^ 8=((n*2 ^ 8:Nat):Int) by omega];exact IntWalk.u64_in _ (by constructor<;>omega)
 rw[h1,BitVec.ofInt_natCast,BitVec.ofInt_natCast,BitVec.toNat_or,BitVec.toNat_ofNat,BitVec.toNat_ofNat,Nat.mod_eq_of_lt (by omega),Nat.mod_eq_of_lt (by omega)]
 rw[←Nat.shiftLeft_eq,←Nat.shiftLeft_add_eq_or_of_lt (by exact hb:b<2 ^ 8),Nat.shiftLeft_eq,IntWalk.u64_in _ (by constructor<;>omega)]
 congr 1;omega
theorem Ze2{n:Nat}(h:n<18446744073709551616):IntKind.u64.wrap (n:Int)=(n:Int):=IntWalk.u64_in _ (by constructor<;>omega)
theorem Oe(a:O0)(m c k w:Nat)(hw:w=1∨w=2∨w=4∨w=8)(hk:k+w≤m)(hm:m≤100000000)(W:World) :
 C0 110 #[.slice a m c,V0 (k:Int),V0 (w:Int)] W (Ret (V0 0) W):=by
 rcases hw with rfl|rfl|rfl|rfl
 ·exact there_1 a m c k hk hm W
 ·exact Zez a m c k hk hm W
 ·exact Zfu a m c k hk hm W
 ·exact there_8 a m c k hk hm W
theorem Zaf(a:O0)(c k w:Nat)(l:Bl)(W:World)(hw:w=1∨w=2∨w=4∨w=8)(hk:k+w≤l.length)(hl:l.length≤100000000)(h:Bys W (.slice a l.length c) l)(hq:Zl l k w<9223372036854775808) :
 C0 85 #[.slice a l.length c,V0 (k:Int),V0 (w:Int)] W (Ret (.tuple #[V0 (Zl l k w:Int),V0 0]) W):=by
 refine zin 38 Tryz.func85 ?_
 refine xr 12 (args:=#[.slice a l.length c,V0 (k:Int),V0 (w:Int)]) (Oe a l.length c k w hw hk hl _) fun W1 a3=>?_
 refine xw 21 ((w:Int)-1) ?_
 refine zl 4 38 (fun zm a2 V=>∃ (j r:Nat),a2=[(0,.slice a l.length c),(1,V0 (k:Int)),(6,V0 0),(7,V0 0),(9,.int .u64 (↑(Zl l (k+j) r):Int)),(10,V0 ((j:Int)-1))]∧zm=(((j:Int)-1)+1).toNat∧B0 W V∧j+r=w) ⟨w,0,rfl,rfl,a3,by omega⟩ ?_
 rintro _ _ W2 ⟨j,r,rfl,rfl,a0,a5⟩ J2 a4 r2
 refine xid 7 ((j:Int)-1≥(0:Int)) (fun a1=>?_) (fun a1=>?_)
 ·refine xq 10 (congrArg V0 (show IntKind.i64.wrap ((k:Int)+((j:Int)-1))=(↑(k+(j-1)):Int) from(show IntKind.i64.wrap ((k:Int)+((j:Int)-1))=((k:Int)+((j:Int)-1)) from by first|exact IntWalk.i64_in _ (by omega)|(simp only[IntKind.wrap];omega)).trans (by omega))) ?_
  refine xx 0 _ l.length (k+(j-1)) 1 (Bys.elem h (k:=(k+(j-1))) (by omega)).1 ?_
  refine xl 0 ((Bys.elem (h.below a0) (k:=(k+(j-1))) (by omega)).2) ?_
  refine xq 0 (congrArg (Value.int .u64) (show(IntKind.u64.wrap (↑(l.getD (k+(j-1)) 0).toNat:Int):Int)=(↑(l.getD (k+(j-1)) 0).toNat:Int) from Ze2 (by have:=(l.getD (k+(j-1)) 0).toNat_lt;omega))) ?_
  refine xq 0 (congrArg (Value.int .u64) (show(IntKind.u64.wrap (↑(BitVec.ofInt 64 (IntKind.u64.wrap ((↑(Zl l (k+j) r):Int)*2 ^ 8)) ||| BitVec.ofInt 64 (↑(l.getD (k+(j-1)) 0).toNat:Int)).toNat:Int):Int)=(↑(Zl l (k+(j-1)) (r+1)):Int) from(Ou (Zam l (k+j) r (by omega)) (l.getD (k+(j-1)) 0).toNat_lt).trans (congrArg (fun x:Nat=>(x:Int)) (by rw[Zl,show k+(j-1)+1=k+j by omega])))) ?_
  refine xq 6 (congrArg V0 (show IntKind.i64.wrap ((j:Int)-1-1)=((↑(j-1:Nat):Int)-1) from(show IntKind.i64.wrap ((j:Int)-1-1)=((j:Int)-1-1) from by first|exact IntWalk.i64_in _ (by omega)|(simp only[IntKind.wrap];omega)).trans (by omega))) ?_
  exact ze 2 (a4 _ _ _ ⟨j-1,r+1,rfl,rfl,a0,by omega⟩ (by omega))
 refine xk 12 (show(decide ((↑(Zl l (k+j) r):Int)≥(9223372036854775808:Int)):Bool)=false from by rw[(show Zl l (k+j) r=Zl l k w from by rw[show j=0 by omega,show r=w by omega];rfl)];exact decide_eq_false (by omega)) ?_
 refine xq 5 (congrArg V0 (show(IntKind.i64.wrap (↑(Zl l (k+j) r):Int):Int)=(↑(Zl l k w):Int) from by rw[(show Zl l (k+j) r=Zl l k w from by rw[show j=0 by omega,show r=w by omega];rfl)];exact Lp hq)) ?_
 exact xe 5 (.tuple #[V0 (↑(Zl l k w):Int),V0 0]) ⟨rfl,a0⟩
theorem Zeu(a:O0)(c k w:Nat)(l:Bl)(W:World)(hw:w=1∨w=2∨w=4∨w=8)(hk:k+w≤l.length)(hl:l.length≤100000000)(h:Bys W (.slice a l.length c) l)(hq:¬ Zl l k w<9223372036854775808) :
 C0 85 #[.slice a l.length c,V0 (k:Int),V0 (w:Int)] W (Ret (.tuple #[V0 0,V0 2]) W):=by
 refine zin 38 Tryz.func85 ?_
 refine xr 12 (args:=#[.slice a l.length c,V0 (k:Int),V0 (w:Int)]) (Oe a l.length c k w hw hk hl _) fun W1 a3=>?_
 refine xw 21 ((w:Int)-1) ?_
 refine zl 4 38 (fun zm a2 V=>∃ (j r:Nat),a2=[(0,.slice a l.length c),(1,V0 (k:Int)),(6,V0 0),(7,V0 0),(9,.int .u64 (↑(Zl l (k+j) r):Int)),(10,V0 ((j:Int)-1))]∧zm=(((j:Int)-1)+1).toNat∧B0 W V∧j+r=w) ⟨w,0,rfl,rfl,a3,by omega⟩ ?_
 rintro _ _ W2 ⟨j,r,rfl,rfl,a0,a5⟩ J2 a4 r2
 refine xid 7 ((j:Int)-1≥(0:Int)) (fun a1=>?_) (fun a1=>?_)
 ·refine xq 10 (congrArg V0 (show IntKind.i64.wrap ((k:Int)+((j:Int)-1))=(↑(k+(j-1)):Int) from(show IntKind.i64.wrap ((k:Int)+((j:Int)-1))=((k:Int)+((j:Int)-1)) from by first|exact IntWalk.i64_in _ (by omega)|(simp only[IntKind.wrap];omega)).trans (by omega))) ?_
  refine xx 0 _ l.length (k+(j-1)) 1 (Bys.elem h (k:=(k+(j-1))) (by omega)).1 ?_
  refine xl 0 ((Bys.elem (h.below a0) (k:=(k+(j-1))) (by omega)).2) ?_
  refine xq 0 (congrArg (Value.int .u64) (show(IntKind.u64.wrap (↑(l.getD (k+(j-1)) 0).toNat:Int):Int)=(↑(l.getD (k+(j-1)) 0).toNat:Int) from Ze2 (by have:=(l.getD (k+(j-1)) 0).toNat_lt;omega))) ?_
  refine xq 0 (congrArg (Value.int .u64) (show(IntKind.u64.wrap (↑(BitVec.ofInt 64 (IntKind.u64.wrap ((↑(Zl l (k+j) r):Int)*2 ^ 8)) ||| BitVec.ofInt 64 (↑(l.getD (k+(j-1)) 0).toNat:Int)).toNat:Int):Int)=(↑(Zl l (k+(j-1)) (r+1)):Int) from(Ou (Zam l (k+j) r (by omega)) (l.getD (k+(j-1)) 0).toNat_lt).trans (congrArg (fun x:Nat=>(x:Int)) (by rw[Zl,show k+(j-1)+1=k+j by omega])))) ?_
  refine xq 6 (congrArg V0 (show IntKind.i64.wrap ((j:Int)-1-1)=((↑(j-1:Nat):Int)-1) from(show IntKind.i64.wrap ((j:Int)-1-1)=((j:Int)-1-1) from by first|exact IntWalk.i64_in _ (by omega)|(simp only[IntKind.wrap];omega)).trans (by omega))) ?_
  exact ze 2 (a4 _ _ _ ⟨j-1,r+1,rfl,rfl,a0,by omega⟩ (by omega))
 refine xk 12 (show(decide ((↑(Zl l (k+j) r):Int)≥(9223372036854775808:Int)):Bool)=true from by rw[(show Zl l (k+j) r=Zl l k w from by rw[show j=0 by omega,show r=w by omega];rfl)];exact decide_eq_true (by omega)) ?_
 exact xe 8 (.tuple #[V0 0,V0 2]) ⟨rfl,a0⟩
def Hk(l:Bl):Nat→List Nat→List Nat
 | _,[]=>[]
 | k,w::r=>Zl l k w::Hk l (k+w) r
theorem Eo(l:Bl):∀ (ws:List Nat) (k:Nat),(Hk l k ws).length=ws.length
 | [],k=>rfl
 | w::r,k=>by simp[Hk,Eo l r]
theorem Lj(l:Bl)(w:Nat):∀ (ws:List Nat) (k:Nat),Hk l k (ws++[w])=Hk l k ws++[Zl l (k+ws.sum) w]
 | [],k=>by simp[Hk]
 | x::r,k=>by simp[Hk,Lj l w r,Nat.add_assoc]
theorem Dl(l:Bl):∀ (ws:List Nat) (k i:Nat),i<ws.length→(Hk l k ws).getD i 0=Zl l (k+(ws.take i).sum) (ws.getD i 0)
 | [],k,i,h=>by simp at h
 | w::r,k,0,h=>by simp[Hk]
 | w::r,k,i+1,h=>by
  have:=Dl l r (k+w) i (by simpa using h)
  simp only[List.getD_eq_getElem?_getD] at this ⊢
  simp[Hk,this,Nat.add_assoc]
theorem Wf{ws:List Nat}{i:Nat}(h:i<ws.length):ws.take (i+1)=ws.take i++[ws.getD i 0]:=by
 rw[List.take_succ_eq_append_getElem h];simp[List.getD,h]
theorem Ls{ws:List Nat}{i:Nat}(h:i<ws.length):(ws.take i).sum+ws.getD i 0≤ws.sum:=by
 have h1:=Ek h;have h2:=Ze5 (L:=ws) (i+1);omega
def getV(l:Bl)(k w:Nat):Int:=if Zl l k w<9223372036854775808 then(Zl l k w:Int) else 0
def Zd0(l:Bl)(k w:Nat):Int:=if Zl l k w<9223372036854775808 then 0 else 2
theorem Ze1{l:Bl}{k w:Nat}(h:Zd0 l k w=0):Zl l k w<9223372036854775808:=by unfold Zd0 at h;split at h;assumption;cases h
theorem getE_two{l:Bl}{k w:Nat}(h:Zd0 l k w≠0):¬ Zl l k w<9223372036854775808∧Zd0 l k w=2:=by unfold Zd0 at h ⊢;split at h;exact absurd rfl h;rename_i h2;exact⟨h2,if_neg h2⟩
theorem Zeg{l:Bl}{k w:Nat}(h:Zl l k w<9223372036854775808):Zd0 l k w=0:=if_pos h
theorem Ao{l:Bl}{k w:Nat}(h:Zl l k w<9223372036854775808):getV l k w=(Zl l k w:Int):=if_pos h
theorem Zev(a:O0)(c k w:Nat)(l:Bl)(W:World)(hw:w=1∨w=2∨w=4∨w=8)(hk:k+w≤l.length)(hl:l.length≤100000000)(h:Bys W (.slice a l.length c) l) :
 C0 85 #[.slice a l.length c,V0 (k:Int),V0 (w:Int)] W (Ret (.tuple #[V0 (getV l k w),V0 (Zd0 l k w)]) W):=by
 by_cases hq:Zl l k w<9223372036854775808
 ·rw[Ao hq,Zeg hq];exact Zaf a c k w l W hw hk hl h hq
 ·rw[getV,Zd0,if_neg hq,if_neg hq];exact Zeu a c k w l W hw hk hl h hq
theorem Fq(a:O0)(c:Nat)(l:Bl)(aw:O0)(cw:Nat)(ws:List Nat)(W:World)(hk:∀ i,i<ws.length→ws.getD i 0=1∨ws.getD i 0=2∨ws.getD i 0=4∨ws.getD i 0=8)(hs:ws.sum≤l.length)(hl:l.length≤100000000)(hw:ws.length≤1000)(h:Bys W (.slice a l.length c) l)(hws:Sl W (.slice aw ws.length cw) ws.length (ws.map nv))(hq:∀ i,i<ws.length→(Hk l 0 ws).getD i 0<9223372036854775808) :
 C0 97 #[.slice a l.length c,.slice aw ws.length cw] W (Kg (fun w' r=>∃ p c,r=.tuple #[.slice p ws.length c,V0 0]∧w'.ownsRow W.heap.size 3 1 (.slice p ws.length c) ws.length ((Hk l 0 ws).map nv)) W):=by
 refine zin 37 Tryz.func97 ?_
 have hB:=Below.refl W.heap.size W
 refine zl 25 37 (fun zm a9 V=>∃ (i:Nat) (p:O0) (c2:Nat),a9=[(0,.slice a l.length c),(6,.slice p i c2),(7,V0 (↑(ws.take i).sum:Int)),(12,.slice aw ws.length cw),(13,V0 (ws.length:Int)),(14,V0 (i:Int))]∧zm=ws.length-((i:Int)).toNat∧B0 W V∧V.ownsRow W.heap.size 3 1 (.slice p i c2) i ((Hk l 0 (ws.take i)).map nv)∧i≤ws.length) ⟨0,_,_,rfl,rfl,hB,World.ownsRow_nil _ _ _ _,Nat.zero_le _⟩ ?_
 rintro _ _ W1 ⟨i,p,c2,rfl,rfl,a0,ho,hi⟩ J1 b1 r1
 have b5:i<ws.length→(ws.take i).sum+ws.getD i 0≤ws.sum:=Ls
 have a6:i<ws.length→(Hk l 0 ws).getD i 0=Zl l (ws.take i).sum (ws.getD i 0):=fun h=>by rw[Dl l ws 0 i h,Nat.zero_add]
 refine xid 6 ((i:Int)<(ws.length:Int)) (fun b0=>?_) (fun b0=>?_)
 ·refine xx 6 _ ws.length i 1 (Zu hws rfl (k:=i) (by omega)).1 ?_
  refine xl 0 ((Zu (hws.below a0) rfl (k:=i) (by omega)).2) ?_
  refine xr 8 (args:=#[.slice a l.length c,V0 (↑(ws.take i).sum:Int),V0 (↑(ws.getD i 0):Int)]) (Zev a c (ws.take i).sum (ws.getD i 0) l _ (hk i (by omega)) (by omega) hl (h.below a0)) fun W3 a8=>?_
  refine xk 14 (show(((Zd0 l (ws.take i).sum (ws.getD i 0)) != (0:Int)):Bool)=false from by rw[Zeg (by rw[←a6 (by omega)];exact hq i (by omega))];rfl) ?_
  refine xbs 6 1 [V0 (getV l (ws.take i).sum (ws.getD i 0))] 3 fun b4 W4 n4=>?_
  have a2:=bln a0 a8
  have g4:=n4.ge a2
  have a3:=Zb ho a8
  have a7:=Xd a3 n4
  have a5:=Zb a3 n4.below
  have a1:=bln a2 n4.below
  refine xbi 0 fun _ _ _ _ zJ zQ zo zx zy zK=>Xk (m:=1) (news:=[V0 (getV l (ws.take i).sum (ws.getD i 0))]) (V0 0) 1 8 (i+1) ((Hk l 0 (ws.take (i+1))).map nv) zo Tryz.underlying68 (by kernel_rfl) rfl (by decide) zx a5 zy (n4.blk.sl 1 1 (by decide) (by decide)) rfl (by simp[Value.oneCell']) (by unfold maxLen;omega) (by omega) a1.size (by rfl) (by rw[Wf (by omega),Lj,Nat.zero_add,List.map_append];simp only[List.map_cons,List.map_nil,nv];rw[Ao (by rw[←a6 (by omega)];exact hq i (by omega))]) fun b3 b6 W5 o5 b7 b2=>?_
  refine zK _ _ ?_
  refine xwm 6 ((↑(ws.take i).sum:Int)+(↑(ws.getD i 0):Int)) (↑((ws.take i).sum+(ws.getD i 0)):Int) ?_
  refine xwm 5 ((i:Int)+1) (↑(i+1):Int) ?_
  refine xv1 2 7 (show(V0 (↑((ws.take i).sum+(ws.getD i 0)):Int):Value)=V0 (↑(ws.take (i+1)).sum:Int) from by rw[Wf (by omega),List.sum_append];simp) ?_
  have a4:=a1.trans b2
  exact ze 0 (b1 _ _ _ ⟨i+1,_,_,rfl,rfl,a4,o5,by omega⟩ (by omega))
 refine xe 13 (.tuple #[.slice p i c2,V0 0]) ?_
 obtain rfl:i=ws.length:=by omega
 rw[List.take_length] at ho
 exact⟨_,rfl,a0,_,_,rfl,ho⟩
theorem Za7(a:O0)(c:Nat)(l:Bl)(aw:O0)(cw:Nat)(ws:List Nat)(W:World)(hk:∀ i,i<ws.length→ws.getD i 0=1∨ws.getD i 0=2∨ws.getD i 0=4∨ws.getD i 0=8)(hs:ws.sum≤l.length)(hl:l.length≤100000000)(hw:ws.length≤1000)(h:Bys W (.slice a l.length c) l)(hws:Sl W (.slice aw ws.length cw) ws.length (ws.map nv))(hq:¬ ∀ i,i<ws.length→(Hk l 0 ws).getD i 0<9223372036854775808) :
 C0 97 #[.slice a l.length c,.slice aw ws.length cw] W (Ret (.tuple #[S0,V0 2]) W):=by
 refine zin 37 Tryz.func97 ?_
 have hB:=Below.refl W.heap.size W
 refine zl 25 37 (fun zm b6 V=>∃ (i:Nat) (p:O0) (c2:Nat),b6=[(0,.slice a l.length c),(6,.slice p i c2),(7,V0 (↑(ws.take i).sum:Int)),(12,.slice aw ws.length cw),(13,V0 (ws.length:Int)),(14,V0 (i:Int))]∧zm=ws.length-((i:Int)).toNat∧B0 W V∧V.ownsRow W.heap.size 3 1 (.slice p i c2) i ((Hk l 0 (ws.take i)).map nv)∧i≤ws.length∧(∀ j,j<i→(Hk l 0 ws).getD j 0<9223372036854775808)) ⟨0,_,_,rfl,rfl,hB,World.ownsRow_nil _ _ _ _,Nat.zero_le _,?_⟩ ?_
 ·exact fun j hj=>absurd hj (by omega)
 rintro _ _ W1 ⟨i,p,c2,rfl,rfl,a0,ho,hi,a4⟩ J1 b3 r1
 have b8:i<ws.length→(ws.take i).sum+ws.getD i 0≤ws.sum:=Ls
 have b2:i<ws.length→(Hk l 0 ws).getD i 0=Zl l (ws.take i).sum (ws.getD i 0):=fun h=>by rw[Dl l ws 0 i h,Nat.zero_add]
 refine xid 6 ((i:Int)<(ws.length:Int)) (fun b7=>?_) (fun b7=>?_)
 ·refine xx 6 _ ws.length i 1 (Zu hws rfl (k:=i) (by omega)).1 ?_
  refine xl 0 ((Zu (hws.below a0) rfl (k:=i) (by omega)).2) ?_
  refine xr 8 (args:=#[.slice a l.length c,V0 (↑(ws.take i).sum:Int),V0 (↑(ws.getD i 0):Int)]) (Zev a c (ws.take i).sum (ws.getD i 0) l _ (hk i (by omega)) (by omega) hl (h.below a0)) fun W3 a9=>?_
  refine xin 14 (Zd0 l (ws.take i).sum (ws.getD i 0)) (0:Int) (fun b0=>?_) (fun b0=>?_)
  ·have a5:=getE_two b0
   have a7:=bln a0 a9
   refine xe 14 (.tuple #[S0,V0 (Zd0 l (ws.take i).sum (ws.getD i 0))]) ?_
   rw[a5.2];exact⟨rfl,a7⟩
  have a5:=Ze1 b0
  refine xbs 6 1 [V0 (getV l (ws.take i).sum (ws.getD i 0))] 3 fun b5 W5 n5=>?_
  have a1:=bln a0 a9
  have g5:=n5.ge a1
  have a2:=Zb ho a9
  have b1:=Xd a2 n5
  have a8:=Zb a2 n5.below
  have a3:=bln a1 n5.below
  refine xbi 0 fun _ _ _ _ zJ zQ zo zx zy zK=>Xk (m:=1) (news:=[V0 (getV l (ws.take i).sum (ws.getD i 0))]) (V0 0) 1 8 (i+1) ((Hk l 0 (ws.take (i+1))).map nv) zo Tryz.underlying68 (by kernel_rfl) rfl (by decide) zx a8 zy (n5.blk.sl 1 1 (by decide) (by decide)) rfl (by simp[Value.oneCell']) (by unfold maxLen;omega) (by omega) a3.size (by rfl) (by rw[Wf (by omega),Lj,Nat.zero_add,List.map_append];simp only[List.map_cons,List.map_nil,nv];rw[Ao a5]) fun b9 c1 W6 o6 c0 b4=>?_
  refine zK _ _ ?_
  refine xwm 6 ((↑(ws.take i).sum:Int)+(↑(ws.getD i 0):Int)) (↑((ws.take i).sum+(ws.getD i 0)):Int) ?_
  refine xwm 5 ((i:Int)+1) (↑(i+1):Int) ?_
  refine xv1 2 7 (show(V0 (↑((ws.take i).sum+(ws.getD i 0)):Int):Value)=V0 (↑(ws.take (i+1)).sum:Int) from by rw[Wf (by omega),List.sum_append];simp) ?_
  have a6:=a3.trans b4
  exact ze 0 (b3 _ _ _ ⟨i+1,_,_,rfl,rfl,a6,o6,by omega,fun j hj=>(Nat.lt_or_ge j i).elim (fun q=>a4 j q) (fun q=>by obtain rfl:j=i:=(by omega);rw[b2 (by omega)];exact a5)⟩ (by omega))
 refine xe 13 (.tuple #[.slice p i c2,V0 0]) ?_
 exact absurd (fun j hj=>a4 j (by omega)) hq
end Go.Proofs.YtgphgaehfdfjjaaGreat
namespace Go.Proofs.YtgphgaehfdfjjaaGreat
set_option maxHeartbeats 8000000
set_option maxRecDepth 100000
open Go.RowKit
set_option linter.unusedVariables false
theorem Zdq(bs:ByteArray)(i:Nat)(r:Bl):ByteArray.toList.loop bs i r=r.reverse++bs.data.toList.drop i:=by
 have hs:bs.data.toList.length=bs.size:=by rw[Array.length_toList];rfl
 rw[ByteArray.toList.loop]
 split
 ·rename_i h
  have h':i<bs.data.toList.length:=by omega
  rw[Zdq bs (i+1) _,List.drop_eq_getElem_cons h']
  have e:bs.get! i=bs.data.toList[i]:=by
   have h2:i<bs.data.size:=by rw[←Array.length_toList];exact h'
   show bs.data[i]! = _
   rw[getElem!_pos bs.data i h2];simp
  rw[e];simp
 ·rename_i h
  rw[List.drop_eq_nil_of_le (by omega)];simp
termination_by bs.size-i
theorem Zap(a:Bl):(⟨a.toArray⟩:ByteArray).toList=a:=by
 unfold ByteArray.toList;rw[Zdq];simp
theorem str_beq(a b:Bl):((⟨a.toArray⟩:ByteArray).toList==(⟨b.toArray⟩:ByteArray).toList)=(a==b):=by rw[Zap,Zap]
theorem Mv(l:Bl):∀ (w k i:Nat),i<w→Zl l k w/256 ^ i%256=(l.getD (k+i) 0).toNat
 | 0,k,i,h=>absurd h (by omega)
 | w+1,k,0,_=>by
  have:=(l.getD k 0).toNat_lt
  rw[Zl];simp only[Nat.pow_zero,Nat.div_one,Nat.add_zero];omega
 | w+1,k,i+1,h=>by
  have:=(l.getD k 0).toNat_lt
  have ih:=Mv l w (k+1) i (by omega)
  rw[Zl,Nat.pow_succ,Nat.mul_comm (256 ^ i) 256,←Nat.div_div_eq_div_mul,show((l.getD k 0).toNat+256*Zl l (k+1) w)/256=Zl l (k+1) w by omega,ih,show k+1+i=k+(i+1) by omega]
theorem leB_raw{l:Bl}{k w:Nat}(h:k+w≤l.length):leB (Zl l k w:Int) w=(l.drop k).take w:=by
 apply List.ext_getElem
 ·simp[Zj];omega
 intro i h1 h2
 have hw:i<w:=by simpa [Zj] using h1
 have e:=Mv l w k i hw
 apply UInt8.toNat_inj.1
 simp only[leB,List.getElem_map,List.getElem_range,Zp,Int.toNat_natCast,UInt8.toNat_ofNat',List.getElem_take,List.getElem_drop]
 have e2:l.getD (k+i) 0=l[k+i]'(by omega):=by simp[List.getD,show k+i<l.length by omega]
 rw[e2] at e
 rw[←e]
theorem leB_inj{m n w:Nat}(hm:m<256 ^ w)(hn:n<256 ^ w)(h:leB (m:Int) w=leB (n:Int) w):m=n:=by
 have e:∀ i,i<w→m/256 ^ i%256=n/256 ^ i%256:=fun i hi=>by
  have:=congrArg (fun l=>(l.getD i 0).toNat) h
  simpa [leB,Zp,List.getD,List.getElem?_range hi,UInt8.toNat_ofNat'] using this
 clear h
 induction w generalizing m n with
 | zero=>simp at hm hn;omega
 | succ w ih =>
  have h0:=e 0 (by omega)
  have h1:m/256=n/256:=ih (by rw[Nat.pow_succ] at hm;omega) (by rw[Nat.pow_succ] at hn;omega) fun i hi=>by
   have:=e (i+1) (by omega)
   rw[Nat.pow_succ,Nat.mul_comm (256 ^ i) 256,←Nat.div_div_eq_div_mul,←Nat.div_div_eq_div_mul] at this
   exact this
  simp only[Nat.pow_zero,Nat.div_one] at h0
  omega
theorem Ro{b:Bool}(h:(!b)=true):b=false:=by simpa using h
theorem Rc{b:Bool}(h:(!b)=false):b=true:=by simpa using h
end Go.Proofs.YtgphgaehfdfjjaaGreat
namespace Go.Proofs.YtgphgaehfdfjjaaGreat
set_option maxHeartbeats 8000000
set_option maxRecDepth 100000
open Go.RowKit Go.Extern.Stop Go.Stop Go.Extern
set_option linter.unusedVariables false
attribute [local irreducible] wpList wpAnyH Code.wp Oper.wp Go
theorem Nw{P:Program}{a:Act}{o:Oper}{src dst e:TypeId}{x:Operand}{b:O0}{n c:Nat}{l:Bl}{w:World}(ho:o.op=.convert src dst x)(hx:a.eval x=.slice b n c)(h:Bys w (.slice b n c) l)(hl:l.length=n)
 (hs:P.underlying src=some (.slice e)) (he:P.underlying e=some (.int .u8)) (hd:P.underlying dst=some .string):(execOp a.eval o).run P w=.ok (.value (.string ⟨l.toArray⟩)) w:=by
 have hr:(convert src dst (.slice b n c)).run P w=.ok (.string ⟨l.toArray⟩) w:=by
  subst hl
  rcases Sl.at h with hn|⟨g,a0,rfl,hc⟩
  ·obtain rfl:l=[]:=by simpa using hn
   cases b with
   | none=>rw[run_convert_bytes_string w src dst e none _ c hs he hd];rfl
   | some p=>exact run_convert_bytes_back w src dst e p c [] hs he hd (fun j hj=>by simp at hj)
  ·exact run_convert_bytes_back w src dst e _ c l hs he hd (fun j hj=>by rw[Addr.add_mid];exact hc j _ (by simp[List.getElem?_eq_getElem hj,bv]))
 simp only[execOp,ho,hx,Sem.run_bind,hr];rfl
theorem Al.below{B ba b g n c:Nat}{pa:O0}{ca f N k:Nat}{l:Bl}{w W:World}(h:Al B ba b g n c pa ca f N k l w)(hb:B0 w W):Al B ba b g n c pa ca f N k l W:=⟨h.blkA.below hb,h.blkI.below hb,Zb h.data hb,Zb h.nums hb⟩
theorem Ze6{w:World}{base n c size:Nat}{e:TypeId}{p:O0}{xs:List Value}(h:w.ownsRow base e size (.slice p n c) n xs)(hn:0<n):∃ g,p=some ⟨g,0,none⟩∧n≤c:=by
 rcases h.2 with ⟨_,h0⟩|⟨g,a0,a1,hv,_,_,hc,_⟩
 ·omega
 ·simp only[Value.slice.injEq] at hv;exact⟨g,hv.1,by omega⟩
theorem Bys.cap{w:World}{a:O0}{n c:Nat}{l:Bl}(h:Bys w (.slice a n c) l)(hl:l.length=n):n≤c:=by
 rcases h with ⟨a',c',h1,h2,_⟩|⟨b,a0,cap,h1,h2,_,_⟩
 ·omega
 ·simp only[Value.slice.injEq] at h1;omega
theorem Zep(a:O0)(c n m:Nat)(l:Bl)(w:World)(hn:l.length=n)(hm:min (n/256) 14400*256=m)(h:Bys w (.slice a n c) l)(hl:n≤100000000)(hc:n≤c) :
 C0 9 #[.slice a n c] w (Kg (fun w' r=>∃ b p c,r=P0 b∧w.heap.size≤b∧Blk w' b [.slice p m c] 75∧w'.ownsRow w.heap.size 5 1 (.slice p m c) m ((l.take m).map bv)) w):=by
 subst hn hm;exact Ip a c l w h hl hc
theorem Zcn(b:Nat)(p0:O0)(n c f N:Nat)(fi:Int)(hfi:fi=(f:Int))(hN:n/256-f=N)(w:World)(hk:Blk w b [.slice p0 n c] 75)(hn:n≤3686400)(h1:1≤f)(h2:f≤n/256) :
 C0 8 #[P0 b,V0 fi] w (Kg (fun w' r=>∃ ba p c2,r=.tuple #[P0 ba,.nilIface]∧w.heap.size≤ba∧Blk w' ba [.slice p N c2,V0 0,P0 b] 72∧w'.ownsRow w.heap.size 3 1 (.slice p N c2) N ((Zat f N).map V0)) w):=by
 subst hfi hN;exact Zef b p0 n c f w hk hn h1 h2
end Go.Proofs.YtgphgaehfdfjjaaGreat
namespace Go.Proofs.YtgphgaehfdfjjaaGreat
set_option maxHeartbeats 8000000
set_option maxRecDepth 100000
open Go.RowKit Go.Extern.Stop Go.Stop Go.Extern
set_option linter.unusedVariables false
attribute [local irreducible] wpList wpAnyH Code.wp Oper.wp Go
section
variable {P:Program} {a:Act}
theorem Hp{o:Oper}{t e:TypeId}{x y y2:Operand}{b:O0}{n k h c:Nat}{i j:Int}{ki kj:IntKind}(size:Nat)(ho:o.op=.slice t x (some y) (some y2) none)(hx:a.eval x=.slice b n c)(hy:a.eval y=.int ki i)(hi:i=(k:Int))(hy2:a.eval y2=.int kj j)(hj:j=(h:Int))(hk:k≤h)(hc:h≤c)
 (ht:P.underlying t=some (.slice e)) (hs:(P.info? e).map (·.size)=some size) (w:World):(execOp a.eval o).run P w=.ok (.value (.slice (Pq b k c size) (h-k) (c-k))) w:=by
 cases hq:P.info? e with
 | none=>simp[hq] at hs
 | some q =>
  have a0:q.size=size:=by simpa [hq] using hs
  subst hi hj
  have h1:(0:Int)≤(k:Int):=by omega
  have h2:(0:Int)≤(h:Int):=by omega
  have h3:(k:Int)≤(h:Int):=by omega
  have h4:(h:Int)≤(c:Int):=by omega
  by_cases h5:c=k
  ·simp_all [execOp,Instr.sliceAt,Instr.slice,Instr.sliceBounds,Instr.sliceBound,asIntOf,run_underlying ht,sizeOf,typeInfo,Pq]
  ·simp_all [execOp,Instr.sliceAt,Instr.slice,Instr.sliceBounds,Instr.sliceBound,asIntOf,run_underlying ht,sizeOf,typeInfo,Pq]
end
theorem Bys.cut{w:World}{b:O0}{n c:Nat}{l:Bl}(h:Bys w (.slice b n c) l)(hl:l.length=n)(k m:Nat)(hk:k≤m)(hm:m≤n):Bys w (.slice (Pq b k c 1) (m-k) (c-k)) ((l.drop k).take (m-k)):=by
 have a0:((l.drop k).take (m-k)).length=m-k:=by simp;omega
 have a2:=Bys.cap h hl
 rcases h with ⟨a',c',h1,h2,h3⟩|⟨g,a1,a3,h1,h2,h3,h4⟩
 ·obtain rfl:k=0:=by omega
  obtain rfl:m=0:=by omega
  refine .inl ⟨Pq b 0 c 1,c-0,?_,by simp,by simp⟩
  simp
 ·simp only[Value.slice.injEq] at h1
  obtain⟨rfl,_,rfl⟩:=h1
  by_cases hz:m-k=0
  ·refine .inl ⟨Pq (some ⟨g,a1,none⟩) k c 1,c-k,by rw[hz],by omega,?_⟩
   rw[hz];rfl
  ·refine .inr ⟨g,a1+k*1,c-k,?_,by omega,by omega,fun j x hj=>?_⟩
   ·rw[Pq,if_neg (by omega),a0];simp[Addr.add]
   ·rw[List.getElem?_map,List.getElem?_take] at hj
    split at hj
    ·rw[List.getElem?_drop] at hj
     have:=h4 (k+j) x (by rw[List.getElem?_map];exact hj)
     rwa [Nat.mul_one,Nat.add_assoc]
    ·cases hj
def Kc(l:Bl):Bool:=l.all (·==0)
theorem Za8{l:Bl}(h:∀ j,j<l.length→l.getD j 0=0):Kc l=true:=by
 unfold Kc
 rw[List.all_eq_true]
 intro x hx
 obtain⟨j,hj,rfl⟩:=List.mem_iff_getElem.1 hx
 have:=h j hj
 simpa [List.getD,hj] using this
theorem Am{l:Bl}{j:Nat}(hj:j<l.length)(h:((l.getD j 0).toNat:Int)≠0):Kc l=false:=by
 unfold Kc
 rw[List.all_eq_false]
 refine⟨l[j],List.getElem_mem hj,?_⟩
 intro h2
 apply h
 have:l[j]=0:=by simpa using h2
 simp[List.getD,hj,this]
theorem Zd3{x:UInt8}(h:(x.toNat:Int)=0):x=0:=by
 have h1:x.toNat=0:=by omega
 exact UInt8.toNat_inj.1 (by rw[h1];rfl)
theorem zero_1(n:Int)(w:World) :
 C0 137 #[.int .u8 n] w (Ret (.bool (n != 0)) w):=by
 refine zin 5 Tryz.func137 ?_
 exact xe 13 (.bool (n != (0:Int))) ⟨rfl,(B3 w)⟩
theorem Zdp(a:O0)(c:Nat)(l:Bl)(w:World)(hl:l.length≤100000000)(h:Bys w (.slice a l.length c) l) :
 C0 138 #[.slice a l.length c,.func (.func 137) #[] #[]] w (fun e w'=>(Kc l=true∧e=.returned (V0 (-1))∧B0 w w')∨(Kc l=false∧∃ i:Nat,e=.returned (V0 (i:Int))∧B0 w w')):=by
 refine zin 19 Tryz.func138 ?_
 have hB:=Below.refl w.heap.size w
 refine zl 14 19 (fun zm a4 V=>∃ (i:Nat),a4=[(0,.slice a l.length c),(1,.func (.func 137) #[] #[]),(7,V0 (l.length:Int)),(8,V0 (i:Int))]∧zm=l.length-((i:Int)).toNat∧B0 w V∧i≤l.length∧(∀ j,j<i→l.getD j 0=0)) ⟨0,rfl,rfl,hB,Nat.zero_le _,?_⟩ ?_
 ·exact fun j hj=>absurd hj (by omega)
 rintro _ _ W1 ⟨i,rfl,rfl,a0,hi,hz⟩ J1 a7 r1
 refine xid 6 ((i:Int)<(l.length:Int)) (fun a5=>?_) (fun a5=>?_)
 ·refine xx 15 _ l.length i 1 (Bys.elem h (k:=i) (by omega)).1 ?_
  refine xl 0 ((Bys.elem (h.below a0) (k:=i) (by omega)).2) ?_
  refine xr 0 (args:=#[.int .u8 (↑(l.getD i 0).toNat:Int)]) (zero_1 (↑(l.getD i 0).toNat:Int) _) fun W3 a3=>?_
  refine xin 2 (↑(l.getD i 0).toNat:Int) (0:Int) (fun a6=>?_) (fun a6=>?_)
  ·have a2:=bln a0 a3
   exact xe 12 (V0 (i:Int)) (.inr ⟨Am (j:=i) (by omega) (by assumption),_,rfl,a2⟩)
  refine xwm 4 ((i:Int)+1) (↑(i+1):Int) ?_
  have a1:=bln a0 a3
  exact ze 2 (a7 _ _ _ ⟨i+1,rfl,rfl,a1,by omega,fun j hj=>(Nat.lt_or_ge j i).elim (hz j) (fun q=>by obtain rfl:j=i:=(by omega);exact Zd3 (by assumption))⟩ (by omega))
 exact xe 11 (V0 (-1)) (.inl ⟨Za8 (fun j hj=>hz j (by omega)),rfl,a0⟩)
theorem Fw(a:O0)(c:Nat)(l:Bl)(w:World)(hl:l.length≤100000000)(h:Bys w (.slice a l.length c) l) :
 C0 136 #[.slice a l.length c,.func (.func 137) #[] #[]] w (Ret (.bool (!Kc l)) w):=by
 refine zin 9 Tryz.func136 ?_
 refine xc 9 (args:=#[.slice a l.length c,.func (.func 137) #[] #[]]) (Zdp a c l _ hl (h.below (B3 w))) ?_
 rintro e W1 a1
 rcases a1 with ⟨hz,rfl,a0⟩|⟨hz,i0,rfl,a0⟩
 ·refine xe 5 (.bool false) ?_
  rw[hz];exact⟨rfl,a0⟩
 refine xe 5 (.bool (decide ((i0:Int)≥(0:Int)))) ?_
 rw[hz,show decide ((i0:Int)≥(0:Int))=true from decide_eq_true (by omega)];exact⟨rfl,a0⟩
theorem Zf2(a:O0)(c:Nat)(l:Bl)(w:World)(hl:l.length≤100000000)(h:Bys w (.slice a l.length c) l) :
 C0 134 #[.slice a l.length c] w (Ret (.bool (Kc l)) w):=by
 refine zin 6 Tryz.func134 ?_
 refine xr 8 (args:=#[.slice a l.length c,.func (.func 137) #[] #[]]) (Fw a c l _ hl (h.below (B3 w))) fun W1 a0=>?_
 refine xe 5 (.bool (!(!Kc l))) ?_
 rw[Bool.not_not];exact⟨rfl,a0⟩
def Pz(kind no:Int):Bool:=decide (1≤kind∧kind≤4∧0≤no∧no<14400)
theorem Ta(kind no:Int)(w:World) :
 C0 102 #[V0 kind,V0 no] w (Ret (.bool (Pz kind no)) w):=by
 refine zin 19 Tryz.func102 ?_
 refine xg 10 [6,7] (decide (kind≥(1:Int))) (fun a0=>?_) (fun a0=>?_)
 ·have a0:=of_decide_eq_true a0
  refine xg 4 [9,10,11] (decide (kind≤(4:Int))) (fun a1=>?_) (fun a1=>?_)
  ·have a1:=of_decide_eq_true a1
   refine xg 4 [13,14,15] (decide (no≥(0:Int))) (fun a2=>?_) (fun a2=>?_)
   ·have a2:=of_decide_eq_true a2
    exact xe 7 (.bool (decide (no<(14400:Int)))) ⟨by rw[show Pz kind no=decide (no<14400) from decide_eq_decide.2 ⟨fun h=>h.2.2.2,fun h=>⟨by omega,by omega,by omega,h⟩⟩],(B3 w)⟩
   have a2:=of_decide_eq_false a2
   exact xe 7 (.bool false) ⟨by rw[show Pz kind no=false from decide_eq_false (by omega)],(B3 w)⟩
  have a1:=of_decide_eq_false a1
  exact xe 11 (.bool false) ⟨by rw[show Pz kind no=false from decide_eq_false (by omega)],(B3 w)⟩
 have a0:=of_decide_eq_false a0
 exact xe 15 (.bool false) ⟨by rw[show Pz kind no=false from decide_eq_false (by omega)],(B3 w)⟩
theorem Zdh(a:O0)(c k w:Nat)(l:Bl)(W:World)(hw:w=1∨w=2∨w=4)(hk:k+w≤l.length)(hl:l.length≤100000000)(h:Bys W (.slice a l.length c) l) :
 C0 105 #[.slice a l.length c,V0 (k:Int),V0 (w:Int)] W (Ret (V0 (Zl l k w:Int)) W):=by
 refine zin 17 Tryz.func105 ?_
 refine xr 10 (args:=#[.slice a l.length c,V0 (k:Int),V0 (w:Int)]) (Zaf a c k w l _ (by omega) hk hl (h.below (B3 W)) (by have:=Qb l k w (by omega);omega)) fun W1 a0=>?_
 exact xe 14 (V0 (↑(Zl l k w):Int)) ⟨rfl,a0⟩
theorem Gq(a:O0)(n c k w:Nat)(ki wi:Int)(l:Bl)(W:World)(hn:l.length=n)(hki:ki=(k:Int))(hwi:wi=(w:Int))(hw:w=1∨w=2∨w=4)(hk:k+w≤n)(hl:n≤100000000)(h:Bys W (.slice a n c) l) :
 C0 105 #[.slice a n c,V0 ki,V0 wi] W (Ret (V0 (Zl l k w:Int)) W):=by
 subst hn hki hwi;exact Zdh a c k w l W hw hk hl h
def Ul(kind no:Int)(l:Bl):Nat→Bool
 | 0=>!Pz kind no
 | 1=>(l.length:Int) != 256
 | 2=>(Zl l 252 4:Int) != (Sx l kind:Int)
 | 3=>(Zl l 0 4:Int) != no
 | 4=>(Zl l 4 2:Int) != kind
 | _=>(Zl l 6 2:Int) != 0
def Yy(kind no:Int)(l:Bl):Int :=
 if Ul kind no l 0 then 1 else if Ul kind no l 1 then 7 else if Ul kind no l 2 then 4 else if Ul kind no l 3 then 5 else if Ul kind no l 4 then 6 else if Ul kind no l 5 then 7 else 0
theorem Zc5{kind no:Int}{l:Bl}(h:Ul kind no l 1=false):l.length=256:=by
 have:(l.length:Int)=256:=Yv h
 omega
theorem open_1(kind no:Int)(w:World)(l:Bl)(bk:Nat)(kk:Blk w bk [V0 kind] 3)(bn:Nat)(kn:Blk w bn [V0 no] 3) :
 C0 101 #[P0 bk,P0 bn] w (Ret (.bool (Ul kind no l 0)) w):=by
 refine zin 7 Tryz.func101 ?_
 refine xb 7 0 kk ?_
 refine xb 0 0 kn ?_
 refine xr 0 (args:=#[V0 kind,V0 no]) (Ta kind no _) fun W1 a0=>?_
 exact xe 5 (.bool (!(Pz kind no))) ⟨rfl,a0⟩
theorem open_2(kind no:Int)(w:World)(bb:Nat)(a:O0)(c:Nat)(l:Bl)(kb:Blk w bb [.slice a l.length c] 36) :
 C0 103 #[P0 bb] w (Ret (.bool (Ul kind no l 1)) w):=by
 refine zin 5 Tryz.func103 ?_
 refine xb 7 0 kb ?_
 exact xe 6 (.bool ((l.length:Int) != (256:Int))) ⟨rfl,(B3 w)⟩
theorem Zfh(kind:Int)(a:O0)(c n:Nat)(l:Bl)(w:World)(hn:l.length=n)(h256:n=256)(hc:256≤c)(h:Bys w (.slice a n c) l) :
 C0 106 #[.slice a n c,V0 kind] w (Ret (V0 (Sx l kind:Int)) w):=by
 subst h256;exact Oj kind a c l w hn hc h
theorem open_3(kind no:Int)(w:World)(bb:Nat)(a:O0)(c:Nat)(l:Bl)(kb:Blk w bb [.slice a l.length c] 36)(bk:Nat)(kk:Blk w bk [V0 kind] 3)(hl:l.length=256)(hc:256≤c)(h:Bys w (.slice a l.length c) l) :
 C0 104 #[P0 bb,P0 bk] w (Ret (.bool (Ul kind no l 2)) w):=by
 refine zin 9 Tryz.func104 ?_
 refine xd 6 .z ?_
 have a1:=kb.below (Za w)
 refine xb (.e [] 0) 0 a1 ?_
 refine xb (.e [] 2) 0 a1 ?_
 have a3:=kk.below (Za w)
 refine xb (.e [] 3) 0 a3 ?_
 have hB:=(Za w)
 refine xr (.o [] 1) (args:=#[.slice a l.length c,V0 252,V0 4]) (Gq a l.length c 252 4 252 4 l _ rfl rfl rfl (by decide) (by omega) (by omega) (h.below hB)) fun W1 a4=>?_
 have a0:=bln hB a4
 refine xr (.o [] 4) (args:=#[.slice a l.length c,V0 kind]) (Zfh kind a c l.length l _ rfl hl hc (h.below a0)) fun W2 a5=>?_
 have a2:=bln a0 a5
 exact xe (.r [5,6] 3) (.bool ((↑(Zl l 252 4):Int) != (↑(Sx l kind):Int))) ⟨rfl,a2⟩
theorem open_4(kind no:Int)(w:World)(bb:Nat)(a:O0)(c:Nat)(l:Bl)(kb:Blk w bb [.slice a l.length c] 36)(bn:Nat)(kn:Blk w bn [V0 no] 3)(hl:l.length=256)(hc:256≤c)(h:Bys w (.slice a l.length c) l) :
 C0 107 #[P0 bb,P0 bn] w (Ret (.bool (Ul kind no l 3)) w):=by
 refine zin 7 Tryz.func107 ?_
 refine xd 6 .z ?_
 have a1:=kb.below (Za w)
 refine xb (.e [] 0) 0 a1 ?_
 have a0:=kn.below (Za w)
 refine xb (.e [] 2) 0 a0 ?_
 have hB:=(Za w)
 refine xr (.o [] 1) (args:=#[.slice a l.length c,V0 0,V0 4]) (Gq a l.length c 0 4 0 4 l _ rfl rfl rfl (by decide) (by omega) (by omega) (h.below hB)) fun W1 a3=>?_
 have a2:=bln hB a3
 exact xe (.r [3,4] 3) (.bool ((↑(Zl l 0 4):Int) != no)) ⟨rfl,a2⟩
theorem open_5(kind no:Int)(w:World)(bb:Nat)(a:O0)(c:Nat)(l:Bl)(kb:Blk w bb [.slice a l.length c] 36)(bk:Nat)(kk:Blk w bk [V0 kind] 3)(hl:l.length=256)(hc:256≤c)(h:Bys w (.slice a l.length c) l) :
 C0 108 #[P0 bb,P0 bk] w (Ret (.bool (Ul kind no l 4)) w):=by
 refine zin 7 Tryz.func108 ?_
 refine xd 6 .z ?_
 have a2:=kb.below (Za w)
 refine xb (.e [] 0) 0 a2 ?_
 have a0:=kk.below (Za w)
 refine xb (.e [] 2) 0 a0 ?_
 have hB:=(Za w)
 refine xr (.o [] 1) (args:=#[.slice a l.length c,V0 4,V0 2]) (Gq a l.length c 4 2 4 2 l _ rfl rfl rfl (by decide) (by omega) (by omega) (h.below hB)) fun W1 a3=>?_
 have a1:=bln hB a3
 exact xe (.r [3,4] 3) (.bool ((↑(Zl l 4 2):Int) != kind)) ⟨rfl,a1⟩
theorem open_6(kind no:Int)(w:World)(bb:Nat)(a:O0)(c:Nat)(l:Bl)(kb:Blk w bb [.slice a l.length c] 36)(hl:l.length=256)(hc:256≤c)(h:Bys w (.slice a l.length c) l) :
 C0 109 #[P0 bb] w (Ret (.bool (Ul kind no l 5)) w):=by
 refine zin 5 Tryz.func109 ?_
 refine xb 7 0 kb ?_
 refine xr 0 (args:=#[.slice a l.length c,V0 6,V0 2]) (Gq a l.length c 6 2 6 2 l _ rfl rfl rfl (by decide) (by omega) (by omega) (h.below (B3 w))) fun W1 a0=>?_
 exact xe 5 (.bool ((↑(Zl l 6 2):Int) != (0:Int))) ⟨rfl,a0⟩
def OpenP(kind no:Int)(l:Bl)(w:World)(e:Ending)(w':World):Prop :=
 (Yy kind no l≠0∧e=.returned (.tuple #[S0,V0 (Yy kind no l)])∧B0 w w') ∨
 (Yy kind no l=0∧∃ p c,e=.returned (.tuple #[.slice p 244 c,V0 0])∧B0 w w'∧w'.ownsRow w.heap.size 5 1 (.slice p 244 c) 244 (((l.drop 8).take 244).map bv))
theorem Zea(kind no:Int)(a:O0)(c:Nat)(l:Bl)(w:World)(h:Bys w (.slice a l.length c) l) :
 C0 82 #[.slice a l.length c,V0 kind,V0 no] w (OpenP kind no l w):=by
 have m3:=h.cap rfl
 refine zin 39 Tryz.func82 ?_
 refine xa 2 [.slice a l.length c] 36 fun b1 W1 n1=>?_
 refine xa 0 [V0 kind] 3 fun b2 W2 n2=>?_
 refine xa 0 [V0 no] 3 fun b3 W3 n3=>?_
 have l4:=n3.ne n2.blk
 refine xbs 18 6 [.func (.func 101) #[] #[P0 b2,P0 b3],V0 1,.func (.func 103) #[] #[P0 b1],V0 7,.func (.func 104) #[] #[P0 b1,P0 b2],V0 4,.func (.func 107) #[] #[P0 b1,P0 b3],V0 5,.func (.func 108) #[] #[P0 b1,P0 b2],V0 6,.func (.func 109) #[] #[P0 b1],V0 7] 183 fun b4 W4 n4=>?_
 refine xu 12 7 ?_
 refine xlv 14 (n4.blk.rpp 0 2) ?_
 refine xa 0 [.nilFunc,V0 0] 183 fun b5 W5 n5=>?_
 have i7:=n5.ne n4.blk
 refine xsv 0 n5.blk [.func (.func 101) #[] #[P0 b2,P0 b3],V0 1] fun W6 u6 k6=>?_
 have g5:=n5.ge (bln (bln (bln n1.below n2.below) n3.below) n4.below)
 refine xb 5 0 k6 ?_
 have i3:=u6.blkT (((n2.blk.below n3.below).below n4.below).below n5.below) n5.blk (by decide)
 have k3:=u6.blkT ((n3.blk.below n4.below).below n5.below) n5.blk (by decide)
 refine xr 0 (args:=#[P0 b2,P0 b3]) (open_1 kind no _ l b2 i3 b3 k3) fun W7 b6=>?_
 refine xi 2 (Ul kind no l 0) (fun j2=>?_) (fun j2=>?_)
 ·have c8:=j2
  refine xd 1 .z ?_
  have j9:=(k6.below b6).below (Za W7)
  refine xb (.e [0] 1) 1 j9 ?_
  have hB:=bln (bln (u6.below (bln (bln (bln (bln n1.below n2.below) n3.below) n4.below) n5.below) g5) b6) (Za W7)
  refine xe (.r [2,3] 8) (.tuple #[S0,V0 1]) ?_
  have he:Yy kind no l=1:=by simp[Yy,c8]
  exact .inl ⟨by rw[he];decide,by rw[he],hB⟩
 have c8:=j2
 have e0:=(u6.blk (n4.blk.below n5.below) (Ne.symm (Ne.symm i7))).below b6
 refine xlv 22 (e0.rpp 2 2) ?_
 refine xa 0 [.nilFunc,V0 0] 183 fun b9 W9 n9=>?_
 have h1:=n9.ne e0
 have h0:=k6.below b6
 have h8:=n9.ne h0
 refine xsv 0 n9.blk [.func (.func 103) #[] #[P0 b1],V0 7] fun n6 e1 k7=>?_
 have g9:=n9.ge (bln (u6.below (bln (bln (bln (bln n1.below n2.below) n3.below) n4.below) n5.below) g5) b6)
 refine xb 5 0 k7 ?_
 have k1:=e1.blkT (((u6.blkT ((((n1.blk.below n2.below).below n3.below).below n4.below).below n5.below) n5.blk (by decide)).below b6).below n9.below) n9.blk (by decide)
 refine xr 0 (args:=#[P0 b1]) (open_2 kind no _ b1 a c l k1) fun l7 a4=>?_
 refine xi 2 (Ul kind no l 1) (fun e2=>?_) (fun e2=>?_)
 ·have a3:=e2
  refine xd 1 .z ?_
  have h7:=(k7.below a4).below (Za l7)
  refine xb (.e [0] 1) 1 h7 ?_
  have hB:=bln (bln (e1.below (bln (bln (u6.below (bln (bln (bln (bln n1.below n2.below) n3.below) n4.below) n5.below) g5) b6) n9.below) g9) a4) (Za l7)
  refine xe (.r [2,3] 8) (.tuple #[S0,V0 7]) ?_
  have he:Yy kind no l=7:=by simp[Yy,c8,a3]
  exact .inl ⟨by rw[he];decide,by rw[he],hB⟩
 have a3:=e2
 have l5:=Zc5 a3
 have d4:=(e1.blk (e0.below n9.below) (Ne.symm (Ne.symm h1))).below a4
 refine xlv 22 (d4.rpp 4 2) ?_
 refine xa 0 [.nilFunc,V0 0] 183 fun o2 n0 a7=>?_
 have d9:=a7.ne d4
 have i4:=(e1.blk (h0.below n9.below) (Ne.symm (Ne.symm h8))).below a4
 have e7:=a7.ne i4
 have c2:=k7.below a4
 have e6:=a7.ne c2
 have hB:=bln (e1.below (bln (bln (u6.below (bln (bln (bln (bln n1.below n2.below) n3.below) n4.below) n5.below) g5) b6) n9.below) g9) a4
 have m7:=a7.ge hB
 refine xsv 0 a7.blk [.func (.func 104) #[] #[P0 b1,P0 b2],V0 4] fun o7 f2 k5=>?_
 refine xb 5 0 k5 ?_
 have h2:=f2.blkT ((k1.below a4).below a7.below) a7.blk (by decide)
 have h6:=f2.blkT (((e1.blkT ((i3.below b6).below n9.below) n9.blk (by decide)).below a4).below a7.below) a7.blk (by decide)
 have f0:=f2.below (bln hB a7.below) m7
 refine xr 0 (args:=#[P0 b1,P0 b2]) (open_3 kind no _ b1 a c l h2 b2 h6 (Zc5 a3) (by have:=Zc5 a3;have:=h.cap rfl;omega) (h.below f0)) fun l6 a2=>?_
 refine xi 2 (Ul kind no l 2) (fun d6=>?_) (fun d6=>?_)
 ·have f6:=d6
  refine xd 1 .z ?_
  have i6:=(k5.below a2).below (Za l6)
  refine xb (.e [0] 1) 1 i6 ?_
  have j7:=bln (bln f0 a2) (Za l6)
  refine xe (.r [2,3] 8) (.tuple #[S0,V0 4]) ?_
  have he:Yy kind no l=4:=by simp[Yy,c8,a3,f6]
  exact .inl ⟨by rw[he];decide,by rw[he],j7⟩
 have f6:=d6
 have f5:=(f2.blk (d4.below a7.below) (Ne.symm (Ne.symm d9))).below a2
 refine xlv 22 (f5.rpp 6 2) ?_
 refine xa 0 [.nilFunc,V0 0] 183 fun m9 o3 a5=>?_
 have f1:=a5.ne f5
 have g4:=(f2.blk (i4.below a7.below) (Ne.symm (Ne.symm e7))).below a2
 have e9:=a5.ne g4
 have c7:=(f2.blk (c2.below a7.below) (Ne.symm (Ne.symm e6))).below a2
 have d7:=a5.ne c7
 have d1:=k5.below a2
 have c0:=a5.ne d1
 have h5:=bln f0 a2
 have m4:=a5.ge h5
 refine xsv 0 a5.blk [.func (.func 107) #[] #[P0 b1,P0 b3],V0 5] fun o4 d0 k2=>?_
 refine xb 5 0 k2 ?_
 have g7:=d0.blkT ((h2.below a2).below a5.below) a5.blk (by decide)
 have j6:=d0.blkT (((f2.blkT (((e1.blkT ((k3.below b6).below n9.below) n9.blk (by decide)).below a4).below a7.below) a7.blk (by decide)).below a2).below a5.below) a5.blk (by decide)
 have d3:=d0.below (bln h5 a5.below) m4
 refine xr 0 (args:=#[P0 b1,P0 b3]) (open_4 kind no _ b1 a c l g7 b3 j6 (Zc5 a3) (by have:=Zc5 a3;have:=h.cap rfl;omega) (h.below d3)) fun l9 a1=>?_
 refine xi 2 (Ul kind no l 3) (fun e3=>?_) (fun e3=>?_)
 ·have f8:=e3
  refine xd 1 .z ?_
  have i0:=(k2.below a1).below (Za l9)
  refine xb (.e [0] 1) 1 i0 ?_
  have j4:=bln (bln d3 a1) (Za l9)
  refine xe (.r [2,3] 8) (.tuple #[S0,V0 5]) ?_
  have he:Yy kind no l=5:=by simp[Yy,c8,a3,f6,f8]
  exact .inl ⟨by rw[he];decide,by rw[he],j4⟩
 have f8:=e3
 have f3:=(d0.blk (f5.below a5.below) (Ne.symm (Ne.symm f1))).below a1
 refine xlv 22 (f3.rpp 8 2) ?_
 refine xa 0 [.nilFunc,V0 0] 183 fun m8 n7 a6=>?_
 have e5:=a6.ne f3
 have g0:=(d0.blk (g4.below a5.below) (Ne.symm (Ne.symm e9))).below a1
 have d5:=a6.ne g0
 have d2:=(d0.blk (c7.below a5.below) (Ne.symm (Ne.symm d7))).below a1
 have e8:=a6.ne d2
 have c4:=(d0.blk (d1.below a5.below) (Ne.symm (Ne.symm c0))).below a1
 have b7:=a6.ne c4
 have c6:=k2.below a1
 have b8:=a6.ne c6
 have i1:=bln d3 a1
 have m6:=a6.ge i1
 refine xsv 0 a6.blk [.func (.func 108) #[] #[P0 b1,P0 b2],V0 6] fun o5 c9 j8=>?_
 refine xb 5 0 j8 ?_
 have h3:=c9.blkT ((g7.below a1).below a6.below) a6.blk (by decide)
 have k9:=c9.blkT (((d0.blkT ((h6.below a2).below a5.below) a5.blk (by decide)).below a1).below a6.below) a6.blk (by decide)
 have d8:=c9.below (bln i1 a6.below) m6
 refine xr 0 (args:=#[P0 b1,P0 b2]) (open_5 kind no _ b1 a c l h3 b2 k9 (Zc5 a3) (by have:=Zc5 a3;have:=h.cap rfl;omega) (h.below d8)) fun m0 a0=>?_
 refine xi 2 (Ul kind no l 4) (fun f4=>?_) (fun f4=>?_)
 ·have i9:=f4
  refine xd 1 .z ?_
  have g3:=(j8.below a0).below (Za m0)
  refine xb (.e [0] 1) 1 g3 ?_
  have l0:=bln (bln d8 a0) (Za m0)
  refine xe (.r [2,3] 8) (.tuple #[S0,V0 6]) ?_
  have he:Yy kind no l=6:=by simp[Yy,c8,a3,f6,f8,i9]
  exact .inl ⟨by rw[he];decide,by rw[he],l0⟩
 have i9:=f4
 have g8:=(c9.blk (f3.below a6.below) (Ne.symm (Ne.symm e5))).below a0
 refine xlv 22 (g8.rpp 10 2) ?_
 refine xa 0 [.nilFunc,V0 0] 183 fun o0 n8 a9=>?_
 have l2:=a9.ne g8
 have j5:=(c9.blk (g0.below a6.below) (Ne.symm (Ne.symm d5))).below a0
 have l1:=a9.ne j5
 have g6:=(c9.blk (d2.below a6.below) (Ne.symm (Ne.symm e8))).below a0
 have k8:=a9.ne g6
 have g1:=(c9.blk (c4.below a6.below) (Ne.symm (Ne.symm b7))).below a0
 have i8:=a9.ne g1
 have i2:=(c9.blk (c6.below a6.below) (Ne.symm (Ne.symm b8))).below a0
 have j1:=a9.ne i2
 have i5:=j8.below a0
 have j0:=a9.ne i5
 have h4:=bln d8 a0
 have m5:=a9.ge h4
 refine xsv 0 a9.blk [.func (.func 109) #[] #[P0 b1],V0 7] fun o1 m2 l8=>?_
 refine xb 5 0 l8 ?_
 have g2:=m2.blkT ((h3.below a0).below a9.below) a9.blk (by decide)
 have a8:=m2.below (bln h4 a9.below) m5
 refine xr 0 (args:=#[P0 b1]) (open_6 kind no _ b1 a c l g2  (Zc5 a3) (by have:=Zc5 a3;have:=h.cap rfl;omega) (h.below a8)) fun m1 b0=>?_
 refine xi 2 (Ul kind no l 5) (fun e4=>?_) (fun e4=>?_)
 ·have k4:=e4
  refine xd 1 .z ?_
  have f9:=(l8.below b0).below (Za m1)
  refine xb (.e [0] 1) 1 f9 ?_
  have h9:=bln (bln a8 b0) (Za m1)
  refine xe (.r [2,3] 8) (.tuple #[S0,V0 7]) ?_
  have he:Yy kind no l=7:=by simp[Yy,c8,a3,f6,f8,i9,k4]
  exact .inl ⟨by rw[he];decide,by rw[he],h9⟩
 have k4:=e4
 have k0:=g2.below b0
 refine xb 22 0 k0 ?_
 refine xsB 0 (fun _ _ _ _ _ zo zx zy zz V=>Hp (k:=8) (h:=252) (b:=a) (n:=l.length) (c:=c) (i:=8) (ki:=.i64) (j:=252) (kj:=.i64) 1 zo zx zy rfl zz rfl (by omega) (by omega) Tryz.underlying36 (by kernel_rfl) V) ?_
 have c5:=bln a8 b0
 refine xc 0 (args:=#[.slice (Pq a 8 c 1) 244 (c-8)]) (Yx (Pq a 8 c 1) 244 (c-8) ((l.drop 8).take 244) _ (by have:=Zc5 a3;simp;omega) ((Bys.cut h rfl 8 252 (by decide) (by have:=Zc5 a3;omega)).below c5) (by decide)) ?_
 rintro _ o6 ⟨_,rfl,l3,ho⟩
 have j3:=(bln a8 b0).size
 have c1:=Zh ho j3
 unfold Ud at c1
 rw[show((l.drop 8).take 244).length=244 from by have:=Zc5 a3;simp;omega] at c1
 obtain⟨p,c3,rfl⟩:=(Zg c1).slice
 have f7:=bln c5 l3
 exact xe 5 (.tuple #[.slice p 244 c3,V0 0]) (.inr ⟨by simp[Yy,c8,a3,f6,f8,i9,k4],_,_,rfl,f7,c1⟩)
end Go.Proofs.YtgphgaehfdfjjaaGreat
namespace Go.Proofs.YtgphgaehfdfjjaaGreat
set_option maxHeartbeats 8000000
set_option maxRecDepth 100000
open Go.RowKit Go.Extern.Stop Go.Stop Go.Extern
set_option linter.unusedVariables false
section
variable {P:Program} {Q:Exit→Act→World→Prop} {a:Act} {w:World} {K:Act→World→Prop}
theorem Oz{o:Oper}{d x:Operand}{dT sT e:TypeId}{base g off n cap dLen dCap:Nat}{xs:List Value}(l:Bl)(xs':List Value)(ho:o.op=.call { callee:=.builtin .copy,args:=#[d,x],argTypes:=#[dT,sT] })(hu:P.underlying dT=some (.slice e))(hsz:(P.info? e).map (·.size)=some 1)
 (hd:a.eval d=.slice (some ⟨g,off,none⟩) dLen dCap) (hs:a.eval x=.string ⟨l.toArray⟩) (hown:w.ownsRow base e 1 (.slice (S1 g) n cap) n xs) (hm:l.length≤dLen) (hfit:off+l.length≤n)
 (hbase:base≤w.heap.size) (hxs:xs.take off++l.map bv++xs.drop (off+l.length)=xs')
 (h:∀ W,W.ownsRow base e 1 (.slice (S1 g) n cap) n xs'→w.grownBy W (Value.slice (S1 g) n cap).ownBlock→Below base w W→K (a.put o.dst (V0 (l.length:Int))) W):o.wp P a w K Q:=by
 obtain⟨hl,hr⟩:=hown
 rcases hr with ⟨hv,_⟩|⟨g2,b1,a1,hv,a6,hh,a8,a5,a4,a9⟩
 ·cases hv
 simp only[Value.slice.injEq,Option.some.injEq,Addr.mk.injEq] at hv
 obtain⟨⟨rfl,_,_⟩,_,rfl⟩:=hv
 have b0:xs.length=n:=by simpa using hl
 have a3:a1.toList.length=cap:=by simpa using a4
 have a7:(l.map bv).length=l.length:=by simp
 have b2:∀ W,W.heap[g]? = some (.cells (a1.toList.take off++l.map bv++a1.toList.drop (off+l.length)).toArray e (0,0))→w.grownBy W (some g)→K (a.put o.dst (V0 (l.length:Int))) W:=by
  intro W hW hg
  refine h W ⟨?_,.inr ⟨g,cap,_,rfl,a6,hW,a8,a5,?_,?_⟩⟩ hg (Jz (v:=.slice (S1 g) n cap) hg ⟨hl,.inr ⟨g,cap,a1,rfl,a6,hh,a8,a5,a4,a9⟩⟩ (Nat.le_refl _) hbase)
  ·rw[←hxs];simp;omega
  ·simp only[List.size_toArray,List.length_append,List.length_take,List.length_drop,a3,Nat.mul_one,a7];omega
  ·have hA:(a1.toList.take off++l.map bv).length=off+l.length:=by simp only[List.length_append,List.length_take,a3,a7];omega
   rw[←hxs,←a9]
   simp only[Nat.mul_one]
   rw[List.take_append,List.take_of_length_le (by rw[hA];omega),hA,List.take_take,Nat.min_eq_left (by omega:off≤n),List.drop_take]
 have a0:(⟨l.toArray⟩:ByteArray).size=l.length:=by show l.toArray.size=l.length;simp
 have a2:=Go.Lib.run_copy_row_string (P:=P) w dT sT o.type e g off dLen dCap ⟨l.toArray⟩ a1 e hu hsz hh (by rw[a0];exact hm) (by rw[a0,a4];omega)
 rw[a0] at a2
 have b3:Go.Lib.byteCells (⟨l.toArray⟩:ByteArray).data.toList=l.map bv:=rfl
 rw[b3] at a2
 have h2:(execOp a.eval o).run P w=.ok (.value (V0 (l.length:Int))) (w.setRow g (a1.toList.take off++l.map bv++a1.toList.drop (off+l.length)).toArray):=by
  simp[execOp,ho,resolve,invoke,builtin,hd,hs,a2,Result.andThen,goInt]
 exact Ht h2 (b2 _ (setRow_heap w g _ _ e _ hh) ⟨rfl,rfl,rfl,by simp,fun k _ hk=>setRow_other w g k _ (fun e=>hk (by rw[e]))⟩)
theorem Sl.head{b:O0}{n c:Nat}{xs:List Value}(h:Sl w (.slice b n c) n xs)(hn:xs.length=n)(m:Nat)(hm:m≤n):Sl w (.slice b m c) m (xs.take m):=by
 rcases h with ⟨a',c',h1,h2,h3⟩|⟨b',a0,a2,h1,h2,h3,h4⟩
 ·obtain rfl:m=0:=by omega
  simp only[Value.slice.injEq] at h1
  exact .inl ⟨b,c,rfl,rfl,by simp⟩
 ·simp only[Value.slice.injEq] at h1
  obtain⟨rfl,_,rfl⟩:=h1
  refine .inr ⟨b',a0,c,rfl,by omega,h3,fun j x hj=>h4 j x ?_⟩
  have a1:j<m:=by have:=(List.getElem?_eq_some_iff.1 hj).1;simp at this;omega
  rwa [List.getElem?_take_of_lt a1] at hj
def sv (l:Bl):Value:=.string ⟨l.toArray⟩
theorem Strs.elem{b:O0}{n c:Nat}{V:List Bl}(h:Sl w (.slice b n c) n (V.map sv))(hl:V.length=n){k:Nat}(hk:k<n):b.isSome=true∧w.cell? (Xa b (k*1))=some (.string ⟨(V.getD k []).toArray⟩):=by
 rcases h with ⟨a',c',h1,h2,h3⟩|⟨b',a0,a1,h1,h2,h3,h4⟩
 ·omega
 ·simp only[Value.slice.injEq] at h1
  obtain⟨rfl,_,rfl⟩:=h1
  refine⟨rfl,?_⟩
  have:=h4 k (sv (V.getD k [])) (by simp[List.getD,List.getElem?_eq_getElem (show k<V.length by omega)])
  rw[Nat.mul_one]
  show w.cell? ((⟨b',a0,none⟩:Addr).add k)=_
  rw[Addr.add_mid]
  exact this
end
end Go.Proofs.YtgphgaehfdfjjaaGreat
namespace Go.Proofs.YtgphgaehfdfjjaaGreat
set_option maxHeartbeats 8000000
set_option maxRecDepth 100000
open Go.RowKit Go.Extern.Stop Go.Stop Go.Extern
set_option linter.unusedVariables false
attribute [local irreducible] wpList wpAnyH Code.wp Oper.wp Go
theorem Sl.cap{w:World}{b:O0}{n c:Nat}{xs:List Value}(h:Sl w (.slice b n c) n xs):n≤c:=by
 rcases h with ⟨a',c',h1,h2,_⟩|⟨b',a0,cap,h1,h2,_,_⟩
 ·omega
 ·simp only[Value.slice.injEq] at h1;omega
def Ha(b:Bool):Int:=if b then 1 else 0
theorem Dp(b:Bool):0≤Ha b∧Ha b<256:=by cases b<;>decide
structure NodeOk(t:Int)(leaf:Bool)(n m v:Nat)(K:List Int)(Vs:List (List UInt8)):Prop where
 ht1:1≤t
 ht2:t≤5
 hm:Qq t leaf=m
 hv:Jv t leaf=v
 hK:K.length=n
 hV:Vs.length=n
 hn:n≤m
 hl:leaf=false→1≤n
 hk0:∀ i,i<n→0≤K.getD i 0∧K.getD i 0≤281474976710655
 hk1:∀ j,j+1<n→K.getD j 0<K.getD (j+1) 0
 hw:∀ i,i<n→(Vs.getD i []).length=v
theorem Ba(t:Int)(leaf:Bool):4≤Jv t leaf∧Jv t leaf≤24:=by
 unfold Jv
 repeat' split
 all_goals decide
theorem fitN(t:Int)(leaf:Bool):12+Qq t leaf*8+Qq t leaf*Jv t leaf≤244:=by
 unfold Jv Qq
 repeat' split
 all_goals decide
theorem Rh{K:List Int}{i j:Nat}(h:j<i):(K.take i).getD j 0=K.getD j 0:=by simp[List.getD,List.getElem?_take_of_lt h]
theorem Mr(t:Int)(leaf:Bool)(m:Nat)(hm:Qq t leaf=m)(h1:1≤t)(h2:t≤5)(w:World):C0 50 #[V0 t,.bool leaf] w (Ret (V0 (m:Int)) w):=by
 subst hm;exact Nt t leaf h1 h2 w
theorem Uq(t:Int)(leaf:Bool)(v:Nat)(hv:Jv t leaf=v)(h1:1≤t)(h2:t≤5)(w:World):C0 46 #[V0 t,.bool leaf] w (Ret (V0 (v:Int)) w):=by
 subst hv;exact Dj t leaf h1 h2 w
theorem Zd7(leaf:Bool)(w:World) :
 C0 71 #[.bool leaf] w (Ret (V0 (Ha leaf)) w):=by
 refine zin 4 Tryz.func71 ?_
 refine xi 11 leaf (fun a0=>?_) (fun a0=>?_)
 ·exact xe 7 (V0 1) ⟨by simp_all [Ha],(B3 w)⟩
 exact xe 8 (V0 0) ⟨by simp_all [Ha],(B3 w)⟩
theorem Zag(a:O0)(i c:Nat)(L:List Int)(k:Int)(w:World)(hL:L.length=i)(h:Sl w (.slice a i c) i (L.map V0))(h1:0≤k)(h2:k≤281474976710655)(h3:∀ j,i=j+1→L.getD j 0<k)(hi:i≤1000) :
 C0 88 #[.slice a i c,V0 k] w (Ret (V0 0) w):=by
 refine zin 26 Tryz.func88 ?_
 refine xgk 12 [7,8] (show(decide (k<(0:Int)):Bool)=false from decide_eq_false (by omega)) ?_
 refine xk 6 (show(decide (k>(281474976710655:Int)):Bool)=false from decide_eq_false (by omega)) ?_
 refine xg 6 [15,16] (decide ((i:Int)>(0:Int))) (fun a0=>?_) (fun a0=>?_)
 ·have a0:=of_decide_eq_true a0
  refine xwm 3 ((i:Int)-1) (↑(i-1):Int) ?_
  refine xx 0 _ i (i-1) 1 (IntsN.elem h hL (k:=(i-1)) (by omega)).1 ?_
  refine xl 0 ((IntsN.elem h hL (k:=(i-1)) (by omega)).2) ?_
  refine xk 6 (show(decide ((L.getD (i-1) 0)≥k):Bool)=false from decide_eq_false (by have:=h3 (i-1) (by omega);omega)) ?_
  exact xe 9 (V0 0) ⟨rfl,(B3 w)⟩
 have a0:=of_decide_eq_false a0
 exact xe 22 (V0 0) ⟨rfl,(B3 w)⟩
theorem Zcg(t:Int)(leaf:Bool)(n m v:Nat)(K:List Int)(Vs:List Bl)(ak av:O0)(ck cv:Nat)(w:World)(N:NodeOk t leaf n m v K Vs)(hKs:Sl w (.slice ak n ck) n (K.map V0))(hVs:Sl w (.slice av n cv) n (Vs.map sv)) :
 C0 70 #[.agg #[V0 t,.bool leaf,.slice ak n ck,.slice av n cv]] w (Ret (.bool true) w):=by
 have b9:=N.ht1
 have c0:=N.ht2
 have d1:=N.hn
 have c4:=Ba t leaf
 rw[N.hv] at c4
 have c6:=Xv t leaf
 rw[N.hm] at c6
 have b8:=fitN t leaf
 rw[N.hm,N.hv] at b8
 have c1:=Sl.cap hKs
 refine zin 70 Tryz.func70 ?_
 refine xa 2 [V0 t,.bool leaf,.slice ak n ck,.slice av n cv] 117 fun b1 W1 n1=>?_
 refine xb 6 0 n1.blk ?_
 refine xb 1 1 n1.blk ?_
 refine xr 0 (args:=#[V0 t,.bool leaf]) (Uq t leaf v N.hv b9 c0 _) fun W2 b4=>?_
 refine xd 5 .z ?_
 refine xgk (.b [0,1,2]) [12,13] (show(((v:Int)==(0:Int)):Bool)=false from by simp;omega) ?_
 have a6:=(n1.blk.below b4).below (Za W2)
 refine xb (.e [3] 4) 2 a6 ?_
 refine xb (.e [5,6] 7) 0 a6 ?_
 refine xb (.e [8] 9) 1 a6 ?_
 refine xr (.o [] 10) (args:=#[V0 t,.bool leaf]) (Mr t leaf m N.hm b9 c0 _) fun W4 b7=>?_
 refine xgk (.b [11,12,13]) [22,23,24] (show(decide ((n:Int)>(m:Int)):Bool)=false from decide_eq_false (by omega)) ?_
 have a0:=a6.below b7
 refine xb (.e [14] 15) 3 a0 ?_
 refine xb (.e [16,17] 18) 2 a0 ?_
 refine xgk (.b [19,20,21,22]) [31,32,33] (show(((n:Int) != (n:Int)):Bool)=false from by simp) ?_
 refine xb (.e [23] 24) 1 a0 ?_
 refine xg (.b [25,26]) [36,37] (!leaf) (fun c3=>?_) (fun c3=>?_)
 ·refine xb (.e [27] 28) 2 a0 ?_
  refine xk (.r [29,30,31,32] 2) (show(((n:Int)==(0:Int)):Bool)=false from by have:=N.hl (by simp_all);simp;omega) ?_
  refine xb 6 2 a0 ?_
  have hB:=bln (bln (bln n1.below b4) (Za W2)) b7
  refine zl 5 70 (fun zm b5 V=>∃ (i:Nat),b5=[(1,P0 b1),(3,V0 (v:Int)),(45,.slice ak n ck),(46,V0 (n:Int)),(47,V0 (i:Int))]∧zm=n-((i:Int)).toNat∧B0 w V∧Blk V b1 ([V0 t,.bool leaf,.slice ak n ck,.slice av n cv]) 117∧i≤n) ⟨0,rfl,rfl,hB,a0,Nat.zero_le _⟩ ?_
  rintro _ _ W8 ⟨i,rfl,rfl,a5,a7,hi⟩ J8 c2 r8
  refine xid 6 ((i:Int)<(n:Int)) (fun c5=>?_) (fun c5=>?_)
  ·refine xx 7 _ n i 1 (IntsN.elem hKs N.hK (k:=i) (by omega)).1 ?_
   refine xl 0 ((IntsN.elem (hKs.below a5) N.hK (k:=i) (by omega)).2) ?_
   refine xb 7 2 a7 ?_
   refine xsH 1 (fun _ _ _ _ zo zx zy V=>Yn (k:=i) (b:=ak) (n:=n) (c:=ck) (i:=(i:Int)) (ki:=.i64) zo zx zy rfl (by omega) Tryz.underlying68 (by kernel_rfl) V) ?_
   refine xr 1 (args:=#[.slice ak i ck,V0 (K.getD i 0)]) (Zag ak i ck (K.take i) (K.getD i 0) _ (by rw[List.length_take,N.hK];omega) (by rw[List.map_take];exact(hKs.below a5).head (by simpa using N.hK) i (by omega)) (N.hk0 i (by omega)).1 (N.hk0 i (by omega)).2 (fun j e=>by subst e;rw[Rh (by omega)];exact N.hk1 j (by omega)) (by omega)) fun d2 b0=>?_
   have a2:=a7.below b0
   refine xb 3 3 a2 ?_
   refine xx 1 _ n i 1 (Strs.elem hVs N.hV (k:=i) (by omega)).1 ?_
   have a9:=bln a5 b0
   refine xl 0 ((Strs.elem (hVs.below a9) N.hV (k:=i) (by omega)).2) ?_
   refine xk 6 (show(((↑(Vs.getD i []).length:Int) != (v:Int)):Bool)=false from by rw[N.hw i (by omega)];simp) ?_
   refine xw 4 ((i:Int)+1) ?_
   exact ze 2 (c2 _ _ _ ⟨i+1,rfl,rfl,a9,a2,by omega⟩ (by omega))
  exact xe 11 (.bool true) ⟨rfl,a5⟩
 refine xb (.r [27,28,29,30,31,32] 9) 2 a0 ?_
 have hB:=bln (bln (bln n1.below b4) (Za W2)) b7
 refine zl 5 70 (fun zm b5 V=>∃ (i:Nat),b5=[(1,P0 b1),(3,V0 (v:Int)),(45,.slice ak n ck),(46,V0 (n:Int)),(47,V0 (i:Int))]∧zm=n-((i:Int)).toNat∧B0 w V∧Blk V b1 ([V0 t,.bool leaf,.slice ak n ck,.slice av n cv]) 117∧i≤n) ⟨0,rfl,rfl,hB,a0,Nat.zero_le _⟩ ?_
 rintro _ _ c8 ⟨i,rfl,rfl,a3,a4,hi⟩ d0 b6 c7
 refine xid 6 ((i:Int)<(n:Int)) (fun b3=>?_) (fun b3=>?_)
 ·refine xx 7 _ n i 1 (IntsN.elem hKs N.hK (k:=i) (by omega)).1 ?_
  refine xl 0 ((IntsN.elem (hKs.below a3) N.hK (k:=i) (by omega)).2) ?_
  refine xb 7 2 a4 ?_
  refine xsH 1 (fun _ _ _ _ zo zx zy V=>Yn (k:=i) (b:=ak) (n:=n) (c:=ck) (i:=(i:Int)) (ki:=.i64) zo zx zy rfl (by omega) Tryz.underlying68 (by kernel_rfl) V) ?_
  refine xr 1 (args:=#[.slice ak i ck,V0 (K.getD i 0)]) (Zag ak i ck (K.take i) (K.getD i 0) _ (by rw[List.length_take,N.hK];omega) (by rw[List.map_take];exact(hKs.below a3).head (by simpa using N.hK) i (by omega)) (N.hk0 i (by omega)).1 (N.hk0 i (by omega)).2 (fun j e=>by subst e;rw[Rh (by omega)];exact N.hk1 j (by omega)) (by omega)) fun c9 b2=>?_
  have a1:=a4.below b2
  refine xb 3 3 a1 ?_
  refine xx 1 _ n i 1 (Strs.elem hVs N.hV (k:=i) (by omega)).1 ?_
  have a8:=bln a3 b2
  refine xl 0 ((Strs.elem (hVs.below a8) N.hV (k:=i) (by omega)).2) ?_
  refine xk 6 (show(((↑(Vs.getD i []).length:Int) != (v:Int)):Bool)=false from by rw[N.hw i (by omega)];simp) ?_
  refine xw 4 ((i:Int)+1) ?_
  exact ze 2 (b6 _ _ _ ⟨i+1,rfl,rfl,a8,a1,by omega⟩ (by omega))
 exact xe 11 (.bool true) ⟨rfl,a3⟩
def widG(t:Int)(leaf:Bool):Nat:=if 1≤t∧t≤5 then Jv t leaf else 0
def Zdi(t:Int)(leaf:Bool):Nat:=if 1≤t∧t≤5 then Qq t leaf else 0
theorem fitG(t:Int)(leaf:Bool):12+Zdi t leaf*8+Zdi t leaf*widG t leaf≤244:=by
 unfold Zdi widG;split
 ·exact fitN t leaf
 ·decide
theorem maxG_le(t:Int)(leaf:Bool):Zdi t leaf≤18:=by
 unfold Zdi;split
 ·exact(Xv t leaf).2
 ·decide
theorem widG_le(t:Int)(leaf:Bool):widG t leaf≤24:=by
 unfold widG;split
 ·exact(Ba t leaf).2
 ·decide
theorem Gx(t:Int)(leaf:Bool)(w:World)(h:¬ (1≤t∧t≤5)) :
 C0 46 #[V0 t,.bool leaf] w (Ret (V0 0) w):=by
 refine zin 31 Tryz.func46 ?_
 refine xg 17 [8,9] (decide (t<(1:Int))) (fun a0=>?_) (fun a0=>?_)
 ·have a0:=of_decide_eq_true a0
  exact xe 15 (V0 0) ⟨rfl,(B3 w)⟩
 have a0:=of_decide_eq_false a0
 refine xk 6 (show(decide (t>(5:Int)):Bool)=true from decide_eq_true (by omega)) ?_
 exact xe 8 (V0 0) ⟨rfl,(B3 w)⟩
theorem Ug(t:Int)(leaf:Bool)(w:World):C0 46 #[V0 t,.bool leaf] w (Ret (V0 (widG t leaf:Int)) w):=by
 unfold widG
 by_cases h:1≤t∧t≤5
 ·rw[if_pos h];exact Dj t leaf h.1 h.2 w
 ·rw[if_neg h];exact Gx t leaf w h
theorem Fu(t:Int)(leaf:Bool)(w:World)(h:¬ (1≤t∧t≤5)) :
 C0 50 #[V0 t,.bool leaf] w (Ret (V0 0) w):=by
 refine zin 16 Tryz.func50 ?_
 refine xr 9 (args:=#[V0 t,.bool leaf]) (Gx t leaf _ h) fun W1 a0=>?_
 exact xe 18 (V0 0) ⟨rfl,a0⟩
theorem Sf(t:Int)(leaf:Bool)(w:World):C0 50 #[V0 t,.bool leaf] w (Ret (V0 (Zdi t leaf:Int)) w):=by
 unfold Zdi
 by_cases h:1≤t∧t≤5
 ·rw[if_pos h];exact Nt t leaf h.1 h.2 w
 ·rw[if_neg h];exact Fu t leaf w h
def Zax(L:List Int)(i:Nat)(k:Int):Int:=if k<0∨281474976710655<k then 2 else if 0<i∧k≤L.getD (i-1) 0 then 8 else 0
def Yq(l:Bl):Int:=(Zl l 1 1:Int)
def Xm(l:Bl):Bool:=(Zl l 0 1:Int)==(1:Int)
def Zr(l:Bl):Nat:=Zl l 2 2
def Qj(l:Bl):Nat:=widG (Yq l) (Xm l)
def Vi(l:Bl):Nat:=Zdi (Yq l) (Xm l)
def Ld(l:Bl):Bool:=decide (Zl l 0 1≤1∧Qj l≠0∧Zl l 2 2≤Vi l∧Zl l 4 2=Qj l∧Zl l 6 2=Vi l∧Zl l 8 4=0∧(Zl l 0 1=1∨0<Zl l 2 2))
def ShapeP(l:Bl)(w:World)(e:Ending)(w':World):Prop :=
 (Ld l=false∧∃ a b c,e=.returned (.tuple #[.agg #[V0 a,.bool b,S0,S0],V0 c,.bool false])∧B0 w w') ∨
 (Ld l=true∧e=.returned (.tuple #[.agg #[V0 (Yq l),.bool (Xm l),S0,S0],V0 (Zr l:Int),.bool true])∧B0 w w')
theorem Wu(a:O0)(n c:Nat)(l:Bl)(aw:O0)(cw m:Nat)(ws:List Nat)(xs:List Nat)(W:World)(hn:l.length=n)(hm:ws.length=m)(hx:Hk l 0 ws=xs)(hk:∀ i,i<ws.length→ws.getD i 0=1∨ws.getD i 0=2∨ws.getD i 0=4∨ws.getD i 0=8)(hs:ws.sum≤n)(hl:n≤100000000)(hw:ws.length≤1000)(h:Bys W (.slice a n c) l)(hws:Sl W (.slice aw m cw) m (ws.map nv))(hq:∀ i,i<ws.length→(Hk l 0 ws).getD i 0<9223372036854775808) :
 C0 97 #[.slice a n c,.slice aw m cw] W (Kg (fun w' r=>∃ p c,r=.tuple #[.slice p m c,V0 0]∧w'.ownsRow W.heap.size 3 1 (.slice p m c) m (xs.map nv)) W):=by
 subst hn hm hx;exact Fq a c l aw cw ws W hk hs hl hw h hws hq
def Qx(l:Bl):List Nat:=[Zl l 0 1,Zl l 1 1,Zl l 2 2,Zl l 4 2,Zl l 6 2,Zl l 8 4]
theorem head6_bd(l:Bl)(i:Nat)(hi:i<6):(Hk l 0 [1,1,2,2,2,4]).getD i 0<9223372036854775808:=by
 have h1:=Qb l 0 1 (by decide)
 have h2:=Qb l 1 1 (by decide)
 have h3:=Qb l 2 2 (by decide)
 have h4:=Qb l 4 2 (by decide)
 have h5:=Qb l 6 2 (by decide)
 have h6:=Qb l 8 4 (by decide)
 obtain rfl|rfl|rfl|rfl|rfl|rfl:i=0∨i=1∨i=2∨i=3∨i=4∨i=5:=by omega
 all_goals simp[Hk]
 all_goals omega
theorem Zas(a:O0)(c:Nat)(l:Bl)(w:World)(hl:l.length=244)(h:Bys w (.slice a 244 c) l) :
 C0 133 #[.slice a 244 c] w (ShapeP l w):=by
 refine zin 92 Tryz.func133 ?_
 refine xa 2 [V0 0,.bool false,S0,S0] 117 fun b1 W1 n1=>?_
 refine xbs 18 6 [V0 1,V0 1,V0 2,V0 2,V0 2,V0 4] 3 fun b2 W2 n2=>?_
 have hB:=bln n1.below n2.below
 refine xc 0 (args:=#[.slice a 244 c,.slice (S1 b2) 6 6]) (Wu a 244 c l (S1 b2) 6 6 [1,1,2,2,2,4] (Qx l) _ hl rfl rfl (by decide) (by decide) (by decide) (by decide) (h.below hB) (n2.blk.sl 6 6 (by decide) (by decide)) (head6_bd l)) ?_
 rintro _ W3 ⟨_,rfl,f2,p5,c5,rfl,h5⟩
 have g5:=(bln n1.below n2.below).size
 refine xd 8 (.t w.heap.size [117]) ?_
 have b5:=Zb (Zh h5 g5) (Za W3)
 refine xx (.e [0] 1) _ 6 1 1 (Zu (l:=Qx l) (Zg b5) rfl (k:=1) (by decide)).1 ?_
 refine xlt (.e [] 2) (.t w.heap.size [117]) (fun V hV=>(Zu (l:=Qx l) (Zg (Zi b5 hV.2 (by decide))) rfl (k:=1) (by decide)).2) ?_
 refine xx (.e [3] 4) _ 6 0 1 (Zu (l:=Qx l) (Zg b5) rfl (k:=0) (by decide)).1 ?_
 refine xlt (.e [] 5) (.t w.heap.size [117]) (fun V hV=>(Zu (l:=Qx l) (Zg (Zi b5 hV.2 (by decide))) rfl (k:=0) (by decide)).2) ?_
 refine xa (.o [6,7] 8) [V0 0,.bool false,S0,S0] 117 fun b4 W4 n4=>?_
 have k1:=((n1.blk.below n2.below).below f2).below (Za W3)
 have a3:=n4.ne k1
 have a5:=bln (bln hB f2) (Za W3)
 have g4:=n4.ge a5
 refine ysv (.o [] 9) n4.blk [V0 (↑(Zl l 1 1):Int),.bool ((↑(Zl l 0 1):Int)==(1:Int)),S0,S0] (.t w.heap.size [117]) fun W5 u5 k5=>⟨(Zw u5 n4.blk g4 (by decide)),?_⟩
 have b8:=u5.own2 (Zb b5 n4.below) n4.blk (by decide)
 refine xx 6 _ 6 0 1 (Zu (l:=Qx l) (Zg b8) rfl (k:=0) (by decide)).1 ?_
 refine xl 0 ((Zu (l:=Qx l) (Zg b8) rfl (k:=0) (by decide)).2) ?_
 refine xg 2 [32,33] (decide ((↑(Zl l 0 1):Int)>(1:Int))) (fun c7=>?_) (fun c7=>?_)
 ·have c7:=of_decide_eq_true c7
  have e2:=u5.blk (k1.below n4.below) (Ne.symm (Ne.symm a3))
  refine xsv 13 e2 [V0 0,.bool false,S0,S0] fun W7 u7 k7=>?_
  have g1:=n1.ge (B3 w)
  have d6:=u7.below (u5.below (bln a5 n4.below) g4) g1
  exact xec 6 k7 (.tuple #[.agg #[V0 0,.bool false,S0,S0],V0 0,.bool false]) (.inl ⟨decide_eq_false (by omega),_,_,_,rfl,d6⟩)
 have c7:=of_decide_eq_false c7
 refine xb 1 0 k5 ?_
 refine xb 1 1 k5 ?_
 refine xr 0 (args:=#[V0 (↑(Zl l 1 1):Int),.bool ((↑(Zl l 0 1):Int)==(1:Int))]) (Ug (Yq l) (Xm l) _) fun W8 a7=>?_
 refine xie 4 (↑(Qj l):Int) (0:Int) (fun g3=>?_) (fun g3=>?_)
 ·have d7:=(u5.blk (k1.below n4.below) (Ne.symm (Ne.symm a3))).below a7
  refine xsv 3 d7 [V0 0,.bool false,S0,S0] fun h3 f7 f6=>?_
  have g1:=n1.ge (B3 w)
  have e4:=f7.below (bln (u5.below (bln a5 n4.below) g4) a7) g1
  exact xec 6 f6 (.tuple #[.agg #[V0 0,.bool false,S0,S0],V0 0,.bool false]) (.inl ⟨decide_eq_false (by omega),_,_,_,rfl,e4⟩)
 refine xd 3 .z ?_
 have a6:=(k5.below a7).below (Za W8)
 refine xb (.e [0] 1) 0 a6 ?_
 refine xb (.e [2] 3) 1 a6 ?_
 refine xb (.e [5] 6) 0 a6 ?_
 refine xb (.e [7] 8) 1 a6 ?_
 refine xr (.o [] 4) (args:=#[V0 (↑(Zl l 1 1):Int),.bool ((↑(Zl l 0 1):Int)==(1:Int))]) (Ug (Yq l) (Xm l) _) fun g9 a1=>?_
 refine xr (.o [] 9) (args:=#[V0 (↑(Zl l 1 1):Int),.bool ((↑(Zl l 0 1):Int)==(1:Int))]) (Sf (Yq l) (Xm l) _) fun a4 a0=>?_
 have a2:=Zb (Zb (Zb (Zb b8 a7) (Za W8)) a1) a0
 refine xx (.r [10,11] 5) _ 6 2 1 (Zu (l:=Qx l) (Zg a2) rfl (k:=2) (by decide)).1 ?_
 refine xl 0 ((Zu (l:=Qx l) (Zg a2) rfl (k:=2) (by decide)).2) ?_
 refine xg 3 [56,57] (decide ((↑(Zl l 2 2):Int)≤(↑(Vi l):Int))) (fun b6=>?_) (fun b6=>?_)
 ·have b6:=of_decide_eq_true b6
  refine xx 1 _ 6 3 1 (Zu (l:=Qx l) (Zg a2) rfl (k:=3) (by decide)).1 ?_
  refine xl 0 ((Zu (l:=Qx l) (Zg a2) rfl (k:=3) (by decide)).2) ?_
  refine xg 4 [62,63,64] ((↑(Zl l 4 2):Int)==(↑(Qj l):Int)) (fun b3=>?_) (fun b3=>?_)
  ·have b3:=eq_of_beq b3
   refine xx 1 _ 6 4 1 (Zu (l:=Qx l) (Zg a2) rfl (k:=4) (by decide)).1 ?_
   refine xl 0 ((Zu (l:=Qx l) (Zg a2) rfl (k:=4) (by decide)).2) ?_
   refine xg 4 [69,70,71] ((↑(Zl l 6 2):Int)==(↑(Vi l):Int)) (fun b0=>?_) (fun b0=>?_)
   ·have b0:=eq_of_beq b0
    refine xx 1 _ 6 5 1 (Zu (l:=Qx l) (Zg a2) rfl (k:=5) (by decide)).1 ?_
    refine xl 0 ((Zu (l:=Qx l) (Zg a2) rfl (k:=5) (by decide)).2) ?_
    refine xg 3 [75,76,77] ((↑(Zl l 8 4):Int)==(0:Int)) (fun a9=>?_) (fun a9=>?_)
    ·have a9:=eq_of_beq a9
     have b7:=(a6.below a1).below a0
     refine xb 1 1 b7 ?_
     refine xg 1 [27,37,45,50,79,80] ((↑(Zl l 0 1):Int)==(1:Int)) (fun a8=>?_) (fun a8=>?_)
     ·have a8:=eq_of_beq a8
      refine xd 10 (.t w.heap.size [117]) ?_
      have c9:=Zb a2 (Za a4)
      refine xx (.e [1] 2) _ 6 2 1 (Zu (l:=Qx l) (Zg c9) rfl (k:=2) (by decide)).1 ?_
      refine xlt (.e [] 3) (.t w.heap.size [117]) (fun V hV=>(Zu (l:=Qx l) (Zg (Zi c9 hV.2 (by decide))) rfl (k:=2) (by decide)).2) ?_
      have e7:=b7.below (Za a4)
      refine xlv (.o [4] 0) e7.rp ?_
      have c4:=(((((u5.blk (k1.below n4.below) (Ne.symm (Ne.symm a3))).below a7).below (Za W8)).below a1).below a0).below (Za a4)
      have g1:=n1.ge (B3 w)
      refine ysv (.o [] 5) c4 [V0 (↑(Zl l 1 1):Int),.bool ((↑(Zl l 0 1):Int)==(1:Int)),S0,S0] (.t w.heap.size [117]) fun h1 f4 g2=>⟨(Zw f4 c4 g1 (by decide)),?_⟩
      have d4:=f4.below (bln (bln (bln (bln (bln (u5.below (bln a5 n4.below) g4) a7) (Za W8)) a1) a0) (Za a4)) g1
      exact xec (.r [6,7] 3) g2 (.tuple #[.agg #[V0 (↑(Zl l 1 1):Int),.bool ((↑(Zl l 0 1):Int)==(1:Int)),S0,S0],V0 (↑(Zl l 2 2):Int),.bool true]) (.inr ⟨decide_eq_true (by omega),rfl,d4⟩)
     have a8:=Yc a8
     refine xx 1 _ 6 2 1 (Zu (l:=Qx l) (Zg a2) rfl (k:=2) (by decide)).1 ?_
     refine xl 0 ((Zu (l:=Qx l) (Zg a2) rfl (k:=2) (by decide)).2) ?_
     refine xd 7 (.t w.heap.size [117]) ?_
     have b9:=Zb a2 (Za a4)
     refine xx (.e [1] 2) _ 6 2 1 (Zu (l:=Qx l) (Zg b9) rfl (k:=2) (by decide)).1 ?_
     refine xlt (.e [] 3) (.t w.heap.size [117]) (fun V hV=>(Zu (l:=Qx l) (Zg (Zi b9 hV.2 (by decide))) rfl (k:=2) (by decide)).2) ?_
     have e6:=b7.below (Za a4)
     refine xlv (.o [4] 0) e6.rp ?_
     have d3:=(((((u5.blk (k1.below n4.below) (Ne.symm (Ne.symm a3))).below a7).below (Za W8)).below a1).below a0).below (Za a4)
     have g1:=n1.ge (B3 w)
     refine ysv (.o [] 5) d3 [V0 (↑(Zl l 1 1):Int),.bool ((↑(Zl l 0 1):Int)==(1:Int)),S0,S0] (.t w.heap.size [117]) fun h2 e9 f9=>⟨(Zw e9 d3 g1 (by decide)),?_⟩
     have c6:=e9.below (bln (bln (bln (bln (bln (u5.below (bln a5 n4.below) g4) a7) (Za W8)) a1) a0) (Za a4)) g1
     refine xec (.r [6,7] 3) f9 (.tuple #[.agg #[V0 (↑(Zl l 1 1):Int),.bool ((↑(Zl l 0 1):Int)==(1:Int)),S0,S0],V0 (↑(Zl l 2 2):Int),.bool (decide ((↑(Zl l 2 2):Int)>(0:Int)))]) ?_
     rcases Bool.eq_false_or_eq_true (decide ((↑(Zl l 2 2):Int)>(0:Int))) with hq|hq
     ·have g8:=of_decide_eq_true hq
      rw[hq];exact .inr ⟨decide_eq_true (by omega),rfl,c6⟩
     ·have g8:=of_decide_eq_false hq
      rw[hq];exact .inl ⟨decide_eq_false (by omega),_,_,_,rfl,c6⟩
    have a9:=Yc a9
    refine xd 13 (.t w.heap.size [117]) ?_
    have c1:=Zb a2 (Za a4)
    refine xx (.e [1] 2) _ 6 2 1 (Zu (l:=Qx l) (Zg c1) rfl (k:=2) (by decide)).1 ?_
    refine xlt (.e [] 3) (.t w.heap.size [117]) (fun V hV=>(Zu (l:=Qx l) (Zg (Zi c1 hV.2 (by decide))) rfl (k:=2) (by decide)).2) ?_
    have d9:=((a6.below a1).below a0).below (Za a4)
    refine xlv (.o [4] 0) d9.rp ?_
    have c0:=(((((u5.blk (k1.below n4.below) (Ne.symm (Ne.symm a3))).below a7).below (Za W8)).below a1).below a0).below (Za a4)
    have g1:=n1.ge (B3 w)
    refine ysv (.o [] 5) c0 [V0 (↑(Zl l 1 1):Int),.bool ((↑(Zl l 0 1):Int)==(1:Int)),S0,S0] (.t w.heap.size [117]) fun h7 f1 g0=>⟨(Zw f1 c0 g1 (by decide)),?_⟩
    have d8:=f1.below (bln (bln (bln (bln (bln (u5.below (bln a5 n4.below) g4) a7) (Za W8)) a1) a0) (Za a4)) g1
    exact xec (.r [6,7] 3) g0 (.tuple #[.agg #[V0 (↑(Zl l 1 1):Int),.bool ((↑(Zl l 0 1):Int)==(1:Int)),S0,S0],V0 (↑(Zl l 2 2):Int),.bool false]) (.inl ⟨decide_eq_false (by omega),_,_,_,rfl,d8⟩)
   have b0:=Yc b0
   refine xd 19 (.t w.heap.size [117]) ?_
   have d1:=Zb a2 (Za a4)
   refine xx (.e [1] 2) _ 6 2 1 (Zu (l:=Qx l) (Zg d1) rfl (k:=2) (by decide)).1 ?_
   refine xlt (.e [] 3) (.t w.heap.size [117]) (fun V hV=>(Zu (l:=Qx l) (Zg (Zi d1 hV.2 (by decide))) rfl (k:=2) (by decide)).2) ?_
   have d5:=((a6.below a1).below a0).below (Za a4)
   refine xlv (.o [4] 0) d5.rp ?_
   have c8:=(((((u5.blk (k1.below n4.below) (Ne.symm (Ne.symm a3))).below a7).below (Za W8)).below a1).below a0).below (Za a4)
   have g1:=n1.ge (B3 w)
   refine ysv (.o [] 5) c8 [V0 (↑(Zl l 1 1):Int),.bool ((↑(Zl l 0 1):Int)==(1:Int)),S0,S0] (.t w.heap.size [117]) fun h6 f5 g7=>⟨(Zw f5 c8 g1 (by decide)),?_⟩
   have e0:=f5.below (bln (bln (bln (bln (bln (u5.below (bln a5 n4.below) g4) a7) (Za W8)) a1) a0) (Za a4)) g1
   exact xec (.r [6,7] 3) g7 (.tuple #[.agg #[V0 (↑(Zl l 1 1):Int),.bool ((↑(Zl l 0 1):Int)==(1:Int)),S0,S0],V0 (↑(Zl l 2 2):Int),.bool false]) (.inl ⟨decide_eq_false (by omega),_,_,_,rfl,e0⟩)
  have b3:=Yc b3
  refine xd 26 (.t w.heap.size [117]) ?_
  have d0:=Zb a2 (Za a4)
  refine xx (.e [1] 2) _ 6 2 1 (Zu (l:=Qx l) (Zg d0) rfl (k:=2) (by decide)).1 ?_
  refine xlt (.e [] 3) (.t w.heap.size [117]) (fun V hV=>(Zu (l:=Qx l) (Zg (Zi d0 hV.2 (by decide))) rfl (k:=2) (by decide)).2) ?_
  have e5:=((a6.below a1).below a0).below (Za a4)
  refine xlv (.o [4] 0) e5.rp ?_
  have c3:=(((((u5.blk (k1.below n4.below) (Ne.symm (Ne.symm a3))).below a7).below (Za W8)).below a1).below a0).below (Za a4)
  have g1:=n1.ge (B3 w)
  refine ysv (.o [] 5) c3 [V0 (↑(Zl l 1 1):Int),.bool ((↑(Zl l 0 1):Int)==(1:Int)),S0,S0] (.t w.heap.size [117]) fun h4 f0 f8=>⟨(Zw f0 c3 g1 (by decide)),?_⟩
  have e8:=f0.below (bln (bln (bln (bln (bln (u5.below (bln a5 n4.below) g4) a7) (Za W8)) a1) a0) (Za a4)) g1
  exact xec (.r [6,7] 3) f8 (.tuple #[.agg #[V0 (↑(Zl l 1 1):Int),.bool ((↑(Zl l 0 1):Int)==(1:Int)),S0,S0],V0 (↑(Zl l 2 2):Int),.bool false]) (.inl ⟨decide_eq_false (by omega),_,_,_,rfl,e8⟩)
 have b6:=of_decide_eq_false b6
 refine xd 33 (.t w.heap.size [117]) ?_
 have c2:=Zb a2 (Za a4)
 refine xx (.e [1] 2) _ 6 2 1 (Zu (l:=Qx l) (Zg c2) rfl (k:=2) (by decide)).1 ?_
 refine xlt (.e [] 3) (.t w.heap.size [117]) (fun V hV=>(Zu (l:=Qx l) (Zg (Zi c2 hV.2 (by decide))) rfl (k:=2) (by decide)).2) ?_
 have e1:=((a6.below a1).below a0).below (Za a4)
 refine xlv (.o [4] 0) e1.rp ?_
 have d2:=(((((u5.blk (k1.below n4.below) (Ne.symm (Ne.symm a3))).below a7).below (Za W8)).below a1).below a0).below (Za a4)
 have g1:=n1.ge (B3 w)
 refine ysv (.o [] 5) d2 [V0 (↑(Zl l 1 1):Int),.bool ((↑(Zl l 0 1):Int)==(1:Int)),S0,S0] (.t w.heap.size [117]) fun h0 f3 g6=>⟨(Zw f3 d2 g1 (by decide)),?_⟩
 have e3:=f3.below (bln (bln (bln (bln (bln (u5.below (bln a5 n4.below) g4) a7) (Za W8)) a1) a0) (Za a4)) g1
 exact xec (.r [6,7] 3) g6 (.tuple #[.agg #[V0 (↑(Zl l 1 1):Int),.bool ((↑(Zl l 0 1):Int)==(1:Int)),S0,S0],V0 (↑(Zl l 2 2):Int),.bool false]) (.inl ⟨decide_eq_false (by omega),_,_,_,rfl,e3⟩)
theorem Zfi(a:O0)(i c:Nat)(L:List Int)(k:Int)(w:World)(hL:L.length=i)(h:Sl w (.slice a i c) i (L.map V0))(hi:i≤1000) :
 C0 88 #[.slice a i c,V0 k] w (Ret (V0 (Zax L i k)) w):=by
 refine zin 26 Tryz.func88 ?_
 refine xg 12 [7,8] (decide (k<(0:Int))) (fun a0=>?_) (fun a0=>?_)
 ·have a0:=of_decide_eq_true a0
  exact xe 15 (V0 2) ⟨by rw[show Zax L i k=2 from by unfold Zax;rw[if_pos (by omega)]],(B3 w)⟩
 have a0:=of_decide_eq_false a0
 refine xid 6 (k>(281474976710655:Int)) (fun a3=>?_) (fun a3=>?_)
 ·exact xe 8 (V0 2) ⟨by rw[show Zax L i k=2 from by unfold Zax;rw[if_pos (by omega)]],(B3 w)⟩
 refine xg 6 [15,16] (decide ((i:Int)>(0:Int))) (fun a1=>?_) (fun a1=>?_)
 ·have a1:=of_decide_eq_true a1
  refine xwm 3 ((i:Int)-1) (↑(i-1):Int) ?_
  refine xx 0 _ i (i-1) 1 (IntsN.elem h hL (k:=(i-1)) (by omega)).1 ?_
  refine xl 0 ((IntsN.elem h hL (k:=(i-1)) (by omega)).2) ?_
  refine xid 6 ((L.getD (i-1) 0)≥k) (fun a2=>?_) (fun a2=>?_)
  ·exact xe 8 (V0 8) ⟨by rw[show Zax L i k=8 from by unfold Zax;rw[if_neg (by omega),if_pos (by omega)]],(B3 w)⟩
  exact xe 9 (V0 0) ⟨by rw[show Zax L i k=0 from by unfold Zax;rw[if_neg (by omega),if_neg (by omega)]],(B3 w)⟩
 have a1:=of_decide_eq_false a1
 exact xe 22 (V0 0) ⟨by rw[show Zax L i k=0 from by unfold Zax;rw[if_neg (by omega),if_neg (by omega)]],(B3 w)⟩
def Fl(l:Bl)(i:Nat):Nat:=Zl l (12+i*8) 8
def Qy(l:Bl)(n:Nat):List Int:=(List.range n).map fun i=>(Fl l i:Int)
theorem Hz(l:Bl)(n:Nat):(Qy l n).length=n:=by simp[Qy]
theorem Zbp(l:Bl)(n:Nat):Qy l (n+1)=Qy l n++[(Fl l n:Int)]:=by simp[Qy,List.range_succ]
theorem Sj(l:Bl){n i:Nat}(h:i<n):(Qy l n).getD i 0=(Fl l i:Int):=by simp[Qy,List.getD,List.getElem?_range h]
def Zbz(l:Bl)(i:Nat):Bl:=(l.drop (12+Vi l*8+i*Qj l)).take (Qj l)
def Jr(l:Bl)(n:Nat):List Bl:=(List.range n).map (Zbz l)
theorem Mi(l:Bl)(n:Nat):(Jr l n).length=n:=by simp[Jr]
theorem Cl(l:Bl)(n:Nat):Jr l (n+1)=Jr l n++[Zbz l n]:=by simp[Jr,List.range_succ]
theorem So(l:Bl){n i:Nat}(h:i<n):(Jr l n).getD i []=Zbz l i:=by simp[Jr,List.getD,List.getElem?_range h]
def Ey(l:Bl)(i:Nat):Int:=if 281474976710655<Fl l i then 2 else if 0<i∧Fl l i≤Fl l (i-1) then 8 else 0
def Xz(l:Bl):Nat→Int
 | 0=>0
 | i+1=>if Xz l i≠0 then Xz l i else Ey l i
theorem Px{l:Bl}{i:Nat}(h:Xz l i≠0):∀ n,i≤n→Xz l n=Xz l i
 | 0,h2=>by
  obtain rfl:i=0:=by omega
  rfl
 | n+1,h2=>by
   by_cases e:i=n+1
   ·rw[e]
   ·have ih:=Px h n (by omega)
    rw[Xz,if_pos (by rw[ih];exact h),ih]
theorem Cz{l:Bl}{i n:Nat}(h:Xz l i=0)(he:Ey l i≠0)(hi:i<n):Xz l n=Ey l i:=by
 have e:Xz l (i+1)=Ey l i:=by rw[Xz,if_neg (by rw[h];decide)]
 rw[Px (by rw[e];exact he) n hi,e]
theorem Hx{l:Bl}{i:Nat}(h:Xz l i=0)(he:Ey l i=0):Xz l (i+1)=0:=by rw[Xz,if_neg (by rw[h];decide),he]
theorem keyE_R{l:Bl}{i:Nat}:Zax (Qy l i) i (Fl l i:Int)=Ey l i:=by
 unfold Zax Ey
 by_cases h:281474976710655<Fl l i
 ·rw[if_pos (by omega),if_pos h]
 ·rw[if_neg (by omega),if_neg h]
  by_cases h2:0<i
  ·rw[Sj l (show i-1<i by omega)]
   by_cases h3:Fl l i≤Fl l (i-1)
   ·rw[if_pos (by omega),if_pos (by omega)]
   ·rw[if_neg (by omega),if_neg (by omega)]
  ·rw[if_neg (by omega),if_neg (by omega)]
def Ep(l:Bl):Nat:=12+Zr l*8
def Za0(l:Bl):Nat:=12+Vi l*8
def Ex(l:Bl):Nat:=Za0 l+Zr l*Qj l
def Ih(l:Bl):Bool:=Kc ((l.drop (Ep l)).take (Za0 l-Ep l))&&Kc ((l.drop (Ex l)).take (244-Ex l))
def Ke(l:Bl):Int:=if Ld l then(if Ih l then Xz l (Zr l) else 7) else 7
def NodeP(l:Bl)(w:World)(e:Ending)(w':World):Prop :=
 (Ke l≠0∧e=.returned (.tuple #[.agg #[V0 0,.bool false,S0,S0],V0 (Ke l)])∧B0 w w') ∨
 (Ke l=0∧∃ kp kc vp vc,e=.returned (.tuple #[.agg #[V0 (Yq l),.bool (Xm l),.slice kp (Zr l) kc,.slice vp (Zr l) vc],V0 0])∧B0 w w' ∧
  w'.ownsRow w.heap.size 3 1 (.slice kp (Zr l) kc) (Zr l) ((Qy l (Zr l)).map V0)∧w'.ownsRow w.heap.size 9 1 (.slice vp (Zr l) vc) (Zr l) ((Jr l (Zr l)).map sv))
theorem Ml{l:Bl}(h:Ld l=true):Zr l≤Vi l:=(of_decide_eq_true h).2.2.1
theorem Cm(a:O0)(n c:Nat)(l:Bl)(w:World)(hn:l.length=n)(hl:n≤100000000)(h:Bys w (.slice a n c) l):C0 134 #[.slice a n c] w (Ret (.bool (Kc l)) w):=by
 subst hn;exact Zf2 a c l w hl h
theorem valN_bys{a:O0}{c i:Nat}{l:Bl}{w:World}(h:Bys w (.slice a 244 c) l)(hl:l.length=244)(hb:12+Vi l*8+(i+1)*Qj l≤244)(hi:(i+1)*Qj l=i*Qj l+Qj l) :
 Bys w (.slice (Pq a (12+Vi l*8+i*Qj l) c 1) (12+Vi l*8+(i+1)*Qj l-(12+Vi l*8+i*Qj l)) (c-(12+Vi l*8+i*Qj l))) (Zbz l i):=by
 have:=Bys.cut h hl (12+Vi l*8+i*Qj l) (12+Vi l*8+(i+1)*Qj l) (by omega) hb
 rw[show 12+Vi l*8+(i+1)*Qj l-(12+Vi l*8+i*Qj l)=Qj l by omega] at this ⊢
 exact this
theorem Zfs{i:Nat}{l:Bl}(hl:l.length=244)(hb:12+Vi l*8+(i+1)*Qj l≤244)(hi:(i+1)*Qj l=i*Qj l+Qj l):(Zbz l i).length=12+Vi l*8+(i+1)*Qj l-(12+Vi l*8+i*Qj l):=by
 unfold Zbz;simp only[List.length_take,List.length_drop];omega
def GetP(l:Bl)(k w:Nat)(W:World)(e:Ending)(w':World):Prop :=
 (Zl l k w<9223372036854775808∧e=.returned (.tuple #[V0 (Zl l k w:Int),V0 0])∧B0 W w')∨(¬ Zl l k w<9223372036854775808∧e=.returned (.tuple #[V0 0,V0 2])∧B0 W w')
theorem Get_P(a:O0)(n c k w:Nat)(l:Bl)(W:World)(hn:l.length=n)(hw:w=1∨w=2∨w=4∨w=8)(hk:k+w≤n)(hl:n≤100000000)(h:Bys W (.slice a n c) l)(wi:Int)(hwi:wi=(w:Int)) :
 C0 85 #[.slice a n c,V0 (k:Int),V0 wi] W (GetP l k w W):=by
 subst hn hwi
 by_cases hq:Zl l k w<9223372036854775808
 ·refine(Zaf a c k w l W hw hk hl h hq).mono ?_
  rintro e V ⟨rfl,hb⟩;exact .inl ⟨hq,rfl,hb⟩
 ·refine(Zeu a c k w l W hw hk hl h hq).mono ?_
  rintro e V ⟨rfl,hb⟩;exact .inr ⟨hq,rfl,hb⟩
theorem Zfl(l:Bl)(a:O0)(i c:Nat)(w:World)(h:Sl w (.slice a i c) i ((Qy l i).map V0))(hi:i≤1000) :
 C0 88 #[.slice a i c,V0 (↑(Fl l i):Int)] w (fun e w'=>(Ey l i=0∧e=.returned (V0 0)∧B0 w w')∨(Ey l i≠0∧e=.returned (V0 (Ey l i))∧B0 w w')):=by
 refine(Zfi a i c (Qy l i) (Fl l i) w (Hz l i) h hi).mono ?_
 rintro e W ⟨rfl,hb⟩
 rw[keyE_R]
 by_cases hz:Ey l i=0
 ·exact .inl ⟨hz,by rw[hz],hb⟩
 ·exact .inr ⟨hz,rfl,hb⟩
theorem Zf7(a:O0)(c:Nat)(l:Bl)(w:World)(hl:l.length=244)(h:Bys w (.slice a 244 c) l) :
 C0 128 #[.slice a 244 c] w (NodeP l w):=by
 have l3:=Bys.cap h hl
 refine zin 104 Tryz.func128 ?_
 refine xa 2 [V0 0,.bool false,S0,S0] 117 fun b1 W1 n1=>?_
 refine xc 6 (args:=#[.slice a 244 c]) (Zas a c l _ hl (h.below n1.below)) ?_
 rintro e W2 m9
 rcases m9 with ⟨hs,t0,l0,c0,rfl,e9⟩|⟨hs,rfl,e9⟩
 ·refine xa 4 [V0 0,.bool false,S0,S0] 117 fun b3 W3 n3=>?_
  have k1:=n1.blk.below e9
  have f4:=n3.ne k1
  have g4:=bln n1.below e9
  have g3:=n3.ge g4
  refine xsv 0 n3.blk [V0 t0,.bool l0,S0,S0] fun W4 u4 k4=>?_
  have j7:=u4.blk (k1.below n3.below) (Ne.symm (Ne.symm f4))
  refine xsv 15 j7 [V0 0,.bool false,S0,S0] fun W5 u5 k5=>?_
  have g1:=n1.ge (B3 w)
  have j3:=u5.below (u4.below (bln g4 n3.below) g3) g1
  refine xec 5 k5 (.tuple #[.agg #[V0 0,.bool false,S0,S0],V0 7]) ?_
  have he:Ke l=7:=by unfold Ke;simp[hs]
  exact .inl ⟨by rw[he];decide,by rw[he],j3⟩
 have m0:=Ml hs
 have i3:=fitG (Yq l) (Xm l)
 have i0:=maxG_le (Yq l) (Xm l)
 have h8:=widG_le (Yq l) (Xm l)
 change 12+Vi l*8+Vi l*Qj l≤244 at i3
 change Vi l≤18 at i0
 change Qj l≤24 at h8
 have o7:Zr l*Qj l≤Vi l*Qj l:=Nat.mul_le_mul_right _ m0
 refine xa 4 [V0 0,.bool false,S0,S0] 117 fun b6 W6 n6=>?_
 have k1:=n1.blk.below e9
 have a3:=n6.ne k1
 have g9:=bln n1.below e9
 have g6:=n6.ge g9
 refine xsv 0 n6.blk [V0 (Yq l),.bool (Xm l),S0,S0] fun W7 u7 k7=>?_
 refine xd 15 .z ?_
 have b7:=k7.below (Za W7)
 refine xb (.e [0] 1) 0 b7 ?_
 refine xb (.e [2] 3) 1 b7 ?_
 refine xb (.e [5] 6) 0 b7 ?_
 refine xb (.e [7] 8) 1 b7 ?_
 refine xr (.o [] 4) (args:=#[V0 (Yq l),.bool (Xm l)]) (Ug (Yq l) (Xm l) _) fun W8 e8=>?_
 refine xr (.o [] 9) (args:=#[V0 (Yq l),.bool (Xm l)]) (Sf (Yq l) (Xm l) _) fun W9 f1=>?_
 refine xwm (.r [10,11] 5) ((↑(Vi l):Int)*8) (↑((Vi l)*8):Int) ?_
 refine xwm 0 (12+(↑((Vi l)*8):Int)) (↑(12+((Vi l)*8)):Int) ?_
 refine xwm 8 ((↑(Zr l):Int)*8) (↑((Zr l)*8):Int) ?_
 refine xwm 0 (12+(↑((Zr l)*8):Int)) (↑(12+((Zr l)*8)):Int) ?_
 refine xsB 1 (fun _ _ _ _ _ zo zx zy zz V=>Hp (k:=(12+((Zr l)*8))) (h:=(12+((Vi l)*8))) (b:=a) (n:=244) (c:=c) (i:=(↑(12+((Zr l)*8)):Int)) (ki:=.i64) (j:=(↑(12+((Vi l)*8)):Int)) (kj:=.i64) 1 zo zx zy rfl zz rfl (by omega) (by omega) Tryz.underlying36 (by kernel_rfl) V) ?_
 have d9:=bln (bln (bln (u7.below (bln g9 n6.below) g6) (Za W7)) e8) f1
 refine xr 0 (args:=#[.slice (Pq a (12+((Zr l)*8)) c 1) ((12+((Vi l)*8))-(12+((Zr l)*8))) (c-(12+((Zr l)*8)))]) (Cm (Pq a (12+((Zr l)*8)) c 1) ((12+((Vi l)*8))-(12+((Zr l)*8))) (c-(12+((Zr l)*8))) _ _ (by simp;omega) (by omega) ((Bys.cut h hl (12+((Zr l)*8)) (12+((Vi l)*8)) (by omega) (by omega)).below d9)) fun n4 b4=>?_
 refine xg 2 [42,43] (!(Kc ((l.drop (Ep l)).take (Za0 l-Ep l)))) (fun e2=>?_) (fun e2=>?_)
 ·have h3:Kc ((l.drop (Ep l)).take (Za0 l-Ep l))=false:=by simpa using e2
  have j4:=((((u7.blk (k1.below n6.below) (Ne.symm (Ne.symm a3))).below (Za W7)).below e8).below f1).below b4
  refine xsv 16 j4 [V0 0,.bool false,S0,S0] fun o0 l5 l1=>?_
  have g1:=n1.ge (B3 w)
  have i2:=l5.below (bln d9 b4) g1
  refine xec 5 l1 (.tuple #[.agg #[V0 0,.bool false,S0,S0],V0 7]) ?_
  have he:Ke l=7:=by unfold Ke;simp[hs,Ih,h3]
  exact .inl ⟨by rw[he];decide,by rw[he],i2⟩
 have h3:Kc ((l.drop (Ep l)).take (Za0 l-Ep l))=true:=by simpa using e2
 refine xwm 4 ((↑(Zr l):Int)*(↑(Qj l):Int)) (↑((Zr l)*(Qj l)):Int) ?_
 refine xwm 0 ((↑(12+((Vi l)*8)):Int)+(↑((Zr l)*(Qj l)):Int)) (↑((12+((Vi l)*8))+((Zr l)*(Qj l))):Int) ?_
 refine xsL 0 (fun _ _ _ _ zo zx zy V=>Uv (k:=((12+((Vi l)*8))+((Zr l)*(Qj l)))) (b:=a) (n:=244) (c:=c) (i:=(↑((12+((Vi l)*8))+((Zr l)*(Qj l))):Int)) (ki:=.i64) 1 zo zx zy rfl (by omega) Tryz.underlying36 (by kernel_rfl) V) ?_
 have e3:=bln d9 b4
 refine xr 0 (args:=#[.slice (Pq a ((12+((Vi l)*8))+((Zr l)*(Qj l))) c 1) (244-((12+((Vi l)*8))+((Zr l)*(Qj l)))) (c-((12+((Vi l)*8))+((Zr l)*(Qj l))))]) (Cm (Pq a ((12+((Vi l)*8))+((Zr l)*(Qj l))) c 1) (244-((12+((Vi l)*8))+((Zr l)*(Qj l)))) (c-((12+((Vi l)*8))+((Zr l)*(Qj l)))) _ _ (by simp;omega) (by omega) ((Bys.cut h hl (12+((Vi l)*8)+((Zr l)*(Qj l))) 244 (by omega) (by omega)).below e3)) fun n0 c1=>?_
 refine xi 4 (!(Kc ((l.drop (Ex l)).take (244-Ex l)))) (fun e0=>?_) (fun e0=>?_)
 ·have k0:Kc ((l.drop (Ex l)).take (244-Ex l))=false:=by simpa using e0
  have j8:=(((((u7.blk (k1.below n6.below) (Ne.symm (Ne.symm a3))).below (Za W7)).below e8).below f1).below b4).below c1
  refine xsv 3 j8 [V0 0,.bool false,S0,S0] fun n7 l6 l2=>?_
  have g1:=n1.ge (B3 w)
  have h9:=l6.below (bln e3 c1) g1
  refine xec 5 l2 (.tuple #[.agg #[V0 0,.bool false,S0,S0],V0 7]) ?_
  have he:Ke l=7:=by unfold Ke;simp[hs,Ih,h3,k0]
  exact .inl ⟨by rw[he];decide,by rw[he],h9⟩
 have k0:Kc ((l.drop (Ex l)).take (244-Ex l))=true:=by simpa using e0
 have j5:Ih l=true:=by unfold Ih;rw[h3,k0];rfl
 have k2:=bln e3 c1
 have i4:=(((((u7.blk (k1.below n6.below) (Ne.symm (Ne.symm a3))).below (Za W7)).below e8).below f1).below b4).below c1
 have i7:=(((b7.below e8).below f1).below b4).below c1
 refine zl 10 104 (fun zm m7 V=>∃ (i:Nat) (kp:O0) (kc:Nat) (vp:O0) (vc:Nat),m7=[(0,.slice a 244 c),(2,P0 b1),(4,P0 b6),(7,V0 (↑(Qj l):Int)),(9,V0 (↑(12+((Vi l)*8)):Int)),(55,V0 (↑(Zr l):Int)),(56,V0 (i:Int))]∧zm=Zr l-((i:Int)).toNat∧B0 w V∧Blk V b1 ([V0 0,.bool false,S0,S0]) 117∧Blk V b6 ([V0 (Yq l),.bool (Xm l),.slice kp i kc,.slice vp i vc]) 117∧V.ownsRow w.heap.size 3 1 (.slice kp i kc) i ((Qy l i).map V0)∧V.ownsRow w.heap.size 9 1 (.slice vp i vc) i ((Jr l i).map sv)∧i≤Zr l∧Xz l i=0) ⟨0,none,0,none,0,rfl,rfl,k2,i4,i7,World.ownsRow_nil _ _ _ _,World.ownsRow_nil _ _ _ _,Nat.zero_le _,rfl⟩ ?_
 rintro _ _ o4 ⟨i,kp,kc,vp,vc,rfl,rfl,a5,a0,c3,hK,hV,hi,hz⟩ p4 f7 p9
 have k3:(i+1)*Qj l=i*Qj l+Qj l:=Nat.succ_mul i (Qj l)
 have m5:i<Zr l→(i+1)*Qj l≤Vi l*Qj l:=fun hh=>Nat.mul_le_mul_right _ (by omega)
 refine xid 6 ((i:Int)<(↑(Zr l):Int)) (fun i6=>?_) (fun i6=>?_)
 ·refine xwm 14 ((i:Int)*8) (↑(i*8):Int) ?_
  refine xwm 0 (12+(↑(i*8):Int)) (↑(12+(i*8)):Int) ?_
  refine xc 0 (args:=#[.slice a 244 c,V0 (↑(12+(i*8)):Int),V0 8]) (Get_P a 244 c (12+(i*8)) 8 l _ hl (by decide) (by omega) (by decide) (h.below a5) 8 rfl) ?_
  rintro e p1 i1
  rcases i1 with ⟨l7,rfl,a2⟩|⟨l7,rfl,a2⟩
  ·have a6:=c3.below a2
   refine xb 17 2 a6 ?_
   have g5:=Zb hK a2
   refine xc 1 (args:=#[.slice kp i kc,V0 (↑(Fl l i):Int)]) (Zfl l kp i kc _ (Zg g5) (by omega)) ?_
   rintro e o1 i5
   rcases i5 with ⟨e5,rfl,a4⟩|⟨e5,rfl,a4⟩
   ·have a7:=a6.below a4
    refine xb 16 2 a7 ?_
    refine xbs 1 1 [V0 (↑(Fl l i):Int)] 3 fun p0 o5 c8=>?_
    have g8:=bln (bln a5 a2) a4
    have o8:=c8.ge g8
    have f2:=Zb g5 a4
    have h6:=Xd f2 c8
    have c6:=Zb f2 c8.below
    have d3:=bln g8 c8.below
    refine xbi 0 fun _ _ _ _ zJ zQ zo zx zy zK=>Xk (m:=1) (news:=[V0 (↑(Fl l i):Int)]) (V0 0) 1 8 (i+1) ((Qy l (i+1)).map V0) zo Tryz.underlying68 (by kernel_rfl) rfl (by decide) zx c6 zy (c8.blk.sl 1 1 (by decide) (by decide)) rfl (by simp[Value.oneCell']) (by unfold maxLen;omega) (by omega) d3.size (by rfl) (by rw[Zbp,List.map_append];rfl) fun e1 e4 n5 k8 d0 j1=>?_
    refine zK _ _ ?_
    have a1:=(a7.below c8.below).grown d0 c6 (by decide)
    refine xs 1 a1 [V0 (Yq l),.bool (Xm l),.slice e1 (i+1) e4,.slice vp i vc] fun d8 e6 k6=>?_
    refine xd 2 (.t w.heap.size [9,117]) ?_
    refine xwm (.e [0,2,3,4,5] 6) ((i:Int)*(↑(Qj l):Int)) (↑(i*(Qj l)):Int) ?_
    refine xwm (.e [] 7) ((↑(12+((Vi l)*8)):Int)+(↑(i*(Qj l)):Int)) (↑((12+((Vi l)*8))+(i*(Qj l))):Int) ?_
    refine xwm (.e [8,9] 10) ((i:Int)+1) (↑(i+1):Int) ?_
    refine xwm (.e [11] 12) ((↑(i+1):Int)*(↑(Qj l):Int)) (↑((i+1)*(Qj l)):Int) ?_
    refine xwm (.e [] 13) ((↑(12+((Vi l)*8)):Int)+(↑((i+1)*(Qj l)):Int)) (↑((12+((Vi l)*8))+((i+1)*(Qj l))):Int) ?_
    refine xsB (.e [] 14) (fun _ _ _ _ _ zo zx zy zz V=>Hp (k:=((12+((Vi l)*8))+(i*(Qj l)))) (h:=((12+((Vi l)*8))+((i+1)*(Qj l)))) (b:=a) (n:=244) (c:=c) (i:=(↑((12+((Vi l)*8))+(i*(Qj l))):Int)) (ki:=.i64) (j:=(↑((12+((Vi l)*8))+((i+1)*(Qj l))):Int)) (kj:=.i64) 1 zo zx zy rfl zz rfl (by omega) (by omega) Tryz.underlying36 (by kernel_rfl) V) ?_
    have b2:=Zb (e6.own2 (Xb (Zb (Zb (Zb hV a2) a4) c8.below) d0 c6 (by decide)) a1 (by decide)) (Za d8)
    have a8:=bln (e6.below (d3.trans j1) g6) (Za d8)
    refine xcvt (.e [] 15) (.t w.heap.size [9,117]) (fun _ _ _ zo zx V b2=>Nw zo zx ((valN_bys h hl (by omega) k3).below (Dt a8 b2 (Nat.le_refl _))) (Zfs hl (by omega) k3) Tryz.underlying36 Tryz.underlying5 Tryz.underlying9) ?_
    refine xm2 0 1 16 ?_ ?_
    ·have d4:=k6.below (Za d8)
     refine xb 0 3 d4 ?_
     refine xbs (.o [] 16) 1 [.string ⟨(Zbz l i).toArray⟩] 9 fun p3 o9 d2=>?_
     have p5:=d2.ge a8
     have h5:=Xd b2 d2
     have c2:=Zb b2 d2.below
     have d1:=bln a8 d2.below
     refine ybi (.o [] 17) (.t w.heap.size [9,117]) fun _ _ _ _ zJ zQ zo zx zy zK=>Xk (m:=1) (news:=[.string ⟨(Zbz l i).toArray⟩]) (.string ⟨#[]⟩) 1 16 (i+1) ((Jr l (i+1)).map sv) zo Tryz.underlying115 (by kernel_rfl) rfl (by decide) zx c2 zy (d2.blk.sl 1 1 (by decide) (by decide)) rfl (by simp[Value.oneCell']) (by unfold maxLen;omega) (by omega) d1.size (by rfl) (by rw[Cl,List.map_append];rfl) fun h7 i8 p6 m4 c9 f0=>?_
     refine zK _ _ (Va f0 c9 c2 (by decide)) ?_
     have b0:=(d4.below d2.below).grown c9 c2 (by decide)
     refine ys (.o [18] 19) b0 [V0 (Yq l),.bool (Xm l),.slice e1 (i+1) e4,.slice h7 (i+1) i8] (.t w.heap.size [9,117]) fun n8 f6 m3=>⟨(Zw f6 b0 g6 (by decide)),?_⟩
     refine xwm 4 ((i:Int)+1) (↑(i+1):Int) ?_
     have e7:=f6.below (d1.trans f0) g6
     have b5:=f6.blk ((((e6.blk ((((a0.below a2).below a4).below c8.below).grown d0 c6 (by decide)) (Ne.symm (Ne.symm a3))).below (Za d8)).below d2.below).grown c9 c2 (by decide)) (Ne.symm (Ne.symm a3))
     have h2:=f6.own2 (Xb (Zb (Zb (e6.own2 k8 a1 (by decide)) (Za d8)) d2.below) c9 c2 (by decide)) b0 (by decide)
     have f3:=f6.own2 m4 b0 (by decide)
     exact ze 2 (f7 _ _ _ ⟨i+1,_,_,_,_,rfl,rfl,e7,b5,m3,h2,f3,by omega,Hx hz e5⟩ (by omega))
    refine xbs 0 1 [.string ⟨(Zbz l i).toArray⟩] 9 fun o6 o2 d7=>?_
    have o3:=d7.ge a8
    have j9:=Xd b2 d7
    have d6:=(k6.below (Za d8)).below d7.below
    refine xb (.o [] 1) 3 d6 ?_
    have c5:=Zb b2 d7.below
    have d5:=bln a8 d7.below
    refine ybi (.o [] 17) (.t w.heap.size [9,117]) fun _ _ _ _ zJ zQ zo zx zy zK=>Xk (m:=1) (news:=[.string ⟨(Zbz l i).toArray⟩]) (.string ⟨#[]⟩) 1 16 (i+1) ((Jr l (i+1)).map sv) zo Tryz.underlying115 (by kernel_rfl) rfl (by decide) zx c5 zy (d7.blk.sl 1 1 (by decide) (by decide)) rfl (by simp[Value.oneCell']) (by unfold maxLen;omega) (by omega) d5.size (by rfl) (by rw[Cl,List.map_append];rfl) fun j2 j6 p2 l8 c7 h1=>?_
    refine zK _ _ (Va h1 c7 c5 (by decide)) ?_
    have a9:=d6.grown c7 c5 (by decide)
    refine ys (.o [18] 19) a9 [V0 (Yq l),.bool (Xm l),.slice e1 (i+1) e4,.slice j2 (i+1) j6] (.t w.heap.size [9,117]) fun n9 g7 l9=>⟨(Zw g7 a9 g6 (by decide)),?_⟩
    refine xwm 4 ((i:Int)+1) (↑(i+1):Int) ?_
    have f5:=g7.below (d5.trans h1) g6
    have c4:=g7.blk ((((e6.blk ((((a0.below a2).below a4).below c8.below).grown d0 c6 (by decide)) (Ne.symm (Ne.symm a3))).below (Za d8)).below d7.below).grown c7 c5 (by decide)) (Ne.symm (Ne.symm a3))
    have g0:=g7.own2 (Xb (Zb (Zb (e6.own2 k8 a1 (by decide)) (Za d8)) d7.below) c7 c5 (by decide)) a9 (by decide)
    have h0:=g7.own2 l8 a9 (by decide)
    exact ze 2 (f7 _ _ _ ⟨i+1,_,_,_,_,rfl,rfl,f5,c4,l9,g0,h0,by omega,Hx hz e5⟩ (by omega))
   refine xk 10 (show(((Ey l i) != (0:Int)):Bool)=true from bne_iff_ne.2 e5) ?_
   have b9:=(a0.below a2).below a4
   refine xsv 4 b9 [V0 0,.bool false,S0,S0] fun p7 m2 m8=>?_
   have g1:=n1.ge (B3 w)
   have f9:=m2.below (bln (bln a5 a2) a4) g1
   refine xec 10 m8 (.tuple #[.agg #[V0 0,.bool false,S0,S0],V0 (Ey l i)]) ?_
   have he:Ke l=Ey l i:=by unfold Ke;rw[if_pos hs,if_pos j5,Cz hz e5 (by omega)]
   exact .inl ⟨by rw[he];exact e5,by rw[he],f9⟩
  have b8:=a0.below a2
  refine xsv 29 b8 [V0 0,.bool false,S0,S0] fun n2 m1 m6=>?_
  have g1:=n1.ge (B3 w)
  have g2:=m1.below (bln a5 a2) g1
  refine xec 10 m6 (.tuple #[.agg #[V0 0,.bool false,S0,S0],V0 2]) ?_
  have k9:Ey l i=2:=by unfold Ey;rw[if_pos (by unfold Fl;omega)]
  have he:Ke l=2:=by unfold Ke;rw[if_pos hs,if_pos j5,Cz hz (by rw[k9];decide) (by omega),k9]
  exact .inl ⟨by rw[he];decide,by rw[he],g2⟩
 refine xlv 7 c3.rp ?_
 refine xsv 0 a0 [V0 (Yq l),.bool (Xm l),.slice kp i kc,.slice vp i vc] fun p8 h4 l4=>?_
 have g1:=n1.ge (B3 w)
 have f8:=h4.below a5 g1
 have i9:=h4.own2 hK a0 (by decide)
 have j0:=h4.own2 hV a0 (by decide)
 refine xec 4 l4 (.tuple #[.agg #[V0 (Yq l),.bool (Xm l),.slice kp i kc,.slice vp i vc],V0 0]) ?_
 obtain rfl:i=Zr l:=by omega
 exact .inr ⟨by unfold Ke;rw[if_pos hs,if_pos j5,hz],_,_,_,_,rfl,f8,i9,j0⟩
theorem Uk{P:Program}{a:Act}{w:World}{K:Act→World→Prop}{Q:Exit→Act→World→Prop}{o:Oper}{src dst e:TypeId}{x:Operand}(l:Bl)(ho:o.op=.convert src dst x)(hx:a.eval x=.string ⟨l.toArray⟩)
 (hs:P.underlying src=some .string) (hd:P.underlying dst=some (.slice e)) (he:P.underlying e=some (.int .u8)) (hl:l.length≤1000000)
 (k:∀ b c W,B0 w W→Bys W (.slice (S1 b) l.length c) l→K (a.put o.dst (.slice (S1 b) l.length c)) W):o.wp P a w K Q:=by
 have hr:=run_bytes_of_string (P:=P) w src dst e ⟨l.toArray⟩ hs hd he
 have a2:(⟨l.toArray⟩:ByteArray).size=l.length:=by simp[ByteArray.size]
 rw[a2] at hr
 obtain⟨W1,a0⟩:∃ W1,W1=w.drew.alloc (.cells (bytesRow ⟨l.toArray⟩ (grownCap w l.length 0 e)) e ((bytesRow ⟨l.toArray⟩ (grownCap w l.length 0 e)).size,(bytesRow ⟨l.toArray⟩ (grownCap w l.length 0 e)).size+1)):=⟨_,rfl⟩
 rw[←a0] at hr
 have h2:(execOp a.eval o).run P w=.ok (.value (.slice (some ⟨w.heap.size,0,none⟩) l.length (grownCap w l.length 0 e))) W1:=by
  simp only[execOp,ho,hx,Sem.run_bind,hr];rfl
 refine Ht h2 (k _ _ _ (by rw[a0];exact(Za w).trans (show Below w.drew.heap.size w.drew _ from blx w.drew _)) (.inr ⟨w.heap.size,0,_,rfl,grownCap_ge w l.length 0 e,grownCap_le_maxLen w l.length 0 e (by unfold maxLen;omega),fun j y hj=>?_⟩))
 have a1:j<l.length:=by have:=(List.getElem?_eq_some_iff.1 hj).1;simpa using this
 have hb:=bytesRow_at ⟨l.toArray⟩ (grownCap w l.length 0 e) j (by simpa using a1)
 have hy:y=.int .u8 ((l.toArray[j]'(by simpa using a1)).toNat:Int):=by
  rw[List.getElem?_map,List.getElem?_eq_getElem a1] at hj
  simp only[Option.map_some,Option.some.injEq] at hj
  rw[←hj];rfl
 have hh:W1.heap[w.heap.size]? = some (.cells (bytesRow ⟨l.toArray⟩ (grownCap w l.length 0 e)) e ((bytesRow ⟨l.toArray⟩ (grownCap w l.length 0 e)).size,(bytesRow ⟨l.toArray⟩ (grownCap w l.length 0 e)).size+1)):=by rw[a0];exact heap_alloc_new w.drew _
 rw[hy]
 simp[World.cell?,hh,hb]
def Yo(s:Bl):Int:=if s.length=4 then(if 1≤Zl s 0 4∧Zl s 0 4≤14399 then 0 else 2) else 7
def Kq(s:Bl):Nat:=if Yo s=0 then Zl s 0 4 else 0
theorem Ir(bs:ByteArray)(i:Nat)(r:Bl)(h:i≤bs.size):(ByteArray.toList.loop bs i r).length=r.length+(bs.size-i):=by
 rw[ByteArray.toList.loop]
 split
 ·rename_i h2
  rw[Ir bs (i+1) _ (by omega)]
  simp;omega
 ·simp;omega
termination_by bs.size-i
theorem De(bs:ByteArray):bs.toList.length=bs.size:=by
 unfold ByteArray.toList;rw[Ir _ _ _ (Nat.zero_le _)];simp
theorem four_ne(n:Int):((⟨(leB n 4).toArray⟩:ByteArray).toList==(⟨#[]⟩:ByteArray).toList)=false:=by
 cases hq:((⟨(leB n 4).toArray⟩:ByteArray).toList==(⟨#[]⟩:ByteArray).toList) with
 | false=>rfl
 | true =>
  have e:=congrArg List.length (eq_of_beq hq)
  rw[De,De] at e
  simp[ByteArray.size,Zj] at e
theorem Th(w:World) :
 C0 32 #[] w (Kg (fun w' r=>∃ b,r=.slice (S1 b) 1 1∧w.heap.size≤b∧Blk w' b [V0 4,V0 1,V0 14399] 107) w):=by
 refine zin 3 Tryz.func32 ?_
 refine xbs 8 1 [V0 4,V0 1,V0 14399] 107 fun b1 W1 n1=>?_
 have g1:=n1.ge (B3 w)
 exact xe 4 (.slice (S1 b1) 1 1) ⟨_,rfl,n1.below,_,rfl,g1,n1.blk⟩
theorem Zbk(gl:Nat)(an:O0)(cn:Nat)(n:Int)(w:World)(hl:Blk w gl [V0 4,V0 1,V0 14399] 107)(hn:Sl w (.slice an 1 cn) 1 [V0 n])(h1:1≤n)(h2:n≤14399) :
 C0 25 #[.slice (S1 gl) 1 1,.slice an 1 cn] w (Ret (.string ⟨(leB n 4).toArray⟩) w):=by
 have b2:=h1
 have b5:=h2
 clear h2
 refine zin 51 Tryz.func25 ?_
 refine xu 19 2 ?_
 refine xlv 15 hl.rp ?_
 refine xa 0 [V0 0,V0 0,V0 0] 107 fun b1 W1 n1=>?_
 have a6:=n1.ne hl
 refine xsv 1 n1.blk [V0 4,V0 1,V0 14399] fun W2 u2 k2=>?_
 have g1:=n1.ge (B3 w)
 refine xd 4 .z ?_
 refine xx (.e [0,1] 2) _ 1 0 1 (Ints.elem (l:=[n]) hn (k:=0) (by simp)).1 ?_
 have hB:=bln (u2.below n1.below g1) (Za W2)
 refine xl (.e [] 3) ((Ints.elem (l:=[n]) (hn.below hB) (k:=0) (by simp)).2) ?_
 have a1:=k2.below (Za W2)
 refine xb (.e [4] 5) 1 a1 ?_
 refine xgk (.b [6,7]) [23,24] (show(decide (n<(1:Int)):Bool)=false from decide_eq_false (by omega)) ?_
 refine xx (.e [8,9] 10) _ 1 0 1 (Ints.elem (l:=[n]) hn (k:=0) (by simp)).1 ?_
 refine xl (.e [] 11) ((Ints.elem (l:=[n]) (hn.below hB) (k:=0) (by simp)).2) ?_
 refine xb (.e [12] 13) 2 a1 ?_
 refine xk (.r [14,15] 2) (show(decide (n>(14399:Int)):Bool)=false from decide_eq_false (by omega)) ?_
 refine xd 3 .z ?_
 have a3:=a1.below (Za W2.drew)
 refine xb (.e [0] 1) 0 a3 ?_
 refine xx (.e [2,3] 4) _ 1 0 1 (Ints.elem (l:=[n]) hn (k:=0) (by simp)).1 ?_
 have a0:=bln hB (Za W2.drew)
 refine xl (.e [] 5) ((Ints.elem (l:=[n]) (hn.below a0) (k:=0) (by simp)).2) ?_
 refine xbs (.o [6] 7) 1 [V0 4,V0 n] 111 fun b4 W4 n4=>?_
 have g4:=n4.ge a0
 refine yc (.o [] 8) (args:=#[.slice (S1 b4) 1 1]) .z (Zde b4 n (by omega) (by omega) _ n4.blk) ?_
 rintro _ W5 ⟨_,rfl,a7,p2,c2,rfl,h2⟩
 have a8:=(bln a0 n4.below).size
 refine⟨a7,?_⟩
 have o6:=World.ownsRow_nil W5 w.heap.size 5 1
 have a4:=Zh h2 a8
 have a2:=bln (bln a0 n4.below) a7
 refine xbi (.r [9,10,11,12,13] 5) fun _ _ _ _ zJ zQ zo zx zy zK=>Xk (m:=4) (news:=(leB n 4).map bv) (.int .u8 0) 1 1 (4) ((leB n 4).map bv) zo Tryz.underlying36 (by kernel_rfl) rfl (by decide) zx o6 zy (Zg a4) (by simp[Zj]) (Qt _) (by unfold maxLen;omega) (by omega) a2.size (by rfl) (by simp) fun b3 b0 W7 o7 b6 a9=>?_
 refine zK _ _ ?_
 refine xcv0 24 (fun _ _ _ zo zx=>Nw zo zx (Ka (Zg o7) (Zj _ _)) (Zj _ _) Tryz.underlying36 Tryz.underlying5 Tryz.underlying9) ?_
 have a5:=a2.trans a9
 exact xe 4 (.string ⟨(leB n 4).toArray⟩) ⟨rfl,a5⟩
theorem Zc3(gl:Nat)(an:O0)(cn:Nat)(n:Int)(w:World)(hl:Blk w gl [V0 4,V0 1,V0 14399] 107)(hn:Sl w (.slice an 1 cn) 1 [V0 n])(h:¬ (1≤n∧n≤14399)) :
 C0 25 #[.slice (S1 gl) 1 1,.slice an 1 cn] w (Ret (.string ⟨#[]⟩) w):=by
 refine zin 51 Tryz.func25 ?_
 refine xu 19 2 ?_
 refine xlv 15 hl.rp ?_
 refine xa 0 [V0 0,V0 0,V0 0] 107 fun b1 W1 n1=>?_
 have a2:=n1.ne hl
 refine xsv 1 n1.blk [V0 4,V0 1,V0 14399] fun W2 u2 k2=>?_
 have g1:=n1.ge (B3 w)
 refine xd 4 .z ?_
 refine xx (.e [0,1] 2) _ 1 0 1 (Ints.elem (l:=[n]) hn (k:=0) (by simp)).1 ?_
 have hB:=bln (u2.below n1.below g1) (Za W2)
 refine xl (.e [] 3) ((Ints.elem (l:=[n]) (hn.below hB) (k:=0) (by simp)).2) ?_
 have a1:=k2.below (Za W2)
 refine xb (.e [4] 5) 1 a1 ?_
 refine xg (.b [6,7]) [23,24] (decide (n<(1:Int))) (fun a0=>?_) (fun a0=>?_)
 ·have a0:=of_decide_eq_true a0
  exact xe (.r [8,9,10,11,12,13,14,15] 15) (.string ⟨#[]⟩) ⟨rfl,hB⟩
 have a0:=of_decide_eq_false a0
 refine xx (.e [8,9] 10) _ 1 0 1 (Ints.elem (l:=[n]) hn (k:=0) (by simp)).1 ?_
 refine xl (.e [] 11) ((Ints.elem (l:=[n]) (hn.below hB) (k:=0) (by simp)).2) ?_
 refine xb (.e [12] 13) 2 a1 ?_
 refine xk (.r [14,15] 2) (show(decide (n>(14399:Int)):Bool)=true from decide_eq_true (by omega)) ?_
 exact xe 12 (.string ⟨#[]⟩) ⟨rfl,hB⟩
theorem Br(gl:Nat)(s:Bl)(w:World)(hl:Blk w gl [V0 4,V0 1,V0 14399] 107)(hs:s.length≤1000)(h4:s.length≠4) :
 C0 77 #[.slice (S1 gl) 1 1,.string ⟨s.toArray⟩] w (Kg (fun w' r=>∃ p c,r=.tuple #[.slice p 1 c,V0 7]∧w'.ownsRow w.heap.size 3 1 (.slice p 1 c) 1 [V0 0]) w):=by
 refine zin 54 Tryz.func77 ?_
 refine xu 25 2 ?_
 refine xlv 14 hl.rp ?_
 refine xa 0 [V0 0,V0 0,V0 0] 107 fun b1 W1 n1=>?_
 have a3:=n1.ne hl
 refine xsv 0 n1.blk [V0 4,V0 1,V0 14399] fun W2 u2 k2=>?_
 have g1:=n1.ge (B3 w)
 refine xb 6 0 k2 ?_
 refine xbs 0 1 [V0 4] 3 fun b3 W3 n3=>?_
 have o4:=World.ownsRow_nil W3 w.heap.size 3 1
 have hB:=bln (u2.below n1.below g1) n3.below
 refine xbi 0 fun _ _ _ _ zJ zQ zo zx zy zK=>Xk (m:=1) (news:=[V0 4]) (V0 0) 1 8 (1) ([Value.int .i64 4]) zo Tryz.underlying68 (by kernel_rfl) rfl (by decide) zx o4 zy (n3.blk.sl 1 1 (by decide) (by decide)) rfl (by simp[Value.oneCell']) (by unfold maxLen;omega) (by omega) hB.size (by rfl) (by rfl) fun a7 a8 W5 o5 a6 a5=>?_
 refine zK _ _ ?_
 have a2:=(k2.below n3.below).grown a6 o4 (by decide)
 refine xb 6 0 a2 ?_
 refine xk 31 (show(((s.length:Int) != (4:Int)):Bool)=true from bne_iff_ne.2 (by omega)) ?_
 refine xmk 4 fun _ _ _ _ zJ zQ zo zx zy zK=>Jj 1 (V0 0) 1 8 [Value.int .i64 0] zo zx zy Tryz.underlying68 (by kernel_rfl) rfl (by omega) (by omega) (rfl) fun b6 W6 n6=>?_
 have a0:=hB.trans a5
 have g6:=n6.ge a0
 have a4:=Xd o5 n6
 refine zK _ _ ?_
 have a1:=bln a0 n6.below
 have o6:=Xo (size:=1) (n:=1) n6.blk g6 (rfl) (by unfold maxLen;omega)
 exact xe 6 (.tuple #[.slice (S1 b6) 1 1,V0 7]) ⟨_,rfl,a1,_,_,rfl,o6⟩
theorem Ec(gl:Nat)(s:Bl)(w:World)(hl:Blk w gl [V0 4,V0 1,V0 14399] 107)(hs:s.length≤1000)(h4:s.length=4)(h1:1≤Zl s 0 4)(h2:Zl s 0 4≤14399) :
 C0 77 #[.slice (S1 gl) 1 1,.string ⟨s.toArray⟩] w (Kg (fun w' r=>∃ p c,r=.tuple #[.slice p 1 c,V0 0]∧w'.ownsRow w.heap.size 3 1 (.slice p 1 c) 1 [V0 (↑(Zl s 0 4):Int)]) w):=by
 refine zin 54 Tryz.func77 ?_
 refine xu 25 2 ?_
 refine xlv 14 hl.rp ?_
 refine xa 0 [V0 0,V0 0,V0 0] 107 fun b1 W1 n1=>?_
 have a1:=n1.ne hl
 refine xsv 0 n1.blk [V0 4,V0 1,V0 14399] fun W2 u2 k2=>?_
 have g1:=n1.ge (B3 w)
 refine xb 6 0 k2 ?_
 refine xbs 0 1 [V0 4] 3 fun b3 W3 n3=>?_
 have o4:=World.ownsRow_nil W3 w.heap.size 3 1
 have hB:=bln (u2.below n1.below g1) n3.below
 refine xbi 0 fun _ _ _ _ zJ zQ zo zx zy zK=>Xk (m:=1) (news:=[V0 4]) (V0 0) 1 8 (1) ([Value.int .i64 4]) zo Tryz.underlying68 (by kernel_rfl) rfl (by decide) zx o4 zy (n3.blk.sl 1 1 (by decide) (by decide)) rfl (by simp[Value.oneCell']) (by unfold maxLen;omega) (by omega) hB.size (by rfl) (by rfl) fun a8 a9 W5 o5 b4 b2=>?_
 refine zK _ _ ?_
 have a6:=(k2.below n3.below).grown b4 o4 (by decide)
 refine xb 6 0 a6 ?_
 refine xk 31 (show(((s.length:Int) != (4:Int)):Bool)=false from by rw[h4];rfl) ?_
 refine xcf 5 fun _ _ _ zJ zQ zo zx zK=>Uk s zo zx Tryz.underlying9 Tryz.underlying36 Tryz.underlying5 (by omega) ?_
 intro bz cz W6 a2 b6
 refine zK _ _ ?_
 have a4:=Zb o5 a2
 refine xc 1 (args:=#[.slice (S1 bz) s.length cz,.slice a8 1 a9]) (Wu (S1 bz) s.length cz s a8 a9 1 [4] [Zl s 0 4] _ rfl rfl rfl (by decide) (by simp;omega) (by omega) (by decide) b6 (Zg a4) (fun i hi=>by obtain rfl:i=0:=(by simpa using hi);have:=Qb s 0 4 (by decide);simp[Hk];omega)) ?_
 rintro _ W7 ⟨_,rfl,b0,p5,c5,rfl,h5⟩
 have b7:=(bln (hB.trans b2) a2).size
 have a3:=((((u2.blk (hl.below n1.below) (Ne.symm (Ne.symm a1))).below n3.below).grown b4 o4 (by decide)).below a2).below b0
 have a0:=Zh h5 b7
 refine xr 15 (args:=#[.slice (S1 gl) 1 1,.slice p5 1 c5]) (Zbk gl p5 c5 (↑(Zl s 0 4):Int) _ a3 (Zg a0) (by omega) (by omega)) fun W8 b5=>?_
 refine xk 4 (show(((⟨(leB (↑(Zl s 0 4):Int) 4).toArray⟩:ByteArray).toList==(⟨#[]⟩:ByteArray).toList):Bool)=false from four_ne _) ?_
 have a7:=bln (bln (bln (hB.trans b2) a2) b0) b5
 have a5:=Zb a0 b5
 exact xe 10 (.tuple #[.slice p5 1 c5,V0 0]) ⟨_,rfl,a7,_,_,rfl,a5⟩
theorem Bo(gl:Nat)(s:Bl)(w:World)(hl:Blk w gl [V0 4,V0 1,V0 14399] 107)(hs:s.length≤1000)(h4:s.length=4)(h1:¬ (1≤(Zl s 0 4:Int)∧(Zl s 0 4:Int)≤14399)) :
 C0 77 #[.slice (S1 gl) 1 1,.string ⟨s.toArray⟩] w (Kg (fun w' r=>∃ p c,r=.tuple #[.slice p 1 c,V0 2]∧w'.ownsRow w.heap.size 3 1 (.slice p 1 c) 1 [V0 0]) w):=by
 refine zin 54 Tryz.func77 ?_
 refine xu 25 2 ?_
 refine xlv 14 hl.rp ?_
 refine xa 0 [V0 0,V0 0,V0 0] 107 fun b1 W1 n1=>?_
 have a1:=n1.ne hl
 refine xsv 0 n1.blk [V0 4,V0 1,V0 14399] fun W2 u2 k2=>?_
 have g1:=n1.ge (B3 w)
 refine xb 6 0 k2 ?_
 refine xbs 0 1 [V0 4] 3 fun b3 W3 n3=>?_
 have o4:=World.ownsRow_nil W3 w.heap.size 3 1
 have hB:=bln (u2.below n1.below g1) n3.below
 refine xbi 0 fun _ _ _ _ zJ zQ zo zx zy zK=>Xk (m:=1) (news:=[V0 4]) (V0 0) 1 8 (1) ([Value.int .i64 4]) zo Tryz.underlying68 (by kernel_rfl) rfl (by decide) zx o4 zy (n3.blk.sl 1 1 (by decide) (by decide)) rfl (by simp[Value.oneCell']) (by unfold maxLen;omega) (by omega) hB.size (by rfl) (by rfl) fun b7 b5 W5 o5 b6 c0=>?_
 refine zK _ _ ?_
 have a9:=(k2.below n3.below).grown b6 o4 (by decide)
 refine xb 6 0 a9 ?_
 refine xk 31 (show(((s.length:Int) != (4:Int)):Bool)=false from by rw[h4];rfl) ?_
 refine xcf 5 fun _ _ _ zJ zQ zo zx zK=>Uk s zo zx Tryz.underlying9 Tryz.underlying36 Tryz.underlying5 (by omega) ?_
 intro bz cz W6 a4 c2
 refine zK _ _ ?_
 have a0:=Zb o5 a4
 refine xc 1 (args:=#[.slice (S1 bz) s.length cz,.slice b7 1 b5]) (Wu (S1 bz) s.length cz s b7 b5 1 [4] [Zl s 0 4] _ rfl rfl rfl (by decide) (by simp;omega) (by omega) (by decide) c2 (Zg a0) (fun i hi=>by obtain rfl:i=0:=(by simpa using hi);have:=Qb s 0 4 (by decide);simp[Hk];omega)) ?_
 rintro _ W7 ⟨_,rfl,b2,p5,c5,rfl,h5⟩
 have c1:=(bln (hB.trans c0) a4).size
 have a6:=((((u2.blk (hl.below n1.below) (Ne.symm (Ne.symm a1))).below n3.below).grown b6 o4 (by decide)).below a4).below b2
 have a3:=Zh h5 c1
 refine xr 15 (args:=#[.slice (S1 gl) 1 1,.slice p5 1 c5]) (Zc3 gl p5 c5 (↑(Zl s 0 4):Int) _ a6 (Zg a3) (by omega)) fun W8 a7=>?_
 refine xmk 9 fun _ _ _ _ zJ zQ zo zx zy zK=>Jj 1 (V0 0) 1 8 [Value.int .i64 0] zo zx zy Tryz.underlying68 (by kernel_rfl) rfl (by omega) (by omega) (rfl) fun b9 W9 n9=>?_
 have a2:=bln (bln (bln (hB.trans c0) a4) b2) a7
 have g9:=n9.ge a2
 have a8:=Zb (Zb a0 b2) a7
 have b8:=Xd a8 n9
 have b0:=Zb a3 a7
 have b4:=Xd b0 n9
 refine zK _ _ ?_
 have a5:=bln a2 n9.below
 have o9:=Xo (size:=1) (n:=1) n9.blk g9 (rfl) (by unfold maxLen;omega)
 exact xe 6 (.tuple #[.slice (S1 b9) 1 1,V0 2]) ⟨_,rfl,a5,_,_,rfl,o9⟩
theorem An(gl:Nat)(s:Bl)(w:World)(hl:Blk w gl [V0 4,V0 1,V0 14399] 107)(hs:s.length≤1000):C0 77 #[.slice (S1 gl) 1 1,.string ⟨s.toArray⟩] w (Kg (fun w' r=>∃ p c,r=.tuple #[.slice p 1 c,V0 (Yo s)]∧w'.ownsRow w.heap.size 3 1 (.slice p 1 c) 1 [V0 (Kq s:Int)]) w):=by
 by_cases h4:s.length=4
 ·by_cases h1:1≤Zl s 0 4∧Zl s 0 4≤14399
  ·have he:Yo s=0:=by unfold Yo;rw[if_pos h4,if_pos h1]
   rw[he,Kq,if_pos he]
   exact Ec gl s w hl hs h4 h1.1 h1.2
  ·have he:Yo s=2:=by unfold Yo;rw[if_pos h4,if_neg h1]
   rw[he,Kq,if_neg (by rw[he];decide)]
   exact Bo gl s w hl hs h4 (by omega)
 ·have he:Yo s=7:=by unfold Yo;rw[if_neg h4]
  rw[he,Kq,if_neg (by rw[he];decide)]
  exact Br gl s w hl hs h4
theorem Gz(s:Bl)(w:World)(hs:s.length≤1000) :
 C0 58 #[.string ⟨s.toArray⟩] w (Ret (.tuple #[V0 (Kq s:Int),V0 (Yo s)]) w):=by
 refine zin 16 Tryz.func58 ?_
 refine xc 8 (args:=#[]) (Th _) ?_
 rintro _ W1 ⟨_,rfl,a1,gl,rfl,gg,kl⟩
 refine xc 1 (args:=#[.slice (S1 gl) 1 1,.string ⟨s.toArray⟩]) (An gl s _ kl hs) ?_
 rintro _ W2 ⟨_,rfl,a2,p5,c5,rfl,h5⟩
 have a0:=Zh h5 a1.size
 refine xx 10 _ 1 0 1 (Ints.elem (l:=[(Kq s:Int)]) (Zg a0) (k:=0) (by simp)).1 ?_
 refine xl 0 ((Ints.elem (l:=[(Kq s:Int)]) (Zg a0) (k:=0) (by simp)).2) ?_
 have hB:=bln a1 a2
 exact xe 6 (.tuple #[V0 (↑(Kq s):Int),V0 (Yo s)]) ⟨rfl,hB⟩
abbrev Gv:=Nat×Int×Int
def Tk(p:Gv):List Value:=[V0 (p.1:Int),V0 p.2.1,V0 p.2.2]
theorem Jn(p:Gv):(Tk p).length=3:=rfl
def Xq:Gv:=(4,0,0)
def Ji(ps:List Gv):Prop:=ps.length≤1000∧∀ i,i<ps.length→((ps.getD i Xq).1=4∨(ps.getD i Xq).1=8)∧0≤(ps.getD i Xq).2.1∧(ps.getD i Xq).2.2<9223372036854775808∧((ps.getD i Xq).1=4→(ps.getD i Xq).2.2<4294967296)
def inP (p:Gv)(n:Int):Bool:=decide (p.2.1≤n∧n≤p.2.2)
def Uh(ps:List Gv)(N:List Int)(k:Nat):Bool:=(List.range k).all fun i=>inP (ps.getD i Xq) (N.getD i 0)
theorem Zb4(ps:List Gv)(N:List Int)(k:Nat):Uh ps N (k+1)=(Uh ps N k&&inP (ps.getD k Xq) (N.getD k 0)):=by simp[Uh,List.range_succ]
theorem Cu{ps:List Gv}{N:List Int}{i k:Nat}(hi:i<k)(h:inP (ps.getD i Xq) (N.getD i 0)=false):Uh ps N k=false:=by
 unfold Uh
 rw[List.all_eq_false]
 exact⟨i,List.mem_range.2 hi,by rw[h];decide⟩
def Zaq(ps:List Gv)(N:List Int)(k:Nat):Bl:=(List.range k).flatMap fun i=>leB (N.getD i 0) (ps.getD i Xq).1
theorem Bj(ps:List Gv)(N:List Int)(k:Nat):Zaq ps N (k+1)=Zaq ps N k++leB (N.getD k 0) (ps.getD k Xq).1:=by simp[Zaq,List.range_succ]
def Hb(ps:List Gv)(k:Nat):List Nat:=(List.range k).map fun i=>(ps.getD i Xq).1
theorem Vn(ps:List Gv)(k:Nat):Hb ps (k+1)=Hb ps k++[(ps.getD k Xq).1]:=by simp[Hb,List.range_succ]
theorem Ux(ps:List Gv)(k:Nat):(Hb ps k).length=k:=by simp[Hb]
theorem wids_get(ps:List Gv){k i:Nat}(h:i<k):(Hb ps k).getD i 0=(ps.getD i Xq).1:=by simp[Hb,List.getD,List.getElem?_range h]
theorem Zaa(ps:List Gv)(N:List Int)(k:Nat):(Zaq ps N k).length=(Hb ps k).sum:=by
 induction k with
 | zero=>rfl
 | succ k ih=>rw[Bj,Vn,List.length_append,Zj,ih];simp
theorem Pack_48(g w:Nat)(n:Int)(W:World)(hw:w=4∨w=8)(h0:0≤n)(hb:w=4→n<4294967296)(hk:Blk W g [V0 (w:Int),V0 n] 111):C0 45 #[.slice (S1 g) 1 1] W (Kg (fun w' r=>∃ p c,r=.tuple #[.slice p w c,V0 0]∧w'.ownsRow W.heap.size 5 1 (.slice p w c) w ((leB n w).map bv)) W):=by
 rcases hw with rfl|rfl
 ·exact Zde g n h0 (hb rfl) W hk
 ·exact Pack_8 g n h0 W hk
def ValPutP(ps:List Gv)(N:List Int)(w:World)(e:Ending)(w':World):Prop :=
 (Uh ps N ps.length=false∧e=.returned (.string ⟨#[]⟩)∧B0 w w')∨(Uh ps N ps.length=true∧e=.returned (.string ⟨(Zaq ps N ps.length).toArray⟩)∧B0 w w')
theorem Zco(ps:List Gv)(N:List Int)(gl gn:O0)(cl cn:Nat)(w:World)(hps:Ji ps)(hNl:N.length=ps.length)(hP:Sts Tk w (.slice gl ps.length cl) ps)(hN:Sl w (.slice gn ps.length cn) ps.length (N.map V0)) :
 C0 25 #[.slice gl ps.length cl,.slice gn ps.length cn] w (ValPutP ps N w):=by
 have c1:=hps.1
 refine zin 51 Tryz.func25 ?_
 have hB:=Below.refl w.heap.size w
 refine zl 19 51 (fun zm b5 V=>∃ (i m:Nat) (q:O0) (d:Nat),b5=[(1,.slice gn ps.length cn),(5,.slice q m d),(10,.slice gl ps.length cl),(11,V0 (ps.length:Int)),(12,V0 (i:Int))]∧zm=ps.length-((i:Int)).toNat∧B0 w V∧V.ownsRow w.heap.size 5 1 (.slice q m d) m ((Zaq ps N i).map bv)∧i≤ps.length∧m=(Hb ps i).sum∧m≤i*8∧Uh ps N i=true) ⟨0,0,_,_,rfl,rfl,hB,World.ownsRow_nil _ _ _ _,Nat.zero_le _,rfl,Nat.zero_le _,rfl⟩ ?_
 rintro _ _ W1 ⟨i,m,q,d,rfl,rfl,a2,ho,hi,hm,c5,a5⟩ J1 b4 r1
 refine xid 6 ((i:Int)<(ps.length:Int)) (fun b6=>?_) (fun b6=>?_)
 ·refine xx 7 _ ps.length i 3 (Sts.cell hP Jn Xq (k:=i) (i:=0) (by omega) rfl).1 ?_
  refine xlv 0 (Sts.rp (k:=i) (hP.below a2) Jn Xq (by omega) (by decide)) ?_
  refine xa 0 [V0 0,V0 0,V0 0] 107 fun b3 W3 n3=>?_
  have g3:=n3.ge a2
  refine xsv 1 n3.blk [V0 (↑(ps.getD i Xq).1:Int),V0 ((ps.getD i Xq).2.1),V0 ((ps.getD i Xq).2.2)] fun W4 u4 k4=>?_
  refine xd 4 .z ?_
  refine xx (.e [0,1] 2) _ ps.length i 1 (IntsN.elem hN hNl (k:=i) (by omega)).1 ?_
  have a0:=bln (u4.below (bln a2 n3.below) g3) (Za W4)
  refine xl (.e [] 3) ((IntsN.elem (hN.below a0) hNl (k:=i) (by omega)).2) ?_
  have a3:=k4.below (Za W4)
  refine xb (.e [4] 5) 1 a3 ?_
  refine xg (.b [6,7]) [23,24] (decide ((N.getD i 0)<(ps.getD i Xq).2.1)) (fun a6=>?_) (fun a6=>?_)
  ·have a6:=of_decide_eq_true a6
   exact xe (.r [8,9,10,11,12,13,14,15] 15) (.string ⟨#[]⟩) (.inl ⟨Cu (i:=i) (by omega) (decide_eq_false (by omega)),rfl,a0⟩)
  have a6:=of_decide_eq_false a6
  refine xx (.e [8,9] 10) _ ps.length i 1 (IntsN.elem hN hNl (k:=i) (by omega)).1 ?_
  refine xl (.e [] 11) ((IntsN.elem (hN.below a0) hNl (k:=i) (by omega)).2) ?_
  refine xb (.e [12] 13) 2 a3 ?_
  refine xid (.r [14,15] 2) ((N.getD i 0)>(ps.getD i Xq).2.2) (fun b8=>?_) (fun b8=>?_)
  ·exact xe 12 (.string ⟨#[]⟩) (.inl ⟨Cu (i:=i) (by omega) (decide_eq_false (by omega)),rfl,a0⟩)
  refine xd 3 .z ?_
  have a8:=a3.below (Za W4.drew)
  refine xb (.e [0] 1) 0 a8 ?_
  refine xx (.e [2,3] 4) _ ps.length i 1 (IntsN.elem hN hNl (k:=i) (by omega)).1 ?_
  have a1:=bln a0 (Za W4.drew)
  refine xl (.e [] 5) ((IntsN.elem (hN.below a1) hNl (k:=i) (by omega)).2) ?_
  refine xbs (.o [6] 7) 1 [V0 (↑(ps.getD i Xq).1:Int),V0 (N.getD i 0)] 111 fun b7 W7 n7=>?_
  have g7:=n7.ge a1
  refine yc (.o [] 8) (args:=#[.slice (S1 b7) 1 1]) .z (Pack_48 b7 (ps.getD i Xq).1 (N.getD i 0) _ (hps.2 i (by omega)).1 (by have:=(hps.2 i (by omega)).2.1;omega) (fun q=>by have:=(hps.2 i (by omega)).2.2.2 q;omega) n7.blk) ?_
  rintro _ W8 ⟨_,rfl,a9,p2,c2,rfl,h2⟩
  have b2:=(bln a1 n7.below).size
  refine⟨a9,?_⟩
  have b1:=Zb (Zb (Zb (Zb (u4.own2 (Zb ho n3.below) n3.blk (by decide)) (Za W4)) (Za W4.drew)) n7.below) a9
  have b0:=Zh h2 b2
  have a4:=bln (bln a1 n7.below) a9
  refine xbi (.r [9,10,11,12,13] 5) fun _ _ _ _ zJ zQ zo zx zy zK=>Xk (m:=(ps.getD i Xq).1) (news:=(leB (N.getD i 0) (ps.getD i Xq).1).map bv) (.int .u8 0) 1 1 ((m+(ps.getD i Xq).1)) (((Zaq ps N (i+1)).map bv)) zo Tryz.underlying36 (by kernel_rfl) rfl (by decide) zx b1 zy (Zg b0) (by simp[Zj]) (Qt _) (by unfold maxLen;have:=(hps.2 i (by omega)).1;omega) (by have:=(hps.2 i (by omega)).1;omega) a4.size (by rfl) (by rw[Bj,List.map_append]) fun c4 c3 W9 o9 c0 b9=>?_
  refine zK _ _ ?_
  refine xwm 5 ((i:Int)+1) (↑(i+1):Int) ?_
  have a7:=a4.trans b9
  exact ze 2 (b4 _ _ _ ⟨i+1,_,_,_,rfl,rfl,a7,o9,by omega,by rw[Vn,hm];simp,by have:=(hps.2 i (by omega)).1;omega,by rw[Zb4,a5];exact decide_eq_true ⟨by omega,by omega⟩⟩ (by omega))
 refine xcv0 8 (fun _ _ _ zo zx=>Nw zo zx (Ka (Zg ho) (by rw[Zaa];exact hm.symm)) (by rw[Zaa];exact hm.symm) Tryz.underlying36 Tryz.underlying5 Tryz.underlying9) ?_
 refine xe 4 (.string ⟨(Zaq ps N i).toArray⟩) ?_
 obtain rfl:i=ps.length:=by omega
 exact .inr ⟨a5,rfl,a2⟩
def Jt(ps:List Gv)(s:Bl):List Nat:=Hk s 0 (Hb ps ps.length)
theorem Uz(ps:List Gv)(s:Bl):(Jt ps s).length=ps.length:=by rw[Jt,Eo,Ux]
def Gb(ps:List Gv)(s:Bl):Bool:=Uh ps ((Jt ps s).map fun n:Nat=>(n:Int)) ps.length
def Xt(ps:List Gv)(s:Bl):Int:=if s.length=(Hb ps ps.length).sum then(if Gb ps s then 0 else 2) else 7
def Yr(ps:List Gv)(s:Bl):List Nat:=if Xt ps s=0 then Jt ps s else List.replicate ps.length 0
theorem Yl(ps:List Gv)(s:Bl):(Yr ps s).length=ps.length:=by
 unfold Yr;split
 ·exact Uz ps s
 ·simp
theorem Zdw{ps:List Gv}{s:Bl}(hp:Ji ps)(h:Gb ps s=true):∀ i,i<(Hb ps ps.length).length→(Hk s 0 (Hb ps ps.length)).getD i 0<9223372036854775808:=by
 intro i hi
 rw[Ux] at hi
 unfold Gb Uh at h
 rw[List.all_eq_true] at h
 have h1:=of_decide_eq_true (h i (List.mem_range.2 hi))
 have h2:=(hp.2 i hi).2.2.1
 rw[show((Jt ps s).map fun n:Nat=>(n:Int)).getD i 0=(((Jt ps s).getD i 0:Nat):Int) by simp[List.getD,show i<(Jt ps s).length by rw[Uz];exact hi]] at h1
 change (Jt ps s).getD i 0<_
 omega
theorem map_nv(l:List Nat):l.map nv=(l.map fun n:Nat=>(n:Int)).map V0:=by simp[nv]
theorem putL_ne{ps:List Gv}{N:List Int}(hp:Ji ps)(h0:0<ps.length):((⟨(Zaq ps N ps.length).toArray⟩:ByteArray).toList==(⟨#[]⟩:ByteArray).toList)=false:=by
 rw[show(⟨#[]⟩:ByteArray)=⟨([]:Bl).toArray⟩ from rfl,str_beq]
 apply beq_false_of_ne
 intro q
 have h1:=congrArg List.length q
 obtain⟨k,hk⟩:∃ k,ps.length=k+1:=⟨ps.length-1,by omega⟩
 rw[hk,Bj,List.length_append,Zj] at h1
 rw[List.length_nil] at h1
 have:=(hp.2 k (by omega)).1
 omega
theorem Eh(n:Nat):Ja (Value.int .i64 0).cells.toList n=(List.replicate n 0).map nv:=by
 rw[show(Value.int .i64 0).cells.toList=[Value.int .i64 0] from rfl,Ja,List.map_replicate]
 induction n with
 | zero=>rfl
 | succ n ih=>rw[List.replicate_succ,List.flatten_cons,ih,List.replicate_succ];rfl
theorem Lk(ps:List Gv)(s:Bl)(gl:O0)(cl:Nat)(w:World)(hps:Ji ps)(h0:0<ps.length)(hs:s.length≤100000)(hP:Sts Tk w (.slice gl ps.length cl) ps)(hsl:s.length≠(Hb ps ps.length).sum) :
 C0 77 #[.slice gl ps.length cl,.string ⟨s.toArray⟩] w (Kg (fun w' r=>∃ p c,r=.tuple #[.slice p ps.length c,V0 (Xt ps s)]∧w'.ownsRow w.heap.size 3 1 (.slice p ps.length c) ps.length ((Yr ps s).map nv)) w):=by
 have c0:=hps.1
 refine zin 54 Tryz.func77 ?_
 have hB:=Below.refl w.heap.size w
 refine zl 25 54 (fun zm b4 V=>∃ (i:Nat) (q:O0) (d:Nat),b4=[(0,.slice gl ps.length cl),(1,.string ⟨s.toArray⟩),(4,S0),(5,V0 0),(6,.slice q i d),(7,V0 (↑(Hb ps i).sum:Int)),(12,.slice gl ps.length cl),(13,V0 (ps.length:Int)),(14,V0 (i:Int))]∧zm=ps.length-((i:Int)).toNat∧B0 w V∧V.ownsRow w.heap.size 3 1 (.slice q i d) i ((Hb ps i).map nv)∧i≤ps.length∧(Hb ps i).sum≤i*8) ⟨0,_,_,rfl,rfl,hB,World.ownsRow_nil _ _ _ _,Nat.zero_le _,Nat.zero_le _⟩ ?_
 rintro _ _ W1 ⟨i,q,d,rfl,rfl,a0,ho,hi,c2⟩ J1 b0 r1
 have b8:i<ps.length→(ps.getD i Xq).1≤8:=fun q=>by have:=(hps.2 i q).1;omega
 refine xid 6 ((i:Int)<(ps.length:Int)) (fun b6=>?_) (fun b6=>?_)
 ·refine xx 6 _ ps.length i 3 (Sts.cell hP Jn Xq (k:=i) (i:=0) (by omega) rfl).1 ?_
  refine xlv 0 (Sts.rp (k:=i) (hP.below a0) Jn Xq (by omega) (by decide)) ?_
  refine xa 0 [V0 0,V0 0,V0 0] 107 fun b3 W3 n3=>?_
  have g3:=n3.ge a0
  refine xsv 0 n3.blk [V0 (↑(ps.getD i Xq).1:Int),V0 ((ps.getD i Xq).2.1),V0 ((ps.getD i Xq).2.2)] fun W4 u4 k4=>?_
  refine xb 6 0 k4 ?_
  refine xbs 0 1 [V0 (↑(ps.getD i Xq).1:Int)] 3 fun b5 W5 n5=>?_
  have a2:=u4.below (bln a0 n3.below) g3
  have g5:=n5.ge a2
  have a4:=u4.own2 (Zb ho n3.below) n3.blk (by decide)
  have a8:=Xd a4 n5
  have a3:=Zb a4 n5.below
  have a1:=bln a2 n5.below
  refine xbi 0 fun _ _ _ _ zJ zQ zo zx zy zK=>Xk (m:=1) (news:=[V0 (↑(ps.getD i Xq).1:Int)]) (V0 0) 1 8 (i+1) (((Hb ps (i+1)).map nv)) zo Tryz.underlying68 (by kernel_rfl) rfl (by decide) zx a3 zy (n5.blk.sl 1 1 (by decide) (by decide)) rfl (by simp[Value.oneCell']) (by unfold maxLen;omega) (by omega) a1.size (by rfl) (by rw[Vn,List.map_append];rfl) fun b9 c1 W6 o6 b1 b2=>?_
  refine zK _ _ ?_
  have a7:=(k4.below n5.below).grown b1 a3 (by decide)
  refine xb 6 0 a7 ?_
  refine xwm 0 ((↑(Hb ps i).sum:Int)+(↑(ps.getD i Xq).1:Int)) (↑((Hb ps i).sum+((ps.getD i Xq).1)):Int) ?_
  refine xwm 5 ((i:Int)+1) (↑(i+1):Int) ?_
  refine xv1 2 7 (show(V0 (↑((Hb ps i).sum+((ps.getD i Xq).1)):Int):Value)=V0 (↑(Hb ps (i+1)).sum:Int) from by rw[Vn];simp) ?_
  have a6:=a1.trans b2
  exact ze 0 (b0 _ _ _ ⟨i+1,_,_,rfl,rfl,a6,o6,by omega,by rw[Vn,List.sum_append,List.sum_cons,List.sum_nil];have:=b8 (by omega);omega⟩ (by omega))
 refine xk 14 (show(((s.length:Int) != (↑(Hb ps i).sum:Int)):Bool)=true from bne_iff_ne.2 (by rw[show i=ps.length by omega];omega)) ?_
 refine xmk 4 fun _ _ _ _ zJ zQ zo zx zy zK=>Jj ps.length (V0 0) 1 8 ((List.replicate ps.length 0).map nv) zo zx zy Tryz.underlying68 (by kernel_rfl) rfl (by omega) (by omega) (Eh _) fun b7 W7 n7=>?_
 have g7:=n7.ge a0
 have a9:=Xd ho n7
 refine zK _ _ ?_
 have a5:=bln a0 n7.below
 have o7:=Xo (size:=1) (n:=ps.length) n7.blk g7 (by simp) (by unfold maxLen;omega)
 refine xe 6 (.tuple #[.slice (S1 b7) ps.length ps.length,V0 7]) ?_
 have he:Xt ps s=7:=if_neg hsl
 exact⟨_,rfl,a5,_,_,by rw[he],by rw[Yr,if_neg (by rw[he];decide)];exact o7⟩
def UnpP(s:Bl)(ws:List Nat)(n:Nat)(W:World)(e:Ending)(w':World):Prop :=
 ((¬ ∀ i,i<ws.length→(Hk s 0 ws).getD i 0<9223372036854775808)∧e=.returned (.tuple #[S0,V0 2])∧B0 W w') ∨
 ((∀ i,i<ws.length→(Hk s 0 ws).getD i 0<9223372036854775808)∧∃ p c,e=.returned (.tuple #[.slice p n c,V0 0])∧B0 W w'∧w'.ownsRow W.heap.size 3 1 (.slice p n c) n ((Hk s 0 ws).map nv))
theorem Unpack_P(a:O0)(n c m:Nat)(s:Bl)(aw:O0)(cw:Nat)(ws:List Nat)(W:World)(hn:s.length=n)(hm:ws.length=m)(hk:∀ i,i<ws.length→ws.getD i 0=1∨ws.getD i 0=2∨ws.getD i 0=4∨ws.getD i 0=8)(hs:ws.sum≤n)(hl:n≤100000000)(hw:m≤1000)(h:Bys W (.slice a n c) s)(hws:Sl W (.slice aw m cw) m (ws.map nv)) :
 C0 97 #[.slice a n c,.slice aw m cw] W (UnpP s ws m W):=by
 subst hn hm
 by_cases hq:∀ i,i<ws.length→(Hk s 0 ws).getD i 0<9223372036854775808
 ·refine(Fq a c s aw cw ws W hk hs hl hw h hws hq).mono ?_
  rintro e V ⟨_,rfl,hb,p,c2,rfl,ho⟩
  exact .inr ⟨hq,p,c2,rfl,hb,ho⟩
 ·refine(Za7 a c s aw cw ws W hk hs hl hw h hws hq).mono ?_
  rintro e V ⟨rfl,hb⟩
  exact .inl ⟨hq,rfl,hb⟩
theorem Zfx(ps:List Gv)(s:Bl)(k:Nat):((Hk s 0 (Hb ps k)).map fun n:Nat=>(n:Int)).length=k:=by rw[List.length_map,Eo,Ux]
theorem Mm(ps:List Gv)(N:List Int)(gl gn:O0)(cl cn n:Nat)(w:World)(hps:Ji ps)(hn:n=ps.length)(hNl:N.length=n)(hP:Sts Tk w (.slice gl ps.length cl) ps)(hN:Sl w (.slice gn n cn) n (N.map V0)) :
 C0 25 #[.slice gl ps.length cl,.slice gn n cn] w (fun e w'=>(Uh ps N n=false∧e=.returned (.string ⟨#[]⟩)∧B0 w w')∨(Uh ps N n=true∧e=.returned (.string ⟨(Zaq ps N ps.length).toArray⟩)∧B0 w w')):=by
 subst hn;exact Zco ps N gl gn cl cn w hps hNl hP hN
theorem Bt(ps:List Gv)(s:Bl)(gl:O0)(cl:Nat)(w:World)(hps:Ji ps)(h0:0<ps.length)(hs:s.length≤100000)(hP:Sts Tk w (.slice gl ps.length cl) ps)(hsl:s.length=(Hb ps ps.length).sum) :
 C0 77 #[.slice gl ps.length cl,.string ⟨s.toArray⟩] w (Kg (fun w' r=>∃ p c,r=.tuple #[.slice p ps.length c,V0 (Xt ps s)]∧w'.ownsRow w.heap.size 3 1 (.slice p ps.length c) ps.length ((Yr ps s).map nv)) w):=by
 have f1:=hps.1
 refine zin 54 Tryz.func77 ?_
 have hB:=Below.refl w.heap.size w
 refine zl 25 54 (fun zm e2 V=>∃ (i:Nat) (q:O0) (d:Nat),e2=[(0,.slice gl ps.length cl),(1,.string ⟨s.toArray⟩),(4,S0),(5,V0 0),(6,.slice q i d),(7,V0 (↑(Hb ps i).sum:Int)),(12,.slice gl ps.length cl),(13,V0 (ps.length:Int)),(14,V0 (i:Int))]∧zm=ps.length-((i:Int)).toNat∧B0 w V∧V.ownsRow w.heap.size 3 1 (.slice q i d) i ((Hb ps i).map nv)∧i≤ps.length∧(Hb ps i).sum≤i*8) ⟨0,_,_,rfl,rfl,hB,World.ownsRow_nil _ _ _ _,Nat.zero_le _,Nat.zero_le _⟩ ?_
 rintro _ _ W1 ⟨i,q,d,rfl,rfl,a1,ho,hi,f4⟩ J1 d9 r1
 have e4:i<ps.length→(ps.getD i Xq).1≤8:=fun q=>by have:=(hps.2 i q).1;omega
 refine xid 6 ((i:Int)<(ps.length:Int)) (fun e3=>?_) (fun e3=>?_)
 ·refine xx 6 _ ps.length i 3 (Sts.cell hP Jn Xq (k:=i) (i:=0) (by omega) rfl).1 ?_
  refine xlv 0 (Sts.rp (k:=i) (hP.below a1) Jn Xq (by omega) (by decide)) ?_
  refine xa 0 [V0 0,V0 0,V0 0] 107 fun b3 W3 n3=>?_
  have g3:=n3.ge a1
  refine xsv 0 n3.blk [V0 (↑(ps.getD i Xq).1:Int),V0 ((ps.getD i Xq).2.1),V0 ((ps.getD i Xq).2.2)] fun W4 u4 k4=>?_
  refine xb 6 0 k4 ?_
  refine xbs 0 1 [V0 (↑(ps.getD i Xq).1:Int)] 3 fun b5 W5 n5=>?_
  have a9:=u4.below (bln a1 n3.below) g3
  have g5:=n5.ge a9
  have b2:=u4.own2 (Zb ho n3.below) n3.blk (by decide)
  have d4:=Xd b2 n5
  have b1:=Zb b2 n5.below
  have a7:=bln a9 n5.below
  refine xbi 0 fun _ _ _ _ zJ zQ zo zx zy zK=>Xk (m:=1) (news:=[V0 (↑(ps.getD i Xq).1:Int)]) (V0 0) 1 8 (i+1) (((Hb ps (i+1)).map nv)) zo Tryz.underlying68 (by kernel_rfl) rfl (by decide) zx b1 zy (n5.blk.sl 1 1 (by decide) (by decide)) rfl (by simp[Value.oneCell']) (by unfold maxLen;omega) (by omega) a7.size (by rfl) (by rw[Vn,List.map_append];rfl) fun f0 f3 W6 o6 e0 e1=>?_
  refine zK _ _ ?_
  have d0:=(k4.below n5.below).grown e0 b1 (by decide)
  refine xb 6 0 d0 ?_
  refine xwm 0 ((↑(Hb ps i).sum:Int)+(↑(ps.getD i Xq).1:Int)) (↑((Hb ps i).sum+((ps.getD i Xq).1)):Int) ?_
  refine xwm 5 ((i:Int)+1) (↑(i+1):Int) ?_
  refine xv1 2 7 (show(V0 (↑((Hb ps i).sum+((ps.getD i Xq).1)):Int):Value)=V0 (↑(Hb ps (i+1)).sum:Int) from by rw[Vn];simp) ?_
  have c9:=a7.trans e1
  exact ze 0 (d9 _ _ _ ⟨i+1,_,_,rfl,rfl,c9,o6,by omega,by rw[Vn,List.sum_append,List.sum_cons,List.sum_nil];have:=e4 (by omega);omega⟩ (by omega))
 refine xk 14 (show(((s.length:Int) != (↑(Hb ps i).sum:Int)):Bool)=false from by rw[show i=ps.length by omega,hsl];simp) ?_
 refine xcf 5 fun _ _ _ zJ zQ zo zx zK=>Uk s zo zx Tryz.underlying9 Tryz.underlying36 Tryz.underlying5 (by omega) ?_
 intro bz cz W7 b6 e5
 refine zK _ _ ?_
 have a4:=Zb ho b6
 refine xc 1 (args:=#[.slice (S1 bz) s.length cz,.slice q i d]) (Unpack_P (S1 bz) s.length cz i s q d (Hb ps i) _ rfl (Ux ps i) (fun j hj=>by rw[Ux] at hj;rw[wids_get ps hj];have:=(hps.2 j (by omega)).1;omega) (by rw[show i=ps.length by omega];omega) (by omega) (by omega) e5 (Zg a4)) ?_
 rintro e W8 e7
 rcases e7 with ⟨hq,rfl,a8⟩|⟨hq,p5,c5,rfl,a8,h5⟩
 ·have a5:i=ps.length:=by omega
  have c0:Gb ps s=false:=by rw[←Bool.not_eq_true];intro q;exact hq (by rw[a5];exact Zdw hps q)
  refine xmk 25 fun _ _ _ _ zJ zQ zo zx zy zK=>Jj ps.length (V0 0) 1 8 ((List.replicate ps.length 0).map nv) zo zx zy Tryz.underlying68 (by kernel_rfl) rfl (by omega) (by omega) (Eh _) fun b9 W9 n9=>?_
  have a6:=bln (bln a1 b6) a8
  have g9:=n9.ge a6
  have c4:=Zb a4 a8
  have d5:=Xd c4 n9
  refine zK _ _ ?_
  have c6:=bln a6 n9.below
  have o9:=Xo (size:=1) (n:=ps.length) n9.blk g9 (by simp) (by unfold maxLen;omega)
  refine xe 6 (.tuple #[.slice (S1 b9) ps.length ps.length,V0 2]) ?_
  have he:Xt ps s=2:=by unfold Xt;rw[if_pos hsl,if_neg (by rw[c0];decide)]
  exact⟨_,rfl,c6,_,_,by rw[he],by rw[Yr,if_neg (by rw[he];decide)];exact o9⟩
 have d8:=(bln a1 b6).size
 have a5:i=ps.length:=by omega
 have a3:=Zh h5 d8
 have d6:Sl (W8) (.slice p5 i c5) i (((Hk s 0 (Hb ps i)).map fun n:Nat=>(n:Int)).map V0):=by have q:=Zg a3;rw[map_nv] at q;exact q
 have a2:=bln (bln a1 b6) a8
 refine xc 15 (args:=#[.slice gl ps.length cl,.slice p5 i c5]) (Mm ps ((Hk s 0 (Hb ps i)).map fun n:Nat=>(n:Int)) gl p5 cl c5 i _ hps a5 (Zfx ps s i) (hP.below a2) d6) ?_
 rintro e f2 c1
 rcases c1 with ⟨b7,rfl,a0⟩|⟨b7,rfl,a0⟩
 ·have c0:Gb ps s=false:=by unfold Gb Jt;rw[←a5];exact b7
  refine xmk 9 fun _ _ _ _ zJ zQ zo zx zy zK=>Jj ps.length (V0 0) 1 8 ((List.replicate ps.length 0).map nv) zo zx zy Tryz.underlying68 (by kernel_rfl) rfl (by omega) (by omega) (Eh _) fun e8 e9 b4=>?_
  have b0:=bln a2 a0
  have e6:=b4.ge b0
  have c2:=Zb (Zb a4 a8) a0
  have c3:=Xd c2 b4
  have d1:=Zb a3 a0
  have b8:=Xd d1 b4
  refine zK _ _ ?_
  have d3:=bln b0 b4.below
  have d7:=Xo (size:=1) (n:=ps.length) b4.blk e6 (by simp) (by unfold maxLen;omega)
  refine xe 6 (.tuple #[.slice (S1 e8) ps.length ps.length,V0 2]) ?_
  have he:Xt ps s=2:=by unfold Xt;rw[if_pos hsl,if_neg (by rw[c0];decide)]
  exact⟨_,rfl,d3,_,_,by rw[he],by rw[Yr,if_neg (by rw[he];decide)];exact d7⟩
 have d2:Gb ps s=true:=by unfold Gb Jt;rw[←a5];exact b7
 refine xk 4 (show(((⟨(Zaq ps ((Hk s 0 (Hb ps i)).map fun n:Nat=>(n:Int)) ps.length).toArray⟩:ByteArray).toList==(⟨#[]⟩:ByteArray).toList):Bool)=false from putL_ne hps h0) ?_
 have c7:=bln a2 a0
 have c8:=Zb a3 a0
 refine xe 10 (.tuple #[.slice p5 i c5,V0 0]) ?_
 have he:Xt ps s=0:=by unfold Xt;rw[if_pos hsl,if_pos d2]
 subst a5
 exact⟨_,rfl,c7,_,_,by rw[he],by rw[Yr,if_pos he];exact c8⟩
theorem My(ps:List Gv)(s:Bl)(gl:O0)(cl:Nat)(w:World)(hps:Ji ps)(h0:0<ps.length)(hs:s.length≤100000)(hP:Sts Tk w (.slice gl ps.length cl) ps) :
 C0 77 #[.slice gl ps.length cl,.string ⟨s.toArray⟩] w (Kg (fun w' r=>∃ p c,r=.tuple #[.slice p ps.length c,V0 (Xt ps s)]∧w'.ownsRow w.heap.size 3 1 (.slice p ps.length c) ps.length ((Yr ps s).map nv)) w):=by
 by_cases h:s.length=(Hb ps ps.length).sum
 ·exact Bt ps s gl cl w hps h0 hs hP h
 ·exact Lk ps s gl cl w hps h0 hs hP h
end Go.Proofs.YtgphgaehfdfjjaaGreat
namespace Go.Proofs.YtgphgaehfdfjjaaGreat
set_option maxHeartbeats 8000000
set_option maxRecDepth 100000
open Go.RowKit Go.Extern.Stop Go.Stop Go.Extern
set_option linter.unusedVariables false
attribute [local irreducible] wpList wpAnyH Code.wp Oper.wp Go
section
variable {P:Program} {a:Act}
end
theorem Get_okN(a:O0)(n c k w:Nat)(ki wi:Int)(l:Bl)(W:World)(hn:l.length=n)(hki:ki=(k:Int))(hwi:wi=(w:Int))(hw:w=1∨w=2∨w=4)(hk:k+w≤n)(hl:n≤100000000)(h:Bys W (.slice a n c) l) :
 C0 85 #[.slice a n c,V0 ki,V0 wi] W (Ret (.tuple #[V0 (Zl l k w:Int),V0 0]) W):=by
 subst hn hki hwi;exact Zaf a c k w l W (by omega) hk hl h (by have:=Qb l k w (by omega);omega)
end Go.Proofs.YtgphgaehfdfjjaaGreat
namespace Go.Proofs.YtgphgaehfdfjjaaGreat
set_option maxHeartbeats 8000000
set_option maxRecDepth 100000
open Go.RowKit
theorem Blk.ty{w:World}{b:Nat}{cs cs':List Value}{t t':TypeId}(k:Blk w b cs t)(q:Blk w b cs' t'):t=t':=by
 have h1:w.heap[b]? = some (.cells cs.toArray t (0,0)):=k
 have h2:w.heap[b]? = some (.cells cs'.toArray t' (0,0)):=q
 rw[h1] at h2
 simp only[Option.some.injEq,Obj.cells.injEq] at h2
 exact h2.2.1
theorem Qw.upd{w W:World}{b:Nat}{cs:List Value}{t:TypeId}{l:List (Option Int)}{c:Option Int}{v:Value}(h:Qw w l c v)(u:Upd w b W)(k:Blk w b cs t)(hne:t≠152):Qw W l c v :=
 h.kept fun _ _ q=>u.blk q (by rintro rfl;exact hne (k.ty q))
theorem Qw.grown{w W:World}{e:TypeId}{base size n:Nat}{s:Value}{xs:List Value}{l:List (Option Int)}{c:Option Int}{v:Value}(h:Qw w l c v)(hg:w.grownBy W s.ownBlock)(hown:w.ownsRow base e size s n xs)(hne:e≠152):Qw W l c v :=
 h.kept fun _ _ q=>q.grown hg hown hne
theorem Qw.only{T:List TypeId}{w W:World}{l:List (Option Int)}{c:Option Int}{v:Value}(h:Qw w l c v)(k:Ze T w W)(hne:T.contains 152=false):Qw W l c v:=h.kept fun _ _ q=>q.only k hne
end Go.Proofs.YtgphgaehfdfjjaaGreat
namespace Go.Proofs.YtgphgaehfdfjjaaGreat
set_option maxHeartbeats 8000000
set_option maxRecDepth 100000
open Go.RowKit Go.Extern.Stop Go.Stop Go.Extern
set_option linter.unusedVariables false
attribute [local irreducible] wpList wpAnyH Code.wp Oper.wp Go
structure ImgR(B b:Nat)(p:Option Addr)(n c:Nat)(l:List UInt8)(w:World):Prop where
 blk:Blk w b [.slice p n c] 75
 row:w.ownsRow B 5 1 (.slice p n c) n (l.map bv)
 hn:n≤3686400
theorem ImgR.below{B b:Nat}{p:O0}{n c:Nat}{l:Bl}{w W:World}(h:ImgR B b p n c l w)(hb:B0 w W):ImgR B b p n c l W:=⟨h.blk.below hb,Zb h.row hb,h.hn⟩
theorem ImgR.only{B b:Nat}{p:O0}{n c:Nat}{l:Bl}{w W:World}{T:List TypeId}(h:ImgR B b p n c l w)(hO:Ze T w W)(hT:T.contains 75=false∧T.contains 5=false):ImgR B b p n c l W:=⟨h.blk.only hO hT.1,Zi h.row hO hT.2,h.hn⟩
theorem ImgR.len{B b:Nat}{p:O0}{n c:Nat}{l:Bl}{w:World}(h:ImgR B b p n c l w):l.length=n:=by have:=h.row.1;simpa using this
theorem ImgR.base{B b:Nat}{p:O0}{n c:Nat}{l:Bl}{w:World}(h:ImgR B b p n c l w)(hn:0<n):∃ g,p=some ⟨g,0,none⟩∧n≤c:=by
 rcases h.row.2 with ⟨_,h0⟩|⟨g,a0,a1,hv,_,_,hc,_⟩
 ·omega
 ·simp only[Value.slice.injEq] at hv
  obtain⟨rfl,_,rfl⟩:=hv
  exact⟨g,rfl,hc⟩
def Jb(l:Bl)(j:Nat):Bl:=(l.drop (j*256)).take 256
theorem Kf{l:Bl}{j:Nat}(h:j<l.length/256):(Jb l j).length=256:=by simp[Jb];omega
theorem Bys.mid{w:World}{g off n c:Nat}{l:Bl}(h:Bys w (.slice (some ⟨g,off,none⟩) n c) l)(hl:l.length=n)(k m:Nat)(hm:0<m)(hk:k+m≤n):Bys w (.slice (some ⟨g,off+k,none⟩) m m) ((l.drop k).take m):=by
 have a0:((l.drop k).take m).length=m:=by simp;omega
 rcases h with ⟨a',c',h1,h2,h3⟩|⟨g',a1,a2,h1,h2,h3,h4⟩
 ·omega
 ·simp only[Value.slice.injEq,Option.some.injEq,Addr.mk.injEq] at h1
  obtain⟨⟨rfl,rfl,_⟩,_,rfl⟩:=h1
  refine .inr ⟨g,off+k,m,by rw[a0],by omega,by omega,fun j x hj=>?_⟩
  rw[List.getElem?_map,List.getElem?_take] at hj
  split at hj
  ·rw[List.getElem?_drop] at hj
   have:=h4 (k+j) x (by rw[List.getElem?_map];exact hj)
   rwa [←Nat.add_assoc] at this
  ·cases hj
theorem ImgR.part{B b g:Nat}{n c:Nat}{l:Bl}{w:World}(h:ImgR B b (S1 g) n c l w){j:Nat}(hj:j<n/256):Bys w (.slice (some ⟨g,j*256,none⟩) 256 256) (Jb l j):=by
 have:=Bys.mid (Ka (Zg h.row) h.len) h.len (j*256) 256 (by decide) (by omega)
 rwa [Nat.zero_add] at this
def ReadP(n:Nat)(l:Bl)(k:Int)(w:World)(e:Ending)(w':World):Prop :=
 (¬ (0≤k∧k<(n/256:Nat))∧∃ v,e=.returned (.tuple #[v,V0 3])∧B0 w w') ∨
 (∃ j:Nat,k=(j:Int)∧j<n/256∧∃ p c,e=.returned (.tuple #[.slice p 256 c,V0 0])∧B0 w w'∧w'.ownsRow w.heap.size 5 1 (.slice p 256 c) 256 ((Jb l j).map bv))
theorem Bg(b:Nat)(p:O0)(n c:Nat)(k:Int)(w:World)(hk:Blk w b [.slice p n c] 75)(hn:n≤100000000)(ho:¬ (0≤k∧k<(n/256:Nat))) :
 C0 99 #[P0 b,V0 k] w (Ret (.tuple #[S0,V0 3]) w):=by
 refine zin 33 Tryz.func99 ?_
 refine xg 21 [13,14] (decide (k<(0:Int))) (fun a0=>?_) (fun a0=>?_)
 ·have a0:=of_decide_eq_true a0
  exact xe 18 (.tuple #[S0,V0 3]) ⟨rfl,(B3 w)⟩
 have a0:=of_decide_eq_false a0
 refine xr 2 (args:=#[P0 b]) (Vo b _ n c _ (hk.below (B3 w)) hn) fun W2 a1=>?_
 refine xk 5 (show(decide (k≥(↑(n/256):Int)):Bool)=true from decide_eq_true (by omega)) ?_
 exact xe 9 (.tuple #[S0,V0 3]) ⟨rfl,a1⟩
theorem Bq(B b:Nat)(p:O0)(n c:Nat)(l:Bl)(k:Int)(w:World)(hI:ImgR B b p n c l w)(ho:¬ (0≤k∧k<(n/256:Nat))) :
 C0 80 #[P0 b,V0 k] w (Kg (fun _ r=>∃ v,r=.tuple #[v,V0 3]) w):=by
 refine zin 17 Tryz.func80 ?_
 refine xr 10 (args:=#[P0 b,V0 k]) (Bg b p n c k _ (hI.below (B3 w)).blk (by have:=hI.hn;omega) ho) fun W1 a1=>?_
 refine xc 10 (args:=#[S0]) (Sd 0 _) ?_
 rintro _ W2 ⟨v2,rfl,a0,_⟩
 have hB:=bln a1 a0
 exact xe 6 (.tuple #[v2,V0 3]) ⟨_,rfl,hB,_,rfl⟩
theorem Fc(B b g:Nat)(n c:Nat)(l:Bl)(j:Nat)(w:World)(hI:ImgR B b (S1 g) n c l w)(hj:j<n/256)(hc:n≤c) :
 C0 80 #[P0 b,V0 (j:Int)] w (Kg (fun w' r=>∃ p2 c3,r=.tuple #[.slice p2 256 c3,V0 0]∧w'.ownsRow w.heap.size 5 1 (.slice p2 256 c3) 256 ((Jb l j).map bv)) w):=by
 have a3:=Kf (l:=l) (j:=j) (by rw[hI.len];exact hj)
 refine zin 17 Tryz.func80 ?_
 refine xr 10 (args:=#[P0 b,V0 (j:Int)]) (Lq b g n c j _ (hI.below (B3 w)).blk (by have:=hI.hn;omega) hc hj) fun W1 a1=>?_
 refine xc 10 (args:=#[.slice (some ⟨g,(j*256),none⟩) 256 256]) (Yx (some ⟨g,(j*256),none⟩) 256 256 (Jb l j) _ a3 ((hI.below a1).part hj) (by decide)) ?_
 rintro _ W2 ⟨_,rfl,a4,ho⟩
 have a0:=Zh ho a1.size
 unfold Ud at a0
 rw[a3] at a0
 obtain⟨p2,c3,rfl⟩:=(Zg a0).slice
 have a2:=bln a1 a4
 exact xe 6 (.tuple #[.slice p2 256 c3,V0 0]) ⟨_,rfl,a2,_,_,rfl,a0⟩
theorem Cr(B b:Nat)(p:O0)(n c:Nat)(l:Bl)(k:Int)(w:World)(hI:ImgR B b p n c l w) :
 C0 80 #[P0 b,V0 k] w (ReadP n l k w):=by
 by_cases h:0≤k∧k<(n/256:Nat)
 ·obtain⟨g,rfl,hc⟩:=hI.base (by omega)
  obtain⟨j,rfl⟩:∃ j:Nat,k=j:=⟨k.toNat,by omega⟩
  refine(Fc B b g n c l j w hI (by omega) hc).mono ?_
  rintro e W ⟨_,rfl,hb,p2,c3,rfl,ho⟩
  exact .inr ⟨j,rfl,by omega,_,_,rfl,hb,ho⟩
 ·refine(Bq B b p n c l k w hI h).mono ?_
  rintro e W ⟨_,rfl,hb,v,rfl⟩
  exact .inl ⟨h,_,rfl,hb⟩
def inE (l:Bl)(kind no:Int):Int:=if 0≤no∧no<(l.length/256:Nat) then Yy kind no (Jb l no.toNat) else 3
def inB (l:Bl)(no:Int):Bl:=((Jb l no.toNat).drop 8).take 244
theorem Fa{l:Bl}{kind no:Int}{n:Nat}(hl:l.length=n)(h:¬ (0≤no∧no<(n/256:Nat))):inE l kind no=3:=by subst hl;exact if_neg h
theorem Zes{l:Bl}{kind no:Int}{n j:Nat}(hl:l.length=n)(hk:no=(j:Int))(h:j<n/256):inE l kind no=Yy kind no (Jb l j):=by
 subst hl hk;rw[inE,if_pos ⟨by omega,by omega⟩];rfl
theorem Zfe{l:Bl}{no:Int}{j:Nat}(hk:no=(j:Int)):inB l no=((Jb l j).drop 8).take 244:=by subst hk;rfl
theorem Zdg{l:Bl}{no:Int}{n j:Nat}(hl:l.length=n)(hk:no=(j:Int))(h:j<n/256):(inB l no).length=244:=by
 subst hl hk;have:=Kf h;simp[inB,this]
theorem Nu{l l':Bl}(h:l.length=l'.length)(h2:∀ j,j<l.length→l.getD j 0=l'.getD j 0):l=l':=by
 apply List.ext_getElem h
 intro j h3 h4
 have:=h2 j h3
 simpa [List.getD,h3,h4] using this
theorem Qn{l:Bl}{k:Nat}{x:Bl}(h:k+x.length≤l.length)(j:Nat):(Vb l k x).getD j 0=if k≤j∧j<k+x.length then x.getD (j-k) 0 else l.getD j 0:=by
 unfold Vb
 simp only[List.getD]
 rw[List.append_assoc,List.getElem?_append,List.getElem?_append]
 have e:(l.take k).length=k:=by simp;omega
 rw[e]
 by_cases h1:j<k
 ·rw[if_pos h1,if_neg (by omega),List.getElem?_take,if_pos h1]
 ·rw[if_neg h1]
  by_cases h2:j-k<x.length
  ·rw[if_pos h2,if_pos (by omega)]
  ·rw[if_neg h2,if_neg (by omega),List.getElem?_drop,show k+x.length+(j-k-x.length)=j by omega]
theorem Dg{l l':Bl}:∀ (w k:Nat),(∀ j,k≤j→j<k+w→l.getD j 0=l'.getD j 0)→Zl l k w=Zl l' k w
 | 0,k,h=>rfl
 | w+1,k,h=>by rw[Zl,Zl,h k (by omega) (by omega),Dg w (k+1) fun j h1 h2=>h j (by omega) (by omega)]
theorem Gk{l:Bl}:∀ (w k m:Nat),(∀ i,i<w→l.getD (k+i) 0=UInt8.ofNat (m/256 ^ i))→Zl l k w=m%256 ^ w
 | 0,k,m,h=>by simp[Zl,Nat.mod_one]
 | w+1,k,m,h=>by
  have h0:=h 0 (by omega)
  simp only[Nat.add_zero,Nat.pow_zero,Nat.div_one] at h0
  have h1:=Gk (l:=l) w (k+1) (m/256) fun i hi=>by
   have:=h (i+1) (by omega)
   rw[Nat.pow_succ,Nat.mul_comm,←Nat.div_div_eq_div_mul] at this
   rw[show k+1+i=k+(i+1) by omega];exact this
  rw[Zl,h0,h1,Nat.pow_succ,Nat.mul_comm (256 ^ w) 256,Nat.mod_mul]
  congr 1
theorem Dw{l:Bl}{k w:Nat}{n:Int}(h:k+w≤l.length)(h0:0≤n)(hb:n.toNat<256 ^ w):(Zl (Vb l k (leB n w)) k w:Int)=n:=by
 rw[Gk w k n.toNat,Nat.mod_eq_of_lt hb]
 ·omega
 ·intro i hi
  rw[Qn (by rw[Zj];exact h),if_pos (by rw[Zj];omega),show k+i-k=i by omega]
  simp[leB,Zp,List.getD,List.getElem?_range hi]
theorem Xx{l x:Bl}{k j w:Nat}(h:k+x.length≤l.length)(hd:j+w≤k∨k+x.length≤j):Zl (Vb l k x) j w=Zl l j w :=
 Dg w j fun i h1 h2=>by rw[Qn h,if_neg (by omega)]
theorem Zgl{l:Bl}{k w:Nat}(h:∀ j,k≤j→j<k+w→l.getD j 0=0):Zl l k w=0:=by
 have:=Gk (l:=l) w k 0 fun i hi=>by rw[h (k+i) (by omega) (by omega)];simp
 simpa using this
theorem sumB_put{l x:Bl}{kind:Int}(h:252≤l.length):Sx (Vb l 252 x) kind=Sx l kind:=by
 unfold Sx Vb
 rw[List.append_assoc,List.take_append_of_le_length (by simp;omega),List.take_take];rfl
theorem Bm(n j:Nat):(List.replicate n (0:UInt8)).getD j 0=0:=by
 simp[List.getD,List.getElem?_replicate];split<;>rfl
def Og(li:Bl):Bl:=li++List.replicate (244-li.length) 0
theorem Zej{kind no:Int}{li:Bl}(h1:1≤kind)(h2:kind≤4)(h3:0≤no)(h4:no<14400)(hl:li.length≤244):Yy kind no (Yp kind no li)=0:=by
 have l1:=Ju hl
 have l2:=Jm (no:=no) hl
 have l3:=Vu (kind:=kind) (no:=no) hl
 have l4:=Ko (kind:=kind) (no:=no) hl
 have a0:Ul kind no (Yp kind no li) 0=false:=by simp only[Ul];rw[show Pz kind no=true from decide_eq_true (by omega)];rfl
 have a1:Ul kind no (Yp kind no li) 1=false:=by simp only[Ul,l4];rfl
 have a2:Ul kind no (Yp kind no li) 2=false:=by
  have hs:Sx (Yp kind no li) kind=Sx (Gu kind no li) kind:=by unfold Yp;exact sumB_put (by omega)
  have hr:(Zl (Yp kind no li) 252 4:Int)=(Sx (Gu kind no li) kind:Int):=by
   unfold Yp
   exact Dw (by omega) (by omega) (by have:=Zf8 (Gu kind no li) kind;simpa using this)
  simp only[Ul,hr,hs];simp
 have a3:Ul kind no (Yp kind no li) 3=false:=by
  have hr:(Zl (Yp kind no li) 0 4:Int)=no:=by
   unfold Yp
   rw[Xx (by rw[Zj];omega) (.inl (by omega))]
   unfold Gu
   rw[Xx (by rw[Zj];omega) (.inl (by omega))]
   unfold Ad
   exact Dw (by omega) (by omega) (by omega)
  simp only[Ul,hr];simp
 have a4:Ul kind no (Yp kind no li) 4=false:=by
  have hr:(Zl (Yp kind no li) 4 2:Int)=kind:=by
   unfold Yp
   rw[Xx (by rw[Zj];omega) (.inl (by omega))]
   unfold Gu
   exact Dw (by omega) (by omega) (by omega)
  simp only[Ul,hr];simp
 have a5:Ul kind no (Yp kind no li) 5=false:=by
  have hr:Zl (Yp kind no li) 6 2=0:=by
   unfold Yp
   rw[Xx (by rw[Zj];omega) (.inl (by omega))]
   unfold Gu
   rw[Xx (by rw[Zj];omega) (.inr (by rw[Zj];omega))]
   unfold Ad
   rw[Xx (by rw[Zj];omega) (.inr (by rw[Zj];omega))]
   unfold Rj
   rw[Xx (by rw[List.length_replicate];omega) (.inl (by omega))]
   exact Zgl fun j _ _=>Bm 256 j
  simp only[Ul,hr];rfl
 simp[Yy,a0,a1,a2,a3,a4,a5]
theorem in_seal{kind no:Int}{li:Bl}(hl:li.length≤244):((Yp kind no li).drop 8).take 244=Og li:=by
 have l1:=Ju hl
 have l2:=Jm (no:=no) hl
 have l3:=Vu (kind:=kind) (no:=no) hl
 have l4:=Ko (kind:=kind) (no:=no) hl
 apply Nu
 ·simp[Og,l4];omega
 ·intro j hj
  have a0:j<244:=by simp[l4] at hj;omega
  have e:(((Yp kind no li).drop 8).take 244).getD j 0=(Yp kind no li).getD (8+j) 0:=by
   simp only[List.getD];rw[List.getElem?_take,if_pos a0,List.getElem?_drop]
  rw[e]
  unfold Yp
  rw[Qn (by rw[Zj];omega),if_neg (by rw[Zj];omega)]
  unfold Gu
  rw[Qn (by rw[Zj];omega),if_neg (by rw[Zj];omega)]
  unfold Ad
  rw[Qn (by rw[Zj];omega),if_neg (by rw[Zj];omega)]
  unfold Rj
  rw[Qn (by rw[List.length_replicate];omega),Bm]
  unfold Og
  simp only[List.getD]
  rw[List.getElem?_append]
  by_cases h:j<li.length
  ·rw[if_pos ⟨by omega,by omega⟩,if_pos h,show 8+j-8=j by omega]
  ·rw[if_neg (by omega),if_neg h]
   have:=Bm (244-li.length) (j-li.length)
   simp only[List.getD] at this
   exact this.symm
theorem blkB_put{l x:Bl}{k:Nat}(hx:x.length=256)(hk:k<l.length/256):Jb (Vb l (k*256) x) k=x:=by
 have a0:k*256+256≤l.length:=by omega
 have hp:=Yj (l:=l) (k:=k*256) (x:=x) (by omega)
 apply Nu
 ·rw[Kf (by rw[hp];exact hk),hx]
 ·intro j hj
  rw[Kf (by rw[hp];exact hk)] at hj
  have e:(Jb (Vb l (k*256) x) k).getD j 0=(Vb l (k*256) x).getD (k*256+j) 0:=by
   simp only[Jb,List.getD];rw[List.getElem?_take,if_pos hj,List.getElem?_drop]
  rw[e,Qn (by omega),if_pos (by omega),show k*256+j-k*256=j by omega]
theorem Gw{l x:Bl}{k i:Nat}(hx:x.length=256)(hk:k<l.length/256)(hne:i≠k)(hi:i<l.length/256):Jb (Vb l (k*256) x) i=Jb l i:=by
 have a0:k*256+256≤l.length:=by omega
 have hp:=Yj (l:=l) (k:=k*256) (x:=x) (by omega)
 apply Nu
 ·rw[Kf (by rw[hp];exact hi),Kf hi]
 ·intro j hj
  rw[Kf (by rw[hp];exact hi)] at hj
  have e:∀ l:Bl,(Jb l i).getD j 0=l.getD (i*256+j) 0:=fun l=>by
   simp only[Jb,List.getD];rw[List.getElem?_take,if_pos hj,List.getElem?_drop]
  rw[e,e,Qn (by omega),if_neg (by omega)]
theorem BysM.elem{w:World}{a:O0}{n c:Nat}{l:Bl}(h:Bys w (.slice a n c) l)(hl:l.length=n){k:Nat}(hk:k<n):a.isSome=true∧w.cell? (Xa a (k*1))=some (.int .u8 (↑(l.getD k 0).toNat:Int)):=by
 subst hl;exact Bys.elem h hk
def Vg(t:Int)(leaf:Bool)(n m v:Nat):Bl:=leB (Ha leaf) 1++leB t 1++leB (n:Int) 2++leB (v:Int) 2++leB (m:Int) 2++leB 0 4
theorem Vd(t:Int)(leaf:Bool)(n m v:Nat):(Vg t leaf n m v).length=12:=by simp[Vg,Zj]
def Ky(m v:Nat)(H:Bl)(K:List Int)(Vs:List Bl):Nat→Bl
 | 0=>Vb (List.replicate 244 0) 0 H
 | i+1=>Vb (Vb (Ky m v H K Vs i) (12+i*8) (leB (K.getD i 0) 8)) (12+m*8+i*v) (Vs.getD i [])
theorem Mn{m v:Nat}{H:Bl}{K:List Int}{Vs:List Bl}(hH:H.length=12)(hf:12+m*8+m*v≤244):∀ {i:Nat},i≤m→(∀ j,j<i→(Vs.getD j []).length=v)→(Ky m v H K Vs i).length=244
 | 0,_,_=>by rw[Ky,Yj (by rw[List.length_replicate];omega),List.length_replicate]
 | i+1,hi,hV=>by
  have ih:=Mn (K:=K) hH hf (i:=i) (by omega) (fun j hj=>hV j (by omega))
  have h1:=hV i (by omega)
  have h2:(i+1)*v≤m*v:=Nat.mul_le_mul_right v hi
  rw[Nat.add_mul,Nat.one_mul] at h2
  have h3:(Vb (Ky m v H K Vs i) (12+i*8) (leB (K.getD i 0) 8)).length=244:=by rw[Yj (by rw[Zj,ih];omega),ih]
  rw[Ky,Yj (by rw[h1,h3];omega),h3]
theorem node_Put(t:Int)(leaf:Bool)(n m v:Nat)(K:List Int)(Vs:List Bl)(ak av:O0)(ck cv:Nat)(w:World)(N:NodeOk t leaf n m v K Vs)(hKs:Sl w (.slice ak n ck) n (K.map V0))(hVs:Sl w (.slice av n cv) n (Vs.map sv)) :
 C0 51 #[.agg #[V0 t,.bool leaf,.slice ak n ck,.slice av n cv]] w (Kg (fun w' r=>∃ p c,r=.tuple #[.slice p 244 c,V0 0]∧w'.ownsRow w.heap.size 5 1 (.slice p 244 c) 244 ((Ky m v (Vg t leaf n m v) K Vs n).map bv)) w):=by
 have e6:=N.ht1
 have e8:=N.ht2
 have g0:=N.hn
 have f3:=Ba t leaf
 rw[N.hv] at f3
 have f6:=Xv t leaf
 rw[N.hm] at f6
 have d9:=fitN t leaf
 rw[N.hm,N.hv] at d9
 have f1:=Sl.cap hKs
 refine zin 90 Tryz.func51 ?_
 refine xa 2 [V0 t,.bool leaf,.slice ak n ck,.slice av n cv] 117 fun b1 W1 n1=>?_
 refine xlv 7 n1.blk.rp ?_
 refine xr 0 (args:=#[.agg #[V0 t,.bool leaf,.slice ak n ck,.slice av n cv]]) (Zcg t leaf n m v K Vs ak av ck cv _ N (hKs.below n1.below) (hVs.below n1.below)) fun W2 e2=>?_
 refine xd 7 .z ?_
 have a5:=(n1.blk.below e2).below (Za W2)
 refine xb (.e [0] 1) 0 a5 ?_
 refine xb (.e [2] 3) 1 a5 ?_
 refine xb (.e [5] 6) 0 a5 ?_
 refine xb (.e [7] 8) 1 a5 ?_
 refine xr (.o [] 4) (args:=#[V0 t,.bool leaf]) (Uq t leaf v N.hv e6 e8 _) fun W3 e5=>?_
 refine xr (.o [] 9) (args:=#[V0 t,.bool leaf]) (Mr t leaf m N.hm e6 e8 _) fun W4 e7=>?_
 refine xd (.r [10,11] 3) .z ?_
 have a7:=((a5.below e5).below e7).below (Za W4)
 refine xb (.e [0] 1) 1 a7 ?_
 refine xb (.e [4] 5) 0 a7 ?_
 refine xb (.e [6,7] 8) 2 a7 ?_
 refine xr (.o [9,10,11,12,13,14,15] 2) (args:=#[.bool leaf]) (Zd7 leaf _) fun W5 e4=>?_
 refine xbs (.o [3] 16) 6 [V0 1,V0 (Ha leaf),V0 1,V0 t,V0 2,V0 (n:Int),V0 2,V0 (v:Int),V0 2,V0 (m:Int),V0 4,V0 0] 111 fun b6 W6 n6=>?_
 have b2:=bln (bln (bln (bln (bln (bln n1.below e2) (Za W2)) e5) e7) (Za W4)) e4
 have g6:=n6.ge b2
 refine yc (.o [] 17) (args:=#[.slice (S1 b6) 6 6]) .z (Zc9 b6 (Ha leaf) t (n:Int) (v:Int) (m:Int) (Dp leaf).1 (Dp leaf).2 (by omega) (by omega) (by omega) (by omega) (by omega) (by omega) (by omega) (by omega) _ n6.blk) ?_
 rintro _ W7 ⟨_,rfl,c8,p2,c2,rfl,h2⟩
 have f2:=(bln b2 n6.below).size
 refine⟨c8,?_⟩
 refine xmk (.r [18,19,20,21,22] 4) fun _ _ _ _ zJ zQ zo zx zy zK=>Jj 244 (.int .u8 0) 1 1 ((List.replicate 244 (0:UInt8)).map bv) zo zx zy Tryz.underlying36 (by kernel_rfl) rfl (by omega) (by omega) (On 244) fun b8 W8 n8=>?_
 have b7:=bln (bln b2 n6.below) c8
 have g8:=n8.ge b7
 have c4:=Zh h2 f2
 have e0:=Xd c4 n8
 refine zK _ _ ?_
 have o8:=Xo (size:=1) (n:=244) n8.blk g8 (by rw[List.length_map,List.length_replicate]) (by unfold maxLen;omega)
 have d1:=Zb c4 n8.below
 have c6:=bln b7 n8.below
 refine xbi 7 (t2:=36) fun _ _ _ _ zJ zQ zo zx zy zK=>Uj (dLen:=244) (dCap:=244) (off:=0) 12 ((Vg t leaf n m v).map bv) ((Ky m v (Vg t leaf n m v) K Vs 0).map bv) zo Tryz.underlying36 (by kernel_rfl) zx zy (Zg d1) o8 (by simp[Vd]) (by omega) (by omega) (Qt _) c6.size (by simp[Ky,Vb,Vd]) fun W9 o9 e3 e9=>?_
 refine zK _ _ ?_
 have c1:=((((a7.below e4).below n6.below).below c8).below n8.below).grown e3 o8 (by decide)
 refine xb 6 2 c1 ?_
 have c9:=c6.trans e9
 have d2:=((n6.blk.below c8).below n8.below).grown e3 o8 (by decide)
 refine zl 5 90 (fun zm f4 V=>∃ (i:Nat),f4=[(1,P0 b1),(2,S0),(3,V0 0),(4,V0 (v:Int)),(5,V0 (m:Int)),(8,.slice (S1 b8) 244 244),(52,.slice ak n ck),(53,V0 (n:Int)),(54,V0 (i:Int))]∧zm=n-((i:Int)).toNat∧B0 w V∧Blk V b1 ([V0 t,.bool leaf,.slice ak n ck,.slice av n cv]) 117∧Blk V b6 ([V0 1,V0 (Ha leaf),V0 1,V0 t,V0 2,V0 (n:Int),V0 2,V0 (v:Int),V0 2,V0 (m:Int),V0 4,V0 0]) 111∧V.ownsRow w.heap.size 5 1 (.slice (S1 b8) 244 244) 244 ((Ky m v (Vg t leaf n m v) K Vs i).map bv)∧i≤n) ⟨0,rfl,rfl,c9,c1,d2,o9,Nat.zero_le _⟩ ?_
 rintro _ _ g2 ⟨i,rfl,rfl,a1,b5,a4,ho,hi⟩ g1 d5 f7
 have e9:i<n→i*v+v≤m*v:=fun h=>by have h9:(i+1)*v≤m*v:=Nat.mul_le_mul_right v (by omega);rw[Nat.add_mul,Nat.one_mul] at h9;exact h9
 refine xid 6 ((i:Int)<(n:Int)) (fun d3=>?_) (fun d3=>?_)
 ·refine xx 7 _ n i 1 (IntsN.elem hKs N.hK (k:=i) (by omega)).1 ?_
  refine xl 0 ((IntsN.elem (hKs.below a1) N.hK (k:=i) (by omega)).2) ?_
  refine xbs 8 1 [V0 8,V0 (K.getD i 0)] 111 fun e1 f8 a9=>?_
  have d7:=a9.ne a4
  have g3:=a9.ge a1
  refine xc 0 (args:=#[.slice (S1 e1) 1 1]) (Pack_8 e1 (K.getD i 0) (N.hk0 i (by omega)).1 _ a9.blk) ?_
  rintro _ f9 ⟨_,rfl,a8,p3,c3,rfl,h3⟩
  have d0:=(bln a1 a9.below).size
  refine xwm 11 ((i:Int)*8) (↑(i*8):Int) ?_
  refine xwm 0 (12+(↑(i*8):Int)) (↑(12+(i*8)):Int) ?_
  refine xsL 0 (fun _ _ _ _ zo zx zy V=>Gp (k:=(12+(i*8))) (b:=b8) (off:=0) (n:=244) (c:=244) (i:=(↑(12+(i*8)):Int)) (ki:=.i64) 1 zo zx zy rfl (by omega) (by omega) Tryz.underlying36 (by kernel_rfl) V) ?_
  have b4:=Zb (Zb ho a9.below) a8
  have d8:=Zh h3 d0
  have c5:=bln (bln a1 a9.below) a8
  refine xbi 1 (t2:=36) fun _ _ _ _ zJ zQ zo zx zy zK=>Uj (dLen:=(244-(12+(i*8)))) (dCap:=(244-(12+(i*8)))) (off:=(0+(12+(i*8))*1)) 8 ((leB (K.getD i 0) 8).map bv) ((Vb (Ky m v (Vg t leaf n m v) K Vs i) (12+i*8) (leB (K.getD i 0) 8)).map bv) zo Tryz.underlying36 (by kernel_rfl) zx zy (Zg d8) b4 (by simp[Zj]) (by omega) (by omega) (Qt _) c5.size (by simp[Vb,Zj,List.map_take,List.map_drop]) fun c7 f5 c0 d4=>?_
  refine zK _ _ ?_
  refine xd 2 (.t w.heap.size [5]) ?_
  refine xwm (.e [0,1] 2) ((m:Int)*8) (↑(m*8):Int) ?_
  refine xwm (.e [] 3) (12+(↑(m*8):Int)) (↑(12+(m*8)):Int) ?_
  refine xwm (.e [4,5] 6) ((i:Int)*(v:Int)) (↑(i*v):Int) ?_
  refine xwm (.e [] 7) ((↑(12+(m*8)):Int)+(↑(i*v):Int)) (↑((12+(m*8))+(i*v)):Int) ?_
  refine xsL (.e [] 8) (fun _ _ _ _ zo zx zy V=>Gp (k:=((12+(m*8))+(i*v))) (b:=b8) (off:=0) (n:=244) (c:=244) (i:=(↑((12+(m*8))+(i*v)):Int)) (ki:=.i64) 1 zo zx zy rfl (by omega) (by omega) Tryz.underlying36 (by kernel_rfl) V) ?_
  have a0:=(((b5.below a9.below).below a8).grown c0 b4 (by decide)).below (Za c7)
  refine xbt (.e [9] 10) 3 w.heap.size [5] a0 ?_
  refine xx (.e [11] 12) _ n i 1 (Strs.elem hVs N.hV (k:=i) (by omega)).1 ?_
  have b0:=bln (c5.trans d4) (Za c7)
  refine xlt (.e [] 13) (.t w.heap.size [5]) (fun V hV=>(Strs.elem (hVs.below (Dt b0 hV (Nat.le_refl _))) N.hV (k:=i) (by omega)).2) ?_
  have a2:=Zb f5 (Za c7)
  refine ybi (.o [] 14) (t2:=9) (.t w.heap.size [5]) fun _ _ _ _ zJ zQ zo zx zy zK=>Oz (dLen:=(244-((12+(m*8))+(i*v)))) (dCap:=(244-((12+(m*8))+(i*v)))) (off:=(0+((12+(m*8))+(i*v))*1)) (Vs.getD i []) ((Ky m v (Vg t leaf n m v) K Vs (i+1)).map bv) zo Tryz.underlying36 (by kernel_rfl) zx zy a2 (by rw[N.hw i (by omega)];omega) (by rw[N.hw i (by omega)];omega) b0.size (by simp[Ky,Vb,List.map_take,List.map_drop]) fun g4 f0 b3 b9=>?_
  refine zK _ _ (Va b9 b3 a2 (by decide)) ?_
  refine xwm 4 ((i:Int)+1) (↑(i+1):Int) ?_
  have d6:=b0.trans b9
  have a3:=a0.grown b3 a2 (by decide)
  have a6:=((((a4.below a9.below).below a8).grown c0 b4 (by decide)).below (Za c7)).grown b3 a2 (by decide)
  exact ze 2 (d5 _ _ _ ⟨i+1,rfl,rfl,d6,a3,a6,f0,by omega⟩ (by omega))
 refine xe 13 (.tuple #[.slice (S1 b8) 244 244,V0 0]) ?_
 have e:i=n:=by omega
 subst e
 exact⟨_,rfl,a1,_,_,rfl,ho⟩
def Yf(K:List Int)(n:Nat)(i:Nat):Bl:=(List.range i).flatMap fun j=>if j<n then leB (K.getD j 0) 8 else List.replicate 8 0
theorem Qo(K:List Int)(n i:Nat):Yf K n (i+1)=Yf K n i++(if i<n then leB (K.getD i 0) 8 else List.replicate 8 0):=by
 unfold Yf;rw[List.range_succ,List.flatMap_append];simp
theorem Kl(K:List Int)(n i:Nat):(Yf K n i).length=i*8:=by
 induction i with
 | zero=>rfl
 | succ i ih=>rw[Qo,List.length_append,ih];split<;>simp[Zj]<;>omega
def Qe(Vs:List Bl)(i:Nat):Bl:=(List.range i).flatMap fun j=>Vs.getD j []
theorem Jw(Vs:List Bl)(i:Nat):Qe Vs (i+1)=Qe Vs i++Vs.getD i []:=by
 unfold Qe;rw[List.range_succ,List.flatMap_append];simp
theorem Gn{Vs:List Bl}{v:Nat}:∀ {i:Nat},(∀ j,j<i→(Vs.getD j []).length=v)→(Qe Vs i).length=i*v
 | 0,_=>by simp[Qe]
 | i+1,h=>by rw[Jw,List.length_append,Gn fun j hj=>h j (by omega),h i (by omega),Nat.add_mul,Nat.one_mul]
theorem Du{P z Q x:Bl}{k:Nat}(hk:P.length=k)(hz:z.length=x.length):Vb (P++z++Q) k x=P++x++Q:=by
 unfold Vb
 subst hk
 rw[List.append_assoc P z Q,List.take_left' rfl,←hz]
 have e:P++(z++Q)=(P++z)++Q:=(List.append_assoc _ _ _).symm
 rw[e,List.drop_left' (by simp)]
theorem Kv(K:List Int)(i:Nat):∀ d,Yf K i (i+d)=Yf K i i++List.replicate (d*8) 0
 | 0=>by simp
 | d+1=>by
  rw[←Nat.add_assoc,Qo,Kv K i d,if_neg (by omega),List.append_assoc,List.replicate_append_replicate,Nat.add_mul,Nat.one_mul]
theorem Wz(K:List Int)(n:Nat):∀ i,i≤n→Yf K n i=Yf K i i
 | 0,_=>rfl
 | i+1,h=>by
  rw[Qo,Qo,if_pos (by omega),if_pos (by omega),Wz K n i (by omega),Wz K (i+1) i (by omega)]
theorem Ej(a b:Nat):List.replicate (a+b) (0:UInt8)=List.replicate a 0++List.replicate b 0:=List.replicate_append_replicate.symm
theorem Dd{m v:Nat}{H:Bl}{K:List Int}{Vs:List Bl}(hH:H.length=12)(hf:12+m*8+m*v≤244):∀ {i:Nat},i≤m→(∀ j,j<i→(Vs.getD j []).length=v) →
  Ky m v H K Vs i=H++Yf K i m++Qe Vs i++List.replicate (232-m*8-i*v) 0
 | 0,_,_=>by
  have e1:=Kv K 0 m
  rw[Nat.zero_add] at e1
  rw[Ky,e1]
  have h1:(232-m*8-0*v)=232-m*8:=by omega
  rw[h1,show(244:Nat)=12+(m*8+(232-m*8)) by omega,Ej,Ej]
  have:=Du (P:=[]) (z:=List.replicate 12 (0:UInt8)) (Q:=List.replicate (m*8) 0++List.replicate (232-m*8) 0) (x:=H) (k:=0) rfl (by simp[hH])
  rw[List.nil_append,List.nil_append] at this
  rw[this]
  simp[Yf,Qe]
 | i+1,hi,hV=>by
  have ih:=Dd (K:=K) hH hf (i:=i) (by omega) (fun j hj=>hV j (by omega))
  have a4:=hV i (by omega)
  have h2:(i+1)*v≤m*v:=Nat.mul_le_mul_right v hi
  rw[Nat.add_mul,Nat.one_mul] at h2
  obtain⟨d,hd⟩:∃ d,m=i+(d+1):=⟨m-i-1,by omega⟩
  have ek:Yf K i m=Yf K i i++List.replicate 8 0++List.replicate (d*8) 0:=by
   rw[hd,Kv,show(d+1)*8=8+d*8 by omega,Ej,List.append_assoc]
  have a3:Yf K (i+1) m=Yf K i i++leB (K.getD i 0) 8++List.replicate (d*8) 0:=by
   rw[show m=(i+1)+d by omega,Kv,Qo,if_pos (by omega),Wz K (i+1) i (by omega)]
  have er:List.replicate (232-m*8-i*v) (0:UInt8)=List.replicate v 0++List.replicate (232-m*8-(i*v+v)) 0:=by
   rw[←Ej];congr 1;omega
  have a0:(Qe Vs i).length=i*v:=Gn fun j hj=>hV j (by omega)
  rw[Ky,ih,ek,er]
  have s1:=Du (P:=H++Yf K i i) (z:=List.replicate 8 (0:UInt8)) (Q:=List.replicate (d*8) 0++(Qe Vs i++(List.replicate v 0++List.replicate (232-m*8-(i*v+v)) 0))) (x:=leB (K.getD i 0) 8) (k:=12+i*8) (by rw[List.length_append,hH,Kl]) (by simp[Zj])
  have a1:H++(Yf K i i++List.replicate 8 0++List.replicate (d*8) 0)++Qe Vs i++(List.replicate v 0++List.replicate (232-m*8-(i*v+v)) 0)=H++Yf K i i++List.replicate 8 0++(List.replicate (d*8) 0++(Qe Vs i++(List.replicate v 0++List.replicate (232-m*8-(i*v+v)) 0))):=by simp only[List.append_assoc]
  rw[a1,s1]
  have s2:=Du (P:=H++Yf K (i+1) m++Qe Vs i) (z:=List.replicate v (0:UInt8)) (Q:=List.replicate (232-m*8-(i*v+v)) 0) (x:=Vs.getD i []) (k:=12+m*8+i*v) (by rw[List.length_append,List.length_append,hH,Kl,a0]) (by rw[List.length_replicate,a4])
  have a2:H++Yf K i i++leB (K.getD i 0) 8++(List.replicate (d*8) 0++(Qe Vs i++(List.replicate v 0++List.replicate (232-m*8-(i*v+v)) 0)))=H++Yf K (i+1) m++Qe Vs i++List.replicate v 0++List.replicate (232-m*8-(i*v+v)) 0:=by rw[a3];simp only[List.append_assoc]
  rw[a2,s2,Jw,Nat.add_mul,Nat.one_mul]
  simp only[List.append_assoc]
end Go.Proofs.YtgphgaehfdfjjaaGreat
namespace Go.Proofs.YtgphgaehfdfjjaaGreat
set_option maxHeartbeats 8000000
set_option maxRecDepth 100000
open Go.RowKit
set_option linter.unusedVariables false
def Zgi(lo hi k:Int):Bool:=decide (lo≤k∧k<hi)
def Kw(lo hi:Int):Bool:=decide (0≤lo∧lo≤hi∧hi≤281474976710656)
def Vy(l:List Int):Prop:=∀ k,k<l.length→1≤k→l[k-1]?.getD 0<l[k]?.getD 0
instance (l:List Int):Decidable (Vy l):=by unfold Vy;infer_instance
def Qv(lo hi:Int)(l:List Int):Int :=
 if Kw lo hi then if Vy l then if ∀ k∈l,lo≤k∧k<hi then 0 else 9 else 8 else 1
@[go_sem] def spanV (lo hi:Int):Value:=.agg #[V0 lo,V0 hi]
theorem Vy.lt{l:List Int}(h:Vy l):∀ (j i:Nat),i<j→j<l.length→l[i]?.getD 0<l[j]?.getD 0:=by
 intro j
 induction j with
 | zero=>intro i h1;omega
 | succ j ih =>
  intro i h1 h2
  have h3:=h (j+1) h2 (by omega)
  simp only[Nat.add_sub_cancel] at h3
  by_cases hij:i=j
  ·subst hij;exact h3
  ·exact Int.lt_trans (ih i (by omega) (by omega)) h3
theorem Vy.one(l:List Int):Vy (l.take 1):=by
 intro k h1 h2;simp at h1;omega
theorem Vy.succ{l:List Int}{k:Nat}{x y:Int}(h:Vy (l.take k))(hx:l[k-1]? = some x)(hy:l[k]? = some y)(hxy:x<y):Vy (l.take (k+1)):=by
 intro j h1 h2
 have a0:j<k+1:=by simp at h1;omega
 rw[List.getElem?_take,List.getElem?_take,if_pos (by omega),if_pos a0]
 by_cases hj:j=k
 ·subst hj;rw[hx,hy];exact hxy
 ·have:=h j (by simp at h1 ⊢;omega) h2
  rw[List.getElem?_take,List.getElem?_take,if_pos (by omega),if_pos (by omega)] at this
  exact this
theorem Zb2{lo hi:Int}{l:List Int}(h:Kw lo hi=false):Qv lo hi l=1:=by simp[Qv,h]
theorem Zbq{lo hi:Int}{l:List Int}{k:Nat}{x y:Int}(h:Kw lo hi=true)(hk:1≤k)(hx:l[k-1]? = some x)(hy:l[k]? = some y)(hxy:y≤x):Qv lo hi l=8:=by
 have hn:¬ Vy l:=fun hs=>by
  have a0:k<l.length:=by rcases List.getElem?_eq_some_iff.1 hy with ⟨h,_⟩;exact h
  have:=hs k a0 hk
  rw[hx,hy] at this
  simp at this;omega
 simp[Qv,h,hn]
theorem It{lo hi:Int}(h:Kw lo hi=true):Qv lo hi []=0:=by
 have hs:Vy []:=fun k h1=>by simp at h1
 simp[Qv,h,hs]
theorem Vy.all{l:List Int}{k:Nat}(h:Vy (l.take k))(hk:l.length≤k):Vy l:=by rwa [List.take_of_length_le hk] at h
theorem Iy{lo hi k:Int}:Zgi lo hi k=true↔lo≤k∧k<hi:=by simp[Zgi]
theorem fits_in{lo hi:Int}{l:List Int}{x y:Int}(h:Kw lo hi=true)(hs:Vy l)(hx:l[0]? = some x)(hy:l[l.length-1]? = some y)(ha:Zgi lo hi x=true)(hb:Zgi lo hi y=true):Qv lo hi l=0:=by
 have a0:∀ k∈l,lo≤k∧k<hi:=by
  intro k hk
  obtain⟨i,a1,rfl⟩:=List.mem_iff_getElem.1 hk
  rw[Iy] at ha hb
  have e:l[i]? = some l[i]:=by simp
  have h1:x≤l[i]:=by
   by_cases h0:i=0
   ·subst h0;rw[hx] at e;injection e with e;omega
   ·have:=hs.lt i 0 (by omega) a1
    rw[hx,e] at this;simp at this;omega
  have h2:l[i]≤y:=by
   by_cases h0:i=l.length-1
   ·subst h0;rw[hy] at e;injection e with e;omega
   ·have:=hs.lt (l.length-1) i (by omega) (by omega)
    rw[hy,e] at this;simp at this;omega
  omega
 simp only[Qv,h,if_true,hs]
 rw[if_pos a0]
theorem Ok{lo hi:Int}{l:List Int}{i:Nat}{x:Int}(h:Kw lo hi=true)(hs:Vy l)(hx:l[i]? = some x)(ha:Zgi lo hi x=false):Qv lo hi l=9:=by
 have hn:¬ ∀ k∈l,lo≤k∧k<hi:=fun a0=>by
  have:=Iy.2 (a0 x (List.mem_of_getElem? hx))
  rw[ha] at this;cases this
 simp only[Qv,h,if_true,hs]
 rw[if_neg hn]
theorem Of(w:World):C0 76 #[] w (Ret (spanV 0 281474976710656) w):=by
 go_enter Tryz.func76,Tryz.ntmps76
 go_wp2
 exact bodyPost_ret (v:=spanV 0 281474976710656) (by simp[results,Tryz.results76,go_sem,spanV]) rfl ⟨rfl,blx _ _⟩
theorem Ed(lo hi k:Int)(w:World):C0 130 #[spanV lo hi,V0 k] w (Ret (.bool (Zgi lo hi k)) w):=by
 unfold spanV
 go_enter Tryz.func130,Tryz.ntmps130
 go_wp2
 all_goals go_ret
 all_goals refine⟨?_,blx _ _⟩
 all_goals (unfold Zgi;congr 2;simp;omega)
theorem Wv(lo hi:Int)(w:World):C0 129 #[spanV lo hi] w (Ret (.bool (Kw lo hi)) w):=by
 unfold spanV
 go_enter Tryz.func129,Tryz.ntmps129
 go_wp2_with fail
 refine(Of _).mono ?_
 rintro e w' ⟨rfl,hb⟩
 have hz:w.heap.size<w'.heap.size:=ltB hb (by simp)
 have h0:=Mt hb (p:=⟨w.heap.size,0,none⟩) (v:=V0 lo) (by simp[go_sem])
 have h1:=Mt hb (p:=⟨w.heap.size,1,none⟩) (v:=V0 hi) (by simp[go_sem])
 unfold spanV
 go_wp2_with fail
 all_goals go_ret
 all_goals refine⟨?_,bln (bln (blx w _) hb) (blx _ _)⟩
 all_goals (unfold Kw;congr 2;simp[*];try omega)
theorem Lv(lo hi:Int)(v:Value)(l:List Int)(w:World)(hl:Ints w v l) :
 C0 117 #[spanV lo hi,v] w (Ret (V0 (Qv lo hi l)) w):=by
 by_cases hr:Kw lo hi=true
 case neg =>
  have a7:Kw lo hi=false:=by simpa using hr
  unfold spanV
  rcases hl with ⟨a0,c0,rfl,b1,hl⟩|⟨b,a4,a8,rfl,a6,a2,hc⟩
  all_goals
   go_enter Tryz.func117,Tryz.ntmps117
   go_wp2_with fail
   refine(Wv _ _ _).mono ?_
   rintro e w' ⟨rfl,hb⟩
   go_wp2_with fail
   go_ret
   exact⟨by rw[Zb2 a7];rfl,bln (blx w _) hb⟩
 rcases hl with ⟨a0,c0,rfl,b1,hl⟩|⟨b,a4,a8,rfl,a6,a2,hc⟩
 ·obtain rfl:l=[]:=by simpa using hl
  unfold spanV
  go_enter Tryz.func117,Tryz.ntmps117
  go_wp2_with fail
  refine(Wv _ _ _).mono ?_
  rintro e w' ⟨rfl,hb⟩
  go_wp2_with fail
  go_loop [5] (fun i=>i=V0 1) (fun _=>0)
  case atStart=>exact rfl
  case round =>
   obtain rfl:=hrel
   go_wp2_with fail
   refine Ki (by kernel_rfl) (by kernel_rfl) ?_
   repeat (go_big_quiet_step (fail))
   refine wpQuiet_nil ?_
   intro wx
   go_wp2_with fail
   go_ret
   exact⟨by rw[It hr];rfl,bln (bln (blx w _) hb) wx.below⟩
 ·unfold maxLen at a2
  unfold spanV
  go_enter Tryz.func117,Tryz.ntmps117
  go_wp2_with fail
  refine(Wv _ _ _).mono ?_
  rintro e w' ⟨rfl,hb⟩
  have hz:w.heap.size<w'.heap.size:=ltB hb (by simp)
  have h0:=Mt hb (p:=⟨w.heap.size,0,none⟩) (v:=V0 lo) (by simp[go_sem])
  have h1:=Mt hb (p:=⟨w.heap.size,1,none⟩) (v:=V0 hi) (by simp[go_sem])
  have hB:=bln (blx w _) hb
  have HC:=Lib.hid (fun j x (hj:l[j]? = some x)=>Mt hb (getA _ (hc j (V0 x) (by simp[hj]))))
  clear hc hb
  go_wp2_with fail
  go_loopw [5] (fun i wr=>∃ k:Nat,1≤k∧i=V0 k∧Vy (l.take k)∧Below w'.heap.size w' wr) (fun i _=>l.length-(intOf i).toNat)
  case atStart=>exact⟨1,by omega,rfl,Vy.one l,Below.refl _ _⟩
  case round =>
   obtain⟨k,a9,rfl,hs,a1⟩:=hrel
   have HS:=Lib.hid hs;clear hs
   by_cases hlt:k<l.length
   ·obtain⟨x,hx⟩:∃ x,l[k-1]? = some x:=⟨l[k-1],by simp⟩
    obtain⟨y,hy⟩:∃ y,l[k]? = some y:=⟨l[k],by simp⟩
    have b2:=Mt a1 (HC.out _ _ hx)
    have b3:=Mt a1 (HC.out _ _ hy)
    have HX:=Lib.hid hx;clear hx
    have HY:=Lib.hid hy;clear hy
    go_wp2_with fail
    go_quiet (fail)
    go_wp2_with fail
    ·go_ret
     exact⟨by rw[Zbq hr a9 HX.out HY.out (by assumption)];rfl,bln hB (blD a1 _)⟩
    ·go_roundw
     case rel=>exact⟨k+1,by omega,by go_num,HS.out.succ HX.out HY.out (by assumption),blD a1 _⟩
     case measure=>simp[intOf];omega
   ·have a5:l.length≤k:=by omega
    by_cases h0l:l.length=0
    ·obtain rfl:l=[]:=List.length_eq_zero_iff.mp h0l
     clear h0l
     go_wp2_with fail
     go_quiet (fail)
     go_wp2_with fail
     go_ret
     exact⟨by rw[It hr];rfl,bln hB (blD a1 _)⟩
    ·obtain⟨x,hx⟩:∃ x,l[0]? = some x:=⟨l[0],by simp⟩
     obtain⟨y,hy⟩:∃ y,l[l.length-1]? = some y:=⟨l[l.length-1],by simp⟩
     have b0:0<l.length:=by omega
     have e0:∀ z:Ext wr,z.val.cell? ⟨w.heap.size,0,none⟩=some (V0 lo):=fun z=>z.get (Mt a1 h0)
     have e1:∀ z:Ext wr,z.val.cell? ⟨w.heap.size,1,none⟩=some (V0 hi):=fun z=>z.get (Mt a1 h1)
     have e2:∀ z:Ext wr,z.val.cell? ⟨b,a4,none⟩=some (V0 x):=fun z=>z.get (Mt a1 (HC.out 0 _ hx))
     have e3:∀ z:Ext wr,z.val.cell? ⟨b,a4+(l.length-1),none⟩=some (V0 y):=fun z=>z.get (Mt a1 (HC.out _ _ hy))
     have HX:=Lib.hid hx;clear hx
     have HY:=Lib.hid hy;clear hy
     by_cases ha:Zgi lo hi x=true
     ·by_cases a3:Zgi lo hi y=true
      ·go_wp2_with fail
       refine Ki (by kernel_rfl) (by kernel_rfl) ?_
       repeat (go_big_quiet_step (exact Ret.ext (Ed _ _ _ _)))
       refine wpQuiet_nil ?_
       intro wx
       go_wp2_with fail
       go_ret
       exact⟨by rw[fits_in hr (HS.out.all a5) HX.out HY.out ha a3];rfl,bln (bln hB a1) wx.below⟩
      ·have a3:Zgi lo hi y=false:=by simpa using a3
       go_wp2_with fail
       refine Ki (by kernel_rfl) (by kernel_rfl) ?_
       repeat (go_big_quiet_step (exact Ret.ext (Ed _ _ _ _)))
       refine wpQuiet_nil ?_
       intro wx
       go_wp2_with fail
       go_ret
       exact⟨by rw[Ok hr (HS.out.all a5) HY.out a3];rfl,bln (bln hB a1) wx.below⟩
     ·have ha:Zgi lo hi x=false:=by simpa using ha
      go_wp2_with fail
      refine Ki (by kernel_rfl) (by kernel_rfl) ?_
      repeat (go_big_quiet_step (exact Ret.ext (Ed _ _ _ _)))
      refine wpQuiet_nil ?_
      intro wx
      go_wp2_with fail
      go_ret
      exact⟨by rw[Ok hr (HS.out.all a5) HX.out ha];rfl,bln (bln hB a1) wx.below⟩
end Go.Proofs.YtgphgaehfdfjjaaGreat
namespace Go.Proofs.YtgphgaehfdfjjaaGreat
set_option maxHeartbeats 8000000
set_option maxRecDepth 100000
open Go.RowKit
set_option linter.unusedVariables false
attribute [local go_sem] Oper.semAt_some
def Xg(hi:Int)(l:List Int)(i:Nat):Int×Int:=(l[i]?.getD 0,l[i+1]?.getD hi)
def qOf {n:Nat}(j:Fin n):Nat:=n-1-j.val
def encE(hi:Int)(l:List Int)(j:Fin l.length):Array Value:=#[V0 (qOf j:Int),spanV (Xg hi l (qOf j)).1 (Xg hi l (qOf j)).2]
theorem Kh{n k:Nat}(h:k<n):(List.finRange n).take (k+1)=(List.finRange n).take k++[⟨k,h⟩]:=by
 rw[List.take_succ_eq_append_getElem (by simpa using h)];simp
theorem Pj(n:Nat):(List.finRange n).take n=List.finRange n:=List.take_of_length_le (by simp)
theorem Hq{n k:Nat}(h:k≤n):((List.finRange n).take k).length=k:=by simp[h]
theorem each1_in(l Bs Bk:Nat)(p:Nat→Prop)(hi:Int)(b off cap:Nat)(zs:List Int)(hlen:zs.length≤9223372036854775807)(hb':zs.length=0∨p b)(hBk:p Bk)(J Jx:List (Fin zs.length)→World→Prop)
  (hY:∀ pre x W,J pre W→pre.length<zs.length→YieldAt Fence.wide 2 Tryz.prog l (encE hi zs x) W fun e W' =>
   (e=.returned (.bool true)∧J (pre++[x]) W'∧Keeps p W W')∨(e=.returned (.bool false)∧Jx (pre++[x]) W'))
  (W:World) (hc1:W.cell? ⟨Bs,1,none⟩=some (V0 hi)) (hck:W.cell? ⟨Bk,0,none⟩=some (.slice (some ⟨b,off,none⟩) zs.length cap))
  (hc:∀ j x,zs[j]? = some x→W.cell? ⟨b,off+j,none⟩=some (V0 x)) (h0:J [] W) :
  CallsIn Fence.wide 3 Tryz.prog 131 #[.func (.yield l) #[] #[],P0 Bs,P0 Bk] W fun e W'=>(∃ v,e=.returned v) ∧
   ((∃ ys,ys=List.finRange zs.length∧J ys W')∨(∃ pre,(∃ k,k≤zs.length∧pre=(List.finRange zs.length).take k)∧Jx pre W')):=by
 refine callsIn_of_wp Tryz.func131 rfl trivial ?_ rfl
 simp only[Tryz.ntmps131,List.size_toArray,List.length_cons,List.length_nil,Nat.reduceAdd,Nat.reduceSub,Array.replicate_succ,Array.replicate_zero,List.push_toArray,List.append_toArray,List.nil_append,List.cons_append]
 gi_wp2
 gi_loopw [4,5] (fun h i wr=>∃ k:Nat,k≤zs.length∧i=V0 ((zs.length:Int)-1-k)∧h=V0 (zs[zs.length-k]?.getD hi)∧J ((List.finRange zs.length).take k) wr∧Keeps p W wr)
  (fun _ i _=>((intOf i)+1).toNat)
 case atStart=>exact⟨0,Nat.zero_le _,by simp,by simp,h0,Keeps.refl _ _⟩
 case round =>
  obtain⟨k,hk,rfl,rfl,a1,a3⟩:=hrel
  generalize hhv:zs[zs.length-k]?.getD hi=hv
  by_cases hlt:k<zs.length
  ·have hb:p b:=hb'.resolve_left (by omega)
   obtain⟨x,hx⟩:∃ x,zs[zs.length-1-k]? = some x:=⟨zs[zs.length-1-k],by simp⟩
   have a4:=(a3.cell (a:=⟨Bk,0,none⟩) hBk).trans hck
   have a8:=(a3.cell (a:=⟨b,off+(zs.length-1-k),none⟩) hb).trans (hc _ _ hx)
   obtain⟨q,hq⟩:∃ q:Nat,q=zs.length-1-k:=⟨_,rfl⟩
   have a7:((zs.length:Int)-1-k)=(q:Int):=by omega
   have b4:q<zs.length:=by omega
   obtain⟨fn,b2,a2,b3,hy,hR⟩:=hY _ ⟨k,hlt⟩ wr a1 (by rw[Hq hk];exact hlt)
   have hE:encE hi zs ⟨k,hlt⟩=#[V0 (q:Int),.agg #[V0 x,V0 hv]]:=by
    have e0:zs[q]? = some x:=by rw[hq];exact hx
    have e1:q+1=zs.length-k:=by omega
    have e2:qOf (⟨k,hlt⟩:Fin zs.length)=q:=hq.symm
    simp only[encE,Xg,spanV,e2,e0,e1,hhv,Option.getD_some]
   rw[hE] at hy
   rw[←hq] at a8
   rw[a7]
   have HQ:=Lib.hid hq;clear hq
   have HI:=Lib.hid a7;clear a7
   have HX:=Lib.hid hx;clear hx
   have HV:=Lib.hid hhv;clear hhv
   have HE:=Lib.hid hE;clear hE
   gi_wp2
   refine hR.mono ?_
   rintro e W3 (⟨rfl,b0,a6⟩|⟨rfl,a5⟩)
   ·have b1:=(a6.cell (a:=⟨Bk,0,none⟩) hBk).trans a4
    have a9:=(a6.cell (a:=⟨b,off+q,none⟩) hb).trans a8
    gi_wp2
    go_roundw
    case rel =>
     refine⟨k+1,by omega,?_,?_,by rw[Kh hlt];exact b0,a3.trans a6⟩
     ·exact congrArg V0 (by have:=HI.out;omega)
     ·have h1:zs.length-(k+1)=q:=by have:=HQ.out;omega
      have:=HX.out
      rw[←HQ.out] at this
      rw[h1,this];rfl
    case measure=>simp[intOf]
   ·gi_wp2
    refine bodyPost_ret (results_none rfl _ _ _) rfl ?_
    exact⟨⟨_,rfl⟩,.inr ⟨_,⟨k+1,by omega,by rw[Kh hlt]⟩,a5⟩⟩
  ·obtain rfl:k=zs.length:=by omega
   have a0:((zs.length:Int)-1-zs.length) = -1:=by omega
   rw[a0]
   clear a0 hhv
   rw[Pj] at a1
   have HJ:=Lib.hid a1;clear a1
   gi_wp2
   go_end0
   exact⟨⟨_,rfl⟩,.inl ⟨_,rfl,HJ.out⟩⟩
theorem Ry{α:Type}(l Bs Bk:Nat)(hi:Int)(J:List α→World→Prop)(W:World)(hc1:W.cell? ⟨Bs,1,none⟩=some (V0 hi)){a0:O0}{c0:Nat}(hck:W.cell? ⟨Bk,0,none⟩=some (.slice a0 0 c0))(h0:J [] W) :
 CallsIn Fence.wide 3 Tryz.prog 131 #[.func (.yield l) #[] #[],P0 Bs,P0 Bk] W fun e W'=>(∃ v,e=.returned v)∧J [] W':=by
 refine callsIn_of_wp Tryz.func131 rfl trivial ?_ rfl
 simp only[Tryz.ntmps131,List.size_toArray,List.length_cons,List.length_nil,Nat.reduceAdd,Nat.reduceSub,Array.replicate_succ,Array.replicate_zero,List.push_toArray,List.append_toArray,List.nil_append,List.cons_append]
 gi_wp2
 gi_loopw [4,5] (fun _ i wr=>i=V0 (-1)∧J [] wr) (fun _ _ _=>0)
 case atStart=>exact⟨rfl,h0⟩
 case round =>
  obtain⟨rfl,a1⟩:=hrel
  gi_wp2
  go_end0
  exact⟨⟨_,rfl⟩,a1⟩
theorem Zbo(Bs Bk:Nat)(p:Nat→Prop)(hi:Int)(v:Value)(zs:List Int)(w:World)(hp:∀ b,p b→b<w.heap.size)(hk:p Bk)(hs:p Bs)(hlen:zs.length≤9223372036854775807)(hv:Ints w v zs)
  (hvp:zs.length≠0→∀ b off n cap,v=.slice (some ⟨b,off,none⟩) n cap→p b)
  (hc1:w.cell? ⟨Bs,1,none⟩=some (V0 hi)) (hck:w.cell? ⟨Bk,0,none⟩=some v) :
  SeqStopsK Fence.wide 3 Tryz.prog 131 #[P0 Bs,P0 Bk] (encE hi zs) (Keeps p)
   (fun ys=>ys=List.finRange zs.length) (fun pre=>∃ k,k≤zs.length∧pre=(List.finRange zs.length).take k) zs.length w:=fun l J Jx W hW _ _ hY h0=>by
 have a1:=Mt hW hc1
 have a2:=Mt hW hck
 rcases hv with ⟨a0,c0,rfl,h1,h2⟩|⟨b,off,cap,rfl,a5,a4,a3⟩
 ·obtain rfl:zs=[]:=by simpa using h2
  exact(Ry l Bs Bk hi J W a1 a2 h0).mono fun e W' ⟨he,hj⟩=>⟨he,.inl ⟨_,rfl,hj⟩⟩
 ·refine each1_in l Bs Bk p hi b off cap zs hlen ?_ hk J Jx hY W a1 a2 (fun j x hj=>Mt hW (a3 j _ (by simp[hj]))) h0
  by_cases h:zs.length=0
  ·exact .inl h
  ·exact .inr (hvp h _ _ _ _ rfl)
theorem Zdd(lo hi:Int)(a:O0)(n c:Nat)(w:World):C0 118 #[spanV lo hi,.slice a n c] w fun e w' =>
 e=.returned (.func (.func 131) #[] #[.pointer (some ⟨w.heap.size,0,none⟩),.pointer (some ⟨w.heap.size+1,0,none⟩)]) ∧
 w'=(w.alloc (.cells #[V0 lo,V0 hi] 148)).alloc (.cells #[.slice a n c] 68):=by
 unfold spanV
 go_enter Tryz.func118,Tryz.ntmps118
 go_wp2
 go_ret
 exact⟨rfl,rfl⟩
def encB(l:List Int)(j:Fin l.length):Array Value:=#[V0 (qOf j:Int),V0 (l[qOf j]?.getD 0)]
theorem back1_in(l Bk:Nat)(p:Nat→Prop)(b off cap:Nat)(zs:List Int)(hlen:zs.length≤9223372036854775807)(hb':zs.length=0∨p b)(hBk:p Bk)(J Jx:List (Fin zs.length)→World→Prop)
  (hY:∀ pre x W,J pre W→pre.length<zs.length→YieldAt Fence.wide 2 Tryz.prog l (encB zs x) W fun e W' =>
   (e=.returned (.bool true)∧J (pre++[x]) W'∧Keeps p W W')∨(e=.returned (.bool false)∧Jx (pre++[x]) W'))
  (W:World) (hck:W.cell? ⟨Bk,0,none⟩=some (.slice (some ⟨b,off,none⟩) zs.length cap))
  (hc:∀ j x,zs[j]? = some x→W.cell? ⟨b,off+j,none⟩=some (V0 x)) (h0:J [] W) :
  CallsIn Fence.wide 3 Tryz.prog 124 #[.func (.yield l) #[] #[],P0 Bk] W fun e W'=>(∃ v,e=.returned v) ∧
   ((∃ ys,ys=List.finRange zs.length∧J ys W')∨(∃ pre,(∃ k,k≤zs.length∧pre=(List.finRange zs.length).take k)∧Jx pre W')):=by
 refine callsIn_of_wp Tryz.func124 rfl trivial ?_ rfl
 simp only[Tryz.ntmps124,List.size_toArray,List.length_cons,List.length_nil,Nat.reduceAdd,Nat.reduceSub,Array.replicate_succ,Array.replicate_zero,List.push_toArray,List.append_toArray,List.nil_append,List.cons_append]
 gi_wp2
 gi_loopw [3] (fun i wr=>∃ k:Nat,k≤zs.length∧i=V0 ((zs.length:Int)-1-k)∧J ((List.finRange zs.length).take k) wr∧Keeps p W wr)
  (fun i _=>((intOf i)+1).toNat)
 case atStart=>exact⟨0,Nat.zero_le _,by simp,h0,Keeps.refl _ _⟩
 case round =>
  obtain⟨k,hk,rfl,a1,a3⟩:=hrel
  by_cases hlt:k<zs.length
  ·have hb:p b:=hb'.resolve_left (by omega)
   obtain⟨x,hx⟩:∃ x,zs[zs.length-1-k]? = some x:=⟨zs[zs.length-1-k],by simp⟩
   have a8:=(a3.cell (a:=⟨Bk,0,none⟩) hBk).trans hck
   have a6:=(a3.cell (a:=⟨b,off+(zs.length-1-k),none⟩) hb).trans (hc _ _ hx)
   obtain⟨q,hq⟩:∃ q:Nat,q=zs.length-1-k:=⟨_,rfl⟩
   have a5:((zs.length:Int)-1-k)=(q:Int):=by omega
   have b2:q<zs.length:=by omega
   obtain⟨fn,a9,a2,b1,hy,hR⟩:=hY _ ⟨k,hlt⟩ wr a1 (by rw[Hq hk];exact hlt)
   have hE:encB zs ⟨k,hlt⟩=#[V0 (q:Int),V0 x]:=by
    have e0:zs[q]? = some x:=by rw[hq];exact hx
    have e2:qOf (⟨k,hlt⟩:Fin zs.length)=q:=hq.symm
    simp only[encB,e2,e0,Option.getD_some]
   rw[hE] at hy
   rw[←hq] at a6
   rw[a5]
   have HQ:=Lib.hid hq;clear hq
   have HI:=Lib.hid a5;clear a5
   have HX:=Lib.hid hx;clear hx
   have HE:=Lib.hid hE;clear hE
   gi_wp2
   refine hR.mono ?_
   rintro e W3 (⟨rfl,a7,b0⟩|⟨rfl,a4⟩)
   ·gi_wp2
    go_roundw
    case rel =>
     refine⟨k+1,by omega,?_,by rw[Kh hlt];exact a7,a3.trans b0⟩
     exact congrArg V0 (by have:=HI.out;omega)
    case measure=>simp[intOf]
   ·gi_wp2
    refine bodyPost_ret (results_none rfl _ _ _) rfl ?_
    exact⟨⟨_,rfl⟩,.inr ⟨_,⟨k+1,by omega,by rw[Kh hlt]⟩,a4⟩⟩
  ·obtain rfl:k=zs.length:=by omega
   have a0:((zs.length:Int)-1-zs.length) = -1:=by omega
   rw[a0]
   clear a0
   rw[Pj] at a1
   have HJ:=Lib.hid a1;clear a1
   gi_wp2
   go_end0
   exact⟨⟨_,rfl⟩,.inl ⟨_,rfl,HJ.out⟩⟩
theorem Rf{α:Type}(l Bk:Nat)(J:List α→World→Prop)(W:World){a0:O0}{c0:Nat}(hck:W.cell? ⟨Bk,0,none⟩=some (.slice a0 0 c0))(h0:J [] W) :
 CallsIn Fence.wide 3 Tryz.prog 124 #[.func (.yield l) #[] #[],P0 Bk] W fun e W'=>(∃ v,e=.returned v)∧J [] W':=by
 refine callsIn_of_wp Tryz.func124 rfl trivial ?_ rfl
 simp only[Tryz.ntmps124,List.size_toArray,List.length_cons,List.length_nil,Nat.reduceAdd,Nat.reduceSub,Array.replicate_succ,Array.replicate_zero,List.push_toArray,List.append_toArray,List.nil_append,List.cons_append]
 gi_wp2
 gi_loopw [3] (fun i wr=>i=V0 (-1)∧J [] wr) (fun _ _=>0)
 case atStart=>exact⟨rfl,h0⟩
 case round =>
  obtain⟨rfl,a1⟩:=hrel
  gi_wp2
  go_end0
  exact⟨⟨_,rfl⟩,a1⟩
theorem Zcm(Bk:Nat)(p:Nat→Prop)(v:Value)(zs:List Int)(w:World)(hp:∀ b,p b→b<w.heap.size)(hk:p Bk)(hlen:zs.length≤9223372036854775807)(hv:Ints w v zs)
  (hvp:zs.length≠0→∀ b off n cap,v=.slice (some ⟨b,off,none⟩) n cap→p b) (hck:w.cell? ⟨Bk,0,none⟩=some v) :
  SeqStopsK Fence.wide 3 Tryz.prog 124 #[P0 Bk] (encB zs) (Keeps p)
   (fun ys=>ys=List.finRange zs.length) (fun pre=>∃ k,k≤zs.length∧pre=(List.finRange zs.length).take k) zs.length w:=fun l J Jx W hW _ _ hY h0=>by
 have a1:=Mt hW hck
 rcases hv with ⟨a0,c0,rfl,h1,h2⟩|⟨b,off,cap,rfl,a2,a4,a3⟩
 ·obtain rfl:zs=[]:=by simpa using h2
  exact(Rf l Bk J W a1 h0).mono fun e W' ⟨he,hj⟩=>⟨he,.inl ⟨_,rfl,hj⟩⟩
 ·refine back1_in l Bk p b off cap zs hlen ?_ hk J Jx hY W a1 (fun j x hj=>Mt hW (a3 j _ (by simp[hj]))) h0
  by_cases h:zs.length=0
  ·exact .inl h
  ·exact .inr (hvp h _ _ _ _ rfl)
end Go.Proofs.YtgphgaehfdfjjaaGreat
namespace Go.Proofs.YtgphgaehfdfjjaaGreat
set_option maxHeartbeats 8000000
set_option maxRecDepth 100000
open Go.RowKit Go.Extern.Stop Go.Stop Go.Extern
set_option linter.unusedVariables false
attribute [local irreducible] wpList wpAnyH Code.wp Oper.wp Go
theorem Cj(kind no:Int)(a:O0)(n c:Nat)(l:Bl)(w:World)(hn:l.length=n)(h:Bys w (.slice a n c) l):C0 82 #[.slice a n c,V0 kind,V0 no] w (OpenP kind no l w):=by
 subst hn;exact Zea kind no a c l w h
def Qd(l:Bl)(tree:Int):Int:=if Ke l=0 then(if tree=0∨Yq l=tree then 0 else 6) else Ke l
def Xi(l:Bl)(no tree:Int):Int:=if inE l 2 no=0 then Qd (inB l no) tree else inE l 2 no
def Node1P(l:Bl)(tree:Int)(w:World)(e:Ending)(w':World):Prop :=
 (Qd l tree≠0∧∃ a b kp n1 kc vp n2 vc,e=.returned (.tuple #[.agg #[V0 a,.bool b,.slice kp n1 kc,.slice vp n2 vc],V0 (Qd l tree)])∧B0 w w') ∨
 (Qd l tree=0∧∃ kp kc vp vc,e=.returned (.tuple #[.agg #[V0 (Yq l),.bool (Xm l),.slice kp (Zr l) kc,.slice vp (Zr l) vc],V0 0])∧B0 w w' ∧
  w'.ownsRow w.heap.size 3 1 (.slice kp (Zr l) kc) (Zr l) ((Qy l (Zr l)).map V0)∧w'.ownsRow w.heap.size 9 1 (.slice vp (Zr l) vc) (Zr l) ((Jr l (Zr l)).map sv))
def Oh(l:Bl)(no tree:Int)(w:World)(e:Ending)(w':World):Prop :=
 (Xi l no tree≠0∧∃ b,e=.returned (.tuple #[.agg #[V0 0,.bool false,S0,S0],.iface 150 (P0 b)])∧B0 w w'∧Qw w' [some no] (some (Xi l no tree)) (.iface 150 (P0 b))) ∨
 (Xi l no tree=0∧∃ kp kc vp vc,e=.returned (.tuple #[.agg #[V0 (Yq (inB l no)),.bool (Xm (inB l no)),.slice kp (Zr (inB l no)) kc,.slice vp (Zr (inB l no)) vc],.nilIface])∧B0 w w' ∧
  w'.ownsRow w.heap.size 3 1 (.slice kp (Zr (inB l no)) kc) (Zr (inB l no)) ((Qy (inB l no) (Zr (inB l no))).map V0)∧w'.ownsRow w.heap.size 9 1 (.slice vp (Zr (inB l no)) vc) (Zr (inB l no)) ((Jr (inB l no) (Zr (inB l no))).map sv))
theorem node_1(tree:Int)(bt:Nat)(a:O0)(c:Nat)(l:Bl)(w:World)(kt:Blk w bt [V0 tree] 3)(hl:l.length=244)(h:Bys w (.slice a 244 c) l) :
 C0 127 #[.slice a 244 c,P0 bt] w (Node1P l tree w):=by
 refine zin 27 Tryz.func127 ?_
 refine xa 2 [V0 0,.bool false,S0,S0] 117 fun b1 W1 n1=>?_
 refine xc 6 (args:=#[.slice a 244 c]) (Zf7 a c l _ hl (h.below n1.below)) ?_
 rintro e W2 d0
 rcases d0 with ⟨hz,rfl,a4⟩|⟨hz,kp,kc,vp,vc,rfl,a4,hk,c5⟩
 ·refine xa 3 [V0 0,.bool false,S0,S0] 117 fun b3 W3 n3=>?_
  have k1:=n1.blk.below a4
  have a5:=n3.ne k1
  have a9:=bln n1.below a4
  have g3:=n3.ge a9
  refine xsv 0 n3.blk [V0 0,.bool false,S0,S0] fun W4 u4 k4=>?_
  refine xgk 9 [13,14] (show(((Ke l)==(0:Int)):Bool)=false from beq_false_of_ne hz) ?_
  refine xlv 16 k4.rp ?_
  have b9:=u4.blk (k1.below n3.below) (Ne.symm (Ne.symm a5))
  refine xsv 1 b9 [V0 0,.bool false,S0,S0] fun W6 u6 k6=>?_
  have g1:=n1.ge (B3 w)
  have b4:=u6.below (u4.below (bln a9 n3.below) g3) g1
  exact xec 4 k6 (.tuple #[.agg #[V0 0,.bool false,S0,S0],V0 (Ke l)]) (.inl ⟨by unfold Qd;rw[if_neg hz];exact hz,_,_,_,_,_,_,_,_,by unfold Qd;rw[if_neg hz],b4⟩)
 refine xa 3 [V0 0,.bool false,S0,S0] 117 fun b7 W7 n7=>?_
 have k1:=n1.blk.below a4
 have a0:=n7.ne k1
 have a1:=bln n1.below a4
 have g7:=n7.ge a1
 refine xsv 0 n7.blk [V0 (Yq l),.bool (Xm l),.slice kp (Zr l) kc,.slice vp (Zr l) vc] fun W8 u8 k8=>?_
 have b0:=u8.blkT (((kt.below n1.below).below a4).below n7.below) n7.blk (by decide)
 refine xb 9 0 b0 ?_
 refine xg 3 [16,17,18] (tree != (0:Int)) (fun a7=>?_) (fun a7=>?_)
 ·have a7:=Wp a7
  refine xb 1 0 k8 ?_
  refine xb 0 0 b0 ?_
  refine xin 4 (Yq l) tree (fun b8=>?_) (fun b8=>?_)
  ·refine xlv 2 k8.rp ?_
   have b5:=u8.blk (k1.below n7.below) (Ne.symm (Ne.symm a0))
   refine xsv 0 b5 [V0 (Yq l),.bool (Xm l),.slice kp (Zr l) kc,.slice vp (Zr l) vc] fun d2 c9 c8=>?_
   have g1:=n1.ge (B3 w)
   have b2:=c9.below (u8.below (bln a1 n7.below) g7) g1
   exact xec 5 c8 (.tuple #[.agg #[V0 (Yq l),.bool (Xm l),.slice kp (Zr l) kc,.slice vp (Zr l) vc],V0 6]) (.inl ⟨by unfold Qd;rw[if_pos hz,if_neg (by omega)];decide,_,_,_,_,_,_,_,_,by unfold Qd;rw[if_pos hz,if_neg (by omega)],b2⟩)
  refine xlv 4 k8.rp ?_
  have a2:=u8.blk (k1.below n7.below) (Ne.symm (Ne.symm a0))
  refine xsv 1 a2 [V0 (Yq l),.bool (Xm l),.slice kp (Zr l) kc,.slice vp (Zr l) vc] fun d1 c1 c6=>?_
  have g1:=n1.ge (B3 w)
  have c0:=c1.below (u8.below (bln a1 n7.below) g7) g1
  have c2:=c1.own2 (u8.own2 (Zb (Zh hk n1.below.size) n7.below) n7.blk (by decide)) a2 (by decide)
  have a8:=c1.own2 (u8.own2 (Zb (Zh c5 n1.below.size) n7.below) n7.blk (by decide)) a2 (by decide)
  exact xec 4 c6 (.tuple #[.agg #[V0 (Yq l),.bool (Xm l),.slice kp (Zr l) kc,.slice vp (Zr l) vc],V0 0]) (.inr ⟨by unfold Qd;rw[if_pos hz,if_pos (by omega)],_,_,_,_,rfl,c0,c2,a8⟩)
 have a7:=Yv a7
 refine xlv 12 k8.rp ?_
 have a3:=u8.blk (k1.below n7.below) (Ne.symm (Ne.symm a0))
 refine xsv 1 a3 [V0 (Yq l),.bool (Xm l),.slice kp (Zr l) kc,.slice vp (Zr l) vc] fun d3 c4 c7=>?_
 have g1:=n1.ge (B3 w)
 have b6:=c4.below (u8.below (bln a1 n7.below) g7) g1
 have c3:=c4.own2 (u8.own2 (Zb (Zh hk n1.below.size) n7.below) n7.blk (by decide)) a3 (by decide)
 have a6:=c4.own2 (u8.own2 (Zb (Zh c5 n1.below.size) n7.below) n7.blk (by decide)) a3 (by decide)
 exact xec 4 c7 (.tuple #[.agg #[V0 (Yq l),.bool (Xm l),.slice kp (Zr l) kc,.slice vp (Zr l) vc],V0 0]) (.inr ⟨by unfold Qd;rw[if_pos hz,if_pos (by omega)],_,_,_,_,rfl,b6,c3,a6⟩)
theorem readNode(B b:Nat)(p:O0)(n c:Nat)(l:Bl)(no tree:Int)(w:World)(hI:ImgR B b p n c l w)(bt:Nat)(kt:Blk w bt [V0 tree] 3) :
 C0 126 #[P0 b,V0 no,V0 2,.func (.func 127) #[] #[P0 bt]] w (Oh l no tree w):=by
 refine zin 56 Tryz.func126 ?_
 refine xa 2 [V0 0,.bool false,S0,S0] 117 fun b1 W1 n1=>?_
 refine xa 5 [V0 0,.bool false,S0,S0] 117 fun b2 W2 n2=>?_
 have i0:=n2.ne n1.blk
 have hB:=bln n1.below n2.below
 refine xc 6 (args:=#[P0 b,V0 no]) (Cr B b p n c l no _ (hI.below hB)) ?_
 rintro e W3 i5
 rcases i5 with ⟨ho,vr,rfl,a0⟩|⟨j,hk,hj,p2,c2,rfl,a0,ho⟩
 ·refine xd 16 (.t w.heap.size [117]) ?_
  refine xm2 (.b [1,2,3]) 0 4 ?_ ?_
  ·have k2:=(n2.blk.below a0).below (Za W3)
   refine xlv 0 k2.rp ?_
   refine yc (.o [] 4) (args:=#[V0 no,.iface 26 (V0 3)]) (.t w.heap.size [117]) (Xs no 3 _) ?_
   rintro _ W4 ⟨_,rfl,f8,e8⟩
   refine⟨(SF.of_below _ f8),?_⟩
   rw[if_neg (by decide),if_neg (by decide)] at e8
   have j1:=e8
   obtain⟨k1,l1,rfl,_,_⟩:=j1
   have c7:=(((n1.blk.below n2.below).below a0).below (Za W3)).below f8
   have g1:=n1.ge (B3 w)
   refine ysv (.o [] 5) c7 [V0 0,.bool false,S0,S0] (.t w.heap.size [117]) fun W5 u5 k5=>⟨(Zw u5 c7 g1 (by decide)),?_⟩
   have g6:=u5.below (bln (bln (bln hB a0) (Za W3)) f8) g1
   have d8:=e8.upd u5 c7 (by decide)
   refine xec (.r [6] 4) k5 (.tuple #[.agg #[V0 0,.bool false,S0,S0],.iface 150 (P0 k1)]) ?_
   have he:Xi l no tree=3:=by unfold Xi;rw[Fa hI.len ho];rfl
   exact .inl ⟨by rw[he];decide,_,rfl,g6,by rw[he];exact d8⟩
  refine yc 0 (args:=#[V0 no,.iface 26 (V0 3)]) (.t w.heap.size [117]) (Xs no 3 _) ?_
  rintro _ W6 ⟨_,rfl,e6,f6⟩
  refine⟨(SF.of_below _ e6),?_⟩
  rw[if_neg (by decide),if_neg (by decide)] at f6
  have i9:=f6
  obtain⟨k4,l4,rfl,_,_⟩:=i9
  have k2:=((n2.blk.below a0).below (Za W3)).below e6
  refine xlv (.o [] 0) k2.rp ?_
  have c5:=(((n1.blk.below n2.below).below a0).below (Za W3)).below e6
  have g1:=n1.ge (B3 w)
  refine ysv (.o [] 5) c5 [V0 0,.bool false,S0,S0] (.t w.heap.size [117]) fun W7 u7 k7=>⟨(Zw u7 c5 g1 (by decide)),?_⟩
  have g0:=u7.below (bln (bln (bln hB a0) (Za W3)) e6) g1
  have e1:=f6.upd u7 c5 (by decide)
  refine xec (.r [6] 4) k7 (.tuple #[.agg #[V0 0,.bool false,S0,S0],.iface 150 (P0 k4)]) ?_
  have he:Xi l no tree=3:=by unfold Xi;rw[Fa hI.len ho];rfl
  exact .inl ⟨by rw[he];decide,_,rfl,g0,by rw[he];exact e1⟩
 have i7:=(bln n1.below n2.below).size
 have k0:j<l.length/256:=by rw[hI.len];exact hj
 have h8:=Kf k0
 have e4:=Zes (l:=l) (kind:=2) hI.len hk hj
 have h2:=Zh ho i7
 refine xc 22 (args:=#[.slice p2 256 c2,V0 2,V0 no]) (Cj 2 no p2 256 c2 (Jb l j) _ h8 (Ka (Zg h2) h8)) ?_
 rintro e W8 j5
 rcases j5 with ⟨hs,rfl,a2⟩|⟨hs,p3,c3,rfl,a2,h3⟩
 ·refine xk 14 (show(((Yy 2 no (Jb l j)) != (0:Int)):Bool)=true from bne_iff_ne.2 hs) ?_
  refine xd 1 (.t w.heap.size [117]) ?_
  refine xm2 (.b [1,2,3]) 0 4 ?_ ?_
  ·have k2:=((n2.blk.below a0).below a2).below (Za W8)
   refine xlv 0 k2.rp ?_
   refine yc (.o [] 4) (args:=#[V0 no,.iface 26 (V0 (Yy 2 no (Jb l j)))]) (.t w.heap.size [117]) (Xs no (Yy 2 no (Jb l j)) _) ?_
   rintro _ W9 ⟨_,rfl,f4,f1⟩
   refine⟨(SF.of_below _ f4),?_⟩
   rw[if_neg hs,if_neg hs] at f1
   have j2:=f1
   obtain⟨j3,l8,rfl,_,_⟩:=j2
   have c8:=((((n1.blk.below n2.below).below a0).below a2).below (Za W8)).below f4
   have g1:=n1.ge (B3 w)
   refine ysv (.o [] 5) c8 [V0 0,.bool false,S0,S0] (.t w.heap.size [117]) fun k9 f5 j8=>⟨(Zw f5 c8 g1 (by decide)),?_⟩
   have g7:=f5.below (bln (bln (bln (bln hB a0) a2) (Za W8)) f4) g1
   have e3:=f1.upd f5 c8 (by decide)
   refine xec (.r [6] 4) j8 (.tuple #[.agg #[V0 0,.bool false,S0,S0],.iface 150 (P0 j3)]) ?_
   have he:Xi l no tree=Yy 2 no (Jb l j):=by unfold Xi;rw[e4,if_neg hs]
   exact .inl ⟨by rw[he];exact hs,_,rfl,g7,by rw[he];exact e3⟩
  refine yc 0 (args:=#[V0 no,.iface 26 (V0 (Yy 2 no (Jb l j)))]) (.t w.heap.size [117]) (Xs no (Yy 2 no (Jb l j)) _) ?_
  rintro _ l3 ⟨_,rfl,a9,d1⟩
  refine⟨(SF.of_below _ a9),?_⟩
  rw[if_neg hs,if_neg hs] at d1
  have h1:=d1
  obtain⟨h0,i8,rfl,_,_⟩:=h1
  have k2:=(((n2.blk.below a0).below a2).below (Za W8)).below a9
  refine xlv (.o [] 0) k2.rp ?_
  have b9:=((((n1.blk.below n2.below).below a0).below a2).below (Za W8)).below a9
  have g1:=n1.ge (B3 w)
  refine ysv (.o [] 5) b9 [V0 0,.bool false,S0,S0] (.t w.heap.size [117]) fun l2 f3 i1=>⟨(Zw f3 b9 g1 (by decide)),?_⟩
  have e7:=f3.below (bln (bln (bln (bln hB a0) a2) (Za W8)) a9) g1
  have b3:=d1.upd f3 b9 (by decide)
  refine xec (.r [6] 4) i1 (.tuple #[.agg #[V0 0,.bool false,S0,S0],.iface 150 (P0 h0)]) ?_
  have he:Xi l no tree=Yy 2 no (Jb l j):=by unfold Xi;rw[e4,if_neg hs]
  exact .inl ⟨by rw[he];exact hs,_,rfl,e7,by rw[he];exact b3⟩
 have j9:=(bln hB a0).size
 have e2:=Zh h3 j9
 have i2:((Jb l j).drop 8).take 244=inB l no:=(Zfe hk).symm
 have h7:=Zdg hI.len hk hj
 rw[i2] at e2
 have b7:=bln (bln hB a0) a2
 refine xc 21 (args:=#[.slice p3 244 c3,P0 bt]) (node_1 tree bt p3 c3 (inB l no) _ (kt.below b7) h7 (Ka (Zg e2) h7)) ?_
 rintro e k8 g5
 rcases g5 with ⟨hz,a5,b5,kp,m1,kc,vp,m2,vc,rfl,a1⟩|⟨hz,kp,kc,vp,vc,rfl,a1,hk,j7⟩
 ·refine xa 3 [V0 0,.bool false,S0,S0] 117 fun m0 m6 a6=>?_
  have c6:=(((n1.blk.below n2.below).below a0).below a2).below a1
  have a4:=a6.ne c6
  have k2:=((n2.blk.below a0).below a2).below a1
  have a3:=a6.ne k2
  have d0:=bln b7 a1
  have h9:=a6.ge d0
  refine xsv 0 a6.blk [V0 a5,.bool b5,.slice kp m1 kc,.slice vp m2 vc] fun d3 d4 k6=>?_
  refine xk 10 (show(((Qd (inB l no) tree) != (0:Int)):Bool)=true from bne_iff_ne.2 hz) ?_
  refine xd 1 (.t w.heap.size [117]) ?_
  refine xm2 (.b [1,2,3]) 0 4 ?_ ?_
  ·have g9:=(d4.blk (k2.below a6.below) (Ne.symm (Ne.symm a3))).below (Za d3)
   refine xlv 0 g9.rp ?_
   refine yc (.o [] 4) (args:=#[V0 no,.iface 26 (V0 (Qd (inB l no) tree))]) (.t w.heap.size [117]) (Xs no (Qd (inB l no) tree) _) ?_
   rintro _ l6 ⟨_,rfl,c4,b0⟩
   refine⟨(SF.of_below _ c4),?_⟩
   rw[if_neg hz,if_neg hz] at b0
   have f7:=b0
   obtain⟨f2,i3,rfl,_,_⟩:=f7
   have c1:=((d4.blk (c6.below a6.below) (Ne.symm (Ne.symm a4))).below (Za d3)).below c4
   have g1:=n1.ge (B3 w)
   refine ysv (.o [] 5) c1 [V0 0,.bool false,S0,S0] (.t w.heap.size [117]) fun m3 h4 k3=>⟨(Zw h4 c1 g1 (by decide)),?_⟩
   have e9:=h4.below (bln (bln (d4.below (bln d0 a6.below) h9) (Za d3)) c4) g1
   have b4:=b0.upd h4 c1 (by decide)
   refine xec (.r [6] 4) k3 (.tuple #[.agg #[V0 0,.bool false,S0,S0],.iface 150 (P0 f2)]) ?_
   have he:Xi l no tree=Qd (inB l no) tree:=by unfold Xi;rw[e4,if_pos hs]
   exact .inl ⟨by rw[he];exact hz,_,rfl,e9,by rw[he];exact b4⟩
  refine yc 0 (args:=#[V0 no,.iface 26 (V0 (Qd (inB l no) tree))]) (.t w.heap.size [117]) (Xs no (Qd (inB l no) tree) _) ?_
  rintro _ m4 ⟨_,rfl,a8,c9⟩
  refine⟨(SF.of_below _ a8),?_⟩
  rw[if_neg hz,if_neg hz] at c9
  have f0:=c9
  obtain⟨g3,i6,rfl,_,_⟩:=f0
  have g8:=((d4.blk (k2.below a6.below) (Ne.symm (Ne.symm a3))).below (Za d3)).below a8
  refine xlv (.o [] 0) g8.rp ?_
  have b6:=((d4.blk (c6.below a6.below) (Ne.symm (Ne.symm a4))).below (Za d3)).below a8
  have g1:=n1.ge (B3 w)
  refine ysv (.o [] 5) b6 [V0 0,.bool false,S0,S0] (.t w.heap.size [117]) fun l5 f9 i4=>⟨(Zw f9 b6 g1 (by decide)),?_⟩
  have h6:=f9.below (bln (bln (d4.below (bln d0 a6.below) h9) (Za d3)) a8) g1
  have b8:=c9.upd f9 b6 (by decide)
  refine xec (.r [6] 4) i4 (.tuple #[.agg #[V0 0,.bool false,S0,S0],.iface 150 (P0 g3)]) ?_
  have he:Xi l no tree=Qd (inB l no) tree:=by unfold Xi;rw[e4,if_pos hs]
  exact .inl ⟨by rw[he];exact hz,_,rfl,h6,by rw[he];exact b8⟩
 have d5:=(bln (bln hB a0) a2).size
 refine xa 3 [V0 0,.bool false,S0,S0] 117 fun l9 l7 a7=>?_
 have d7:=(((n1.blk.below n2.below).below a0).below a2).below a1
 have d2:=a7.ne d7
 have k2:=((n2.blk.below a0).below a2).below a1
 have g2:=a7.ne k2
 have e0:=bln b7 a1
 have j4:=a7.ge e0
 refine xsv 0 a7.blk [V0 (Yq (inB l no)),.bool (Xm (inB l no)),.slice kp (Zr (inB l no)) kc,.slice vp (Zr (inB l no)) vc] fun l0 e5 j6=>?_
 refine xlv 15 j6.rp ?_
 have c0:=e5.blk (d7.below a7.below) (Ne.symm (Ne.symm d2))
 refine xsv 0 c0 [V0 (Yq (inB l no)),.bool (Xm (inB l no)),.slice kp (Zr (inB l no)) kc,.slice vp (Zr (inB l no)) vc] fun m5 g4 j0=>?_
 have g1:=n1.ge (B3 w)
 have d6:=g4.below (e5.below (bln e0 a7.below) j4) g1
 have h5:=g4.own2 (e5.own2 (Zb (Zh hk d5) a7.below) a7.blk (by decide)) c0 (by decide)
 have d9:=g4.own2 (e5.own2 (Zb (Zh j7 d5) a7.below) a7.blk (by decide)) c0 (by decide)
 exact xec 4 j0 (.tuple #[.agg #[V0 (Yq (inB l no)),.bool (Xm (inB l no)),.slice kp (Zr (inB l no)) kc,.slice vp (Zr (inB l no)) vc],.nilIface]) (.inr ⟨by unfold Xi;rw[e4,if_pos hs,hz],_,_,_,_,rfl,d6,h5,d9⟩)
theorem Di(B b:Nat)(p:O0)(n c:Nat)(l:Bl)(no tree:Int)(w:World)(hI:ImgR B b p n c l w) :
 C0 116 #[P0 b,V0 no,V0 tree] w (Oh l no tree w):=by
 refine zin 14 Tryz.func116 ?_
 refine xa 2 [V0 tree] 3 fun b1 W1 n1=>?_
 refine xa 0 [V0 0,.bool false,S0,S0] 117 fun b2 W2 n2=>?_
 have hB:=bln n1.below n2.below
 have k1:=n1.blk.below n2.below
 refine xc 8 (args:=#[P0 b,V0 no,V0 2,.func (.func 127) #[] #[P0 b1]]) (readNode B b p n c l no tree _ (hI.below hB) b1 k1) ?_
 rintro e W3 a7
 rcases a7 with ⟨he,bf,rfl,a1,hv⟩|⟨he,kp,kc,vp,vc,rfl,a1,hk,a8⟩
 ·have k2:=n2.blk.below a1
  refine xsv 2 k2 [V0 0,.bool false,S0,S0] fun W4 u4 k4=>?_
  have g2:=n2.ge n1.below
  have a5:=u4.below (bln hB a1) g2
  have a2:=hv.upd u4 k2 (by decide)
  exact xec 4 k4 (.tuple #[.agg #[V0 0,.bool false,S0,S0],.iface 150 (P0 bf)]) (.inl ⟨he,_,rfl,a5,a2⟩)
 have a6:=(bln n1.below n2.below).size
 have k2:=n2.blk.below a1
 refine xsv 2 k2 [V0 (Yq (inB l no)),.bool (Xm (inB l no)),.slice kp (Zr (inB l no)) kc,.slice vp (Zr (inB l no)) vc] fun W5 u5 k5=>?_
 have g2:=n2.ge n1.below
 have a4:=u5.below (bln hB a1) g2
 have a3:=u5.own2 (Zh hk a6) k2 (by decide)
 have a0:=u5.own2 (Zh a8 a6) k2 (by decide)
 exact xec 4 k5 (.tuple #[.agg #[V0 (Yq (inB l no)),.bool (Xm (inB l no)),.slice kp (Zr (inB l no)) kc,.slice vp (Zr (inB l no)) vc],.nilIface]) (.inr ⟨he,_,_,_,_,rfl,a4,a3,a0⟩)
end Go.Proofs.YtgphgaehfdfjjaaGreat
