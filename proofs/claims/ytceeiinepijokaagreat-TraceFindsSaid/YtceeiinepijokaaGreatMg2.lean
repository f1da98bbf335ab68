/- node.Width and node.Max at the five trees; package tall: over, Levels, Nodes, Sizes. -/
import Derived.Lib.AppendZerosOnto
import Derived.Lib.BufferWrite
import Derived.Lib.AppendStr
import Derived.Laws.IdiomStrings
import Derived.Test.YtceeiinepijokaaGreatRows
import Derived.RangeFuncNested
import Derived.RangeFuncBound
import Derived.RangeFuncCalls
import Derived.RangeFuncLeaves
import Derived.Shelf.Abstract
import Derived.Shelf.RegionOpen
import Derived.OwnWalkIn
import Derived.TacticsInMore
import Derived.LoopNIn
import Derived.LoopIn
import Derived.Test.YtceeiinepijokaaGreatMg1
namespace Go.Proofs.YtceeiinepijokaaGreat
set_option maxHeartbeats 8000000
set_option maxRecDepth 100000
open Go.RowKit Go.Extern.Stop Go.Stop Go.Extern
set_option linter.unusedVariables false
attribute [local irreducible] wpList wpAnyH Code.wp Oper.wp Go
theorem Dw(w:World) :
 C0 211 #[V0 1,.bool true] w (Ret (V0 4) w):=by
 refine zin 31 Tryz.func211 ?_
 exact xe 94 (V0 4) ⟨rfl,(B4 w)⟩
theorem node_Max1l(w:World) :
 C0 212 #[V0 1,.bool true] w (Ret (V0 18) w):=by
 refine zin 16 Tryz.func212 ?_
 refine xr 9 (args:=#[V0 1,.bool true]) (Dw _) fun W1 a0=>?_
 exact xe 24 (V0 18) ⟨rfl,a0⟩
theorem Dk(w:World) :
 C0 211 #[V0 1,.bool false] w (Ret (V0 4) w):=by
 refine zin 31 Tryz.func211 ?_
 exact xe 41 (V0 4) ⟨rfl,(B4 w)⟩
theorem node_Max1i(w:World) :
 C0 212 #[V0 1,.bool false] w (Ret (V0 18) w):=by
 refine zin 16 Tryz.func212 ?_
 refine xr 9 (args:=#[V0 1,.bool false]) (Dk _) fun W1 a0=>?_
 exact xe 24 (V0 18) ⟨rfl,a0⟩
theorem Dm(w:World) :
 C0 211 #[V0 2,.bool true] w (Ret (V0 8) w):=by
 refine zin 31 Tryz.func211 ?_
 exact xe 101 (V0 8) ⟨rfl,(B4 w)⟩
theorem node_Max2l(w:World) :
 C0 212 #[V0 2,.bool true] w (Ret (V0 12) w):=by
 refine zin 16 Tryz.func212 ?_
 refine xr 9 (args:=#[V0 2,.bool true]) (Dm _) fun W1 a0=>?_
 exact xe 24 (V0 12) ⟨rfl,a0⟩
theorem Eb(w:World) :
 C0 211 #[V0 2,.bool false] w (Ret (V0 4) w):=by
 refine zin 31 Tryz.func211 ?_
 exact xe 41 (V0 4) ⟨rfl,(B4 w)⟩
theorem node_Max2i(w:World) :
 C0 212 #[V0 2,.bool false] w (Ret (V0 18) w):=by
 refine zin 16 Tryz.func212 ?_
 refine xr 9 (args:=#[V0 2,.bool false]) (Eb _) fun W1 a0=>?_
 exact xe 24 (V0 18) ⟨rfl,a0⟩
theorem Dz(w:World) :
 C0 211 #[V0 3,.bool true] w (Ret (V0 24) w):=by
 refine zin 31 Tryz.func211 ?_
 exact xe 93 (V0 24) ⟨rfl,(B4 w)⟩
theorem node_Max3l(w:World) :
 C0 212 #[V0 3,.bool true] w (Ret (V0 6) w):=by
 refine zin 16 Tryz.func212 ?_
 refine xr 9 (args:=#[V0 3,.bool true]) (Dz _) fun W1 a0=>?_
 exact xe 24 (V0 6) ⟨rfl,a0⟩
theorem Cz(w:World) :
 C0 211 #[V0 3,.bool false] w (Ret (V0 4) w):=by
 refine zin 31 Tryz.func211 ?_
 exact xe 41 (V0 4) ⟨rfl,(B4 w)⟩
theorem node_Max3i(w:World) :
 C0 212 #[V0 3,.bool false] w (Ret (V0 18) w):=by
 refine zin 16 Tryz.func212 ?_
 refine xr 9 (args:=#[V0 3,.bool false]) (Cz _) fun W1 a0=>?_
 exact xe 24 (V0 18) ⟨rfl,a0⟩
theorem Du(w:World) :
 C0 211 #[V0 4,.bool true] w (Ret (V0 16) w):=by
 refine zin 31 Tryz.func211 ?_
 exact xe 98 (V0 16) ⟨rfl,(B4 w)⟩
theorem node_Max4l(w:World) :
 C0 212 #[V0 4,.bool true] w (Ret (V0 9) w):=by
 refine zin 16 Tryz.func212 ?_
 refine xr 9 (args:=#[V0 4,.bool true]) (Du _) fun W1 a0=>?_
 exact xe 24 (V0 9) ⟨rfl,a0⟩
theorem Cw(w:World) :
 C0 211 #[V0 4,.bool false] w (Ret (V0 4) w):=by
 refine zin 31 Tryz.func211 ?_
 exact xe 41 (V0 4) ⟨rfl,(B4 w)⟩
theorem node_Max4i(w:World) :
 C0 212 #[V0 4,.bool false] w (Ret (V0 18) w):=by
 refine zin 16 Tryz.func212 ?_
 refine xr 9 (args:=#[V0 4,.bool false]) (Cw _) fun W1 a0=>?_
 exact xe 24 (V0 18) ⟨rfl,a0⟩
theorem Dd(w:World) :
 C0 211 #[V0 5,.bool true] w (Ret (V0 4) w):=by
 refine zin 31 Tryz.func211 ?_
 exact xe 94 (V0 4) ⟨rfl,(B4 w)⟩
theorem node_Max5l(w:World) :
 C0 212 #[V0 5,.bool true] w (Ret (V0 18) w):=by
 refine zin 16 Tryz.func212 ?_
 refine xr 9 (args:=#[V0 5,.bool true]) (Dd _) fun W1 a0=>?_
 exact xe 24 (V0 18) ⟨rfl,a0⟩
theorem Dy(w:World) :
 C0 211 #[V0 5,.bool false] w (Ret (V0 4) w):=by
 refine zin 31 Tryz.func211 ?_
 exact xe 41 (V0 4) ⟨rfl,(B4 w)⟩
theorem node_Max5i(w:World) :
 C0 212 #[V0 5,.bool false] w (Ret (V0 18) w):=by
 refine zin 16 Tryz.func212 ?_
 refine xr 9 (args:=#[V0 5,.bool false]) (Dy _) fun W1 a0=>?_
 exact xe 24 (V0 18) ⟨rfl,a0⟩
def Ua(t:Int)(leaf:Bool):Nat:=if leaf=false then 4 else if t=2 then 8 else if t=3 then 24 else if t=4 then 16 else 4
def Qy(t:Int)(leaf:Bool):Nat:=if leaf=false then 18 else if t=2 then 12 else if t=3 then 6 else if t=4 then 9 else 18
theorem Av(t:Int)(leaf:Bool)(h1:1≤t)(h2:t≤5)(w:World):C0 211 #[V0 t,.bool leaf] w (Ret (V0 (Ua t leaf:Int)) w):=by
 obtain rfl|rfl|rfl|rfl|rfl:t=1∨t=2∨t=3∨t=4∨t=5:=by omega
 all_goals cases leaf
 ·exact Dk w
 ·exact Dw w
 ·exact Eb w
 ·exact Dm w
 ·exact Cz w
 ·exact Dz w
 ·exact Cw w
 ·exact Du w
 ·exact Dy w
 ·exact Dd w
theorem Ew(t:Int)(leaf:Bool)(h1:1≤t)(h2:t≤5)(w:World):C0 212 #[V0 t,.bool leaf] w (Ret (V0 (Qy t leaf:Int)) w):=by
 obtain rfl|rfl|rfl|rfl|rfl:t=1∨t=2∨t=3∨t=4∨t=5:=by omega
 all_goals cases leaf
 ·exact node_Max1i w
 ·exact node_Max1l w
 ·exact node_Max2i w
 ·exact node_Max2l w
 ·exact node_Max3i w
 ·exact node_Max3l w
 ·exact node_Max4i w
 ·exact node_Max4l w
 ·exact node_Max5i w
 ·exact node_Max5l w
theorem Qv(t:Int)(leaf:Bool):1≤Qy t leaf∧Qy t leaf≤18:=by
 unfold Qy;repeat' split
 all_goals decide
theorem run_quo{P:Program}{a:Act}{o:Oper}{t:TypeId}{x y:Operand}{t2:TypeId}{p q r:Int}{k:IntKind}(ho:o.op=.binOp .quo t x y t2)(hx:a.eval x=.int k p)(hy:a.eval y=.int k q)(hq:q≠0)(hr:k.wrap (Int.tdiv p q)=r)(w:World) :
 (execOp a.eval o).run P w=.ok (.value (.int k r)) w:=by
 subst hr
 have hb:(binOp .quo t (.int k p) (.int k q)).run P w=.ok (.int k (k.wrap (p.tdiv q))) w:=by
  simp[binOp,Op.intDiv,hq]
 have hg:(eqGuard .quo t x y (.int k p) (.int k q)).run P w=.ok () w:=rfl
 simp only[execOp,ho,hx,hy,Sem.run_bind,hg,Result.andThen_ok,hb]
 rfl
def ovN (n m:Nat):Nat:=max 1 ((n+m-1)/m)
theorem max_cast(a b:Nat):(if(b:Int)>(a:Int) then(b:Int) else(a:Int))=((max a b:Nat):Int):=by split<;>omega
theorem Kg(n m:Nat):1≤ovN n m:=by unfold ovN;omega
theorem Zbr(n m:Nat)(hm:1≤m):ovN n m≤n+1:=by
 have:(n+m-1)/m≤n:=by
  rw[Nat.div_le_iff_le_mul_add_pred (by omega)]
  have:=Nat.le_mul_of_pos_left n hm
  omega
 unfold ovN;omega
theorem ov18{x:Nat}(h:2≤x):ovN x 18≤x/2:=by unfold ovN;omega
theorem Fi(n m:Nat)(w:World)(hn:n≤1000000)(hm:1≤m)(hm2:m≤1000000) :
 C0 228 #[V0 (n:Int),V0 (m:Int)] w (Ret (V0 (ovN n m:Int)) w):=by
 refine zin 12 Tryz.func228 ?_
 refine xwm 9 ((n:Int)+(m:Int)) (↑(n+m):Int) ?_
 refine xwm 0 ((↑(n+m):Int)-1) (↑((n+m)-1):Int) ?_
 refine xbo 1 (t:=3) (t2:=3) (fun _ _ _ _ zo zx zy V hV=>run_quo (r:=(↑((n+m-1)/m):Int)) zo zx zy (by omega) (Zee (n+m-1) m (by omega) (by omega)) V) ?_
 refine xq 0 (congrArg V0 (show(if(↑((n+m-1)/m):Int)>(1:Int) then(↑((n+m-1)/m):Int) else(1:Int):Int)=(↑(ovN n m):Int) from max_cast 1 ((n+m-1)/m))) ?_
 exact xe 4 (V0 (↑(ovN n m):Int)) ⟨rfl,(B4 w)⟩
def lenOf:Value→Nat
 | .slice _ n _=>n
 | _=>0
def nv (n:Nat):Value:=V0 (n:Int)
def Za3(x:Nat):List Nat:=if h:x≤1 then [x] else x::Za3 (ovN x 18)
termination_by x
decreasing_by have:=ov18 (x:=x) (by omega);omega
theorem Gh{x:Nat}(h:x≤1):Za3 x=[x]:=by rw[Za3];simp[h]
theorem Hq{x:Nat}(h:¬ x≤1):Za3 x=x::Za3 (ovN x 18):=by rw[Za3];simp[h]
theorem levs_sum{x:Nat}(h:1≤x):(Za3 x).sum≤2*x:=by
 induction x using Nat.strongRecOn with
 | _ x ih =>
  by_cases h1:x≤1
  ·rw[Gh h1];simp;omega
  ·rw[Hq h1,List.sum_cons]
   have h2:=ov18 (x:=x) (by omega)
   have:=ih (ovN x 18) (by omega) (Kg _ _)
   omega
theorem levs_len{x:Nat}(h:1≤x):(Za3 x).length≤x:=by
 induction x using Nat.strongRecOn with
 | _ x ih =>
  by_cases h1:x≤1
  ·rw[Gh h1];simpa using h
  ·rw[Hq h1,List.length_cons]
   have h2:=ov18 (x:=x) (by omega)
   have:=ih (ovN x 18) (by omega) (Kg _ _)
   omega
theorem Xb{w:World}{b:O0}{n c:Nat}{l:List Nat}(h:Sl w (.slice b n c) n (l.map nv))(hl:l.length=n){k:Nat}(hk:k<n):b.isSome=true∧w.cell? (Zo b (k*1))=some (V0 ((l.getD k 0:Nat):Int)):=by
 have e:l.map nv=(l.map fun x:Nat=>(x:Int)).map V0:=by simp[nv]
 rw[e] at h
 have:=IntsN.elem h (by simpa using hl) hk
 rw[show(l.map fun x:Nat=>(x:Int)).getD k 0=((l.getD k 0:Nat):Int) by simp[List.getD,List.getElem?_eq_getElem (show k<l.length by omega)]] at this
 exact this
theorem Zcm{xs:List Nat}{x j:Nat}(h:xs.length=j):(xs++[x]).getD j 0=x:=by subst h;simp[List.getD]
theorem Iw{L:List Nat}{k:Nat}(h:k<L.length):(L.take (k+1)).sum=(L.take k).sum+L.getD k 0:=by
 rw[List.take_add_one,List.sum_append];simp[List.getD,List.getElem?_eq_getElem h]
theorem take_le{L:List Nat}(k:Nat):(L.take k).sum≤L.sum:=by
 conv=>rhs;rw[←List.take_append_drop k L,List.sum_append]
 omega
def Ui(t:Int)(n:Nat):List Nat:=Za3 (ovN n (Qy t true))
def Xw(t:Int)(n:Nat):Nat:=(Ui t n).sum
theorem levL_len(t:Int)(n:Nat):(Ui t n).length≤n+1:=by
 have:=levs_len (Kg n (Qy t true));have:=Zbr n (Qy t true) (Qv t true).1;unfold Ui;omega
theorem Hu(t:Int)(n:Nat):Xw t n≤2*n+2:=by
 have:=levs_sum (Kg n (Qy t true));have:=Zbr n (Qy t true) (Qv t true).1;unfold Xw Ui;omega
theorem Zds(t:Int)(n:Nat)(w:World)(h1:1≤t)(h2:t≤5)(hn:n≤32768) :
 C0 185 #[V0 t,V0 (n:Int)] w (Vo (fun w' r=>∃ p c,r=.slice p (Ui t n).length c∧w'.ownsRow w.heap.size 3 1 (.slice p (Ui t n).length c) (Ui t n).length ((Ui t n).map nv)) w):=by
 have b5:=(Qv t true).1
 have c5:=(Qv t true).2
 have d2:=Zbr n (Qy t true) b5
 have c1:=Kg n (Qy t true)
 refine zin 45 Tryz.func185 ?_
 refine xr 8 (args:=#[V0 t,.bool true]) (Ew t true h1 h2 _) fun W1 b4=>?_
 refine xr 1 (args:=#[V0 t,.bool false]) (Ew t false h1 h2 _) fun W2 b3=>?_
 refine xgk 10 [13,14] (show(((↑(Qy t true):Int)==(0:Int)):Bool)=false from by simp;omega) ?_
 refine xgk 4 [16,17,18] (show(decide ((n:Int)<(0:Int)):Bool)=false from decide_eq_false (by omega)) ?_
 refine xk 5 (show(decide ((n:Int)>(32768:Int)):Bool)=false from decide_eq_false (by omega)) ?_
 refine xr 6 (args:=#[V0 (n:Int),V0 (↑(Qy t true):Int)]) (Fi n (Qy t true) _ (by omega) b5 (by omega)) fun W5 b1=>?_
 refine xbs 0 1 [V0 (↑(ovN n (Qy t true)):Int)] 3 fun b6 W6 n6=>?_
 have g6:=n6.ge (bln (bln b4 b3) b1)
 have hB:=bln (bln (bln b4 b3) b1) n6.below
 refine zl 5 45 (fun zm b9 V=>∃ (j x:Nat) (xs:List Nat) (p:O0) (c:Nat),b9=[(4,S0),(6,V0 18),(7,.slice p (j+1) c)]∧zm=40000-(j+1)∧B3 w V∧V.ownsRow w.heap.size 3 1 (.slice p (j+1) c) (j+1) ((xs++[x]).map nv)∧xs.length=j∧1≤x∧x≤32769∧xs++Za3 x=Ui t n∧j+x≤40000) ⟨0,(ovN n (Qy t true)),[],_,_,rfl,rfl,hB,Xl (size:=1) (n:=1) n6.blk g6 rfl (by unfold maxLen;decide),rfl,c1,by omega,rfl,by omega⟩ ?_
 rintro _ _ W7 ⟨j,x,xs,p,c,rfl,rfl,a5,ho,a0,d3,c8,b0,hj⟩ J7 b8 r7
 refine xwm 6 ((↑(j+1):Int)-1) (j:Int) ?_
 refine xx 0 _ (j+1) j 1 (Xb (Zf ho) (by simp[a0]) (k:=j) (by omega)).1 ?_
 refine xl 0 (by have:=(Xb (Zf ho) (by simp[a0]) (k:=j) (by omega)).2;rwa [Zcm a0] at this) ?_
 refine xid 3 ((x:Int)>(1:Int)) (fun c2=>?_) (fun c2=>?_)
 ·refine xwm 8 ((↑(j+1):Int)-1) (j:Int) ?_
  refine xx 0 _ (j+1) j 1 (Xb (Zf ho) (by simp[a0]) (k:=j) (by omega)).1 ?_
  refine xl 0 (by have:=(Xb (Zf ho) (by simp[a0]) (k:=j) (by omega)).2;rwa [Zcm a0] at this) ?_
  refine xr 1 (args:=#[V0 (x:Int),V0 18]) (Fi x 18 _ (by omega) (by decide) (by decide)) fun W9 b2=>?_
  refine xbs 0 1 [V0 (↑(ovN x 18):Int)] 3 fun c6 c9 a1=>?_
  have a2:=bln a5 b2
  have c7:=a1.ge a2
  have a3:=Zb ho b2
  have a7:=Zu a3 a1
  have a6:=Zb a3 a1.below
  have a4:=bln a2 a1.below
  refine xbi 0 fun _ _ _ _ zJ zQ zo zx zy zK=>Xd (m:=1) (news:=[V0 (↑(ovN x 18):Int)]) (V0 0) 1 8 (j+1+1) (((xs++[x])++[ovN x 18]).map nv) zo Tryz.underlying35 (by kernel_rfl) rfl (by decide) zx a6 zy (a1.blk.sl 1 1 (by decide) (by decide)) rfl (by simp[Value.oneCell']) (by unfold maxLen;omega) (by omega) a4.size (by rfl) (by simp[nv]) fun b7 c3 d1 c0 c4 a8=>?_
  refine zK _ _ ?_
  have d0:=ov18 (x:=x) (by omega)
  have a9:=a4.trans a8
  exact ze 3 (b8 _ _ _ ⟨j+1,(ovN x 18),xs++[x],_,_,rfl,rfl,a9,c0,by simp[a0],Kg _ _,by omega,by rw[←b0,Hq (x:=x) (by omega)];simp,by omega⟩ (by omega))
 refine xe 12 (.slice p (j+1) c) ?_
 have e:Ui t n=xs++[x]:=by rw[←b0,Gh (x:=x) (by omega)]
 have el:(Ui t n).length=j+1:=by rw[e];simp[a0]
 exact⟨_,rfl,a5,p,c,by rw[el],by rw[el,e];exact ho⟩
theorem Qq(t:Int)(n:Nat)(w:World)(h1:1≤t)(h2:t≤5)(hn:n≤32768) :
 C0 114 #[V0 t,V0 (n:Int)] w (Ret (V0 (Xw t n:Int)) w):=by
 refine zin 21 Tryz.func114 ?_
 refine xc 15 (args:=#[V0 t,V0 (n:Int)]) (Zds t n _ h1 h2 hn) ?_
 rintro _ W1 ⟨_,rfl,a6,p,c,rfl,ho⟩
 have a2:=Nat.le_refl w.heap.size
 have a1:=Zh ho a2
 refine zl 5 21 (fun zm a4 V=>∃ (k:Nat),a4=[(4,V0 0),(5,V0 (↑((Ui t n).take k).sum:Int)),(10,.slice p ((Ui t n).length) c),(11,V0 (↑((Ui t n).length):Int)),(12,V0 (k:Int))]∧zm=(Ui t n).length-((k:Int)).toNat∧B3 w V∧V.ownsRow w.heap.size 3 1 (.slice p (Ui t n).length c) (Ui t n).length ((Ui t n).map nv)∧k≤(Ui t n).length) ⟨0,rfl,rfl,a6,a1,Nat.zero_le _⟩ ?_
 rintro _ _ W2 ⟨k,rfl,rfl,a0,ho,hk⟩ J2 a3 r2
 have a7:=levL_len t n
 have a2:=Hu t n
 unfold Xw at a2
 have a8:=take_le (L:=Ui t n) (k+1)
 have a9:k<(Ui t n).length→((Ui t n).take (k+1)).sum=((Ui t n).take k).sum+(Ui t n).getD k 0:=Iw
 refine xid 6 ((k:Int)<(↑((Ui t n).length):Int)) (fun a5=>?_) (fun a5=>?_)
 ·refine xx 6 _ ((Ui t n).length) k 1 (Xb (Zf ho) rfl (k:=k) (by omega)).1 ?_
  refine xl 0 ((Xb (Zf ho) rfl (k:=k) (by omega)).2) ?_
  refine xwm 6 ((↑((Ui t n).take k).sum:Int)+(↑((Ui t n).getD k 0):Int)) (↑(((Ui t n).take k).sum+((Ui t n).getD k 0)):Int) ?_
  refine xwm 5 ((k:Int)+1) (↑(k+1):Int) ?_
  refine xv1 2 5 (show(V0 (↑(((Ui t n).take k).sum+((Ui t n).getD k 0)):Int):Value)=V0 (↑((Ui t n).take (k+1)).sum:Int) from by rw[Iw (by omega)]) ?_
  exact ze 0 (a3 _ _ _ ⟨k+1,rfl,rfl,a0,ho,by omega⟩ (by omega))
 refine xe 12 (V0 (↑((Ui t n).take k).sum:Int)) ?_
 have e:k=(Ui t n).length:=by omega
 subst e
 rw[List.take_length]
 exact⟨rfl,a0⟩
def Jg(n m i:Nat):Nat:=min m (n-i*m)
theorem siz_le{n m i:Nat}(hm:1≤m)(h:i<ovN n m):i*m≤n:=by
 unfold ovN at h
 rcases Nat.eq_zero_or_pos i with rfl|hi
 ·omega
 ·have h1:i+1≤(n+m-1)/m:=by omega
  have h2:=(Nat.le_div_iff_mul_le (by omega)).1 h1
  rw[Nat.add_mul] at h2
  omega
def Za5(n m k:Nat):List Value:=(List.range (ovN n m)).map fun i=>V0 (if i<k then(Jg n m i:Int) else 0)
def sizL(n m:Nat):List Nat:=(List.range (ovN n m)).map (Jg n m)
theorem sizK_zero(n m:Nat):Kv (Value.int .i64 0).cells.toList (ovN n m)=Za5 n m 0:=by
 rw[show(Value.int .i64 0).cells.toList=[Value.int .i64 0] from rfl,Kv,Za5]
 simp[List.map_const']
theorem sizK_all(n m:Nat):Za5 n m (ovN n m)=(sizL n m).map nv:=by
 unfold Za5 sizL nv
 rw[List.map_map]
 apply List.map_congr_left
 intro i hi
 rw[List.mem_range] at hi
 simp[hi]
theorem sizK_set{n m k:Nat}(h:k<ovN n m):(Za5 n m k).set k (V0 (Jg n m k:Int))=Za5 n m (k+1):=by
 apply List.ext_getElem?
 intro i
 by_cases hi:i<ovN n m
 ·by_cases e:k=i
  ·subst e
   rw[List.getElem?_set_self (by simpa [Za5] using h)]
   simp[Za5,List.getElem?_range h]
  ·rw[List.getElem?_set_ne e]
   simp only[Za5,List.getElem?_map,List.getElem?_range hi,Option.map_some]
   by_cases e2:i<k
   ·simp[e2,show i<k+1 by omega]
   ·simp[e2,show ¬ i<k+1 by omega]
 ·rw[List.getElem?_eq_none (by simp[Za5];omega),List.getElem?_eq_none (by simp[Za5];omega)]
theorem sizL_len(n m:Nat):(sizL n m).length=ovN n m:=by simp[sizL]
theorem tall_Sizes(n m:Nat)(w:World)(hn:n≤32768)(hm:1≤m)(hm2:m≤32768) :
 C0 230 #[V0 (n:Int),V0 (m:Int)] w (Vo (fun w' r=>∃ p c,r=.slice p (ovN n m) c∧w'.ownsRow w.heap.size 3 1 (.slice p (ovN n m) c) (ovN n m) ((sizL n m).map nv)) w):=by
 have a7:=Zbr n m hm
 refine zin 40 Tryz.func230 ?_
 refine xgk 11 [8,9] (show(decide ((n:Int)<(0:Int)):Bool)=false from decide_eq_false (by omega)) ?_
 refine xgk 4 [11,12,13] (show(decide ((n:Int)>(32768:Int)):Bool)=false from decide_eq_false (by omega)) ?_
 refine xk 5 (show(decide ((m:Int)<(1:Int)):Bool)=false from decide_eq_false (by omega)) ?_
 refine xq 5 (congrArg V0 (show(if(32768:Int)<(m:Int) then(32768:Int) else(m:Int):Int)=(m:Int) from if_neg (by omega))) ?_
 refine xr 7 (args:=#[V0 (n:Int),V0 (m:Int)]) (Fi n m _ (by omega) hm (by omega)) fun W3 a2=>?_
 refine xmk 0 fun _ _ _ _ zJ zQ zo zx zy zK=>Kw (ovN n m) (V0 0) 1 8 (Za5 n m 0) zo zx zy Tryz.underlying35 (by kernel_rfl) rfl (by omega) (by omega) (sizK_zero n m) fun b4 W4 n4=>?_
 refine zK _ _ ?_
 have hB:=bln a2 n4.below
 refine zl 12 40 (fun zm a5 V=>∃ (k:Nat),a5=[(0,V0 (n:Int)),(1,V0 (m:Int)),(4,S0),(5,.slice (S1 b4) (ovN n m) (ovN n m)),(24,V0 (↑(ovN n m):Int)),(25,V0 (k:Int))]∧zm=ovN n m-((k:Int)).toNat∧B3 w V∧Blk V b4 (Za5 n m k) 3∧k≤ovN n m) ⟨0,rfl,rfl,hB,n4.blk,Nat.zero_le _⟩ ?_
 rintro _ _ W5 ⟨k,rfl,rfl,a1,a0,hk⟩ J5 a4 r5
 have a8:k<ovN n m→k*m≤n:=siz_le hm
 refine xid 6 ((k:Int)<(↑(ovN n m):Int)) (fun a6=>?_) (fun a6=>?_)
 ·refine xwm 17 ((k:Int)*(m:Int)) (↑(k*m):Int) ?_
  refine xwm 0 ((n:Int)-(↑(k*m):Int)) (↑(n-(k*m)):Int) ?_
  refine xxb 1 b4 0 (ovN n m) k 1 ?_
  refine xsg 0 a0 (0+k*1) (V0 (if(↑(n-(k*m)):Int)<(m:Int) then(↑(n-(k*m)):Int) else(m:Int))) (by simp[Za5];omega) fun W7 u7 k7=>?_
  replace k7:Blk W7 b4 (Za5 n m (k+1)) 3:=by rw[←(show(Za5 n m k).set (0+k*1) (V0 (if(↑(n-(k*m)):Int)<(m:Int) then(↑(n-(k*m)):Int) else(m:Int)))=Za5 n m (k+1) from by rw[show 0+k*1=k by omega,show(if(↑(n-(k*m)):Int)<(m:Int) then(↑(n-(k*m)):Int) else(m:Int))=(↑(Jg n m k):Int) from Oo m (n-k*m)];exact sizK_set (by omega))];exact k7
  have g4:=n4.ge a2
  refine xwm 4 ((k:Int)+1) (↑(k+1):Int) ?_
  have a3:=u7.below a1 g4
  exact ze 2 (a4 _ _ _ ⟨k+1,rfl,rfl,a3,k7,by omega⟩ (by omega))
 have g4:=n4.ge a2
 refine xe 12 (.slice (S1 b4) (ovN n m) (ovN n m)) ?_
 have e:k=ovN n m:=by omega
 subst e
 have ho:=Xl (size:=1) (n:=ovN n m) a0 g4 (by simp[Za5]) (by unfold maxLen;omega)
 rw[sizK_all] at ho
 exact⟨_,rfl,a1,_,_,rfl,ho⟩
def Zm(l:Bl):Nat→Nat→Nat
 | _,0=>0
 | k,w+1=>(l.getD k 0).toNat+256*Zm l (k+1) w
theorem Oy(l:Bl):∀ (w k:Nat),Zm l k w<256 ^ w
 | 0,k=>by simp[Zm]
 | w+1,k=>by
  have:=Oy l w (k+1)
  have h:=(l.getD k 0).toNat_lt
  rw[Zm,Nat.pow_succ];omega
theorem Zg4(l:Bl)(k w:Nat)(hw:w≤7):Zm l k w<72057594037927936:=Nat.lt_of_lt_of_le (Oy l w k) (by rw[show(72057594037927936:Nat)=256 ^ 7 from rfl];exact Nat.pow_le_pow_right (by decide) hw)
theorem Vk(l:Bl)(k w:Nat)(hw:w≤4):Zm l k w<4294967296:=Nat.lt_of_lt_of_le (Oy l w k) (by rw[show(4294967296:Nat)=256 ^ 4 from rfl];exact Nat.pow_le_pow_right (by decide) hw)
theorem Zhd{n b:Nat}(hn:n<72057594037927936)(hb:b<256):IntKind.u64.wrap (↑(BitVec.ofInt 64 (IntKind.u64.wrap ((n:Int)*2 ^ 8)) ||| BitVec.ofInt 64 (b:Int)).toNat:Int)=((b+256*n:Nat):Int):=by
 have h1:IntKind.u64.wrap ((n:Int)*2 ^ 8)=((n*2 ^ 8:Nat):Int):=by
  rw[show(n:Int)*2 ^ 8=((n*2 ^ 8:Nat):Int) by omega];exact IntWalk.u64_in _ (by constructor<;>omega)
 rw[h1,BitVec.ofInt_natCast,BitVec.ofInt_natCast,BitVec.toNat_or,BitVec.toNat_ofNat,BitVec.toNat_ofNat,Nat.mod_eq_of_lt (by omega),Nat.mod_eq_of_lt (by omega)]
 rw[←Nat.shiftLeft_eq,←Nat.shiftLeft_add_eq_or_of_lt (by exact hb:b<2 ^ 8),Nat.shiftLeft_eq,IntWalk.u64_in _ (by constructor<;>omega)]
 congr 1;omega
theorem u64_nat{n:Nat}(h:n<18446744073709551616):IntKind.u64.wrap (n:Int)=(n:Int):=IntWalk.u64_in _ (by constructor<;>omega)
theorem Zha(a:O0)(m c k w:Nat)(hw:w=1∨w=2∨w=4∨w=8)(hk:k+w≤m)(hm:m≤100000000)(W:World) :
 C0 145 #[.slice a m c,V0 (k:Int),V0 (w:Int)] W (Ret (V0 0) W):=by
 rcases hw with rfl|rfl|rfl|rfl
 ·exact there_1 a m c k hk hm W
 ·exact there_2 a m c k hk hm W
 ·exact there_4 a m c k hk hm W
 ·exact there_8 a m c k hk hm W
theorem Zgh(a:O0)(c k w:Nat)(l:Bl)(W:World)(hw:w=1∨w=2∨w=4∨w=8)(hk:k+w≤l.length)(hl:l.length≤100000000)(h:Bys W (.slice a l.length c) l)(hq:Zm l k w<9223372036854775808) :
 C0 78 #[.slice a l.length c,V0 (k:Int),V0 (w:Int)] W (Ret (.tuple #[V0 (Zm l k w:Int),V0 0]) W):=by
 refine zin 38 Tryz.func78 ?_
 refine xr 12 (args:=#[.slice a l.length c,V0 (k:Int),V0 (w:Int)]) (Zha a l.length c k w hw hk hl _) fun W1 a4=>?_
 refine xw 21 ((w:Int)-1) ?_
 refine zl 4 38 (fun zm a2 V=>∃ (j r:Nat),a2=[(0,.slice a l.length c),(1,V0 (k:Int)),(6,V0 0),(7,V0 0),(9,.int .u64 (↑(Zm l (k+j) r):Int)),(10,V0 ((j:Int)-1))]∧zm=(((j:Int)-1)+1).toNat∧B3 W V∧j+r=w) ⟨w,0,rfl,rfl,a4,by omega⟩ ?_
 rintro _ _ W2 ⟨j,r,rfl,rfl,a0,a5⟩ J2 a1 r2
 refine xid 7 ((j:Int)-1≥(0:Int)) (fun a3=>?_) (fun a3=>?_)
 ·refine xq 10 (congrArg V0 (show IntKind.i64.wrap ((k:Int)+((j:Int)-1))=(↑(k+(j-1)):Int) from(show IntKind.i64.wrap ((k:Int)+((j:Int)-1))=((k:Int)+((j:Int)-1)) from by first|exact IntWalk.i64_in _ (by omega)|(simp only[IntKind.wrap];omega)).trans (by omega))) ?_
  refine xx 0 _ l.length (k+(j-1)) 1 (Bys.elem h (k:=(k+(j-1))) (by omega)).1 ?_
  refine xl 0 ((Bys.elem (h.below a0) (k:=(k+(j-1))) (by omega)).2) ?_
  refine xq 0 (congrArg (Value.int .u64) (show(IntKind.u64.wrap (↑(l.getD (k+(j-1)) 0).toNat:Int):Int)=(↑(l.getD (k+(j-1)) 0).toNat:Int) from u64_nat (by have:=(l.getD (k+(j-1)) 0).toNat_lt;omega))) ?_
  refine xq 0 (congrArg (Value.int .u64) (show(IntKind.u64.wrap (↑(BitVec.ofInt 64 (IntKind.u64.wrap ((↑(Zm l (k+j) r):Int)*2 ^ 8)) ||| BitVec.ofInt 64 (↑(l.getD (k+(j-1)) 0).toNat:Int)).toNat:Int):Int)=(↑(Zm l (k+(j-1)) (r+1)):Int) from(Zhd (Zg4 l (k+j) r (by omega)) (l.getD (k+(j-1)) 0).toNat_lt).trans (congrArg (fun x:Nat=>(x:Int)) (by rw[Zm,show k+(j-1)+1=k+j by omega])))) ?_
  refine xq 6 (congrArg V0 (show IntKind.i64.wrap ((j:Int)-1-1)=((↑(j-1:Nat):Int)-1) from(show IntKind.i64.wrap ((j:Int)-1-1)=((j:Int)-1-1) from by first|exact IntWalk.i64_in _ (by omega)|(simp only[IntKind.wrap];omega)).trans (by omega))) ?_
  exact ze 2 (a1 _ _ _ ⟨j-1,r+1,rfl,rfl,a0,by omega⟩ (by omega))
 refine xk 12 (show(decide ((↑(Zm l (k+j) r):Int)≥(9223372036854775808:Int)):Bool)=false from by rw[(show Zm l (k+j) r=Zm l k w from by rw[show j=0 by omega,show r=w by omega];rfl)];exact decide_eq_false (by omega)) ?_
 refine xq 5 (congrArg V0 (show(IntKind.i64.wrap (↑(Zm l (k+j) r):Int):Int)=(↑(Zm l k w):Int) from by rw[(show Zm l (k+j) r=Zm l k w from by rw[show j=0 by omega,show r=w by omega];rfl)];exact Bt hq)) ?_
 exact xe 5 (.tuple #[V0 (↑(Zm l k w):Int),V0 0]) ⟨rfl,a0⟩
theorem Get_big(a:O0)(c k w:Nat)(l:Bl)(W:World)(hw:w=1∨w=2∨w=4∨w=8)(hk:k+w≤l.length)(hl:l.length≤100000000)(h:Bys W (.slice a l.length c) l)(hq:¬ Zm l k w<9223372036854775808) :
 C0 78 #[.slice a l.length c,V0 (k:Int),V0 (w:Int)] W (Ret (.tuple #[V0 0,V0 2]) W):=by
 refine zin 38 Tryz.func78 ?_
 refine xr 12 (args:=#[.slice a l.length c,V0 (k:Int),V0 (w:Int)]) (Zha a l.length c k w hw hk hl _) fun W1 a4=>?_
 refine xw 21 ((w:Int)-1) ?_
 refine zl 4 38 (fun zm a2 V=>∃ (j r:Nat),a2=[(0,.slice a l.length c),(1,V0 (k:Int)),(6,V0 0),(7,V0 0),(9,.int .u64 (↑(Zm l (k+j) r):Int)),(10,V0 ((j:Int)-1))]∧zm=(((j:Int)-1)+1).toNat∧B3 W V∧j+r=w) ⟨w,0,rfl,rfl,a4,by omega⟩ ?_
 rintro _ _ W2 ⟨j,r,rfl,rfl,a0,a5⟩ J2 a1 r2
 refine xid 7 ((j:Int)-1≥(0:Int)) (fun a3=>?_) (fun a3=>?_)
 ·refine xq 10 (congrArg V0 (show IntKind.i64.wrap ((k:Int)+((j:Int)-1))=(↑(k+(j-1)):Int) from(show IntKind.i64.wrap ((k:Int)+((j:Int)-1))=((k:Int)+((j:Int)-1)) from by first|exact IntWalk.i64_in _ (by omega)|(simp only[IntKind.wrap];omega)).trans (by omega))) ?_
  refine xx 0 _ l.length (k+(j-1)) 1 (Bys.elem h (k:=(k+(j-1))) (by omega)).1 ?_
  refine xl 0 ((Bys.elem (h.below a0) (k:=(k+(j-1))) (by omega)).2) ?_
  refine xq 0 (congrArg (Value.int .u64) (show(IntKind.u64.wrap (↑(l.getD (k+(j-1)) 0).toNat:Int):Int)=(↑(l.getD (k+(j-1)) 0).toNat:Int) from u64_nat (by have:=(l.getD (k+(j-1)) 0).toNat_lt;omega))) ?_
  refine xq 0 (congrArg (Value.int .u64) (show(IntKind.u64.wrap (↑(BitVec.ofInt 64 (IntKind.u64.wrap ((↑(Zm l (k+j) r):Int)*2 ^ 8)) ||| BitVec.ofInt 64 (↑(l.getD (k+(j-1)) 0).toNat:Int)).toNat:Int):Int)=(↑(Zm l (k+(j-1)) (r+1)):Int) from(Zhd (Zg4 l (k+j) r (by omega)) (l.getD (k+(j-1)) 0).toNat_lt).trans (congrArg (fun x:Nat=>(x:Int)) (by rw[Zm,show k+(j-1)+1=k+j by omega])))) ?_
  refine xq 6 (congrArg V0 (show IntKind.i64.wrap ((j:Int)-1-1)=((↑(j-1:Nat):Int)-1) from(show IntKind.i64.wrap ((j:Int)-1-1)=((j:Int)-1-1) from by first|exact IntWalk.i64_in _ (by omega)|(simp only[IntKind.wrap];omega)).trans (by omega))) ?_
  exact ze 2 (a1 _ _ _ ⟨j-1,r+1,rfl,rfl,a0,by omega⟩ (by omega))
 refine xk 12 (show(decide ((↑(Zm l (k+j) r):Int)≥(9223372036854775808:Int)):Bool)=true from by rw[(show Zm l (k+j) r=Zm l k w from by rw[show j=0 by omega,show r=w by omega];rfl)];exact decide_eq_true (by omega)) ?_
 exact xe 8 (.tuple #[V0 0,V0 2]) ⟨rfl,a0⟩
def Wg(l:Bl):Nat→List Nat→List Nat
 | _,[]=>[]
 | k,w::r=>Zm l k w::Wg l (k+w) r
theorem Oz(l:Bl):∀ (ws:List Nat) (k:Nat),(Wg l k ws).length=ws.length
 | [],k=>rfl
 | w::r,k=>by simp[Wg,Oz l r]
theorem Ll(l:Bl)(w:Nat):∀ (ws:List Nat) (k:Nat),Wg l k (ws++[w])=Wg l k ws++[Zm l (k+ws.sum) w]
 | [],k=>by simp[Wg]
 | x::r,k=>by simp[Wg,Ll l w r,Nat.add_assoc]
theorem Zar(l:Bl):∀ (ws:List Nat) (k i:Nat),i<ws.length→(Wg l k ws).getD i 0=Zm l (k+(ws.take i).sum) (ws.getD i 0)
 | [],k,i,h=>by simp at h
 | w::r,k,0,h=>by simp[Wg]
 | w::r,k,i+1,h=>by
  have:=Zar l r (k+w) i (by simpa using h)
  simp only[List.getD_eq_getElem?_getD] at this ⊢
  simp[Wg,this,Nat.add_assoc]
theorem Lc{ws:List Nat}{i:Nat}(h:i<ws.length):ws.take (i+1)=ws.take i++[ws.getD i 0]:=by
 rw[List.take_succ_eq_append_getElem h];simp[List.getD,h]
theorem Fl{ws:List Nat}{i:Nat}(h:i<ws.length):(ws.take i).sum+ws.getD i 0≤ws.sum:=by
 have h1:=Iw h;have h2:=take_le (L:=ws) (i+1);omega
def getV(l:Bl)(k w:Nat):Int:=if Zm l k w<9223372036854775808 then(Zm l k w:Int) else 0
def getE(l:Bl)(k w:Nat):Int:=if Zm l k w<9223372036854775808 then 0 else 2
theorem getE_zero{l:Bl}{k w:Nat}(h:getE l k w=0):Zm l k w<9223372036854775808:=by unfold getE at h;split at h;assumption;cases h
theorem getE_two{l:Bl}{k w:Nat}(h:getE l k w≠0):¬ Zm l k w<9223372036854775808∧getE l k w=2:=by unfold getE at h ⊢;split at h;exact absurd rfl h;rename_i h2;exact⟨h2,if_neg h2⟩
theorem getE_ok{l:Bl}{k w:Nat}(h:Zm l k w<9223372036854775808):getE l k w=0:=if_pos h
theorem Zdi{l:Bl}{k w:Nat}(h:Zm l k w<9223372036854775808):getV l k w=(Zm l k w:Int):=if_pos h
theorem Get_gen(a:O0)(c k w:Nat)(l:Bl)(W:World)(hw:w=1∨w=2∨w=4∨w=8)(hk:k+w≤l.length)(hl:l.length≤100000000)(h:Bys W (.slice a l.length c) l) :
 C0 78 #[.slice a l.length c,V0 (k:Int),V0 (w:Int)] W (Ret (.tuple #[V0 (getV l k w),V0 (getE l k w)]) W):=by
 by_cases hq:Zm l k w<9223372036854775808
 ·rw[Zdi hq,getE_ok hq];exact Zgh a c k w l W hw hk hl h hq
 ·rw[getV,getE,if_neg hq,if_neg hq];exact Get_big a c k w l W hw hk hl h hq
theorem Zb1(a:O0)(c:Nat)(l:Bl)(aw:O0)(cw:Nat)(ws:List Nat)(W:World)(hk:∀ i,i<ws.length→ws.getD i 0=1∨ws.getD i 0=2∨ws.getD i 0=4∨ws.getD i 0=8)(hs:ws.sum≤l.length)(hl:l.length≤100000000)(hw:ws.length≤1000)(h:Bys W (.slice a l.length c) l)(hws:Sl W (.slice aw ws.length cw) ws.length (ws.map nv))(hq:∀ i,i<ws.length→(Wg l 0 ws).getD i 0<9223372036854775808) :
 C0 156 #[.slice a l.length c,.slice aw ws.length cw] W (Vo (fun w' r=>∃ p c,r=.tuple #[.slice p ws.length c,V0 0]∧w'.ownsRow W.heap.size 3 1 (.slice p ws.length c) ws.length ((Wg l 0 ws).map nv)) W):=by
 refine zin 37 Tryz.func156 ?_
 have hB:=Below.refl W.heap.size W
 refine zl 25 37 (fun zm b0 V=>∃ (i:Nat) (p:O0) (c2:Nat),b0=[(0,.slice a l.length c),(6,.slice p i c2),(7,V0 (↑(ws.take i).sum:Int)),(12,.slice aw ws.length cw),(13,V0 (ws.length:Int)),(14,V0 (i:Int))]∧zm=ws.length-((i:Int)).toNat∧B3 W V∧V.ownsRow W.heap.size 3 1 (.slice p i c2) i ((Wg l 0 (ws.take i)).map nv)∧i≤ws.length) ⟨0,_,_,rfl,rfl,hB,World.ownsRow_nil _ _ _ _,Nat.zero_le _⟩ ?_
 rintro _ _ W1 ⟨i,p,c2,rfl,rfl,a0,ho,hi⟩ J1 a9 r1
 have b6:i<ws.length→(ws.take i).sum+ws.getD i 0≤ws.sum:=Fl
 have a8:i<ws.length→(Wg l 0 ws).getD i 0=Zm l (ws.take i).sum (ws.getD i 0):=fun h=>by rw[Zar l ws 0 i h,Nat.zero_add]
 refine xid 6 ((i:Int)<(ws.length:Int)) (fun b1=>?_) (fun b1=>?_)
 ·refine xx 6 _ ws.length i 1 (Xb hws rfl (k:=i) (by omega)).1 ?_
  refine xl 0 ((Xb (hws.below a0) rfl (k:=i) (by omega)).2) ?_
  refine xr 8 (args:=#[.slice a l.length c,V0 (↑(ws.take i).sum:Int),V0 (↑(ws.getD i 0):Int)]) (Get_gen a c (ws.take i).sum (ws.getD i 0) l _ (hk i (by omega)) (by omega) hl (h.below a0)) fun W3 a6=>?_
  refine xk 14 (show(((getE l (ws.take i).sum (ws.getD i 0)) != (0:Int)):Bool)=false from by rw[getE_ok (by rw[←a8 (by omega)];exact hq i (by omega))];rfl) ?_
  refine xbs 6 1 [V0 (getV l (ws.take i).sum (ws.getD i 0))] 3 fun b4 W4 n4=>?_
  have a1:=bln a0 a6
  have g4:=n4.ge a1
  have a2:=Zb ho a6
  have a7:=Zu a2 n4
  have a4:=Zb a2 n4.below
  have a3:=bln a1 n4.below
  refine xbi 0 fun _ _ _ _ zJ zQ zo zx zy zK=>Xd (m:=1) (news:=[V0 (getV l (ws.take i).sum (ws.getD i 0))]) (V0 0) 1 8 (i+1) ((Wg l 0 (ws.take (i+1))).map nv) zo Tryz.underlying35 (by kernel_rfl) rfl (by decide) zx a4 zy (n4.blk.sl 1 1 (by decide) (by decide)) rfl (by simp[Value.oneCell']) (by unfold maxLen;omega) (by omega) a3.size (by rfl) (by rw[Lc (by omega),Ll,Nat.zero_add,List.map_append];simp only[List.map_cons,List.map_nil,nv];rw[Zdi (by rw[←a8 (by omega)];exact hq i (by omega))]) fun b7 b3 W5 o5 b5 b2=>?_
  refine zK _ _ ?_
  refine xwm 6 ((↑(ws.take i).sum:Int)+(↑(ws.getD i 0):Int)) (↑((ws.take i).sum+(ws.getD i 0)):Int) ?_
  refine xwm 5 ((i:Int)+1) (↑(i+1):Int) ?_
  refine xv1 2 7 (show(V0 (↑((ws.take i).sum+(ws.getD i 0)):Int):Value)=V0 (↑(ws.take (i+1)).sum:Int) from by rw[Lc (by omega),List.sum_append];simp) ?_
  have a5:=a3.trans b2
  exact ze 0 (a9 _ _ _ ⟨i+1,_,_,rfl,rfl,a5,o5,by omega⟩ (by omega))
 refine xe 13 (.tuple #[.slice p i c2,V0 0]) ?_
 obtain rfl:i=ws.length:=by omega
 rw[List.take_length] at ho
 exact⟨_,rfl,a0,_,_,rfl,ho⟩
theorem Unpack_bad(a:O0)(c:Nat)(l:Bl)(aw:O0)(cw:Nat)(ws:List Nat)(W:World)(hk:∀ i,i<ws.length→ws.getD i 0=1∨ws.getD i 0=2∨ws.getD i 0=4∨ws.getD i 0=8)(hs:ws.sum≤l.length)(hl:l.length≤100000000)(hw:ws.length≤1000)(h:Bys W (.slice a l.length c) l)(hws:Sl W (.slice aw ws.length cw) ws.length (ws.map nv))(hq:¬ ∀ i,i<ws.length→(Wg l 0 ws).getD i 0<9223372036854775808) :
 C0 156 #[.slice a l.length c,.slice aw ws.length cw] W (Ret (.tuple #[S0,V0 2]) W):=by
 refine zin 37 Tryz.func156 ?_
 have hB:=Below.refl W.heap.size W
 refine zl 25 37 (fun zm b4 V=>∃ (i:Nat) (p:O0) (c2:Nat),b4=[(0,.slice a l.length c),(6,.slice p i c2),(7,V0 (↑(ws.take i).sum:Int)),(12,.slice aw ws.length cw),(13,V0 (ws.length:Int)),(14,V0 (i:Int))]∧zm=ws.length-((i:Int)).toNat∧B3 W V∧V.ownsRow W.heap.size 3 1 (.slice p i c2) i ((Wg l 0 (ws.take i)).map nv)∧i≤ws.length∧(∀ j,j<i→(Wg l 0 ws).getD j 0<9223372036854775808)) ⟨0,_,_,rfl,rfl,hB,World.ownsRow_nil _ _ _ _,Nat.zero_le _,?_⟩ ?_
 ·exact fun j hj=>absurd hj (by omega)
 rintro _ _ W1 ⟨i,p,c2,rfl,rfl,a0,ho,hi,a3⟩ J1 b3 r1
 have c0:i<ws.length→(ws.take i).sum+ws.getD i 0≤ws.sum:=Fl
 have b7:i<ws.length→(Wg l 0 ws).getD i 0=Zm l (ws.take i).sum (ws.getD i 0):=fun h=>by rw[Zar l ws 0 i h,Nat.zero_add]
 refine xid 6 ((i:Int)<(ws.length:Int)) (fun b6=>?_) (fun b6=>?_)
 ·refine xx 6 _ ws.length i 1 (Xb hws rfl (k:=i) (by omega)).1 ?_
  refine xl 0 ((Xb (hws.below a0) rfl (k:=i) (by omega)).2) ?_
  refine xr 8 (args:=#[.slice a l.length c,V0 (↑(ws.take i).sum:Int),V0 (↑(ws.getD i 0):Int)]) (Get_gen a c (ws.take i).sum (ws.getD i 0) l _ (hk i (by omega)) (by omega) hl (h.below a0)) fun W3 a8=>?_
  refine xin 14 (getE l (ws.take i).sum (ws.getD i 0)) (0:Int) (fun a7=>?_) (fun a7=>?_)
  ·have a5:=getE_two a7
   have a9:=bln a0 a8
   refine xe 14 (.tuple #[S0,V0 (getE l (ws.take i).sum (ws.getD i 0))]) ?_
   rw[a5.2];exact⟨rfl,a9⟩
  have a5:=getE_zero a7
  refine xbs 6 1 [V0 (getV l (ws.take i).sum (ws.getD i 0))] 3 fun b5 W5 n5=>?_
  have a2:=bln a0 a8
  have g5:=n5.ge a2
  have a1:=Zb ho a8
  have b1:=Zu a1 n5
  have a6:=Zb a1 n5.below
  have a4:=bln a2 n5.below
  refine xbi 0 fun _ _ _ _ zJ zQ zo zx zy zK=>Xd (m:=1) (news:=[V0 (getV l (ws.take i).sum (ws.getD i 0))]) (V0 0) 1 8 (i+1) ((Wg l 0 (ws.take (i+1))).map nv) zo Tryz.underlying35 (by kernel_rfl) rfl (by decide) zx a6 zy (n5.blk.sl 1 1 (by decide) (by decide)) rfl (by simp[Value.oneCell']) (by unfold maxLen;omega) (by omega) a4.size (by rfl) (by rw[Lc (by omega),Ll,Nat.zero_add,List.map_append];simp only[List.map_cons,List.map_nil,nv];rw[Zdi a5]) fun b8 b9 W6 o6 c1 b2=>?_
  refine zK _ _ ?_
  refine xwm 6 ((↑(ws.take i).sum:Int)+(↑(ws.getD i 0):Int)) (↑((ws.take i).sum+(ws.getD i 0)):Int) ?_
  refine xwm 5 ((i:Int)+1) (↑(i+1):Int) ?_
  refine xv1 2 7 (show(V0 (↑((ws.take i).sum+(ws.getD i 0)):Int):Value)=V0 (↑(ws.take (i+1)).sum:Int) from by rw[Lc (by omega),List.sum_append];simp) ?_
  have b0:=a4.trans b2
  exact ze 0 (b3 _ _ _ ⟨i+1,_,_,rfl,rfl,b0,o6,by omega,fun j hj=>(Nat.lt_or_ge j i).elim (fun q=>a3 j q) (fun q=>by obtain rfl:j=i:=(by omega);rw[b7 (by omega)];exact a5)⟩ (by omega))
 refine xe 13 (.tuple #[.slice p i c2,V0 0]) ?_
 exact absurd (fun j hj=>a3 j (by omega)) hq
theorem Nc{P:Program}{a:Act}{o:Oper}{src dst e:TypeId}{x:Operand}{b:O0}{n c:Nat}{l:Bl}{w:World}(ho:o.op=.convert src dst x)(hx:a.eval x=.slice b n c)(h:Bys w (.slice b n c) l)(hl:l.length=n)
 (hs:P.underlying src=some (.slice e)) (he:P.underlying e=some (.int .u8)) (hd:P.underlying dst=some .string):(execOp a.eval o).run P w=.ok (.value (.string ⟨l.toArray⟩)) w:=by
 have hr:(convert src dst (.slice b n c)).run P w=.ok (.string ⟨l.toArray⟩) w:=by
  subst hl
  rcases Sl.at h with hn|⟨g,a0,rfl,hc⟩
  ·obtain rfl:l=[]:=by simpa using hn
   cases b with
   | none=>rw[run_convert_bytes_string w src dst e none _ c hs he hd];rfl
   | some p=>exact run_convert_bytes_back w src dst e p c [] hs he hd (fun j hj=>by simp at hj)
  ·exact run_convert_bytes_back w src dst e _ c l hs he hd (fun j hj=>by rw[Addr.add_mid];exact hc j _ (by simp[List.getElem?_eq_getElem hj,bv]))
 simp only[execOp,ho,hx,Sem.run_bind,hr];rfl
theorem Al.below{B ba b g n c:Nat}{pa:O0}{ca f N k:Nat}{l:Bl}{w W:World}(h:Al B ba b g n c pa ca f N k l w)(hb:B3 w W):Al B ba b g n c pa ca f N k l W:=⟨h.blkA.below hb,h.blkI.below hb,Zb h.data hb,Zb h.nums hb⟩
theorem Lw{w:World}{base n c size:Nat}{e:TypeId}{p:O0}{xs:List Value}(h:w.ownsRow base e size (.slice p n c) n xs)(hn:0<n):∃ g,p=some ⟨g,0,none⟩∧n≤c:=by
 rcases h.2 with ⟨_,h0⟩|⟨g,a1,a0,hv,_,_,hc,_⟩
 ·omega
 ·simp only[Value.slice.injEq] at hv;exact⟨g,hv.1,by omega⟩
theorem Bys.cap{w:World}{a:O0}{n c:Nat}{l:Bl}(h:Bys w (.slice a n c) l)(hl:l.length=n):n≤c:=by
 rcases h with ⟨a',c',h1,h2,_⟩|⟨b,a0,cap,h1,h2,_,_⟩
 ·omega
 ·simp only[Value.slice.injEq] at h1;omega
theorem alloc_NewN(b:Nat)(p0:O0)(n c f N:Nat)(fi:Int)(hfi:fi=(f:Int))(hN:n/256-f=N)(w:World)(hk:Blk w b [.slice p0 n c] 59)(hn:n≤3686400)(h1:1≤f)(h2:f≤n/256) :
 C0 36 #[P0 b,V0 fi] w (Vo (fun w' r=>∃ ba p c2,r=.tuple #[P0 ba,.nilIface]∧w.heap.size≤ba∧Blk w' ba [.slice p N c2,V0 0,P0 b] 152∧w'.ownsRow w.heap.size 3 1 (.slice p N c2) N ((Az f N).map V0)) w):=by
 subst hfi hN;exact alloc_New b p0 n c f w hk hn h1 h2
end Go.Proofs.YtceeiinepijokaaGreat
namespace Go.Proofs.YtceeiinepijokaaGreat
set_option maxHeartbeats 8000000
set_option maxRecDepth 100000
open Go.RowKit Go.Extern.Stop Go.Stop Go.Extern
set_option linter.unusedVariables false
attribute [local irreducible] wpList wpAnyH Code.wp Oper.wp Go
section
variable {P:Program} {a:Act}
theorem Ws{o:Oper}{t e:TypeId}{x y y2:Operand}{b:O0}{n k h c:Nat}{i j:Int}{ki kj:IntKind}(size:Nat)(ho:o.op=.slice t x (some y) (some y2) none)(hx:a.eval x=.slice b n c)(hy:a.eval y=.int ki i)(hi:i=(k:Int))(hy2:a.eval y2=.int kj j)(hj:j=(h:Int))(hk:k≤h)(hc:h≤c)
 (ht:P.underlying t=some (.slice e)) (hs:(P.info? e).map (·.size)=some size) (w:World):(execOp a.eval o).run P w=.ok (.value (.slice (Wh b k c size) (h-k) (c-k))) w:=by
 cases hq:P.info? e with
 | none=>simp[hq] at hs
 | some q =>
  have a0:q.size=size:=by simpa [hq] using hs
  subst hi hj
  have h1:(0:Int)≤(k:Int):=by omega
  have h2:(0:Int)≤(h:Int):=by omega
  have h3:(k:Int)≤(h:Int):=by omega
  have h4:(h:Int)≤(c:Int):=by omega
  by_cases h5:c=k
  ·simp_all [execOp,Instr.sliceAt,Instr.slice,Instr.sliceBounds,Instr.sliceBound,asIntOf,run_underlying ht,sizeOf,typeInfo,Wh]
  ·simp_all [execOp,Instr.sliceAt,Instr.slice,Instr.sliceBounds,Instr.sliceBound,asIntOf,run_underlying ht,sizeOf,typeInfo,Wh]
end
theorem Bys.cut{w:World}{b:O0}{n c:Nat}{l:Bl}(h:Bys w (.slice b n c) l)(hl:l.length=n)(k m:Nat)(hk:k≤m)(hm:m≤n):Bys w (.slice (Wh b k c 1) (m-k) (c-k)) ((l.drop k).take (m-k)):=by
 have a0:((l.drop k).take (m-k)).length=m-k:=by simp;omega
 have a2:=Bys.cap h hl
 rcases h with ⟨a',c',h1,h2,h3⟩|⟨g,a1,a3,h1,h2,h3,h4⟩
 ·obtain rfl:k=0:=by omega
  obtain rfl:m=0:=by omega
  refine .inl ⟨Wh b 0 c 1,c-0,?_,by simp,by simp⟩
  simp
 ·simp only[Value.slice.injEq] at h1
  obtain⟨rfl,_,rfl⟩:=h1
  by_cases hz:m-k=0
  ·refine .inl ⟨Wh (some ⟨g,a1,none⟩) k c 1,c-k,by rw[hz],by omega,?_⟩
   rw[hz];rfl
  ·refine .inr ⟨g,a1+k*1,c-k,?_,by omega,by omega,fun j x hj=>?_⟩
   ·rw[Wh,if_neg (by omega),a0];simp[Addr.add]
   ·rw[List.getElem?_map,List.getElem?_take] at hj
    split at hj
    ·rw[List.getElem?_drop] at hj
     have:=h4 (k+j) x (by rw[List.getElem?_map];exact hj)
     rwa [Nat.mul_one,Nat.add_assoc]
    ·cases hj
def Hc(l:Bl):Bool:=l.all (·==0)
theorem zeroB_true{l:Bl}(h:∀ j,j<l.length→l.getD j 0=0):Hc l=true:=by
 unfold Hc
 rw[List.all_eq_true]
 intro x hx
 obtain⟨j,hj,rfl⟩:=List.mem_iff_getElem.1 hx
 have:=h j hj
 simpa [List.getD,hj] using this
theorem Zez{l:Bl}{j:Nat}(hj:j<l.length)(h:((l.getD j 0).toNat:Int)≠0):Hc l=false:=by
 unfold Hc
 rw[List.all_eq_false]
 refine⟨l[j],List.getElem_mem hj,?_⟩
 intro h2
 apply h
 have:l[j]=0:=by simpa using h2
 simp[List.getD,hj,this]
theorem byte_zero{x:UInt8}(h:(x.toNat:Int)=0):x=0:=by
 have h1:x.toNat=0:=by omega
 exact UInt8.toNat_inj.1 (by rw[h1];rfl)
theorem zero_1(n:Int)(w:World) :
 C0 238 #[.int .u8 n] w (Ret (.bool (n != 0)) w):=by
 refine zin 5 Tryz.func238 ?_
 exact xe 13 (.bool (n != (0:Int))) ⟨rfl,(B4 w)⟩
theorem indexZero(a:O0)(c:Nat)(l:Bl)(w:World)(hl:l.length≤100000000)(h:Bys w (.slice a l.length c) l) :
 C0 250 #[.slice a l.length c,.func (.func 238) #[] #[]] w (fun e w'=>(Hc l=true∧e=.returned (V0 (-1))∧B3 w w')∨(Hc l=false∧∃ i:Nat,e=.returned (V0 (i:Int))∧B3 w w')):=by
 refine zin 19 Tryz.func250 ?_
 have hB:=Below.refl w.heap.size w
 refine zl 14 19 (fun zm a5 V=>∃ (i:Nat),a5=[(0,.slice a l.length c),(1,.func (.func 238) #[] #[]),(7,V0 (l.length:Int)),(8,V0 (i:Int))]∧zm=l.length-((i:Int)).toNat∧B3 w V∧i≤l.length∧(∀ j,j<i→l.getD j 0=0)) ⟨0,rfl,rfl,hB,Nat.zero_le _,?_⟩ ?_
 ·exact fun j hj=>absurd hj (by omega)
 rintro _ _ W1 ⟨i,rfl,rfl,a0,hi,hz⟩ J1 a4 r1
 refine xid 6 ((i:Int)<(l.length:Int)) (fun a6=>?_) (fun a6=>?_)
 ·refine xx 15 _ l.length i 1 (Bys.elem h (k:=i) (by omega)).1 ?_
  refine xl 0 ((Bys.elem (h.below a0) (k:=i) (by omega)).2) ?_
  refine xr 0 (args:=#[.int .u8 (↑(l.getD i 0).toNat:Int)]) (zero_1 (↑(l.getD i 0).toNat:Int) _) fun W3 a3=>?_
  refine xin 2 (↑(l.getD i 0).toNat:Int) (0:Int) (fun a7=>?_) (fun a7=>?_)
  ·have a1:=bln a0 a3
   exact xe 12 (V0 (i:Int)) (.inr ⟨Zez (j:=i) (by omega) (by assumption),_,rfl,a1⟩)
  refine xwm 4 ((i:Int)+1) (↑(i+1):Int) ?_
  have a2:=bln a0 a3
  exact ze 2 (a4 _ _ _ ⟨i+1,rfl,rfl,a2,by omega,fun j hj=>(Nat.lt_or_ge j i).elim (hz j) (fun q=>by obtain rfl:j=i:=(by omega);exact byte_zero (by assumption))⟩ (by omega))
 exact xe 11 (V0 (-1)) (.inl ⟨zeroB_true (fun j hj=>hz j (by omega)),rfl,a0⟩)
theorem Zci(a:O0)(c:Nat)(l:Bl)(w:World)(hl:l.length≤100000000)(h:Bys w (.slice a l.length c) l) :
 C0 237 #[.slice a l.length c,.func (.func 238) #[] #[]] w (Ret (.bool (!Hc l)) w):=by
 refine zin 9 Tryz.func237 ?_
 refine xc 9 (args:=#[.slice a l.length c,.func (.func 238) #[] #[]]) (indexZero a c l _ hl (h.below (B4 w))) ?_
 rintro e W1 a1
 rcases a1 with ⟨hz,rfl,a0⟩|⟨hz,i0,rfl,a0⟩
 ·refine xe 5 (.bool false) ?_
  rw[hz];exact⟨rfl,a0⟩
 refine xe 5 (.bool (decide ((i0:Int)≥(0:Int)))) ?_
 rw[hz,show decide ((i0:Int)≥(0:Int))=true from decide_eq_true (by omega)];exact⟨rfl,a0⟩
theorem code_Zero(a:O0)(c:Nat)(l:Bl)(w:World)(hl:l.length≤100000000)(h:Bys w (.slice a l.length c) l) :
 C0 213 #[.slice a l.length c] w (Ret (.bool (Hc l)) w):=by
 refine zin 6 Tryz.func213 ?_
 refine xr 8 (args:=#[.slice a l.length c,.func (.func 238) #[] #[]]) (Zci a c l _ hl (h.below (B4 w))) fun W1 a0=>?_
 refine xe 5 (.bool (!(!Hc l))) ?_
 rw[Bool.not_not];exact⟨rfl,a0⟩
def Dn(kind no:Int):Bool:=decide (1≤kind∧kind≤4∧0≤no∧no<14400)
theorem Zd8(kind no:Int)(w:World) :
 C0 137 #[V0 kind,V0 no] w (Ret (.bool (Dn kind no)) w):=by
 refine zin 19 Tryz.func137 ?_
 refine xg 10 [6,7] (decide (kind≥(1:Int))) (fun a1=>?_) (fun a1=>?_)
 ·have a1:=of_decide_eq_true a1
  refine xg 4 [9,10,11] (decide (kind≤(4:Int))) (fun a0=>?_) (fun a0=>?_)
  ·have a0:=of_decide_eq_true a0
   refine xg 4 [13,14,15] (decide (no≥(0:Int))) (fun a2=>?_) (fun a2=>?_)
   ·have a2:=of_decide_eq_true a2
    exact xe 7 (.bool (decide (no<(14400:Int)))) ⟨by rw[show Dn kind no=decide (no<14400) from decide_eq_decide.2 ⟨fun h=>h.2.2.2,fun h=>⟨by omega,by omega,by omega,h⟩⟩],(B4 w)⟩
   have a2:=of_decide_eq_false a2
   exact xe 7 (.bool false) ⟨by rw[show Dn kind no=false from decide_eq_false (by omega)],(B4 w)⟩
  have a0:=of_decide_eq_false a0
  exact xe 11 (.bool false) ⟨by rw[show Dn kind no=false from decide_eq_false (by omega)],(B4 w)⟩
 have a1:=of_decide_eq_false a1
 exact xe 15 (.bool false) ⟨by rw[show Dn kind no=false from decide_eq_false (by omega)],(B4 w)⟩
theorem seal_told(a:O0)(c k w:Nat)(l:Bl)(W:World)(hw:w=1∨w=2∨w=4)(hk:k+w≤l.length)(hl:l.length≤100000000)(h:Bys W (.slice a l.length c) l) :
 C0 140 #[.slice a l.length c,V0 (k:Int),V0 (w:Int)] W (Ret (V0 (Zm l k w:Int)) W):=by
 refine zin 17 Tryz.func140 ?_
 refine xr 10 (args:=#[.slice a l.length c,V0 (k:Int),V0 (w:Int)]) (Zgh a c k w l _ (by omega) hk hl (h.below (B4 W)) (by have:=Vk l k w (by omega);omega)) fun W1 a0=>?_
 exact xe 14 (V0 (↑(Zm l k w):Int)) ⟨rfl,a0⟩
theorem Px(a:O0)(n c k w:Nat)(ki wi:Int)(l:Bl)(W:World)(hn:l.length=n)(hki:ki=(k:Int))(hwi:wi=(w:Int))(hw:w=1∨w=2∨w=4)(hk:k+w≤n)(hl:n≤100000000)(h:Bys W (.slice a n c) l) :
 C0 140 #[.slice a n c,V0 ki,V0 wi] W (Ret (V0 (Zm l k w:Int)) W):=by
 subst hn hki hwi;exact seal_told a c k w l W hw hk hl h
def Ny(kind no:Int)(l:Bl):Nat→Bool
 | 0=>!Dn kind no
 | 1=>(l.length:Int) != 256
 | 2=>(Zm l 252 4:Int) != (Zde l kind:Int)
 | 3=>(Zm l 0 4:Int) != no
 | 4=>(Zm l 4 2:Int) != kind
 | _=>(Zm l 6 2:Int) != 0
def Vb(kind no:Int)(l:Bl):Int :=
 if Ny kind no l 0 then 1 else if Ny kind no l 1 then 7 else if Ny kind no l 2 then 4 else if Ny kind no l 3 then 5 else if Ny kind no l 4 then 6 else if Ny kind no l 5 then 7 else 0
theorem ask1{kind no:Int}{l:Bl}(h:Ny kind no l 1=false):l.length=256:=by
 have:(l.length:Int)=256:=Vh h
 omega
theorem open_1(kind no:Int)(w:World)(l:Bl)(bk:Nat)(kk:Blk w bk [V0 kind] 3)(bn:Nat)(kn:Blk w bn [V0 no] 3) :
 C0 136 #[P0 bk,P0 bn] w (Ret (.bool (Ny kind no l 0)) w):=by
 refine zin 7 Tryz.func136 ?_
 refine xb 7 0 kk ?_
 refine xb 0 0 kn ?_
 refine xr 0 (args:=#[V0 kind,V0 no]) (Zd8 kind no _) fun W1 a0=>?_
 exact xe 5 (.bool (!(Dn kind no))) ⟨rfl,a0⟩
theorem open_2(kind no:Int)(w:World)(bb:Nat)(a:O0)(c:Nat)(l:Bl)(kb:Blk w bb [.slice a l.length c] 22) :
 C0 138 #[P0 bb] w (Ret (.bool (Ny kind no l 1)) w):=by
 refine zin 5 Tryz.func138 ?_
 refine xb 7 0 kb ?_
 exact xe 6 (.bool ((l.length:Int) != (256:Int))) ⟨rfl,(B4 w)⟩
theorem seal_sumN(kind:Int)(a:O0)(c n:Nat)(l:Bl)(w:World)(hn:l.length=n)(h256:n=256)(hc:256≤c)(h:Bys w (.slice a n c) l) :
 C0 141 #[.slice a n c,V0 kind] w (Ret (V0 (Zde l kind:Int)) w):=by
 subst h256;exact Zfu kind a c l w hn hc h
theorem open_3(kind no:Int)(w:World)(bb:Nat)(a:O0)(c:Nat)(l:Bl)(kb:Blk w bb [.slice a l.length c] 22)(bk:Nat)(kk:Blk w bk [V0 kind] 3)(hl:l.length=256)(hc:256≤c)(h:Bys w (.slice a l.length c) l) :
 C0 139 #[P0 bb,P0 bk] w (Ret (.bool (Ny kind no l 2)) w):=by
 refine zin 9 Tryz.func139 ?_
 refine xd 6 .z ?_
 have a1:=kb.below (Za w)
 refine xb (.e [] 0) 0 a1 ?_
 refine xb (.e [] 2) 0 a1 ?_
 have a3:=kk.below (Za w)
 refine xb (.e [] 3) 0 a3 ?_
 have hB:=(Za w)
 refine xr (.o [] 1) (args:=#[.slice a l.length c,V0 252,V0 4]) (Px a l.length c 252 4 252 4 l _ rfl rfl rfl (by decide) (by omega) (by omega) (h.below hB)) fun W1 a5=>?_
 have a0:=bln hB a5
 refine xr (.o [] 4) (args:=#[.slice a l.length c,V0 kind]) (seal_sumN kind a c l.length l _ rfl hl hc (h.below a0)) fun W2 a4=>?_
 have a2:=bln a0 a4
 exact xe (.r [5,6] 3) (.bool ((↑(Zm l 252 4):Int) != (↑(Zde l kind):Int))) ⟨rfl,a2⟩
theorem open_4(kind no:Int)(w:World)(bb:Nat)(a:O0)(c:Nat)(l:Bl)(kb:Blk w bb [.slice a l.length c] 22)(bn:Nat)(kn:Blk w bn [V0 no] 3)(hl:l.length=256)(hc:256≤c)(h:Bys w (.slice a l.length c) l) :
 C0 142 #[P0 bb,P0 bn] w (Ret (.bool (Ny kind no l 3)) w):=by
 refine zin 7 Tryz.func142 ?_
 refine xd 6 .z ?_
 have a2:=kb.below (Za w)
 refine xb (.e [] 0) 0 a2 ?_
 have a1:=kn.below (Za w)
 refine xb (.e [] 2) 0 a1 ?_
 have hB:=(Za w)
 refine xr (.o [] 1) (args:=#[.slice a l.length c,V0 0,V0 4]) (Px a l.length c 0 4 0 4 l _ rfl rfl rfl (by decide) (by omega) (by omega) (h.below hB)) fun W1 a3=>?_
 have a0:=bln hB a3
 exact xe (.r [3,4] 3) (.bool ((↑(Zm l 0 4):Int) != no)) ⟨rfl,a0⟩
theorem open_5(kind no:Int)(w:World)(bb:Nat)(a:O0)(c:Nat)(l:Bl)(kb:Blk w bb [.slice a l.length c] 22)(bk:Nat)(kk:Blk w bk [V0 kind] 3)(hl:l.length=256)(hc:256≤c)(h:Bys w (.slice a l.length c) l) :
 C0 143 #[P0 bb,P0 bk] w (Ret (.bool (Ny kind no l 4)) w):=by
 refine zin 7 Tryz.func143 ?_
 refine xd 6 .z ?_
 have a2:=kb.below (Za w)
 refine xb (.e [] 0) 0 a2 ?_
 have a0:=kk.below (Za w)
 refine xb (.e [] 2) 0 a0 ?_
 have hB:=(Za w)
 refine xr (.o [] 1) (args:=#[.slice a l.length c,V0 4,V0 2]) (Px a l.length c 4 2 4 2 l _ rfl rfl rfl (by decide) (by omega) (by omega) (h.below hB)) fun W1 a3=>?_
 have a1:=bln hB a3
 exact xe (.r [3,4] 3) (.bool ((↑(Zm l 4 2):Int) != kind)) ⟨rfl,a1⟩
theorem open_6(kind no:Int)(w:World)(bb:Nat)(a:O0)(c:Nat)(l:Bl)(kb:Blk w bb [.slice a l.length c] 22)(hl:l.length=256)(hc:256≤c)(h:Bys w (.slice a l.length c) l) :
 C0 144 #[P0 bb] w (Ret (.bool (Ny kind no l 5)) w):=by
 refine zin 5 Tryz.func144 ?_
 refine xb 7 0 kb ?_
 refine xr 0 (args:=#[.slice a l.length c,V0 6,V0 2]) (Px a l.length c 6 2 6 2 l _ rfl rfl rfl (by decide) (by omega) (by omega) (h.below (B4 w))) fun W1 a0=>?_
 exact xe 5 (.bool ((↑(Zm l 6 2):Int) != (0:Int))) ⟨rfl,a0⟩
def OpenP(kind no:Int)(l:Bl)(w:World)(e:Ending)(w':World):Prop :=
 (Vb kind no l≠0∧e=.returned (.tuple #[S0,V0 (Vb kind no l)])∧B3 w w') ∨
 (Vb kind no l=0∧∃ p c,e=.returned (.tuple #[.slice p 244 c,V0 0])∧B3 w w'∧w'.ownsRow w.heap.size 5 1 (.slice p 244 c) 244 (((l.drop 8).take 244).map bv))
theorem seal_Open(kind no:Int)(a:O0)(c:Nat)(l:Bl)(w:World)(h:Bys w (.slice a l.length c) l) :
 C0 75 #[.slice a l.length c,V0 kind,V0 no] w (OpenP kind no l w):=by
 have m7:=h.cap rfl
 refine zin 39 Tryz.func75 ?_
 refine xa 2 [.slice a l.length c] 22 fun b1 W1 n1=>?_
 refine xa 0 [V0 kind] 3 fun b2 W2 n2=>?_
 refine xa 0 [V0 no] 3 fun b3 W3 n3=>?_
 have m0:=n3.ne n2.blk
 refine xbs 18 6 [.func (.func 136) #[] #[P0 b2,P0 b3],V0 1,.func (.func 138) #[] #[P0 b1],V0 7,.func (.func 139) #[] #[P0 b1,P0 b2],V0 4,.func (.func 142) #[] #[P0 b1,P0 b3],V0 5,.func (.func 143) #[] #[P0 b1,P0 b2],V0 6,.func (.func 144) #[] #[P0 b1],V0 7] 242 fun b4 W4 n4=>?_
 refine xu 12 7 ?_
 refine xlv 14 (n4.blk.rpp 0 2) ?_
 refine xa 0 [.nilFunc,V0 0] 242 fun b5 W5 n5=>?_
 have f9:=n5.ne n4.blk
 refine xsv 0 n5.blk [.func (.func 136) #[] #[P0 b2,P0 b3],V0 1] fun W6 u6 k6=>?_
 have g5:=n5.ge (bln (bln (bln n1.below n2.below) n3.below) n4.below)
 refine xb 5 0 k6 ?_
 have h8:=u6.blkT (((n2.blk.below n3.below).below n4.below).below n5.below) n5.blk (by decide)
 have k3:=u6.blkT ((n3.blk.below n4.below).below n5.below) n5.blk (by decide)
 refine xr 0 (args:=#[P0 b2,P0 b3]) (open_1 kind no _ l b2 h8 b3 k3) fun W7 b6=>?_
 refine xi 2 (Ny kind no l 0) (fun l1=>?_) (fun l1=>?_)
 ·have c7:=l1
  refine xd 1 .z ?_
  have k7:=(k6.below b6).below (Za W7)
  refine xb (.e [0] 1) 1 k7 ?_
  have hB:=bln (bln (u6.below (bln (bln (bln (bln n1.below n2.below) n3.below) n4.below) n5.below) g5) b6) (Za W7)
  refine xe (.r [2,3] 8) (.tuple #[S0,V0 1]) ?_
  have he:Vb kind no l=1:=by simp[Vb,c7]
  exact .inl ⟨by rw[he];decide,by rw[he],hB⟩
 have c7:=l1
 have e5:=(u6.blk (n4.blk.below n5.below) (Ne.symm (Ne.symm f9))).below b6
 refine xlv 22 (e5.rpp 2 2) ?_
 refine xa 0 [.nilFunc,V0 0] 242 fun b9 W9 n9=>?_
 have i4:=n9.ne e5
 have h9:=k6.below b6
 have i2:=n9.ne h9
 refine xsv 0 n9.blk [.func (.func 138) #[] #[P0 b1],V0 7] fun o7 d4 j8=>?_
 have g9:=n9.ge (bln (u6.below (bln (bln (bln (bln n1.below n2.below) n3.below) n4.below) n5.below) g5) b6)
 refine xb 5 0 j8 ?_
 have k1:=d4.blkT (((u6.blkT ((((n1.blk.below n2.below).below n3.below).below n4.below).below n5.below) n5.blk (by decide)).below b6).below n9.below) n9.blk (by decide)
 refine xr 0 (args:=#[P0 b1]) (open_2 kind no _ b1 a c l k1) fun m2 a3=>?_
 refine xi 2 (Ny kind no l 1) (fun e8=>?_) (fun e8=>?_)
 ·have a4:=e8
  refine xd 1 .z ?_
  have i3:=(j8.below a3).below (Za m2)
  refine xb (.e [0] 1) 1 i3 ?_
  have hB:=bln (bln (d4.below (bln (bln (u6.below (bln (bln (bln (bln n1.below n2.below) n3.below) n4.below) n5.below) g5) b6) n9.below) g9) a3) (Za m2)
  refine xe (.r [2,3] 8) (.tuple #[S0,V0 7]) ?_
  have he:Vb kind no l=7:=by simp[Vb,c7,a4]
  exact .inl ⟨by rw[he];decide,by rw[he],hB⟩
 have a4:=e8
 have m1:=ask1 a4
 have d3:=(d4.blk (e5.below n9.below) (Ne.symm (Ne.symm i4))).below a3
 refine xlv 22 (d3.rpp 4 2) ?_
 refine xa 0 [.nilFunc,V0 0] 242 fun n0 o2 a7=>?_
 have d9:=a7.ne d3
 have g6:=(d4.blk (h9.below n9.below) (Ne.symm (Ne.symm i2))).below a3
 have e7:=a7.ne g6
 have c5:=j8.below a3
 have d5:=a7.ne c5
 have hB:=bln (d4.below (bln (bln (u6.below (bln (bln (bln (bln n1.below n2.below) n3.below) n4.below) n5.below) g5) b6) n9.below) g9) a3
 have m5:=a7.ge hB
 refine xsv 0 a7.blk [.func (.func 139) #[] #[P0 b1,P0 b2],V0 4] fun o3 e2 k4=>?_
 refine xb 5 0 k4 ?_
 have h3:=e2.blkT ((k1.below a3).below a7.below) a7.blk (by decide)
 have i8:=e2.blkT (((d4.blkT ((h8.below b6).below n9.below) n9.blk (by decide)).below a3).below a7.below) a7.blk (by decide)
 have d6:=e2.below (bln hB a7.below) m5
 refine xr 0 (args:=#[P0 b1,P0 b2]) (open_3 kind no _ b1 a c l h3 b2 i8 (ask1 a4) (by have:=ask1 a4;have:=h.cap rfl;omega) (h.below d6)) fun m3 a1=>?_
 refine xi 2 (Ny kind no l 2) (fun f0=>?_) (fun f0=>?_)
 ·have f6:=f0
  refine xd 1 .z ?_
  have i5:=(k4.below a1).below (Za m3)
  refine xb (.e [0] 1) 1 i5 ?_
  have j6:=bln (bln d6 a1) (Za m3)
  refine xe (.r [2,3] 8) (.tuple #[S0,V0 4]) ?_
  have he:Vb kind no l=4:=by simp[Vb,c7,a4,f6]
  exact .inl ⟨by rw[he];decide,by rw[he],j6⟩
 have f6:=f0
 have e1:=(e2.blk (d3.below a7.below) (Ne.symm (Ne.symm d9))).below a1
 refine xlv 22 (e1.rpp 6 2) ?_
 refine xa 0 [.nilFunc,V0 0] 242 fun o1 o5 a5=>?_
 have e0:=a5.ne e1
 have f7:=(e2.blk (g6.below a7.below) (Ne.symm (Ne.symm e7))).below a1
 have e3:=a5.ne f7
 have d2:=(e2.blk (c5.below a7.below) (Ne.symm (Ne.symm d5))).below a1
 have f5:=a5.ne d2
 have c2:=k4.below a1
 have c1:=a5.ne c2
 have h2:=bln d6 a1
 have m8:=a5.ge h2
 refine xsv 0 a5.blk [.func (.func 142) #[] #[P0 b1,P0 b3],V0 5] fun n8 c6 l2=>?_
 refine xb 5 0 l2 ?_
 have g1:=c6.blkT ((h3.below a1).below a5.below) a5.blk (by decide)
 have l3:=c6.blkT (((e2.blkT (((d4.blkT ((k3.below b6).below n9.below) n9.blk (by decide)).below a3).below a7.below) a7.blk (by decide)).below a1).below a5.below) a5.blk (by decide)
 have e9:=c6.below (bln h2 a5.below) m8
 refine xr 0 (args:=#[P0 b1,P0 b3]) (open_4 kind no _ b1 a c l g1 b3 l3 (ask1 a4) (by have:=ask1 a4;have:=h.cap rfl;omega) (h.below e9)) fun l9 a0=>?_
 refine xi 2 (Ny kind no l 3) (fun f3=>?_) (fun f3=>?_)
 ·have i7:=f3
  refine xd 1 .z ?_
  have i0:=(l2.below a0).below (Za l9)
  refine xb (.e [0] 1) 1 i0 ?_
  have k2:=bln (bln e9 a0) (Za l9)
  refine xe (.r [2,3] 8) (.tuple #[S0,V0 5]) ?_
  have he:Vb kind no l=5:=by simp[Vb,c7,a4,f6,i7]
  exact .inl ⟨by rw[he];decide,by rw[he],k2⟩
 have i7:=f3
 have e6:=(c6.blk (e1.below a5.below) (Ne.symm (Ne.symm e0))).below a0
 refine xlv 22 (e6.rpp 8 2) ?_
 refine xa 0 [.nilFunc,V0 0] 242 fun o0 n7 a6=>?_
 have f4:=a6.ne e6
 have h6:=(c6.blk (f7.below a5.below) (Ne.symm (Ne.symm e3))).below a0
 have f1:=a6.ne h6
 have c8:=(c6.blk (d2.below a5.below) (Ne.symm (Ne.symm f5))).below a0
 have d7:=a6.ne c8
 have d1:=(c6.blk (c2.below a5.below) (Ne.symm (Ne.symm c1))).below a0
 have b8:=a6.ne d1
 have c4:=l2.below a0
 have b7:=a6.ne c4
 have g8:=bln e9 a0
 have m4:=a6.ge g8
 refine xsv 0 a6.blk [.func (.func 143) #[] #[P0 b1,P0 b2],V0 6] fun o4 c9 l4=>?_
 refine xb 5 0 l4 ?_
 have f8:=c9.blkT ((g1.below a0).below a6.below) a6.blk (by decide)
 have k5:=c9.blkT (((c6.blkT ((i8.below a1).below a5.below) a5.blk (by decide)).below a0).below a6.below) a6.blk (by decide)
 have d8:=c9.below (bln g8 a6.below) m4
 refine xr 0 (args:=#[P0 b1,P0 b2]) (open_5 kind no _ b1 a c l f8 b2 k5 (ask1 a4) (by have:=ask1 a4;have:=h.cap rfl;omega) (h.below d8)) fun l5 a2=>?_
 refine xi 2 (Ny kind no l 4) (fun e4=>?_) (fun e4=>?_)
 ·have j2:=e4
  refine xd 1 .z ?_
  have g7:=(l4.below a2).below (Za l5)
  refine xb (.e [0] 1) 1 g7 ?_
  have k0:=bln (bln d8 a2) (Za l5)
  refine xe (.r [2,3] 8) (.tuple #[S0,V0 6]) ?_
  have he:Vb kind no l=6:=by simp[Vb,c7,a4,f6,i7,j2]
  exact .inl ⟨by rw[he];decide,by rw[he],k0⟩
 have j2:=e4
 have g2:=(c9.blk (e6.below a6.below) (Ne.symm (Ne.symm f4))).below a2
 refine xlv 22 (g2.rpp 10 2) ?_
 refine xa 0 [.nilFunc,V0 0] 242 fun m9 o8 b0=>?_
 have j9:=b0.ne g2
 have j7:=(c9.blk (h6.below a6.below) (Ne.symm (Ne.symm f1))).below a2
 have k9:=b0.ne j7
 have i6:=(c9.blk (c8.below a6.below) (Ne.symm (Ne.symm d7))).below a2
 have j5:=b0.ne i6
 have h1:=(c9.blk (d1.below a6.below) (Ne.symm (Ne.symm b8))).below a2
 have j1:=b0.ne h1
 have g0:=(c9.blk (c4.below a6.below) (Ne.symm (Ne.symm b7))).below a2
 have j0:=b0.ne g0
 have g3:=l4.below a2
 have i9:=b0.ne g3
 have h0:=bln d8 a2
 have m6:=b0.ge h0
 refine xsv 0 b0.blk [.func (.func 144) #[] #[P0 b1],V0 7] fun n6 l6 l7=>?_
 refine xb 5 0 l7 ?_
 have h7:=l6.blkT ((f8.below a2).below b0.below) b0.blk (by decide)
 have a8:=l6.below (bln h0 b0.below) m6
 refine xr 0 (args:=#[P0 b1]) (open_6 kind no _ b1 a c l h7  (ask1 a4) (by have:=ask1 a4;have:=h.cap rfl;omega) (h.below a8)) fun l8 a9=>?_
 refine xi 2 (Ny kind no l 5) (fun f2=>?_) (fun f2=>?_)
 ·have j3:=f2
  refine xd 1 .z ?_
  have i1:=(l7.below a9).below (Za l8)
  refine xb (.e [0] 1) 1 i1 ?_
  have h5:=bln (bln a8 a9) (Za l8)
  refine xe (.r [2,3] 8) (.tuple #[S0,V0 7]) ?_
  have he:Vb kind no l=7:=by simp[Vb,c7,a4,f6,i7,j2,j3]
  exact .inl ⟨by rw[he];decide,by rw[he],h5⟩
 have j3:=f2
 have j4:=h7.below a9
 refine xb 22 0 j4 ?_
 refine xsB 0 (fun _ _ _ _ _ zo zx zy zz V=>Ws (k:=8) (h:=252) (b:=a) (n:=l.length) (c:=c) (i:=8) (ki:=.i64) (j:=252) (kj:=.i64) 1 zo zx zy rfl zz rfl (by omega) (by omega) Tryz.underlying22 (by kernel_rfl) V) ?_
 have d0:=bln a8 a9
 refine xc 0 (args:=#[.slice (Wh a 8 c 1) 244 (c-8)]) (Ve (Wh a 8 c 1) 244 (c-8) ((l.drop 8).take 244) _ (by have:=ask1 a4;simp;omega) ((Bys.cut h rfl 8 252 (by decide) (by have:=ask1 a4;omega)).below d0) (by decide)) ?_
 rintro _ o6 ⟨_,rfl,l0,ho⟩
 have k8:=(bln a8 a9).size
 have c0:=Zh ho k8
 unfold Np at c0
 rw[show((l.drop 8).take 244).length=244 from by have:=ask1 a4;simp;omega] at c0
 obtain⟨p,c3,rfl⟩:=(Zf c0).slice
 have h4:=bln d0 l0
 exact xe 5 (.tuple #[.slice p 244 c3,V0 0]) (.inr ⟨by simp[Vb,c7,a4,f6,i7,j2,j3],_,_,rfl,h4,c0⟩)
end Go.Proofs.YtceeiinepijokaaGreat
namespace Go.Proofs.YtceeiinepijokaaGreat
set_option maxHeartbeats 8000000
set_option maxRecDepth 100000
open Go.RowKit Go.Extern.Stop Go.Stop Go.Extern
set_option linter.unusedVariables false
attribute [local irreducible] wpList wpAnyH Code.wp Oper.wp Go
section
variable {P:Program} {a:Act}
end
theorem Get_okN(a:O0)(n c k w:Nat)(ki wi:Int)(l:Bl)(W:World)(hn:l.length=n)(hki:ki=(k:Int))(hwi:wi=(w:Int))(hw:w=1∨w=2∨w=4)(hk:k+w≤n)(hl:n≤100000000)(h:Bys W (.slice a n c) l) :
 C0 78 #[.slice a n c,V0 ki,V0 wi] W (Ret (.tuple #[V0 (Zm l k w:Int),V0 0]) W):=by
 subst hn hki hwi;exact Zgh a c k w l W (by omega) hk hl h (by have:=Vk l k w (by omega);omega)
theorem Zgb(n k:Nat)(hn:n<9223372036854775808)(hk:0<k):IntKind.i64.wrap (Int.tdiv (n:Int) (k:Int))=((n/k:Nat):Int):=by
 rw[Int.tdiv_eq_ediv_of_nonneg (Int.natCast_nonneg _),←Int.natCast_ediv]
 exact Bt (Nat.lt_of_le_of_lt (Nat.div_le_self _ _) hn)
theorem tmod_natB(n k:Nat):Int.tmod (n:Int) (k:Int)=((n%k:Nat):Int):=by
 rw[Int.tmod_eq_emod_of_nonneg (Int.natCast_nonneg _),←Int.natCast_emod]
end Go.Proofs.YtceeiinepijokaaGreat
namespace Go.Proofs.YtceeiinepijokaaGreat
set_option maxHeartbeats 8000000
set_option maxRecDepth 100000
open Go.RowKit
theorem Blk.ty{w:World}{b:Nat}{cs cs':List Value}{t t':TypeId}(k:Blk w b cs t)(q:Blk w b cs' t'):t=t':=by
 have h1:w.heap[b]? = some (.cells cs.toArray t (0,0)):=k
 have h2:w.heap[b]? = some (.cells cs'.toArray t' (0,0)):=q
 rw[h1] at h2
 simp only[Option.some.injEq,Obj.cells.injEq] at h2
 exact h2.2.1
theorem Va.upd{w W:World}{b:Nat}{cs:List Value}{t:TypeId}{l:List (Option Int)}{c:Option Int}{v:Value}(h:Va w l c v)(u:Upd w b W)(k:Blk w b cs t)(hne:t≠258):Va W l c v :=
 h.kept fun _ _ q=>u.blk q (by rintro rfl;exact hne (k.ty q))
theorem Va.grown{w W:World}{e:TypeId}{base size n:Nat}{s:Value}{xs:List Value}{l:List (Option Int)}{c:Option Int}{v:Value}(h:Va w l c v)(hg:w.grownBy W s.ownBlock)(hown:w.ownsRow base e size s n xs)(hne:e≠258):Va W l c v :=
 h.kept fun _ _ q=>q.grown hg hown hne
theorem Va.only{T:List TypeId}{w W:World}{l:List (Option Int)}{c:Option Int}{v:Value}(h:Va w l c v)(k:Zd T w W)(hne:T.contains 258=false):Va W l c v:=h.kept fun _ _ q=>q.only k hne
end Go.Proofs.YtceeiinepijokaaGreat
namespace Go.Proofs.YtceeiinepijokaaGreat
set_option maxHeartbeats 8000000
set_option maxRecDepth 100000
open Go.RowKit Go.Extern.Stop Go.Stop Go.Extern
set_option linter.unusedVariables false
attribute [local irreducible] wpList wpAnyH Code.wp Oper.wp Go
structure ImgR(B b:Nat)(p:Option Addr)(n c:Nat)(l:List UInt8)(w:World):Prop where
 blk:Blk w b [.slice p n c] 59
 row:w.ownsRow B 5 1 (.slice p n c) n (l.map bv)
 hn:n≤3686400
theorem ImgR.below{B b:Nat}{p:O0}{n c:Nat}{l:Bl}{w W:World}(h:ImgR B b p n c l w)(hb:B3 w W):ImgR B b p n c l W:=⟨h.blk.below hb,Zb h.row hb,h.hn⟩
theorem ImgR.only{B b:Nat}{p:O0}{n c:Nat}{l:Bl}{w W:World}{T:List TypeId}(h:ImgR B b p n c l w)(hO:Zd T w W)(hT:T.contains 59=false∧T.contains 5=false):ImgR B b p n c l W:=⟨h.blk.only hO hT.1,Zi h.row hO hT.2,h.hn⟩
theorem ImgR.len{B b:Nat}{p:O0}{n c:Nat}{l:Bl}{w:World}(h:ImgR B b p n c l w):l.length=n:=by have:=h.row.1;simpa using this
theorem ImgR.base{B b:Nat}{p:O0}{n c:Nat}{l:Bl}{w:World}(h:ImgR B b p n c l w)(hn:0<n):∃ g,p=some ⟨g,0,none⟩∧n≤c:=by
 rcases h.row.2 with ⟨_,h0⟩|⟨g,a1,a0,hv,_,_,hc,_⟩
 ·omega
 ·simp only[Value.slice.injEq] at hv
  obtain⟨rfl,_,rfl⟩:=hv
  exact⟨g,rfl,hc⟩
def Km(l:Bl)(j:Nat):Bl:=(l.drop (j*256)).take 256
theorem Hd{l:Bl}{j:Nat}(h:j<l.length/256):(Km l j).length=256:=by simp[Km];omega
theorem Bys.mid{w:World}{g off n c:Nat}{l:Bl}(h:Bys w (.slice (some ⟨g,off,none⟩) n c) l)(hl:l.length=n)(k m:Nat)(hm:0<m)(hk:k+m≤n):Bys w (.slice (some ⟨g,off+k,none⟩) m m) ((l.drop k).take m):=by
 have a0:((l.drop k).take m).length=m:=by simp;omega
 rcases h with ⟨a',c',h1,h2,h3⟩|⟨g',a1,a2,h1,h2,h3,h4⟩
 ·omega
 ·simp only[Value.slice.injEq,Option.some.injEq,Addr.mk.injEq] at h1
  obtain⟨⟨rfl,rfl,_⟩,_,rfl⟩:=h1
  refine .inr ⟨g,off+k,m,by rw[a0],by omega,by omega,fun j x hj=>?_⟩
  rw[List.getElem?_map,List.getElem?_take] at hj
  split at hj
  ·rw[List.getElem?_drop] at hj
   have:=h4 (k+j) x (by rw[List.getElem?_map];exact hj)
   rwa [←Nat.add_assoc] at this
  ·cases hj
theorem ImgR.part{B b g:Nat}{n c:Nat}{l:Bl}{w:World}(h:ImgR B b (S1 g) n c l w){j:Nat}(hj:j<n/256):Bys w (.slice (some ⟨g,j*256,none⟩) 256 256) (Km l j):=by
 have:=Bys.mid (Qu (Zf h.row) h.len) h.len (j*256) 256 (by decide) (by omega)
 rwa [Nat.zero_add] at this
def ReadP(n:Nat)(l:Bl)(k:Int)(w:World)(e:Ending)(w':World):Prop :=
 (¬ (0≤k∧k<(n/256:Nat))∧∃ v,e=.returned (.tuple #[v,V0 3])∧B3 w w') ∨
 (∃ j:Nat,k=(j:Int)∧j<n/256∧∃ p c,e=.returned (.tuple #[.slice p 256 c,V0 0])∧B3 w w'∧w'.ownsRow w.heap.size 5 1 (.slice p 256 c) 256 ((Km l j).map bv))
theorem Sc(b:Nat)(p:O0)(n c:Nat)(k:Int)(w:World)(hk:Blk w b [.slice p n c] 59)(hn:n≤100000000)(ho:¬ (0≤k∧k<(n/256:Nat))) :
 C0 134 #[P0 b,V0 k] w (Ret (.tuple #[S0,V0 3]) w):=by
 refine zin 33 Tryz.func134 ?_
 refine xg 21 [13,14] (decide (k<(0:Int))) (fun a0=>?_) (fun a0=>?_)
 ·have a0:=of_decide_eq_true a0
  exact xe 18 (.tuple #[S0,V0 3]) ⟨rfl,(B4 w)⟩
 have a0:=of_decide_eq_false a0
 refine xr 2 (args:=#[P0 b]) (Yl b _ n c _ (hk.below (B4 w)) hn) fun W2 a1=>?_
 refine xk 5 (show(decide (k≥(↑(n/256):Int)):Bool)=true from decide_eq_true (by omega)) ?_
 exact xe 9 (.tuple #[S0,V0 3]) ⟨rfl,a1⟩
theorem Tp(B b:Nat)(p:O0)(n c:Nat)(l:Bl)(k:Int)(w:World)(hI:ImgR B b p n c l w)(ho:¬ (0≤k∧k<(n/256:Nat))) :
 C0 73 #[P0 b,V0 k] w (Vo (fun _ r=>∃ v,r=.tuple #[v,V0 3]) w):=by
 refine zin 17 Tryz.func73 ?_
 refine xr 10 (args:=#[P0 b,V0 k]) (Sc b p n c k _ (hI.below (B4 w)).blk (by have:=hI.hn;omega) ho) fun W1 a1=>?_
 refine xc 10 (args:=#[S0]) (Zcv 0 _) ?_
 rintro _ W2 ⟨v2,rfl,a0,_⟩
 have hB:=bln a1 a0
 exact xe 6 (.tuple #[v2,V0 3]) ⟨_,rfl,hB,_,rfl⟩
theorem Ol(B b g:Nat)(n c:Nat)(l:Bl)(j:Nat)(w:World)(hI:ImgR B b (S1 g) n c l w)(hj:j<n/256)(hc:n≤c) :
 C0 73 #[P0 b,V0 (j:Int)] w (Vo (fun w' r=>∃ p2 c3,r=.tuple #[.slice p2 256 c3,V0 0]∧w'.ownsRow w.heap.size 5 1 (.slice p2 256 c3) 256 ((Km l j).map bv)) w):=by
 have a3:=Hd (l:=l) (j:=j) (by rw[hI.len];exact hj)
 refine zin 17 Tryz.func73 ?_
 refine xr 10 (args:=#[P0 b,V0 (j:Int)]) (Rc b g n c j _ (hI.below (B4 w)).blk (by have:=hI.hn;omega) hc hj) fun W1 a2=>?_
 refine xc 10 (args:=#[.slice (some ⟨g,(j*256),none⟩) 256 256]) (Ve (some ⟨g,(j*256),none⟩) 256 256 (Km l j) _ a3 ((hI.below a2).part hj) (by decide)) ?_
 rintro _ W2 ⟨_,rfl,a4,ho⟩
 have a0:=Zh ho a2.size
 unfold Np at a0
 rw[a3] at a0
 obtain⟨p2,c3,rfl⟩:=(Zf a0).slice
 have a1:=bln a2 a4
 exact xe 6 (.tuple #[.slice p2 256 c3,V0 0]) ⟨_,rfl,a1,_,_,rfl,a0⟩
theorem Tu(B b:Nat)(p:O0)(n c:Nat)(l:Bl)(k:Int)(w:World)(hI:ImgR B b p n c l w) :
 C0 73 #[P0 b,V0 k] w (ReadP n l k w):=by
 by_cases h:0≤k∧k<(n/256:Nat)
 ·obtain⟨g,rfl,hc⟩:=hI.base (by omega)
  obtain⟨j,rfl⟩:∃ j:Nat,k=j:=⟨k.toNat,by omega⟩
  refine(Ol B b g n c l j w hI (by omega) hc).mono ?_
  rintro e W ⟨_,rfl,hb,p2,c3,rfl,ho⟩
  exact .inr ⟨j,rfl,by omega,_,_,rfl,hb,ho⟩
 ·refine(Tp B b p n c l k w hI h).mono ?_
  rintro e W ⟨_,rfl,hb,v,rfl⟩
  exact .inl ⟨h,_,rfl,hb⟩
def inE (l:Bl)(kind no:Int):Int:=if 0≤no∧no<(l.length/256:Nat) then Vb kind no (Km l no.toNat) else 3
def inB (l:Bl)(no:Int):Bl:=((Km l no.toNat).drop 8).take 244
theorem Zaj{l:Bl}{kind no:Int}{n:Nat}(hl:l.length=n)(h:¬ (0≤no∧no<(n/256:Nat))):inE l kind no=3:=by subst hl;exact if_neg h
theorem Zgp{l:Bl}{kind no:Int}{n j:Nat}(hl:l.length=n)(hk:no=(j:Int))(h:j<n/256):inE l kind no=Vb kind no (Km l j):=by
 subst hl hk;rw[inE,if_pos ⟨by omega,by omega⟩];rfl
theorem Zgc{l:Bl}{no:Int}{j:Nat}(hk:no=(j:Int)):inB l no=((Km l j).drop 8).take 244:=by subst hk;rfl
theorem inB_len{l:Bl}{no:Int}{n j:Nat}(hl:l.length=n)(hk:no=(j:Int))(h:j<n/256):(inB l no).length=244:=by
 subst hl hk;have:=Hd h;simp[inB,this]
theorem Zat{l l':Bl}(h:l.length=l'.length)(h2:∀ j,j<l.length→l.getD j 0=l'.getD j 0):l=l':=by
 apply List.ext_getElem h
 intro j h3 h4
 have:=h2 j h3
 simpa [List.getD,h3,h4] using this
theorem Gl{l:Bl}{k:Nat}{x:Bl}(h:k+x.length≤l.length)(j:Nat):(Kn l k x).getD j 0=if k≤j∧j<k+x.length then x.getD (j-k) 0 else l.getD j 0:=by
 unfold Kn
 simp only[List.getD]
 rw[List.append_assoc,List.getElem?_append,List.getElem?_append]
 have e:(l.take k).length=k:=by simp;omega
 rw[e]
 by_cases h1:j<k
 ·rw[if_pos h1,if_neg (by omega),List.getElem?_take,if_pos h1]
 ·rw[if_neg h1]
  by_cases h2:j-k<x.length
  ·rw[if_pos h2,if_pos (by omega)]
  ·rw[if_neg h2,if_neg (by omega),List.getElem?_drop,show k+x.length+(j-k-x.length)=j by omega]
theorem Tz{l l':Bl}:∀ (w k:Nat),(∀ j,k≤j→j<k+w→l.getD j 0=l'.getD j 0)→Zm l k w=Zm l' k w
 | 0,k,h=>rfl
 | w+1,k,h=>by rw[Zm,Zm,h k (by omega) (by omega),Tz w (k+1) fun j h1 h2=>h j (by omega) (by omega)]
theorem Pz{l:Bl}:∀ (w k m:Nat),(∀ i,i<w→l.getD (k+i) 0=UInt8.ofNat (m/256 ^ i))→Zm l k w=m%256 ^ w
 | 0,k,m,h=>by simp[Zm,Nat.mod_one]
 | w+1,k,m,h=>by
  have h0:=h 0 (by omega)
  simp only[Nat.add_zero,Nat.pow_zero,Nat.div_one] at h0
  have h1:=Pz (l:=l) w (k+1) (m/256) fun i hi=>by
   have:=h (i+1) (by omega)
   rw[Nat.pow_succ,Nat.mul_comm,←Nat.div_div_eq_div_mul] at this
   rw[show k+1+i=k+(i+1) by omega];exact this
  rw[Zm,h0,h1,Nat.pow_succ,Nat.mul_comm (256 ^ w) 256,Nat.mod_mul]
  congr 1
theorem On{l:Bl}{k w:Nat}{n:Int}(h:k+w≤l.length)(h0:0≤n)(hb:n.toNat<256 ^ w):(Zm (Kn l k (leB n w)) k w:Int)=n:=by
 rw[Pz w k n.toNat,Nat.mod_eq_of_lt hb]
 ·omega
 ·intro i hi
  rw[Gl (by rw[Zj];exact h),if_pos (by rw[Zj];omega),show k+i-k=i by omega]
  simp[leB,Xa,List.getD,List.getElem?_range hi]
theorem Yw{l x:Bl}{k j w:Nat}(h:k+x.length≤l.length)(hd:j+w≤k∨k+x.length≤j):Zm (Kn l k x) j w=Zm l j w :=
 Tz w j fun i h1 h2=>by rw[Gl h,if_neg (by omega)]
theorem rawN_zero{l:Bl}{k w:Nat}(h:∀ j,k≤j→j<k+w→l.getD j 0=0):Zm l k w=0:=by
 have:=Pz (l:=l) w k 0 fun i hi=>by rw[h (k+i) (by omega) (by omega)];simp
 simpa using this
theorem sumB_put{l x:Bl}{kind:Int}(h:252≤l.length):Zde (Kn l 252 x) kind=Zde l kind:=by
 unfold Zde Kn
 rw[List.append_assoc,List.take_append_of_le_length (by simp;omega),List.take_take];rfl
theorem Rv(n j:Nat):(List.replicate n (0:UInt8)).getD j 0=0:=by
 simp[List.getD,List.getElem?_replicate];split<;>rfl
def Zda(li:Bl):Bl:=li++List.replicate (244-li.length) 0
theorem Zcd{kind no:Int}{li:Bl}(h1:1≤kind)(h2:kind≤4)(h3:0≤no)(h4:no<14400)(hl:li.length≤244):Vb kind no (Yf kind no li)=0:=by
 have l1:=Gz hl
 have l2:=Uc (no:=no) hl
 have l3:=Jb (kind:=kind) (no:=no) hl
 have l4:=Vd (kind:=kind) (no:=no) hl
 have a0:Ny kind no (Yf kind no li) 0=false:=by simp only[Ny];rw[show Dn kind no=true from decide_eq_true (by omega)];rfl
 have a1:Ny kind no (Yf kind no li) 1=false:=by simp only[Ny,l4];rfl
 have a2:Ny kind no (Yf kind no li) 2=false:=by
  have hs:Zde (Yf kind no li) kind=Zde (Nk kind no li) kind:=by unfold Yf;exact sumB_put (by omega)
  have hr:(Zm (Yf kind no li) 252 4:Int)=(Zde (Nk kind no li) kind:Int):=by
   unfold Yf
   exact On (by omega) (by omega) (by have:=sumB_lt (Nk kind no li) kind;simpa using this)
  simp only[Ny,hr,hs];simp
 have a3:Ny kind no (Yf kind no li) 3=false:=by
  have hr:(Zm (Yf kind no li) 0 4:Int)=no:=by
   unfold Yf
   rw[Yw (by rw[Zj];omega) (.inl (by omega))]
   unfold Nk
   rw[Yw (by rw[Zj];omega) (.inl (by omega))]
   unfold Zd1
   exact On (by omega) (by omega) (by omega)
  simp only[Ny,hr];simp
 have a4:Ny kind no (Yf kind no li) 4=false:=by
  have hr:(Zm (Yf kind no li) 4 2:Int)=kind:=by
   unfold Yf
   rw[Yw (by rw[Zj];omega) (.inl (by omega))]
   unfold Nk
   exact On (by omega) (by omega) (by omega)
  simp only[Ny,hr];simp
 have a5:Ny kind no (Yf kind no li) 5=false:=by
  have hr:Zm (Yf kind no li) 6 2=0:=by
   unfold Yf
   rw[Yw (by rw[Zj];omega) (.inl (by omega))]
   unfold Nk
   rw[Yw (by rw[Zj];omega) (.inr (by rw[Zj];omega))]
   unfold Zd1
   rw[Yw (by rw[Zj];omega) (.inr (by rw[Zj];omega))]
   unfold Za9
   rw[Yw (by rw[List.length_replicate];omega) (.inl (by omega))]
   exact rawN_zero fun j _ _=>Rv 256 j
  simp only[Ny,hr];rfl
 simp[Vb,a0,a1,a2,a3,a4,a5]
theorem in_seal{kind no:Int}{li:Bl}(hl:li.length≤244):((Yf kind no li).drop 8).take 244=Zda li:=by
 have l1:=Gz hl
 have l2:=Uc (no:=no) hl
 have l3:=Jb (kind:=kind) (no:=no) hl
 have l4:=Vd (kind:=kind) (no:=no) hl
 apply Zat
 ·simp[Zda,l4];omega
 ·intro j hj
  have a0:j<244:=by simp[l4] at hj;omega
  have e:(((Yf kind no li).drop 8).take 244).getD j 0=(Yf kind no li).getD (8+j) 0:=by
   simp only[List.getD];rw[List.getElem?_take,if_pos a0,List.getElem?_drop]
  rw[e]
  unfold Yf
  rw[Gl (by rw[Zj];omega),if_neg (by rw[Zj];omega)]
  unfold Nk
  rw[Gl (by rw[Zj];omega),if_neg (by rw[Zj];omega)]
  unfold Zd1
  rw[Gl (by rw[Zj];omega),if_neg (by rw[Zj];omega)]
  unfold Za9
  rw[Gl (by rw[List.length_replicate];omega),Rv]
  unfold Zda
  simp only[List.getD]
  rw[List.getElem?_append]
  by_cases h:j<li.length
  ·rw[if_pos ⟨by omega,by omega⟩,if_pos h,show 8+j-8=j by omega]
  ·rw[if_neg (by omega),if_neg h]
   have:=Rv (244-li.length) (j-li.length)
   simp only[List.getD] at this
   exact this.symm
theorem Ez{l x:Bl}{k:Nat}(hx:x.length=256)(hk:k<l.length/256):Km (Kn l (k*256) x) k=x:=by
 have a0:k*256+256≤l.length:=by omega
 have hp:=Qt (l:=l) (k:=k*256) (x:=x) (by omega)
 apply Zat
 ·rw[Hd (by rw[hp];exact hk),hx]
 ·intro j hj
  rw[Hd (by rw[hp];exact hk)] at hj
  have e:(Km (Kn l (k*256) x) k).getD j 0=(Kn l (k*256) x).getD (k*256+j) 0:=by
   simp only[Km,List.getD];rw[List.getElem?_take,if_pos hj,List.getElem?_drop]
  rw[e,Gl (by omega),if_pos (by omega),show k*256+j-k*256=j by omega]
theorem Vy{l x:Bl}{k i:Nat}(hx:x.length=256)(hk:k<l.length/256)(hne:i≠k)(hi:i<l.length/256):Km (Kn l (k*256) x) i=Km l i:=by
 have a0:k*256+256≤l.length:=by omega
 have hp:=Qt (l:=l) (k:=k*256) (x:=x) (by omega)
 apply Zat
 ·rw[Hd (by rw[hp];exact hi),Hd hi]
 ·intro j hj
  rw[Hd (by rw[hp];exact hi)] at hj
  have e:∀ l:Bl,(Km l i).getD j 0=l.getD (i*256+j) 0:=fun l=>by
   simp only[Km,List.getD];rw[List.getElem?_take,if_pos hj,List.getElem?_drop]
  rw[e,e,Gl (by omega),if_neg (by omega)]
theorem Yr(k:Nat):Builtin.zeroCells #[Value.int .u8 0] k=(List.replicate k (Value.int .u8 0)).toArray:=by
 apply Array.ext'
 unfold Builtin.zeroCells
 simp only[List.size_toArray,List.length_cons,List.length_nil,Nat.zero_add,Nat.mul_one,Nat.mod_one]
 rw[Array.toList_map]
 simp only[Array.toList_range]
 apply List.ext_getElem?
 intro i
 simp only[List.getElem?_map,List.getElem?_replicate]
 by_cases h:i<k
 ·rw[List.getElem?_range h,if_pos h];rfl
 ·rw[if_neg h,List.getElem?_eq_none (by simpa using h)];rfl
theorem Wy{P:Program}(w:World)(t tn ty e:TypeId)(i:TypeInfo)(kq kn:IntKind)(ht:P.underlying t=some (.slice e))(htn:P.underlying tn=some (.int kn))(hi:P.info? e=some i)(hz:i.zero=some (.int .u8 0))(hs1:i.size=1)(hb1:i.bytes=1)
 (g n c k:Nat) (cur:Array Value) (hg:w.heap[g]? = some (.cells cur e (0,0))) (h0:0<k) (hroom:n+k≤c) (hfit:n+k≤cur.size) (hk:n+k≤1000000) :
 (Builtin.append_ #[t,tn] ty #[.slice (S1 g) n c,.int kq k]).run P w =
 .ok (.slice (S1 g) (n+k) c) (w.setRow g (cur.toList.take n++List.replicate k (Value.int .u8 0)++cur.toList.drop (n+k)).toArray):=by
 have a3:k≠0:=by omega
 have hw:IntKind.i64.wrap (k:Int)=k:=by rw[IntKind.wrap_i64];omega
 have a1:¬ (281474976710656<(k:Int)):=by omega
 have a0:¬ ((k:Int)<0):=by omega
 have a2:=run_storeCells_at P g n e (List.replicate k (.int .u8 0)) 0 cur w hg (by simpa using hfit) (by intro u hu;rw[(List.mem_replicate.1 hu).2];rfl)
 simp only[Nat.add_zero,List.length_replicate] at a2
 simp[Builtin.append_,run_underlying ht,run_underlying htn,sizeOf,typeInfo,zeroValue,hi,hz,hs1,hb1,asInt,asIntOf,hw,a0,a1,a3,hroom,Addr.add_lit,show(Value.int IntKind.u8 0).cells=#[Value.int .u8 0] from rfl,Yr,a2]
theorem op_appZo{P:Program}{a:Act}{w:World}{K:Act→World→Prop}{Q:Exit→Act→World→Prop}{o:Oper}{s x:Operand}{t tn e:TypeId}{kq kn:IntKind}{base:Nat}{v:Value}{n:Nat}{xs:List Value}(k n':Nat)(xs':List Value)
 (ho:o.op=.call { callee:=.builtin .append,args:=#[s,x],argTypes:=#[t,tn] }) (ht:P.underlying t=some (.slice e)) (htn:P.underlying tn=some (.int kn)) (hi:(P.info? e).map (fun i=>(i.zero,i.size,i.bytes))=some (some (.int .u8 0),1,1))
 (hs:a.eval s=v) (hown:w.ownsRow base e 1 v n xs) (hx:a.eval x=.int kq (k:Int)) (h0:0<k) (hk:n+k≤1000000) (hbase:base≤w.heap.size) (hn:n+k=n') (hxs:xs++List.replicate k (.int .u8 0)=xs')
 (h:∀ b c' W,W.ownsRow base e 1 (.slice b n' c') n' xs'→w.grownBy W v.ownBlock→Below base w W→K (a.put o.dst (.slice b n' c')) W):o.wp P a w K Q:=by
 subst hn hxs
 cases hq:P.info? e with
 | none=>simp[hq] at hi
 | some i =>
  simp only[hq,Option.map_some,Option.some.injEq,Prod.mk.injEq] at hi
  obtain⟨hz,h1,h2⟩:=hi
  have a5:xs.length=n:=by simpa using hown.1
  have a0:(xs++List.replicate k (Value.int .u8 0)).length=(n+k)*1:=by simp[a5]
  rcases hown.2 with ⟨rfl,rfl⟩|⟨g,c,a1,rfl,b2,hg,b4,a4,b1,a3⟩
  ·obtain rfl:xs=[]:=List.eq_nil_of_length_eq_zero a5
   have hr:=Lib.run_append_nil_zeros (P:=P) w t tn o.type e i (.int .u8 0) kq kn ht htn hq hz k h0 (by omega) (by omega) (by rw[h2];omega)
   unfold Oper.wp execOp
   simp only[ho,resolve,invoke,builtin,Sem.run_bind,Sem.run_pure,Result.andThen_ok,List.map_toArray,List.map_cons,List.map_nil,hs,hx,hr]
   have a6:=grownCap_ge w k 0 e
   have a4:grownCap w k 0 e≤maxLen:=grownCap_le_maxLen w k 0 e (by unfold maxLen;omega)
   simp only[Nat.zero_add,List.nil_append] at h
   refine h _ _ _ ⟨by simp,.inr ⟨w.heap.size,_,_,rfl,hbase,heap_alloc_new w.drew _,a6,a4,?_,?_⟩⟩ ⟨rfl,rfl,rfl,by simp,fun k hk _=>by first|exact heap_alloc_old w.drew _ k hk|exact heap_alloc_old w.drew _ hk⟩ (((Za w).trans (show Below w.drew.heap.size w.drew _ from blx w.drew _)).mono hbase)
   ·rw[show(Value.int .u8 0).cells=#[Value.int .u8 0] from rfl,Yr,Yr];simp;omega
   ·rw[show(Value.int .u8 0).cells=#[Value.int .u8 0] from rfl,Yr,Yr]
    simp only[Array.toList_append,Nat.mul_one]
    exact List.take_left' (by simp)
  by_cases hroom:n+k≤c
  ·have b3:a1.size=c:=by simpa using b1
   have hr:=Wy (P:=P) w t tn o.type e i kq kn ht htn hq hz h1 h2 g n c k a1 hg h0 hroom (by omega) hk
   unfold Oper.wp execOp
   simp only[ho,resolve,invoke,builtin,Sem.run_bind,Sem.run_pure,Result.andThen_ok,List.map_toArray,List.map_cons,List.map_nil,hs,hx,hr]
   have a8:w.grownBy (w.setRow g (a1.toList.take n++List.replicate k (Value.int .u8 0)++a1.toList.drop (n+k)).toArray) (Value.ownBlock (.slice (S1 g) n c)):=⟨rfl,rfl,rfl,by simp,fun k' _ b0=>setRow_other w g k' _ (fun e=>b0 (by simp[Value.ownBlock,e]))⟩
   refine h _ _ _ ⟨a0,.inr ⟨g,c,_,rfl,b2,setRow_heap w g a1 _ e _ hg,hroom,a4,?_,?_⟩⟩ a8 (Kx a8 hown (Nat.le_refl _) hbase)
   ·simp only[List.size_toArray,List.length_append,List.length_take,List.length_drop,Array.length_toList,List.length_replicate]
    omega
   ·have a9:a1.toList.take n=xs:=by simpa using a3
    rw[a9,←a0]
    exact List.take_left
  ·have a2:∀ j u,xs[j]? = some u→w.cell? ((⟨g,0,none⟩:Addr).add j)=some u:=hown.cells (g:=g) rfl
   have a7:=run_firstCells_some (P:=P) (w:=w.drew) i.size n ⟨g,0,none⟩ n c xs (by rw[a5,h1,Nat.mul_one]) (by simpa using a2)
   have hr:=Lib.run_append_grow_zeros (P:=P) w t tn o.type e i (.int .u8 0) kq kn ht htn hq hz (S1 g) n c xs a7 k h0 (by omega) (by omega) (by omega) (by rw[h2];omega) (by rw[h2];exact growslice_fits (by omega) (by omega))
   unfold Oper.wp execOp
   simp only[ho,resolve,invoke,builtin,Sem.run_bind,Sem.run_pure,Result.andThen_ok,List.map_toArray,List.map_cons,List.map_nil,hs,hx,hr]
   have a6:=grownCap_ge w (n+k) c e
   have a4:grownCap w (n+k) c e≤maxLen:=grownCap_le_maxLen w (n+k) c e (by unfold maxLen;omega)
   refine h _ _ _ ⟨a0,.inr ⟨w.heap.size,_,_,rfl,hbase,heap_alloc_new w.drew _,a6,a4,?_,?_⟩⟩ ⟨rfl,rfl,rfl,by simp,fun k hk _=>by first|exact heap_alloc_old w.drew _ k hk|exact heap_alloc_old w.drew _ hk⟩ (((Za w).trans (show Below w.drew.heap.size w.drew _ from blx w.drew _)).mono hbase)
   ·rw[show(Value.int .u8 0).cells=#[Value.int .u8 0] from rfl,Yr,Yr];simp[a5];omega
   ·rw[show(Value.int .u8 0).cells=#[Value.int .u8 0] from rfl,Yr,Yr]
    simp only[Array.toList_append,List.append_assoc]
    rw[←List.append_assoc,←a0]
    exact List.take_left
end Go.Proofs.YtceeiinepijokaaGreat
namespace Go.Proofs.YtceeiinepijokaaGreat
set_option maxHeartbeats 8000000
set_option maxRecDepth 100000
open Go.RowKit Go.Extern.Stop Go.Stop Go.Extern
set_option linter.unusedVariables false
section
variable {P:Program} {Q:Exit→Act→World→Prop} {a:Act} {w:World} {K:Act→World→Prop}
theorem Zgv{o:Oper}{d x:Operand}{dT sT e:TypeId}{base g off n cap dLen dCap:Nat}{xs:List Value}(l:Bl)(xs':List Value)(ho:o.op=.call { callee:=.builtin .copy,args:=#[d,x],argTypes:=#[dT,sT] })(hu:P.underlying dT=some (.slice e))(hsz:(P.info? e).map (·.size)=some 1)
 (hd:a.eval d=.slice (some ⟨g,off,none⟩) dLen dCap) (hs:a.eval x=.string ⟨l.toArray⟩) (hown:w.ownsRow base e 1 (.slice (S1 g) n cap) n xs) (hm:l.length≤dLen) (hfit:off+l.length≤n)
 (hbase:base≤w.heap.size) (hxs:xs.take off++l.map bv++xs.drop (off+l.length)=xs')
 (h:∀ W,W.ownsRow base e 1 (.slice (S1 g) n cap) n xs'→w.grownBy W (Value.slice (S1 g) n cap).ownBlock→Below base w W→K (a.put o.dst (V0 (l.length:Int))) W):o.wp P a w K Q:=by
 obtain⟨hl,hr⟩:=hown
 rcases hr with ⟨hv,_⟩|⟨g2,b3,a1,hv,a6,hh,a5,a8,a4,a7⟩
 ·cases hv
 simp only[Value.slice.injEq,Option.some.injEq,Addr.mk.injEq] at hv
 obtain⟨⟨rfl,_,_⟩,_,rfl⟩:=hv
 have b2:xs.length=n:=by simpa using hl
 have a3:a1.toList.length=cap:=by simpa using a4
 have a9:(l.map bv).length=l.length:=by simp
 have b0:∀ W,W.heap[g]? = some (.cells (a1.toList.take off++l.map bv++a1.toList.drop (off+l.length)).toArray e (0,0))→w.grownBy W (some g)→K (a.put o.dst (V0 (l.length:Int))) W:=by
  intro W hW hg
  refine h W ⟨?_,.inr ⟨g,cap,_,rfl,a6,hW,a5,a8,?_,?_⟩⟩ hg (Kx (v:=.slice (S1 g) n cap) hg ⟨hl,.inr ⟨g,cap,a1,rfl,a6,hh,a5,a8,a4,a7⟩⟩ (Nat.le_refl _) hbase)
  ·rw[←hxs];simp;omega
  ·simp only[List.size_toArray,List.length_append,List.length_take,List.length_drop,a3,Nat.mul_one,a9];omega
  ·have hA:(a1.toList.take off++l.map bv).length=off+l.length:=by simp only[List.length_append,List.length_take,a3,a9];omega
   rw[←hxs,←a7]
   simp only[Nat.mul_one]
   rw[List.take_append,List.take_of_length_le (by rw[hA];omega),hA,List.take_take,Nat.min_eq_left (by omega:off≤n),List.drop_take]
 have a0:(⟨l.toArray⟩:ByteArray).size=l.length:=by show l.toArray.size=l.length;simp
 have a2:=Go.Lib.run_copy_row_string (P:=P) w dT sT o.type e g off dLen dCap ⟨l.toArray⟩ a1 e hu hsz hh (by rw[a0];exact hm) (by rw[a0,a4];omega)
 rw[a0] at a2
 have b1:Go.Lib.byteCells (⟨l.toArray⟩:ByteArray).data.toList=l.map bv:=rfl
 rw[b1] at a2
 have h2:(execOp a.eval o).run P w=.ok (.value (V0 (l.length:Int))) (w.setRow g (a1.toList.take off++l.map bv++a1.toList.drop (off+l.length)).toArray):=by
  simp[execOp,ho,resolve,invoke,builtin,hd,hs,a2,Result.andThen,goInt]
 exact Ug h2 (b0 _ (setRow_heap w g _ _ e _ hh) ⟨rfl,rfl,rfl,by simp,fun k _ hk=>setRow_other w g k _ (fun e=>hk (by rw[e]))⟩)
theorem Sl.head{b:O0}{n c:Nat}{xs:List Value}(h:Sl w (.slice b n c) n xs)(hn:xs.length=n)(m:Nat)(hm:m≤n):Sl w (.slice b m c) m (xs.take m):=by
 rcases h with ⟨a',c',h1,h2,h3⟩|⟨b',a1,a2,h1,h2,h3,h4⟩
 ·obtain rfl:m=0:=by omega
  simp only[Value.slice.injEq] at h1
  exact .inl ⟨b,c,rfl,rfl,by simp⟩
 ·simp only[Value.slice.injEq] at h1
  obtain⟨rfl,_,rfl⟩:=h1
  refine .inr ⟨b',a1,c,rfl,by omega,h3,fun j x hj=>h4 j x ?_⟩
  have a0:j<m:=by have:=(List.getElem?_eq_some_iff.1 hj).1;simp at this;omega
  rwa [List.getElem?_take_of_lt a0] at hj
def sv (l:Bl):Value:=.string ⟨l.toArray⟩
theorem Strs.elem{b:O0}{n c:Nat}{V:List Bl}(h:Sl w (.slice b n c) n (V.map sv))(hl:V.length=n){k:Nat}(hk:k<n):b.isSome=true∧w.cell? (Zo b (k*1))=some (.string ⟨(V.getD k []).toArray⟩):=by
 rcases h with ⟨a',c',h1,h2,h3⟩|⟨b',a0,a1,h1,h2,h3,h4⟩
 ·omega
 ·simp only[Value.slice.injEq] at h1
  obtain⟨rfl,_,rfl⟩:=h1
  refine⟨rfl,?_⟩
  have:=h4 k (sv (V.getD k [])) (by simp[List.getD,List.getElem?_eq_getElem (show k<V.length by omega)])
  rw[Nat.mul_one]
  show w.cell? ((⟨b',a0,none⟩:Addr).add k)=_
  rw[Addr.add_mid]
  exact this
end
end Go.Proofs.YtceeiinepijokaaGreat
namespace Go.Proofs.YtceeiinepijokaaGreat
set_option maxHeartbeats 8000000
set_option maxRecDepth 100000
open Go.RowKit Go.Extern.Stop Go.Stop Go.Extern
set_option linter.unusedVariables false
section
variable {P:Program} {a:Act} {w:World} {K:Act→World→Prop} {Q:Exit→Act→World→Prop}
theorem Zei(l:Bl):Lib.strCells ⟨l.toArray⟩=l.map bv:=by
 unfold Lib.strCells bv
 simp
theorem op_appS{o:Oper}{s x:Operand}{t u e:TypeId}{base:Nat}{v:Value}{n:Nat}{xs:List Value}(l:Bl)(n':Nat)(xs':List Value)(ho:o.op=.call { callee:=.builtin .append,args:=#[s,x],argTypes:=#[t,u] })
 (ht:P.underlying t=some (.slice e)) (hu:P.underlying u=some .string) (hi:(P.info? e).map (fun i=>(i.zero,i.size,i.bytes))=some (some (.int .u8 0),1,1)) (hs:a.eval s=v) (hown:w.ownsRow base e 1 v n xs) (hx:a.eval x=.string ⟨l.toArray⟩)
 (hb:n+l.length≤100000000) (hbase:base≤w.heap.size) (hn:n+l.length=n') (hxs:xs++l.map bv=xs')
 (h:∀ b c W,W.ownsRow base e 1 (.slice b n' c) n' xs'→w.grownBy W v.ownBlock→Below base w W→K (a.put o.dst (.slice b n' c)) W):o.wp P a w K Q:=by
 cases hq:P.info? e with
 | none=>simp[hq] at hi
 | some i =>
  simp only[hq,Option.map_some,Option.some.injEq,Prod.mk.injEq] at hi
  have a0:(⟨l.toArray⟩:ByteArray).size=l.length:=by simp[ByteArray.size]
  obtain⟨v',W,hr,h2,h3,_⟩:=Lib.run_append_own_string (P:=P) w base t u o.type e i ht hu hq hi.1 hi.2.1 hi.2.2 v n xs hown ⟨l.toArray⟩ (by rw[a0];unfold maxLen;omega) (by rw[a0];omega) hbase
  rw[a0,Zei] at h2
  subst hn hxs
  obtain⟨b,c,rfl⟩:=(Zf h2).slice
  unfold Oper.wp execOp
  simp only[ho,resolve,invoke,builtin,Sem.run_bind,Sem.run_pure,Result.andThen_ok,List.map_toArray,List.map_cons,List.map_nil,hs,hx,hr]
  exact h b c W h2 h3 (Kx h3 hown (Nat.le_refl _) hbase)
theorem Zcq(g k:Nat):Zo (S1 g) (k*1)=⟨g,k,none⟩:=by
 simp[Zo,Addr.add];exact fun h=>h.symm
theorem Ur{o:Oper}{t e:TypeId}{x y:Operand}{g n c k base:Nat}{xs:List Value}{v:Value}(ho:o.op=.store t x y)(hx:a.eval x=.pointer (some (Zo (S1 g) (k*1))))(hy:a.eval y=v)
 (hi:(P.info? t).map (·.size)=some 1) (h1:v.oneCell'=true) (hown:w.ownsRow base e 1 (.slice (S1 g) n c) n xs) (hk:k<n)
 (h:∀ W,Upd w g W→W.ownsRow base e 1 (.slice (S1 g) n c) n (xs.set k v)→K (a.put o.dst undef) W):o.wp P a w K Q:=by
 obtain⟨hl,h2⟩:=hown
 rcases h2 with ⟨h2,_⟩|⟨g',a3,a0,hv,hg,hh,hc,hm,a1,a2⟩
 ·cases h2
 ·simp only[Value.slice.injEq,Option.some.injEq,Addr.mk.injEq] at hv
  obtain⟨⟨rfl,_⟩,_,rfl⟩:=hv
  have hb:Blk w g a0.toList e:=by unfold Blk;simpa using hh
  rw[Zcq] at hx
  refine Xf ho hx hy hi h1 hb (by simp;omega) fun W hu hW=>h W hu ⟨by simpa using hl,.inr ⟨g,c,(a0.toList.set k v).toArray,rfl,hg,hW,hc,hm,by simpa using a1,?_⟩⟩
  rw[←a2]
  simp[List.take_set]
end
section
variable {P:Program} {ops:Array Oper} {Q:Exit→Act→World→Prop} {a a':Act} {w:World} {S:World→Prop} {md:Region.Mode} {L L':Array Bool} {fuel:Nat}
end
theorem Dr{w:World}{base e size g n c:Nat}{xs:List Value}(h:w.ownsRow base e size (.slice (S1 g) n c) n xs):base≤g:=(h.lt g rfl).1
theorem Ro{w:World}{base e size g n c:Nat}{xs:List Value}(h:w.ownsRow base e size (.slice (S1 g) n c) n xs):∃ cs,Blk w g cs e:=by
 rcases h.2 with ⟨h2,_⟩|⟨g',a1,a0,hv,hg,hh,_⟩
 ·cases h2
 ·simp only[Value.slice.injEq,Option.some.injEq,Addr.mk.injEq] at hv
  obtain⟨⟨rfl,_⟩,_⟩:=hv
  exact⟨a0.toList,by unfold Blk;simpa using hh⟩
theorem Cc{w:World}{base e size g n c b:Nat}{t:TypeId}{xs cs:List Value}(k:Blk w b cs t)(h:w.ownsRow base e size (.slice (S1 g) n c) n xs)(hne:t≠e):b≠g:=by
 rintro rfl
 obtain⟨a0,k'⟩:=Ro h
 have h1:w.heap[b]? = some (.cells cs.toArray t (0,0)):=k
 rw[show w.heap[b]? = some (.cells a0.toArray e (0,0)) from k'] at h1
 simp only[Option.some.injEq,Obj.cells.injEq] at h1
 exact hne h1.2.1.symm
theorem Zd.of_updRow{T:List TypeId}{w W:World}{base e size g n c:Nat}{xs:List Value}(u:Upd w g W)(h:w.ownsRow base e size (.slice (S1 g) n c) n xs)(hT:T.contains e=true):Zd T w W:=by
 obtain⟨cs,k⟩:=Ro h
 exact Zd.of_upd u k hT
theorem Upd.ownRow{w W:World}{base base2 e e2 size size2 g n c n2:Nat}{v:Value}{xs ys:List Value}(u:Upd w g W)(h:w.ownsRow base2 e2 size2 v n2 ys)(o:w.ownsRow base e size (.slice (S1 g) n c) n xs)(hne:e2≠e):W.ownsRow base2 e2 size2 v n2 ys:=by
 obtain⟨cs,k⟩:=Ro o
 exact u.own2 h k hne
end Go.Proofs.YtceeiinepijokaaGreat
namespace Go.Proofs.YtceeiinepijokaaGreat
set_option maxHeartbeats 8000000
set_option maxRecDepth 100000
open Go.RowKit
set_option linter.unusedVariables false
theorem loop_eq(bs:ByteArray)(i:Nat)(r:Bl):ByteArray.toList.loop bs i r=r.reverse++bs.data.toList.drop i:=by
 have hs:bs.data.toList.length=bs.size:=by rw[Array.length_toList];rfl
 rw[ByteArray.toList.loop]
 split
 ·rename_i h
  have h':i<bs.data.toList.length:=by omega
  rw[loop_eq bs (i+1) _,List.drop_eq_getElem_cons h']
  have e:bs.get! i=bs.data.toList[i]:=by
   have h2:i<bs.data.size:=by rw[←Array.length_toList];exact h'
   show bs.data[i]! = _
   rw[getElem!_pos bs.data i h2];simp
  rw[e];simp
 ·rename_i h
  rw[List.drop_eq_nil_of_le (by omega)];simp
termination_by bs.size-i
theorem Zf7(a:Bl):(⟨a.toArray⟩:ByteArray).toList=a:=by
 unfold ByteArray.toList;rw[loop_eq];simp
theorem str_beq(a b:Bl):((⟨a.toArray⟩:ByteArray).toList==(⟨b.toArray⟩:ByteArray).toList)=(a==b):=by rw[Zf7,Zf7]
theorem Fh(l:Bl):∀ (w k i:Nat),i<w→Zm l k w/256 ^ i%256=(l.getD (k+i) 0).toNat
 | 0,k,i,h=>absurd h (by omega)
 | w+1,k,0,_=>by
  have:=(l.getD k 0).toNat_lt
  rw[Zm];simp only[Nat.pow_zero,Nat.div_one,Nat.add_zero];omega
 | w+1,k,i+1,h=>by
  have:=(l.getD k 0).toNat_lt
  have ih:=Fh l w (k+1) i (by omega)
  rw[Zm,Nat.pow_succ,Nat.mul_comm (256 ^ i) 256,←Nat.div_div_eq_div_mul,show((l.getD k 0).toNat+256*Zm l (k+1) w)/256=Zm l (k+1) w by omega,ih,show k+1+i=k+(i+1) by omega]
theorem leB_raw{l:Bl}{k w:Nat}(h:k+w≤l.length):leB (Zm l k w:Int) w=(l.drop k).take w:=by
 apply List.ext_getElem
 ·simp[Zj];omega
 intro i h1 h2
 have hw:i<w:=by simpa [Zj] using h1
 have e:=Fh l w k i hw
 apply UInt8.toNat_inj.1
 simp only[leB,List.getElem_map,List.getElem_range,Xa,Int.toNat_natCast,UInt8.toNat_ofNat',List.getElem_take,List.getElem_drop]
 have e2:l.getD (k+i) 0=l[k+i]'(by omega):=by simp[List.getD,show k+i<l.length by omega]
 rw[e2] at e
 rw[←e]
theorem leB_inj{m n w:Nat}(hm:m<256 ^ w)(hn:n<256 ^ w)(h:leB (m:Int) w=leB (n:Int) w):m=n:=by
 have e:∀ i,i<w→m/256 ^ i%256=n/256 ^ i%256:=fun i hi=>by
  have:=congrArg (fun l=>(l.getD i 0).toNat) h
  simpa [leB,Xa,List.getD,List.getElem?_range hi,UInt8.toNat_ofNat'] using this
 clear h
 induction w generalizing m n with
 | zero=>simp at hm hn;omega
 | succ w ih =>
  have h0:=e 0 (by omega)
  have h1:m/256=n/256:=ih (by rw[Nat.pow_succ] at hm;omega) (by rw[Nat.pow_succ] at hn;omega) fun i hi=>by
   have:=e (i+1) (by omega)
   rw[Nat.pow_succ,Nat.mul_comm (256 ^ i) 256,←Nat.div_div_eq_div_mul,←Nat.div_div_eq_div_mul] at this
   exact this
  simp only[Nat.pow_zero,Nat.div_one] at h0
  omega
theorem Zc2{b:Bool}(h:(!b)=true):b=false:=by simpa using h
theorem Zbf{b:Bool}(h:(!b)=false):b=true:=by simpa using h
end Go.Proofs.YtceeiinepijokaaGreat
namespace Go.Proofs.YtceeiinepijokaaGreat
set_option maxHeartbeats 8000000
set_option maxRecDepth 100000
open Go.RowKit Go.Extern.Stop Go.Stop Go.Extern
set_option linter.unusedVariables false
attribute [local irreducible] wpList wpAnyH Code.wp Oper.wp Go
theorem BysM.elem{w:World}{a:O0}{n c:Nat}{l:Bl}(h:Bys w (.slice a n c) l)(hl:l.length=n){k:Nat}(hk:k<n):a.isSome=true∧w.cell? (Zo a (k*1))=some (.int .u8 (↑(l.getD k 0).toNat:Int)):=by
 subst hl;exact Bys.elem h hk
theorem Sl.cap{w:World}{b:O0}{n c:Nat}{xs:List Value}(h:Sl w (.slice b n c) n xs):n≤c:=by
 rcases h with ⟨a',c',h1,h2,_⟩|⟨b',a0,cap,h1,h2,_,_⟩
 ·omega
 ·simp only[Value.slice.injEq] at h1;omega
def Uv(b:Bool):Int:=if b then 1 else 0
theorem Og(b:Bool):0≤Uv b∧Uv b<256:=by cases b<;>decide
structure NodeOk(t:Int)(leaf:Bool)(n m v:Nat)(K:List Int)(Vs:List (List UInt8)):Prop where
 ht1:1≤t
 ht2:t≤5
 hm:Qy t leaf=m
 hv:Ua t leaf=v
 hK:K.length=n
 hV:Vs.length=n
 hn:n≤m
 hl:leaf=false→1≤n
 hk0:∀ i,i<n→0≤K.getD i 0∧K.getD i 0≤281474976710655
 hk1:∀ j,j+1<n→K.getD j 0<K.getD (j+1) 0
 hw:∀ i,i<n→(Vs.getD i []).length=v
theorem Fd(t:Int)(leaf:Bool):4≤Ua t leaf∧Ua t leaf≤24:=by
 unfold Ua
 repeat' split
 all_goals decide
theorem fitN(t:Int)(leaf:Bool):12+Qy t leaf*8+Qy t leaf*Ua t leaf≤244:=by
 unfold Ua Qy
 repeat' split
 all_goals decide
theorem Zbl{K:List Int}{i j:Nat}(h:j<i):(K.take i).getD j 0=K.getD j 0:=by simp[List.getD,List.getElem?_take_of_lt h]
theorem Sy(t:Int)(leaf:Bool)(m:Nat)(hm:Qy t leaf=m)(h1:1≤t)(h2:t≤5)(w:World):C0 212 #[V0 t,.bool leaf] w (Ret (V0 (m:Int)) w):=by
 subst hm;exact Ew t leaf h1 h2 w
theorem Md(t:Int)(leaf:Bool)(v:Nat)(hv:Ua t leaf=v)(h1:1≤t)(h2:t≤5)(w:World):C0 211 #[V0 t,.bool leaf] w (Ret (V0 (v:Int)) w):=by
 subst hv;exact Av t leaf h1 h2 w
theorem node_flag(leaf:Bool)(w:World) :
 C0 244 #[.bool leaf] w (Ret (V0 (Uv leaf)) w):=by
 refine zin 4 Tryz.func244 ?_
 refine xi 11 leaf (fun a0=>?_) (fun a0=>?_)
 ·exact xe 7 (V0 1) ⟨by simp_all [Uv],(B4 w)⟩
 exact xe 8 (V0 0) ⟨by simp_all [Uv],(B4 w)⟩
theorem Zhl(a:O0)(i c:Nat)(L:List Int)(k:Int)(w:World)(hL:L.length=i)(h:Sl w (.slice a i c) i (L.map V0))(h1:0≤k)(h2:k≤281474976710655)(h3:∀ j,i=j+1→L.getD j 0<k)(hi:i≤1000) :
 C0 214 #[.slice a i c,V0 k] w (Ret (V0 0) w):=by
 refine zin 26 Tryz.func214 ?_
 refine xgk 12 [7,8] (show(decide (k<(0:Int)):Bool)=false from decide_eq_false (by omega)) ?_
 refine xk 6 (show(decide (k>(281474976710655:Int)):Bool)=false from decide_eq_false (by omega)) ?_
 refine xg 6 [15,16] (decide ((i:Int)>(0:Int))) (fun a0=>?_) (fun a0=>?_)
 ·have a0:=of_decide_eq_true a0
  refine xwm 3 ((i:Int)-1) (↑(i-1):Int) ?_
  refine xx 0 _ i (i-1) 1 (IntsN.elem h hL (k:=(i-1)) (by omega)).1 ?_
  refine xl 0 ((IntsN.elem h hL (k:=(i-1)) (by omega)).2) ?_
  refine xk 6 (show(decide ((L.getD (i-1) 0)≥k):Bool)=false from decide_eq_false (by have:=h3 (i-1) (by omega);omega)) ?_
  exact xe 9 (V0 0) ⟨rfl,(B4 w)⟩
 have a0:=of_decide_eq_false a0
 exact xe 22 (V0 0) ⟨rfl,(B4 w)⟩
theorem node_Right(t:Int)(leaf:Bool)(n m v:Nat)(K:List Int)(Vs:List Bl)(ak av:O0)(ck cv:Nat)(w:World)(N:NodeOk t leaf n m v K Vs)(hKs:Sl w (.slice ak n ck) n (K.map V0))(hVs:Sl w (.slice av n cv) n (Vs.map sv)) :
 C0 243 #[.agg #[V0 t,.bool leaf,.slice ak n ck,.slice av n cv]] w (Ret (.bool true) w):=by
 have c0:=N.ht1
 have b9:=N.ht2
 have c7:=N.hn
 have c1:=Fd t leaf
 rw[N.hv] at c1
 have c3:=Qv t leaf
 rw[N.hm] at c3
 have b3:=fitN t leaf
 rw[N.hm,N.hv] at b3
 have c4:=Sl.cap hKs
 refine zin 70 Tryz.func243 ?_
 refine xa 2 [V0 t,.bool leaf,.slice ak n ck,.slice av n cv] 183 fun b1 W1 n1=>?_
 refine xb 6 0 n1.blk ?_
 refine xb 1 1 n1.blk ?_
 refine xr 0 (args:=#[V0 t,.bool leaf]) (Md t leaf v N.hv c0 b9 _) fun W2 b8=>?_
 refine xd 5 .z ?_
 refine xgk (.b [0,1,2]) [12,13] (show(((v:Int)==(0:Int)):Bool)=false from by simp;omega) ?_
 have a5:=(n1.blk.below b8).below (Za W2)
 refine xb (.e [3] 4) 2 a5 ?_
 refine xb (.e [5,6] 7) 0 a5 ?_
 refine xb (.e [8] 9) 1 a5 ?_
 refine xr (.o [] 10) (args:=#[V0 t,.bool leaf]) (Sy t leaf m N.hm c0 b9 _) fun W4 b7=>?_
 refine xgk (.b [11,12,13]) [22,23,24] (show(decide ((n:Int)>(m:Int)):Bool)=false from decide_eq_false (by omega)) ?_
 have a1:=a5.below b7
 refine xb (.e [14] 15) 3 a1 ?_
 refine xb (.e [16,17] 18) 2 a1 ?_
 refine xgk (.b [19,20,21,22]) [31,32,33] (show(((n:Int) != (n:Int)):Bool)=false from by simp) ?_
 refine xb (.e [23] 24) 1 a1 ?_
 refine xg (.b [25,26]) [36,37] (!leaf) (fun c2=>?_) (fun c2=>?_)
 ·refine xb (.e [27] 28) 2 a1 ?_
  refine xk (.r [29,30,31,32] 2) (show(((n:Int)==(0:Int)):Bool)=false from by have:=N.hl (by simp_all);simp;omega) ?_
  refine xb 6 2 a1 ?_
  have hB:=bln (bln (bln n1.below b8) (Za W2)) b7
  refine zl 5 70 (fun zm b4 V=>∃ (i:Nat),b4=[(1,P0 b1),(3,V0 (v:Int)),(45,.slice ak n ck),(46,V0 (n:Int)),(47,V0 (i:Int))]∧zm=n-((i:Int)).toNat∧B3 w V∧Blk V b1 ([V0 t,.bool leaf,.slice ak n ck,.slice av n cv]) 183∧i≤n) ⟨0,rfl,rfl,hB,a1,Nat.zero_le _⟩ ?_
  rintro _ _ W8 ⟨i,rfl,rfl,a6,a7,hi⟩ J8 c6 r8
  refine xid 6 ((i:Int)<(n:Int)) (fun c5=>?_) (fun c5=>?_)
  ·refine xx 7 _ n i 1 (IntsN.elem hKs N.hK (k:=i) (by omega)).1 ?_
   refine xl 0 ((IntsN.elem (hKs.below a6) N.hK (k:=i) (by omega)).2) ?_
   refine xb 7 2 a7 ?_
   refine xsH 1 (fun _ _ _ _ zo zx zy V=>Qf (k:=i) (b:=ak) (n:=n) (c:=ck) (i:=(i:Int)) (ki:=.i64) zo zx zy rfl (by omega) Tryz.underlying35 (by kernel_rfl) V) ?_
   refine xr 1 (args:=#[.slice ak i ck,V0 (K.getD i 0)]) (Zhl ak i ck (K.take i) (K.getD i 0) _ (by rw[List.length_take,N.hK];omega) (by rw[List.map_take];exact(hKs.below a6).head (by simpa using N.hK) i (by omega)) (N.hk0 i (by omega)).1 (N.hk0 i (by omega)).2 (fun j e=>by subst e;rw[Zbl (by omega)];exact N.hk1 j (by omega)) (by omega)) fun d1 a8=>?_
   have a3:=a7.below a8
   refine xb 3 3 a3 ?_
   refine xx 1 _ n i 1 (Strs.elem hVs N.hV (k:=i) (by omega)).1 ?_
   have a9:=bln a6 a8
   refine xl 0 ((Strs.elem (hVs.below a9) N.hV (k:=i) (by omega)).2) ?_
   refine xk 6 (show(((↑(Vs.getD i []).length:Int) != (v:Int)):Bool)=false from by rw[N.hw i (by omega)];simp) ?_
   refine xw 4 ((i:Int)+1) ?_
   exact ze 2 (c6 _ _ _ ⟨i+1,rfl,rfl,a9,a3,by omega⟩ (by omega))
  exact xe 11 (.bool true) ⟨rfl,a6⟩
 refine xb (.r [27,28,29,30,31,32] 9) 2 a1 ?_
 have hB:=bln (bln (bln n1.below b8) (Za W2)) b7
 refine zl 5 70 (fun zm b4 V=>∃ (i:Nat),b4=[(1,P0 b1),(3,V0 (v:Int)),(45,.slice ak n ck),(46,V0 (n:Int)),(47,V0 (i:Int))]∧zm=n-((i:Int)).toNat∧B3 w V∧Blk V b1 ([V0 t,.bool leaf,.slice ak n ck,.slice av n cv]) 183∧i≤n) ⟨0,rfl,rfl,hB,a1,Nat.zero_le _⟩ ?_
 rintro _ _ d2 ⟨i,rfl,rfl,a2,a4,hi⟩ c9 b5 d0
 refine xid 6 ((i:Int)<(n:Int)) (fun b6=>?_) (fun b6=>?_)
 ·refine xx 7 _ n i 1 (IntsN.elem hKs N.hK (k:=i) (by omega)).1 ?_
  refine xl 0 ((IntsN.elem (hKs.below a2) N.hK (k:=i) (by omega)).2) ?_
  refine xb 7 2 a4 ?_
  refine xsH 1 (fun _ _ _ _ zo zx zy V=>Qf (k:=i) (b:=ak) (n:=n) (c:=ck) (i:=(i:Int)) (ki:=.i64) zo zx zy rfl (by omega) Tryz.underlying35 (by kernel_rfl) V) ?_
  refine xr 1 (args:=#[.slice ak i ck,V0 (K.getD i 0)]) (Zhl ak i ck (K.take i) (K.getD i 0) _ (by rw[List.length_take,N.hK];omega) (by rw[List.map_take];exact(hKs.below a2).head (by simpa using N.hK) i (by omega)) (N.hk0 i (by omega)).1 (N.hk0 i (by omega)).2 (fun j e=>by subst e;rw[Zbl (by omega)];exact N.hk1 j (by omega)) (by omega)) fun c8 b0=>?_
  have a0:=a4.below b0
  refine xb 3 3 a0 ?_
  refine xx 1 _ n i 1 (Strs.elem hVs N.hV (k:=i) (by omega)).1 ?_
  have b2:=bln a2 b0
  refine xl 0 ((Strs.elem (hVs.below b2) N.hV (k:=i) (by omega)).2) ?_
  refine xk 6 (show(((↑(Vs.getD i []).length:Int) != (v:Int)):Bool)=false from by rw[N.hw i (by omega)];simp) ?_
  refine xw 4 ((i:Int)+1) ?_
  exact ze 2 (b5 _ _ _ ⟨i+1,rfl,rfl,b2,a0,by omega⟩ (by omega))
 exact xe 11 (.bool true) ⟨rfl,a2⟩
def widG(t:Int)(leaf:Bool):Nat:=if 1≤t∧t≤5 then Ua t leaf else 0
def maxG(t:Int)(leaf:Bool):Nat:=if 1≤t∧t≤5 then Qy t leaf else 0
theorem fitG(t:Int)(leaf:Bool):12+maxG t leaf*8+maxG t leaf*widG t leaf≤244:=by
 unfold maxG widG;split
 ·exact fitN t leaf
 ·decide
theorem maxG_le(t:Int)(leaf:Bool):maxG t leaf≤18:=by
 unfold maxG;split
 ·exact(Qv t leaf).2
 ·decide
theorem widG_le(t:Int)(leaf:Bool):widG t leaf≤24:=by
 unfold widG;split
 ·exact(Fd t leaf).2
 ·decide
theorem Nn(t:Int)(leaf:Bool)(w:World)(h:¬ (1≤t∧t≤5)) :
 C0 211 #[V0 t,.bool leaf] w (Ret (V0 0) w):=by
 refine zin 31 Tryz.func211 ?_
 refine xg 17 [8,9] (decide (t<(1:Int))) (fun a0=>?_) (fun a0=>?_)
 ·have a0:=of_decide_eq_true a0
  exact xe 15 (V0 0) ⟨rfl,(B4 w)⟩
 have a0:=of_decide_eq_false a0
 refine xk 6 (show(decide (t>(5:Int)):Bool)=true from decide_eq_true (by omega)) ?_
 exact xe 8 (V0 0) ⟨rfl,(B4 w)⟩
theorem Mr(t:Int)(leaf:Bool)(w:World):C0 211 #[V0 t,.bool leaf] w (Ret (V0 (widG t leaf:Int)) w):=by
 unfold widG
 by_cases h:1≤t∧t≤5
 ·rw[if_pos h];exact Av t leaf h.1 h.2 w
 ·rw[if_neg h];exact Nn t leaf w h
theorem Zb0(t:Int)(leaf:Bool)(w:World)(h:¬ (1≤t∧t≤5)) :
 C0 212 #[V0 t,.bool leaf] w (Ret (V0 0) w):=by
 refine zin 16 Tryz.func212 ?_
 refine xr 9 (args:=#[V0 t,.bool leaf]) (Nn t leaf _ h) fun W1 a0=>?_
 exact xe 18 (V0 0) ⟨rfl,a0⟩
theorem Zcb(t:Int)(leaf:Bool)(w:World):C0 212 #[V0 t,.bool leaf] w (Ret (V0 (maxG t leaf:Int)) w):=by
 unfold maxG
 by_cases h:1≤t∧t≤5
 ·rw[if_pos h];exact Ew t leaf h.1 h.2 w
 ·rw[if_neg h];exact Zb0 t leaf w h
def keyR(L:List Int)(i:Nat)(k:Int):Int:=if k<0∨281474976710655<k then 2 else if 0<i∧k≤L.getD (i-1) 0 then 8 else 0
def Qm(l:Bl):Int:=(Zm l 1 1:Int)
def Xp(l:Bl):Bool:=(Zm l 0 1:Int)==(1:Int)
def Zt(l:Bl):Nat:=Zm l 2 2
def Vz(l:Bl):Nat:=widG (Qm l) (Xp l)
def Ku(l:Bl):Nat:=maxG (Qm l) (Xp l)
def Fk(l:Bl):Bool:=decide (Zm l 0 1≤1∧Vz l≠0∧Zm l 2 2≤Ku l∧Zm l 4 2=Vz l∧Zm l 6 2=Ku l∧Zm l 8 4=0∧(Zm l 0 1=1∨0<Zm l 2 2))
def ShapeP(l:Bl)(w:World)(e:Ending)(w':World):Prop :=
 (Fk l=false∧∃ a b c,e=.returned (.tuple #[.agg #[V0 a,.bool b,S0,S0],V0 c,.bool false])∧B3 w w') ∨
 (Fk l=true∧e=.returned (.tuple #[.agg #[V0 (Qm l),.bool (Xp l),S0,S0],V0 (Zt l:Int),.bool true])∧B3 w w')
theorem Br(a:O0)(n c:Nat)(l:Bl)(aw:O0)(cw m:Nat)(ws:List Nat)(xs:List Nat)(W:World)(hn:l.length=n)(hm:ws.length=m)(hx:Wg l 0 ws=xs)(hk:∀ i,i<ws.length→ws.getD i 0=1∨ws.getD i 0=2∨ws.getD i 0=4∨ws.getD i 0=8)(hs:ws.sum≤n)(hl:n≤100000000)(hw:ws.length≤1000)(h:Bys W (.slice a n c) l)(hws:Sl W (.slice aw m cw) m (ws.map nv))(hq:∀ i,i<ws.length→(Wg l 0 ws).getD i 0<9223372036854775808) :
 C0 156 #[.slice a n c,.slice aw m cw] W (Vo (fun w' r=>∃ p c,r=.tuple #[.slice p m c,V0 0]∧w'.ownsRow W.heap.size 3 1 (.slice p m c) m (xs.map nv)) W):=by
 subst hn hm hx;exact Zb1 a c l aw cw ws W hk hs hl hw h hws hq
def Ki(l:Bl):List Nat:=[Zm l 0 1,Zm l 1 1,Zm l 2 2,Zm l 4 2,Zm l 6 2,Zm l 8 4]
theorem head6_bd(l:Bl)(i:Nat)(hi:i<6):(Wg l 0 [1,1,2,2,2,4]).getD i 0<9223372036854775808:=by
 have h1:=Vk l 0 1 (by decide)
 have h2:=Vk l 1 1 (by decide)
 have h3:=Vk l 2 2 (by decide)
 have h4:=Vk l 4 2 (by decide)
 have h5:=Vk l 6 2 (by decide)
 have h6:=Vk l 8 4 (by decide)
 obtain rfl|rfl|rfl|rfl|rfl|rfl:i=0∨i=1∨i=2∨i=3∨i=4∨i=5:=by omega
 all_goals simp[Wg]
 all_goals omega
theorem node_shape(a:O0)(c:Nat)(l:Bl)(w:World)(hl:l.length=244)(h:Bys w (.slice a 244 c) l) :
 C0 210 #[.slice a 244 c] w (ShapeP l w):=by
 refine zin 92 Tryz.func210 ?_
 refine xa 2 [V0 0,.bool false,S0,S0] 183 fun b1 W1 n1=>?_
 refine xbs 18 6 [V0 1,V0 1,V0 2,V0 2,V0 2,V0 4] 3 fun b2 W2 n2=>?_
 have hB:=bln n1.below n2.below
 refine xc 0 (args:=#[.slice a 244 c,.slice (S1 b2) 6 6]) (Br a 244 c l (S1 b2) 6 6 [1,1,2,2,2,4] (Ki l) _ hl rfl rfl (by decide) (by decide) (by decide) (by decide) (h.below hB) (n2.blk.sl 6 6 (by decide) (by decide)) (head6_bd l)) ?_
 rintro _ W3 ⟨_,rfl,f1,p5,c5,rfl,h5⟩
 have f8:=(bln n1.below n2.below).size
 refine xd 8 (.t w.heap.size [183]) ?_
 have a9:=Zb (Zh h5 f8) (Za W3)
 refine xx (.e [0] 1) _ 6 1 1 (Xb (l:=Ki l) (Zf a9) rfl (k:=1) (by decide)).1 ?_
 refine xlt (.e [] 2) (.t w.heap.size [183]) (fun V hV=>(Xb (l:=Ki l) (Zf (Zi a9 hV.2 (by decide))) rfl (k:=1) (by decide)).2) ?_
 refine xx (.e [3] 4) _ 6 0 1 (Xb (l:=Ki l) (Zf a9) rfl (k:=0) (by decide)).1 ?_
 refine xlt (.e [] 5) (.t w.heap.size [183]) (fun V hV=>(Xb (l:=Ki l) (Zf (Zi a9 hV.2 (by decide))) rfl (k:=0) (by decide)).2) ?_
 refine xa (.o [6,7] 8) [V0 0,.bool false,S0,S0] 183 fun b4 W4 n4=>?_
 have k1:=((n1.blk.below n2.below).below f1).below (Za W3)
 have a3:=n4.ne k1
 have a5:=bln (bln hB f1) (Za W3)
 have g4:=n4.ge a5
 refine ysv (.o [] 9) n4.blk [V0 (↑(Zm l 1 1):Int),.bool ((↑(Zm l 0 1):Int)==(1:Int)),S0,S0] (.t w.heap.size [183]) fun W5 u5 k5=>⟨(Zl u5 n4.blk g4 (by decide)),?_⟩
 have b8:=u5.own2 (Zb a9 n4.below) n4.blk (by decide)
 refine xx 6 _ 6 0 1 (Xb (l:=Ki l) (Zf b8) rfl (k:=0) (by decide)).1 ?_
 refine xl 0 ((Xb (l:=Ki l) (Zf b8) rfl (k:=0) (by decide)).2) ?_
 refine xg 2 [32,33] (decide ((↑(Zm l 0 1):Int)>(1:Int))) (fun c1=>?_) (fun c1=>?_)
 ·have c1:=of_decide_eq_true c1
  have d4:=u5.blk (k1.below n4.below) (Ne.symm (Ne.symm a3))
  refine xsv 13 d4 [V0 0,.bool false,S0,S0] fun W7 u7 k7=>?_
  have g1:=n1.ge (B4 w)
  have e1:=u7.below (u5.below (bln a5 n4.below) g4) g1
  exact xec 6 k7 (.tuple #[.agg #[V0 0,.bool false,S0,S0],V0 0,.bool false]) (.inl ⟨decide_eq_false (by omega),_,_,_,rfl,e1⟩)
 have c1:=of_decide_eq_false c1
 refine xb 1 0 k5 ?_
 refine xb 1 1 k5 ?_
 refine xr 0 (args:=#[V0 (↑(Zm l 1 1):Int),.bool ((↑(Zm l 0 1):Int)==(1:Int))]) (Mr (Qm l) (Xp l) _) fun W8 a7=>?_
 refine xie 4 (↑(Vz l):Int) (0:Int) (fun g2=>?_) (fun g2=>?_)
 ·have e5:=(u5.blk (k1.below n4.below) (Ne.symm (Ne.symm a3))).below a7
  refine xsv 3 e5 [V0 0,.bool false,S0,S0] fun h1 f7 f6=>?_
  have g1:=n1.ge (B4 w)
  have e6:=f7.below (bln (u5.below (bln a5 n4.below) g4) a7) g1
  exact xec 6 f6 (.tuple #[.agg #[V0 0,.bool false,S0,S0],V0 0,.bool false]) (.inl ⟨decide_eq_false (by omega),_,_,_,rfl,e6⟩)
 refine xd 3 .z ?_
 have a6:=(k5.below a7).below (Za W8)
 refine xb (.e [0] 1) 0 a6 ?_
 refine xb (.e [2] 3) 1 a6 ?_
 refine xb (.e [5] 6) 0 a6 ?_
 refine xb (.e [7] 8) 1 a6 ?_
 refine xr (.o [] 4) (args:=#[V0 (↑(Zm l 1 1):Int),.bool ((↑(Zm l 0 1):Int)==(1:Int))]) (Mr (Qm l) (Xp l) _) fun h4 a0=>?_
 refine xr (.o [] 9) (args:=#[V0 (↑(Zm l 1 1):Int),.bool ((↑(Zm l 0 1):Int)==(1:Int))]) (Zcb (Qm l) (Xp l) _) fun a4 a1=>?_
 have a2:=Zb (Zb (Zb (Zb b8 a7) (Za W8)) a0) a1
 refine xx (.r [10,11] 5) _ 6 2 1 (Xb (l:=Ki l) (Zf a2) rfl (k:=2) (by decide)).1 ?_
 refine xl 0 ((Xb (l:=Ki l) (Zf a2) rfl (k:=2) (by decide)).2) ?_
 refine xg 3 [56,57] (decide ((↑(Zm l 2 2):Int)≤(↑(Ku l):Int))) (fun b5=>?_) (fun b5=>?_)
 ·have b5:=of_decide_eq_true b5
  refine xx 1 _ 6 3 1 (Xb (l:=Ki l) (Zf a2) rfl (k:=3) (by decide)).1 ?_
  refine xl 0 ((Xb (l:=Ki l) (Zf a2) rfl (k:=3) (by decide)).2) ?_
  refine xg 4 [62,63,64] ((↑(Zm l 4 2):Int)==(↑(Vz l):Int)) (fun b3=>?_) (fun b3=>?_)
  ·have b3:=eq_of_beq b3
   refine xx 1 _ 6 4 1 (Xb (l:=Ki l) (Zf a2) rfl (k:=4) (by decide)).1 ?_
   refine xl 0 ((Xb (l:=Ki l) (Zf a2) rfl (k:=4) (by decide)).2) ?_
   refine xg 4 [69,70,71] ((↑(Zm l 6 2):Int)==(↑(Ku l):Int)) (fun b6=>?_) (fun b6=>?_)
   ·have b6:=eq_of_beq b6
    refine xx 1 _ 6 5 1 (Xb (l:=Ki l) (Zf a2) rfl (k:=5) (by decide)).1 ?_
    refine xl 0 ((Xb (l:=Ki l) (Zf a2) rfl (k:=5) (by decide)).2) ?_
    refine xg 3 [75,76,77] ((↑(Zm l 8 4):Int)==(0:Int)) (fun a8=>?_) (fun a8=>?_)
    ·have a8:=eq_of_beq a8
     have b7:=(a6.below a0).below a1
     refine xb 1 1 b7 ?_
     refine xg 1 [27,37,45,50,79,80] ((↑(Zm l 0 1):Int)==(1:Int)) (fun b0=>?_) (fun b0=>?_)
     ·have b0:=eq_of_beq b0
      refine xd 10 (.t w.heap.size [183]) ?_
      have c9:=Zb a2 (Za a4)
      refine xx (.e [1] 2) _ 6 2 1 (Xb (l:=Ki l) (Zf c9) rfl (k:=2) (by decide)).1 ?_
      refine xlt (.e [] 3) (.t w.heap.size [183]) (fun V hV=>(Xb (l:=Ki l) (Zf (Zi c9 hV.2 (by decide))) rfl (k:=2) (by decide)).2) ?_
      have e2:=b7.below (Za a4)
      refine xlv (.o [4] 0) e2.rp ?_
      have c4:=(((((u5.blk (k1.below n4.below) (Ne.symm (Ne.symm a3))).below a7).below (Za W8)).below a0).below a1).below (Za a4)
      have g1:=n1.ge (B4 w)
      refine ysv (.o [] 5) c4 [V0 (↑(Zm l 1 1):Int),.bool ((↑(Zm l 0 1):Int)==(1:Int)),S0,S0] (.t w.heap.size [183]) fun g9 f2 g6=>⟨(Zl f2 c4 g1 (by decide)),?_⟩
      have e7:=f2.below (bln (bln (bln (bln (bln (u5.below (bln a5 n4.below) g4) a7) (Za W8)) a0) a1) (Za a4)) g1
      exact xec (.r [6,7] 3) g6 (.tuple #[.agg #[V0 (↑(Zm l 1 1):Int),.bool ((↑(Zm l 0 1):Int)==(1:Int)),S0,S0],V0 (↑(Zm l 2 2):Int),.bool true]) (.inr ⟨decide_eq_true (by omega),rfl,e7⟩)
     have b0:=Qe b0
     refine xx 1 _ 6 2 1 (Xb (l:=Ki l) (Zf a2) rfl (k:=2) (by decide)).1 ?_
     refine xl 0 ((Xb (l:=Ki l) (Zf a2) rfl (k:=2) (by decide)).2) ?_
     refine xd 7 (.t w.heap.size [183]) ?_
     have c8:=Zb a2 (Za a4)
     refine xx (.e [1] 2) _ 6 2 1 (Xb (l:=Ki l) (Zf c8) rfl (k:=2) (by decide)).1 ?_
     refine xlt (.e [] 3) (.t w.heap.size [183]) (fun V hV=>(Xb (l:=Ki l) (Zf (Zi c8 hV.2 (by decide))) rfl (k:=2) (by decide)).2) ?_
     have e0:=b7.below (Za a4)
     refine xlv (.o [4] 0) e0.rp ?_
     have d0:=(((((u5.blk (k1.below n4.below) (Ne.symm (Ne.symm a3))).below a7).below (Za W8)).below a0).below a1).below (Za a4)
     have g1:=n1.ge (B4 w)
     refine ysv (.o [] 5) d0 [V0 (↑(Zm l 1 1):Int),.bool ((↑(Zm l 0 1):Int)==(1:Int)),S0,S0] (.t w.heap.size [183]) fun h7 f4 g0=>⟨(Zl f4 d0 g1 (by decide)),?_⟩
     have c6:=f4.below (bln (bln (bln (bln (bln (u5.below (bln a5 n4.below) g4) a7) (Za W8)) a0) a1) (Za a4)) g1
     refine xec (.r [6,7] 3) g0 (.tuple #[.agg #[V0 (↑(Zm l 1 1):Int),.bool ((↑(Zm l 0 1):Int)==(1:Int)),S0,S0],V0 (↑(Zm l 2 2):Int),.bool (decide ((↑(Zm l 2 2):Int)>(0:Int)))]) ?_
     rcases Bool.eq_false_or_eq_true (decide ((↑(Zm l 2 2):Int)>(0:Int))) with hq|hq
     ·have g5:=of_decide_eq_true hq
      rw[hq];exact .inr ⟨decide_eq_true (by omega),rfl,c6⟩
     ·have g5:=of_decide_eq_false hq
      rw[hq];exact .inl ⟨decide_eq_false (by omega),_,_,_,rfl,c6⟩
    have a8:=Qe a8
    refine xd 13 (.t w.heap.size [183]) ?_
    have d2:=Zb a2 (Za a4)
    refine xx (.e [1] 2) _ 6 2 1 (Xb (l:=Ki l) (Zf d2) rfl (k:=2) (by decide)).1 ?_
    refine xlt (.e [] 3) (.t w.heap.size [183]) (fun V hV=>(Xb (l:=Ki l) (Zf (Zi d2 hV.2 (by decide))) rfl (k:=2) (by decide)).2) ?_
    have e3:=((a6.below a0).below a1).below (Za a4)
    refine xlv (.o [4] 0) e3.rp ?_
    have c2:=(((((u5.blk (k1.below n4.below) (Ne.symm (Ne.symm a3))).below a7).below (Za W8)).below a0).below a1).below (Za a4)
    have g1:=n1.ge (B4 w)
    refine ysv (.o [] 5) c2 [V0 (↑(Zm l 1 1):Int),.bool ((↑(Zm l 0 1):Int)==(1:Int)),S0,S0] (.t w.heap.size [183]) fun h6 f3 g3=>⟨(Zl f3 c2 g1 (by decide)),?_⟩
    have d6:=f3.below (bln (bln (bln (bln (bln (u5.below (bln a5 n4.below) g4) a7) (Za W8)) a0) a1) (Za a4)) g1
    exact xec (.r [6,7] 3) g3 (.tuple #[.agg #[V0 (↑(Zm l 1 1):Int),.bool ((↑(Zm l 0 1):Int)==(1:Int)),S0,S0],V0 (↑(Zm l 2 2):Int),.bool false]) (.inl ⟨decide_eq_false (by omega),_,_,_,rfl,d6⟩)
   have b6:=Qe b6
   refine xd 19 (.t w.heap.size [183]) ?_
   have c3:=Zb a2 (Za a4)
   refine xx (.e [1] 2) _ 6 2 1 (Xb (l:=Ki l) (Zf c3) rfl (k:=2) (by decide)).1 ?_
   refine xlt (.e [] 3) (.t w.heap.size [183]) (fun V hV=>(Xb (l:=Ki l) (Zf (Zi c3 hV.2 (by decide))) rfl (k:=2) (by decide)).2) ?_
   have e8:=((a6.below a0).below a1).below (Za a4)
   refine xlv (.o [4] 0) e8.rp ?_
   have d3:=(((((u5.blk (k1.below n4.below) (Ne.symm (Ne.symm a3))).below a7).below (Za W8)).below a0).below a1).below (Za a4)
   have g1:=n1.ge (B4 w)
   refine ysv (.o [] 5) d3 [V0 (↑(Zm l 1 1):Int),.bool ((↑(Zm l 0 1):Int)==(1:Int)),S0,S0] (.t w.heap.size [183]) fun h2 f0 f9=>⟨(Zl f0 d3 g1 (by decide)),?_⟩
   have d9:=f0.below (bln (bln (bln (bln (bln (u5.below (bln a5 n4.below) g4) a7) (Za W8)) a0) a1) (Za a4)) g1
   exact xec (.r [6,7] 3) f9 (.tuple #[.agg #[V0 (↑(Zm l 1 1):Int),.bool ((↑(Zm l 0 1):Int)==(1:Int)),S0,S0],V0 (↑(Zm l 2 2):Int),.bool false]) (.inl ⟨decide_eq_false (by omega),_,_,_,rfl,d9⟩)
  have b3:=Qe b3
  refine xd 26 (.t w.heap.size [183]) ?_
  have c7:=Zb a2 (Za a4)
  refine xx (.e [1] 2) _ 6 2 1 (Xb (l:=Ki l) (Zf c7) rfl (k:=2) (by decide)).1 ?_
  refine xlt (.e [] 3) (.t w.heap.size [183]) (fun V hV=>(Xb (l:=Ki l) (Zf (Zi c7 hV.2 (by decide))) rfl (k:=2) (by decide)).2) ?_
  have d8:=((a6.below a0).below a1).below (Za a4)
  refine xlv (.o [4] 0) d8.rp ?_
  have b9:=(((((u5.blk (k1.below n4.below) (Ne.symm (Ne.symm a3))).below a7).below (Za W8)).below a0).below a1).below (Za a4)
  have g1:=n1.ge (B4 w)
  refine ysv (.o [] 5) b9 [V0 (↑(Zm l 1 1):Int),.bool ((↑(Zm l 0 1):Int)==(1:Int)),S0,S0] (.t w.heap.size [183]) fun h3 f5 g8=>⟨(Zl f5 b9 g1 (by decide)),?_⟩
  have d5:=f5.below (bln (bln (bln (bln (bln (u5.below (bln a5 n4.below) g4) a7) (Za W8)) a0) a1) (Za a4)) g1
  exact xec (.r [6,7] 3) g8 (.tuple #[.agg #[V0 (↑(Zm l 1 1):Int),.bool ((↑(Zm l 0 1):Int)==(1:Int)),S0,S0],V0 (↑(Zm l 2 2):Int),.bool false]) (.inl ⟨decide_eq_false (by omega),_,_,_,rfl,d5⟩)
 have b5:=of_decide_eq_false b5
 refine xd 33 (.t w.heap.size [183]) ?_
 have d1:=Zb a2 (Za a4)
 refine xx (.e [1] 2) _ 6 2 1 (Xb (l:=Ki l) (Zf d1) rfl (k:=2) (by decide)).1 ?_
 refine xlt (.e [] 3) (.t w.heap.size [183]) (fun V hV=>(Xb (l:=Ki l) (Zf (Zi d1 hV.2 (by decide))) rfl (k:=2) (by decide)).2) ?_
 have e4:=((a6.below a0).below a1).below (Za a4)
 refine xlv (.o [4] 0) e4.rp ?_
 have c0:=(((((u5.blk (k1.below n4.below) (Ne.symm (Ne.symm a3))).below a7).below (Za W8)).below a0).below a1).below (Za a4)
 have g1:=n1.ge (B4 w)
 refine ysv (.o [] 5) c0 [V0 (↑(Zm l 1 1):Int),.bool ((↑(Zm l 0 1):Int)==(1:Int)),S0,S0] (.t w.heap.size [183]) fun h0 e9 g7=>⟨(Zl e9 c0 g1 (by decide)),?_⟩
 have d7:=e9.below (bln (bln (bln (bln (bln (u5.below (bln a5 n4.below) g4) a7) (Za W8)) a0) a1) (Za a4)) g1
 exact xec (.r [6,7] 3) g7 (.tuple #[.agg #[V0 (↑(Zm l 1 1):Int),.bool ((↑(Zm l 0 1):Int)==(1:Int)),S0,S0],V0 (↑(Zm l 2 2):Int),.bool false]) (.inl ⟨decide_eq_false (by omega),_,_,_,rfl,d7⟩)
theorem node_keyG(a:O0)(i c:Nat)(L:List Int)(k:Int)(w:World)(hL:L.length=i)(h:Sl w (.slice a i c) i (L.map V0))(hi:i≤1000) :
 C0 214 #[.slice a i c,V0 k] w (Ret (V0 (keyR L i k)) w):=by
 refine zin 26 Tryz.func214 ?_
 refine xg 12 [7,8] (decide (k<(0:Int))) (fun a0=>?_) (fun a0=>?_)
 ·have a0:=of_decide_eq_true a0
  exact xe 15 (V0 2) ⟨by rw[show keyR L i k=2 from by unfold keyR;rw[if_pos (by omega)]],(B4 w)⟩
 have a0:=of_decide_eq_false a0
 refine xid 6 (k>(281474976710655:Int)) (fun a2=>?_) (fun a2=>?_)
 ·exact xe 8 (V0 2) ⟨by rw[show keyR L i k=2 from by unfold keyR;rw[if_pos (by omega)]],(B4 w)⟩
 refine xg 6 [15,16] (decide ((i:Int)>(0:Int))) (fun a1=>?_) (fun a1=>?_)
 ·have a1:=of_decide_eq_true a1
  refine xwm 3 ((i:Int)-1) (↑(i-1):Int) ?_
  refine xx 0 _ i (i-1) 1 (IntsN.elem h hL (k:=(i-1)) (by omega)).1 ?_
  refine xl 0 ((IntsN.elem h hL (k:=(i-1)) (by omega)).2) ?_
  refine xid 6 ((L.getD (i-1) 0)≥k) (fun a3=>?_) (fun a3=>?_)
  ·exact xe 8 (V0 8) ⟨by rw[show keyR L i k=8 from by unfold keyR;rw[if_neg (by omega),if_pos (by omega)]],(B4 w)⟩
  exact xe 9 (V0 0) ⟨by rw[show keyR L i k=0 from by unfold keyR;rw[if_neg (by omega),if_neg (by omega)]],(B4 w)⟩
 have a1:=of_decide_eq_false a1
 exact xe 22 (V0 0) ⟨by rw[show keyR L i k=0 from by unfold keyR;rw[if_neg (by omega),if_neg (by omega)]],(B4 w)⟩
def Ir(l:Bl)(i:Nat):Nat:=Zm l (12+i*8) 8
def Vt(l:Bl)(n:Nat):List Int:=(List.range n).map fun i=>(Ir l i:Int)
theorem Hx(l:Bl)(n:Nat):(Vt l n).length=n:=by simp[Vt]
theorem keysI_snoc(l:Bl)(n:Nat):Vt l (n+1)=Vt l n++[(Ir l n:Int)]:=by simp[Vt,List.range_succ]
theorem Zb8(l:Bl){n i:Nat}(h:i<n):(Vt l n).getD i 0=(Ir l i:Int):=by simp[Vt,List.getD,List.getElem?_range h]
def Zhn(l:Bl)(i:Nat):Bl:=(l.drop (12+Ku l*8+i*Vz l)).take (Vz l)
def Hz(l:Bl)(n:Nat):List Bl:=(List.range n).map (Zhn l)
theorem Rr(l:Bl)(n:Nat):(Hz l n).length=n:=by simp[Hz]
theorem Iq(l:Bl)(n:Nat):Hz l (n+1)=Hz l n++[Zhn l n]:=by simp[Hz,List.range_succ]
theorem Zdb(l:Bl){n i:Nat}(h:i<n):(Hz l n).getD i []=Zhn l i:=by simp[Hz,List.getD,List.getElem?_range h]
def Ts(l:Bl)(i:Nat):Int:=if 281474976710655<Ir l i then 2 else if 0<i∧Ir l i≤Ir l (i-1) then 8 else 0
def Yg(l:Bl):Nat→Int
 | 0=>0
 | i+1=>if Yg l i≠0 then Yg l i else Ts l i
theorem Ct{l:Bl}{i:Nat}(h:Yg l i≠0):∀ n,i≤n→Yg l n=Yg l i
 | 0,h2=>by
  obtain rfl:i=0:=by omega
  rfl
 | n+1,h2=>by
   by_cases e:i=n+1
   ·rw[e]
   ·have ih:=Ct h n (by omega)
    rw[Yg,if_pos (by rw[ih];exact h),ih]
theorem Af{l:Bl}{i n:Nat}(h:Yg l i=0)(he:Ts l i≠0)(hi:i<n):Yg l n=Ts l i:=by
 have e:Yg l (i+1)=Ts l i:=by rw[Yg,if_neg (by rw[h];decide)]
 rw[Ct (by rw[e];exact he) n hi,e]
theorem Pd{l:Bl}{i:Nat}(h:Yg l i=0)(he:Ts l i=0):Yg l (i+1)=0:=by rw[Yg,if_neg (by rw[h];decide),he]
theorem keyE_R{l:Bl}{i:Nat}:keyR (Vt l i) i (Ir l i:Int)=Ts l i:=by
 unfold keyR Ts
 by_cases h:281474976710655<Ir l i
 ·rw[if_pos (by omega),if_pos h]
 ·rw[if_neg (by omega),if_neg h]
  by_cases h2:0<i
  ·rw[Zb8 l (show i-1<i by omega)]
   by_cases h3:Ir l i≤Ir l (i-1)
   ·rw[if_pos (by omega),if_pos (by omega)]
   ·rw[if_neg (by omega),if_neg (by omega)]
  ·rw[if_neg (by omega),if_neg (by omega)]
def Za0(l:Bl):Nat:=12+Zt l*8
def node1(l:Bl):Nat:=12+Ku l*8
def Ob(l:Bl):Nat:=node1 l+Zt l*Vz l
def Zel(l:Bl):Bool:=Hc ((l.drop (Za0 l)).take (node1 l-Za0 l))&&Hc ((l.drop (Ob l)).take (244-Ob l))
def Jm(l:Bl):Int:=if Fk l then(if Zel l then Yg l (Zt l) else 7) else 7
def NodeP(l:Bl)(w:World)(e:Ending)(w':World):Prop :=
 (Jm l≠0∧e=.returned (.tuple #[.agg #[V0 0,.bool false,S0,S0],V0 (Jm l)])∧B3 w w') ∨
 (Jm l=0∧∃ kp kc vp vc,e=.returned (.tuple #[.agg #[V0 (Qm l),.bool (Xp l),.slice kp (Zt l) kc,.slice vp (Zt l) vc],V0 0])∧B3 w w' ∧
  w'.ownsRow w.heap.size 3 1 (.slice kp (Zt l) kc) (Zt l) ((Vt l (Zt l)).map V0)∧w'.ownsRow w.heap.size 9 1 (.slice vp (Zt l) vc) (Zt l) ((Hz l (Zt l)).map sv))
theorem Uq{l:Bl}(h:Fk l=true):Zt l≤Ku l:=(of_decide_eq_true h).2.2.1
theorem Am(a:O0)(n c:Nat)(l:Bl)(w:World)(hn:l.length=n)(hl:n≤100000000)(h:Bys w (.slice a n c) l):C0 213 #[.slice a n c] w (Ret (.bool (Hc l)) w):=by
 subst hn;exact code_Zero a c l w hl h
theorem valN_bys{a:O0}{c i:Nat}{l:Bl}{w:World}(h:Bys w (.slice a 244 c) l)(hl:l.length=244)(hb:12+Ku l*8+(i+1)*Vz l≤244)(hi:(i+1)*Vz l=i*Vz l+Vz l) :
 Bys w (.slice (Wh a (12+Ku l*8+i*Vz l) c 1) (12+Ku l*8+(i+1)*Vz l-(12+Ku l*8+i*Vz l)) (c-(12+Ku l*8+i*Vz l))) (Zhn l i):=by
 have:=Bys.cut h hl (12+Ku l*8+i*Vz l) (12+Ku l*8+(i+1)*Vz l) (by omega) hb
 rw[show 12+Ku l*8+(i+1)*Vz l-(12+Ku l*8+i*Vz l)=Vz l by omega] at this ⊢
 exact this
theorem valN_lenN{i:Nat}{l:Bl}(hl:l.length=244)(hb:12+Ku l*8+(i+1)*Vz l≤244)(hi:(i+1)*Vz l=i*Vz l+Vz l):(Zhn l i).length=12+Ku l*8+(i+1)*Vz l-(12+Ku l*8+i*Vz l):=by
 unfold Zhn;simp only[List.length_take,List.length_drop];omega
def GetP(l:Bl)(k w:Nat)(W:World)(e:Ending)(w':World):Prop :=
 (Zm l k w<9223372036854775808∧e=.returned (.tuple #[V0 (Zm l k w:Int),V0 0])∧B3 W w')∨(¬ Zm l k w<9223372036854775808∧e=.returned (.tuple #[V0 0,V0 2])∧B3 W w')
theorem Get_P(a:O0)(n c k w:Nat)(l:Bl)(W:World)(hn:l.length=n)(hw:w=1∨w=2∨w=4∨w=8)(hk:k+w≤n)(hl:n≤100000000)(h:Bys W (.slice a n c) l)(wi:Int)(hwi:wi=(w:Int)) :
 C0 78 #[.slice a n c,V0 (k:Int),V0 wi] W (GetP l k w W):=by
 subst hn hwi
 by_cases hq:Zm l k w<9223372036854775808
 ·refine(Zgh a c k w l W hw hk hl h hq).mono ?_
  rintro e V ⟨rfl,hb⟩;exact .inl ⟨hq,rfl,hb⟩
 ·refine(Get_big a c k w l W hw hk hl h hq).mono ?_
  rintro e V ⟨rfl,hb⟩;exact .inr ⟨hq,rfl,hb⟩
theorem node_keyP(l:Bl)(a:O0)(i c:Nat)(w:World)(h:Sl w (.slice a i c) i ((Vt l i).map V0))(hi:i≤1000) :
 C0 214 #[.slice a i c,V0 (↑(Ir l i):Int)] w (fun e w'=>(Ts l i=0∧e=.returned (V0 0)∧B3 w w')∨(Ts l i≠0∧e=.returned (V0 (Ts l i))∧B3 w w')):=by
 refine(node_keyG a i c (Vt l i) (Ir l i) w (Hx l i) h hi).mono ?_
 rintro e W ⟨rfl,hb⟩
 rw[keyE_R]
 by_cases hz:Ts l i=0
 ·exact .inl ⟨hz,by rw[hz],hb⟩
 ·exact .inr ⟨hz,rfl,hb⟩
theorem node_Read(a:O0)(c:Nat)(l:Bl)(w:World)(hl:l.length=244)(h:Bys w (.slice a 244 c) l) :
 C0 153 #[.slice a 244 c] w (NodeP l w):=by
 have m5:=Bys.cap h hl
 refine zin 104 Tryz.func153 ?_
 refine xa 2 [V0 0,.bool false,S0,S0] 183 fun b1 W1 n1=>?_
 refine xc 6 (args:=#[.slice a 244 c]) (node_shape a c l _ hl (h.below n1.below)) ?_
 rintro e W2 l9
 rcases l9 with ⟨hs,t0,l0,c0,rfl,f0⟩|⟨hs,rfl,f0⟩
 ·refine xa 4 [V0 0,.bool false,S0,S0] 183 fun b3 W3 n3=>?_
  have k1:=n1.blk.below f0
  have e9:=n3.ne k1
  have e8:=bln n1.below f0
  have g3:=n3.ge e8
  refine xsv 0 n3.blk [V0 t0,.bool l0,S0,S0] fun W4 u4 k4=>?_
  have j2:=u4.blk (k1.below n3.below) (Ne.symm (Ne.symm e9))
  refine xsv 15 j2 [V0 0,.bool false,S0,S0] fun W5 u5 k5=>?_
  have g1:=n1.ge (B4 w)
  have i1:=u5.below (u4.below (bln e8 n3.below) g3) g1
  refine xec 5 k5 (.tuple #[.agg #[V0 0,.bool false,S0,S0],V0 7]) ?_
  have he:Jm l=7:=by unfold Jm;simp[hs]
  exact .inl ⟨by rw[he];decide,by rw[he],i1⟩
 have m9:=Uq hs
 have j4:=fitG (Qm l) (Xp l)
 have i4:=maxG_le (Qm l) (Xp l)
 have h7:=widG_le (Qm l) (Xp l)
 change 12+Ku l*8+Ku l*Vz l≤244 at j4
 change Ku l≤18 at i4
 change Vz l≤24 at h7
 have p1:Zt l*Vz l≤Ku l*Vz l:=Nat.mul_le_mul_right _ m9
 refine xa 4 [V0 0,.bool false,S0,S0] 183 fun b6 W6 n6=>?_
 have k1:=n1.blk.below f0
 have a3:=n6.ne k1
 have f6:=bln n1.below f0
 have g6:=n6.ge f6
 refine xsv 0 n6.blk [V0 (Qm l),.bool (Xp l),S0,S0] fun W7 u7 k7=>?_
 refine xd 15 .z ?_
 have c1:=k7.below (Za W7)
 refine xb (.e [0] 1) 0 c1 ?_
 refine xb (.e [2] 3) 1 c1 ?_
 refine xb (.e [5] 6) 0 c1 ?_
 refine xb (.e [7] 8) 1 c1 ?_
 refine xr (.o [] 4) (args:=#[V0 (Qm l),.bool (Xp l)]) (Mr (Qm l) (Xp l) _) fun W8 g2=>?_
 refine xr (.o [] 9) (args:=#[V0 (Qm l),.bool (Xp l)]) (Zcb (Qm l) (Xp l) _) fun W9 h2=>?_
 refine xwm (.r [10,11] 5) ((↑(Ku l):Int)*8) (↑((Ku l)*8):Int) ?_
 refine xwm 0 (12+(↑((Ku l)*8):Int)) (↑(12+((Ku l)*8)):Int) ?_
 refine xwm 8 ((↑(Zt l):Int)*8) (↑((Zt l)*8):Int) ?_
 refine xwm 0 (12+(↑((Zt l)*8):Int)) (↑(12+((Zt l)*8)):Int) ?_
 refine xsB 1 (fun _ _ _ _ _ zo zx zy zz V=>Ws (k:=(12+((Zt l)*8))) (h:=(12+((Ku l)*8))) (b:=a) (n:=244) (c:=c) (i:=(↑(12+((Zt l)*8)):Int)) (ki:=.i64) (j:=(↑(12+((Ku l)*8)):Int)) (kj:=.i64) 1 zo zx zy rfl zz rfl (by omega) (by omega) Tryz.underlying22 (by kernel_rfl) V) ?_
 have e2:=bln (bln (bln (u7.below (bln f6 n6.below) g6) (Za W7)) g2) h2
 refine xr 0 (args:=#[.slice (Wh a (12+((Zt l)*8)) c 1) ((12+((Ku l)*8))-(12+((Zt l)*8))) (c-(12+((Zt l)*8)))]) (Am (Wh a (12+((Zt l)*8)) c 1) ((12+((Ku l)*8))-(12+((Zt l)*8))) (c-(12+((Zt l)*8))) _ _ (by simp;omega) (by omega) ((Bys.cut h hl (12+((Zt l)*8)) (12+((Ku l)*8)) (by omega) (by omega)).below e2)) fun p8 b4=>?_
 refine xg 2 [42,43] (!(Hc ((l.drop (Za0 l)).take (node1 l-Za0 l)))) (fun e3=>?_) (fun e3=>?_)
 ·have h4:Hc ((l.drop (Za0 l)).take (node1 l-Za0 l))=false:=by simpa using e3
  have i3:=((((u7.blk (k1.below n6.below) (Ne.symm (Ne.symm a3))).below (Za W7)).below g2).below h2).below b4
  refine xsv 16 i3 [V0 0,.bool false,S0,S0] fun p4 m8 l5=>?_
  have g1:=n1.ge (B4 w)
  have i8:=m8.below (bln e2 b4) g1
  refine xec 5 l5 (.tuple #[.agg #[V0 0,.bool false,S0,S0],V0 7]) ?_
  have he:Jm l=7:=by unfold Jm;simp[hs,Zel,h4]
  exact .inl ⟨by rw[he];decide,by rw[he],i8⟩
 have h4:Hc ((l.drop (Za0 l)).take (node1 l-Za0 l))=true:=by simpa using e3
 refine xwm 4 ((↑(Zt l):Int)*(↑(Vz l):Int)) (↑((Zt l)*(Vz l)):Int) ?_
 refine xwm 0 ((↑(12+((Ku l)*8)):Int)+(↑((Zt l)*(Vz l)):Int)) (↑((12+((Ku l)*8))+((Zt l)*(Vz l))):Int) ?_
 refine xsL 0 (fun _ _ _ _ zo zx zy V=>Mq (k:=((12+((Ku l)*8))+((Zt l)*(Vz l)))) (b:=a) (n:=244) (c:=c) (i:=(↑((12+((Ku l)*8))+((Zt l)*(Vz l))):Int)) (ki:=.i64) 1 zo zx zy rfl (by omega) Tryz.underlying22 (by kernel_rfl) V) ?_
 have e0:=bln e2 b4
 refine xr 0 (args:=#[.slice (Wh a ((12+((Ku l)*8))+((Zt l)*(Vz l))) c 1) (244-((12+((Ku l)*8))+((Zt l)*(Vz l)))) (c-((12+((Ku l)*8))+((Zt l)*(Vz l))))]) (Am (Wh a ((12+((Ku l)*8))+((Zt l)*(Vz l))) c 1) (244-((12+((Ku l)*8))+((Zt l)*(Vz l)))) (c-((12+((Ku l)*8))+((Zt l)*(Vz l)))) _ _ (by simp;omega) (by omega) ((Bys.cut h hl (12+((Ku l)*8)+((Zt l)*(Vz l))) 244 (by omega) (by omega)).below e0)) fun p2 c2=>?_
 refine xi 4 (!(Hc ((l.drop (Ob l)).take (244-Ob l)))) (fun d9=>?_) (fun d9=>?_)
 ·have i9:Hc ((l.drop (Ob l)).take (244-Ob l))=false:=by simpa using d9
  have h5:=(((((u7.blk (k1.below n6.below) (Ne.symm (Ne.symm a3))).below (Za W7)).below g2).below h2).below b4).below c2
  refine xsv 3 h5 [V0 0,.bool false,S0,S0] fun q0 m3 l8=>?_
  have g1:=n1.ge (B4 w)
  have i0:=m3.below (bln e0 c2) g1
  refine xec 5 l8 (.tuple #[.agg #[V0 0,.bool false,S0,S0],V0 7]) ?_
  have he:Jm l=7:=by unfold Jm;simp[hs,Zel,h4,i9]
  exact .inl ⟨by rw[he];decide,by rw[he],i0⟩
 have i9:Hc ((l.drop (Ob l)).take (244-Ob l))=true:=by simpa using d9
 have j9:Zel l=true:=by unfold Zel;rw[h4,i9];rfl
 have i6:=bln e0 c2
 have j7:=(((((u7.blk (k1.below n6.below) (Ne.symm (Ne.symm a3))).below (Za W7)).below g2).below h2).below b4).below c2
 have j3:=(((c1.below g2).below h2).below b4).below c2
 refine zl 10 104 (fun zm l2 V=>∃ (i:Nat) (kp:O0) (kc:Nat) (vp:O0) (vc:Nat),l2=[(0,.slice a 244 c),(2,P0 b1),(4,P0 b6),(7,V0 (↑(Vz l):Int)),(9,V0 (↑(12+((Ku l)*8)):Int)),(55,V0 (↑(Zt l):Int)),(56,V0 (i:Int))]∧zm=Zt l-((i:Int)).toNat∧B3 w V∧Blk V b1 ([V0 0,.bool false,S0,S0]) 183∧Blk V b6 ([V0 (Qm l),.bool (Xp l),.slice kp i kc,.slice vp i vc]) 183∧V.ownsRow w.heap.size 3 1 (.slice kp i kc) i ((Vt l i).map V0)∧V.ownsRow w.heap.size 9 1 (.slice vp i vc) i ((Hz l i).map sv)∧i≤Zt l∧Yg l i=0) ⟨0,none,0,none,0,rfl,rfl,i6,j7,j3,World.ownsRow_nil _ _ _ _,World.ownsRow_nil _ _ _ _,Nat.zero_le _,rfl⟩ ?_
 rintro _ _ o4 ⟨i,kp,kc,vp,vc,rfl,rfl,a6,a0,b9,hK,hV,hi,hz⟩ n8 f7 o1
 have k9:(i+1)*Vz l=i*Vz l+Vz l:=Nat.succ_mul i (Vz l)
 have l4:i<Zt l→(i+1)*Vz l≤Ku l*Vz l:=fun hh=>Nat.mul_le_mul_right _ (by omega)
 refine xid 6 ((i:Int)<(↑(Zt l):Int)) (fun j6=>?_) (fun j6=>?_)
 ·refine xwm 14 ((i:Int)*8) (↑(i*8):Int) ?_
  refine xwm 0 (12+(↑(i*8):Int)) (↑(12+(i*8)):Int) ?_
  refine xc 0 (args:=#[.slice a 244 c,V0 (↑(12+(i*8)):Int),V0 8]) (Get_P a 244 c (12+(i*8)) 8 l _ hl (by decide) (by omega) (by decide) (h.below a6) 8 rfl) ?_
  rintro e o0 h8
  rcases h8 with ⟨m2,rfl,a2⟩|⟨m2,rfl,a2⟩
  ·have a5:=b9.below a2
   refine xb 17 2 a5 ?_
   have e7:=Zb hK a2
   refine xc 1 (args:=#[.slice kp i kc,V0 (↑(Ir l i):Int)]) (node_keyP l kp i kc _ (Zf e7) (by omega)) ?_
   rintro e p5 k3
   rcases k3 with ⟨e5,rfl,a4⟩|⟨e5,rfl,a4⟩
   ·have a8:=a5.below a4
    refine xb 16 2 a8 ?_
    refine xbs 1 1 [V0 (↑(Ir l i):Int)] 3 fun o9 o7 c8=>?_
    have f3:=bln (bln a6 a2) a4
    have n9:=c8.ge f3
    have h0:=Zb e7 a4
    have i2:=Zu h0 c8
    have b8:=Zb h0 c8.below
    have d3:=bln f3 c8.below
    refine xbi 0 fun _ _ _ _ zJ zQ zo zx zy zK=>Xd (m:=1) (news:=[V0 (↑(Ir l i):Int)]) (V0 0) 1 8 (i+1) ((Vt l (i+1)).map V0) zo Tryz.underlying35 (by kernel_rfl) rfl (by decide) zx b8 zy (c8.blk.sl 1 1 (by decide) (by decide)) rfl (by simp[Value.oneCell']) (by unfold maxLen;omega) (by omega) d3.size (by rfl) (by rw[keysI_snoc,List.map_append];rfl) fun e1 e4 n7 k6 c7 h6=>?_
    refine zK _ _ ?_
    have a1:=(a8.below c8.below).grown c7 b8 (by decide)
    refine xs 1 a1 [V0 (Qm l),.bool (Xp l),.slice e1 (i+1) e4,.slice vp i vc] fun d4 e6 l1=>?_
    refine xd 2 (.t w.heap.size [9,183]) ?_
    refine xwm (.e [0,2,3,4,5] 6) ((i:Int)*(↑(Vz l):Int)) (↑(i*(Vz l)):Int) ?_
    refine xwm (.e [] 7) ((↑(12+((Ku l)*8)):Int)+(↑(i*(Vz l)):Int)) (↑((12+((Ku l)*8))+(i*(Vz l))):Int) ?_
    refine xwm (.e [8,9] 10) ((i:Int)+1) (↑(i+1):Int) ?_
    refine xwm (.e [11] 12) ((↑(i+1):Int)*(↑(Vz l):Int)) (↑((i+1)*(Vz l)):Int) ?_
    refine xwm (.e [] 13) ((↑(12+((Ku l)*8)):Int)+(↑((i+1)*(Vz l)):Int)) (↑((12+((Ku l)*8))+((i+1)*(Vz l))):Int) ?_
    refine xsB (.e [] 14) (fun _ _ _ _ _ zo zx zy zz V=>Ws (k:=((12+((Ku l)*8))+(i*(Vz l)))) (h:=((12+((Ku l)*8))+((i+1)*(Vz l)))) (b:=a) (n:=244) (c:=c) (i:=(↑((12+((Ku l)*8))+(i*(Vz l))):Int)) (ki:=.i64) (j:=(↑((12+((Ku l)*8))+((i+1)*(Vz l))):Int)) (kj:=.i64) 1 zo zx zy rfl zz rfl (by omega) (by omega) Tryz.underlying22 (by kernel_rfl) V) ?_
    have b2:=Zb (e6.own2 (Zr (Zb (Zb (Zb hV a2) a4) c8.below) c7 b8 (by decide)) a1 (by decide)) (Za d4)
    have a7:=bln (e6.below (d3.trans h6) g6) (Za d4)
    refine xcvt (.e [] 15) (.t w.heap.size [9,183]) (fun _ _ _ zo zx V b2=>Nc zo zx ((valN_bys h hl (by omega) k9).below (Of a7 b2 (Nat.le_refl _))) (valN_lenN hl (by omega) k9) Tryz.underlying22 Tryz.underlying5 Tryz.underlying9) ?_
    refine xm2 0 1 16 ?_ ?_
    ·have d2:=l1.below (Za d4)
     refine xb 0 3 d2 ?_
     refine xbs (.o [] 16) 1 [.string ⟨(Zhn l i).toArray⟩] 9 fun o8 n4 d7=>?_
     have o6:=d7.ge a7
     have i7:=Zu b2 d7
     have b5:=Zb b2 d7.below
     have d5:=bln a7 d7.below
     refine ybi (.o [] 17) (.t w.heap.size [9,183]) fun _ _ _ _ zJ zQ zo zx zy zK=>Xd (m:=1) (news:=[.string ⟨(Zhn l i).toArray⟩]) (.string ⟨#[]⟩) 1 16 (i+1) ((Hz l (i+1)).map sv) zo Tryz.underlying134 (by kernel_rfl) rfl (by decide) zx b5 zy (d7.blk.sl 1 1 (by decide) (by decide)) rfl (by simp[Value.oneCell']) (by unfold maxLen;omega) (by omega) d5.size (by rfl) (by rw[Iq,List.map_append];rfl) fun h9 j5 n2 l6 d0 h3=>?_
     refine zK _ _ (Xv h3 d0 b5 (by decide)) ?_
     have a9:=(d2.below d7.below).grown d0 b5 (by decide)
     refine ys (.o [18] 19) a9 [V0 (Qm l),.bool (Xp l),.slice e1 (i+1) e4,.slice h9 (i+1) j5] (.t w.heap.size [9,183]) fun p9 g7 m6=>⟨(Zl g7 a9 g6 (by decide)),?_⟩
     refine xwm 4 ((i:Int)+1) (↑(i+1):Int) ?_
     have g0:=g7.below (d5.trans h3) g6
     have c5:=g7.blk ((((e6.blk ((((a0.below a2).below a4).below c8.below).grown c7 b8 (by decide)) (Ne.symm (Ne.symm a3))).below (Za d4)).below d7.below).grown d0 b5 (by decide)) (Ne.symm (Ne.symm a3))
     have f8:=g7.own2 (Zr (Zb (Zb (e6.own2 k6 a1 (by decide)) (Za d4)) d7.below) d0 b5 (by decide)) a9 (by decide)
     have f5:=g7.own2 l6 a9 (by decide)
     exact ze 2 (f7 _ _ _ ⟨i+1,_,_,_,_,rfl,rfl,g0,c5,m6,f8,f5,by omega,Pd hz e5⟩ (by omega))
    refine xbs 0 1 [.string ⟨(Zhn l i).toArray⟩] 9 fun p0 n5 d8=>?_
    have p3:=d8.ge a7
    have j1:=Zu b2 d8
    have d6:=(l1.below (Za d4)).below d8.below
    refine xb (.o [] 1) 3 d6 ?_
    have c4:=Zb b2 d8.below
    have d1:=bln a7 d8.below
    refine ybi (.o [] 17) (.t w.heap.size [9,183]) fun _ _ _ _ zJ zQ zo zx zy zK=>Xd (m:=1) (news:=[.string ⟨(Zhn l i).toArray⟩]) (.string ⟨#[]⟩) 1 16 (i+1) ((Hz l (i+1)).map sv) zo Tryz.underlying134 (by kernel_rfl) rfl (by decide) zx c4 zy (d8.blk.sl 1 1 (by decide) (by decide)) rfl (by simp[Value.oneCell']) (by unfold maxLen;omega) (by omega) d1.size (by rfl) (by rw[Iq,List.map_append];rfl) fun k0 k2 o5 m0 c9 g9=>?_
    refine zK _ _ (Xv g9 c9 c4 (by decide)) ?_
    have b0:=d6.grown c9 c4 (by decide)
    refine ys (.o [18] 19) b0 [V0 (Qm l),.bool (Xp l),.slice e1 (i+1) e4,.slice k0 (i+1) k2] (.t w.heap.size [9,183]) fun p6 h1 l3=>⟨(Zl h1 b0 g6 (by decide)),?_⟩
    refine xwm 4 ((i:Int)+1) (↑(i+1):Int) ?_
    have f4:=h1.below (d1.trans g9) g6
    have b7:=h1.blk ((((e6.blk ((((a0.below a2).below a4).below c8.below).grown c7 b8 (by decide)) (Ne.symm (Ne.symm a3))).below (Za d4)).below d8.below).grown c9 c4 (by decide)) (Ne.symm (Ne.symm a3))
    have g5:=h1.own2 (Zr (Zb (Zb (e6.own2 k6 a1 (by decide)) (Za d4)) d8.below) c9 c4 (by decide)) b0 (by decide)
    have f1:=h1.own2 m0 b0 (by decide)
    exact ze 2 (f7 _ _ _ ⟨i+1,_,_,_,_,rfl,rfl,f4,b7,l3,g5,f1,by omega,Pd hz e5⟩ (by omega))
   refine xk 10 (show(((Ts l i) != (0:Int)):Bool)=true from bne_iff_ne.2 e5) ?_
   have c3:=(a0.below a2).below a4
   refine xsv 4 c3 [V0 0,.bool false,S0,S0] fun p7 m1 m4=>?_
   have g1:=n1.ge (B4 w)
   have g8:=m1.below (bln (bln a6 a2) a4) g1
   refine xec 10 m4 (.tuple #[.agg #[V0 0,.bool false,S0,S0],V0 (Ts l i)]) ?_
   have he:Jm l=Ts l i:=by unfold Jm;rw[if_pos hs,if_pos j9,Af hz e5 (by omega)]
   exact .inl ⟨by rw[he];exact e5,by rw[he],g8⟩
  have c6:=a0.below a2
  refine xsv 29 c6 [V0 0,.bool false,S0,S0] fun o3 m7 l7=>?_
  have g1:=n1.ge (B4 w)
  have f2:=m7.below (bln a6 a2) g1
  refine xec 10 l7 (.tuple #[.agg #[V0 0,.bool false,S0,S0],V0 2]) ?_
  have k8:Ts l i=2:=by unfold Ts;rw[if_pos (by unfold Ir;omega)]
  have he:Jm l=2:=by unfold Jm;rw[if_pos hs,if_pos j9,Af hz (by rw[k8];decide) (by omega),k8]
  exact .inl ⟨by rw[he];decide,by rw[he],f2⟩
 refine xlv 7 b9.rp ?_
 refine xsv 0 a0 [V0 (Qm l),.bool (Xp l),.slice kp i kc,.slice vp i vc] fun o2 j0 n0=>?_
 have g1:=n1.ge (B4 w)
 have f9:=j0.below a6 g1
 have i5:=j0.own2 hK a0 (by decide)
 have j8:=j0.own2 hV a0 (by decide)
 refine xec 4 n0 (.tuple #[.agg #[V0 (Qm l),.bool (Xp l),.slice kp i kc,.slice vp i vc],V0 0]) ?_
 obtain rfl:i=Zt l:=by omega
 exact .inr ⟨by unfold Jm;rw[if_pos hs,if_pos j9,hz],_,_,_,_,rfl,f9,i5,j8⟩
theorem Da(g:Nat)(n:Int)(h0:0≤n)(hb:n<4294967296)(w:World)(hk:Blk w g [V0 4,V0 n] 235) :
 C0 131 #[.slice (S1 g) 1 1] w (Vo (fun w' r=>∃ p c,r=.tuple #[.slice p 4 c,V0 0]∧w'.ownsRow w.heap.size 5 1 (.slice p 4 c) 4 ((leB n 4).map bv)) w):=by
 refine zin 32 Tryz.func131 ?_
 refine xu 20 2 ?_
 refine xlv 14 hk.rp ?_
 refine xa 0 [V0 0,V0 0] 235 fun b1 W1 n1=>?_
 have a9:=n1.ne hk
 refine xsv 0 n1.blk [V0 4,V0 n] fun W2 u2 k2=>?_
 have g1:=n1.ge (B4 w)
 refine xb 6 0 k2 ?_
 refine xr 0 (args:=#[V0 4]) (Zal _) fun W3 a3=>?_
 have a1:=k2.below a3
 refine xb 10 1 a1 ?_
 refine xb 1 0 a1 ?_
 refine xr 0 (args:=#[V0 n,V0 4]) (Zgl (n) (h0) (hb) _) fun W4 a4=>?_
 have a2:=a1.below a4
 refine xb 9 1 a2 ?_
 refine xb 1 0 a2 ?_
 refine xc 0 (args:=#[V0 n,V0 4]) (Ot (n) (h0) _) ?_
 rintro _ W5 ⟨_,rfl,b4,a5⟩
 have b2:=(bln (bln (u2.below n1.below g1) a3) a4).size
 have a0:=Zh a5 b2
 unfold Np at a0
 rw[Zj] at a0
 obtain⟨b3,a7,rfl⟩:=(Zf a0).slice
 have o6:=World.ownsRow_nil W5 w.heap.size 5 1
 have hB:=bln (bln (bln (u2.below n1.below g1) a3) a4) b4
 refine xbi 0 fun _ _ _ _ zJ zQ zo zx zy zK=>Xd (m:=4) (news:=(leB (n) 4).map bv) (.int .u8 0) 1 1 (4) ((leB (n) 4).map bv) zo Tryz.underlying22 (by kernel_rfl) rfl (by decide) zx o6 zy (Zf a0) (by simp[Zj]) (Qn _) (by unfold maxLen;omega) (by omega) hB.size (by rfl) (by simp) fun b0 a8 W7 o7 b6 b5=>?_
 refine zK _ _ ?_
 have a6:=hB.trans b5
 exact xe 29 (.tuple #[.slice b0 4 a8,V0 0]) ⟨_,rfl,a6,_,_,rfl,o7⟩
theorem Pack_8(g:Nat)(n:Int)(h0:0≤n)(w:World)(hk:Blk w g [V0 8,V0 n] 235) :
 C0 131 #[.slice (S1 g) 1 1] w (Vo (fun w' r=>∃ p c,r=.tuple #[.slice p 8 c,V0 0]∧w'.ownsRow w.heap.size 5 1 (.slice p 8 c) 8 ((leB n 8).map bv)) w):=by
 refine zin 32 Tryz.func131 ?_
 refine xu 20 2 ?_
 refine xlv 14 hk.rp ?_
 refine xa 0 [V0 0,V0 0] 235 fun b1 W1 n1=>?_
 have a9:=n1.ne hk
 refine xsv 0 n1.blk [V0 8,V0 n] fun W2 u2 k2=>?_
 have g1:=n1.ge (B4 w)
 refine xb 6 0 k2 ?_
 refine xr 0 (args:=#[V0 8]) (known_8 _) fun W3 a3=>?_
 have a1:=k2.below a3
 refine xb 10 1 a1 ?_
 refine xb 1 0 a1 ?_
 refine xr 0 (args:=#[V0 n,V0 8]) (fits_8 (n) (h0) _) fun W4 a4=>?_
 have a2:=a1.below a4
 refine xb 9 1 a2 ?_
 refine xb 1 0 a2 ?_
 refine xc 0 (args:=#[V0 n,V0 8]) (bytes_8 (n) (h0) _) ?_
 rintro _ W5 ⟨_,rfl,b4,a5⟩
 have b2:=(bln (bln (u2.below n1.below g1) a3) a4).size
 have a0:=Zh a5 b2
 unfold Np at a0
 rw[Zj] at a0
 obtain⟨b3,a7,rfl⟩:=(Zf a0).slice
 have o6:=World.ownsRow_nil W5 w.heap.size 5 1
 have hB:=bln (bln (bln (u2.below n1.below g1) a3) a4) b4
 refine xbi 0 fun _ _ _ _ zJ zQ zo zx zy zK=>Xd (m:=8) (news:=(leB (n) 8).map bv) (.int .u8 0) 1 1 (8) ((leB (n) 8).map bv) zo Tryz.underlying22 (by kernel_rfl) rfl (by decide) zx o6 zy (Zf a0) (by simp[Zj]) (Qn _) (by unfold maxLen;omega) (by omega) hB.size (by rfl) (by simp) fun b0 a8 W7 o7 b6 b5=>?_
 refine zK _ _ ?_
 have a6:=hB.trans b5
 exact xe 29 (.tuple #[.slice b0 8 a8,V0 0]) ⟨_,rfl,a6,_,_,rfl,o7⟩
theorem Pack_node(g:Nat)(f t k v m:Int)(hf:0≤f)(hf2:f<256)(ht:0≤t)(ht2:t<256)(hk1:0≤k)(hk2:k<65536)(hv:0≤v)(hv2:v<65536)(hm:0≤m)(hm2:m<65536)(w:World)(hk:Blk w g [V0 1,V0 f,V0 1,V0 t,V0 2,V0 k,V0 2,V0 v,V0 2,V0 m,V0 4,V0 0] 235) :
 C0 131 #[.slice (S1 g) 6 6] w (Vo (fun w' r=>∃ p c,r=.tuple #[.slice p 12 c,V0 0]∧w'.ownsRow w.heap.size 5 1 (.slice p 12 c) 12 ((leB f 1++leB t 1++leB k 2++leB v 2++leB m 2++leB 0 4).map bv)) w):=by
 refine zin 32 Tryz.func131 ?_
 refine xu 20 7 ?_
 refine xlv 14 (hk.rpp 0 2) ?_
 refine xa 0 [V0 0,V0 0] 235 fun b1 W1 n1=>?_
 have l7:=n1.ne hk
 refine xsv 0 n1.blk [V0 1,V0 f] fun W2 u2 k2=>?_
 have g1:=n1.ge (B4 w)
 refine xb 6 0 k2 ?_
 refine xr 0 (args:=#[V0 1]) (Zdf _) fun W3 j9=>?_
 have g6:=k2.below j9
 refine xb 10 1 g6 ?_
 refine xb 1 0 g6 ?_
 refine xr 0 (args:=#[V0 f,V0 1]) (fits_1 (f) (hf) (hf2) _) fun W4 j6=>?_
 have h2:=g6.below j6
 refine xb 9 1 h2 ?_
 refine xb 1 0 h2 ?_
 refine xc 0 (args:=#[V0 f,V0 1]) (bytes_1 (f) (hf) _) ?_
 rintro _ W5 ⟨_,rfl,m4,k3⟩
 have o9:=(bln (bln (u2.below n1.below g1) j9) j6).size
 have a3:=Zh k3 o9
 unfold Np at a3
 rw[Zj] at a3
 obtain⟨o1,q9,rfl⟩:=(Zf a3).slice
 have o6:=World.ownsRow_nil W5 w.heap.size 5 1
 have hB:=bln (bln (bln (u2.below n1.below g1) j9) j6) m4
 refine xbi 0 fun _ _ _ _ zJ zQ zo zx zy zK=>Xd (m:=1) (news:=(leB (f) 1).map bv) (.int .u8 0) 1 1 (1) ((leB (f) 1).map bv) zo Tryz.underlying22 (by kernel_rfl) rfl (by decide) zx o6 zy (Zf a3) (by simp[Zj]) (Qn _) (by unfold maxLen;omega) (by omega) hB.size (by rfl) (by simp) fun t8 r3 W7 o7 n9 q2=>?_
 refine zK _ _ ?_
 have g2:=((((u2.blk (hk.below n1.below) (Ne.symm (Ne.symm l7))).below j9).below j6).below m4).grown n9 o6 (by decide)
 refine xlv 23 (g2.rpp 2 2) ?_
 refine xa 0 [V0 0,V0 0] 235 fun b8 W8 n8=>?_
 have l1:=n8.ne g2
 have i4:=(h2.below m4).grown n9 o6 (by decide)
 have h5:=n8.ne i4
 have f0:=hB.trans q2
 have g8:=n8.ge f0
 refine xsv 0 n8.blk [V0 1,V0 t] fun W9 u9 k9=>?_
 refine xb 6 0 k9 ?_
 refine xr 0 (args:=#[V0 1]) (Zdf _) fun u0 c3=>?_
 have e9:=k9.below c3
 refine xb 10 1 e9 ?_
 refine xb 1 0 e9 ?_
 refine xr 0 (args:=#[V0 t,V0 1]) (fits_1 (t) (ht) (ht2) _) fun u3 c2=>?_
 have g7:=e9.below c2
 refine xb 9 1 g7 ?_
 refine xb 1 0 g7 ?_
 refine xc 0 (args:=#[V0 t,V0 1]) (bytes_1 (t) (ht) _) ?_
 rintro _ t2 ⟨_,rfl,c9,l6⟩
 have k1:=(bln (bln (u9.below (bln f0 n8.below) g8) c3) c2).size
 have a5:=Zh l6 k1
 unfold Np at a5
 rw[Zj] at a5
 obtain⟨q6,p5,rfl⟩:=(Zf a5).slice
 have d8:=Zb (Zb (Zb (u9.own2 (Zb o7 n8.below) n8.blk (by decide)) c3) c2) c9
 have h7:=bln (bln (bln (u9.below (bln f0 n8.below) g8) c3) c2) c9
 refine xbi 0 fun _ _ _ _ zJ zQ zo zx zy zK=>Xd (m:=1) (news:=(leB (t) 1).map bv) (.int .u8 0) 1 1 (2) ((leB (f) 1++leB (t) 1).map bv) zo Tryz.underlying22 (by kernel_rfl) rfl (by decide) zx d8 zy (Zf a5) (by simp[Zj]) (Qn _) (by unfold maxLen;omega) (by omega) h7.size (by rfl) (by simp) fun p0 p2 s9 o8 f3 l9=>?_
 refine zK _ _ ?_
 have g5:=((((u9.blk (g2.below n8.below) (Ne.symm (Ne.symm l1))).below c3).below c2).below c9).grown f3 d8 (by decide)
 refine xlv 23 (g5.rpp 4 2) ?_
 refine xa 0 [V0 0,V0 0] 235 fun s2 t0 c6=>?_
 have h8:=c6.ne g5
 have i3:=((((u9.blk (i4.below n8.below) (Ne.symm (Ne.symm h5))).below c3).below c2).below c9).grown f3 d8 (by decide)
 have f2:=c6.ne i3
 have j3:=(g7.below c9).grown f3 d8 (by decide)
 have g9:=c6.ne j3
 have f9:=h7.trans l9
 have n6:=c6.ge f9
 refine xsv 0 c6.blk [V0 2,V0 k] fun u5 h3 n5=>?_
 refine xb 6 0 n5 ?_
 refine xr 0 (args:=#[V0 2]) (Oh _) fun s1 b7=>?_
 have d0:=n5.below b7
 refine xb 10 1 d0 ?_
 refine xb 1 0 d0 ?_
 refine xr 0 (args:=#[V0 k,V0 2]) (Zf0 (k) (hk1) (hk2) _) fun t4 b6=>?_
 have d5:=d0.below b6
 refine xb 9 1 d5 ?_
 refine xb 1 0 d5 ?_
 refine xc 0 (args:=#[V0 k,V0 2]) (Oj (k) (hk1) _) ?_
 rintro _ r7 ⟨_,rfl,c4,l4⟩
 have m7:=(bln (bln (h3.below (bln f9 c6.below) n6) b7) b6).size
 have a7:=Zh l4 m7
 unfold Np at a7
 rw[Zj] at a7
 obtain⟨p7,o3,rfl⟩:=(Zf a7).slice
 have b0:=Zb (Zb (Zb (h3.own2 (Zb o8 c6.below) c6.blk (by decide)) b7) b6) c4
 have i9:=bln (bln (bln (h3.below (bln f9 c6.below) n6) b7) b6) c4
 refine xbi 0 fun _ _ _ _ zJ zQ zo zx zy zK=>Xd (m:=2) (news:=(leB (k) 2).map bv) (.int .u8 0) 1 1 (4) ((leB (f) 1++leB (t) 1++leB (k) 2).map bv) zo Tryz.underlying22 (by kernel_rfl) rfl (by decide) zx b0 zy (Zf a7) (by simp[Zj]) (Qn _) (by unfold maxLen;omega) (by omega) i9.size (by rfl) (by simp) fun q1 q7 t6 p1 d6 k5=>?_
 refine zK _ _ ?_
 have h0:=((((h3.blk (g5.below c6.below) (Ne.symm (Ne.symm h8))).below b7).below b6).below c4).grown d6 b0 (by decide)
 refine xlv 23 (h0.rpp 6 2) ?_
 refine xa 0 [V0 0,V0 0] 235 fun s6 s4 c0=>?_
 have j2:=c0.ne h0
 have h6:=((((h3.blk (i3.below c6.below) (Ne.symm (Ne.symm f2))).below b7).below b6).below c4).grown d6 b0 (by decide)
 have g0:=c0.ne h6
 have h4:=((((h3.blk (j3.below c6.below) (Ne.symm (Ne.symm g9))).below b7).below b6).below c4).grown d6 b0 (by decide)
 have f8:=c0.ne h4
 have e4:=(d5.below c4).grown d6 b0 (by decide)
 have e0:=c0.ne e4
 have f6:=i9.trans k5
 have n3:=c0.ge f6
 refine xsv 0 c0.blk [V0 2,V0 v] fun r6 f4 n4=>?_
 refine xb 6 0 n4 ?_
 refine xr 0 (args:=#[V0 2]) (Oh _) fun t3 b4=>?_
 have d2:=n4.below b4
 refine xb 10 1 d2 ?_
 refine xb 1 0 d2 ?_
 refine xr 0 (args:=#[V0 v,V0 2]) (Zf0 (v) (hv) (hv2) _) fun r2 b2=>?_
 have c8:=d2.below b2
 refine xb 9 1 c8 ?_
 refine xb 1 0 c8 ?_
 refine xc 0 (args:=#[V0 v,V0 2]) (Oj (v) (hv) _) ?_
 rintro _ r1 ⟨_,rfl,b9,m2⟩
 have m3:=(bln (bln (f4.below (bln f6 c0.below) n3) b4) b2).size
 have a8:=Zh m2 m3
 unfold Np at a8
 rw[Zj] at a8
 obtain⟨q3,p8,rfl⟩:=(Zf a8).slice
 have a1:=Zb (Zb (Zb (f4.own2 (Zb p1 c0.below) c0.blk (by decide)) b4) b2) b9
 have i1:=bln (bln (bln (f4.below (bln f6 c0.below) n3) b4) b2) b9
 refine xbi 0 fun _ _ _ _ zJ zQ zo zx zy zK=>Xd (m:=2) (news:=(leB (v) 2).map bv) (.int .u8 0) 1 1 (6) ((leB (f) 1++leB (t) 1++leB (k) 2++leB (v) 2).map bv) zo Tryz.underlying22 (by kernel_rfl) rfl (by decide) zx a1 zy (Zf a8) (by simp[Zj]) (Qn _) (by unfold maxLen;omega) (by omega) i1.size (by rfl) (by simp) fun o2 q4 u1 p9 d4 m8=>?_
 refine zK _ _ ?_
 have f5:=((((f4.blk (h0.below c0.below) (Ne.symm (Ne.symm j2))).below b4).below b2).below b9).grown d4 a1 (by decide)
 refine xlv 23 (f5.rpp 8 2) ?_
 refine xa 0 [V0 0,V0 0] 235 fun s7 r5 b5=>?_
 have i7:=b5.ne f5
 have i2:=((((f4.blk (h6.below c0.below) (Ne.symm (Ne.symm g0))).below b4).below b2).below b9).grown d4 a1 (by decide)
 have g3:=b5.ne i2
 have h9:=((((f4.blk (h4.below c0.below) (Ne.symm (Ne.symm f8))).below b4).below b2).below b9).grown d4 a1 (by decide)
 have h1:=b5.ne h9
 have e3:=((((f4.blk (e4.below c0.below) (Ne.symm (Ne.symm e0))).below b4).below b2).below b9).grown d4 a1 (by decide)
 have e1:=b5.ne e3
 have e5:=(c8.below b9).grown d4 a1 (by decide)
 have d9:=b5.ne e5
 have f1:=i1.trans m8
 have n7:=b5.ge f1
 refine xsv 0 b5.blk [V0 2,V0 m] fun s3 e8 n2=>?_
 refine xb 6 0 n2 ?_
 refine xr 0 (args:=#[V0 2]) (Oh _) fun t7 a6=>?_
 have d1:=n2.below a6
 refine xb 10 1 d1 ?_
 refine xb 1 0 d1 ?_
 refine xr 0 (args:=#[V0 m,V0 2]) (Zf0 (m) (hm) (hm2) _) fun t9 a9=>?_
 have d3:=d1.below a9
 refine xb 9 1 d3 ?_
 refine xb 1 0 d3 ?_
 refine xc 0 (args:=#[V0 m,V0 2]) (Oj (m) (hm) _) ?_
 rintro _ r9 ⟨_,rfl,b3,l2⟩
 have k8:=(bln (bln (e8.below (bln f1 b5.below) n7) a6) a9).size
 have a2:=Zh l2 k8
 unfold Np at a2
 rw[Zj] at a2
 obtain⟨p3,q5,rfl⟩:=(Zf a2).slice
 have a0:=Zb (Zb (Zb (e8.own2 (Zb p9 b5.below) b5.blk (by decide)) a6) a9) b3
 have i0:=bln (bln (bln (e8.below (bln f1 b5.below) n7) a6) a9) b3
 refine xbi 0 fun _ _ _ _ zJ zQ zo zx zy zK=>Xd (m:=2) (news:=(leB (m) 2).map bv) (.int .u8 0) 1 1 (8) ((leB (f) 1++leB (t) 1++leB (k) 2++leB (v) 2++leB (m) 2).map bv) zo Tryz.underlying22 (by kernel_rfl) rfl (by decide) zx a0 zy (Zf a2) (by simp[Zj]) (Qn _) (by unfold maxLen;omega) (by omega) i0.size (by rfl) (by simp) fun p6 o5 r8 o4 c1 m1=>?_
 refine zK _ _ ?_
 have i5:=((((e8.blk (f5.below b5.below) (Ne.symm (Ne.symm i7))).below a6).below a9).below b3).grown c1 a0 (by decide)
 refine xlv 23 (i5.rpp 10 2) ?_
 refine xa 0 [V0 0,V0 0] 235 fun s5 t1 c5=>?_
 have n0:=c5.ne i5
 have l5:=((((e8.blk (i2.below b5.below) (Ne.symm (Ne.symm g3))).below a6).below a9).below b3).grown c1 a0 (by decide)
 have l3:=c5.ne l5
 have l0:=((((e8.blk (h9.below b5.below) (Ne.symm (Ne.symm h1))).below a6).below a9).below b3).grown c1 a0 (by decide)
 have l8:=c5.ne l0
 have i6:=((((e8.blk (e3.below b5.below) (Ne.symm (Ne.symm e1))).below a6).below a9).below b3).grown c1 a0 (by decide)
 have j8:=c5.ne i6
 have j4:=((((e8.blk (e5.below b5.below) (Ne.symm (Ne.symm d9))).below a6).below a9).below b3).grown c1 a0 (by decide)
 have j7:=c5.ne j4
 have j5:=(d3.below b3).grown c1 a0 (by decide)
 have k0:=c5.ne j5
 have f7:=i0.trans m1
 have m9:=c5.ge f7
 refine xsv 0 c5.blk [V0 4,V0 0] fun r4 k6 o0=>?_
 refine xb 6 0 o0 ?_
 refine xr 0 (args:=#[V0 4]) (Zal _) fun u4 e2=>?_
 have c7:=o0.below e2
 refine xb 10 1 c7 ?_
 refine xb 1 0 c7 ?_
 refine xr 0 (args:=#[V0 0,V0 4]) (Zgl (0) (by decide) (by decide) _) fun s8 d7=>?_
 have e6:=c7.below d7
 refine xb 9 1 e6 ?_
 refine xb 1 0 e6 ?_
 refine xc 0 (args:=#[V0 0,V0 4]) (Ot (0) (by decide) _) ?_
 rintro _ s0 ⟨_,rfl,j1,k4⟩
 have k7:=(bln (bln (k6.below (bln f7 c5.below) m9) e2) d7).size
 have a4:=Zh k4 k7
 unfold Np at a4
 rw[Zj] at a4
 obtain⟨q8,q0,rfl⟩:=(Zf a4).slice
 have j0:=Zb (Zb (Zb (k6.own2 (Zb o4 c5.below) c5.blk (by decide)) e2) d7) j1
 have e7:=bln (bln (bln (k6.below (bln f7 c5.below) m9) e2) d7) j1
 refine xbi 0 fun _ _ _ _ zJ zQ zo zx zy zK=>Xd (m:=4) (news:=(leB (0) 4).map bv) (.int .u8 0) 1 1 (12) ((leB (f) 1++leB (t) 1++leB (k) 2++leB (v) 2++leB (m) 2++leB (0) 4).map bv) zo Tryz.underlying22 (by kernel_rfl) rfl (by decide) zx j0 zy (Zf a4) (by simp[Zj]) (Qn _) (by unfold maxLen;omega) (by omega) e7.size (by rfl) (by simp) fun m0 m6 t5 r0 p4 m5=>?_
 refine zK _ _ ?_
 have i8:=e7.trans m5
 exact xe 29 (.tuple #[.slice m0 12 m6,V0 0]) ⟨_,rfl,i8,_,_,rfl,r0⟩
theorem Me{P:Program}{a:Act}{w:World}{K:Act→World→Prop}{Q:Exit→Act→World→Prop}{o:Oper}{src dst e:TypeId}{x:Operand}(l:Bl)(ho:o.op=.convert src dst x)(hx:a.eval x=.string ⟨l.toArray⟩)
 (hs:P.underlying src=some .string) (hd:P.underlying dst=some (.slice e)) (he:P.underlying e=some (.int .u8)) (hl:l.length≤1000000)
 (k:∀ b c W,B3 w W→Bys W (.slice (S1 b) l.length c) l→K (a.put o.dst (.slice (S1 b) l.length c)) W):o.wp P a w K Q:=by
 have hr:=run_bytes_of_string (P:=P) w src dst e ⟨l.toArray⟩ hs hd he
 have a2:(⟨l.toArray⟩:ByteArray).size=l.length:=by simp[ByteArray.size]
 rw[a2] at hr
 obtain⟨W1,a1⟩:∃ W1,W1=w.drew.alloc (.cells (bytesRow ⟨l.toArray⟩ (grownCap w l.length 0 e)) e ((bytesRow ⟨l.toArray⟩ (grownCap w l.length 0 e)).size,(bytesRow ⟨l.toArray⟩ (grownCap w l.length 0 e)).size+1)):=⟨_,rfl⟩
 rw[←a1] at hr
 have h2:(execOp a.eval o).run P w=.ok (.value (.slice (some ⟨w.heap.size,0,none⟩) l.length (grownCap w l.length 0 e))) W1:=by
  simp only[execOp,ho,hx,Sem.run_bind,hr];rfl
 refine Ug h2 (k _ _ _ (by rw[a1];exact(Za w).trans (show Below w.drew.heap.size w.drew _ from blx w.drew _)) (.inr ⟨w.heap.size,0,_,rfl,grownCap_ge w l.length 0 e,grownCap_le_maxLen w l.length 0 e (by unfold maxLen;omega),fun j y hj=>?_⟩))
 have a0:j<l.length:=by have:=(List.getElem?_eq_some_iff.1 hj).1;simpa using this
 have hb:=bytesRow_at ⟨l.toArray⟩ (grownCap w l.length 0 e) j (by simpa using a0)
 have hy:y=.int .u8 ((l.toArray[j]'(by simpa using a0)).toNat:Int):=by
  rw[List.getElem?_map,List.getElem?_eq_getElem a0] at hj
  simp only[Option.map_some,Option.some.injEq] at hj
  rw[←hj];rfl
 have hh:W1.heap[w.heap.size]? = some (.cells (bytesRow ⟨l.toArray⟩ (grownCap w l.length 0 e)) e ((bytesRow ⟨l.toArray⟩ (grownCap w l.length 0 e)).size,(bytesRow ⟨l.toArray⟩ (grownCap w l.length 0 e)).size+1)):=by rw[a1];exact heap_alloc_new w.drew _
 rw[hy]
 simp[World.cell?,hh,hb]
def Xj(s:Bl):Int:=if s.length=4 then(if 1≤Zm s 0 4∧Zm s 0 4≤14399 then 0 else 2) else 7
def Xm(s:Bl):Nat:=if Xj s=0 then Zm s 0 4 else 0
theorem Zg7(bs:ByteArray)(i:Nat)(r:Bl)(h:i≤bs.size):(ByteArray.toList.loop bs i r).length=r.length+(bs.size-i):=by
 rw[ByteArray.toList.loop]
 split
 ·rename_i h2
  rw[Zg7 bs (i+1) _ (by omega)]
  simp;omega
 ·simp;omega
termination_by bs.size-i
theorem Ao(bs:ByteArray):bs.toList.length=bs.size:=by
 unfold ByteArray.toList;rw[Zg7 _ _ _ (Nat.zero_le _)];simp
theorem four_ne(n:Int):((⟨(leB n 4).toArray⟩:ByteArray).toList==(⟨#[]⟩:ByteArray).toList)=false:=by
 cases hq:((⟨(leB n 4).toArray⟩:ByteArray).toList==(⟨#[]⟩:ByteArray).toList) with
 | false=>rfl
 | true =>
  have e:=congrArg List.length (eq_of_beq hq)
  rw[Ao,Ao] at e
  simp[ByteArray.size,Zj] at e
theorem Zdk(w:World) :
 C0 90 #[] w (Vo (fun w' r=>∃ b,r=.slice (S1 b) 1 1∧w.heap.size≤b∧Blk w' b [V0 4,V0 1,V0 14399] 268) w):=by
 refine zin 3 Tryz.func90 ?_
 refine xbs 8 1 [V0 4,V0 1,V0 14399] 268 fun b1 W1 n1=>?_
 have g1:=n1.ge (B4 w)
 exact xe 4 (.slice (S1 b1) 1 1) ⟨_,rfl,n1.below,_,rfl,g1,n1.blk⟩
theorem value_putR(gl:Nat)(an:O0)(cn:Nat)(n:Int)(w:World)(hl:Blk w gl [V0 4,V0 1,V0 14399] 268)(hn:Sl w (.slice an 1 cn) 1 [V0 n])(h1:1≤n)(h2:n≤14399) :
 C0 157 #[.slice (S1 gl) 1 1,.slice an 1 cn] w (Ret (.string ⟨(leB n 4).toArray⟩) w):=by
 have b6:=h1
 have b5:=h2
 clear h2
 refine zin 51 Tryz.func157 ?_
 refine xu 19 2 ?_
 refine xlv 15 hl.rp ?_
 refine xa 0 [V0 0,V0 0,V0 0] 268 fun b1 W1 n1=>?_
 have a7:=n1.ne hl
 refine xsv 1 n1.blk [V0 4,V0 1,V0 14399] fun W2 u2 k2=>?_
 have g1:=n1.ge (B4 w)
 refine xd 4 .z ?_
 refine xx (.e [0,1] 2) _ 1 0 1 (Ints.elem (l:=[n]) hn (k:=0) (by simp)).1 ?_
 have hB:=bln (u2.below n1.below g1) (Za W2)
 refine xl (.e [] 3) ((Ints.elem (l:=[n]) (hn.below hB) (k:=0) (by simp)).2) ?_
 have a1:=k2.below (Za W2)
 refine xb (.e [4] 5) 1 a1 ?_
 refine xgk (.b [6,7]) [23,24] (show(decide (n<(1:Int)):Bool)=false from decide_eq_false (by omega)) ?_
 refine xx (.e [8,9] 10) _ 1 0 1 (Ints.elem (l:=[n]) hn (k:=0) (by simp)).1 ?_
 refine xl (.e [] 11) ((Ints.elem (l:=[n]) (hn.below hB) (k:=0) (by simp)).2) ?_
 refine xb (.e [12] 13) 2 a1 ?_
 refine xk (.r [14,15] 2) (show(decide (n>(14399:Int)):Bool)=false from decide_eq_false (by omega)) ?_
 refine xd 3 .z ?_
 have a5:=a1.below (Za W2.drew)
 refine xb (.e [0] 1) 0 a5 ?_
 refine xx (.e [2,3] 4) _ 1 0 1 (Ints.elem (l:=[n]) hn (k:=0) (by simp)).1 ?_
 have a0:=bln hB (Za W2.drew)
 refine xl (.e [] 5) ((Ints.elem (l:=[n]) (hn.below a0) (k:=0) (by simp)).2) ?_
 refine xbs (.o [6] 7) 1 [V0 4,V0 n] 235 fun b4 W4 n4=>?_
 have g4:=n4.ge a0
 refine yc (.o [] 8) (args:=#[.slice (S1 b4) 1 1]) .z (Da b4 n (by omega) (by omega) _ n4.blk) ?_
 rintro _ W5 ⟨_,rfl,a6,p2,c2,rfl,h2⟩
 have a9:=(bln a0 n4.below).size
 refine⟨a6,?_⟩
 have o6:=World.ownsRow_nil W5 w.heap.size 5 1
 have a3:=Zh h2 a9
 have a2:=bln (bln a0 n4.below) a6
 refine xbi (.r [9,10,11,12,13] 5) fun _ _ _ _ zJ zQ zo zx zy zK=>Xd (m:=4) (news:=(leB n 4).map bv) (.int .u8 0) 1 1 (4) ((leB n 4).map bv) zo Tryz.underlying22 (by kernel_rfl) rfl (by decide) zx o6 zy (Zf a3) (by simp[Zj]) (Qn _) (by unfold maxLen;omega) (by omega) a2.size (by rfl) (by simp) fun b2 b0 W7 o7 b3 a8=>?_
 refine zK _ _ ?_
 refine xcv0 24 (fun _ _ _ zo zx=>Nc zo zx (Qu (Zf o7) (Zj _ _)) (Zj _ _) Tryz.underlying22 Tryz.underlying5 Tryz.underlying9) ?_
 have a4:=a2.trans a8
 exact xe 4 (.string ⟨(leB n 4).toArray⟩) ⟨rfl,a4⟩
theorem value_putX(gl:Nat)(an:O0)(cn:Nat)(n:Int)(w:World)(hl:Blk w gl [V0 4,V0 1,V0 14399] 268)(hn:Sl w (.slice an 1 cn) 1 [V0 n])(h:¬ (1≤n∧n≤14399)) :
 C0 157 #[.slice (S1 gl) 1 1,.slice an 1 cn] w (Ret (.string ⟨#[]⟩) w):=by
 refine zin 51 Tryz.func157 ?_
 refine xu 19 2 ?_
 refine xlv 15 hl.rp ?_
 refine xa 0 [V0 0,V0 0,V0 0] 268 fun b1 W1 n1=>?_
 have a2:=n1.ne hl
 refine xsv 1 n1.blk [V0 4,V0 1,V0 14399] fun W2 u2 k2=>?_
 have g1:=n1.ge (B4 w)
 refine xd 4 .z ?_
 refine xx (.e [0,1] 2) _ 1 0 1 (Ints.elem (l:=[n]) hn (k:=0) (by simp)).1 ?_
 have hB:=bln (u2.below n1.below g1) (Za W2)
 refine xl (.e [] 3) ((Ints.elem (l:=[n]) (hn.below hB) (k:=0) (by simp)).2) ?_
 have a0:=k2.below (Za W2)
 refine xb (.e [4] 5) 1 a0 ?_
 refine xg (.b [6,7]) [23,24] (decide (n<(1:Int))) (fun a1=>?_) (fun a1=>?_)
 ·have a1:=of_decide_eq_true a1
  exact xe (.r [8,9,10,11,12,13,14,15] 15) (.string ⟨#[]⟩) ⟨rfl,hB⟩
 have a1:=of_decide_eq_false a1
 refine xx (.e [8,9] 10) _ 1 0 1 (Ints.elem (l:=[n]) hn (k:=0) (by simp)).1 ?_
 refine xl (.e [] 11) ((Ints.elem (l:=[n]) (hn.below hB) (k:=0) (by simp)).2) ?_
 refine xb (.e [12] 13) 2 a0 ?_
 refine xk (.r [14,15] 2) (show(decide (n>(14399:Int)):Bool)=true from decide_eq_true (by omega)) ?_
 exact xe 12 (.string ⟨#[]⟩) ⟨rfl,hB⟩
theorem Te(gl:Nat)(s:Bl)(w:World)(hl:Blk w gl [V0 4,V0 1,V0 14399] 268)(hs:s.length≤1000)(h4:s.length≠4) :
 C0 89 #[.slice (S1 gl) 1 1,.string ⟨s.toArray⟩] w (Vo (fun w' r=>∃ p c,r=.tuple #[.slice p 1 c,V0 7]∧w'.ownsRow w.heap.size 3 1 (.slice p 1 c) 1 [V0 0]) w):=by
 refine zin 54 Tryz.func89 ?_
 refine xu 25 2 ?_
 refine xlv 14 hl.rp ?_
 refine xa 0 [V0 0,V0 0,V0 0] 268 fun b1 W1 n1=>?_
 have a4:=n1.ne hl
 refine xsv 0 n1.blk [V0 4,V0 1,V0 14399] fun W2 u2 k2=>?_
 have g1:=n1.ge (B4 w)
 refine xb 6 0 k2 ?_
 refine xbs 0 1 [V0 4] 3 fun b3 W3 n3=>?_
 have o4:=World.ownsRow_nil W3 w.heap.size 3 1
 have hB:=bln (u2.below n1.below g1) n3.below
 refine xbi 0 fun _ _ _ _ zJ zQ zo zx zy zK=>Xd (m:=1) (news:=[V0 4]) (V0 0) 1 8 (1) ([Value.int .i64 4]) zo Tryz.underlying35 (by kernel_rfl) rfl (by decide) zx o4 zy (n3.blk.sl 1 1 (by decide) (by decide)) rfl (by simp[Value.oneCell']) (by unfold maxLen;omega) (by omega) hB.size (by rfl) (by rfl) fun a8 a7 W5 o5 a5 a6=>?_
 refine zK _ _ ?_
 have a1:=(k2.below n3.below).grown a5 o4 (by decide)
 refine xb 6 0 a1 ?_
 refine xk 31 (show(((s.length:Int) != (4:Int)):Bool)=true from bne_iff_ne.2 (by omega)) ?_
 refine xmk 4 fun _ _ _ _ zJ zQ zo zx zy zK=>Kw 1 (V0 0) 1 8 [Value.int .i64 0] zo zx zy Tryz.underlying35 (by kernel_rfl) rfl (by omega) (by omega) (rfl) fun b6 W6 n6=>?_
 have a0:=hB.trans a6
 have g6:=n6.ge a0
 have a3:=Zu o5 n6
 refine zK _ _ ?_
 have a2:=bln a0 n6.below
 have o6:=Xl (size:=1) (n:=1) n6.blk g6 (rfl) (by unfold maxLen;omega)
 exact xe 6 (.tuple #[.slice (S1 b6) 1 1,V0 7]) ⟨_,rfl,a2,_,_,rfl,o6⟩
theorem Od(gl:Nat)(s:Bl)(w:World)(hl:Blk w gl [V0 4,V0 1,V0 14399] 268)(hs:s.length≤1000)(h4:s.length=4)(h1:1≤Zm s 0 4)(h2:Zm s 0 4≤14399) :
 C0 89 #[.slice (S1 gl) 1 1,.string ⟨s.toArray⟩] w (Vo (fun w' r=>∃ p c,r=.tuple #[.slice p 1 c,V0 0]∧w'.ownsRow w.heap.size 3 1 (.slice p 1 c) 1 [V0 (↑(Zm s 0 4):Int)]) w):=by
 refine zin 54 Tryz.func89 ?_
 refine xu 25 2 ?_
 refine xlv 14 hl.rp ?_
 refine xa 0 [V0 0,V0 0,V0 0] 268 fun b1 W1 n1=>?_
 have a1:=n1.ne hl
 refine xsv 0 n1.blk [V0 4,V0 1,V0 14399] fun W2 u2 k2=>?_
 have g1:=n1.ge (B4 w)
 refine xb 6 0 k2 ?_
 refine xbs 0 1 [V0 4] 3 fun b3 W3 n3=>?_
 have o4:=World.ownsRow_nil W3 w.heap.size 3 1
 have hB:=bln (u2.below n1.below g1) n3.below
 refine xbi 0 fun _ _ _ _ zJ zQ zo zx zy zK=>Xd (m:=1) (news:=[V0 4]) (V0 0) 1 8 (1) ([Value.int .i64 4]) zo Tryz.underlying35 (by kernel_rfl) rfl (by decide) zx o4 zy (n3.blk.sl 1 1 (by decide) (by decide)) rfl (by simp[Value.oneCell']) (by unfold maxLen;omega) (by omega) hB.size (by rfl) (by rfl) fun b4 a8 W5 o5 a9 b5=>?_
 refine zK _ _ ?_
 have a6:=(k2.below n3.below).grown a9 o4 (by decide)
 refine xb 6 0 a6 ?_
 refine xk 31 (show(((s.length:Int) != (4:Int)):Bool)=false from by rw[h4];rfl) ?_
 refine xcf 5 fun _ _ _ zJ zQ zo zx zK=>Me s zo zx Tryz.underlying9 Tryz.underlying22 Tryz.underlying5 (by omega) ?_
 intro bz cz W6 a2 b6
 refine zK _ _ ?_
 have a7:=Zb o5 a2
 refine xc 1 (args:=#[.slice (S1 bz) s.length cz,.slice b4 1 a8]) (Br (S1 bz) s.length cz s b4 a8 1 [4] [Zm s 0 4] _ rfl rfl rfl (by decide) (by simp;omega) (by omega) (by decide) b6 (Zf a7) (fun i hi=>by obtain rfl:i=0:=(by simpa using hi);have:=Vk s 0 4 (by decide);simp[Wg];omega)) ?_
 rintro _ W7 ⟨_,rfl,b2,p5,c5,rfl,h5⟩
 have b7:=(bln (hB.trans b5) a2).size
 have a3:=((((u2.blk (hl.below n1.below) (Ne.symm (Ne.symm a1))).below n3.below).grown a9 o4 (by decide)).below a2).below b2
 have a0:=Zh h5 b7
 refine xr 15 (args:=#[.slice (S1 gl) 1 1,.slice p5 1 c5]) (value_putR gl p5 c5 (↑(Zm s 0 4):Int) _ a3 (Zf a0) (by omega) (by omega)) fun W8 b0=>?_
 refine xk 4 (show(((⟨(leB (↑(Zm s 0 4):Int) 4).toArray⟩:ByteArray).toList==(⟨#[]⟩:ByteArray).toList):Bool)=false from four_ne _) ?_
 have a4:=bln (bln (bln (hB.trans b5) a2) b2) b0
 have a5:=Zb a0 b0
 exact xe 10 (.tuple #[.slice p5 1 c5,V0 0]) ⟨_,rfl,a4,_,_,rfl,a5⟩
theorem Tq(gl:Nat)(s:Bl)(w:World)(hl:Blk w gl [V0 4,V0 1,V0 14399] 268)(hs:s.length≤1000)(h4:s.length=4)(h1:¬ (1≤(Zm s 0 4:Int)∧(Zm s 0 4:Int)≤14399)) :
 C0 89 #[.slice (S1 gl) 1 1,.string ⟨s.toArray⟩] w (Vo (fun w' r=>∃ p c,r=.tuple #[.slice p 1 c,V0 2]∧w'.ownsRow w.heap.size 3 1 (.slice p 1 c) 1 [V0 0]) w):=by
 refine zin 54 Tryz.func89 ?_
 refine xu 25 2 ?_
 refine xlv 14 hl.rp ?_
 refine xa 0 [V0 0,V0 0,V0 0] 268 fun b1 W1 n1=>?_
 have a1:=n1.ne hl
 refine xsv 0 n1.blk [V0 4,V0 1,V0 14399] fun W2 u2 k2=>?_
 have g1:=n1.ge (B4 w)
 refine xb 6 0 k2 ?_
 refine xbs 0 1 [V0 4] 3 fun b3 W3 n3=>?_
 have o4:=World.ownsRow_nil W3 w.heap.size 3 1
 have hB:=bln (u2.below n1.below g1) n3.below
 refine xbi 0 fun _ _ _ _ zJ zQ zo zx zy zK=>Xd (m:=1) (news:=[V0 4]) (V0 0) 1 8 (1) ([Value.int .i64 4]) zo Tryz.underlying35 (by kernel_rfl) rfl (by decide) zx o4 zy (n3.blk.sl 1 1 (by decide) (by decide)) rfl (by simp[Value.oneCell']) (by unfold maxLen;omega) (by omega) hB.size (by rfl) (by rfl) fun c0 b5 W5 o5 b6 b4=>?_
 refine zK _ _ ?_
 have a8:=(k2.below n3.below).grown b6 o4 (by decide)
 refine xb 6 0 a8 ?_
 refine xk 31 (show(((s.length:Int) != (4:Int)):Bool)=false from by rw[h4];rfl) ?_
 refine xcf 5 fun _ _ _ zJ zQ zo zx zK=>Me s zo zx Tryz.underlying9 Tryz.underlying22 Tryz.underlying5 (by omega) ?_
 intro bz cz W6 a4 c2
 refine zK _ _ ?_
 have a3:=Zb o5 a4
 refine xc 1 (args:=#[.slice (S1 bz) s.length cz,.slice c0 1 b5]) (Br (S1 bz) s.length cz s c0 b5 1 [4] [Zm s 0 4] _ rfl rfl rfl (by decide) (by simp;omega) (by omega) (by decide) c2 (Zf a3) (fun i hi=>by obtain rfl:i=0:=(by simpa using hi);have:=Vk s 0 4 (by decide);simp[Wg];omega)) ?_
 rintro _ W7 ⟨_,rfl,b2,p5,c5,rfl,h5⟩
 have c1:=(bln (hB.trans b4) a4).size
 have a7:=((((u2.blk (hl.below n1.below) (Ne.symm (Ne.symm a1))).below n3.below).grown b6 o4 (by decide)).below a4).below b2
 have a0:=Zh h5 c1
 refine xr 15 (args:=#[.slice (S1 gl) 1 1,.slice p5 1 c5]) (value_putX gl p5 c5 (↑(Zm s 0 4):Int) _ a7 (Zf a0) (by omega)) fun W8 a6=>?_
 refine xmk 9 fun _ _ _ _ zJ zQ zo zx zy zK=>Kw 1 (V0 0) 1 8 [Value.int .i64 0] zo zx zy Tryz.underlying35 (by kernel_rfl) rfl (by omega) (by omega) (rfl) fun b9 W9 n9=>?_
 have a2:=bln (bln (bln (hB.trans b4) a4) b2) a6
 have g9:=n9.ge a2
 have a5:=Zb (Zb a3 b2) a6
 have b7:=Zu a5 n9
 have b0:=Zb a0 a6
 have b8:=Zu b0 n9
 refine zK _ _ ?_
 have a9:=bln a2 n9.below
 have o9:=Xl (size:=1) (n:=1) n9.blk g9 (rfl) (by unfold maxLen;omega)
 exact xe 6 (.tuple #[.slice (S1 b9) 1 1,V0 2]) ⟨_,rfl,a9,_,_,rfl,o9⟩
theorem Ze5(gl:Nat)(s:Bl)(w:World)(hl:Blk w gl [V0 4,V0 1,V0 14399] 268)(hs:s.length≤1000):C0 89 #[.slice (S1 gl) 1 1,.string ⟨s.toArray⟩] w (Vo (fun w' r=>∃ p c,r=.tuple #[.slice p 1 c,V0 (Xj s)]∧w'.ownsRow w.heap.size 3 1 (.slice p 1 c) 1 [V0 (Xm s:Int)]) w):=by
 by_cases h4:s.length=4
 ·by_cases h1:1≤Zm s 0 4∧Zm s 0 4≤14399
  ·have he:Xj s=0:=by unfold Xj;rw[if_pos h4,if_pos h1]
   rw[he,Xm,if_pos he]
   exact Od gl s w hl hs h4 h1.1 h1.2
  ·have he:Xj s=2:=by unfold Xj;rw[if_pos h4,if_neg h1]
   rw[he,Xm,if_neg (by rw[he];decide)]
   exact Tq gl s w hl hs h4 (by omega)
 ·have he:Xj s=7:=by unfold Xj;rw[if_neg h4]
  rw[he,Xm,if_neg (by rw[he];decide)]
  exact Te gl s w hl hs h4
theorem Yv(s:Bl)(w:World)(hs:s.length≤1000) :
 C0 49 #[.string ⟨s.toArray⟩] w (Ret (.tuple #[V0 (Xm s:Int),V0 (Xj s)]) w):=by
 refine zin 16 Tryz.func49 ?_
 refine xc 8 (args:=#[]) (Zdk _) ?_
 rintro _ W1 ⟨_,rfl,a1,gl,rfl,gg,kl⟩
 refine xc 1 (args:=#[.slice (S1 gl) 1 1,.string ⟨s.toArray⟩]) (Ze5 gl s _ kl hs) ?_
 rintro _ W2 ⟨_,rfl,a2,p5,c5,rfl,h5⟩
 have a0:=Zh h5 a1.size
 refine xx 10 _ 1 0 1 (Ints.elem (l:=[(Xm s:Int)]) (Zf a0) (k:=0) (by simp)).1 ?_
 refine xl 0 ((Ints.elem (l:=[(Xm s:Int)]) (Zf a0) (k:=0) (by simp)).2) ?_
 have hB:=bln a1 a2
 exact xe 6 (.tuple #[V0 (↑(Xm s):Int),V0 (Xj s)]) ⟨rfl,hB⟩
def Ko(t:Int)(leaf:Bool)(n m v:Nat):Bl:=leB (Uv leaf) 1++leB t 1++leB (n:Int) 2++leB (v:Int) 2++leB (m:Int) 2++leB 0 4
theorem Kj(t:Int)(leaf:Bool)(n m v:Nat):(Ko t leaf n m v).length=12:=by simp[Ko,Zj]
def Gc(m v:Nat)(H:Bl)(K:List Int)(Vs:List Bl):Nat→Bl
 | 0=>Kn (List.replicate 244 0) 0 H
 | i+1=>Kn (Kn (Gc m v H K Vs i) (12+i*8) (leB (K.getD i 0) 8)) (12+m*8+i*v) (Vs.getD i [])
theorem Ff{m v:Nat}{H:Bl}{K:List Int}{Vs:List Bl}(hH:H.length=12)(hf:12+m*8+m*v≤244):∀ {i:Nat},i≤m→(∀ j,j<i→(Vs.getD j []).length=v)→(Gc m v H K Vs i).length=244
 | 0,_,_=>by rw[Gc,Qt (by rw[List.length_replicate];omega),List.length_replicate]
 | i+1,hi,hV=>by
  have ih:=Ff (K:=K) hH hf (i:=i) (by omega) (fun j hj=>hV j (by omega))
  have h1:=hV i (by omega)
  have h2:(i+1)*v≤m*v:=Nat.mul_le_mul_right v hi
  rw[Nat.add_mul,Nat.one_mul] at h2
  have h3:(Kn (Gc m v H K Vs i) (12+i*8) (leB (K.getD i 0) 8)).length=244:=by rw[Qt (by rw[Zj,ih];omega),ih]
  rw[Gc,Qt (by rw[h1,h3];omega),h3]
theorem node_Put(t:Int)(leaf:Bool)(n m v:Nat)(K:List Int)(Vs:List Bl)(ak av:O0)(ck cv:Nat)(w:World)(N:NodeOk t leaf n m v K Vs)(hKs:Sl w (.slice ak n ck) n (K.map V0))(hVs:Sl w (.slice av n cv) n (Vs.map sv)) :
 C0 231 #[.agg #[V0 t,.bool leaf,.slice ak n ck,.slice av n cv]] w (Vo (fun w' r=>∃ p c,r=.tuple #[.slice p 244 c,V0 0]∧w'.ownsRow w.heap.size 5 1 (.slice p 244 c) 244 ((Gc m v (Ko t leaf n m v) K Vs n).map bv)) w):=by
 have e9:=N.ht1
 have e5:=N.ht2
 have f7:=N.hn
 have f0:=Fd t leaf
 rw[N.hv] at f0
 have f2:=Qv t leaf
 rw[N.hm] at f2
 have d2:=fitN t leaf
 rw[N.hm,N.hv] at d2
 have f4:=Sl.cap hKs
 refine zin 90 Tryz.func231 ?_
 refine xa 2 [V0 t,.bool leaf,.slice ak n ck,.slice av n cv] 183 fun b1 W1 n1=>?_
 refine xlv 7 n1.blk.rp ?_
 refine xr 0 (args:=#[.agg #[V0 t,.bool leaf,.slice ak n ck,.slice av n cv]]) (node_Right t leaf n m v K Vs ak av ck cv _ N (hKs.below n1.below) (hVs.below n1.below)) fun W2 e7=>?_
 refine xd 7 .z ?_
 have a3:=(n1.blk.below e7).below (Za W2)
 refine xb (.e [0] 1) 0 a3 ?_
 refine xb (.e [2] 3) 1 a3 ?_
 refine xb (.e [5] 6) 0 a3 ?_
 refine xb (.e [7] 8) 1 a3 ?_
 refine xr (.o [] 4) (args:=#[V0 t,.bool leaf]) (Md t leaf v N.hv e9 e5 _) fun W3 e3=>?_
 refine xr (.o [] 9) (args:=#[V0 t,.bool leaf]) (Sy t leaf m N.hm e9 e5 _) fun W4 e6=>?_
 refine xd (.r [10,11] 3) .z ?_
 have a8:=((a3.below e3).below e6).below (Za W4)
 refine xb (.e [0] 1) 1 a8 ?_
 refine xb (.e [4] 5) 0 a8 ?_
 refine xb (.e [6,7] 8) 2 a8 ?_
 refine xr (.o [9,10,11,12,13,14,15] 2) (args:=#[.bool leaf]) (node_flag leaf _) fun W5 e1=>?_
 refine xbs (.o [3] 16) 6 [V0 1,V0 (Uv leaf),V0 1,V0 t,V0 2,V0 (n:Int),V0 2,V0 (v:Int),V0 2,V0 (m:Int),V0 4,V0 0] 235 fun b6 W6 n6=>?_
 have b3:=bln (bln (bln (bln (bln (bln n1.below e7) (Za W2)) e3) e6) (Za W4)) e1
 have g6:=n6.ge b3
 refine yc (.o [] 17) (args:=#[.slice (S1 b6) 6 6]) .z (Pack_node b6 (Uv leaf) t (n:Int) (v:Int) (m:Int) (Og leaf).1 (Og leaf).2 (by omega) (by omega) (by omega) (by omega) (by omega) (by omega) (by omega) (by omega) _ n6.blk) ?_
 rintro _ W7 ⟨_,rfl,c8,p2,c2,rfl,h2⟩
 have f1:=(bln b3 n6.below).size
 refine⟨c8,?_⟩
 refine xmk (.r [18,19,20,21,22] 4) fun _ _ _ _ zJ zQ zo zx zy zK=>Kw 244 (.int .u8 0) 1 1 ((List.replicate 244 (0:UInt8)).map bv) zo zx zy Tryz.underlying22 (by kernel_rfl) rfl (by omega) (by omega) (Zcf 244) fun b8 W8 n8=>?_
 have c5:=bln (bln b3 n6.below) c8
 have g8:=n8.ge c5
 have c0:=Zh h2 f1
 have e8:=Zu c0 n8
 refine zK _ _ ?_
 have o8:=Xl (size:=1) (n:=244) n8.blk g8 (by rw[List.length_map,List.length_replicate]) (by unfold maxLen;omega)
 have d5:=Zb c0 n8.below
 have c6:=bln c5 n8.below
 refine xbi 7 (t2:=22) fun _ _ _ _ zJ zQ zo zx zy zK=>Pl (dLen:=244) (dCap:=244) (off:=0) 12 ((Ko t leaf n m v).map bv) ((Gc m v (Ko t leaf n m v) K Vs 0).map bv) zo Tryz.underlying22 (by kernel_rfl) zx zy (Zf d5) o8 (by simp[Kj]) (by omega) (by omega) (Qn _) c6.size (by simp[Gc,Kn,Kj]) fun W9 o9 e0 e4=>?_
 refine zK _ _ ?_
 have b9:=((((a8.below e1).below n6.below).below c8).below n8.below).grown e0 o8 (by decide)
 refine xb 6 2 b9 ?_
 have d9:=c6.trans e4
 have d3:=((n6.blk.below c8).below n8.below).grown e0 o8 (by decide)
 refine zl 5 90 (fun zm f3 V=>∃ (i:Nat),f3=[(1,P0 b1),(2,S0),(3,V0 0),(4,V0 (v:Int)),(5,V0 (m:Int)),(8,.slice (S1 b8) 244 244),(52,.slice ak n ck),(53,V0 (n:Int)),(54,V0 (i:Int))]∧zm=n-((i:Int)).toNat∧B3 w V∧Blk V b1 ([V0 t,.bool leaf,.slice ak n ck,.slice av n cv]) 183∧Blk V b6 ([V0 1,V0 (Uv leaf),V0 1,V0 t,V0 2,V0 (n:Int),V0 2,V0 (v:Int),V0 2,V0 (m:Int),V0 4,V0 0]) 235∧V.ownsRow w.heap.size 5 1 (.slice (S1 b8) 244 244) 244 ((Gc m v (Ko t leaf n m v) K Vs i).map bv)∧i≤n) ⟨0,rfl,rfl,d9,b9,d3,o9,Nat.zero_le _⟩ ?_
 rintro _ _ f9 ⟨i,rfl,rfl,a0,b0,a5,ho,hi⟩ g2 d1 g1
 have e4:i<n→i*v+v≤m*v:=fun h=>by have h9:(i+1)*v≤m*v:=Nat.mul_le_mul_right v (by omega);rw[Nat.add_mul,Nat.one_mul] at h9;exact h9
 refine xid 6 ((i:Int)<(n:Int)) (fun d0=>?_) (fun d0=>?_)
 ·refine xx 7 _ n i 1 (IntsN.elem hKs N.hK (k:=i) (by omega)).1 ?_
  refine xl 0 ((IntsN.elem (hKs.below a0) N.hK (k:=i) (by omega)).2) ?_
  refine xbs 8 1 [V0 8,V0 (K.getD i 0)] 235 fun e2 g3 a9=>?_
  have c9:=a9.ne a5
  have g0:=a9.ge a0
  refine xc 0 (args:=#[.slice (S1 e2) 1 1]) (Pack_8 e2 (K.getD i 0) (N.hk0 i (by omega)).1 _ a9.blk) ?_
  rintro _ f8 ⟨_,rfl,a7,p3,c3,rfl,h3⟩
  have d8:=(bln a0 a9.below).size
  refine xwm 11 ((i:Int)*8) (↑(i*8):Int) ?_
  refine xwm 0 (12+(↑(i*8):Int)) (↑(12+(i*8)):Int) ?_
  refine xsL 0 (fun _ _ _ _ zo zx zy V=>Nb (k:=(12+(i*8))) (b:=b8) (off:=0) (n:=244) (c:=244) (i:=(↑(12+(i*8)):Int)) (ki:=.i64) 1 zo zx zy rfl (by omega) (by omega) Tryz.underlying22 (by kernel_rfl) V) ?_
  have b4:=Zb (Zb ho a9.below) a7
  have d7:=Zh h3 d8
  have c1:=bln (bln a0 a9.below) a7
  refine xbi 1 (t2:=22) fun _ _ _ _ zJ zQ zo zx zy zK=>Pl (dLen:=(244-(12+(i*8)))) (dCap:=(244-(12+(i*8)))) (off:=(0+(12+(i*8))*1)) 8 ((leB (K.getD i 0) 8).map bv) ((Kn (Gc m v (Ko t leaf n m v) K Vs i) (12+i*8) (leB (K.getD i 0) 8)).map bv) zo Tryz.underlying22 (by kernel_rfl) zx zy (Zf d7) b4 (by simp[Zj]) (by omega) (by omega) (Qn _) c1.size (by simp[Kn,Zj,List.map_take,List.map_drop]) fun c7 f5 c4 d4=>?_
  refine zK _ _ ?_
  refine xd 2 (.t w.heap.size [5]) ?_
  refine xwm (.e [0,1] 2) ((m:Int)*8) (↑(m*8):Int) ?_
  refine xwm (.e [] 3) (12+(↑(m*8):Int)) (↑(12+(m*8)):Int) ?_
  refine xwm (.e [4,5] 6) ((i:Int)*(v:Int)) (↑(i*v):Int) ?_
  refine xwm (.e [] 7) ((↑(12+(m*8)):Int)+(↑(i*v):Int)) (↑((12+(m*8))+(i*v)):Int) ?_
  refine xsL (.e [] 8) (fun _ _ _ _ zo zx zy V=>Nb (k:=((12+(m*8))+(i*v))) (b:=b8) (off:=0) (n:=244) (c:=244) (i:=(↑((12+(m*8))+(i*v)):Int)) (ki:=.i64) 1 zo zx zy rfl (by omega) (by omega) Tryz.underlying22 (by kernel_rfl) V) ?_
  have a1:=(((b0.below a9.below).below a7).grown c4 b4 (by decide)).below (Za c7)
  refine xbt (.e [9] 10) 3 w.heap.size [5] a1 ?_
  refine xx (.e [11] 12) _ n i 1 (Strs.elem hVs N.hV (k:=i) (by omega)).1 ?_
  have b2:=bln (c1.trans d4) (Za c7)
  refine xlt (.e [] 13) (.t w.heap.size [5]) (fun V hV=>(Strs.elem (hVs.below (Of b2 hV (Nat.le_refl _))) N.hV (k:=i) (by omega)).2) ?_
  have a2:=Zb f5 (Za c7)
  refine ybi (.o [] 14) (t2:=9) (.t w.heap.size [5]) fun _ _ _ _ zJ zQ zo zx zy zK=>Zgv (dLen:=(244-((12+(m*8))+(i*v)))) (dCap:=(244-((12+(m*8))+(i*v)))) (off:=(0+((12+(m*8))+(i*v))*1)) (Vs.getD i []) ((Gc m v (Ko t leaf n m v) K Vs (i+1)).map bv) zo Tryz.underlying22 (by kernel_rfl) zx zy a2 (by rw[N.hw i (by omega)];omega) (by rw[N.hw i (by omega)];omega) b2.size (by simp[Gc,Kn,List.map_take,List.map_drop]) fun g5 f6 b5 b7=>?_
  refine zK _ _ (Xv b7 b5 a2 (by decide)) ?_
  refine xwm 4 ((i:Int)+1) (↑(i+1):Int) ?_
  have d6:=b2.trans b7
  have a6:=a1.grown b5 a2 (by decide)
  have a4:=((((a5.below a9.below).below a7).grown c4 b4 (by decide)).below (Za c7)).grown b5 a2 (by decide)
  exact ze 2 (d1 _ _ _ ⟨i+1,rfl,rfl,d6,a6,a4,f6,by omega⟩ (by omega))
 refine xe 13 (.tuple #[.slice (S1 b8) 244 244,V0 0]) ?_
 have e:i=n:=by omega
 subst e
 exact⟨_,rfl,a0,_,_,rfl,ho⟩
def Qi(K:List Int)(n:Nat)(i:Nat):Bl:=(List.range i).flatMap fun j=>if j<n then leB (K.getD j 0) 8 else List.replicate 8 0
theorem Kc(K:List Int)(n i:Nat):Qi K n (i+1)=Qi K n i++(if i<n then leB (K.getD i 0) 8 else List.replicate 8 0):=by
 unfold Qi;rw[List.range_succ,List.flatMap_append];simp
theorem Hj(K:List Int)(n i:Nat):(Qi K n i).length=i*8:=by
 induction i with
 | zero=>rfl
 | succ i ih=>rw[Kc,List.length_append,ih];split<;>simp[Zj]<;>omega
def Vq(Vs:List Bl)(i:Nat):Bl:=(List.range i).flatMap fun j=>Vs.getD j []
theorem Us(Vs:List Bl)(i:Nat):Vq Vs (i+1)=Vq Vs i++Vs.getD i []:=by
 unfold Vq;rw[List.range_succ,List.flatMap_append];simp
theorem Pu{Vs:List Bl}{v:Nat}:∀ {i:Nat},(∀ j,j<i→(Vs.getD j []).length=v)→(Vq Vs i).length=i*v
 | 0,_=>by simp[Vq]
 | i+1,h=>by rw[Us,List.length_append,Pu fun j hj=>h j (by omega),h i (by omega),Nat.add_mul,Nat.one_mul]
theorem Zaa{P z Q x:Bl}{k:Nat}(hk:P.length=k)(hz:z.length=x.length):Kn (P++z++Q) k x=P++x++Q:=by
 unfold Kn
 subst hk
 rw[List.append_assoc P z Q,List.take_left' rfl,←hz]
 have e:P++(z++Q)=(P++z)++Q:=(List.append_assoc _ _ _).symm
 rw[e,List.drop_left' (by simp)]
theorem Hr(K:List Int)(i:Nat):∀ d,Qi K i (i+d)=Qi K i i++List.replicate (d*8) 0
 | 0=>by simp
 | d+1=>by
  rw[←Nat.add_assoc,Kc,Hr K i d,if_neg (by omega),List.append_assoc,List.replicate_append_replicate,Nat.add_mul,Nat.one_mul]
theorem Cq(K:List Int)(n:Nat):∀ i,i≤n→Qi K n i=Qi K i i
 | 0,_=>rfl
 | i+1,h=>by
  rw[Kc,Kc,if_pos (by omega),if_pos (by omega),Cq K n i (by omega),Cq K (i+1) i (by omega)]
theorem Ov(a b:Nat):List.replicate (a+b) (0:UInt8)=List.replicate a 0++List.replicate b 0:=List.replicate_append_replicate.symm
theorem Il{m v:Nat}{H:Bl}{K:List Int}{Vs:List Bl}(hH:H.length=12)(hf:12+m*8+m*v≤244):∀ {i:Nat},i≤m→(∀ j,j<i→(Vs.getD j []).length=v) →
  Gc m v H K Vs i=H++Qi K i m++Vq Vs i++List.replicate (232-m*8-i*v) 0
 | 0,_,_=>by
  have e1:=Hr K 0 m
  rw[Nat.zero_add] at e1
  rw[Gc,e1]
  have h1:(232-m*8-0*v)=232-m*8:=by omega
  rw[h1,show(244:Nat)=12+(m*8+(232-m*8)) by omega,Ov,Ov]
  have:=Zaa (P:=[]) (z:=List.replicate 12 (0:UInt8)) (Q:=List.replicate (m*8) 0++List.replicate (232-m*8) 0) (x:=H) (k:=0) rfl (by simp[hH])
  rw[List.nil_append,List.nil_append] at this
  rw[this]
  simp[Qi,Vq]
 | i+1,hi,hV=>by
  have ih:=Il (K:=K) hH hf (i:=i) (by omega) (fun j hj=>hV j (by omega))
  have a4:=hV i (by omega)
  have h2:(i+1)*v≤m*v:=Nat.mul_le_mul_right v hi
  rw[Nat.add_mul,Nat.one_mul] at h2
  obtain⟨d,hd⟩:∃ d,m=i+(d+1):=⟨m-i-1,by omega⟩
  have ek:Qi K i m=Qi K i i++List.replicate 8 0++List.replicate (d*8) 0:=by
   rw[hd,Hr,show(d+1)*8=8+d*8 by omega,Ov,List.append_assoc]
  have a3:Qi K (i+1) m=Qi K i i++leB (K.getD i 0) 8++List.replicate (d*8) 0:=by
   rw[show m=(i+1)+d by omega,Hr,Kc,if_pos (by omega),Cq K (i+1) i (by omega)]
  have er:List.replicate (232-m*8-i*v) (0:UInt8)=List.replicate v 0++List.replicate (232-m*8-(i*v+v)) 0:=by
   rw[←Ov];congr 1;omega
  have a0:(Vq Vs i).length=i*v:=Pu fun j hj=>hV j (by omega)
  rw[Gc,ih,ek,er]
  have s1:=Zaa (P:=H++Qi K i i) (z:=List.replicate 8 (0:UInt8)) (Q:=List.replicate (d*8) 0++(Vq Vs i++(List.replicate v 0++List.replicate (232-m*8-(i*v+v)) 0))) (x:=leB (K.getD i 0) 8) (k:=12+i*8) (by rw[List.length_append,hH,Hj]) (by simp[Zj])
  have a1:H++(Qi K i i++List.replicate 8 0++List.replicate (d*8) 0)++Vq Vs i++(List.replicate v 0++List.replicate (232-m*8-(i*v+v)) 0)=H++Qi K i i++List.replicate 8 0++(List.replicate (d*8) 0++(Vq Vs i++(List.replicate v 0++List.replicate (232-m*8-(i*v+v)) 0))):=by simp only[List.append_assoc]
  rw[a1,s1]
  have s2:=Zaa (P:=H++Qi K (i+1) m++Vq Vs i) (z:=List.replicate v (0:UInt8)) (Q:=List.replicate (232-m*8-(i*v+v)) 0) (x:=Vs.getD i []) (k:=12+m*8+i*v) (by rw[List.length_append,List.length_append,hH,Hj,a0]) (by rw[List.length_replicate,a4])
  have a2:H++Qi K i i++leB (K.getD i 0) 8++(List.replicate (d*8) 0++(Vq Vs i++(List.replicate v 0++List.replicate (232-m*8-(i*v+v)) 0)))=H++Qi K (i+1) m++Vq Vs i++List.replicate v 0++List.replicate (232-m*8-(i*v+v)) 0:=by rw[a3];simp only[List.append_assoc]
  rw[a2,s2,Us,Nat.add_mul,Nat.one_mul]
  simp only[List.append_assoc]
end Go.Proofs.YtceeiinepijokaaGreat
namespace Go.Proofs.YtceeiinepijokaaGreat
set_option maxHeartbeats 8000000
set_option maxRecDepth 100000
open Go.RowKit
set_option linter.unusedVariables false
def hasB(lo hi k:Int):Bool:=decide (lo≤k∧k<hi)
def Uz(lo hi:Int):Bool:=decide (0≤lo∧lo≤hi∧hi≤281474976710656)
def Jf(l:List Int):Prop:=∀ k,k<l.length→1≤k→l[k-1]?.getD 0<l[k]?.getD 0
instance (l:List Int):Decidable (Jf l):=by unfold Jf;infer_instance
def Kq(lo hi:Int)(l:List Int):Int :=
 if Uz lo hi then if Jf l then if ∀ k∈l,lo≤k∧k<hi then 0 else 9 else 8 else 1
@[go_sem] def spanV (lo hi:Int):Value:=.agg #[V0 lo,V0 hi]
theorem Jf.lt{l:List Int}(h:Jf l):∀ (j i:Nat),i<j→j<l.length→l[i]?.getD 0<l[j]?.getD 0:=by
 intro j
 induction j with
 | zero=>intro i h1;omega
 | succ j ih =>
  intro i h1 h2
  have h3:=h (j+1) h2 (by omega)
  simp only[Nat.add_sub_cancel] at h3
  by_cases hij:i=j
  ·subst hij;exact h3
  ·exact Int.lt_trans (ih i (by omega) (by omega)) h3
theorem Jf.one(l:List Int):Jf (l.take 1):=by
 intro k h1 h2;simp at h1;omega
theorem Jf.succ{l:List Int}{k:Nat}{x y:Int}(h:Jf (l.take k))(hx:l[k-1]? = some x)(hy:l[k]? = some y)(hxy:x<y):Jf (l.take (k+1)):=by
 intro j h1 h2
 have a0:j<k+1:=by simp at h1;omega
 rw[List.getElem?_take,List.getElem?_take,if_pos (by omega),if_pos a0]
 by_cases hj:j=k
 ·subst hj;rw[hx,hy];exact hxy
 ·have:=h j (by simp at h1 ⊢;omega) h2
  rw[List.getElem?_take,List.getElem?_take,if_pos (by omega),if_pos (by omega)] at this
  exact this
theorem fits_right{lo hi:Int}{l:List Int}(h:Uz lo hi=false):Kq lo hi l=1:=by simp[Kq,h]
theorem fits_order{lo hi:Int}{l:List Int}{k:Nat}{x y:Int}(h:Uz lo hi=true)(hk:1≤k)(hx:l[k-1]? = some x)(hy:l[k]? = some y)(hxy:y≤x):Kq lo hi l=8:=by
 have hn:¬ Jf l:=fun hs=>by
  have a0:k<l.length:=by rcases List.getElem?_eq_some_iff.1 hy with ⟨h,_⟩;exact h
  have:=hs k a0 hk
  rw[hx,hy] at this
  simp at this;omega
 simp[Kq,h,hn]
theorem Zgs{lo hi:Int}(h:Uz lo hi=true):Kq lo hi []=0:=by
 have hs:Jf []:=fun k h1=>by simp at h1
 simp[Kq,h,hs]
theorem Jf.all{l:List Int}{k:Nat}(h:Jf (l.take k))(hk:l.length≤k):Jf l:=by rwa [List.take_of_length_le hk] at h
theorem Zf8{lo hi k:Int}:hasB lo hi k=true↔lo≤k∧k<hi:=by simp[hasB]
theorem fits_in{lo hi:Int}{l:List Int}{x y:Int}(h:Uz lo hi=true)(hs:Jf l)(hx:l[0]? = some x)(hy:l[l.length-1]? = some y)(ha:hasB lo hi x=true)(hb:hasB lo hi y=true):Kq lo hi l=0:=by
 have a0:∀ k∈l,lo≤k∧k<hi:=by
  intro k hk
  obtain⟨i,a1,rfl⟩:=List.mem_iff_getElem.1 hk
  rw[Zf8] at ha hb
  have e:l[i]? = some l[i]:=by simp
  have h1:x≤l[i]:=by
   by_cases h0:i=0
   ·subst h0;rw[hx] at e;injection e with e;omega
   ·have:=hs.lt i 0 (by omega) a1
    rw[hx,e] at this;simp at this;omega
  have h2:l[i]≤y:=by
   by_cases h0:i=l.length-1
   ·subst h0;rw[hy] at e;injection e with e;omega
   ·have:=hs.lt (l.length-1) i (by omega) (by omega)
    rw[hy,e] at this;simp at this;omega
  omega
 simp only[Kq,h,if_true,hs]
 rw[if_pos a0]
theorem Zhj{lo hi:Int}{l:List Int}{i:Nat}{x:Int}(h:Uz lo hi=true)(hs:Jf l)(hx:l[i]? = some x)(ha:hasB lo hi x=false):Kq lo hi l=9:=by
 have hn:¬ ∀ k∈l,lo≤k∧k<hi:=fun a0=>by
  have:=Zf8.2 (a0 x (List.mem_of_getElem? hx))
  rw[ha] at this;cases this
 simp only[Kq,h,if_true,hs]
 rw[if_neg hn]
theorem Zfx(w:World):C0 147 #[] w (Ret (spanV 0 281474976710656) w):=by
 go_enter Tryz.func147,Tryz.ntmps147
 go_wp2
 exact bodyPost_ret (v:=spanV 0 281474976710656) (by simp[results,Tryz.results147,go_sem,spanV]) rfl ⟨rfl,blx _ _⟩
theorem Zab(lo hi k:Int)(w:World):C0 248 #[spanV lo hi,V0 k] w (Ret (.bool (hasB lo hi k)) w):=by
 unfold spanV
 go_enter Tryz.func248,Tryz.ntmps248
 go_wp2
 all_goals go_ret
 all_goals refine⟨?_,blx _ _⟩
 all_goals (unfold hasB;congr 2;simp;omega)
theorem Cm(lo hi:Int)(w:World):C0 247 #[spanV lo hi] w (Ret (.bool (Uz lo hi)) w):=by
 unfold spanV
 go_enter Tryz.func247,Tryz.ntmps247
 go_wp2_with fail
 refine(Zfx _).mono ?_
 rintro e w' ⟨rfl,hb⟩
 have hz:w.heap.size<w'.heap.size:=ltB hb (by simp)
 have h0:=Cu hb (p:=⟨w.heap.size,0,none⟩) (v:=V0 lo) (by simp[go_sem])
 have h1:=Cu hb (p:=⟨w.heap.size,1,none⟩) (v:=V0 hi) (by simp[go_sem])
 unfold spanV
 go_wp2_with fail
 all_goals go_ret
 all_goals refine⟨?_,bln (bln (blx w _) hb) (blx _ _)⟩
 all_goals (unfold Uz;congr 2;simp[*];try omega)
theorem Rb(lo hi:Int)(v:Value)(l:List Int)(w:World)(hl:Ints w v l) :
 C0 235 #[spanV lo hi,v] w (Ret (V0 (Kq lo hi l)) w):=by
 by_cases hr:Uz lo hi=true
 case neg =>
  have a7:Uz lo hi=false:=by simpa using hr
  unfold spanV
  rcases hl with ⟨a0,c0,rfl,b1,hl⟩|⟨b,a4,a8,rfl,a6,a2,hc⟩
  all_goals
   go_enter Tryz.func235,Tryz.ntmps235
   go_wp2_with fail
   refine(Cm _ _ _).mono ?_
   rintro e w' ⟨rfl,hb⟩
   go_wp2_with fail
   go_ret
   exact⟨by rw[fits_right a7];rfl,bln (blx w _) hb⟩
 rcases hl with ⟨a0,c0,rfl,b1,hl⟩|⟨b,a4,a8,rfl,a6,a2,hc⟩
 ·obtain rfl:l=[]:=by simpa using hl
  unfold spanV
  go_enter Tryz.func235,Tryz.ntmps235
  go_wp2_with fail
  refine(Cm _ _ _).mono ?_
  rintro e w' ⟨rfl,hb⟩
  go_wp2_with fail
  go_loop [5] (fun i=>i=V0 1) (fun _=>0)
  case atStart=>exact rfl
  case round =>
   obtain rfl:=hrel
   go_wp2_with fail
   refine Js (by kernel_rfl) (by kernel_rfl) ?_
   repeat (go_big_quiet_step (fail))
   refine wpQuiet_nil ?_
   intro wx
   go_wp2_with fail
   go_ret
   exact⟨by rw[Zgs hr];rfl,bln (bln (blx w _) hb) wx.below⟩
 ·unfold maxLen at a2
  unfold spanV
  go_enter Tryz.func235,Tryz.ntmps235
  go_wp2_with fail
  refine(Cm _ _ _).mono ?_
  rintro e w' ⟨rfl,hb⟩
  have hz:w.heap.size<w'.heap.size:=ltB hb (by simp)
  have h0:=Cu hb (p:=⟨w.heap.size,0,none⟩) (v:=V0 lo) (by simp[go_sem])
  have h1:=Cu hb (p:=⟨w.heap.size,1,none⟩) (v:=V0 hi) (by simp[go_sem])
  have hB:=bln (blx w _) hb
  have HC:=Lib.hid (fun j x (hj:l[j]? = some x)=>Cu hb (getA _ (hc j (V0 x) (by simp[hj]))))
  clear hc hb
  go_wp2_with fail
  go_loopw [5] (fun i wr=>∃ k:Nat,1≤k∧i=V0 k∧Jf (l.take k)∧Below w'.heap.size w' wr) (fun i _=>l.length-(intOf i).toNat)
  case atStart=>exact⟨1,by omega,rfl,Jf.one l,Below.refl _ _⟩
  case round =>
   obtain⟨k,b0,rfl,hs,a1⟩:=hrel
   have HS:=Lib.hid hs;clear hs
   by_cases hlt:k<l.length
   ·obtain⟨x,hx⟩:∃ x,l[k-1]? = some x:=⟨l[k-1],by simp⟩
    obtain⟨y,hy⟩:∃ y,l[k]? = some y:=⟨l[k],by simp⟩
    have b3:=Cu a1 (HC.out _ _ hx)
    have b2:=Cu a1 (HC.out _ _ hy)
    have HX:=Lib.hid hx;clear hx
    have HY:=Lib.hid hy;clear hy
    go_wp2_with fail
    go_quiet (fail)
    go_wp2_with fail
    ·go_ret
     exact⟨by rw[fits_order hr b0 HX.out HY.out (by assumption)];rfl,bln hB (blD a1 _)⟩
    ·go_roundw
     case rel=>exact⟨k+1,by omega,by go_num,HS.out.succ HX.out HY.out (by assumption),blD a1 _⟩
     case measure=>simp[intOf];omega
   ·have a5:l.length≤k:=by omega
    by_cases h0l:l.length=0
    ·obtain rfl:l=[]:=List.length_eq_zero_iff.mp h0l
     clear h0l
     go_wp2_with fail
     go_quiet (fail)
     go_wp2_with fail
     go_ret
     exact⟨by rw[Zgs hr];rfl,bln hB (blD a1 _)⟩
    ·obtain⟨x,hx⟩:∃ x,l[0]? = some x:=⟨l[0],by simp⟩
     obtain⟨y,hy⟩:∃ y,l[l.length-1]? = some y:=⟨l[l.length-1],by simp⟩
     have a9:0<l.length:=by omega
     have e0:∀ z:Ext wr,z.val.cell? ⟨w.heap.size,0,none⟩=some (V0 lo):=fun z=>z.get (Cu a1 h0)
     have e1:∀ z:Ext wr,z.val.cell? ⟨w.heap.size,1,none⟩=some (V0 hi):=fun z=>z.get (Cu a1 h1)
     have e2:∀ z:Ext wr,z.val.cell? ⟨b,a4,none⟩=some (V0 x):=fun z=>z.get (Cu a1 (HC.out 0 _ hx))
     have e3:∀ z:Ext wr,z.val.cell? ⟨b,a4+(l.length-1),none⟩=some (V0 y):=fun z=>z.get (Cu a1 (HC.out _ _ hy))
     have HX:=Lib.hid hx;clear hx
     have HY:=Lib.hid hy;clear hy
     by_cases ha:hasB lo hi x=true
     ·by_cases a3:hasB lo hi y=true
      ·go_wp2_with fail
       refine Js (by kernel_rfl) (by kernel_rfl) ?_
       repeat (go_big_quiet_step (exact Ret.ext (Zab _ _ _ _)))
       refine wpQuiet_nil ?_
       intro wx
       go_wp2_with fail
       go_ret
       exact⟨by rw[fits_in hr (HS.out.all a5) HX.out HY.out ha a3];rfl,bln (bln hB a1) wx.below⟩
      ·have a3:hasB lo hi y=false:=by simpa using a3
       go_wp2_with fail
       refine Js (by kernel_rfl) (by kernel_rfl) ?_
       repeat (go_big_quiet_step (exact Ret.ext (Zab _ _ _ _)))
       refine wpQuiet_nil ?_
       intro wx
       go_wp2_with fail
       go_ret
       exact⟨by rw[Zhj hr (HS.out.all a5) HY.out a3];rfl,bln (bln hB a1) wx.below⟩
     ·have ha:hasB lo hi x=false:=by simpa using ha
      go_wp2_with fail
      refine Js (by kernel_rfl) (by kernel_rfl) ?_
      repeat (go_big_quiet_step (exact Ret.ext (Zab _ _ _ _)))
      refine wpQuiet_nil ?_
      intro wx
      go_wp2_with fail
      go_ret
      exact⟨by rw[Zhj hr (HS.out.all a5) HX.out ha];rfl,bln (bln hB a1) wx.below⟩
end Go.Proofs.YtceeiinepijokaaGreat
namespace Go.Proofs.YtceeiinepijokaaGreat
set_option maxHeartbeats 8000000
set_option maxRecDepth 100000
open Go.RowKit
set_option linter.unusedVariables false
attribute [local go_sem] Oper.semAt_some
def Xt(hi:Int)(l:List Int)(i:Nat):Int×Int:=(l[i]?.getD 0,l[i+1]?.getD hi)
def qOf {n:Nat}(j:Fin n):Nat:=n-1-j.val
def encE(hi:Int)(l:List Int)(j:Fin l.length):Array Value:=#[V0 (qOf j:Int),spanV (Xt hi l (qOf j)).1 (Xt hi l (qOf j)).2]
theorem Vl{n k:Nat}(h:k<n):(List.finRange n).take (k+1)=(List.finRange n).take k++[⟨k,h⟩]:=by
 rw[List.take_succ_eq_append_getElem (by simpa using h)];simp
theorem Wz(n:Nat):(List.finRange n).take n=List.finRange n:=List.take_of_length_le (by simp)
theorem Ho{n k:Nat}(h:k≤n):((List.finRange n).take k).length=k:=by simp[h]
theorem each1_in(l Bs Bk:Nat)(p:Nat→Prop)(hi:Int)(b off cap:Nat)(zs:List Int)(hlen:zs.length≤9223372036854775807)(hb':zs.length=0∨p b)(hBk:p Bk)(J Jx:List (Fin zs.length)→World→Prop)
  (hY:∀ pre x W,J pre W→pre.length<zs.length→YieldAt Fence.wide 2 Tryz.prog l (encE hi zs x) W fun e W' =>
   (e=.returned (.bool true)∧J (pre++[x]) W'∧Keeps p W W')∨(e=.returned (.bool false)∧Jx (pre++[x]) W'))
  (W:World) (hc1:W.cell? ⟨Bs,1,none⟩=some (V0 hi)) (hck:W.cell? ⟨Bk,0,none⟩=some (.slice (some ⟨b,off,none⟩) zs.length cap))
  (hc:∀ j x,zs[j]? = some x→W.cell? ⟨b,off+j,none⟩=some (V0 x)) (h0:J [] W) :
  CallsIn Fence.wide 3 Tryz.prog 249 #[.func (.yield l) #[] #[],P0 Bs,P0 Bk] W fun e W'=>(∃ v,e=.returned v) ∧
   ((∃ ys,ys=List.finRange zs.length∧J ys W')∨(∃ pre,(∃ k,k≤zs.length∧pre=(List.finRange zs.length).take k)∧Jx pre W')):=by
 refine callsIn_of_wp Tryz.func249 rfl trivial ?_ rfl
 simp only[Tryz.ntmps249,List.size_toArray,List.length_cons,List.length_nil,Nat.reduceAdd,Nat.reduceSub,Array.replicate_succ,Array.replicate_zero,List.push_toArray,List.append_toArray,List.nil_append,List.cons_append]
 gi_wp2
 gi_loopw [4,5] (fun h i wr=>∃ k:Nat,k≤zs.length∧i=V0 ((zs.length:Int)-1-k)∧h=V0 (zs[zs.length-k]?.getD hi)∧J ((List.finRange zs.length).take k) wr∧Keeps p W wr)
  (fun _ i _=>((intOf i)+1).toNat)
 case atStart=>exact⟨0,Nat.zero_le _,by simp,by simp,h0,Keeps.refl _ _⟩
 case round =>
  obtain⟨k,hk,rfl,rfl,a1,a6⟩:=hrel
  generalize hhv:zs[zs.length-k]?.getD hi=hv
  by_cases hlt:k<zs.length
  ·have hb:p b:=hb'.resolve_left (by omega)
   obtain⟨x,hx⟩:∃ x,zs[zs.length-1-k]? = some x:=⟨zs[zs.length-1-k],by simp⟩
   have a4:=(a6.cell (a:=⟨Bk,0,none⟩) hBk).trans hck
   have a8:=(a6.cell (a:=⟨b,off+(zs.length-1-k),none⟩) hb).trans (hc _ _ hx)
   obtain⟨q,hq⟩:∃ q:Nat,q=zs.length-1-k:=⟨_,rfl⟩
   have a5:((zs.length:Int)-1-k)=(q:Int):=by omega
   have b4:q<zs.length:=by omega
   obtain⟨fn,a9,a7,b3,hy,hR⟩:=hY _ ⟨k,hlt⟩ wr a1 (by rw[Ho hk];exact hlt)
   have hE:encE hi zs ⟨k,hlt⟩=#[V0 (q:Int),.agg #[V0 x,V0 hv]]:=by
    have e0:zs[q]? = some x:=by rw[hq];exact hx
    have e1:q+1=zs.length-k:=by omega
    have e2:qOf (⟨k,hlt⟩:Fin zs.length)=q:=hq.symm
    simp only[encE,Xt,spanV,e2,e0,e1,hhv,Option.getD_some]
   rw[hE] at hy
   rw[←hq] at a8
   rw[a5]
   have HQ:=Lib.hid hq;clear hq
   have HI:=Lib.hid a5;clear a5
   have HX:=Lib.hid hx;clear hx
   have HV:=Lib.hid hhv;clear hhv
   have HE:=Lib.hid hE;clear hE
   gi_wp2
   refine hR.mono ?_
   rintro e W3 (⟨rfl,b1,a2⟩|⟨rfl,a3⟩)
   ·have b2:=(a2.cell (a:=⟨Bk,0,none⟩) hBk).trans a4
    have b0:=(a2.cell (a:=⟨b,off+q,none⟩) hb).trans a8
    gi_wp2
    go_roundw
    case rel =>
     refine⟨k+1,by omega,?_,?_,by rw[Vl hlt];exact b1,a6.trans a2⟩
     ·exact congrArg V0 (by have:=HI.out;omega)
     ·have h1:zs.length-(k+1)=q:=by have:=HQ.out;omega
      have:=HX.out
      rw[←HQ.out] at this
      rw[h1,this];rfl
    case measure=>simp[intOf]
   ·gi_wp2
    refine bodyPost_ret (results_none rfl _ _ _) rfl ?_
    exact⟨⟨_,rfl⟩,.inr ⟨_,⟨k+1,by omega,by rw[Vl hlt]⟩,a3⟩⟩
  ·obtain rfl:k=zs.length:=by omega
   have a0:((zs.length:Int)-1-zs.length) = -1:=by omega
   rw[a0]
   clear a0 hhv
   rw[Wz] at a1
   have HJ:=Lib.hid a1;clear a1
   gi_wp2
   go_end0
   exact⟨⟨_,rfl⟩,.inl ⟨_,rfl,HJ.out⟩⟩
theorem Zbd{α:Type}(l Bs Bk:Nat)(hi:Int)(J:List α→World→Prop)(W:World)(hc1:W.cell? ⟨Bs,1,none⟩=some (V0 hi)){a0:O0}{c0:Nat}(hck:W.cell? ⟨Bk,0,none⟩=some (.slice a0 0 c0))(h0:J [] W) :
 CallsIn Fence.wide 3 Tryz.prog 249 #[.func (.yield l) #[] #[],P0 Bs,P0 Bk] W fun e W'=>(∃ v,e=.returned v)∧J [] W':=by
 refine callsIn_of_wp Tryz.func249 rfl trivial ?_ rfl
 simp only[Tryz.ntmps249,List.size_toArray,List.length_cons,List.length_nil,Nat.reduceAdd,Nat.reduceSub,Array.replicate_succ,Array.replicate_zero,List.push_toArray,List.append_toArray,List.nil_append,List.cons_append]
 gi_wp2
 gi_loopw [4,5] (fun _ i wr=>i=V0 (-1)∧J [] wr) (fun _ _ _=>0)
 case atStart=>exact⟨rfl,h0⟩
 case round =>
  obtain⟨rfl,a1⟩:=hrel
  gi_wp2
  go_end0
  exact⟨⟨_,rfl⟩,a1⟩
theorem each_stops(Bs Bk:Nat)(p:Nat→Prop)(hi:Int)(v:Value)(zs:List Int)(w:World)(hp:∀ b,p b→b<w.heap.size)(hk:p Bk)(hs:p Bs)(hlen:zs.length≤9223372036854775807)(hv:Ints w v zs)
  (hvp:zs.length≠0→∀ b off n cap,v=.slice (some ⟨b,off,none⟩) n cap→p b)
  (hc1:w.cell? ⟨Bs,1,none⟩=some (V0 hi)) (hck:w.cell? ⟨Bk,0,none⟩=some v) :
  SeqStopsK Fence.wide 3 Tryz.prog 249 #[P0 Bs,P0 Bk] (encE hi zs) (Keeps p)
   (fun ys=>ys=List.finRange zs.length) (fun pre=>∃ k,k≤zs.length∧pre=(List.finRange zs.length).take k) zs.length w:=fun l J Jx W hW _ _ hY h0=>by
 have a2:=Cu hW hc1
 have a1:=Cu hW hck
 rcases hv with ⟨a0,c0,rfl,h1,h2⟩|⟨b,off,cap,rfl,a5,a3,a4⟩
 ·obtain rfl:zs=[]:=by simpa using h2
  exact(Zbd l Bs Bk hi J W a2 a1 h0).mono fun e W' ⟨he,hj⟩=>⟨he,.inl ⟨_,rfl,hj⟩⟩
 ·refine each1_in l Bs Bk p hi b off cap zs hlen ?_ hk J Jx hY W a2 a1 (fun j x hj=>Cu hW (a4 j _ (by simp[hj]))) h0
  by_cases h:zs.length=0
  ·exact .inl h
  ·exact .inr (hvp h _ _ _ _ rfl)
theorem span_each(lo hi:Int)(a:O0)(n c:Nat)(w:World):C0 236 #[spanV lo hi,.slice a n c] w fun e w' =>
 e=.returned (.func (.func 249) #[] #[.pointer (some ⟨w.heap.size,0,none⟩),.pointer (some ⟨w.heap.size+1,0,none⟩)]) ∧
 w'=(w.alloc (.cells #[V0 lo,V0 hi] 254)).alloc (.cells #[.slice a n c] 35):=by
 unfold spanV
 go_enter Tryz.func236,Tryz.ntmps236
 go_wp2
 go_ret
 exact⟨rfl,rfl⟩
def encB(l:List Int)(j:Fin l.length):Array Value:=#[V0 (qOf j:Int),V0 (l[qOf j]?.getD 0)]
theorem back1_in(l Bk:Nat)(p:Nat→Prop)(b off cap:Nat)(zs:List Int)(hlen:zs.length≤9223372036854775807)(hb':zs.length=0∨p b)(hBk:p Bk)(J Jx:List (Fin zs.length)→World→Prop)
  (hY:∀ pre x W,J pre W→pre.length<zs.length→YieldAt Fence.wide 2 Tryz.prog l (encB zs x) W fun e W' =>
   (e=.returned (.bool true)∧J (pre++[x]) W'∧Keeps p W W')∨(e=.returned (.bool false)∧Jx (pre++[x]) W'))
  (W:World) (hck:W.cell? ⟨Bk,0,none⟩=some (.slice (some ⟨b,off,none⟩) zs.length cap))
  (hc:∀ j x,zs[j]? = some x→W.cell? ⟨b,off+j,none⟩=some (V0 x)) (h0:J [] W) :
  CallsIn Fence.wide 3 Tryz.prog 209 #[.func (.yield l) #[] #[],P0 Bk] W fun e W'=>(∃ v,e=.returned v) ∧
   ((∃ ys,ys=List.finRange zs.length∧J ys W')∨(∃ pre,(∃ k,k≤zs.length∧pre=(List.finRange zs.length).take k)∧Jx pre W')):=by
 refine callsIn_of_wp Tryz.func209 rfl trivial ?_ rfl
 simp only[Tryz.ntmps209,List.size_toArray,List.length_cons,List.length_nil,Nat.reduceAdd,Nat.reduceSub,Array.replicate_succ,Array.replicate_zero,List.push_toArray,List.append_toArray,List.nil_append,List.cons_append]
 gi_wp2
 gi_loopw [3] (fun i wr=>∃ k:Nat,k≤zs.length∧i=V0 ((zs.length:Int)-1-k)∧J ((List.finRange zs.length).take k) wr∧Keeps p W wr)
  (fun i _=>((intOf i)+1).toNat)
 case atStart=>exact⟨0,Nat.zero_le _,by simp,h0,Keeps.refl _ _⟩
 case round =>
  obtain⟨k,hk,rfl,a1,a4⟩:=hrel
  by_cases hlt:k<zs.length
  ·have hb:p b:=hb'.resolve_left (by omega)
   obtain⟨x,hx⟩:∃ x,zs[zs.length-1-k]? = some x:=⟨zs[zs.length-1-k],by simp⟩
   have a9:=(a4.cell (a:=⟨Bk,0,none⟩) hBk).trans hck
   have b0:=(a4.cell (a:=⟨b,off+(zs.length-1-k),none⟩) hb).trans (hc _ _ hx)
   obtain⟨q,hq⟩:∃ q:Nat,q=zs.length-1-k:=⟨_,rfl⟩
   have a3:((zs.length:Int)-1-k)=(q:Int):=by omega
   have b2:q<zs.length:=by omega
   obtain⟨fn,a6,a5,b1,hy,hR⟩:=hY _ ⟨k,hlt⟩ wr a1 (by rw[Ho hk];exact hlt)
   have hE:encB zs ⟨k,hlt⟩=#[V0 (q:Int),V0 x]:=by
    have e0:zs[q]? = some x:=by rw[hq];exact hx
    have e2:qOf (⟨k,hlt⟩:Fin zs.length)=q:=hq.symm
    simp only[encB,e2,e0,Option.getD_some]
   rw[hE] at hy
   rw[←hq] at b0
   rw[a3]
   have HQ:=Lib.hid hq;clear hq
   have HI:=Lib.hid a3;clear a3
   have HX:=Lib.hid hx;clear hx
   have HE:=Lib.hid hE;clear hE
   gi_wp2
   refine hR.mono ?_
   rintro e W3 (⟨rfl,a8,a7⟩|⟨rfl,a2⟩)
   ·gi_wp2
    go_roundw
    case rel =>
     refine⟨k+1,by omega,?_,by rw[Vl hlt];exact a8,a4.trans a7⟩
     exact congrArg V0 (by have:=HI.out;omega)
    case measure=>simp[intOf]
   ·gi_wp2
    refine bodyPost_ret (results_none rfl _ _ _) rfl ?_
    exact⟨⟨_,rfl⟩,.inr ⟨_,⟨k+1,by omega,by rw[Vl hlt]⟩,a2⟩⟩
  ·obtain rfl:k=zs.length:=by omega
   have a0:((zs.length:Int)-1-zs.length) = -1:=by omega
   rw[a0]
   clear a0
   rw[Wz] at a1
   have HJ:=Lib.hid a1;clear a1
   gi_wp2
   go_end0
   exact⟨⟨_,rfl⟩,.inl ⟨_,rfl,HJ.out⟩⟩
theorem Zbh{α:Type}(l Bk:Nat)(J:List α→World→Prop)(W:World){a0:O0}{c0:Nat}(hck:W.cell? ⟨Bk,0,none⟩=some (.slice a0 0 c0))(h0:J [] W) :
 CallsIn Fence.wide 3 Tryz.prog 209 #[.func (.yield l) #[] #[],P0 Bk] W fun e W'=>(∃ v,e=.returned v)∧J [] W':=by
 refine callsIn_of_wp Tryz.func209 rfl trivial ?_ rfl
 simp only[Tryz.ntmps209,List.size_toArray,List.length_cons,List.length_nil,Nat.reduceAdd,Nat.reduceSub,Array.replicate_succ,Array.replicate_zero,List.push_toArray,List.append_toArray,List.nil_append,List.cons_append]
 gi_wp2
 gi_loopw [3] (fun i wr=>i=V0 (-1)∧J [] wr) (fun _ _=>0)
 case atStart=>exact⟨rfl,h0⟩
 case round =>
  obtain⟨rfl,a1⟩:=hrel
  gi_wp2
  go_end0
  exact⟨⟨_,rfl⟩,a1⟩
theorem Aj(Bk:Nat)(p:Nat→Prop)(v:Value)(zs:List Int)(w:World)(hp:∀ b,p b→b<w.heap.size)(hk:p Bk)(hlen:zs.length≤9223372036854775807)(hv:Ints w v zs)
  (hvp:zs.length≠0→∀ b off n cap,v=.slice (some ⟨b,off,none⟩) n cap→p b) (hck:w.cell? ⟨Bk,0,none⟩=some v) :
  SeqStopsK Fence.wide 3 Tryz.prog 209 #[P0 Bk] (encB zs) (Keeps p)
   (fun ys=>ys=List.finRange zs.length) (fun pre=>∃ k,k≤zs.length∧pre=(List.finRange zs.length).take k) zs.length w:=fun l J Jx W hW _ _ hY h0=>by
 have a1:=Cu hW hck
 rcases hv with ⟨a0,c0,rfl,h1,h2⟩|⟨b,off,cap,rfl,a2,a3,a4⟩
 ·obtain rfl:zs=[]:=by simpa using h2
  exact(Zbh l Bk J W a1 h0).mono fun e W' ⟨he,hj⟩=>⟨he,.inl ⟨_,rfl,hj⟩⟩
 ·refine back1_in l Bk p b off cap zs hlen ?_ hk J Jx hY W a1 (fun j x hj=>Cu hW (a4 j _ (by simp[hj]))) h0
  by_cases h:zs.length=0
  ·exact .inl h
  ·exact .inr (hvp h _ _ _ _ rfl)
end Go.Proofs.YtceeiinepijokaaGreat
