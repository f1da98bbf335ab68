/- node.Width and node.Max at the five trees; package tall: over, Levels, Nodes, Sizes. -/
import Derived.Lib.BufferWrite
import Derived.Lib.AppendStr
import Derived.Laws.IdiomStrings
import Derived.Lib.AppendZerosOnto
import Derived.Test.YtceeiinepijokaaGreatMg1
namespace Go.Proofs.YtceeiinepijokaaGreat
set_option maxHeartbeats 8000000
set_option maxRecDepth 100000
open Go.RowKit Go.Extern.Stop Go.Stop Go.Extern
set_option linter.unusedVariables false
attribute [local irreducible] wpList wpAnyH Code.wp Oper.wp Go
theorem Da(w:World) :
 C0 211 #[V0 1,.bool true] w (Ret (V0 4) w):=by
 refine zin 31 Tryz.func211 ?_
 exact xe 94 (V0 4) ⟨rfl,(B4 w)⟩
theorem Zg4(w:World) :
 C0 212 #[V0 1,.bool true] w (Ret (V0 18) w):=by
 refine zin 16 Tryz.func212 ?_
 refine xr 9 (args:=#[V0 1,.bool true]) (Da _) fun W1 a0=>?_
 exact xe 24 (V0 18) ⟨rfl,a0⟩
theorem Dd(w:World) :
 C0 211 #[V0 1,.bool false] w (Ret (V0 4) w):=by
 refine zin 31 Tryz.func211 ?_
 exact xe 41 (V0 4) ⟨rfl,(B4 w)⟩
theorem node_Max1i(w:World) :
 C0 212 #[V0 1,.bool false] w (Ret (V0 18) w):=by
 refine zin 16 Tryz.func212 ?_
 refine xr 9 (args:=#[V0 1,.bool false]) (Dd _) fun W1 a0=>?_
 exact xe 24 (V0 18) ⟨rfl,a0⟩
theorem Cq(w:World) :
 C0 211 #[V0 2,.bool true] w (Ret (V0 8) w):=by
 refine zin 31 Tryz.func211 ?_
 exact xe 101 (V0 8) ⟨rfl,(B4 w)⟩
theorem node_Max2l(w:World) :
 C0 212 #[V0 2,.bool true] w (Ret (V0 12) w):=by
 refine zin 16 Tryz.func212 ?_
 refine xr 9 (args:=#[V0 2,.bool true]) (Cq _) fun W1 a0=>?_
 exact xe 24 (V0 12) ⟨rfl,a0⟩
theorem Cw(w:World) :
 C0 211 #[V0 2,.bool false] w (Ret (V0 4) w):=by
 refine zin 31 Tryz.func211 ?_
 exact xe 41 (V0 4) ⟨rfl,(B4 w)⟩
theorem Zgo(w:World) :
 C0 212 #[V0 2,.bool false] w (Ret (V0 18) w):=by
 refine zin 16 Tryz.func212 ?_
 refine xr 9 (args:=#[V0 2,.bool false]) (Cw _) fun W1 a0=>?_
 exact xe 24 (V0 18) ⟨rfl,a0⟩
theorem Cz(w:World) :
 C0 211 #[V0 3,.bool true] w (Ret (V0 24) w):=by
 refine zin 31 Tryz.func211 ?_
 exact xe 93 (V0 24) ⟨rfl,(B4 w)⟩
theorem node_Max3l(w:World) :
 C0 212 #[V0 3,.bool true] w (Ret (V0 6) w):=by
 refine zin 16 Tryz.func212 ?_
 refine xr 9 (args:=#[V0 3,.bool true]) (Cz _) fun W1 a0=>?_
 exact xe 24 (V0 6) ⟨rfl,a0⟩
theorem Dc(w:World) :
 C0 211 #[V0 3,.bool false] w (Ret (V0 4) w):=by
 refine zin 31 Tryz.func211 ?_
 exact xe 41 (V0 4) ⟨rfl,(B4 w)⟩
theorem node_Max3i(w:World) :
 C0 212 #[V0 3,.bool false] w (Ret (V0 18) w):=by
 refine zin 16 Tryz.func212 ?_
 refine xr 9 (args:=#[V0 3,.bool false]) (Dc _) fun W1 a0=>?_
 exact xe 24 (V0 18) ⟨rfl,a0⟩
theorem Cs(w:World) :
 C0 211 #[V0 4,.bool true] w (Ret (V0 16) w):=by
 refine zin 31 Tryz.func211 ?_
 exact xe 98 (V0 16) ⟨rfl,(B4 w)⟩
theorem Zgs(w:World) :
 C0 212 #[V0 4,.bool true] w (Ret (V0 9) w):=by
 refine zin 16 Tryz.func212 ?_
 refine xr 9 (args:=#[V0 4,.bool true]) (Cs _) fun W1 a0=>?_
 exact xe 24 (V0 9) ⟨rfl,a0⟩
theorem De(w:World) :
 C0 211 #[V0 4,.bool false] w (Ret (V0 4) w):=by
 refine zin 31 Tryz.func211 ?_
 exact xe 41 (V0 4) ⟨rfl,(B4 w)⟩
theorem Zgq(w:World) :
 C0 212 #[V0 4,.bool false] w (Ret (V0 18) w):=by
 refine zin 16 Tryz.func212 ?_
 refine xr 9 (args:=#[V0 4,.bool false]) (De _) fun W1 a0=>?_
 exact xe 24 (V0 18) ⟨rfl,a0⟩
theorem Cy(w:World) :
 C0 211 #[V0 5,.bool true] w (Ret (V0 4) w):=by
 refine zin 31 Tryz.func211 ?_
 exact xe 94 (V0 4) ⟨rfl,(B4 w)⟩
theorem Zf0(w:World) :
 C0 212 #[V0 5,.bool true] w (Ret (V0 18) w):=by
 refine zin 16 Tryz.func212 ?_
 refine xr 9 (args:=#[V0 5,.bool true]) (Cy _) fun W1 a0=>?_
 exact xe 24 (V0 18) ⟨rfl,a0⟩
theorem Cx(w:World) :
 C0 211 #[V0 5,.bool false] w (Ret (V0 4) w):=by
 refine zin 31 Tryz.func211 ?_
 exact xe 41 (V0 4) ⟨rfl,(B4 w)⟩
theorem Zge(w:World) :
 C0 212 #[V0 5,.bool false] w (Ret (V0 18) w):=by
 refine zin 16 Tryz.func212 ?_
 refine xr 9 (args:=#[V0 5,.bool false]) (Cx _) fun W1 a0=>?_
 exact xe 24 (V0 18) ⟨rfl,a0⟩
def Ut(t:Int)(leaf:Bool):Nat:=if leaf=false then 4 else if t=2 then 8 else if t=3 then 24 else if t=4 then 16 else 4
def Yz(t:Int)(leaf:Bool):Nat:=if leaf=false then 18 else if t=2 then 12 else if t=3 then 6 else if t=4 then 9 else 18
theorem Td(t:Int)(leaf:Bool)(h1:1≤t)(h2:t≤5)(w:World):C0 211 #[V0 t,.bool leaf] w (Ret (V0 (Ut t leaf:Int)) w):=by
 obtain rfl|rfl|rfl|rfl|rfl:t=1∨t=2∨t=3∨t=4∨t=5:=by omega
 all_goals cases leaf
 ·exact Dd w
 ·exact Da w
 ·exact Cw w
 ·exact Cq w
 ·exact Dc w
 ·exact Cz w
 ·exact De w
 ·exact Cs w
 ·exact Cx w
 ·exact Cy w
theorem Dn(t:Int)(leaf:Bool)(h1:1≤t)(h2:t≤5)(w:World):C0 212 #[V0 t,.bool leaf] w (Ret (V0 (Yz t leaf:Int)) w):=by
 obtain rfl|rfl|rfl|rfl|rfl:t=1∨t=2∨t=3∨t=4∨t=5:=by omega
 all_goals cases leaf
 ·exact node_Max1i w
 ·exact Zg4 w
 ·exact Zgo w
 ·exact node_Max2l w
 ·exact node_Max3i w
 ·exact node_Max3l w
 ·exact Zgq w
 ·exact Zgs w
 ·exact Zge w
 ·exact Zf0 w
theorem Yv(t:Int)(leaf:Bool):1≤Yz t leaf∧Yz t leaf≤18:=by
 unfold Yz;repeat' split
 all_goals decide
theorem run_quo{P:Program}{a:Act}{o:Oper}{t:TypeId}{x y:Operand}{t2:TypeId}{p q r:Int}{k:IntKind}(ho:o.op=.binOp .quo t x y t2)(hx:a.eval x=.int k p)(hy:a.eval y=.int k q)(hq:q≠0)(hr:k.wrap (Int.tdiv p q)=r)(w:World) :
 (execOp a.eval o).run P w=.ok (.value (.int k r)) w:=by
 subst hr
 have hb:(binOp .quo t (.int k p) (.int k q)).run P w=.ok (.int k (k.wrap (p.tdiv q))) w:=by
  simp[binOp,Op.intDiv,hq]
 have hg:(eqGuard .quo t x y (.int k p) (.int k q)).run P w=.ok () w:=rfl
 simp only[execOp,ho,hx,hy,Sem.run_bind,hg,Result.andThen_ok,hb]
 rfl
def ovN (n m:Nat):Nat:=max 1 ((n+m-1)/m)
theorem max_cast(a b:Nat):(if(b:Int)>(a:Int) then(b:Int) else(a:Int))=((max a b:Nat):Int):=by split<;>omega
theorem Vd(n m:Nat):1≤ovN n m:=by unfold ovN;omega
theorem Zba(n m:Nat)(hm:1≤m):ovN n m≤n+1:=by
 have:(n+m-1)/m≤n:=by
  rw[Nat.div_le_iff_le_mul_add_pred (by omega)]
  have:=Nat.le_mul_of_pos_left n hm
  omega
 unfold ovN;omega
theorem ov18{x:Nat}(h:2≤x):ovN x 18≤x/2:=by unfold ovN;omega
theorem Fe(n m:Nat)(w:World)(hn:n≤1000000)(hm:1≤m)(hm2:m≤1000000) :
 C0 228 #[V0 (n:Int),V0 (m:Int)] w (Ret (V0 (ovN n m:Int)) w):=by
 refine zin 12 Tryz.func228 ?_
 refine xwm 9 ((n:Int)+(m:Int)) (↑(n+m):Int) ?_
 refine xwm 0 ((↑(n+m):Int)-1) (↑((n+m)-1):Int) ?_
 refine xbo 1 (t:=3) (t2:=3) (fun _ _ _ _ zo zx zy V hV=>run_quo (r:=(↑((n+m-1)/m):Int)) zo zx zy (by omega) (quo_nat (n+m-1) m (by omega) (by omega)) V) ?_
 refine xq 0 (congrArg V0 (show(if(↑((n+m-1)/m):Int)>(1:Int) then(↑((n+m-1)/m):Int) else(1:Int):Int)=(↑(ovN n m):Int) from max_cast 1 ((n+m-1)/m))) ?_
 exact xe 4 (V0 (↑(ovN n m):Int)) ⟨rfl,(B4 w)⟩
def lenOf:Value→Nat
 | .slice _ n _=>n
 | _=>0
def nv (n:Nat):Value:=V0 (n:Int)
def Iy(x:Nat):List Nat:=if h:x≤1 then [x] else x::Iy (ovN x 18)
termination_by x
decreasing_by have:=ov18 (x:=x) (by omega);omega
theorem Hp{x:Nat}(h:x≤1):Iy x=[x]:=by rw[Iy];simp[h]
theorem Ju{x:Nat}(h:¬ x≤1):Iy x=x::Iy (ovN x 18):=by rw[Iy];simp[h]
theorem levs_sum{x:Nat}(h:1≤x):(Iy x).sum≤2*x:=by
 induction x using Nat.strongRecOn with
 | _ x ih =>
  by_cases h1:x≤1
  ·rw[Hp h1];simp;omega
  ·rw[Ju h1,List.sum_cons]
   have h2:=ov18 (x:=x) (by omega)
   have:=ih (ovN x 18) (by omega) (Vd _ _)
   omega
theorem levs_len{x:Nat}(h:1≤x):(Iy x).length≤x:=by
 induction x using Nat.strongRecOn with
 | _ x ih =>
  by_cases h1:x≤1
  ·rw[Hp h1];simpa using h
  ·rw[Ju h1,List.length_cons]
   have h2:=ov18 (x:=x) (by omega)
   have:=ih (ovN x 18) (by omega) (Vd _ _)
   omega
theorem Zj{w:World}{b:O0}{n c:Nat}{l:List Nat}(h:Sl w (.slice b n c) n (l.map nv))(hl:l.length=n){k:Nat}(hk:k<n):b.isSome=true∧w.cell? (Xd b (k*1))=some (V0 ((l.getD k 0:Nat):Int)):=by
 have e:l.map nv=(l.map fun x:Nat=>(x:Int)).map V0:=by simp[nv]
 rw[e] at h
 have:=IntsN.elem h (by simpa using hl) hk
 rw[show(l.map fun x:Nat=>(x:Int)).getD k 0=((l.getD k 0:Nat):Int) by simp[List.getD,List.getElem?_eq_getElem (show k<l.length by omega)]] at this
 exact this
theorem Zay{xs:List Nat}{x j:Nat}(h:xs.length=j):(xs++[x]).getD j 0=x:=by subst h;simp[List.getD]
theorem Tz{L:List Nat}{k:Nat}(h:k<L.length):(L.take (k+1)).sum=(L.take k).sum+L.getD k 0:=by
 rw[List.take_add_one,List.sum_append];simp[List.getD,List.getElem?_eq_getElem h]
theorem take_le{L:List Nat}(k:Nat):(L.take k).sum≤L.sum:=by
 conv=>rhs;rw[←List.take_append_drop k L,List.sum_append]
 omega
def Gv(t:Int)(n:Nat):List Nat:=Iy (ovN n (Yz t true))
def Xn(t:Int)(n:Nat):Nat:=(Gv t n).sum
theorem levL_len(t:Int)(n:Nat):(Gv t n).length≤n+1:=by
 have:=levs_len (Vd n (Yz t true));have:=Zba n (Yz t true) (Yv t true).1;unfold Gv;omega
theorem Js(t:Int)(n:Nat):Xn t n≤2*n+2:=by
 have:=levs_sum (Vd n (Yz t true));have:=Zba n (Yz t true) (Yv t true).1;unfold Xn Gv;omega
theorem Zch(t:Int)(n:Nat)(w:World)(h1:1≤t)(h2:t≤5)(hn:n≤32768) :
 C0 185 #[V0 t,V0 (n:Int)] w (Yy (fun w' r=>∃ p c,r=.slice p (Gv t n).length c∧w'.ownsRow w.heap.size 3 1 (.slice p (Gv t n).length c) (Gv t n).length ((Gv t n).map nv)) w):=by
 have b2:=(Yv t true).1
 have c8:=(Yv t true).2
 have c7:=Zba n (Yz t true) b2
 have c0:=Vd n (Yz t true)
 refine zin 45 Tryz.func185 ?_
 refine xr 8 (args:=#[V0 t,.bool true]) (Dn t true h1 h2 _) fun W1 b0=>?_
 refine xr 1 (args:=#[V0 t,.bool false]) (Dn t false h1 h2 _) fun W2 b1=>?_
 refine xgk 10 [13,14] (show(((↑(Yz t true):Int)==(0:Int)):Bool)=false from by simp;omega) ?_
 refine xgk 4 [16,17,18] (show(decide ((n:Int)<(0:Int)):Bool)=false from decide_eq_false (by omega)) ?_
 refine xk 5 (show(decide ((n:Int)>(32768:Int)):Bool)=false from decide_eq_false (by omega)) ?_
 refine xr 6 (args:=#[V0 (n:Int),V0 (↑(Yz t true):Int)]) (Fe n (Yz t true) _ (by omega) b2 (by omega)) fun W5 b3=>?_
 refine xbs 0 1 [V0 (↑(ovN n (Yz t true)):Int)] 3 fun b6 W6 n6=>?_
 have g6:=n6.ge (bln (bln b0 b1) b3)
 have hB:=bln (bln (bln b0 b1) b3) n6.below
 refine zl 5 45 (fun zm c3 V=>∃ (j x:Nat) (xs:List Nat) (p:O0) (c:Nat),c3=[(4,S0),(6,V0 18),(7,.slice p (j+1) c)]∧zm=40000-(j+1)∧B3 w V∧V.ownsRow w.heap.size 3 1 (.slice p (j+1) c) (j+1) ((xs++[x]).map nv)∧xs.length=j∧1≤x∧x≤32769∧xs++Iy x=Gv t n∧j+x≤40000) ⟨0,(ovN n (Yz t true)),[],_,_,rfl,rfl,hB,Zz (size:=1) (n:=1) n6.blk g6 rfl (by unfold maxLen;decide),rfl,c0,by omega,rfl,by omega⟩ ?_
 rintro _ _ W7 ⟨j,x,xs,p,c,rfl,rfl,a4,ho,a0,d3,c6,b5,hj⟩ J7 c2 r7
 refine xwm 6 ((↑(j+1):Int)-1) (j:Int) ?_
 refine xx 0 _ (j+1) j 1 (Zj (Ze ho) (by simp[a0]) (k:=j) (by omega)).1 ?_
 refine xl 0 (by have:=(Zj (Ze ho) (by simp[a0]) (k:=j) (by omega)).2;rwa [Zay a0] at this) ?_
 refine xid 3 ((x:Int)>(1:Int)) (fun c1=>?_) (fun c1=>?_)
 ·refine xwm 8 ((↑(j+1):Int)-1) (j:Int) ?_
  refine xx 0 _ (j+1) j 1 (Zj (Ze ho) (by simp[a0]) (k:=j) (by omega)).1 ?_
  refine xl 0 (by have:=(Zj (Ze ho) (by simp[a0]) (k:=j) (by omega)).2;rwa [Zay a0] at this) ?_
  refine xr 1 (args:=#[V0 (x:Int),V0 18]) (Fe x 18 _ (by omega) (by decide) (by decide)) fun W9 b4=>?_
  refine xbs 0 1 [V0 (↑(ovN x 18):Int)] 3 fun c9 c5 a3=>?_
  have a2:=bln a4 b4
  have d2:=a3.ge a2
  have a1:=Zb ho b4
  have a8:=Zr a1 a3
  have a7:=Zb a1 a3.below
  have a5:=bln a2 a3.below
  refine xbi 0 fun _ _ _ _ zJ zQ zo zx zy zK=>Zy (m:=1) (news:=[V0 (↑(ovN x 18):Int)]) (V0 0) 1 8 (j+1+1) (((xs++[x])++[ovN x 18]).map nv) zo Tryz.underlying35 (by kernel_rfl) rfl (by decide) zx a7 zy (a3.blk.sl 1 1 (by decide) (by decide)) rfl (by simp[Value.oneCell']) (by unfold maxLen;omega) (by omega) a5.size (by rfl) (by simp[nv]) fun c4 b7 d1 b9 b8 a9=>?_
  refine zK _ _ ?_
  have d0:=ov18 (x:=x) (by omega)
  have a6:=a5.trans a9
  exact ze 3 (c2 _ _ _ ⟨j+1,(ovN x 18),xs++[x],_,_,rfl,rfl,a6,b9,by simp[a0],Vd _ _,by omega,by rw[←b5,Ju (x:=x) (by omega)];simp,by omega⟩ (by omega))
 refine xe 12 (.slice p (j+1) c) ?_
 have e:Gv t n=xs++[x]:=by rw[←b5,Hp (x:=x) (by omega)]
 have el:(Gv t n).length=j+1:=by rw[e];simp[a0]
 exact⟨_,rfl,a4,p,c,by rw[el],by rw[el,e];exact ho⟩
theorem Qc(t:Int)(n:Nat)(w:World)(h1:1≤t)(h2:t≤5)(hn:n≤32768) :
 C0 114 #[V0 t,V0 (n:Int)] w (Ret (V0 (Xn t n:Int)) w):=by
 refine zin 21 Tryz.func114 ?_
 refine xc 15 (args:=#[V0 t,V0 (n:Int)]) (Zch t n _ h1 h2 hn) ?_
 rintro _ W1 ⟨_,rfl,a3,p,c,rfl,ho⟩
 have a2:=Nat.le_refl w.heap.size
 have a1:=Zf ho a2
 refine zl 5 21 (fun zm a4 V=>∃ (k:Nat),a4=[(4,V0 0),(5,V0 (↑((Gv t n).take k).sum:Int)),(10,.slice p ((Gv t n).length) c),(11,V0 (↑((Gv t n).length):Int)),(12,V0 (k:Int))]∧zm=(Gv t n).length-((k:Int)).toNat∧B3 w V∧V.ownsRow w.heap.size 3 1 (.slice p (Gv t n).length c) (Gv t n).length ((Gv t n).map nv)∧k≤(Gv t n).length) ⟨0,rfl,rfl,a3,a1,Nat.zero_le _⟩ ?_
 rintro _ _ W2 ⟨k,rfl,rfl,a0,ho,hk⟩ J2 a5 r2
 have a7:=levL_len t n
 have a2:=Js t n
 unfold Xn at a2
 have a8:=take_le (L:=Gv t n) (k+1)
 have a9:k<(Gv t n).length→((Gv t n).take (k+1)).sum=((Gv t n).take k).sum+(Gv t n).getD k 0:=Tz
 refine xid 6 ((k:Int)<(↑((Gv t n).length):Int)) (fun a6=>?_) (fun a6=>?_)
 ·refine xx 6 _ ((Gv t n).length) k 1 (Zj (Ze ho) rfl (k:=k) (by omega)).1 ?_
  refine xl 0 ((Zj (Ze ho) rfl (k:=k) (by omega)).2) ?_
  refine xwm 6 ((↑((Gv t n).take k).sum:Int)+(↑((Gv t n).getD k 0):Int)) (↑(((Gv t n).take k).sum+((Gv t n).getD k 0)):Int) ?_
  refine xwm 5 ((k:Int)+1) (↑(k+1):Int) ?_
  refine xv1 2 5 (show(V0 (↑(((Gv t n).take k).sum+((Gv t n).getD k 0)):Int):Value)=V0 (↑((Gv t n).take (k+1)).sum:Int) from by rw[Tz (by omega)]) ?_
  exact ze 0 (a5 _ _ _ ⟨k+1,rfl,rfl,a0,ho,by omega⟩ (by omega))
 refine xe 12 (V0 (↑((Gv t n).take k).sum:Int)) ?_
 have e:k=(Gv t n).length:=by omega
 subst e
 rw[List.take_length]
 exact⟨rfl,a0⟩
def Kn(n m i:Nat):Nat:=min m (n-i*m)
theorem siz_le{n m i:Nat}(hm:1≤m)(h:i<ovN n m):i*m≤n:=by
 unfold ovN at h
 rcases Nat.eq_zero_or_pos i with rfl|hi
 ·omega
 ·have h1:i+1≤(n+m-1)/m:=by omega
  have h2:=(Nat.le_div_iff_mul_le (by omega)).1 h1
  rw[Nat.add_mul] at h2
  omega
def Oh(n m k:Nat):List Value:=(List.range (ovN n m)).map fun i=>V0 (if i<k then(Kn n m i:Int) else 0)
def sizL(n m:Nat):List Nat:=(List.range (ovN n m)).map (Kn n m)
theorem sizK_zero(n m:Nat):Hs (Value.int .i64 0).cells.toList (ovN n m)=Oh n m 0:=by
 rw[show(Value.int .i64 0).cells.toList=[Value.int .i64 0] from rfl,Hs,Oh]
 simp[List.map_const']
theorem sizK_all(n m:Nat):Oh n m (ovN n m)=(sizL n m).map nv:=by
 unfold Oh sizL nv
 rw[List.map_map]
 apply List.map_congr_left
 intro i hi
 rw[List.mem_range] at hi
 simp[hi]
theorem sizK_set{n m k:Nat}(h:k<ovN n m):(Oh n m k).set k (V0 (Kn n m k:Int))=Oh n m (k+1):=by
 apply List.ext_getElem?
 intro i
 by_cases hi:i<ovN n m
 ·by_cases e:k=i
  ·subst e
   rw[List.getElem?_set_self (by simpa [Oh] using h)]
   simp[Oh,List.getElem?_range h]
  ·rw[List.getElem?_set_ne e]
   simp only[Oh,List.getElem?_map,List.getElem?_range hi,Option.map_some]
   by_cases e2:i<k
   ·simp[e2,show i<k+1 by omega]
   ·simp[e2,show ¬ i<k+1 by omega]
 ·rw[List.getElem?_eq_none (by simp[Oh];omega),List.getElem?_eq_none (by simp[Oh];omega)]
theorem sizL_len(n m:Nat):(sizL n m).length=ovN n m:=by simp[sizL]
theorem tall_Sizes(n m:Nat)(w:World)(hn:n≤32768)(hm:1≤m)(hm2:m≤32768) :
 C0 230 #[V0 (n:Int),V0 (m:Int)] w (Yy (fun w' r=>∃ p c,r=.slice p (ovN n m) c∧w'.ownsRow w.heap.size 3 1 (.slice p (ovN n m) c) (ovN n m) ((sizL n m).map nv)) w):=by
 have a8:=Zba n m hm
 refine zin 40 Tryz.func230 ?_
 refine xgk 11 [8,9] (show(decide ((n:Int)<(0:Int)):Bool)=false from decide_eq_false (by omega)) ?_
 refine xgk 4 [11,12,13] (show(decide ((n:Int)>(32768:Int)):Bool)=false from decide_eq_false (by omega)) ?_
 refine xk 5 (show(decide ((m:Int)<(1:Int)):Bool)=false from decide_eq_false (by omega)) ?_
 refine xq 5 (congrArg V0 (show(if(32768:Int)<(m:Int) then(32768:Int) else(m:Int):Int)=(m:Int) from if_neg (by omega))) ?_
 refine xr 7 (args:=#[V0 (n:Int),V0 (m:Int)]) (Fe n m _ (by omega) hm (by omega)) fun W3 a2=>?_
 refine xmk 0 fun _ _ _ _ zJ zQ zo zx zy zK=>Ke (ovN n m) (V0 0) 1 8 (Oh n m 0) zo zx zy Tryz.underlying35 (by kernel_rfl) rfl (by omega) (by omega) (sizK_zero n m) fun b4 W4 n4=>?_
 refine zK _ _ ?_
 have hB:=bln a2 n4.below
 refine zl 12 40 (fun zm a4 V=>∃ (k:Nat),a4=[(0,V0 (n:Int)),(1,V0 (m:Int)),(4,S0),(5,.slice (S1 b4) (ovN n m) (ovN n m)),(24,V0 (↑(ovN n m):Int)),(25,V0 (k:Int))]∧zm=ovN n m-((k:Int)).toNat∧B3 w V∧Blk V b4 (Oh n m k) 3∧k≤ovN n m) ⟨0,rfl,rfl,hB,n4.blk,Nat.zero_le _⟩ ?_
 rintro _ _ W5 ⟨k,rfl,rfl,a1,a0,hk⟩ J5 a5 r5
 have a7:k<ovN n m→k*m≤n:=siz_le hm
 refine xid 6 ((k:Int)<(↑(ovN n m):Int)) (fun a6=>?_) (fun a6=>?_)
 ·refine xwm 17 ((k:Int)*(m:Int)) (↑(k*m):Int) ?_
  refine xwm 0 ((n:Int)-(↑(k*m):Int)) (↑(n-(k*m)):Int) ?_
  refine xxb 1 b4 0 (ovN n m) k 1 ?_
  refine xsg 0 a0 (0+k*1) (V0 (if(↑(n-(k*m)):Int)<(m:Int) then(↑(n-(k*m)):Int) else(m:Int))) (by simp[Oh];omega) fun W7 u7 k7=>?_
  replace k7:Blk W7 b4 (Oh n m (k+1)) 3:=by rw[←(show(Oh n m k).set (0+k*1) (V0 (if(↑(n-(k*m)):Int)<(m:Int) then(↑(n-(k*m)):Int) else(m:Int)))=Oh n m (k+1) from by rw[show 0+k*1=k by omega,show(if(↑(n-(k*m)):Int)<(m:Int) then(↑(n-(k*m)):Int) else(m:Int))=(↑(Kn n m k):Int) from Zef m (n-k*m)];exact sizK_set (by omega))];exact k7
  have g4:=n4.ge a2
  refine xwm 4 ((k:Int)+1) (↑(k+1):Int) ?_
  have a3:=u7.below a1 g4
  exact ze 2 (a5 _ _ _ ⟨k+1,rfl,rfl,a3,k7,by omega⟩ (by omega))
 have g4:=n4.ge a2
 refine xe 12 (.slice (S1 b4) (ovN n m) (ovN n m)) ?_
 have e:k=ovN n m:=by omega
 subst e
 have ho:=Zz (size:=1) (n:=ovN n m) a0 g4 (by simp[Oh]) (by unfold maxLen;omega)
 rw[sizK_all] at ho
 exact⟨_,rfl,a1,_,_,rfl,ho⟩
def Zh(l:Bl):Nat→Nat→Nat
 | _,0=>0
 | k,w+1=>(l.getD k 0).toNat+256*Zh l (k+1) w
theorem Ae(l:Bl):∀ (w k:Nat),Zh l k w<256 ^ w
 | 0,k=>by simp[Zh]
 | w+1,k=>by
  have:=Ae l w (k+1)
  have h:=(l.getD k 0).toNat_lt
  rw[Zh,Nat.pow_succ];omega
theorem Zd6(l:Bl)(k w:Nat)(hw:w≤7):Zh l k w<72057594037927936:=Nat.lt_of_lt_of_le (Ae l w k) (by rw[show(72057594037927936:Nat)=256 ^ 7 from rfl];exact Nat.pow_le_pow_right (by decide) hw)
theorem Yf(l:Bl)(k w:Nat)(hw:w≤4):Zh l k w<4294967296:=Nat.lt_of_lt_of_le (Ae l w k) (by rw[show(4294967296:Nat)=256 ^ 4 from rfl];exact Nat.pow_le_pow_right (by decide) hw)
theorem Zd9{n b:Nat}(hn:n<72057594037927936)(hb:b<256):IntKind.u64.wrap (↑(BitVec.ofInt 64 (IntKind.u64.wrap ((n:Int)*2 ^ 8)) ||| BitVec.ofInt 64 (b:Int)).toNat:Int)=((b+256*n:Nat):Int):=by
 have h1:IntKind.u64.wrap ((n:Int)*2 ^ 8)=((n*2 ^ 8:Nat):Int):=by
  rw[show(n:Int)*2 ^ 8=((n*2 ^ 8:Nat):Int) by omega];exact IntWalk.u64_in _ (by constructor<;>omega)
 rw[h1,BitVec.ofInt_natCast,BitVec.ofInt_natCast,BitVec.toNat_or,BitVec.toNat_ofNat,BitVec.toNat_ofNat,Nat.mod_eq_of_lt (by omega),Nat.mod_eq_of_lt (by omega)]
 rw[←Nat.shiftLeft_eq,←Nat.shiftLeft_add_eq_or_of_lt (by exact hb:b<2 ^ 8),Nat.shiftLeft_eq,IntWalk.u64_in _ (by constructor<;>omega)]
 congr 1;omega
theorem u64_nat{n:Nat}(h:n<18446744073709551616):IntKind.u64.wrap (n:Int)=(n:Int):=IntWalk.u64_in _ (by constructor<;>omega)
theorem Zfi(a:O0)(m c k w:Nat)(hw:w=1∨w=2∨w=4∨w=8)(hk:k+w≤m)(hm:m≤100000000)(W:World) :
 C0 145 #[.slice a m c,V0 (k:Int),V0 (w:Int)] W (Ret (V0 0) W):=by
 rcases hw with rfl|rfl|rfl|rfl
 ·exact there_1 a m c k hk hm W
 ·exact there_2 a m c k hk hm W
 ·exact there_4 a m c k hk hm W
 ·exact there_8 a m c k hk hm W
theorem Zeb(a:O0)(c k w:Nat)(l:Bl)(W:World)(hw:w=1∨w=2∨w=4∨w=8)(hk:k+w≤l.length)(hl:l.length≤100000000)(h:Bys W (.slice a l.length c) l)(hq:Zh l k w<9223372036854775808) :
 C0 78 #[.slice a l.length c,V0 (k:Int),V0 (w:Int)] W (Ret (.tuple #[V0 (Zh l k w:Int),V0 0]) W):=by
 refine zin 38 Tryz.func78 ?_
 refine xr 12 (args:=#[.slice a l.length c,V0 (k:Int),V0 (w:Int)]) (Zfi a l.length c k w hw hk hl _) fun W1 a1=>?_
 refine xw 21 ((w:Int)-1) ?_
 refine zl 4 38 (fun zm a2 V=>∃ (j r:Nat),a2=[(0,.slice a l.length c),(1,V0 (k:Int)),(6,V0 0),(7,V0 0),(9,.int .u64 (↑(Zh l (k+j) r):Int)),(10,V0 ((j:Int)-1))]∧zm=(((j:Int)-1)+1).toNat∧B3 W V∧j+r=w) ⟨w,0,rfl,rfl,a1,by omega⟩ ?_
 rintro _ _ W2 ⟨j,r,rfl,rfl,a0,a5⟩ J2 a3 r2
 refine xid 7 ((j:Int)-1≥(0:Int)) (fun a4=>?_) (fun a4=>?_)
 ·refine xq 10 (congrArg V0 (show IntKind.i64.wrap ((k:Int)+((j:Int)-1))=(↑(k+(j-1)):Int) from(show IntKind.i64.wrap ((k:Int)+((j:Int)-1))=((k:Int)+((j:Int)-1)) from by first|exact IntWalk.i64_in _ (by omega)|(simp only[IntKind.wrap];omega)).trans (by omega))) ?_
  refine xx 0 _ l.length (k+(j-1)) 1 (Bys.elem h (k:=(k+(j-1))) (by omega)).1 ?_
  refine xl 0 ((Bys.elem (h.below a0) (k:=(k+(j-1))) (by omega)).2) ?_
  refine xq 0 (congrArg (Value.int .u64) (show(IntKind.u64.wrap (↑(l.getD (k+(j-1)) 0).toNat:Int):Int)=(↑(l.getD (k+(j-1)) 0).toNat:Int) from u64_nat (by have:=(l.getD (k+(j-1)) 0).toNat_lt;omega))) ?_
  refine xq 0 (congrArg (Value.int .u64) (show(IntKind.u64.wrap (↑(BitVec.ofInt 64 (IntKind.u64.wrap ((↑(Zh l (k+j) r):Int)*2 ^ 8)) ||| BitVec.ofInt 64 (↑(l.getD (k+(j-1)) 0).toNat:Int)).toNat:Int):Int)=(↑(Zh l (k+(j-1)) (r+1)):Int) from(Zd9 (Zd6 l (k+j) r (by omega)) (l.getD (k+(j-1)) 0).toNat_lt).trans (congrArg (fun x:Nat=>(x:Int)) (by rw[Zh,show k+(j-1)+1=k+j by omega])))) ?_
  refine xq 6 (congrArg V0 (show IntKind.i64.wrap ((j:Int)-1-1)=((↑(j-1:Nat):Int)-1) from(show IntKind.i64.wrap ((j:Int)-1-1)=((j:Int)-1-1) from by first|exact IntWalk.i64_in _ (by omega)|(simp only[IntKind.wrap];omega)).trans (by omega))) ?_
  exact ze 2 (a3 _ _ _ ⟨j-1,r+1,rfl,rfl,a0,by omega⟩ (by omega))
 refine xk 12 (show(decide ((↑(Zh l (k+j) r):Int)≥(9223372036854775808:Int)):Bool)=false from by rw[(show Zh l (k+j) r=Zh l k w from by rw[show j=0 by omega,show r=w by omega];rfl)];exact decide_eq_false (by omega)) ?_
 refine xq 5 (congrArg V0 (show(IntKind.i64.wrap (↑(Zh l (k+j) r):Int):Int)=(↑(Zh l k w):Int) from by rw[(show Zh l (k+j) r=Zh l k w from by rw[show j=0 by omega,show r=w by omega];rfl)];exact Ht hq)) ?_
 exact xe 5 (.tuple #[V0 (↑(Zh l k w):Int),V0 0]) ⟨rfl,a0⟩
theorem Get_big(a:O0)(c k w:Nat)(l:Bl)(W:World)(hw:w=1∨w=2∨w=4∨w=8)(hk:k+w≤l.length)(hl:l.length≤100000000)(h:Bys W (.slice a l.length c) l)(hq:¬ Zh l k w<9223372036854775808) :
 C0 78 #[.slice a l.length c,V0 (k:Int),V0 (w:Int)] W (Ret (.tuple #[V0 0,V0 2]) W):=by
 refine zin 38 Tryz.func78 ?_
 refine xr 12 (args:=#[.slice a l.length c,V0 (k:Int),V0 (w:Int)]) (Zfi a l.length c k w hw hk hl _) fun W1 a1=>?_
 refine xw 21 ((w:Int)-1) ?_
 refine zl 4 38 (fun zm a2 V=>∃ (j r:Nat),a2=[(0,.slice a l.length c),(1,V0 (k:Int)),(6,V0 0),(7,V0 0),(9,.int .u64 (↑(Zh l (k+j) r):Int)),(10,V0 ((j:Int)-1))]∧zm=(((j:Int)-1)+1).toNat∧B3 W V∧j+r=w) ⟨w,0,rfl,rfl,a1,by omega⟩ ?_
 rintro _ _ W2 ⟨j,r,rfl,rfl,a0,a5⟩ J2 a3 r2
 refine xid 7 ((j:Int)-1≥(0:Int)) (fun a4=>?_) (fun a4=>?_)
 ·refine xq 10 (congrArg V0 (show IntKind.i64.wrap ((k:Int)+((j:Int)-1))=(↑(k+(j-1)):Int) from(show IntKind.i64.wrap ((k:Int)+((j:Int)-1))=((k:Int)+((j:Int)-1)) from by first|exact IntWalk.i64_in _ (by omega)|(simp only[IntKind.wrap];omega)).trans (by omega))) ?_
  refine xx 0 _ l.length (k+(j-1)) 1 (Bys.elem h (k:=(k+(j-1))) (by omega)).1 ?_
  refine xl 0 ((Bys.elem (h.below a0) (k:=(k+(j-1))) (by omega)).2) ?_
  refine xq 0 (congrArg (Value.int .u64) (show(IntKind.u64.wrap (↑(l.getD (k+(j-1)) 0).toNat:Int):Int)=(↑(l.getD (k+(j-1)) 0).toNat:Int) from u64_nat (by have:=(l.getD (k+(j-1)) 0).toNat_lt;omega))) ?_
  refine xq 0 (congrArg (Value.int .u64) (show(IntKind.u64.wrap (↑(BitVec.ofInt 64 (IntKind.u64.wrap ((↑(Zh l (k+j) r):Int)*2 ^ 8)) ||| BitVec.ofInt 64 (↑(l.getD (k+(j-1)) 0).toNat:Int)).toNat:Int):Int)=(↑(Zh l (k+(j-1)) (r+1)):Int) from(Zd9 (Zd6 l (k+j) r (by omega)) (l.getD (k+(j-1)) 0).toNat_lt).trans (congrArg (fun x:Nat=>(x:Int)) (by rw[Zh,show k+(j-1)+1=k+j by omega])))) ?_
  refine xq 6 (congrArg V0 (show IntKind.i64.wrap ((j:Int)-1-1)=((↑(j-1:Nat):Int)-1) from(show IntKind.i64.wrap ((j:Int)-1-1)=((j:Int)-1-1) from by first|exact IntWalk.i64_in _ (by omega)|(simp only[IntKind.wrap];omega)).trans (by omega))) ?_
  exact ze 2 (a3 _ _ _ ⟨j-1,r+1,rfl,rfl,a0,by omega⟩ (by omega))
 refine xk 12 (show(decide ((↑(Zh l (k+j) r):Int)≥(9223372036854775808:Int)):Bool)=true from by rw[(show Zh l (k+j) r=Zh l k w from by rw[show j=0 by omega,show r=w by omega];rfl)];exact decide_eq_true (by omega)) ?_
 exact xe 8 (.tuple #[V0 0,V0 2]) ⟨rfl,a0⟩
def Jk(l:Bl):Nat→List Nat→List Nat
 | _,[]=>[]
 | k,w::r=>Zh l k w::Jk l (k+w) r
theorem Ab(l:Bl):∀ (ws:List Nat) (k:Nat),(Jk l k ws).length=ws.length
 | [],k=>rfl
 | w::r,k=>by simp[Jk,Ab l r]
theorem Ly(l:Bl)(w:Nat):∀ (ws:List Nat) (k:Nat),Jk l k (ws++[w])=Jk l k ws++[Zh l (k+ws.sum) w]
 | [],k=>by simp[Jk]
 | x::r,k=>by simp[Jk,Ly l w r,Nat.add_assoc]
theorem Lh(l:Bl):∀ (ws:List Nat) (k i:Nat),i<ws.length→(Jk l k ws).getD i 0=Zh l (k+(ws.take i).sum) (ws.getD i 0)
 | [],k,i,h=>by simp at h
 | w::r,k,0,h=>by simp[Jk]
 | w::r,k,i+1,h=>by
  have:=Lh l r (k+w) i (by simpa using h)
  simp only[List.getD_eq_getElem?_getD] at this ⊢
  simp[Jk,this,Nat.add_assoc]
theorem Hy{ws:List Nat}{i:Nat}(h:i<ws.length):ws.take (i+1)=ws.take i++[ws.getD i 0]:=by
 rw[List.take_succ_eq_append_getElem h];simp[List.getD,h]
theorem Ny{ws:List Nat}{i:Nat}(h:i<ws.length):(ws.take i).sum+ws.getD i 0≤ws.sum:=by
 have h1:=Tz h;have h2:=take_le (L:=ws) (i+1);omega
def getV(l:Bl)(k w:Nat):Int:=if Zh l k w<9223372036854775808 then(Zh l k w:Int) else 0
def Zee(l:Bl)(k w:Nat):Int:=if Zh l k w<9223372036854775808 then 0 else 2
theorem getE_zero{l:Bl}{k w:Nat}(h:Zee l k w=0):Zh l k w<9223372036854775808:=by unfold Zee at h;split at h;assumption;cases h
theorem getE_two{l:Bl}{k w:Nat}(h:Zee l k w≠0):¬ Zh l k w<9223372036854775808∧Zee l k w=2:=by unfold Zee at h ⊢;split at h;exact absurd rfl h;rename_i h2;exact⟨h2,if_neg h2⟩
theorem Oe{l:Bl}{k w:Nat}(h:Zh l k w<9223372036854775808):Zee l k w=0:=if_pos h
theorem Rc{l:Bl}{k w:Nat}(h:Zh l k w<9223372036854775808):getV l k w=(Zh l k w:Int):=if_pos h
theorem Get_gen(a:O0)(c k w:Nat)(l:Bl)(W:World)(hw:w=1∨w=2∨w=4∨w=8)(hk:k+w≤l.length)(hl:l.length≤100000000)(h:Bys W (.slice a l.length c) l) :
 C0 78 #[.slice a l.length c,V0 (k:Int),V0 (w:Int)] W (Ret (.tuple #[V0 (getV l k w),V0 (Zee l k w)]) W):=by
 by_cases hq:Zh l k w<9223372036854775808
 ·rw[Rc hq,Oe hq];exact Zeb a c k w l W hw hk hl h hq
 ·rw[getV,Zee,if_neg hq,if_neg hq];exact Get_big a c k w l W hw hk hl h hq
theorem Ox(a:O0)(c:Nat)(l:Bl)(aw:O0)(cw:Nat)(ws:List Nat)(W:World)(hk:∀ i,i<ws.length→ws.getD i 0=1∨ws.getD i 0=2∨ws.getD i 0=4∨ws.getD i 0=8)(hs:ws.sum≤l.length)(hl:l.length≤100000000)(hw:ws.length≤1000)(h:Bys W (.slice a l.length c) l)(hws:Sl W (.slice aw ws.length cw) ws.length (ws.map nv))(hq:∀ i,i<ws.length→(Jk l 0 ws).getD i 0<9223372036854775808) :
 C0 156 #[.slice a l.length c,.slice aw ws.length cw] W (Yy (fun w' r=>∃ p c,r=.tuple #[.slice p ws.length c,V0 0]∧w'.ownsRow W.heap.size 3 1 (.slice p ws.length c) ws.length ((Jk l 0 ws).map nv)) W):=by
 refine zin 37 Tryz.func156 ?_
 have hB:=Below.refl W.heap.size W
 refine zl 25 37 (fun zm b1 V=>∃ (i:Nat) (p:O0) (c2:Nat),b1=[(0,.slice a l.length c),(6,.slice p i c2),(7,V0 (↑(ws.take i).sum:Int)),(12,.slice aw ws.length cw),(13,V0 (ws.length:Int)),(14,V0 (i:Int))]∧zm=ws.length-((i:Int)).toNat∧B3 W V∧V.ownsRow W.heap.size 3 1 (.slice p i c2) i ((Jk l 0 (ws.take i)).map nv)∧i≤ws.length) ⟨0,_,_,rfl,rfl,hB,World.ownsRow_nil _ _ _ _,Nat.zero_le _⟩ ?_
 rintro _ _ W1 ⟨i,p,c2,rfl,rfl,a0,ho,hi⟩ J1 a9 r1
 have b7:i<ws.length→(ws.take i).sum+ws.getD i 0≤ws.sum:=Ny
 have a8:i<ws.length→(Jk l 0 ws).getD i 0=Zh l (ws.take i).sum (ws.getD i 0):=fun h=>by rw[Lh l ws 0 i h,Nat.zero_add]
 refine xid 6 ((i:Int)<(ws.length:Int)) (fun b2=>?_) (fun b2=>?_)
 ·refine xx 6 _ ws.length i 1 (Zj hws rfl (k:=i) (by omega)).1 ?_
  refine xl 0 ((Zj (hws.below a0) rfl (k:=i) (by omega)).2) ?_
  refine xr 8 (args:=#[.slice a l.length c,V0 (↑(ws.take i).sum:Int),V0 (↑(ws.getD i 0):Int)]) (Get_gen a c (ws.take i).sum (ws.getD i 0) l _ (hk i (by omega)) (by omega) hl (h.below a0)) fun W3 a7=>?_
  refine xk 14 (show(((Zee l (ws.take i).sum (ws.getD i 0)) != (0:Int)):Bool)=false from by rw[Oe (by rw[←a8 (by omega)];exact hq i (by omega))];rfl) ?_
  refine xbs 6 1 [V0 (getV l (ws.take i).sum (ws.getD i 0))] 3 fun b4 W4 n4=>?_
  have a1:=bln a0 a7
  have g4:=n4.ge a1
  have a3:=Zb ho a7
  have a6:=Zr a3 n4
  have a4:=Zb a3 n4.below
  have a2:=bln a1 n4.below
  refine xbi 0 fun _ _ _ _ zJ zQ zo zx zy zK=>Zy (m:=1) (news:=[V0 (getV l (ws.take i).sum (ws.getD i 0))]) (V0 0) 1 8 (i+1) ((Jk l 0 (ws.take (i+1))).map nv) zo Tryz.underlying35 (by kernel_rfl) rfl (by decide) zx a4 zy (n4.blk.sl 1 1 (by decide) (by decide)) rfl (by simp[Value.oneCell']) (by unfold maxLen;omega) (by omega) a2.size (by rfl) (by rw[Hy (by omega),Ly,Nat.zero_add,List.map_append];simp only[List.map_cons,List.map_nil,nv];rw[Rc (by rw[←a8 (by omega)];exact hq i (by omega))]) fun b6 b5 W5 o5 b3 b0=>?_
  refine zK _ _ ?_
  refine xwm 6 ((↑(ws.take i).sum:Int)+(↑(ws.getD i 0):Int)) (↑((ws.take i).sum+(ws.getD i 0)):Int) ?_
  refine xwm 5 ((i:Int)+1) (↑(i+1):Int) ?_
  refine xv1 2 7 (show(V0 (↑((ws.take i).sum+(ws.getD i 0)):Int):Value)=V0 (↑(ws.take (i+1)).sum:Int) from by rw[Hy (by omega),List.sum_append];simp) ?_
  have a5:=a2.trans b0
  exact ze 0 (a9 _ _ _ ⟨i+1,_,_,rfl,rfl,a5,o5,by omega⟩ (by omega))
 refine xe 13 (.tuple #[.slice p i c2,V0 0]) ?_
 obtain rfl:i=ws.length:=by omega
 rw[List.take_length] at ho
 exact⟨_,rfl,a0,_,_,rfl,ho⟩
theorem Unpack_bad(a:O0)(c:Nat)(l:Bl)(aw:O0)(cw:Nat)(ws:List Nat)(W:World)(hk:∀ i,i<ws.length→ws.getD i 0=1∨ws.getD i 0=2∨ws.getD i 0=4∨ws.getD i 0=8)(hs:ws.sum≤l.length)(hl:l.length≤100000000)(hw:ws.length≤1000)(h:Bys W (.slice a l.length c) l)(hws:Sl W (.slice aw ws.length cw) ws.length (ws.map nv))(hq:¬ ∀ i,i<ws.length→(Jk l 0 ws).getD i 0<9223372036854775808) :
 C0 156 #[.slice a l.length c,.slice aw ws.length cw] W (Ret (.tuple #[S0,V0 2]) W):=by
 refine zin 37 Tryz.func156 ?_
 have hB:=Below.refl W.heap.size W
 refine zl 25 37 (fun zm b7 V=>∃ (i:Nat) (p:O0) (c2:Nat),b7=[(0,.slice a l.length c),(6,.slice p i c2),(7,V0 (↑(ws.take i).sum:Int)),(12,.slice aw ws.length cw),(13,V0 (ws.length:Int)),(14,V0 (i:Int))]∧zm=ws.length-((i:Int)).toNat∧B3 W V∧V.ownsRow W.heap.size 3 1 (.slice p i c2) i ((Jk l 0 (ws.take i)).map nv)∧i≤ws.length∧(∀ j,j<i→(Jk l 0 ws).getD j 0<9223372036854775808)) ⟨0,_,_,rfl,rfl,hB,World.ownsRow_nil _ _ _ _,Nat.zero_le _,?_⟩ ?_
 ·exact fun j hj=>absurd hj (by omega)
 rintro _ _ W1 ⟨i,p,c2,rfl,rfl,a0,ho,hi,a2⟩ J1 b2 r1
 have c1:i<ws.length→(ws.take i).sum+ws.getD i 0≤ws.sum:=Ny
 have b6:i<ws.length→(Jk l 0 ws).getD i 0=Zh l (ws.take i).sum (ws.getD i 0):=fun h=>by rw[Lh l ws 0 i h,Nat.zero_add]
 refine xid 6 ((i:Int)<(ws.length:Int)) (fun b4=>?_) (fun b4=>?_)
 ·refine xx 6 _ ws.length i 1 (Zj hws rfl (k:=i) (by omega)).1 ?_
  refine xl 0 ((Zj (hws.below a0) rfl (k:=i) (by omega)).2) ?_
  refine xr 8 (args:=#[.slice a l.length c,V0 (↑(ws.take i).sum:Int),V0 (↑(ws.getD i 0):Int)]) (Get_gen a c (ws.take i).sum (ws.getD i 0) l _ (hk i (by omega)) (by omega) hl (h.below a0)) fun W3 a9=>?_
  refine xin 14 (Zee l (ws.take i).sum (ws.getD i 0)) (0:Int) (fun a6=>?_) (fun a6=>?_)
  ·have a5:=getE_two a6
   have a8:=bln a0 a9
   refine xe 14 (.tuple #[S0,V0 (Zee l (ws.take i).sum (ws.getD i 0))]) ?_
   rw[a5.2];exact⟨rfl,a8⟩
  have a5:=getE_zero a6
  refine xbs 6 1 [V0 (getV l (ws.take i).sum (ws.getD i 0))] 3 fun b5 W5 n5=>?_
  have a4:=bln a0 a9
  have g5:=n5.ge a4
  have a1:=Zb ho a9
  have b1:=Zr a1 n5
  have a7:=Zb a1 n5.below
  have a3:=bln a4 n5.below
  refine xbi 0 fun _ _ _ _ zJ zQ zo zx zy zK=>Zy (m:=1) (news:=[V0 (getV l (ws.take i).sum (ws.getD i 0))]) (V0 0) 1 8 (i+1) ((Jk l 0 (ws.take (i+1))).map nv) zo Tryz.underlying35 (by kernel_rfl) rfl (by decide) zx a7 zy (n5.blk.sl 1 1 (by decide) (by decide)) rfl (by simp[Value.oneCell']) (by unfold maxLen;omega) (by omega) a3.size (by rfl) (by rw[Hy (by omega),Ly,Nat.zero_add,List.map_append];simp only[List.map_cons,List.map_nil,nv];rw[Rc a5]) fun b8 c0 W6 o6 b9 b3=>?_
  refine zK _ _ ?_
  refine xwm 6 ((↑(ws.take i).sum:Int)+(↑(ws.getD i 0):Int)) (↑((ws.take i).sum+(ws.getD i 0)):Int) ?_
  refine xwm 5 ((i:Int)+1) (↑(i+1):Int) ?_
  refine xv1 2 7 (show(V0 (↑((ws.take i).sum+(ws.getD i 0)):Int):Value)=V0 (↑(ws.take (i+1)).sum:Int) from by rw[Hy (by omega),List.sum_append];simp) ?_
  have b0:=a3.trans b3
  exact ze 0 (b2 _ _ _ ⟨i+1,_,_,rfl,rfl,b0,o6,by omega,fun j hj=>(Nat.lt_or_ge j i).elim (fun q=>a2 j q) (fun q=>by obtain rfl:j=i:=(by omega);rw[b6 (by omega)];exact a5)⟩ (by omega))
 refine xe 13 (.tuple #[.slice p i c2,V0 0]) ?_
 exact absurd (fun j hj=>a2 j (by omega)) hq
end Go.Proofs.YtceeiinepijokaaGreat
namespace Go.Proofs.YtceeiinepijokaaGreat
set_option maxHeartbeats 8000000
set_option maxRecDepth 100000
open Go.RowKit
set_option linter.unusedVariables false
theorem loop_eq(bs:ByteArray)(i:Nat)(r:Bl):ByteArray.toList.loop bs i r=r.reverse++bs.data.toList.drop i:=by
 have hs:bs.data.toList.length=bs.size:=by rw[Array.length_toList];rfl
 rw[ByteArray.toList.loop]
 split
 ·rename_i h
  have h':i<bs.data.toList.length:=by omega
  rw[loop_eq bs (i+1) _,List.drop_eq_getElem_cons h']
  have e:bs.get! i=bs.data.toList[i]:=by
   have h2:i<bs.data.size:=by rw[←Array.length_toList];exact h'
   show bs.data[i]! = _
   rw[getElem!_pos bs.data i h2];simp
  rw[e];simp
 ·rename_i h
  rw[List.drop_eq_nil_of_le (by omega)];simp
termination_by bs.size-i
theorem Ze0(a:Bl):(⟨a.toArray⟩:ByteArray).toList=a:=by
 unfold ByteArray.toList;rw[loop_eq];simp
theorem Ce(a b:Bl):((⟨a.toArray⟩:ByteArray).toList==(⟨b.toArray⟩:ByteArray).toList)=(a==b):=by rw[Ze0,Ze0]
theorem Fn(l:Bl):∀ (w k i:Nat),i<w→Zh l k w/256 ^ i%256=(l.getD (k+i) 0).toNat
 | 0,k,i,h=>absurd h (by omega)
 | w+1,k,0,_=>by
  have:=(l.getD k 0).toNat_lt
  rw[Zh];simp only[Nat.pow_zero,Nat.div_one,Nat.add_zero];omega
 | w+1,k,i+1,h=>by
  have:=(l.getD k 0).toNat_lt
  have ih:=Fn l w (k+1) i (by omega)
  rw[Zh,Nat.pow_succ,Nat.mul_comm (256 ^ i) 256,←Nat.div_div_eq_div_mul,show((l.getD k 0).toNat+256*Zh l (k+1) w)/256=Zh l (k+1) w by omega,ih,show k+1+i=k+(i+1) by omega]
theorem leB_raw{l:Bl}{k w:Nat}(h:k+w≤l.length):leB (Zh l k w:Int) w=(l.drop k).take w:=by
 apply List.ext_getElem
 ·simp[Zg];omega
 intro i h1 h2
 have hw:i<w:=by simpa [Zg] using h1
 have e:=Fn l w k i hw
 apply UInt8.toNat_inj.1
 simp only[leB,List.getElem_map,List.getElem_range,Zp,Int.toNat_natCast,UInt8.toNat_ofNat',List.getElem_take,List.getElem_drop]
 have e2:l.getD (k+i) 0=l[k+i]'(by omega):=by simp[List.getD,show k+i<l.length by omega]
 rw[e2] at e
 rw[←e]
theorem leB_inj{m n w:Nat}(hm:m<256 ^ w)(hn:n<256 ^ w)(h:leB (m:Int) w=leB (n:Int) w):m=n:=by
 have e:∀ i,i<w→m/256 ^ i%256=n/256 ^ i%256:=fun i hi=>by
  have:=congrArg (fun l=>(l.getD i 0).toNat) h
  simpa [leB,Zp,List.getD,List.getElem?_range hi,UInt8.toNat_ofNat'] using this
 clear h
 induction w generalizing m n with
 | zero=>simp at hm hn;omega
 | succ w ih =>
  have h0:=e 0 (by omega)
  have h1:m/256=n/256:=ih (by rw[Nat.pow_succ] at hm;omega) (by rw[Nat.pow_succ] at hn;omega) fun i hi=>by
   have:=e (i+1) (by omega)
   rw[Nat.pow_succ,Nat.mul_comm (256 ^ i) 256,←Nat.div_div_eq_div_mul,←Nat.div_div_eq_div_mul] at this
   exact this
  simp only[Nat.pow_zero,Nat.div_one] at h0
  omega
theorem Gs{b:Bool}(h:(!b)=true):b=false:=by simpa using h
theorem Hx{b:Bool}(h:(!b)=false):b=true:=by simpa using h
end Go.Proofs.YtceeiinepijokaaGreat
namespace Go.Proofs.YtceeiinepijokaaGreat
set_option maxHeartbeats 8000000
set_option maxRecDepth 100000
open Go.RowKit Go.Extern.Stop Go.Stop Go.Extern
set_option linter.unusedVariables false
attribute [local irreducible] wpList wpAnyH Code.wp Oper.wp Go
theorem Vm{P:Program}{a:Act}{o:Oper}{src dst e:TypeId}{x:Operand}{b:O0}{n c:Nat}{l:Bl}{w:World}(ho:o.op=.convert src dst x)(hx:a.eval x=.slice b n c)(h:Bys w (.slice b n c) l)(hl:l.length=n)
 (hs:P.underlying src=some (.slice e)) (he:P.underlying e=some (.int .u8)) (hd:P.underlying dst=some .string):(execOp a.eval o).run P w=.ok (.value (.string ⟨l.toArray⟩)) w:=by
 have hr:(convert src dst (.slice b n c)).run P w=.ok (.string ⟨l.toArray⟩) w:=by
  subst hl
  rcases Sl.at h with hn|⟨g,a0,rfl,hc⟩
  ·obtain rfl:l=[]:=by simpa using hn
   cases b with
   | none=>rw[run_convert_bytes_string w src dst e none _ c hs he hd];rfl
   | some p=>exact run_convert_bytes_back w src dst e p c [] hs he hd (fun j hj=>by simp at hj)
  ·exact run_convert_bytes_back w src dst e _ c l hs he hd (fun j hj=>by rw[Addr.add_mid];exact hc j _ (by simp[List.getElem?_eq_getElem hj,bv]))
 simp only[execOp,ho,hx,Sem.run_bind,hr];rfl
theorem Al.below{B ba b g n c:Nat}{pa:O0}{ca f N k:Nat}{l:Bl}{w W:World}(h:Al B ba b g n c pa ca f N k l w)(hb:B3 w W):Al B ba b g n c pa ca f N k l W:=⟨h.blkA.below hb,h.blkI.below hb,Zb h.data hb,Zb h.nums hb⟩
theorem Mq{w:World}{base n c size:Nat}{e:TypeId}{p:O0}{xs:List Value}(h:w.ownsRow base e size (.slice p n c) n xs)(hn:0<n):∃ g,p=some ⟨g,0,none⟩∧n≤c:=by
 rcases h.2 with ⟨_,h0⟩|⟨g,a0,a1,hv,_,_,hc,_⟩
 ·omega
 ·simp only[Value.slice.injEq] at hv;exact⟨g,hv.1,by omega⟩
theorem Bys.cap{w:World}{a:O0}{n c:Nat}{l:Bl}(h:Bys w (.slice a n c) l)(hl:l.length=n):n≤c:=by
 rcases h with ⟨a',c',h1,h2,_⟩|⟨b,a0,cap,h1,h2,_,_⟩
 ·omega
 ·simp only[Value.slice.injEq] at h1;omega
theorem alloc_NewN(b:Nat)(p0:O0)(n c f N:Nat)(fi:Int)(hfi:fi=(f:Int))(hN:n/256-f=N)(w:World)(hk:Blk w b [.slice p0 n c] 59)(hn:n≤3686400)(h1:1≤f)(h2:f≤n/256) :
 C0 36 #[P0 b,V0 fi] w (Yy (fun w' r=>∃ ba p c2,r=.tuple #[P0 ba,.nilIface]∧w.heap.size≤ba∧Blk w' ba [.slice p N c2,V0 0,P0 b] 152∧w'.ownsRow w.heap.size 3 1 (.slice p N c2) N ((Tg f N).map V0)) w):=by
 subst hfi hN;exact alloc_New b p0 n c f w hk hn h1 h2
end Go.Proofs.YtceeiinepijokaaGreat
namespace Go.Proofs.YtceeiinepijokaaGreat
set_option maxHeartbeats 8000000
set_option maxRecDepth 100000
open Go.RowKit Go.Extern.Stop Go.Stop Go.Extern
set_option linter.unusedVariables false
attribute [local irreducible] wpList wpAnyH Code.wp Oper.wp Go
section
variable {P:Program} {a:Act}
theorem Hn{o:Oper}{t e:TypeId}{x y y2:Operand}{b:O0}{n k h c:Nat}{i j:Int}{ki kj:IntKind}(size:Nat)(ho:o.op=.slice t x (some y) (some y2) none)(hx:a.eval x=.slice b n c)(hy:a.eval y=.int ki i)(hi:i=(k:Int))(hy2:a.eval y2=.int kj j)(hj:j=(h:Int))(hk:k≤h)(hc:h≤c)
 (ht:P.underlying t=some (.slice e)) (hs:(P.info? e).map (·.size)=some size) (w:World):(execOp a.eval o).run P w=.ok (.value (.slice (Vp b k c size) (h-k) (c-k))) w:=by
 cases hq:P.info? e with
 | none=>simp[hq] at hs
 | some q =>
  have a0:q.size=size:=by simpa [hq] using hs
  subst hi hj
  have h1:(0:Int)≤(k:Int):=by omega
  have h2:(0:Int)≤(h:Int):=by omega
  have h3:(k:Int)≤(h:Int):=by omega
  have h4:(h:Int)≤(c:Int):=by omega
  by_cases h5:c=k
  ·simp_all [execOp,Instr.sliceAt,Instr.slice,Instr.sliceBounds,Instr.sliceBound,asIntOf,run_underlying ht,sizeOf,typeInfo,Vp]
  ·simp_all [execOp,Instr.sliceAt,Instr.slice,Instr.sliceBounds,Instr.sliceBound,asIntOf,run_underlying ht,sizeOf,typeInfo,Vp]
end
theorem Bys.cut{w:World}{b:O0}{n c:Nat}{l:Bl}(h:Bys w (.slice b n c) l)(hl:l.length=n)(k m:Nat)(hk:k≤m)(hm:m≤n):Bys w (.slice (Vp b k c 1) (m-k) (c-k)) ((l.drop k).take (m-k)):=by
 have a0:((l.drop k).take (m-k)).length=m-k:=by simp;omega
 have a2:=Bys.cap h hl
 rcases h with ⟨a',c',h1,h2,h3⟩|⟨g,a1,a3,h1,h2,h3,h4⟩
 ·obtain rfl:k=0:=by omega
  obtain rfl:m=0:=by omega
  refine .inl ⟨Vp b 0 c 1,c-0,?_,by simp,by simp⟩
  simp
 ·simp only[Value.slice.injEq] at h1
  obtain⟨rfl,_,rfl⟩:=h1
  by_cases hz:m-k=0
  ·refine .inl ⟨Vp (some ⟨g,a1,none⟩) k c 1,c-k,by rw[hz],by omega,?_⟩
   rw[hz];rfl
  ·refine .inr ⟨g,a1+k*1,c-k,?_,by omega,by omega,fun j x hj=>?_⟩
   ·rw[Vp,if_neg (by omega),a0];simp[Addr.add]
   ·rw[List.getElem?_map,List.getElem?_take] at hj
    split at hj
    ·rw[List.getElem?_drop] at hj
     have:=h4 (k+j) x (by rw[List.getElem?_map];exact hj)
     rwa [Nat.mul_one,Nat.add_assoc]
    ·cases hj
def Qm(l:Bl):Bool:=l.all (·==0)
theorem Bh{l:Bl}(h:∀ j,j<l.length→l.getD j 0=0):Qm l=true:=by
 unfold Qm
 rw[List.all_eq_true]
 intro x hx
 obtain⟨j,hj,rfl⟩:=List.mem_iff_getElem.1 hx
 have:=h j hj
 simpa [List.getD,hj] using this
theorem Eb{l:Bl}{j:Nat}(hj:j<l.length)(h:((l.getD j 0).toNat:Int)≠0):Qm l=false:=by
 unfold Qm
 rw[List.all_eq_false]
 refine⟨l[j],List.getElem_mem hj,?_⟩
 intro h2
 apply h
 have:l[j]=0:=by simpa using h2
 simp[List.getD,hj,this]
theorem Zas{x:UInt8}(h:(x.toNat:Int)=0):x=0:=by
 have h1:x.toNat=0:=by omega
 exact UInt8.toNat_inj.1 (by rw[h1];rfl)
theorem zero_1(n:Int)(w:World) :
 C0 238 #[.int .u8 n] w (Ret (.bool (n != 0)) w):=by
 refine zin 5 Tryz.func238 ?_
 exact xe 13 (.bool (n != (0:Int))) ⟨rfl,(B4 w)⟩
theorem indexZero(a:O0)(c:Nat)(l:Bl)(w:World)(hl:l.length≤100000000)(h:Bys w (.slice a l.length c) l) :
 C0 250 #[.slice a l.length c,.func (.func 238) #[] #[]] w (fun e w'=>(Qm l=true∧e=.returned (V0 (-1))∧B3 w w')∨(Qm l=false∧∃ i:Nat,e=.returned (V0 (i:Int))∧B3 w w')):=by
 refine zin 19 Tryz.func250 ?_
 have hB:=Below.refl w.heap.size w
 refine zl 14 19 (fun zm a6 V=>∃ (i:Nat),a6=[(0,.slice a l.length c),(1,.func (.func 238) #[] #[]),(7,V0 (l.length:Int)),(8,V0 (i:Int))]∧zm=l.length-((i:Int)).toNat∧B3 w V∧i≤l.length∧(∀ j,j<i→l.getD j 0=0)) ⟨0,rfl,rfl,hB,Nat.zero_le _,?_⟩ ?_
 ·exact fun j hj=>absurd hj (by omega)
 rintro _ _ W1 ⟨i,rfl,rfl,a0,hi,hz⟩ J1 a5 r1
 refine xid 6 ((i:Int)<(l.length:Int)) (fun a7=>?_) (fun a7=>?_)
 ·refine xx 15 _ l.length i 1 (Bys.elem h (k:=i) (by omega)).1 ?_
  refine xl 0 ((Bys.elem (h.below a0) (k:=i) (by omega)).2) ?_
  refine xr 0 (args:=#[.int .u8 (↑(l.getD i 0).toNat:Int)]) (zero_1 (↑(l.getD i 0).toNat:Int) _) fun W3 a3=>?_
  refine xin 2 (↑(l.getD i 0).toNat:Int) (0:Int) (fun a4=>?_) (fun a4=>?_)
  ·have a1:=bln a0 a3
   exact xe 12 (V0 (i:Int)) (.inr ⟨Eb (j:=i) (by omega) (by assumption),_,rfl,a1⟩)
  refine xwm 4 ((i:Int)+1) (↑(i+1):Int) ?_
  have a2:=bln a0 a3
  exact ze 2 (a5 _ _ _ ⟨i+1,rfl,rfl,a2,by omega,fun j hj=>(Nat.lt_or_ge j i).elim (hz j) (fun q=>by obtain rfl:j=i:=(by omega);exact Zas (by assumption))⟩ (by omega))
 exact xe 11 (V0 (-1)) (.inl ⟨Bh (fun j hj=>hz j (by omega)),rfl,a0⟩)
theorem Zbl(a:O0)(c:Nat)(l:Bl)(w:World)(hl:l.length≤100000000)(h:Bys w (.slice a l.length c) l) :
 C0 237 #[.slice a l.length c,.func (.func 238) #[] #[]] w (Ret (.bool (!Qm l)) w):=by
 refine zin 9 Tryz.func237 ?_
 refine xc 9 (args:=#[.slice a l.length c,.func (.func 238) #[] #[]]) (indexZero a c l _ hl (h.below (B4 w))) ?_
 rintro e W1 a1
 rcases a1 with ⟨hz,rfl,a0⟩|⟨hz,i0,rfl,a0⟩
 ·refine xe 5 (.bool false) ?_
  rw[hz];exact⟨rfl,a0⟩
 refine xe 5 (.bool (decide ((i0:Int)≥(0:Int)))) ?_
 rw[hz,show decide ((i0:Int)≥(0:Int))=true from decide_eq_true (by omega)];exact⟨rfl,a0⟩
theorem code_Zero(a:O0)(c:Nat)(l:Bl)(w:World)(hl:l.length≤100000000)(h:Bys w (.slice a l.length c) l) :
 C0 213 #[.slice a l.length c] w (Ret (.bool (Qm l)) w):=by
 refine zin 6 Tryz.func213 ?_
 refine xr 8 (args:=#[.slice a l.length c,.func (.func 238) #[] #[]]) (Zbl a c l _ hl (h.below (B4 w))) fun W1 a0=>?_
 refine xe 5 (.bool (!(!Qm l))) ?_
 rw[Bool.not_not];exact⟨rfl,a0⟩
def Vv(kind no:Int):Bool:=decide (1≤kind∧kind≤4∧0≤no∧no<14400)
theorem Zcq(kind no:Int)(w:World) :
 C0 137 #[V0 kind,V0 no] w (Ret (.bool (Vv kind no)) w):=by
 refine zin 19 Tryz.func137 ?_
 refine xg 10 [6,7] (decide (kind≥(1:Int))) (fun a1=>?_) (fun a1=>?_)
 ·have a1:=of_decide_eq_true a1
  refine xg 4 [9,10,11] (decide (kind≤(4:Int))) (fun a2=>?_) (fun a2=>?_)
  ·have a2:=of_decide_eq_true a2
   refine xg 4 [13,14,15] (decide (no≥(0:Int))) (fun a0=>?_) (fun a0=>?_)
   ·have a0:=of_decide_eq_true a0
    exact xe 7 (.bool (decide (no<(14400:Int)))) ⟨by rw[show Vv kind no=decide (no<14400) from decide_eq_decide.2 ⟨fun h=>h.2.2.2,fun h=>⟨by omega,by omega,by omega,h⟩⟩],(B4 w)⟩
   have a0:=of_decide_eq_false a0
   exact xe 7 (.bool false) ⟨by rw[show Vv kind no=false from decide_eq_false (by omega)],(B4 w)⟩
  have a2:=of_decide_eq_false a2
  exact xe 11 (.bool false) ⟨by rw[show Vv kind no=false from decide_eq_false (by omega)],(B4 w)⟩
 have a1:=of_decide_eq_false a1
 exact xe 15 (.bool false) ⟨by rw[show Vv kind no=false from decide_eq_false (by omega)],(B4 w)⟩
theorem seal_told(a:O0)(c k w:Nat)(l:Bl)(W:World)(hw:w=1∨w=2∨w=4)(hk:k+w≤l.length)(hl:l.length≤100000000)(h:Bys W (.slice a l.length c) l) :
 C0 140 #[.slice a l.length c,V0 (k:Int),V0 (w:Int)] W (Ret (V0 (Zh l k w:Int)) W):=by
 refine zin 17 Tryz.func140 ?_
 refine xr 10 (args:=#[.slice a l.length c,V0 (k:Int),V0 (w:Int)]) (Zeb a c k w l _ (by omega) hk hl (h.below (B4 W)) (by have:=Yf l k w (by omega);omega)) fun W1 a0=>?_
 exact xe 14 (V0 (↑(Zh l k w):Int)) ⟨rfl,a0⟩
theorem Pa(a:O0)(n c k w:Nat)(ki wi:Int)(l:Bl)(W:World)(hn:l.length=n)(hki:ki=(k:Int))(hwi:wi=(w:Int))(hw:w=1∨w=2∨w=4)(hk:k+w≤n)(hl:n≤100000000)(h:Bys W (.slice a n c) l) :
 C0 140 #[.slice a n c,V0 ki,V0 wi] W (Ret (V0 (Zh l k w:Int)) W):=by
 subst hn hki hwi;exact seal_told a c k w l W hw hk hl h
def Jq(kind no:Int)(l:Bl):Nat→Bool
 | 0=>!Vv kind no
 | 1=>(l.length:Int) != 256
 | 2=>(Zh l 252 4:Int) != (Bm l kind:Int)
 | 3=>(Zh l 0 4:Int) != no
 | 4=>(Zh l 4 2:Int) != kind
 | _=>(Zh l 6 2:Int) != 0
def Xr(kind no:Int)(l:Bl):Int :=
 if Jq kind no l 0 then 1 else if Jq kind no l 1 then 7 else if Jq kind no l 2 then 4 else if Jq kind no l 3 then 5 else if Jq kind no l 4 then 6 else if Jq kind no l 5 then 7 else 0
theorem ask1{kind no:Int}{l:Bl}(h:Jq kind no l 1=false):l.length=256:=by
 have:(l.length:Int)=256:=Yo h
 omega
theorem open_1(kind no:Int)(w:World)(l:Bl)(bk:Nat)(kk:Blk w bk [V0 kind] 3)(bn:Nat)(kn:Blk w bn [V0 no] 3) :
 C0 136 #[P0 bk,P0 bn] w (Ret (.bool (Jq kind no l 0)) w):=by
 refine zin 7 Tryz.func136 ?_
 refine xb 7 0 kk ?_
 refine xb 0 0 kn ?_
 refine xr 0 (args:=#[V0 kind,V0 no]) (Zcq kind no _) fun W1 a0=>?_
 exact xe 5 (.bool (!(Vv kind no))) ⟨rfl,a0⟩
theorem open_2(kind no:Int)(w:World)(bb:Nat)(a:O0)(c:Nat)(l:Bl)(kb:Blk w bb [.slice a l.length c] 22) :
 C0 138 #[P0 bb] w (Ret (.bool (Jq kind no l 1)) w):=by
 refine zin 5 Tryz.func138 ?_
 refine xb 7 0 kb ?_
 exact xe 6 (.bool ((l.length:Int) != (256:Int))) ⟨rfl,(B4 w)⟩
theorem seal_sumN(kind:Int)(a:O0)(c n:Nat)(l:Bl)(w:World)(hn:l.length=n)(h256:n=256)(hc:256≤c)(h:Bys w (.slice a n c) l) :
 C0 141 #[.slice a n c,V0 kind] w (Ret (V0 (Bm l kind:Int)) w):=by
 subst h256;exact Zfp kind a c l w hn hc h
theorem open_3(kind no:Int)(w:World)(bb:Nat)(a:O0)(c:Nat)(l:Bl)(kb:Blk w bb [.slice a l.length c] 22)(bk:Nat)(kk:Blk w bk [V0 kind] 3)(hl:l.length=256)(hc:256≤c)(h:Bys w (.slice a l.length c) l) :
 C0 139 #[P0 bb,P0 bk] w (Ret (.bool (Jq kind no l 2)) w):=by
 refine zin 9 Tryz.func139 ?_
 refine xd 6 .z ?_
 have a1:=kb.below (Za w)
 refine xb (.e [] 0) 0 a1 ?_
 refine xb (.e [] 2) 0 a1 ?_
 have a2:=kk.below (Za w)
 refine xb (.e [] 3) 0 a2 ?_
 have hB:=(Za w)
 refine xr (.o [] 1) (args:=#[.slice a l.length c,V0 252,V0 4]) (Pa a l.length c 252 4 252 4 l _ rfl rfl rfl (by decide) (by omega) (by omega) (h.below hB)) fun W1 a4=>?_
 have a0:=bln hB a4
 refine xr (.o [] 4) (args:=#[.slice a l.length c,V0 kind]) (seal_sumN kind a c l.length l _ rfl hl hc (h.below a0)) fun W2 a5=>?_
 have a3:=bln a0 a5
 exact xe (.r [5,6] 3) (.bool ((↑(Zh l 252 4):Int) != (↑(Bm l kind):Int))) ⟨rfl,a3⟩
theorem open_4(kind no:Int)(w:World)(bb:Nat)(a:O0)(c:Nat)(l:Bl)(kb:Blk w bb [.slice a l.length c] 22)(bn:Nat)(kn:Blk w bn [V0 no] 3)(hl:l.length=256)(hc:256≤c)(h:Bys w (.slice a l.length c) l) :
 C0 142 #[P0 bb,P0 bn] w (Ret (.bool (Jq kind no l 3)) w):=by
 refine zin 7 Tryz.func142 ?_
 refine xd 6 .z ?_
 have a2:=kb.below (Za w)
 refine xb (.e [] 0) 0 a2 ?_
 have a0:=kn.below (Za w)
 refine xb (.e [] 2) 0 a0 ?_
 have hB:=(Za w)
 refine xr (.o [] 1) (args:=#[.slice a l.length c,V0 0,V0 4]) (Pa a l.length c 0 4 0 4 l _ rfl rfl rfl (by decide) (by omega) (by omega) (h.below hB)) fun W1 a3=>?_
 have a1:=bln hB a3
 exact xe (.r [3,4] 3) (.bool ((↑(Zh l 0 4):Int) != no)) ⟨rfl,a1⟩
theorem open_5(kind no:Int)(w:World)(bb:Nat)(a:O0)(c:Nat)(l:Bl)(kb:Blk w bb [.slice a l.length c] 22)(bk:Nat)(kk:Blk w bk [V0 kind] 3)(hl:l.length=256)(hc:256≤c)(h:Bys w (.slice a l.length c) l) :
 C0 143 #[P0 bb,P0 bk] w (Ret (.bool (Jq kind no l 4)) w):=by
 refine zin 7 Tryz.func143 ?_
 refine xd 6 .z ?_
 have a0:=kb.below (Za w)
 refine xb (.e [] 0) 0 a0 ?_
 have a2:=kk.below (Za w)
 refine xb (.e [] 2) 0 a2 ?_
 have hB:=(Za w)
 refine xr (.o [] 1) (args:=#[.slice a l.length c,V0 4,V0 2]) (Pa a l.length c 4 2 4 2 l _ rfl rfl rfl (by decide) (by omega) (by omega) (h.below hB)) fun W1 a3=>?_
 have a1:=bln hB a3
 exact xe (.r [3,4] 3) (.bool ((↑(Zh l 4 2):Int) != kind)) ⟨rfl,a1⟩
theorem open_6(kind no:Int)(w:World)(bb:Nat)(a:O0)(c:Nat)(l:Bl)(kb:Blk w bb [.slice a l.length c] 22)(hl:l.length=256)(hc:256≤c)(h:Bys w (.slice a l.length c) l) :
 C0 144 #[P0 bb] w (Ret (.bool (Jq kind no l 5)) w):=by
 refine zin 5 Tryz.func144 ?_
 refine xb 7 0 kb ?_
 refine xr 0 (args:=#[.slice a l.length c,V0 6,V0 2]) (Pa a l.length c 6 2 6 2 l _ rfl rfl rfl (by decide) (by omega) (by omega) (h.below (B4 w))) fun W1 a0=>?_
 exact xe 5 (.bool ((↑(Zh l 6 2):Int) != (0:Int))) ⟨rfl,a0⟩
def OpenP(kind no:Int)(l:Bl)(w:World)(e:Ending)(w':World):Prop :=
 (Xr kind no l≠0∧e=.returned (.tuple #[S0,V0 (Xr kind no l)])∧B3 w w') ∨
 (Xr kind no l=0∧∃ p c,e=.returned (.tuple #[.slice p 244 c,V0 0])∧B3 w w'∧w'.ownsRow w.heap.size 5 1 (.slice p 244 c) 244 (((l.drop 8).take 244).map bv))
theorem Zbt(kind no:Int)(a:O0)(c:Nat)(l:Bl)(w:World)(h:Bys w (.slice a l.length c) l) :
 C0 75 #[.slice a l.length c,V0 kind,V0 no] w (OpenP kind no l w):=by
 have m4:=h.cap rfl
 refine zin 39 Tryz.func75 ?_
 refine xa 2 [.slice a l.length c] 22 fun b1 W1 n1=>?_
 refine xa 0 [V0 kind] 3 fun b2 W2 n2=>?_
 refine xa 0 [V0 no] 3 fun b3 W3 n3=>?_
 have l6:=n3.ne n2.blk
 refine xbs 18 6 [.func (.func 136) #[] #[P0 b2,P0 b3],V0 1,.func (.func 138) #[] #[P0 b1],V0 7,.func (.func 139) #[] #[P0 b1,P0 b2],V0 4,.func (.func 142) #[] #[P0 b1,P0 b3],V0 5,.func (.func 143) #[] #[P0 b1,P0 b2],V0 6,.func (.func 144) #[] #[P0 b1],V0 7] 242 fun b4 W4 n4=>?_
 refine xu 12 7 ?_
 refine xlv 14 (n4.blk.rpp 0 2) ?_
 refine xa 0 [.nilFunc,V0 0] 242 fun b5 W5 n5=>?_
 have g7:=n5.ne n4.blk
 refine xsv 0 n5.blk [.func (.func 136) #[] #[P0 b2,P0 b3],V0 1] fun W6 u6 k6=>?_
 have g5:=n5.ge (bln (bln (bln n1.below n2.below) n3.below) n4.below)
 refine xb 5 0 k6 ?_
 have i7:=u6.blkT (((n2.blk.below n3.below).below n4.below).below n5.below) n5.blk (by decide)
 have k3:=u6.blkT ((n3.blk.below n4.below).below n5.below) n5.blk (by decide)
 refine xr 0 (args:=#[P0 b2,P0 b3]) (open_1 kind no _ l b2 i7 b3 k3) fun W7 b6=>?_
 refine xi 2 (Jq kind no l 0) (fun k4=>?_) (fun k4=>?_)
 ·have c5:=k4
  refine xd 1 .z ?_
  have l4:=(k6.below b6).below (Za W7)
  refine xb (.e [0] 1) 1 l4 ?_
  have hB:=bln (bln (u6.below (bln (bln (bln (bln n1.below n2.below) n3.below) n4.below) n5.below) g5) b6) (Za W7)
  refine xe (.r [2,3] 8) (.tuple #[S0,V0 1]) ?_
  have he:Xr kind no l=1:=by simp[Xr,c5]
  exact .inl ⟨by rw[he];decide,by rw[he],hB⟩
 have c5:=k4
 have d7:=(u6.blk (n4.blk.below n5.below) (Ne.symm (Ne.symm g7))).below b6
 refine xlv 22 (d7.rpp 2 2) ?_
 refine xa 0 [.nilFunc,V0 0] 242 fun b9 W9 n9=>?_
 have h9:=n9.ne d7
 have i1:=k6.below b6
 have i5:=n9.ne i1
 refine xsv 0 n9.blk [.func (.func 138) #[] #[P0 b1],V0 7] fun m9 e4 l3=>?_
 have g9:=n9.ge (bln (u6.below (bln (bln (bln (bln n1.below n2.below) n3.below) n4.below) n5.below) g5) b6)
 refine xb 5 0 l3 ?_
 have k1:=e4.blkT (((u6.blkT ((((n1.blk.below n2.below).below n3.below).below n4.below).below n5.below) n5.blk (by decide)).below b6).below n9.below) n9.blk (by decide)
 refine xr 0 (args:=#[P0 b1]) (open_2 kind no _ b1 a c l k1) fun l5 a3=>?_
 refine xi 2 (Jq kind no l 1) (fun d9=>?_) (fun d9=>?_)
 ·have a4:=d9
  refine xd 1 .z ?_
  have i8:=(l3.below a3).below (Za l5)
  refine xb (.e [0] 1) 1 i8 ?_
  have hB:=bln (bln (e4.below (bln (bln (u6.below (bln (bln (bln (bln n1.below n2.below) n3.below) n4.below) n5.below) g5) b6) n9.below) g9) a3) (Za l5)
  refine xe (.r [2,3] 8) (.tuple #[S0,V0 7]) ?_
  have he:Xr kind no l=7:=by simp[Xr,c5,a4]
  exact .inl ⟨by rw[he];decide,by rw[he],hB⟩
 have a4:=d9
 have m0:=ask1 a4
 have f5:=(e4.blk (d7.below n9.below) (Ne.symm (Ne.symm h9))).below a3
 refine xlv 22 (f5.rpp 4 2) ?_
 refine xa 0 [.nilFunc,V0 0] 242 fun n0 o4 a7=>?_
 have e8:=a7.ne f5
 have i0:=(e4.blk (i1.below n9.below) (Ne.symm (Ne.symm i5))).below a3
 have f1:=a7.ne i0
 have d0:=l3.below a3
 have e9:=a7.ne d0
 have hB:=bln (e4.below (bln (bln (u6.below (bln (bln (bln (bln n1.below n2.below) n3.below) n4.below) n5.below) g5) b6) n9.below) g9) a3
 have m8:=a7.ge hB
 refine xsv 0 a7.blk [.func (.func 139) #[] #[P0 b1,P0 b2],V0 4] fun o7 f0 j7=>?_
 refine xb 5 0 j7 ?_
 have h5:=f0.blkT ((k1.below a3).below a7.below) a7.blk (by decide)
 have h6:=f0.blkT (((e4.blkT ((i7.below b6).below n9.below) n9.blk (by decide)).below a3).below a7.below) a7.blk (by decide)
 have e3:=f0.below (bln hB a7.below) m8
 refine xr 0 (args:=#[P0 b1,P0 b2]) (open_3 kind no _ b1 a c l h5 b2 h6 (ask1 a4) (by have:=ask1 a4;have:=h.cap rfl;omega) (h.below e3)) fun m1 a1=>?_
 refine xi 2 (Jq kind no l 2) (fun e6=>?_) (fun e6=>?_)
 ·have f6:=e6
  refine xd 1 .z ?_
  have g1:=(j7.below a1).below (Za m1)
  refine xb (.e [0] 1) 1 g1 ?_
  have j9:=bln (bln e3 a1) (Za m1)
  refine xe (.r [2,3] 8) (.tuple #[S0,V0 4]) ?_
  have he:Xr kind no l=4:=by simp[Xr,c5,a4,f6]
  exact .inl ⟨by rw[he];decide,by rw[he],j9⟩
 have f6:=e6
 have d8:=(f0.blk (f5.below a7.below) (Ne.symm (Ne.symm e8))).below a1
 refine xlv 22 (d8.rpp 6 2) ?_
 refine xa 0 [.nilFunc,V0 0] 242 fun o0 n7 a6=>?_
 have d6:=a6.ne d8
 have g6:=(f0.blk (i0.below a7.below) (Ne.symm (Ne.symm f1))).below a1
 have d5:=a6.ne g6
 have c2:=(f0.blk (d0.below a7.below) (Ne.symm (Ne.symm e9))).below a1
 have d3:=a6.ne c2
 have c4:=j7.below a1
 have b8:=a6.ne c4
 have h0:=bln e3 a1
 have m5:=a6.ge h0
 refine xsv 0 a6.blk [.func (.func 142) #[] #[P0 b1,P0 b3],V0 5] fun o5 c8 k0=>?_
 refine xb 5 0 k0 ?_
 have g8:=c8.blkT ((h5.below a1).below a6.below) a6.blk (by decide)
 have k7:=c8.blkT (((f0.blkT (((e4.blkT ((k3.below b6).below n9.below) n9.blk (by decide)).below a3).below a7.below) a7.blk (by decide)).below a1).below a6.below) a6.blk (by decide)
 have f3:=c8.below (bln h0 a6.below) m5
 refine xr 0 (args:=#[P0 b1,P0 b3]) (open_4 kind no _ b1 a c l g8 b3 k7 (ask1 a4) (by have:=ask1 a4;have:=h.cap rfl;omega) (h.below f3)) fun l8 a0=>?_
 refine xi 2 (Jq kind no l 3) (fun e7=>?_) (fun e7=>?_)
 ·have g3:=e7
  refine xd 1 .z ?_
  have i3:=(k0.below a0).below (Za l8)
  refine xb (.e [0] 1) 1 i3 ?_
  have k2:=bln (bln f3 a0) (Za l8)
  refine xe (.r [2,3] 8) (.tuple #[S0,V0 5]) ?_
  have he:Xr kind no l=5:=by simp[Xr,c5,a4,f6,g3]
  exact .inl ⟨by rw[he];decide,by rw[he],k2⟩
 have g3:=e7
 have e0:=(c8.blk (d8.below a6.below) (Ne.symm (Ne.symm d6))).below a0
 refine xlv 22 (e0.rpp 8 2) ?_
 refine xa 0 [.nilFunc,V0 0] 242 fun o2 n8 a5=>?_
 have e1:=a5.ne e0
 have h1:=(c8.blk (g6.below a6.below) (Ne.symm (Ne.symm d5))).below a0
 have e2:=a5.ne h1
 have d2:=(c8.blk (c2.below a6.below) (Ne.symm (Ne.symm d3))).below a0
 have e5:=a5.ne d2
 have c9:=(c8.blk (c4.below a6.below) (Ne.symm (Ne.symm b8))).below a0
 have c1:=a5.ne c9
 have d1:=k0.below a0
 have c0:=a5.ne d1
 have h2:=bln f3 a0
 have m7:=a5.ge h2
 refine xsv 0 a5.blk [.func (.func 143) #[] #[P0 b1,P0 b2],V0 6] fun o3 c7 k8=>?_
 refine xb 5 0 k8 ?_
 have f8:=c7.blkT ((g8.below a0).below a5.below) a5.blk (by decide)
 have j5:=c7.blkT (((c8.blkT ((h6.below a1).below a6.below) a6.blk (by decide)).below a0).below a5.below) a5.blk (by decide)
 have f2:=c7.below (bln h2 a5.below) m7
 refine xr 0 (args:=#[P0 b1,P0 b2]) (open_5 kind no _ b1 a c l f8 b2 j5 (ask1 a4) (by have:=ask1 a4;have:=h.cap rfl;omega) (h.below f2)) fun m2 a2=>?_
 refine xi 2 (Jq kind no l 4) (fun d4=>?_) (fun d4=>?_)
 ·have i9:=d4
  refine xd 1 .z ?_
  have h7:=(k8.below a2).below (Za m2)
  refine xb (.e [0] 1) 1 h7 ?_
  have l1:=bln (bln f2 a2) (Za m2)
  refine xe (.r [2,3] 8) (.tuple #[S0,V0 6]) ?_
  have he:Xr kind no l=6:=by simp[Xr,c5,a4,f6,g3,i9]
  exact .inl ⟨by rw[he];decide,by rw[he],l1⟩
 have i9:=d4
 have i6:=(c7.blk (e0.below a5.below) (Ne.symm (Ne.symm e1))).below a2
 refine xlv 22 (i6.rpp 10 2) ?_
 refine xa 0 [.nilFunc,V0 0] 242 fun o8 o1 b0=>?_
 have j8:=b0.ne i6
 have l0:=(c7.blk (h1.below a5.below) (Ne.symm (Ne.symm e2))).below a2
 have l2:=b0.ne l0
 have g0:=(c7.blk (d2.below a5.below) (Ne.symm (Ne.symm e5))).below a2
 have k5:=b0.ne g0
 have f7:=(c7.blk (c9.below a5.below) (Ne.symm (Ne.symm c1))).below a2
 have j0:=b0.ne f7
 have f9:=(c7.blk (d1.below a5.below) (Ne.symm (Ne.symm c0))).below a2
 have j2:=b0.ne f9
 have i4:=k8.below a2
 have j1:=b0.ne i4
 have h3:=bln f2 a2
 have m6:=b0.ge h3
 refine xsv 0 b0.blk [.func (.func 144) #[] #[P0 b1],V0 7] fun n6 l7 l9=>?_
 refine xb 5 0 l9 ?_
 have i2:=l7.blkT ((f8.below a2).below b0.below) b0.blk (by decide)
 have a8:=l7.below (bln h3 b0.below) m6
 refine xr 0 (args:=#[P0 b1]) (open_6 kind no _ b1 a c l i2  (ask1 a4) (by have:=ask1 a4;have:=h.cap rfl;omega) (h.below a8)) fun m3 a9=>?_
 refine xi 2 (Jq kind no l 5) (fun f4=>?_) (fun f4=>?_)
 ·have k9:=f4
  refine xd 1 .z ?_
  have h8:=(l9.below a9).below (Za m3)
  refine xb (.e [0] 1) 1 h8 ?_
  have h4:=bln (bln a8 a9) (Za m3)
  refine xe (.r [2,3] 8) (.tuple #[S0,V0 7]) ?_
  have he:Xr kind no l=7:=by simp[Xr,c5,a4,f6,g3,i9,k9]
  exact .inl ⟨by rw[he];decide,by rw[he],h4⟩
 have k9:=f4
 have j6:=i2.below a9
 refine xb 22 0 j6 ?_
 refine xsB 0 (fun _ _ _ _ _ zo zx zy zz V=>Hn (k:=8) (h:=252) (b:=a) (n:=l.length) (c:=c) (i:=8) (ki:=.i64) (j:=252) (kj:=.i64) 1 zo zx zy rfl zz rfl (by omega) (by omega) Tryz.underlying22 (by kernel_rfl) V) ?_
 have c6:=bln a8 a9
 refine xc 0 (args:=#[.slice (Vp a 8 c 1) 244 (c-8)]) (Qk (Vp a 8 c 1) 244 (c-8) ((l.drop 8).take 244) _ (by have:=ask1 a4;simp;omega) ((Bys.cut h rfl 8 252 (by decide) (by have:=ask1 a4;omega)).below c6) (by decide)) ?_
 rintro _ o6 ⟨_,rfl,j3,ho⟩
 have j4:=(bln a8 a9).size
 have b7:=Zf ho j4
 unfold Pu at b7
 rw[show((l.drop 8).take 244).length=244 from by have:=ask1 a4;simp;omega] at b7
 obtain⟨p,c3,rfl⟩:=(Ze b7).slice
 have g2:=bln c6 j3
 exact xe 5 (.tuple #[.slice p 244 c3,V0 0]) (.inr ⟨by simp[Xr,c5,a4,f6,g3,i9,k9],_,_,rfl,g2,b7⟩)
end Go.Proofs.YtceeiinepijokaaGreat
namespace Go.Proofs.YtceeiinepijokaaGreat
set_option maxHeartbeats 8000000
set_option maxRecDepth 100000
open Go.RowKit Go.Extern.Stop Go.Stop Go.Extern
set_option linter.unusedVariables false
section
variable {P:Program} {Q:Exit→Act→World→Prop} {a:Act} {w:World} {K:Act→World→Prop}
theorem Zek{o:Oper}{d x:Operand}{dT sT e:TypeId}{base g off n cap dLen dCap:Nat}{xs:List Value}(l:Bl)(xs':List Value)(ho:o.op=.call { callee:=.builtin .copy,args:=#[d,x],argTypes:=#[dT,sT] })(hu:P.underlying dT=some (.slice e))(hsz:(P.info? e).map (·.size)=some 1)
 (hd:a.eval d=.slice (some ⟨g,off,none⟩) dLen dCap) (hs:a.eval x=.string ⟨l.toArray⟩) (hown:w.ownsRow base e 1 (.slice (S1 g) n cap) n xs) (hm:l.length≤dLen) (hfit:off+l.length≤n)
 (hbase:base≤w.heap.size) (hxs:xs.take off++l.map bv++xs.drop (off+l.length)=xs')
 (h:∀ W,W.ownsRow base e 1 (.slice (S1 g) n cap) n xs'→w.grownBy W (Value.slice (S1 g) n cap).ownBlock→Below base w W→K (a.put o.dst (V0 (l.length:Int))) W):o.wp P a w K Q:=by
 obtain⟨hl,hr⟩:=hown
 rcases hr with ⟨hv,_⟩|⟨g2,b2,a1,hv,a6,hh,a8,a9,a4,a7⟩
 ·cases hv
 simp only[Value.slice.injEq,Option.some.injEq,Addr.mk.injEq] at hv
 obtain⟨⟨rfl,_,_⟩,_,rfl⟩:=hv
 have b3:xs.length=n:=by simpa using hl
 have a3:a1.toList.length=cap:=by simpa using a4
 have a5:(l.map bv).length=l.length:=by simp
 have b0:∀ W,W.heap[g]? = some (.cells (a1.toList.take off++l.map bv++a1.toList.drop (off+l.length)).toArray e (0,0))→w.grownBy W (some g)→K (a.put o.dst (V0 (l.length:Int))) W:=by
  intro W hW hg
  refine h W ⟨?_,.inr ⟨g,cap,_,rfl,a6,hW,a8,a9,?_,?_⟩⟩ hg (Vf (v:=.slice (S1 g) n cap) hg ⟨hl,.inr ⟨g,cap,a1,rfl,a6,hh,a8,a9,a4,a7⟩⟩ (Nat.le_refl _) hbase)
  ·rw[←hxs];simp;omega
  ·simp only[List.size_toArray,List.length_append,List.length_take,List.length_drop,a3,Nat.mul_one,a5];omega
  ·have hA:(a1.toList.take off++l.map bv).length=off+l.length:=by simp only[List.length_append,List.length_take,a3,a5];omega
   rw[←hxs,←a7]
   simp only[Nat.mul_one]
   rw[List.take_append,List.take_of_length_le (by rw[hA];omega),hA,List.take_take,Nat.min_eq_left (by omega:off≤n),List.drop_take]
 have a0:(⟨l.toArray⟩:ByteArray).size=l.length:=by show l.toArray.size=l.length;simp
 have a2:=Go.Lib.run_copy_row_string (P:=P) w dT sT o.type e g off dLen dCap ⟨l.toArray⟩ a1 e hu hsz hh (by rw[a0];exact hm) (by rw[a0,a4];omega)
 rw[a0] at a2
 have b1:Go.Lib.byteCells (⟨l.toArray⟩:ByteArray).data.toList=l.map bv:=rfl
 rw[b1] at a2
 have h2:(execOp a.eval o).run P w=.ok (.value (V0 (l.length:Int))) (w.setRow g (a1.toList.take off++l.map bv++a1.toList.drop (off+l.length)).toArray):=by
  simp[execOp,ho,resolve,invoke,builtin,hd,hs,a2,Result.andThen,goInt]
 exact Hf h2 (b0 _ (setRow_heap w g _ _ e _ hh) ⟨rfl,rfl,rfl,by simp,fun k _ hk=>setRow_other w g k _ (fun e=>hk (by rw[e]))⟩)
theorem Sl.head{b:O0}{n c:Nat}{xs:List Value}(h:Sl w (.slice b n c) n xs)(hn:xs.length=n)(m:Nat)(hm:m≤n):Sl w (.slice b m c) m (xs.take m):=by
 rcases h with ⟨a',c',h1,h2,h3⟩|⟨b',a1,a2,h1,h2,h3,h4⟩
 ·obtain rfl:m=0:=by omega
  simp only[Value.slice.injEq] at h1
  exact .inl ⟨b,c,rfl,rfl,by simp⟩
 ·simp only[Value.slice.injEq] at h1
  obtain⟨rfl,_,rfl⟩:=h1
  refine .inr ⟨b',a1,c,rfl,by omega,h3,fun j x hj=>h4 j x ?_⟩
  have a0:j<m:=by have:=(List.getElem?_eq_some_iff.1 hj).1;simp at this;omega
  rwa [List.getElem?_take_of_lt a0] at hj
def sv (l:Bl):Value:=.string ⟨l.toArray⟩
theorem Strs.elem{b:O0}{n c:Nat}{V:List Bl}(h:Sl w (.slice b n c) n (V.map sv))(hl:V.length=n){k:Nat}(hk:k<n):b.isSome=true∧w.cell? (Xd b (k*1))=some (.string ⟨(V.getD k []).toArray⟩):=by
 rcases h with ⟨a',c',h1,h2,h3⟩|⟨b',a0,a1,h1,h2,h3,h4⟩
 ·omega
 ·simp only[Value.slice.injEq] at h1
  obtain⟨rfl,_,rfl⟩:=h1
  refine⟨rfl,?_⟩
  have:=h4 k (sv (V.getD k [])) (by simp[List.getD,List.getElem?_eq_getElem (show k<V.length by omega)])
  rw[Nat.mul_one]
  show w.cell? ((⟨b',a0,none⟩:Addr).add k)=_
  rw[Addr.add_mid]
  exact this
end
end Go.Proofs.YtceeiinepijokaaGreat
namespace Go.Proofs.YtceeiinepijokaaGreat
set_option maxHeartbeats 8000000
set_option maxRecDepth 100000
open Go.RowKit Go.Extern.Stop Go.Stop Go.Extern
set_option linter.unusedVariables false
attribute [local irreducible] wpList wpAnyH Code.wp Oper.wp Go
theorem Sl.cap{w:World}{b:O0}{n c:Nat}{xs:List Value}(h:Sl w (.slice b n c) n xs):n≤c:=by
 rcases h with ⟨a',c',h1,h2,_⟩|⟨b',a0,cap,h1,h2,_,_⟩
 ·omega
 ·simp only[Value.slice.injEq] at h1;omega
def Ui(b:Bool):Int:=if b then 1 else 0
theorem Ac(b:Bool):0≤Ui b∧Ui b<256:=by cases b<;>decide
structure NodeOk(t:Int)(leaf:Bool)(n m v:Nat)(K:List Int)(Vs:List (List UInt8)):Prop where
 ht1:1≤t
 ht2:t≤5
 hm:Yz t leaf=m
 hv:Ut t leaf=v
 hK:K.length=n
 hV:Vs.length=n
 hn:n≤m
 hl:leaf=false→1≤n
 hk0:∀ i,i<n→0≤K.getD i 0∧K.getD i 0≤281474976710655
 hk1:∀ j,j+1<n→K.getD j 0<K.getD (j+1) 0
 hw:∀ i,i<n→(Vs.getD i []).length=v
theorem Ek(t:Int)(leaf:Bool):4≤Ut t leaf∧Ut t leaf≤24:=by
 unfold Ut
 repeat' split
 all_goals decide
theorem fitN(t:Int)(leaf:Bool):12+Yz t leaf*8+Yz t leaf*Ut t leaf≤244:=by
 unfold Ut Yz
 repeat' split
 all_goals decide
theorem Zag{K:List Int}{i j:Nat}(h:j<i):(K.take i).getD j 0=K.getD j 0:=by simp[List.getD,List.getElem?_take_of_lt h]
theorem Fz(t:Int)(leaf:Bool)(m:Nat)(hm:Yz t leaf=m)(h1:1≤t)(h2:t≤5)(w:World):C0 212 #[V0 t,.bool leaf] w (Ret (V0 (m:Int)) w):=by
 subst hm;exact Dn t leaf h1 h2 w
theorem Ns(t:Int)(leaf:Bool)(v:Nat)(hv:Ut t leaf=v)(h1:1≤t)(h2:t≤5)(w:World):C0 211 #[V0 t,.bool leaf] w (Ret (V0 (v:Int)) w):=by
 subst hv;exact Td t leaf h1 h2 w
theorem node_flag(leaf:Bool)(w:World) :
 C0 244 #[.bool leaf] w (Ret (V0 (Ui leaf)) w):=by
 refine zin 4 Tryz.func244 ?_
 refine xi 11 leaf (fun a0=>?_) (fun a0=>?_)
 ·exact xe 7 (V0 1) ⟨by simp_all [Ui],(B4 w)⟩
 exact xe 8 (V0 0) ⟨by simp_all [Ui],(B4 w)⟩
theorem Zd8(a:O0)(i c:Nat)(L:List Int)(k:Int)(w:World)(hL:L.length=i)(h:Sl w (.slice a i c) i (L.map V0))(h1:0≤k)(h2:k≤281474976710655)(h3:∀ j,i=j+1→L.getD j 0<k)(hi:i≤1000) :
 C0 214 #[.slice a i c,V0 k] w (Ret (V0 0) w):=by
 refine zin 26 Tryz.func214 ?_
 refine xgk 12 [7,8] (show(decide (k<(0:Int)):Bool)=false from decide_eq_false (by omega)) ?_
 refine xk 6 (show(decide (k>(281474976710655:Int)):Bool)=false from decide_eq_false (by omega)) ?_
 refine xg 6 [15,16] (decide ((i:Int)>(0:Int))) (fun a0=>?_) (fun a0=>?_)
 ·have a0:=of_decide_eq_true a0
  refine xwm 3 ((i:Int)-1) (↑(i-1):Int) ?_
  refine xx 0 _ i (i-1) 1 (IntsN.elem h hL (k:=(i-1)) (by omega)).1 ?_
  refine xl 0 ((IntsN.elem h hL (k:=(i-1)) (by omega)).2) ?_
  refine xk 6 (show(decide ((L.getD (i-1) 0)≥k):Bool)=false from decide_eq_false (by have:=h3 (i-1) (by omega);omega)) ?_
  exact xe 9 (V0 0) ⟨rfl,(B4 w)⟩
 have a0:=of_decide_eq_false a0
 exact xe 22 (V0 0) ⟨rfl,(B4 w)⟩
theorem Zhj(t:Int)(leaf:Bool)(n m v:Nat)(K:List Int)(Vs:List Bl)(ak av:O0)(ck cv:Nat)(w:World)(N:NodeOk t leaf n m v K Vs)(hKs:Sl w (.slice ak n ck) n (K.map V0))(hVs:Sl w (.slice av n cv) n (Vs.map sv)) :
 C0 243 #[.agg #[V0 t,.bool leaf,.slice ak n ck,.slice av n cv]] w (Ret (.bool true) w):=by
 have b9:=N.ht1
 have c0:=N.ht2
 have c8:=N.hn
 have c5:=Ek t leaf
 rw[N.hv] at c5
 have c4:=Yv t leaf
 rw[N.hm] at c4
 have b4:=fitN t leaf
 rw[N.hm,N.hv] at b4
 have c2:=Sl.cap hKs
 refine zin 70 Tryz.func243 ?_
 refine xa 2 [V0 t,.bool leaf,.slice ak n ck,.slice av n cv] 183 fun b1 W1 n1=>?_
 refine xb 6 0 n1.blk ?_
 refine xb 1 1 n1.blk ?_
 refine xr 0 (args:=#[V0 t,.bool leaf]) (Ns t leaf v N.hv b9 c0 _) fun W2 b3=>?_
 refine xd 5 .z ?_
 refine xgk (.b [0,1,2]) [12,13] (show(((v:Int)==(0:Int)):Bool)=false from by simp;omega) ?_
 have a6:=(n1.blk.below b3).below (Za W2)
 refine xb (.e [3] 4) 2 a6 ?_
 refine xb (.e [5,6] 7) 0 a6 ?_
 refine xb (.e [8] 9) 1 a6 ?_
 refine xr (.o [] 10) (args:=#[V0 t,.bool leaf]) (Fz t leaf m N.hm b9 c0 _) fun W4 b5=>?_
 refine xgk (.b [11,12,13]) [22,23,24] (show(decide ((n:Int)>(m:Int)):Bool)=false from decide_eq_false (by omega)) ?_
 have a1:=a6.below b5
 refine xb (.e [14] 15) 3 a1 ?_
 refine xb (.e [16,17] 18) 2 a1 ?_
 refine xgk (.b [19,20,21,22]) [31,32,33] (show(((n:Int) != (n:Int)):Bool)=false from by simp) ?_
 refine xb (.e [23] 24) 1 a1 ?_
 refine xg (.b [25,26]) [36,37] (!leaf) (fun c1=>?_) (fun c1=>?_)
 ·refine xb (.e [27] 28) 2 a1 ?_
  refine xk (.r [29,30,31,32] 2) (show(((n:Int)==(0:Int)):Bool)=false from by have:=N.hl (by simp_all);simp;omega) ?_
  refine xb 6 2 a1 ?_
  have hB:=bln (bln (bln n1.below b3) (Za W2)) b5
  refine zl 5 70 (fun zm b7 V=>∃ (i:Nat),b7=[(1,P0 b1),(3,V0 (v:Int)),(45,.slice ak n ck),(46,V0 (n:Int)),(47,V0 (i:Int))]∧zm=n-((i:Int)).toNat∧B3 w V∧Blk V b1 ([V0 t,.bool leaf,.slice ak n ck,.slice av n cv]) 183∧i≤n) ⟨0,rfl,rfl,hB,a1,Nat.zero_le _⟩ ?_
  rintro _ _ W8 ⟨i,rfl,rfl,a5,a7,hi⟩ J8 c6 r8
  refine xid 6 ((i:Int)<(n:Int)) (fun c3=>?_) (fun c3=>?_)
  ·refine xx 7 _ n i 1 (IntsN.elem hKs N.hK (k:=i) (by omega)).1 ?_
   refine xl 0 ((IntsN.elem (hKs.below a5) N.hK (k:=i) (by omega)).2) ?_
   refine xb 7 2 a7 ?_
   refine xsH 1 (fun _ _ _ _ zo zx zy V=>Vh (k:=i) (b:=ak) (n:=n) (c:=ck) (i:=(i:Int)) (ki:=.i64) zo zx zy rfl (by omega) Tryz.underlying35 (by kernel_rfl) V) ?_
   refine xr 1 (args:=#[.slice ak i ck,V0 (K.getD i 0)]) (Zd8 ak i ck (K.take i) (K.getD i 0) _ (by rw[List.length_take,N.hK];omega) (by rw[List.map_take];exact(hKs.below a5).head (by simpa using N.hK) i (by omega)) (N.hk0 i (by omega)).1 (N.hk0 i (by omega)).2 (fun j e=>by subst e;rw[Zag (by omega)];exact N.hk1 j (by omega)) (by omega)) fun c7 a8=>?_
   have a3:=a7.below a8
   refine xb 3 3 a3 ?_
   refine xx 1 _ n i 1 (Strs.elem hVs N.hV (k:=i) (by omega)).1 ?_
   have a9:=bln a5 a8
   refine xl 0 ((Strs.elem (hVs.below a9) N.hV (k:=i) (by omega)).2) ?_
   refine xk 6 (show(((↑(Vs.getD i []).length:Int) != (v:Int)):Bool)=false from by rw[N.hw i (by omega)];simp) ?_
   refine xw 4 ((i:Int)+1) ?_
   exact ze 2 (c6 _ _ _ ⟨i+1,rfl,rfl,a9,a3,by omega⟩ (by omega))
  exact xe 11 (.bool true) ⟨rfl,a5⟩
 refine xb (.r [27,28,29,30,31,32] 9) 2 a1 ?_
 have hB:=bln (bln (bln n1.below b3) (Za W2)) b5
 refine zl 5 70 (fun zm b7 V=>∃ (i:Nat),b7=[(1,P0 b1),(3,V0 (v:Int)),(45,.slice ak n ck),(46,V0 (n:Int)),(47,V0 (i:Int))]∧zm=n-((i:Int)).toNat∧B3 w V∧Blk V b1 ([V0 t,.bool leaf,.slice ak n ck,.slice av n cv]) 183∧i≤n) ⟨0,rfl,rfl,hB,a1,Nat.zero_le _⟩ ?_
 rintro _ _ d1 ⟨i,rfl,rfl,a2,a4,hi⟩ c9 b6 d0
 refine xid 6 ((i:Int)<(n:Int)) (fun b8=>?_) (fun b8=>?_)
 ·refine xx 7 _ n i 1 (IntsN.elem hKs N.hK (k:=i) (by omega)).1 ?_
  refine xl 0 ((IntsN.elem (hKs.below a2) N.hK (k:=i) (by omega)).2) ?_
  refine xb 7 2 a4 ?_
  refine xsH 1 (fun _ _ _ _ zo zx zy V=>Vh (k:=i) (b:=ak) (n:=n) (c:=ck) (i:=(i:Int)) (ki:=.i64) zo zx zy rfl (by omega) Tryz.underlying35 (by kernel_rfl) V) ?_
  refine xr 1 (args:=#[.slice ak i ck,V0 (K.getD i 0)]) (Zd8 ak i ck (K.take i) (K.getD i 0) _ (by rw[List.length_take,N.hK];omega) (by rw[List.map_take];exact(hKs.below a2).head (by simpa using N.hK) i (by omega)) (N.hk0 i (by omega)).1 (N.hk0 i (by omega)).2 (fun j e=>by subst e;rw[Zag (by omega)];exact N.hk1 j (by omega)) (by omega)) fun d2 b0=>?_
  have a0:=a4.below b0
  refine xb 3 3 a0 ?_
  refine xx 1 _ n i 1 (Strs.elem hVs N.hV (k:=i) (by omega)).1 ?_
  have b2:=bln a2 b0
  refine xl 0 ((Strs.elem (hVs.below b2) N.hV (k:=i) (by omega)).2) ?_
  refine xk 6 (show(((↑(Vs.getD i []).length:Int) != (v:Int)):Bool)=false from by rw[N.hw i (by omega)];simp) ?_
  refine xw 4 ((i:Int)+1) ?_
  exact ze 2 (b6 _ _ _ ⟨i+1,rfl,rfl,b2,a0,by omega⟩ (by omega))
 exact xe 11 (.bool true) ⟨rfl,a2⟩
def widG(t:Int)(leaf:Bool):Nat:=if 1≤t∧t≤5 then Ut t leaf else 0
def maxG(t:Int)(leaf:Bool):Nat:=if 1≤t∧t≤5 then Yz t leaf else 0
theorem fitG(t:Int)(leaf:Bool):12+maxG t leaf*8+maxG t leaf*widG t leaf≤244:=by
 unfold maxG widG;split
 ·exact fitN t leaf
 ·decide
theorem maxG_le(t:Int)(leaf:Bool):maxG t leaf≤18:=by
 unfold maxG;split
 ·exact(Yv t leaf).2
 ·decide
theorem widG_le(t:Int)(leaf:Bool):widG t leaf≤24:=by
 unfold widG;split
 ·exact(Ek t leaf).2
 ·decide
theorem Ni(t:Int)(leaf:Bool)(w:World)(h:¬ (1≤t∧t≤5)) :
 C0 211 #[V0 t,.bool leaf] w (Ret (V0 0) w):=by
 refine zin 31 Tryz.func211 ?_
 refine xg 17 [8,9] (decide (t<(1:Int))) (fun a0=>?_) (fun a0=>?_)
 ·have a0:=of_decide_eq_true a0
  exact xe 15 (V0 0) ⟨rfl,(B4 w)⟩
 have a0:=of_decide_eq_false a0
 refine xk 6 (show(decide (t>(5:Int)):Bool)=true from decide_eq_true (by omega)) ?_
 exact xe 8 (V0 0) ⟨rfl,(B4 w)⟩
theorem Nv(t:Int)(leaf:Bool)(w:World):C0 211 #[V0 t,.bool leaf] w (Ret (V0 (widG t leaf:Int)) w):=by
 unfold widG
 by_cases h:1≤t∧t≤5
 ·rw[if_pos h];exact Td t leaf h.1 h.2 w
 ·rw[if_neg h];exact Ni t leaf w h
theorem Zb3(t:Int)(leaf:Bool)(w:World)(h:¬ (1≤t∧t≤5)) :
 C0 212 #[V0 t,.bool leaf] w (Ret (V0 0) w):=by
 refine zin 16 Tryz.func212 ?_
 refine xr 9 (args:=#[V0 t,.bool leaf]) (Ni t leaf _ h) fun W1 a0=>?_
 exact xe 18 (V0 0) ⟨rfl,a0⟩
theorem Zac(t:Int)(leaf:Bool)(w:World):C0 212 #[V0 t,.bool leaf] w (Ret (V0 (maxG t leaf:Int)) w):=by
 unfold maxG
 by_cases h:1≤t∧t≤5
 ·rw[if_pos h];exact Dn t leaf h.1 h.2 w
 ·rw[if_neg h];exact Zb3 t leaf w h
def Zhg(L:List Int)(i:Nat)(k:Int):Int:=if k<0∨281474976710655<k then 2 else if 0<i∧k≤L.getD (i-1) 0 then 8 else 0
def Ql(l:Bl):Int:=(Zh l 1 1:Int)
def Qr(l:Bl):Bool:=(Zh l 0 1:Int)==(1:Int)
def Xq(l:Bl):Nat:=Zh l 2 2
def Qz(l:Bl):Nat:=widG (Ql l) (Qr l)
def Vy(l:Bl):Nat:=maxG (Ql l) (Qr l)
def Ex(l:Bl):Bool:=decide (Zh l 0 1≤1∧Qz l≠0∧Zh l 2 2≤Vy l∧Zh l 4 2=Qz l∧Zh l 6 2=Vy l∧Zh l 8 4=0∧(Zh l 0 1=1∨0<Zh l 2 2))
def ShapeP(l:Bl)(w:World)(e:Ending)(w':World):Prop :=
 (Ex l=false∧∃ a b c,e=.returned (.tuple #[.agg #[V0 a,.bool b,S0,S0],V0 c,.bool false])∧B3 w w') ∨
 (Ex l=true∧e=.returned (.tuple #[.agg #[V0 (Ql l),.bool (Qr l),S0,S0],V0 (Xq l:Int),.bool true])∧B3 w w')
theorem Cg(a:O0)(n c:Nat)(l:Bl)(aw:O0)(cw m:Nat)(ws:List Nat)(xs:List Nat)(W:World)(hn:l.length=n)(hm:ws.length=m)(hx:Jk l 0 ws=xs)(hk:∀ i,i<ws.length→ws.getD i 0=1∨ws.getD i 0=2∨ws.getD i 0=4∨ws.getD i 0=8)(hs:ws.sum≤n)(hl:n≤100000000)(hw:ws.length≤1000)(h:Bys W (.slice a n c) l)(hws:Sl W (.slice aw m cw) m (ws.map nv))(hq:∀ i,i<ws.length→(Jk l 0 ws).getD i 0<9223372036854775808) :
 C0 156 #[.slice a n c,.slice aw m cw] W (Yy (fun w' r=>∃ p c,r=.tuple #[.slice p m c,V0 0]∧w'.ownsRow W.heap.size 3 1 (.slice p m c) m (xs.map nv)) W):=by
 subst hn hm hx;exact Ox a c l aw cw ws W hk hs hl hw h hws hq
def Vr(l:Bl):List Nat:=[Zh l 0 1,Zh l 1 1,Zh l 2 2,Zh l 4 2,Zh l 6 2,Zh l 8 4]
theorem head6_bd(l:Bl)(i:Nat)(hi:i<6):(Jk l 0 [1,1,2,2,2,4]).getD i 0<9223372036854775808:=by
 have h1:=Yf l 0 1 (by decide)
 have h2:=Yf l 1 1 (by decide)
 have h3:=Yf l 2 2 (by decide)
 have h4:=Yf l 4 2 (by decide)
 have h5:=Yf l 6 2 (by decide)
 have h6:=Yf l 8 4 (by decide)
 obtain rfl|rfl|rfl|rfl|rfl|rfl:i=0∨i=1∨i=2∨i=3∨i=4∨i=5:=by omega
 all_goals simp[Jk]
 all_goals omega
theorem node_shape(a:O0)(c:Nat)(l:Bl)(w:World)(hl:l.length=244)(h:Bys w (.slice a 244 c) l) :
 C0 210 #[.slice a 244 c] w (ShapeP l w):=by
 refine zin 92 Tryz.func210 ?_
 refine xa 2 [V0 0,.bool false,S0,S0] 183 fun b1 W1 n1=>?_
 refine xbs 18 6 [V0 1,V0 1,V0 2,V0 2,V0 2,V0 4] 3 fun b2 W2 n2=>?_
 have hB:=bln n1.below n2.below
 refine xc 0 (args:=#[.slice a 244 c,.slice (S1 b2) 6 6]) (Cg a 244 c l (S1 b2) 6 6 [1,1,2,2,2,4] (Vr l) _ hl rfl rfl (by decide) (by decide) (by decide) (by decide) (h.below hB) (n2.blk.sl 6 6 (by decide) (by decide)) (head6_bd l)) ?_
 rintro _ W3 ⟨_,rfl,f2,p5,c5,rfl,h5⟩
 have g3:=(bln n1.below n2.below).size
 refine xd 8 (.t w.heap.size [183]) ?_
 have b6:=Zb (Zf h5 g3) (Za W3)
 refine xx (.e [0] 1) _ 6 1 1 (Zj (l:=Vr l) (Ze b6) rfl (k:=1) (by decide)).1 ?_
 refine xlt (.e [] 2) (.t w.heap.size [183]) (fun V hV=>(Zj (l:=Vr l) (Ze (Zi b6 hV.2 (by decide))) rfl (k:=1) (by decide)).2) ?_
 refine xx (.e [3] 4) _ 6 0 1 (Zj (l:=Vr l) (Ze b6) rfl (k:=0) (by decide)).1 ?_
 refine xlt (.e [] 5) (.t w.heap.size [183]) (fun V hV=>(Zj (l:=Vr l) (Ze (Zi b6 hV.2 (by decide))) rfl (k:=0) (by decide)).2) ?_
 refine xa (.o [6,7] 8) [V0 0,.bool false,S0,S0] 183 fun b4 W4 n4=>?_
 have k1:=((n1.blk.below n2.below).below f2).below (Za W3)
 have a3:=n4.ne k1
 have a6:=bln (bln hB f2) (Za W3)
 have g4:=n4.ge a6
 refine ysv (.o [] 9) n4.blk [V0 (↑(Zh l 1 1):Int),.bool ((↑(Zh l 0 1):Int)==(1:Int)),S0,S0] (.t w.heap.size [183]) fun W5 u5 k5=>⟨(Zt u5 n4.blk g4 (by decide)),?_⟩
 have b8:=u5.own2 (Zb b6 n4.below) n4.blk (by decide)
 refine xx 6 _ 6 0 1 (Zj (l:=Vr l) (Ze b8) rfl (k:=0) (by decide)).1 ?_
 refine xl 0 ((Zj (l:=Vr l) (Ze b8) rfl (k:=0) (by decide)).2) ?_
 refine xg 2 [32,33] (decide ((↑(Zh l 0 1):Int)>(1:Int))) (fun c9=>?_) (fun c9=>?_)
 ·have c9:=of_decide_eq_true c9
  have e6:=u5.blk (k1.below n4.below) (Ne.symm (Ne.symm a3))
  refine xsv 13 e6 [V0 0,.bool false,S0,S0] fun W7 u7 k7=>?_
  have g1:=n1.ge (B4 w)
  have e8:=u7.below (u5.below (bln a6 n4.below) g4) g1
  exact xec 6 k7 (.tuple #[.agg #[V0 0,.bool false,S0,S0],V0 0,.bool false]) (.inl ⟨decide_eq_false (by omega),_,_,_,rfl,e8⟩)
 have c9:=of_decide_eq_false c9
 refine xb 1 0 k5 ?_
 refine xb 1 1 k5 ?_
 refine xr 0 (args:=#[V0 (↑(Zh l 1 1):Int),.bool ((↑(Zh l 0 1):Int)==(1:Int))]) (Nv (Ql l) (Qr l) _) fun W8 a7=>?_
 refine xie 4 (↑(Qz l):Int) (0:Int) (fun f9=>?_) (fun f9=>?_)
 ·have d5:=(u5.blk (k1.below n4.below) (Ne.symm (Ne.symm a3))).below a7
  refine xsv 3 d5 [V0 0,.bool false,S0,S0] fun h0 g2 g7=>?_
  have g1:=n1.ge (B4 w)
  have d7:=g2.below (bln (u5.below (bln a6 n4.below) g4) a7) g1
  exact xec 6 g7 (.tuple #[.agg #[V0 0,.bool false,S0,S0],V0 0,.bool false]) (.inl ⟨decide_eq_false (by omega),_,_,_,rfl,d7⟩)
 refine xd 3 .z ?_
 have a5:=(k5.below a7).below (Za W8)
 refine xb (.e [0] 1) 0 a5 ?_
 refine xb (.e [2] 3) 1 a5 ?_
 refine xb (.e [5] 6) 0 a5 ?_
 refine xb (.e [7] 8) 1 a5 ?_
 refine xr (.o [] 4) (args:=#[V0 (↑(Zh l 1 1):Int),.bool ((↑(Zh l 0 1):Int)==(1:Int))]) (Nv (Ql l) (Qr l) _) fun h2 a1=>?_
 refine xr (.o [] 9) (args:=#[V0 (↑(Zh l 1 1):Int),.bool ((↑(Zh l 0 1):Int)==(1:Int))]) (Zac (Ql l) (Qr l) _) fun a4 a0=>?_
 have a2:=Zb (Zb (Zb (Zb b8 a7) (Za W8)) a1) a0
 refine xx (.r [10,11] 5) _ 6 2 1 (Zj (l:=Vr l) (Ze a2) rfl (k:=2) (by decide)).1 ?_
 refine xl 0 ((Zj (l:=Vr l) (Ze a2) rfl (k:=2) (by decide)).2) ?_
 refine xg 3 [56,57] (decide ((↑(Zh l 2 2):Int)≤(↑(Vy l):Int))) (fun a8=>?_) (fun a8=>?_)
 ·have a8:=of_decide_eq_true a8
  refine xx 1 _ 6 3 1 (Zj (l:=Vr l) (Ze a2) rfl (k:=3) (by decide)).1 ?_
  refine xl 0 ((Zj (l:=Vr l) (Ze a2) rfl (k:=3) (by decide)).2) ?_
  refine xg 4 [62,63,64] ((↑(Zh l 4 2):Int)==(↑(Qz l):Int)) (fun b3=>?_) (fun b3=>?_)
  ·have b3:=eq_of_beq b3
   refine xx 1 _ 6 4 1 (Zj (l:=Vr l) (Ze a2) rfl (k:=4) (by decide)).1 ?_
   refine xl 0 ((Zj (l:=Vr l) (Ze a2) rfl (k:=4) (by decide)).2) ?_
   refine xg 4 [69,70,71] ((↑(Zh l 6 2):Int)==(↑(Vy l):Int)) (fun b0=>?_) (fun b0=>?_)
   ·have b0:=eq_of_beq b0
    refine xx 1 _ 6 5 1 (Zj (l:=Vr l) (Ze a2) rfl (k:=5) (by decide)).1 ?_
    refine xl 0 ((Zj (l:=Vr l) (Ze a2) rfl (k:=5) (by decide)).2) ?_
    refine xg 3 [75,76,77] ((↑(Zh l 8 4):Int)==(0:Int)) (fun b5=>?_) (fun b5=>?_)
    ·have b5:=eq_of_beq b5
     have b7:=(a5.below a1).below a0
     refine xb 1 1 b7 ?_
     refine xg 1 [27,37,45,50,79,80] ((↑(Zh l 0 1):Int)==(1:Int)) (fun a9=>?_) (fun a9=>?_)
     ·have a9:=eq_of_beq a9
      refine xd 10 (.t w.heap.size [183]) ?_
      have d1:=Zb a2 (Za a4)
      refine xx (.e [1] 2) _ 6 2 1 (Zj (l:=Vr l) (Ze d1) rfl (k:=2) (by decide)).1 ?_
      refine xlt (.e [] 3) (.t w.heap.size [183]) (fun V hV=>(Zj (l:=Vr l) (Ze (Zi d1 hV.2 (by decide))) rfl (k:=2) (by decide)).2) ?_
      have d8:=b7.below (Za a4)
      refine xlv (.o [4] 0) d8.rp ?_
      have c6:=(((((u5.blk (k1.below n4.below) (Ne.symm (Ne.symm a3))).below a7).below (Za W8)).below a1).below a0).below (Za a4)
      have g1:=n1.ge (B4 w)
      refine ysv (.o [] 5) c6 [V0 (↑(Zh l 1 1):Int),.bool ((↑(Zh l 0 1):Int)==(1:Int)),S0,S0] (.t w.heap.size [183]) fun h7 f1 f6=>⟨(Zt f1 c6 g1 (by decide)),?_⟩
      have e2:=f1.below (bln (bln (bln (bln (bln (u5.below (bln a6 n4.below) g4) a7) (Za W8)) a1) a0) (Za a4)) g1
      exact xec (.r [6,7] 3) f6 (.tuple #[.agg #[V0 (↑(Zh l 1 1):Int),.bool ((↑(Zh l 0 1):Int)==(1:Int)),S0,S0],V0 (↑(Zh l 2 2):Int),.bool true]) (.inr ⟨decide_eq_true (by omega),rfl,e2⟩)
     have a9:=Ya a9
     refine xx 1 _ 6 2 1 (Zj (l:=Vr l) (Ze a2) rfl (k:=2) (by decide)).1 ?_
     refine xl 0 ((Zj (l:=Vr l) (Ze a2) rfl (k:=2) (by decide)).2) ?_
     refine xd 7 (.t w.heap.size [183]) ?_
     have d2:=Zb a2 (Za a4)
     refine xx (.e [1] 2) _ 6 2 1 (Zj (l:=Vr l) (Ze d2) rfl (k:=2) (by decide)).1 ?_
     refine xlt (.e [] 3) (.t w.heap.size [183]) (fun V hV=>(Zj (l:=Vr l) (Ze (Zi d2 hV.2 (by decide))) rfl (k:=2) (by decide)).2) ?_
     have e3:=b7.below (Za a4)
     refine xlv (.o [4] 0) e3.rp ?_
     have c0:=(((((u5.blk (k1.below n4.below) (Ne.symm (Ne.symm a3))).below a7).below (Za W8)).below a1).below a0).below (Za a4)
     have g1:=n1.ge (B4 w)
     refine ysv (.o [] 5) c0 [V0 (↑(Zh l 1 1):Int),.bool ((↑(Zh l 0 1):Int)==(1:Int)),S0,S0] (.t w.heap.size [183]) fun h1 f4 f8=>⟨(Zt f4 c0 g1 (by decide)),?_⟩
     have c8:=f4.below (bln (bln (bln (bln (bln (u5.below (bln a6 n4.below) g4) a7) (Za W8)) a1) a0) (Za a4)) g1
     refine xec (.r [6,7] 3) f8 (.tuple #[.agg #[V0 (↑(Zh l 1 1):Int),.bool ((↑(Zh l 0 1):Int)==(1:Int)),S0,S0],V0 (↑(Zh l 2 2):Int),.bool (decide ((↑(Zh l 2 2):Int)>(0:Int)))]) ?_
     rcases Bool.eq_false_or_eq_true (decide ((↑(Zh l 2 2):Int)>(0:Int))) with hq|hq
     ·have g8:=of_decide_eq_true hq
      rw[hq];exact .inr ⟨decide_eq_true (by omega),rfl,c8⟩
     ·have g8:=of_decide_eq_false hq
      rw[hq];exact .inl ⟨decide_eq_false (by omega),_,_,_,rfl,c8⟩
    have b5:=Ya b5
    refine xd 13 (.t w.heap.size [183]) ?_
    have c7:=Zb a2 (Za a4)
    refine xx (.e [1] 2) _ 6 2 1 (Zj (l:=Vr l) (Ze c7) rfl (k:=2) (by decide)).1 ?_
    refine xlt (.e [] 3) (.t w.heap.size [183]) (fun V hV=>(Zj (l:=Vr l) (Ze (Zi c7 hV.2 (by decide))) rfl (k:=2) (by decide)).2) ?_
    have e1:=((a5.below a1).below a0).below (Za a4)
    refine xlv (.o [4] 0) e1.rp ?_
    have d3:=(((((u5.blk (k1.below n4.below) (Ne.symm (Ne.symm a3))).below a7).below (Za W8)).below a1).below a0).below (Za a4)
    have g1:=n1.ge (B4 w)
    refine ysv (.o [] 5) d3 [V0 (↑(Zh l 1 1):Int),.bool ((↑(Zh l 0 1):Int)==(1:Int)),S0,S0] (.t w.heap.size [183]) fun h3 e9 g5=>⟨(Zt e9 d3 g1 (by decide)),?_⟩
    have e4:=e9.below (bln (bln (bln (bln (bln (u5.below (bln a6 n4.below) g4) a7) (Za W8)) a1) a0) (Za a4)) g1
    exact xec (.r [6,7] 3) g5 (.tuple #[.agg #[V0 (↑(Zh l 1 1):Int),.bool ((↑(Zh l 0 1):Int)==(1:Int)),S0,S0],V0 (↑(Zh l 2 2):Int),.bool false]) (.inl ⟨decide_eq_false (by omega),_,_,_,rfl,e4⟩)
   have b0:=Ya b0
   refine xd 19 (.t w.heap.size [183]) ?_
   have c4:=Zb a2 (Za a4)
   refine xx (.e [1] 2) _ 6 2 1 (Zj (l:=Vr l) (Ze c4) rfl (k:=2) (by decide)).1 ?_
   refine xlt (.e [] 3) (.t w.heap.size [183]) (fun V hV=>(Zj (l:=Vr l) (Ze (Zi c4 hV.2 (by decide))) rfl (k:=2) (by decide)).2) ?_
   have d9:=((a5.below a1).below a0).below (Za a4)
   refine xlv (.o [4] 0) d9.rp ?_
   have c3:=(((((u5.blk (k1.below n4.below) (Ne.symm (Ne.symm a3))).below a7).below (Za W8)).below a1).below a0).below (Za a4)
   have g1:=n1.ge (B4 w)
   refine ysv (.o [] 5) c3 [V0 (↑(Zh l 1 1):Int),.bool ((↑(Zh l 0 1):Int)==(1:Int)),S0,S0] (.t w.heap.size [183]) fun g9 f3 g6=>⟨(Zt f3 c3 g1 (by decide)),?_⟩
   have e0:=f3.below (bln (bln (bln (bln (bln (u5.below (bln a6 n4.below) g4) a7) (Za W8)) a1) a0) (Za a4)) g1
   exact xec (.r [6,7] 3) g6 (.tuple #[.agg #[V0 (↑(Zh l 1 1):Int),.bool ((↑(Zh l 0 1):Int)==(1:Int)),S0,S0],V0 (↑(Zh l 2 2):Int),.bool false]) (.inl ⟨decide_eq_false (by omega),_,_,_,rfl,e0⟩)
  have b3:=Ya b3
  refine xd 26 (.t w.heap.size [183]) ?_
  have c1:=Zb a2 (Za a4)
  refine xx (.e [1] 2) _ 6 2 1 (Zj (l:=Vr l) (Ze c1) rfl (k:=2) (by decide)).1 ?_
  refine xlt (.e [] 3) (.t w.heap.size [183]) (fun V hV=>(Zj (l:=Vr l) (Ze (Zi c1 hV.2 (by decide))) rfl (k:=2) (by decide)).2) ?_
  have d4:=((a5.below a1).below a0).below (Za a4)
  refine xlv (.o [4] 0) d4.rp ?_
  have b9:=(((((u5.blk (k1.below n4.below) (Ne.symm (Ne.symm a3))).below a7).below (Za W8)).below a1).below a0).below (Za a4)
  have g1:=n1.ge (B4 w)
  refine ysv (.o [] 5) b9 [V0 (↑(Zh l 1 1):Int),.bool ((↑(Zh l 0 1):Int)==(1:Int)),S0,S0] (.t w.heap.size [183]) fun h4 f0 f7=>⟨(Zt f0 b9 g1 (by decide)),?_⟩
  have e7:=f0.below (bln (bln (bln (bln (bln (u5.below (bln a6 n4.below) g4) a7) (Za W8)) a1) a0) (Za a4)) g1
  exact xec (.r [6,7] 3) f7 (.tuple #[.agg #[V0 (↑(Zh l 1 1):Int),.bool ((↑(Zh l 0 1):Int)==(1:Int)),S0,S0],V0 (↑(Zh l 2 2):Int),.bool false]) (.inl ⟨decide_eq_false (by omega),_,_,_,rfl,e7⟩)
 have a8:=of_decide_eq_false a8
 refine xd 33 (.t w.heap.size [183]) ?_
 have d0:=Zb a2 (Za a4)
 refine xx (.e [1] 2) _ 6 2 1 (Zj (l:=Vr l) (Ze d0) rfl (k:=2) (by decide)).1 ?_
 refine xlt (.e [] 3) (.t w.heap.size [183]) (fun V hV=>(Zj (l:=Vr l) (Ze (Zi d0 hV.2 (by decide))) rfl (k:=2) (by decide)).2) ?_
 have d6:=((a5.below a1).below a0).below (Za a4)
 refine xlv (.o [4] 0) d6.rp ?_
 have c2:=(((((u5.blk (k1.below n4.below) (Ne.symm (Ne.symm a3))).below a7).below (Za W8)).below a1).below a0).below (Za a4)
 have g1:=n1.ge (B4 w)
 refine ysv (.o [] 5) c2 [V0 (↑(Zh l 1 1):Int),.bool ((↑(Zh l 0 1):Int)==(1:Int)),S0,S0] (.t w.heap.size [183]) fun h6 f5 g0=>⟨(Zt f5 c2 g1 (by decide)),?_⟩
 have e5:=f5.below (bln (bln (bln (bln (bln (u5.below (bln a6 n4.below) g4) a7) (Za W8)) a1) a0) (Za a4)) g1
 exact xec (.r [6,7] 3) g0 (.tuple #[.agg #[V0 (↑(Zh l 1 1):Int),.bool ((↑(Zh l 0 1):Int)==(1:Int)),S0,S0],V0 (↑(Zh l 2 2):Int),.bool false]) (.inl ⟨decide_eq_false (by omega),_,_,_,rfl,e5⟩)
theorem node_keyG(a:O0)(i c:Nat)(L:List Int)(k:Int)(w:World)(hL:L.length=i)(h:Sl w (.slice a i c) i (L.map V0))(hi:i≤1000) :
 C0 214 #[.slice a i c,V0 k] w (Ret (V0 (Zhg L i k)) w):=by
 refine zin 26 Tryz.func214 ?_
 refine xg 12 [7,8] (decide (k<(0:Int))) (fun a1=>?_) (fun a1=>?_)
 ·have a1:=of_decide_eq_true a1
  exact xe 15 (V0 2) ⟨by rw[show Zhg L i k=2 from by unfold Zhg;rw[if_pos (by omega)]],(B4 w)⟩
 have a1:=of_decide_eq_false a1
 refine xid 6 (k>(281474976710655:Int)) (fun a3=>?_) (fun a3=>?_)
 ·exact xe 8 (V0 2) ⟨by rw[show Zhg L i k=2 from by unfold Zhg;rw[if_pos (by omega)]],(B4 w)⟩
 refine xg 6 [15,16] (decide ((i:Int)>(0:Int))) (fun a0=>?_) (fun a0=>?_)
 ·have a0:=of_decide_eq_true a0
  refine xwm 3 ((i:Int)-1) (↑(i-1):Int) ?_
  refine xx 0 _ i (i-1) 1 (IntsN.elem h hL (k:=(i-1)) (by omega)).1 ?_
  refine xl 0 ((IntsN.elem h hL (k:=(i-1)) (by omega)).2) ?_
  refine xid 6 ((L.getD (i-1) 0)≥k) (fun a2=>?_) (fun a2=>?_)
  ·exact xe 8 (V0 8) ⟨by rw[show Zhg L i k=8 from by unfold Zhg;rw[if_neg (by omega),if_pos (by omega)]],(B4 w)⟩
  exact xe 9 (V0 0) ⟨by rw[show Zhg L i k=0 from by unfold Zhg;rw[if_neg (by omega),if_neg (by omega)]],(B4 w)⟩
 have a0:=of_decide_eq_false a0
 exact xe 22 (V0 0) ⟨by rw[show Zhg L i k=0 from by unfold Zhg;rw[if_neg (by omega),if_neg (by omega)]],(B4 w)⟩
def Oo(l:Bl)(i:Nat):Nat:=Zh l (12+i*8) 8
def Wp(l:Bl)(n:Nat):List Int:=(List.range n).map fun i=>(Oo l i:Int)
theorem Es(l:Bl)(n:Nat):(Wp l n).length=n:=by simp[Wp]
theorem keysI_snoc(l:Bl)(n:Nat):Wp l (n+1)=Wp l n++[(Oo l n:Int)]:=by simp[Wp,List.range_succ]
theorem Zax(l:Bl){n i:Nat}(h:i<n):(Wp l n).getD i 0=(Oo l i:Int):=by simp[Wp,List.getD,List.getElem?_range h]
def Zgt(l:Bl)(i:Nat):Bl:=(l.drop (12+Vy l*8+i*Qz l)).take (Qz l)
def Wr(l:Bl)(n:Nat):List Bl:=(List.range n).map (Zgt l)
theorem Wc(l:Bl)(n:Nat):(Wr l n).length=n:=by simp[Wr]
theorem Sr(l:Bl)(n:Nat):Wr l (n+1)=Wr l n++[Zgt l n]:=by simp[Wr,List.range_succ]
theorem Zab(l:Bl){n i:Nat}(h:i<n):(Wr l n).getD i []=Zgt l i:=by simp[Wr,List.getD,List.getElem?_range h]
def Oq(l:Bl)(i:Nat):Int:=if 281474976710655<Oo l i then 2 else if 0<i∧Oo l i≤Oo l (i-1) then 8 else 0
def Qx(l:Bl):Nat→Int
 | 0=>0
 | i+1=>if Qx l i≠0 then Qx l i else Oq l i
theorem Cu{l:Bl}{i:Nat}(h:Qx l i≠0):∀ n,i≤n→Qx l n=Qx l i
 | 0,h2=>by
  obtain rfl:i=0:=by omega
  rfl
 | n+1,h2=>by
   by_cases e:i=n+1
   ·rw[e]
   ·have ih:=Cu h n (by omega)
    rw[Qx,if_pos (by rw[ih];exact h),ih]
theorem Tt{l:Bl}{i n:Nat}(h:Qx l i=0)(he:Oq l i≠0)(hi:i<n):Qx l n=Oq l i:=by
 have e:Qx l (i+1)=Oq l i:=by rw[Qx,if_neg (by rw[h];decide)]
 rw[Cu (by rw[e];exact he) n hi,e]
theorem Wg{l:Bl}{i:Nat}(h:Qx l i=0)(he:Oq l i=0):Qx l (i+1)=0:=by rw[Qx,if_neg (by rw[h];decide),he]
theorem keyE_R{l:Bl}{i:Nat}:Zhg (Wp l i) i (Oo l i:Int)=Oq l i:=by
 unfold Zhg Oq
 by_cases h:281474976710655<Oo l i
 ·rw[if_pos (by omega),if_pos h]
 ·rw[if_neg (by omega),if_neg h]
  by_cases h2:0<i
  ·rw[Zax l (show i-1<i by omega)]
   by_cases h3:Oo l i≤Oo l (i-1)
   ·rw[if_pos (by omega),if_pos (by omega)]
   ·rw[if_neg (by omega),if_neg (by omega)]
  ·rw[if_neg (by omega),if_neg (by omega)]
def Ob(l:Bl):Nat:=12+Xq l*8
def Zg1(l:Bl):Nat:=12+Vy l*8
def Ay(l:Bl):Nat:=Zg1 l+Xq l*Qz l
def Zdi(l:Bl):Bool:=Qm ((l.drop (Ob l)).take (Zg1 l-Ob l))&&Qm ((l.drop (Ay l)).take (244-Ay l))
def Jm(l:Bl):Int:=if Ex l then(if Zdi l then Qx l (Xq l) else 7) else 7
def NodeP(l:Bl)(w:World)(e:Ending)(w':World):Prop :=
 (Jm l≠0∧e=.returned (.tuple #[.agg #[V0 0,.bool false,S0,S0],V0 (Jm l)])∧B3 w w') ∨
 (Jm l=0∧∃ kp kc vp vc,e=.returned (.tuple #[.agg #[V0 (Ql l),.bool (Qr l),.slice kp (Xq l) kc,.slice vp (Xq l) vc],V0 0])∧B3 w w' ∧
  w'.ownsRow w.heap.size 3 1 (.slice kp (Xq l) kc) (Xq l) ((Wp l (Xq l)).map V0)∧w'.ownsRow w.heap.size 9 1 (.slice vp (Xq l) vc) (Xq l) ((Wr l (Xq l)).map sv))
theorem Fk{l:Bl}(h:Ex l=true):Xq l≤Vy l:=(of_decide_eq_true h).2.2.1
theorem Bc(a:O0)(n c:Nat)(l:Bl)(w:World)(hn:l.length=n)(hl:n≤100000000)(h:Bys w (.slice a n c) l):C0 213 #[.slice a n c] w (Ret (.bool (Qm l)) w):=by
 subst hn;exact code_Zero a c l w hl h
theorem valN_bys{a:O0}{c i:Nat}{l:Bl}{w:World}(h:Bys w (.slice a 244 c) l)(hl:l.length=244)(hb:12+Vy l*8+(i+1)*Qz l≤244)(hi:(i+1)*Qz l=i*Qz l+Qz l) :
 Bys w (.slice (Vp a (12+Vy l*8+i*Qz l) c 1) (12+Vy l*8+(i+1)*Qz l-(12+Vy l*8+i*Qz l)) (c-(12+Vy l*8+i*Qz l))) (Zgt l i):=by
 have:=Bys.cut h hl (12+Vy l*8+i*Qz l) (12+Vy l*8+(i+1)*Qz l) (by omega) hb
 rw[show 12+Vy l*8+(i+1)*Qz l-(12+Vy l*8+i*Qz l)=Qz l by omega] at this ⊢
 exact this
theorem valN_lenN{i:Nat}{l:Bl}(hl:l.length=244)(hb:12+Vy l*8+(i+1)*Qz l≤244)(hi:(i+1)*Qz l=i*Qz l+Qz l):(Zgt l i).length=12+Vy l*8+(i+1)*Qz l-(12+Vy l*8+i*Qz l):=by
 unfold Zgt;simp only[List.length_take,List.length_drop];omega
def GetP(l:Bl)(k w:Nat)(W:World)(e:Ending)(w':World):Prop :=
 (Zh l k w<9223372036854775808∧e=.returned (.tuple #[V0 (Zh l k w:Int),V0 0])∧B3 W w')∨(¬ Zh l k w<9223372036854775808∧e=.returned (.tuple #[V0 0,V0 2])∧B3 W w')
theorem Get_P(a:O0)(n c k w:Nat)(l:Bl)(W:World)(hn:l.length=n)(hw:w=1∨w=2∨w=4∨w=8)(hk:k+w≤n)(hl:n≤100000000)(h:Bys W (.slice a n c) l)(wi:Int)(hwi:wi=(w:Int)) :
 C0 78 #[.slice a n c,V0 (k:Int),V0 wi] W (GetP l k w W):=by
 subst hn hwi
 by_cases hq:Zh l k w<9223372036854775808
 ·refine(Zeb a c k w l W hw hk hl h hq).mono ?_
  rintro e V ⟨rfl,hb⟩;exact .inl ⟨hq,rfl,hb⟩
 ·refine(Get_big a c k w l W hw hk hl h hq).mono ?_
  rintro e V ⟨rfl,hb⟩;exact .inr ⟨hq,rfl,hb⟩
theorem node_keyP(l:Bl)(a:O0)(i c:Nat)(w:World)(h:Sl w (.slice a i c) i ((Wp l i).map V0))(hi:i≤1000) :
 C0 214 #[.slice a i c,V0 (↑(Oo l i):Int)] w (fun e w'=>(Oq l i=0∧e=.returned (V0 0)∧B3 w w')∨(Oq l i≠0∧e=.returned (V0 (Oq l i))∧B3 w w')):=by
 refine(node_keyG a i c (Wp l i) (Oo l i) w (Es l i) h hi).mono ?_
 rintro e W ⟨rfl,hb⟩
 rw[keyE_R]
 by_cases hz:Oq l i=0
 ·exact .inl ⟨hz,by rw[hz],hb⟩
 ·exact .inr ⟨hz,rfl,hb⟩
theorem node_Read(a:O0)(c:Nat)(l:Bl)(w:World)(hl:l.length=244)(h:Bys w (.slice a 244 c) l) :
 C0 153 #[.slice a 244 c] w (NodeP l w):=by
 have l5:=Bys.cap h hl
 refine zin 104 Tryz.func153 ?_
 refine xa 2 [V0 0,.bool false,S0,S0] 183 fun b1 W1 n1=>?_
 refine xc 6 (args:=#[.slice a 244 c]) (node_shape a c l _ hl (h.below n1.below)) ?_
 rintro e W2 m0
 rcases m0 with ⟨hs,t0,l0,c0,rfl,g0⟩|⟨hs,rfl,g0⟩
 ·refine xa 4 [V0 0,.bool false,S0,S0] 183 fun b3 W3 n3=>?_
  have k1:=n1.blk.below g0
  have f2:=n3.ne k1
  have g2:=bln n1.below g0
  have g3:=n3.ge g2
  refine xsv 0 n3.blk [V0 t0,.bool l0,S0,S0] fun W4 u4 k4=>?_
  have j2:=u4.blk (k1.below n3.below) (Ne.symm (Ne.symm f2))
  refine xsv 15 j2 [V0 0,.bool false,S0,S0] fun W5 u5 k5=>?_
  have g1:=n1.ge (B4 w)
  have i5:=u5.below (u4.below (bln g2 n3.below) g3) g1
  refine xec 5 k5 (.tuple #[.agg #[V0 0,.bool false,S0,S0],V0 7]) ?_
  have he:Jm l=7:=by unfold Jm;simp[hs]
  exact .inl ⟨by rw[he];decide,by rw[he],i5⟩
 have m8:=Fk hs
 have k0:=fitG (Ql l) (Qr l)
 have h5:=maxG_le (Ql l) (Qr l)
 have k3:=widG_le (Ql l) (Qr l)
 change 12+Vy l*8+Vy l*Qz l≤244 at k0
 change Vy l≤18 at h5
 change Qz l≤24 at k3
 have o6:Xq l*Qz l≤Vy l*Qz l:=Nat.mul_le_mul_right _ m8
 refine xa 4 [V0 0,.bool false,S0,S0] 183 fun b6 W6 n6=>?_
 have k1:=n1.blk.below g0
 have a3:=n6.ne k1
 have f4:=bln n1.below g0
 have g6:=n6.ge f4
 refine xsv 0 n6.blk [V0 (Ql l),.bool (Qr l),S0,S0] fun W7 u7 k7=>?_
 refine xd 15 .z ?_
 have c2:=k7.below (Za W7)
 refine xb (.e [0] 1) 0 c2 ?_
 refine xb (.e [2] 3) 1 c2 ?_
 refine xb (.e [5] 6) 0 c2 ?_
 refine xb (.e [7] 8) 1 c2 ?_
 refine xr (.o [] 4) (args:=#[V0 (Ql l),.bool (Qr l)]) (Nv (Ql l) (Qr l) _) fun W8 g5=>?_
 refine xr (.o [] 9) (args:=#[V0 (Ql l),.bool (Qr l)]) (Zac (Ql l) (Qr l) _) fun W9 h1=>?_
 refine xwm (.r [10,11] 5) ((↑(Vy l):Int)*8) (↑((Vy l)*8):Int) ?_
 refine xwm 0 (12+(↑((Vy l)*8):Int)) (↑(12+((Vy l)*8)):Int) ?_
 refine xwm 8 ((↑(Xq l):Int)*8) (↑((Xq l)*8):Int) ?_
 refine xwm 0 (12+(↑((Xq l)*8):Int)) (↑(12+((Xq l)*8)):Int) ?_
 refine xsB 1 (fun _ _ _ _ _ zo zx zy zz V=>Hn (k:=(12+((Xq l)*8))) (h:=(12+((Vy l)*8))) (b:=a) (n:=244) (c:=c) (i:=(↑(12+((Xq l)*8)):Int)) (ki:=.i64) (j:=(↑(12+((Vy l)*8)):Int)) (kj:=.i64) 1 zo zx zy rfl zz rfl (by omega) (by omega) Tryz.underlying22 (by kernel_rfl) V) ?_
 have e4:=bln (bln (bln (u7.below (bln f4 n6.below) g6) (Za W7)) g5) h1
 refine xr 0 (args:=#[.slice (Vp a (12+((Xq l)*8)) c 1) ((12+((Vy l)*8))-(12+((Xq l)*8))) (c-(12+((Xq l)*8)))]) (Bc (Vp a (12+((Xq l)*8)) c 1) ((12+((Vy l)*8))-(12+((Xq l)*8))) (c-(12+((Xq l)*8))) _ _ (by simp;omega) (by omega) ((Bys.cut h hl (12+((Xq l)*8)) (12+((Vy l)*8)) (by omega) (by omega)).below e4)) fun n4 b4=>?_
 refine xg 2 [42,43] (!(Qm ((l.drop (Ob l)).take (Zg1 l-Ob l)))) (fun e2=>?_) (fun e2=>?_)
 ·have h4:Qm ((l.drop (Ob l)).take (Zg1 l-Ob l))=false:=by simpa using e2
  have i8:=((((u7.blk (k1.below n6.below) (Ne.symm (Ne.symm a3))).below (Za W7)).below g5).below h1).below b4
  refine xsv 16 i8 [V0 0,.bool false,S0,S0] fun n5 m5 l6=>?_
  have g1:=n1.ge (B4 w)
  have i9:=m5.below (bln e4 b4) g1
  refine xec 5 l6 (.tuple #[.agg #[V0 0,.bool false,S0,S0],V0 7]) ?_
  have he:Jm l=7:=by unfold Jm;simp[hs,Zdi,h4]
  exact .inl ⟨by rw[he];decide,by rw[he],i9⟩
 have h4:Qm ((l.drop (Ob l)).take (Zg1 l-Ob l))=true:=by simpa using e2
 refine xwm 4 ((↑(Xq l):Int)*(↑(Qz l):Int)) (↑((Xq l)*(Qz l)):Int) ?_
 refine xwm 0 ((↑(12+((Vy l)*8)):Int)+(↑((Xq l)*(Qz l)):Int)) (↑((12+((Vy l)*8))+((Xq l)*(Qz l))):Int) ?_
 refine xsL 0 (fun _ _ _ _ zo zx zy V=>Yc (k:=((12+((Vy l)*8))+((Xq l)*(Qz l)))) (b:=a) (n:=244) (c:=c) (i:=(↑((12+((Vy l)*8))+((Xq l)*(Qz l))):Int)) (ki:=.i64) 1 zo zx zy rfl (by omega) Tryz.underlying22 (by kernel_rfl) V) ?_
 have e0:=bln e4 b4
 refine xr 0 (args:=#[.slice (Vp a ((12+((Vy l)*8))+((Xq l)*(Qz l))) c 1) (244-((12+((Vy l)*8))+((Xq l)*(Qz l)))) (c-((12+((Vy l)*8))+((Xq l)*(Qz l))))]) (Bc (Vp a ((12+((Vy l)*8))+((Xq l)*(Qz l))) c 1) (244-((12+((Vy l)*8))+((Xq l)*(Qz l)))) (c-((12+((Vy l)*8))+((Xq l)*(Qz l)))) _ _ (by simp;omega) (by omega) ((Bys.cut h hl (12+((Vy l)*8)+((Xq l)*(Qz l))) 244 (by omega) (by omega)).below e0)) fun o8 c5=>?_
 refine xi 4 (!(Qm ((l.drop (Ay l)).take (244-Ay l)))) (fun e3=>?_) (fun e3=>?_)
 ·have j9:Qm ((l.drop (Ay l)).take (244-Ay l))=false:=by simpa using e3
  have h6:=(((((u7.blk (k1.below n6.below) (Ne.symm (Ne.symm a3))).below (Za W7)).below g5).below h1).below b4).below c5
  refine xsv 3 h6 [V0 0,.bool false,S0,S0] fun p5 m3 l7=>?_
  have g1:=n1.ge (B4 w)
  have k2:=m3.below (bln e0 c5) g1
  refine xec 5 l7 (.tuple #[.agg #[V0 0,.bool false,S0,S0],V0 7]) ?_
  have he:Jm l=7:=by unfold Jm;simp[hs,Zdi,h4,j9]
  exact .inl ⟨by rw[he];decide,by rw[he],k2⟩
 have j9:Qm ((l.drop (Ay l)).take (244-Ay l))=true:=by simpa using e3
 have i4:Zdi l=true:=by unfold Zdi;rw[h4,j9];rfl
 have j6:=bln e0 c5
 have j7:=(((((u7.blk (k1.below n6.below) (Ne.symm (Ne.symm a3))).below (Za W7)).below g5).below h1).below b4).below c5
 have h7:=(((c2.below g5).below h1).below b4).below c5
 refine zl 10 104 (fun zm n0 V=>∃ (i:Nat) (kp:O0) (kc:Nat) (vp:O0) (vc:Nat),n0=[(0,.slice a 244 c),(2,P0 b1),(4,P0 b6),(7,V0 (↑(Qz l):Int)),(9,V0 (↑(12+((Vy l)*8)):Int)),(55,V0 (↑(Xq l):Int)),(56,V0 (i:Int))]∧zm=Xq l-((i:Int)).toNat∧B3 w V∧Blk V b1 ([V0 0,.bool false,S0,S0]) 183∧Blk V b6 ([V0 (Ql l),.bool (Qr l),.slice kp i kc,.slice vp i vc]) 183∧V.ownsRow w.heap.size 3 1 (.slice kp i kc) i ((Wp l i).map V0)∧V.ownsRow w.heap.size 9 1 (.slice vp i vc) i ((Wr l i).map sv)∧i≤Xq l∧Qx l i=0) ⟨0,none,0,none,0,rfl,rfl,j6,j7,h7,World.ownsRow_nil _ _ _ _,World.ownsRow_nil _ _ _ _,Nat.zero_le _,rfl⟩ ?_
 rintro _ _ n9 ⟨i,kp,kc,vp,vc,rfl,rfl,a8,a0,c4,hK,hV,hi,hz⟩ p0 f9 p2
 have k9:(i+1)*Qz l=i*Qz l+Qz l:=Nat.succ_mul i (Qz l)
 have l4:i<Xq l→(i+1)*Qz l≤Vy l*Qz l:=fun hh=>Nat.mul_le_mul_right _ (by omega)
 refine xid 6 ((i:Int)<(↑(Xq l):Int)) (fun i7=>?_) (fun i7=>?_)
 ·refine xwm 14 ((i:Int)*8) (↑(i*8):Int) ?_
  refine xwm 0 (12+(↑(i*8):Int)) (↑(12+(i*8)):Int) ?_
  refine xc 0 (args:=#[.slice a 244 c,V0 (↑(12+(i*8)):Int),V0 8]) (Get_P a 244 c (12+(i*8)) 8 l _ hl (by decide) (by omega) (by decide) (h.below a8) 8 rfl) ?_
  rintro e o9 j1
  rcases j1 with ⟨m9,rfl,a2⟩|⟨m9,rfl,a2⟩
  ·have a5:=c4.below a2
   refine xb 17 2 a5 ?_
   have e9:=Zb hK a2
   refine xc 1 (args:=#[.slice kp i kc,V0 (↑(Oo l i):Int)]) (node_keyP l kp i kc _ (Ze e9) (by omega)) ?_
   rintro e p3 h8
   rcases h8 with ⟨e5,rfl,a4⟩|⟨e5,rfl,a4⟩
   ·have a7:=a5.below a4
    refine xb 16 2 a7 ?_
    refine xbs 1 1 [V0 (↑(Oo l i):Int)] 3 fun n7 o7 c7=>?_
    have f6:=bln (bln a8 a2) a4
    have q0:=c7.ge f6
    have f7:=Zb e9 a4
    have i0:=Zr f7 c7
    have b9:=Zb f7 c7.below
    have d4:=bln f6 c7.below
    refine xbi 0 fun _ _ _ _ zJ zQ zo zx zy zK=>Zy (m:=1) (news:=[V0 (↑(Oo l i):Int)]) (V0 0) 1 8 (i+1) ((Wp l (i+1)).map V0) zo Tryz.underlying35 (by kernel_rfl) rfl (by decide) zx b9 zy (c7.blk.sl 1 1 (by decide) (by decide)) rfl (by simp[Value.oneCell']) (by unfold maxLen;omega) (by omega) d4.size (by rfl) (by rw[keysI_snoc,List.map_append];rfl) fun d9 e1 o2 k6 c8 j8=>?_
    refine zK _ _ ?_
    have a1:=(a7.below c7.below).grown c8 b9 (by decide)
    refine xs 1 a1 [V0 (Ql l),.bool (Qr l),.slice d9 (i+1) e1,.slice vp i vc] fun d7 e6 l1=>?_
    refine xd 2 (.t w.heap.size [9,183]) ?_
    refine xwm (.e [0,2,3,4,5] 6) ((i:Int)*(↑(Qz l):Int)) (↑(i*(Qz l)):Int) ?_
    refine xwm (.e [] 7) ((↑(12+((Vy l)*8)):Int)+(↑(i*(Qz l)):Int)) (↑((12+((Vy l)*8))+(i*(Qz l))):Int) ?_
    refine xwm (.e [8,9] 10) ((i:Int)+1) (↑(i+1):Int) ?_
    refine xwm (.e [11] 12) ((↑(i+1):Int)*(↑(Qz l):Int)) (↑((i+1)*(Qz l)):Int) ?_
    refine xwm (.e [] 13) ((↑(12+((Vy l)*8)):Int)+(↑((i+1)*(Qz l)):Int)) (↑((12+((Vy l)*8))+((i+1)*(Qz l))):Int) ?_
    refine xsB (.e [] 14) (fun _ _ _ _ _ zo zx zy zz V=>Hn (k:=((12+((Vy l)*8))+(i*(Qz l)))) (h:=((12+((Vy l)*8))+((i+1)*(Qz l)))) (b:=a) (n:=244) (c:=c) (i:=(↑((12+((Vy l)*8))+(i*(Qz l))):Int)) (ki:=.i64) (j:=(↑((12+((Vy l)*8))+((i+1)*(Qz l))):Int)) (kj:=.i64) 1 zo zx zy rfl zz rfl (by omega) (by omega) Tryz.underlying22 (by kernel_rfl) V) ?_
    have b2:=Zb (e6.own2 (Yb (Zb (Zb (Zb hV a2) a4) c7.below) c8 b9 (by decide)) a1 (by decide)) (Za d7)
    have a6:=bln (e6.below (d4.trans j8) g6) (Za d7)
    refine xcvt (.e [] 15) (.t w.heap.size [9,183]) (fun _ _ _ zo zx V b2=>Vm zo zx ((valN_bys h hl (by omega) k9).below (Ad a6 b2 (Nat.le_refl _))) (valN_lenN hl (by omega) k9) Tryz.underlying22 Tryz.underlying5 Tryz.underlying9) ?_
    refine xm2 0 1 16 ?_ ?_
    ·have d5:=l1.below (Za d7)
     refine xb 0 3 d5 ?_
     refine xbs (.o [] 16) 1 [.string ⟨(Zgt l i).toArray⟩] 9 fun o1 p7 d6=>?_
     have o3:=d6.ge a6
     have i6:=Zr b2 d6
     have c1:=Zb b2 d6.below
     have d2:=bln a6 d6.below
     refine ybi (.o [] 17) (.t w.heap.size [9,183]) fun _ _ _ _ zJ zQ zo zx zy zK=>Zy (m:=1) (news:=[.string ⟨(Zgt l i).toArray⟩]) (.string ⟨#[]⟩) 1 16 (i+1) ((Wr l (i+1)).map sv) zo Tryz.underlying134 (by kernel_rfl) rfl (by decide) zx c1 zy (d6.blk.sl 1 1 (by decide) (by decide)) rfl (by simp[Value.oneCell']) (by unfold maxLen;omega) (by omega) d2.size (by rfl) (by rw[Sr,List.map_append];rfl) fun i1 j4 p4 m7 c9 f0=>?_
     refine zK _ _ (Xa f0 c9 c1 (by decide)) ?_
     have b0:=(d5.below d6.below).grown c9 c1 (by decide)
     refine ys (.o [18] 19) b0 [V0 (Ql l),.bool (Qr l),.slice d9 (i+1) e1,.slice i1 (i+1) j4] (.t w.heap.size [9,183]) fun o5 g9 m6=>⟨(Zt g9 b0 g6 (by decide)),?_⟩
     refine xwm 4 ((i:Int)+1) (↑(i+1):Int) ?_
     have f1:=g9.below (d2.trans f0) g6
     have b5:=g9.blk ((((e6.blk ((((a0.below a2).below a4).below c7.below).grown c8 b9 (by decide)) (Ne.symm (Ne.symm a3))).below (Za d7)).below d6.below).grown c9 c1 (by decide)) (Ne.symm (Ne.symm a3))
     have f8:=g9.own2 (Yb (Zb (Zb (e6.own2 k6 a1 (by decide)) (Za d7)) d6.below) c9 c1 (by decide)) b0 (by decide)
     have g8:=g9.own2 m7 b0 (by decide)
     exact ze 2 (f9 _ _ _ ⟨i+1,_,_,_,_,rfl,rfl,f1,b5,m6,f8,g8,by omega,Wg hz e5⟩ (by omega))
    refine xbs 0 1 [.string ⟨(Zgt l i).toArray⟩] 9 fun o4 o0 d8=>?_
    have n8:=d8.ge a6
    have j3:=Zr b2 d8
    have d3:=(l1.below (Za d7)).below d8.below
    refine xb (.o [] 1) 3 d3 ?_
    have b8:=Zb b2 d8.below
    have d1:=bln a6 d8.below
    refine ybi (.o [] 17) (.t w.heap.size [9,183]) fun _ _ _ _ zJ zQ zo zx zy zK=>Zy (m:=1) (news:=[.string ⟨(Zgt l i).toArray⟩]) (.string ⟨#[]⟩) 1 16 (i+1) ((Wr l (i+1)).map sv) zo Tryz.underlying134 (by kernel_rfl) rfl (by decide) zx b8 zy (d8.blk.sl 1 1 (by decide) (by decide)) rfl (by simp[Value.oneCell']) (by unfold maxLen;omega) (by omega) d1.size (by rfl) (by rw[Sr,List.map_append];rfl) fun h9 j5 p8 l9 d0 f5=>?_
    refine zK _ _ (Xa f5 d0 b8 (by decide)) ?_
    have a9:=d3.grown d0 b8 (by decide)
    refine ys (.o [18] 19) a9 [V0 (Ql l),.bool (Qr l),.slice d9 (i+1) e1,.slice h9 (i+1) j5] (.t w.heap.size [9,183]) fun p6 h0 l8=>⟨(Zt h0 a9 g6 (by decide)),?_⟩
    refine xwm 4 ((i:Int)+1) (↑(i+1):Int) ?_
    have e8:=h0.below (d1.trans f5) g6
    have b7:=h0.blk ((((e6.blk ((((a0.below a2).below a4).below c7.below).grown c8 b9 (by decide)) (Ne.symm (Ne.symm a3))).below (Za d7)).below d8.below).grown d0 b8 (by decide)) (Ne.symm (Ne.symm a3))
    have h3:=h0.own2 (Yb (Zb (Zb (e6.own2 k6 a1 (by decide)) (Za d7)) d8.below) d0 b8 (by decide)) a9 (by decide)
    have f3:=h0.own2 l9 a9 (by decide)
    exact ze 2 (f9 _ _ _ ⟨i+1,_,_,_,_,rfl,rfl,e8,b7,l8,h3,f3,by omega,Wg hz e5⟩ (by omega))
   refine xk 10 (show(((Oq l i) != (0:Int)):Bool)=true from bne_iff_ne.2 e5) ?_
   have c3:=(a0.below a2).below a4
   refine xsv 4 c3 [V0 0,.bool false,S0,S0] fun p1 m4 m1=>?_
   have g1:=n1.ge (B4 w)
   have h2:=m4.below (bln (bln a8 a2) a4) g1
   refine xec 10 m1 (.tuple #[.agg #[V0 0,.bool false,S0,S0],V0 (Oq l i)]) ?_
   have he:Jm l=Oq l i:=by unfold Jm;rw[if_pos hs,if_pos i4,Tt hz e5 (by omega)]
   exact .inl ⟨by rw[he];exact e5,by rw[he],h2⟩
  have c6:=a0.below a2
  refine xsv 29 c6 [V0 0,.bool false,S0,S0] fun n2 l3 l2=>?_
  have g1:=n1.ge (B4 w)
  have g7:=l3.below (bln a8 a2) g1
  refine xec 10 l2 (.tuple #[.agg #[V0 0,.bool false,S0,S0],V0 2]) ?_
  have k8:Oq l i=2:=by unfold Oq;rw[if_pos (by unfold Oo;omega)]
  have he:Jm l=2:=by unfold Jm;rw[if_pos hs,if_pos i4,Tt hz (by rw[k8];decide) (by omega),k8]
  exact .inl ⟨by rw[he];decide,by rw[he],g7⟩
 refine xlv 7 c4.rp ?_
 refine xsv 0 a0 [V0 (Ql l),.bool (Qr l),.slice kp i kc,.slice vp i vc] fun p9 i2 m2=>?_
 have g1:=n1.ge (B4 w)
 have e7:=i2.below a8 g1
 have i3:=i2.own2 hK a0 (by decide)
 have j0:=i2.own2 hV a0 (by decide)
 refine xec 4 m2 (.tuple #[.agg #[V0 (Ql l),.bool (Qr l),.slice kp i kc,.slice vp i vc],V0 0]) ?_
 obtain rfl:i=Xq l:=by omega
 exact .inr ⟨by unfold Jm;rw[if_pos hs,if_pos i4,hz],_,_,_,_,rfl,e7,i3,j0⟩
end Go.Proofs.YtceeiinepijokaaGreat
namespace Go.Proofs.YtceeiinepijokaaGreat
set_option maxHeartbeats 8000000
set_option maxRecDepth 100000
open Go.RowKit Go.Extern.Stop Go.Stop Go.Extern
set_option linter.unusedVariables false
section
variable {P:Program} {a:Act} {w:World} {K:Act→World→Prop} {Q:Exit→Act→World→Prop}
theorem Zci(l:Bl):Lib.strCells ⟨l.toArray⟩=l.map bv:=by
 unfold Lib.strCells bv
 simp
theorem op_appS{o:Oper}{s x:Operand}{t u e:TypeId}{base:Nat}{v:Value}{n:Nat}{xs:List Value}(l:Bl)(n':Nat)(xs':List Value)(ho:o.op=.call { callee:=.builtin .append,args:=#[s,x],argTypes:=#[t,u] })
 (ht:P.underlying t=some (.slice e)) (hu:P.underlying u=some .string) (hi:(P.info? e).map (fun i=>(i.zero,i.size,i.bytes))=some (some (.int .u8 0),1,1)) (hs:a.eval s=v) (hown:w.ownsRow base e 1 v n xs) (hx:a.eval x=.string ⟨l.toArray⟩)
 (hb:n+l.length≤100000000) (hbase:base≤w.heap.size) (hn:n+l.length=n') (hxs:xs++l.map bv=xs')
 (h:∀ b c W,W.ownsRow base e 1 (.slice b n' c) n' xs'→w.grownBy W v.ownBlock→Below base w W→K (a.put o.dst (.slice b n' c)) W):o.wp P a w K Q:=by
 cases hq:P.info? e with
 | none=>simp[hq] at hi
 | some i =>
  simp only[hq,Option.map_some,Option.some.injEq,Prod.mk.injEq] at hi
  have a0:(⟨l.toArray⟩:ByteArray).size=l.length:=by simp[ByteArray.size]
  obtain⟨v',W,hr,h2,h3,_⟩:=Lib.run_append_own_string (P:=P) w base t u o.type e i ht hu hq hi.1 hi.2.1 hi.2.2 v n xs hown ⟨l.toArray⟩ (by rw[a0];unfold maxLen;omega) (by rw[a0];omega) hbase
  rw[a0,Zci] at h2
  subst hn hxs
  obtain⟨b,c,rfl⟩:=(Ze h2).slice
  unfold Oper.wp execOp
  simp only[ho,resolve,invoke,builtin,Sem.run_bind,Sem.run_pure,Result.andThen_ok,List.map_toArray,List.map_cons,List.map_nil,hs,hx,hr]
  exact h b c W h2 h3 (Vf h3 hown (Nat.le_refl _) hbase)
theorem Zao(g k:Nat):Xd (S1 g) (k*1)=⟨g,k,none⟩:=by
 simp[Xd,Addr.add];exact fun h=>h.symm
theorem Vx{o:Oper}{t e:TypeId}{x y:Operand}{g n c k base:Nat}{xs:List Value}{v:Value}(ho:o.op=.store t x y)(hx:a.eval x=.pointer (some (Xd (S1 g) (k*1))))(hy:a.eval y=v)
 (hi:(P.info? t).map (·.size)=some 1) (h1:v.oneCell'=true) (hown:w.ownsRow base e 1 (.slice (S1 g) n c) n xs) (hk:k<n)
 (h:∀ W,Upd w g W→W.ownsRow base e 1 (.slice (S1 g) n c) n (xs.set k v)→K (a.put o.dst undef) W):o.wp P a w K Q:=by
 obtain⟨hl,h2⟩:=hown
 rcases h2 with ⟨h2,_⟩|⟨g',a3,a0,hv,hg,hh,hc,hm,a1,a2⟩
 ·cases h2
 ·simp only[Value.slice.injEq,Option.some.injEq,Addr.mk.injEq] at hv
  obtain⟨⟨rfl,_⟩,_,rfl⟩:=hv
  have hb:Blk w g a0.toList e:=by unfold Blk;simpa using hh
  rw[Zao] at hx
  refine Kf ho hx hy hi h1 hb (by simp;omega) fun W hu hW=>h W hu ⟨by simpa using hl,.inr ⟨g,c,(a0.toList.set k v).toArray,rfl,hg,hW,hc,hm,by simpa using a1,?_⟩⟩
  rw[←a2]
  simp[List.take_set]
end
section
variable {P:Program} {ops:Array Oper} {Q:Exit→Act→World→Prop} {a a':Act} {w:World} {S:World→Prop} {md:Region.Mode} {L L':Array Bool} {fuel:Nat}
end
theorem Nk{w:World}{base e size g n c:Nat}{xs:List Value}(h:w.ownsRow base e size (.slice (S1 g) n c) n xs):base≤g:=(h.lt g rfl).1
theorem Fu{w:World}{base e size g n c:Nat}{xs:List Value}(h:w.ownsRow base e size (.slice (S1 g) n c) n xs):∃ cs,Blk w g cs e:=by
 rcases h.2 with ⟨h2,_⟩|⟨g',a1,a0,hv,hg,hh,_⟩
 ·cases h2
 ·simp only[Value.slice.injEq,Option.some.injEq,Addr.mk.injEq] at hv
  obtain⟨⟨rfl,_⟩,_⟩:=hv
  exact⟨a0.toList,by unfold Blk;simpa using hh⟩
theorem Cb{w:World}{base e size g n c b:Nat}{t:TypeId}{xs cs:List Value}(k:Blk w b cs t)(h:w.ownsRow base e size (.slice (S1 g) n c) n xs)(hne:t≠e):b≠g:=by
 rintro rfl
 obtain⟨a0,k'⟩:=Fu h
 have h1:w.heap[b]? = some (.cells cs.toArray t (0,0)):=k
 rw[show w.heap[b]? = some (.cells a0.toArray e (0,0)) from k'] at h1
 simp only[Option.some.injEq,Obj.cells.injEq] at h1
 exact hne h1.2.1.symm
theorem Zd.of_updRow{T:List TypeId}{w W:World}{base e size g n c:Nat}{xs:List Value}(u:Upd w g W)(h:w.ownsRow base e size (.slice (S1 g) n c) n xs)(hT:T.contains e=true):Zd T w W:=by
 obtain⟨cs,k⟩:=Fu h
 exact Zd.of_upd u k hT
theorem Upd.ownRow{w W:World}{base base2 e e2 size size2 g n c n2:Nat}{v:Value}{xs ys:List Value}(u:Upd w g W)(h:w.ownsRow base2 e2 size2 v n2 ys)(o:w.ownsRow base e size (.slice (S1 g) n c) n xs)(hne:e2≠e):W.ownsRow base2 e2 size2 v n2 ys:=by
 obtain⟨cs,k⟩:=Fu o
 exact u.own2 h k hne
end Go.Proofs.YtceeiinepijokaaGreat
namespace Go.Proofs.YtceeiinepijokaaGreat
set_option maxHeartbeats 8000000
set_option maxRecDepth 100000
open Go.RowKit Go.Extern.Stop Go.Stop Go.Extern
set_option linter.unusedVariables false
attribute [local irreducible] wpList wpAnyH Code.wp Oper.wp Go
theorem Ue{P:Program}{a:Act}{w:World}{K:Act→World→Prop}{Q:Exit→Act→World→Prop}{o:Oper}{src dst e:TypeId}{x:Operand}(l:Bl)(ho:o.op=.convert src dst x)(hx:a.eval x=.string ⟨l.toArray⟩)
 (hs:P.underlying src=some .string) (hd:P.underlying dst=some (.slice e)) (he:P.underlying e=some (.int .u8)) (hl:l.length≤1000000)
 (k:∀ b c W,B3 w W→Bys W (.slice (S1 b) l.length c) l→K (a.put o.dst (.slice (S1 b) l.length c)) W):o.wp P a w K Q:=by
 have hr:=run_bytes_of_string (P:=P) w src dst e ⟨l.toArray⟩ hs hd he
 have a2:(⟨l.toArray⟩:ByteArray).size=l.length:=by simp[ByteArray.size]
 rw[a2] at hr
 obtain⟨W1,a0⟩:∃ W1,W1=w.drew.alloc (.cells (bytesRow ⟨l.toArray⟩ (grownCap w l.length 0 e)) e ((bytesRow ⟨l.toArray⟩ (grownCap w l.length 0 e)).size,(bytesRow ⟨l.toArray⟩ (grownCap w l.length 0 e)).size+1)):=⟨_,rfl⟩
 rw[←a0] at hr
 have h2:(execOp a.eval o).run P w=.ok (.value (.slice (some ⟨w.heap.size,0,none⟩) l.length (grownCap w l.length 0 e))) W1:=by
  simp only[execOp,ho,hx,Sem.run_bind,hr];rfl
 refine Hf h2 (k _ _ _ (by rw[a0];exact(Za w).trans (show Below w.drew.heap.size w.drew _ from blx w.drew _)) (.inr ⟨w.heap.size,0,_,rfl,grownCap_ge w l.length 0 e,grownCap_le_maxLen w l.length 0 e (by unfold maxLen;omega),fun j y hj=>?_⟩))
 have a1:j<l.length:=by have:=(List.getElem?_eq_some_iff.1 hj).1;simpa using this
 have hb:=bytesRow_at ⟨l.toArray⟩ (grownCap w l.length 0 e) j (by simpa using a1)
 have hy:y=.int .u8 ((l.toArray[j]'(by simpa using a1)).toNat:Int):=by
  rw[List.getElem?_map,List.getElem?_eq_getElem a1] at hj
  simp only[Option.map_some,Option.some.injEq] at hj
  rw[←hj];rfl
 have hh:W1.heap[w.heap.size]? = some (.cells (bytesRow ⟨l.toArray⟩ (grownCap w l.length 0 e)) e ((bytesRow ⟨l.toArray⟩ (grownCap w l.length 0 e)).size,(bytesRow ⟨l.toArray⟩ (grownCap w l.length 0 e)).size+1)):=by rw[a0];exact heap_alloc_new w.drew _
 rw[hy]
 simp[World.cell?,hh,hb]
def Nb(s:Bl):Int:=if s.length=4 then(if 1≤Zh s 0 4∧Zh s 0 4≤14399 then 0 else 2) else 7
def Mg(s:Bl):Nat:=if Nb s=0 then Zh s 0 4 else 0
theorem Zfa(bs:ByteArray)(i:Nat)(r:Bl)(h:i≤bs.size):(ByteArray.toList.loop bs i r).length=r.length+(bs.size-i):=by
 rw[ByteArray.toList.loop]
 split
 ·rename_i h2
  rw[Zfa bs (i+1) _ (by omega)]
  simp;omega
 ·simp;omega
termination_by bs.size-i
theorem Sx(bs:ByteArray):bs.toList.length=bs.size:=by
 unfold ByteArray.toList;rw[Zfa _ _ _ (Nat.zero_le _)];simp
theorem four_ne(n:Int):((⟨(leB n 4).toArray⟩:ByteArray).toList==(⟨#[]⟩:ByteArray).toList)=false:=by
 cases hq:((⟨(leB n 4).toArray⟩:ByteArray).toList==(⟨#[]⟩:ByteArray).toList) with
 | false=>rfl
 | true =>
  have e:=congrArg List.length (eq_of_beq hq)
  rw[Sx,Sx] at e
  simp[ByteArray.size,Zg] at e
theorem Zcd(w:World) :
 C0 90 #[] w (Yy (fun w' r=>∃ b,r=.slice (S1 b) 1 1∧w.heap.size≤b∧Blk w' b [V0 4,V0 1,V0 14399] 268) w):=by
 refine zin 3 Tryz.func90 ?_
 refine xbs 8 1 [V0 4,V0 1,V0 14399] 268 fun b1 W1 n1=>?_
 have g1:=n1.ge (B4 w)
 exact xe 4 (.slice (S1 b1) 1 1) ⟨_,rfl,n1.below,_,rfl,g1,n1.blk⟩
theorem Zhm(gl:Nat)(an:O0)(cn:Nat)(n:Int)(w:World)(hl:Blk w gl [V0 4,V0 1,V0 14399] 268)(hn:Sl w (.slice an 1 cn) 1 [V0 n])(h1:1≤n)(h2:n≤14399) :
 C0 157 #[.slice (S1 gl) 1 1,.slice an 1 cn] w (Ret (.string ⟨(leB n 4).toArray⟩) w):=by
 have b3:=h1
 have b5:=h2
 clear h2
 refine zin 51 Tryz.func157 ?_
 refine xu 19 2 ?_
 refine xlv 15 hl.rp ?_
 refine xa 0 [V0 0,V0 0,V0 0] 268 fun b1 W1 n1=>?_
 have a7:=n1.ne hl
 refine xsv 1 n1.blk [V0 4,V0 1,V0 14399] fun W2 u2 k2=>?_
 have g1:=n1.ge (B4 w)
 refine xd 4 .z ?_
 refine xx (.e [0,1] 2) _ 1 0 1 (Ints.elem (l:=[n]) hn (k:=0) (by simp)).1 ?_
 have hB:=bln (u2.below n1.below g1) (Za W2)
 refine xl (.e [] 3) ((Ints.elem (l:=[n]) (hn.below hB) (k:=0) (by simp)).2) ?_
 have a1:=k2.below (Za W2)
 refine xb (.e [4] 5) 1 a1 ?_
 refine xgk (.b [6,7]) [23,24] (show(decide (n<(1:Int)):Bool)=false from decide_eq_false (by omega)) ?_
 refine xx (.e [8,9] 10) _ 1 0 1 (Ints.elem (l:=[n]) hn (k:=0) (by simp)).1 ?_
 refine xl (.e [] 11) ((Ints.elem (l:=[n]) (hn.below hB) (k:=0) (by simp)).2) ?_
 refine xb (.e [12] 13) 2 a1 ?_
 refine xk (.r [14,15] 2) (show(decide (n>(14399:Int)):Bool)=false from decide_eq_false (by omega)) ?_
 refine xd 3 .z ?_
 have a5:=a1.below (Za W2.drew)
 refine xb (.e [0] 1) 0 a5 ?_
 refine xx (.e [2,3] 4) _ 1 0 1 (Ints.elem (l:=[n]) hn (k:=0) (by simp)).1 ?_
 have a0:=bln hB (Za W2.drew)
 refine xl (.e [] 5) ((Ints.elem (l:=[n]) (hn.below a0) (k:=0) (by simp)).2) ?_
 refine xbs (.o [6] 7) 1 [V0 4,V0 n] 235 fun b4 W4 n4=>?_
 have g4:=n4.ge a0
 refine yc (.o [] 8) (args:=#[.slice (S1 b4) 1 1]) .z (Cn b4 n (by omega) (by omega) _ n4.blk) ?_
 rintro _ W5 ⟨_,rfl,a6,p2,c2,rfl,h2⟩
 have a8:=(bln a0 n4.below).size
 refine⟨a6,?_⟩
 have o6:=World.ownsRow_nil W5 w.heap.size 5 1
 have a4:=Zf h2 a8
 have a2:=bln (bln a0 n4.below) a6
 refine xbi (.r [9,10,11,12,13] 5) fun _ _ _ _ zJ zQ zo zx zy zK=>Zy (m:=4) (news:=(leB n 4).map bv) (.int .u8 0) 1 1 (4) ((leB n 4).map bv) zo Tryz.underlying22 (by kernel_rfl) rfl (by decide) zx o6 zy (Ze a4) (by simp[Zg]) (Yt _) (by unfold maxLen;omega) (by omega) a2.size (by rfl) (by simp) fun b0 b6 W7 o7 b2 a9=>?_
 refine zK _ _ ?_
 refine xcv0 24 (fun _ _ _ zo zx=>Vm zo zx (Yi (Ze o7) (Zg _ _)) (Zg _ _) Tryz.underlying22 Tryz.underlying5 Tryz.underlying9) ?_
 have a3:=a2.trans a9
 exact xe 4 (.string ⟨(leB n 4).toArray⟩) ⟨rfl,a3⟩
theorem Zgc(gl:Nat)(an:O0)(cn:Nat)(n:Int)(w:World)(hl:Blk w gl [V0 4,V0 1,V0 14399] 268)(hn:Sl w (.slice an 1 cn) 1 [V0 n])(h:¬ (1≤n∧n≤14399)) :
 C0 157 #[.slice (S1 gl) 1 1,.slice an 1 cn] w (Ret (.string ⟨#[]⟩) w):=by
 refine zin 51 Tryz.func157 ?_
 refine xu 19 2 ?_
 refine xlv 15 hl.rp ?_
 refine xa 0 [V0 0,V0 0,V0 0] 268 fun b1 W1 n1=>?_
 have a2:=n1.ne hl
 refine xsv 1 n1.blk [V0 4,V0 1,V0 14399] fun W2 u2 k2=>?_
 have g1:=n1.ge (B4 w)
 refine xd 4 .z ?_
 refine xx (.e [0,1] 2) _ 1 0 1 (Ints.elem (l:=[n]) hn (k:=0) (by simp)).1 ?_
 have hB:=bln (u2.below n1.below g1) (Za W2)
 refine xl (.e [] 3) ((Ints.elem (l:=[n]) (hn.below hB) (k:=0) (by simp)).2) ?_
 have a1:=k2.below (Za W2)
 refine xb (.e [4] 5) 1 a1 ?_
 refine xg (.b [6,7]) [23,24] (decide (n<(1:Int))) (fun a0=>?_) (fun a0=>?_)
 ·have a0:=of_decide_eq_true a0
  exact xe (.r [8,9,10,11,12,13,14,15] 15) (.string ⟨#[]⟩) ⟨rfl,hB⟩
 have a0:=of_decide_eq_false a0
 refine xx (.e [8,9] 10) _ 1 0 1 (Ints.elem (l:=[n]) hn (k:=0) (by simp)).1 ?_
 refine xl (.e [] 11) ((Ints.elem (l:=[n]) (hn.below hB) (k:=0) (by simp)).2) ?_
 refine xb (.e [12] 13) 2 a1 ?_
 refine xk (.r [14,15] 2) (show(decide (n>(14399:Int)):Bool)=true from decide_eq_true (by omega)) ?_
 exact xe 12 (.string ⟨#[]⟩) ⟨rfl,hB⟩
theorem Rt(gl:Nat)(s:Bl)(w:World)(hl:Blk w gl [V0 4,V0 1,V0 14399] 268)(hs:s.length≤1000)(h4:s.length≠4) :
 C0 89 #[.slice (S1 gl) 1 1,.string ⟨s.toArray⟩] w (Yy (fun w' r=>∃ p c,r=.tuple #[.slice p 1 c,V0 7]∧w'.ownsRow w.heap.size 3 1 (.slice p 1 c) 1 [V0 0]) w):=by
 refine zin 54 Tryz.func89 ?_
 refine xu 25 2 ?_
 refine xlv 14 hl.rp ?_
 refine xa 0 [V0 0,V0 0,V0 0] 268 fun b1 W1 n1=>?_
 have a4:=n1.ne hl
 refine xsv 0 n1.blk [V0 4,V0 1,V0 14399] fun W2 u2 k2=>?_
 have g1:=n1.ge (B4 w)
 refine xb 6 0 k2 ?_
 refine xbs 0 1 [V0 4] 3 fun b3 W3 n3=>?_
 have o4:=World.ownsRow_nil W3 w.heap.size 3 1
 have hB:=bln (u2.below n1.below g1) n3.below
 refine xbi 0 fun _ _ _ _ zJ zQ zo zx zy zK=>Zy (m:=1) (news:=[V0 4]) (V0 0) 1 8 (1) ([Value.int .i64 4]) zo Tryz.underlying35 (by kernel_rfl) rfl (by decide) zx o4 zy (n3.blk.sl 1 1 (by decide) (by decide)) rfl (by simp[Value.oneCell']) (by unfold maxLen;omega) (by omega) hB.size (by rfl) (by rfl) fun a8 a7 W5 o5 a5 a6=>?_
 refine zK _ _ ?_
 have a1:=(k2.below n3.below).grown a5 o4 (by decide)
 refine xb 6 0 a1 ?_
 refine xk 31 (show(((s.length:Int) != (4:Int)):Bool)=true from bne_iff_ne.2 (by omega)) ?_
 refine xmk 4 fun _ _ _ _ zJ zQ zo zx zy zK=>Ke 1 (V0 0) 1 8 [Value.int .i64 0] zo zx zy Tryz.underlying35 (by kernel_rfl) rfl (by omega) (by omega) (rfl) fun b6 W6 n6=>?_
 have a0:=hB.trans a6
 have g6:=n6.ge a0
 have a3:=Zr o5 n6
 refine zK _ _ ?_
 have a2:=bln a0 n6.below
 have o6:=Zz (size:=1) (n:=1) n6.blk g6 (rfl) (by unfold maxLen;omega)
 exact xe 6 (.tuple #[.slice (S1 b6) 1 1,V0 7]) ⟨_,rfl,a2,_,_,rfl,o6⟩
theorem Il(gl:Nat)(s:Bl)(w:World)(hl:Blk w gl [V0 4,V0 1,V0 14399] 268)(hs:s.length≤1000)(h4:s.length=4)(h1:1≤Zh s 0 4)(h2:Zh s 0 4≤14399) :
 C0 89 #[.slice (S1 gl) 1 1,.string ⟨s.toArray⟩] w (Yy (fun w' r=>∃ p c,r=.tuple #[.slice p 1 c,V0 0]∧w'.ownsRow w.heap.size 3 1 (.slice p 1 c) 1 [V0 (↑(Zh s 0 4):Int)]) w):=by
 refine zin 54 Tryz.func89 ?_
 refine xu 25 2 ?_
 refine xlv 14 hl.rp ?_
 refine xa 0 [V0 0,V0 0,V0 0] 268 fun b1 W1 n1=>?_
 have a1:=n1.ne hl
 refine xsv 0 n1.blk [V0 4,V0 1,V0 14399] fun W2 u2 k2=>?_
 have g1:=n1.ge (B4 w)
 refine xb 6 0 k2 ?_
 refine xbs 0 1 [V0 4] 3 fun b3 W3 n3=>?_
 have o4:=World.ownsRow_nil W3 w.heap.size 3 1
 have hB:=bln (u2.below n1.below g1) n3.below
 refine xbi 0 fun _ _ _ _ zJ zQ zo zx zy zK=>Zy (m:=1) (news:=[V0 4]) (V0 0) 1 8 (1) ([Value.int .i64 4]) zo Tryz.underlying35 (by kernel_rfl) rfl (by decide) zx o4 zy (n3.blk.sl 1 1 (by decide) (by decide)) rfl (by simp[Value.oneCell']) (by unfold maxLen;omega) (by omega) hB.size (by rfl) (by rfl) fun b2 b4 W5 o5 a8 a9=>?_
 refine zK _ _ ?_
 have a6:=(k2.below n3.below).grown a8 o4 (by decide)
 refine xb 6 0 a6 ?_
 refine xk 31 (show(((s.length:Int) != (4:Int)):Bool)=false from by rw[h4];rfl) ?_
 refine xcf 5 fun _ _ _ zJ zQ zo zx zK=>Ue s zo zx Tryz.underlying9 Tryz.underlying22 Tryz.underlying5 (by omega) ?_
 intro bz cz W6 a2 b6
 refine zK _ _ ?_
 have a3:=Zb o5 a2
 refine xc 1 (args:=#[.slice (S1 bz) s.length cz,.slice b2 1 b4]) (Cg (S1 bz) s.length cz s b2 b4 1 [4] [Zh s 0 4] _ rfl rfl rfl (by decide) (by simp;omega) (by omega) (by decide) b6 (Ze a3) (fun i hi=>by obtain rfl:i=0:=(by simpa using hi);have:=Yf s 0 4 (by decide);simp[Jk];omega)) ?_
 rintro _ W7 ⟨_,rfl,b5,p5,c5,rfl,h5⟩
 have b7:=(bln (hB.trans a9) a2).size
 have a7:=((((u2.blk (hl.below n1.below) (Ne.symm (Ne.symm a1))).below n3.below).grown a8 o4 (by decide)).below a2).below b5
 have a0:=Zf h5 b7
 refine xr 15 (args:=#[.slice (S1 gl) 1 1,.slice p5 1 c5]) (Zhm gl p5 c5 (↑(Zh s 0 4):Int) _ a7 (Ze a0) (by omega) (by omega)) fun W8 b0=>?_
 refine xk 4 (show(((⟨(leB (↑(Zh s 0 4):Int) 4).toArray⟩:ByteArray).toList==(⟨#[]⟩:ByteArray).toList):Bool)=false from four_ne _) ?_
 have a4:=bln (bln (bln (hB.trans a9) a2) b5) b0
 have a5:=Zb a0 b0
 exact xe 10 (.tuple #[.slice p5 1 c5,V0 0]) ⟨_,rfl,a4,_,_,rfl,a5⟩
theorem Rn(gl:Nat)(s:Bl)(w:World)(hl:Blk w gl [V0 4,V0 1,V0 14399] 268)(hs:s.length≤1000)(h4:s.length=4)(h1:¬ (1≤(Zh s 0 4:Int)∧(Zh s 0 4:Int)≤14399)) :
 C0 89 #[.slice (S1 gl) 1 1,.string ⟨s.toArray⟩] w (Yy (fun w' r=>∃ p c,r=.tuple #[.slice p 1 c,V0 2]∧w'.ownsRow w.heap.size 3 1 (.slice p 1 c) 1 [V0 0]) w):=by
 refine zin 54 Tryz.func89 ?_
 refine xu 25 2 ?_
 refine xlv 14 hl.rp ?_
 refine xa 0 [V0 0,V0 0,V0 0] 268 fun b1 W1 n1=>?_
 have a2:=n1.ne hl
 refine xsv 0 n1.blk [V0 4,V0 1,V0 14399] fun W2 u2 k2=>?_
 have g1:=n1.ge (B4 w)
 refine xb 6 0 k2 ?_
 refine xbs 0 1 [V0 4] 3 fun b3 W3 n3=>?_
 have o4:=World.ownsRow_nil W3 w.heap.size 3 1
 have hB:=bln (u2.below n1.below g1) n3.below
 refine xbi 0 fun _ _ _ _ zJ zQ zo zx zy zK=>Zy (m:=1) (news:=[V0 4]) (V0 0) 1 8 (1) ([Value.int .i64 4]) zo Tryz.underlying35 (by kernel_rfl) rfl (by decide) zx o4 zy (n3.blk.sl 1 1 (by decide) (by decide)) rfl (by simp[Value.oneCell']) (by unfold maxLen;omega) (by omega) hB.size (by rfl) (by rfl) fun b6 b8 W5 o5 b5 b7=>?_
 refine zK _ _ ?_
 have a5:=(k2.below n3.below).grown b5 o4 (by decide)
 refine xb 6 0 a5 ?_
 refine xk 31 (show(((s.length:Int) != (4:Int)):Bool)=false from by rw[h4];rfl) ?_
 refine xcf 5 fun _ _ _ zJ zQ zo zx zK=>Ue s zo zx Tryz.underlying9 Tryz.underlying22 Tryz.underlying5 (by omega) ?_
 intro bz cz W6 a4 c1
 refine zK _ _ ?_
 have a0:=Zb o5 a4
 refine xc 1 (args:=#[.slice (S1 bz) s.length cz,.slice b6 1 b8]) (Cg (S1 bz) s.length cz s b6 b8 1 [4] [Zh s 0 4] _ rfl rfl rfl (by decide) (by simp;omega) (by omega) (by decide) c1 (Ze a0) (fun i hi=>by obtain rfl:i=0:=(by simpa using hi);have:=Yf s 0 4 (by decide);simp[Jk];omega)) ?_
 rintro _ W7 ⟨_,rfl,b0,p5,c5,rfl,h5⟩
 have c2:=(bln (hB.trans b7) a4).size
 have b2:=((((u2.blk (hl.below n1.below) (Ne.symm (Ne.symm a2))).below n3.below).grown b5 o4 (by decide)).below a4).below b0
 have a3:=Zf h5 c2
 refine xr 15 (args:=#[.slice (S1 gl) 1 1,.slice p5 1 c5]) (Zgc gl p5 c5 (↑(Zh s 0 4):Int) _ b2 (Ze a3) (by omega)) fun W8 a7=>?_
 refine xmk 9 fun _ _ _ _ zJ zQ zo zx zy zK=>Ke 1 (V0 0) 1 8 [Value.int .i64 0] zo zx zy Tryz.underlying35 (by kernel_rfl) rfl (by omega) (by omega) (rfl) fun b9 W9 n9=>?_
 have a1:=bln (bln (bln (hB.trans b7) a4) b0) a7
 have g9:=n9.ge a1
 have a6:=Zb (Zb a0 b0) a7
 have b4:=Zr a6 n9
 have a8:=Zb a3 a7
 have c0:=Zr a8 n9
 refine zK _ _ ?_
 have a9:=bln a1 n9.below
 have o9:=Zz (size:=1) (n:=1) n9.blk g9 (rfl) (by unfold maxLen;omega)
 exact xe 6 (.tuple #[.slice (S1 b9) 1 1,V0 2]) ⟨_,rfl,a9,_,_,rfl,o9⟩
theorem Zdl(gl:Nat)(s:Bl)(w:World)(hl:Blk w gl [V0 4,V0 1,V0 14399] 268)(hs:s.length≤1000):C0 89 #[.slice (S1 gl) 1 1,.string ⟨s.toArray⟩] w (Yy (fun w' r=>∃ p c,r=.tuple #[.slice p 1 c,V0 (Nb s)]∧w'.ownsRow w.heap.size 3 1 (.slice p 1 c) 1 [V0 (Mg s:Int)]) w):=by
 by_cases h4:s.length=4
 ·by_cases h1:1≤Zh s 0 4∧Zh s 0 4≤14399
  ·have he:Nb s=0:=by unfold Nb;rw[if_pos h4,if_pos h1]
   rw[he,Mg,if_pos he]
   exact Il gl s w hl hs h4 h1.1 h1.2
  ·have he:Nb s=2:=by unfold Nb;rw[if_pos h4,if_neg h1]
   rw[he,Mg,if_neg (by rw[he];decide)]
   exact Rn gl s w hl hs h4 (by omega)
 ·have he:Nb s=7:=by unfold Nb;rw[if_neg h4]
  rw[he,Mg,if_neg (by rw[he];decide)]
  exact Rt gl s w hl hs h4
theorem Nl(s:Bl)(w:World)(hs:s.length≤1000) :
 C0 49 #[.string ⟨s.toArray⟩] w (Ret (.tuple #[V0 (Mg s:Int),V0 (Nb s)]) w):=by
 refine zin 16 Tryz.func49 ?_
 refine xc 8 (args:=#[]) (Zcd _) ?_
 rintro _ W1 ⟨_,rfl,a1,gl,rfl,gg,kl⟩
 refine xc 1 (args:=#[.slice (S1 gl) 1 1,.string ⟨s.toArray⟩]) (Zdl gl s _ kl hs) ?_
 rintro _ W2 ⟨_,rfl,a2,p5,c5,rfl,h5⟩
 have a0:=Zf h5 a1.size
 refine xx 10 _ 1 0 1 (Ints.elem (l:=[(Mg s:Int)]) (Ze a0) (k:=0) (by simp)).1 ?_
 refine xl 0 ((Ints.elem (l:=[(Mg s:Int)]) (Ze a0) (k:=0) (by simp)).2) ?_
 have hB:=bln a1 a2
 exact xe 6 (.tuple #[V0 (↑(Mg s):Int),V0 (Nb s)]) ⟨rfl,hB⟩
abbrev Pc:=Nat×Int×Int
def Zcn(p:Pc):List Value:=[V0 (p.1:Int),V0 p.2.1,V0 p.2.2]
theorem Gr(p:Pc):(Zcn p).length=3:=rfl
def Xz:Pc:=(4,0,0)
def Jt(ps:List Pc):Prop:=ps.length≤1000∧∀ i,i<ps.length→((ps.getD i Xz).1=4∨(ps.getD i Xz).1=8)∧0≤(ps.getD i Xz).2.1∧(ps.getD i Xz).2.2<9223372036854775808∧((ps.getD i Xz).1=4→(ps.getD i Xz).2.2<4294967296)
def inP (p:Pc)(n:Int):Bool:=decide (p.2.1≤n∧n≤p.2.2)
def Wn(ps:List Pc)(N:List Int)(k:Nat):Bool:=(List.range k).all fun i=>inP (ps.getD i Xz) (N.getD i 0)
theorem Zg9(ps:List Pc)(N:List Int)(k:Nat):Wn ps N (k+1)=(Wn ps N k&&inP (ps.getD k Xz) (N.getD k 0)):=by simp[Wn,List.range_succ]
theorem Tq{ps:List Pc}{N:List Int}{i k:Nat}(hi:i<k)(h:inP (ps.getD i Xz) (N.getD i 0)=false):Wn ps N k=false:=by
 unfold Wn
 rw[List.all_eq_false]
 exact⟨i,List.mem_range.2 hi,by rw[h];decide⟩
def Ze6(ps:List Pc)(N:List Int)(k:Nat):Bl:=(List.range k).flatMap fun i=>leB (N.getD i 0) (ps.getD i Xz).1
theorem Fb(ps:List Pc)(N:List Int)(k:Nat):Ze6 ps N (k+1)=Ze6 ps N k++leB (N.getD k 0) (ps.getD k Xz).1:=by simp[Ze6,List.range_succ]
def Uj(ps:List Pc)(k:Nat):List Nat:=(List.range k).map fun i=>(ps.getD i Xz).1
theorem Km(ps:List Pc)(k:Nat):Uj ps (k+1)=Uj ps k++[(ps.getD k Xz).1]:=by simp[Uj,List.range_succ]
theorem Ln(ps:List Pc)(k:Nat):(Uj ps k).length=k:=by simp[Uj]
theorem wids_get(ps:List Pc){k i:Nat}(h:i<k):(Uj ps k).getD i 0=(ps.getD i Xz).1:=by simp[Uj,List.getD,List.getElem?_range h]
theorem Dq(ps:List Pc)(N:List Int)(k:Nat):(Ze6 ps N k).length=(Uj ps k).sum:=by
 induction k with
 | zero=>rfl
 | succ k ih=>rw[Fb,Km,List.length_append,Zg,ih];simp
theorem Pack_48(g w:Nat)(n:Int)(W:World)(hw:w=4∨w=8)(h0:0≤n)(hb:w=4→n<4294967296)(hk:Blk W g [V0 (w:Int),V0 n] 235):C0 131 #[.slice (S1 g) 1 1] W (Yy (fun w' r=>∃ p c,r=.tuple #[.slice p w c,V0 0]∧w'.ownsRow W.heap.size 5 1 (.slice p w c) w ((leB n w).map bv)) W):=by
 rcases hw with rfl|rfl
 ·exact Cn g n h0 (hb rfl) W hk
 ·exact Pack_8 g n h0 W hk
def ValPutP(ps:List Pc)(N:List Int)(w:World)(e:Ending)(w':World):Prop :=
 (Wn ps N ps.length=false∧e=.returned (.string ⟨#[]⟩)∧B3 w w')∨(Wn ps N ps.length=true∧e=.returned (.string ⟨(Ze6 ps N ps.length).toArray⟩)∧B3 w w')
theorem Zgu(ps:List Pc)(N:List Int)(gl gn:O0)(cl cn:Nat)(w:World)(hps:Jt ps)(hNl:N.length=ps.length)(hP:Sts Zcn w (.slice gl ps.length cl) ps)(hN:Sl w (.slice gn ps.length cn) ps.length (N.map V0)) :
 C0 157 #[.slice gl ps.length cl,.slice gn ps.length cn] w (ValPutP ps N w):=by
 have c0:=hps.1
 refine zin 51 Tryz.func157 ?_
 have hB:=Below.refl w.heap.size w
 refine zl 19 51 (fun zm b8 V=>∃ (i m:Nat) (q:O0) (d:Nat),b8=[(1,.slice gn ps.length cn),(5,.slice q m d),(10,.slice gl ps.length cl),(11,V0 (ps.length:Int)),(12,V0 (i:Int))]∧zm=ps.length-((i:Int)).toNat∧B3 w V∧V.ownsRow w.heap.size 5 1 (.slice q m d) m ((Ze6 ps N i).map bv)∧i≤ps.length∧m=(Uj ps i).sum∧m≤i*8∧Wn ps N i=true) ⟨0,0,_,_,rfl,rfl,hB,World.ownsRow_nil _ _ _ _,Nat.zero_le _,rfl,Nat.zero_le _,rfl⟩ ?_
 rintro _ _ W1 ⟨i,m,q,d,rfl,rfl,a1,ho,hi,hm,c1,a4⟩ J1 b2 r1
 refine xid 6 ((i:Int)<(ps.length:Int)) (fun b4=>?_) (fun b4=>?_)
 ·refine xx 7 _ ps.length i 3 (Sts.cell hP Gr Xz (k:=i) (i:=0) (by omega) rfl).1 ?_
  refine xlv 0 (Sts.rp (k:=i) (hP.below a1) Gr Xz (by omega) (by decide)) ?_
  refine xa 0 [V0 0,V0 0,V0 0] 268 fun b3 W3 n3=>?_
  have g3:=n3.ge a1
  refine xsv 1 n3.blk [V0 (↑(ps.getD i Xz).1:Int),V0 ((ps.getD i Xz).2.1),V0 ((ps.getD i Xz).2.2)] fun W4 u4 k4=>?_
  refine xd 4 .z ?_
  refine xx (.e [0,1] 2) _ ps.length i 1 (IntsN.elem hN hNl (k:=i) (by omega)).1 ?_
  have a0:=bln (u4.below (bln a1 n3.below) g3) (Za W4)
  refine xl (.e [] 3) ((IntsN.elem (hN.below a0) hNl (k:=i) (by omega)).2) ?_
  have a3:=k4.below (Za W4)
  refine xb (.e [4] 5) 1 a3 ?_
  refine xg (.b [6,7]) [23,24] (decide ((N.getD i 0)<(ps.getD i Xz).2.1)) (fun a6=>?_) (fun a6=>?_)
  ·have a6:=of_decide_eq_true a6
   exact xe (.r [8,9,10,11,12,13,14,15] 15) (.string ⟨#[]⟩) (.inl ⟨Tq (i:=i) (by omega) (decide_eq_false (by omega)),rfl,a0⟩)
  have a6:=of_decide_eq_false a6
  refine xx (.e [8,9] 10) _ ps.length i 1 (IntsN.elem hN hNl (k:=i) (by omega)).1 ?_
  refine xl (.e [] 11) ((IntsN.elem (hN.below a0) hNl (k:=i) (by omega)).2) ?_
  refine xb (.e [12] 13) 2 a3 ?_
  refine xid (.r [14,15] 2) ((N.getD i 0)>(ps.getD i Xz).2.2) (fun b5=>?_) (fun b5=>?_)
  ·exact xe 12 (.string ⟨#[]⟩) (.inl ⟨Tq (i:=i) (by omega) (decide_eq_false (by omega)),rfl,a0⟩)
  refine xd 3 .z ?_
  have a9:=a3.below (Za W4.drew)
  refine xb (.e [0] 1) 0 a9 ?_
  refine xx (.e [2,3] 4) _ ps.length i 1 (IntsN.elem hN hNl (k:=i) (by omega)).1 ?_
  have a2:=bln a0 (Za W4.drew)
  refine xl (.e [] 5) ((IntsN.elem (hN.below a2) hNl (k:=i) (by omega)).2) ?_
  refine xbs (.o [6] 7) 1 [V0 (↑(ps.getD i Xz).1:Int),V0 (N.getD i 0)] 235 fun b7 W7 n7=>?_
  have g7:=n7.ge a2
  refine yc (.o [] 8) (args:=#[.slice (S1 b7) 1 1]) .z (Pack_48 b7 (ps.getD i Xz).1 (N.getD i 0) _ (hps.2 i (by omega)).1 (by have:=(hps.2 i (by omega)).2.1;omega) (fun q=>by have:=(hps.2 i (by omega)).2.2.2 q;omega) n7.blk) ?_
  rintro _ W8 ⟨_,rfl,b0,p2,c2,rfl,h2⟩
  have b6:=(bln a2 n7.below).size
  refine⟨b0,?_⟩
  have a7:=Zb (Zb (Zb (Zb (u4.own2 (Zb ho n3.below) n3.blk (by decide)) (Za W4)) (Za W4.drew)) n7.below) b0
  have b1:=Zf h2 b6
  have a5:=bln (bln a2 n7.below) b0
  refine xbi (.r [9,10,11,12,13] 5) fun _ _ _ _ zJ zQ zo zx zy zK=>Zy (m:=(ps.getD i Xz).1) (news:=(leB (N.getD i 0) (ps.getD i Xz).1).map bv) (.int .u8 0) 1 1 ((m+(ps.getD i Xz).1)) (((Ze6 ps N (i+1)).map bv)) zo Tryz.underlying22 (by kernel_rfl) rfl (by decide) zx a7 zy (Ze b1) (by simp[Zg]) (Yt _) (by unfold maxLen;have:=(hps.2 i (by omega)).1;omega) (by have:=(hps.2 i (by omega)).1;omega) a5.size (by rfl) (by rw[Fb,List.map_append]) fun c3 c4 W9 o9 c5 b9=>?_
  refine zK _ _ ?_
  refine xwm 5 ((i:Int)+1) (↑(i+1):Int) ?_
  have a8:=a5.trans b9
  exact ze 2 (b2 _ _ _ ⟨i+1,_,_,_,rfl,rfl,a8,o9,by omega,by rw[Km,hm];simp,by have:=(hps.2 i (by omega)).1;omega,by rw[Zg9,a4];exact decide_eq_true ⟨by omega,by omega⟩⟩ (by omega))
 refine xcv0 8 (fun _ _ _ zo zx=>Vm zo zx (Yi (Ze ho) (by rw[Dq];exact hm.symm)) (by rw[Dq];exact hm.symm) Tryz.underlying22 Tryz.underlying5 Tryz.underlying9) ?_
 refine xe 4 (.string ⟨(Ze6 ps N i).toArray⟩) ?_
 obtain rfl:i=ps.length:=by omega
 exact .inr ⟨a4,rfl,a1⟩
def Ez(ps:List Pc)(s:Bl):List Nat:=Jk s 0 (Uj ps ps.length)
theorem Zap(ps:List Pc)(s:Bl):(Ez ps s).length=ps.length:=by rw[Ez,Ab,Ln]
def Nf(ps:List Pc)(s:Bl):Bool:=Wn ps ((Ez ps s).map fun n:Nat=>(n:Int)) ps.length
def Qi(ps:List Pc)(s:Bl):Int:=if s.length=(Uj ps ps.length).sum then(if Nf ps s then 0 else 2) else 7
def Qf(ps:List Pc)(s:Bl):List Nat:=if Qi ps s=0 then Ez ps s else List.replicate ps.length 0
theorem Gc(ps:List Pc)(s:Bl):(Qf ps s).length=ps.length:=by
 unfold Qf;split
 ·exact Zap ps s
 ·simp
theorem readOk_lt{ps:List Pc}{s:Bl}(hp:Jt ps)(h:Nf ps s=true):∀ i,i<(Uj ps ps.length).length→(Jk s 0 (Uj ps ps.length)).getD i 0<9223372036854775808:=by
 intro i hi
 rw[Ln] at hi
 unfold Nf Wn at h
 rw[List.all_eq_true] at h
 have h1:=of_decide_eq_true (h i (List.mem_range.2 hi))
 have h2:=(hp.2 i hi).2.2.1
 rw[show((Ez ps s).map fun n:Nat=>(n:Int)).getD i 0=(((Ez ps s).getD i 0:Nat):Int) by simp[List.getD,show i<(Ez ps s).length by rw[Zap];exact hi]] at h1
 change (Ez ps s).getD i 0<_
 omega
theorem map_nv(l:List Nat):l.map nv=(l.map fun n:Nat=>(n:Int)).map V0:=by simp[nv]
theorem putL_ne{ps:List Pc}{N:List Int}(hp:Jt ps)(h0:0<ps.length):((⟨(Ze6 ps N ps.length).toArray⟩:ByteArray).toList==(⟨#[]⟩:ByteArray).toList)=false:=by
 rw[show(⟨#[]⟩:ByteArray)=⟨([]:Bl).toArray⟩ from rfl,Ce]
 apply beq_false_of_ne
 intro q
 have h1:=congrArg List.length q
 obtain⟨k,hk⟩:∃ k,ps.length=k+1:=⟨ps.length-1,by omega⟩
 rw[hk,Fb,List.length_append,Zg] at h1
 rw[List.length_nil] at h1
 have:=(hp.2 k (by omega)).1
 omega
theorem Ir(n:Nat):Hs (Value.int .i64 0).cells.toList n=(List.replicate n 0).map nv:=by
 rw[show(Value.int .i64 0).cells.toList=[Value.int .i64 0] from rfl,Hs,List.map_replicate]
 induction n with
 | zero=>rfl
 | succ n ih=>rw[List.replicate_succ,List.flatten_cons,ih,List.replicate_succ];rfl
theorem Ei(ps:List Pc)(s:Bl)(gl:O0)(cl:Nat)(w:World)(hps:Jt ps)(h0:0<ps.length)(hs:s.length≤100000)(hP:Sts Zcn w (.slice gl ps.length cl) ps)(hsl:s.length≠(Uj ps ps.length).sum) :
 C0 89 #[.slice gl ps.length cl,.string ⟨s.toArray⟩] w (Yy (fun w' r=>∃ p c,r=.tuple #[.slice p ps.length c,V0 (Qi ps s)]∧w'.ownsRow w.heap.size 3 1 (.slice p ps.length c) ps.length ((Qf ps s).map nv)) w):=by
 have b9:=hps.1
 refine zin 54 Tryz.func89 ?_
 have hB:=Below.refl w.heap.size w
 refine zl 25 54 (fun zm b8 V=>∃ (i:Nat) (q:O0) (d:Nat),b8=[(0,.slice gl ps.length cl),(1,.string ⟨s.toArray⟩),(4,S0),(5,V0 0),(6,.slice q i d),(7,V0 (↑(Uj ps i).sum:Int)),(12,.slice gl ps.length cl),(13,V0 (ps.length:Int)),(14,V0 (i:Int))]∧zm=ps.length-((i:Int)).toNat∧B3 w V∧V.ownsRow w.heap.size 3 1 (.slice q i d) i ((Uj ps i).map nv)∧i≤ps.length∧(Uj ps i).sum≤i*8) ⟨0,_,_,rfl,rfl,hB,World.ownsRow_nil _ _ _ _,Nat.zero_le _,Nat.zero_le _⟩ ?_
 rintro _ _ W1 ⟨i,q,d,rfl,rfl,a0,ho,hi,c0⟩ J1 b0 r1
 have b4:i<ps.length→(ps.getD i Xz).1≤8:=fun q=>by have:=(hps.2 i q).1;omega
 refine xid 6 ((i:Int)<(ps.length:Int)) (fun b2=>?_) (fun b2=>?_)
 ·refine xx 6 _ ps.length i 3 (Sts.cell hP Gr Xz (k:=i) (i:=0) (by omega) rfl).1 ?_
  refine xlv 0 (Sts.rp (k:=i) (hP.below a0) Gr Xz (by omega) (by decide)) ?_
  refine xa 0 [V0 0,V0 0,V0 0] 268 fun b3 W3 n3=>?_
  have g3:=n3.ge a0
  refine xsv 0 n3.blk [V0 (↑(ps.getD i Xz).1:Int),V0 ((ps.getD i Xz).2.1),V0 ((ps.getD i Xz).2.2)] fun W4 u4 k4=>?_
  refine xb 6 0 k4 ?_
  refine xbs 0 1 [V0 (↑(ps.getD i Xz).1:Int)] 3 fun b5 W5 n5=>?_
  have a3:=u4.below (bln a0 n3.below) g3
  have g5:=n5.ge a3
  have a1:=u4.own2 (Zb ho n3.below) n3.blk (by decide)
  have a9:=Zr a1 n5
  have a2:=Zb a1 n5.below
  have a4:=bln a3 n5.below
  refine xbi 0 fun _ _ _ _ zJ zQ zo zx zy zK=>Zy (m:=1) (news:=[V0 (↑(ps.getD i Xz).1:Int)]) (V0 0) 1 8 (i+1) (((Uj ps (i+1)).map nv)) zo Tryz.underlying35 (by kernel_rfl) rfl (by decide) zx a2 zy (n5.blk.sl 1 1 (by decide) (by decide)) rfl (by simp[Value.oneCell']) (by unfold maxLen;omega) (by omega) a4.size (by rfl) (by rw[Km,List.map_append];rfl) fun c1 c2 W6 o6 b6 b1=>?_
  refine zK _ _ ?_
  have a5:=(k4.below n5.below).grown b6 a2 (by decide)
  refine xb 6 0 a5 ?_
  refine xwm 0 ((↑(Uj ps i).sum:Int)+(↑(ps.getD i Xz).1:Int)) (↑((Uj ps i).sum+((ps.getD i Xz).1)):Int) ?_
  refine xwm 5 ((i:Int)+1) (↑(i+1):Int) ?_
  refine xv1 2 7 (show(V0 (↑((Uj ps i).sum+((ps.getD i Xz).1)):Int):Value)=V0 (↑(Uj ps (i+1)).sum:Int) from by rw[Km];simp) ?_
  have a6:=a4.trans b1
  exact ze 0 (b0 _ _ _ ⟨i+1,_,_,rfl,rfl,a6,o6,by omega,by rw[Km,List.sum_append,List.sum_cons,List.sum_nil];have:=b4 (by omega);omega⟩ (by omega))
 refine xk 14 (show(((s.length:Int) != (↑(Uj ps i).sum:Int)):Bool)=true from bne_iff_ne.2 (by rw[show i=ps.length by omega];omega)) ?_
 refine xmk 4 fun _ _ _ _ zJ zQ zo zx zy zK=>Ke ps.length (V0 0) 1 8 ((List.replicate ps.length 0).map nv) zo zx zy Tryz.underlying35 (by kernel_rfl) rfl (by omega) (by omega) (Ir _) fun b7 W7 n7=>?_
 have g7:=n7.ge a0
 have a8:=Zr ho n7
 refine zK _ _ ?_
 have a7:=bln a0 n7.below
 have o7:=Zz (size:=1) (n:=ps.length) n7.blk g7 (by simp) (by unfold maxLen;omega)
 refine xe 6 (.tuple #[.slice (S1 b7) ps.length ps.length,V0 7]) ?_
 have he:Qi ps s=7:=if_neg hsl
 exact⟨_,rfl,a7,_,_,by rw[he],by rw[Qf,if_neg (by rw[he];decide)];exact o7⟩
def UnpP(s:Bl)(ws:List Nat)(n:Nat)(W:World)(e:Ending)(w':World):Prop :=
 ((¬ ∀ i,i<ws.length→(Jk s 0 ws).getD i 0<9223372036854775808)∧e=.returned (.tuple #[S0,V0 2])∧B3 W w') ∨
 ((∀ i,i<ws.length→(Jk s 0 ws).getD i 0<9223372036854775808)∧∃ p c,e=.returned (.tuple #[.slice p n c,V0 0])∧B3 W w'∧w'.ownsRow W.heap.size 3 1 (.slice p n c) n ((Jk s 0 ws).map nv))
theorem Unpack_P(a:O0)(n c m:Nat)(s:Bl)(aw:O0)(cw:Nat)(ws:List Nat)(W:World)(hn:s.length=n)(hm:ws.length=m)(hk:∀ i,i<ws.length→ws.getD i 0=1∨ws.getD i 0=2∨ws.getD i 0=4∨ws.getD i 0=8)(hs:ws.sum≤n)(hl:n≤100000000)(hw:m≤1000)(h:Bys W (.slice a n c) s)(hws:Sl W (.slice aw m cw) m (ws.map nv)) :
 C0 156 #[.slice a n c,.slice aw m cw] W (UnpP s ws m W):=by
 subst hn hm
 by_cases hq:∀ i,i<ws.length→(Jk s 0 ws).getD i 0<9223372036854775808
 ·refine(Ox a c s aw cw ws W hk hs hl hw h hws hq).mono ?_
  rintro e V ⟨_,rfl,hb,p,c2,rfl,ho⟩
  exact .inr ⟨hq,p,c2,rfl,hb,ho⟩
 ·refine(Unpack_bad a c s aw cw ws W hk hs hl hw h hws hq).mono ?_
  rintro e V ⟨rfl,hb⟩
  exact .inl ⟨hq,rfl,hb⟩
theorem rawsI_len(ps:List Pc)(s:Bl)(k:Nat):((Jk s 0 (Uj ps k)).map fun n:Nat=>(n:Int)).length=k:=by rw[List.length_map,Ab,Ln]
theorem Fp(ps:List Pc)(N:List Int)(gl gn:O0)(cl cn n:Nat)(w:World)(hps:Jt ps)(hn:n=ps.length)(hNl:N.length=n)(hP:Sts Zcn w (.slice gl ps.length cl) ps)(hN:Sl w (.slice gn n cn) n (N.map V0)) :
 C0 157 #[.slice gl ps.length cl,.slice gn n cn] w (fun e w'=>(Wn ps N n=false∧e=.returned (.string ⟨#[]⟩)∧B3 w w')∨(Wn ps N n=true∧e=.returned (.string ⟨(Ze6 ps N ps.length).toArray⟩)∧B3 w w')):=by
 subst hn;exact Zgu ps N gl gn cl cn w hps hNl hP hN
theorem Rq(ps:List Pc)(s:Bl)(gl:O0)(cl:Nat)(w:World)(hps:Jt ps)(h0:0<ps.length)(hs:s.length≤100000)(hP:Sts Zcn w (.slice gl ps.length cl) ps)(hsl:s.length=(Uj ps ps.length).sum) :
 C0 89 #[.slice gl ps.length cl,.string ⟨s.toArray⟩] w (Yy (fun w' r=>∃ p c,r=.tuple #[.slice p ps.length c,V0 (Qi ps s)]∧w'.ownsRow w.heap.size 3 1 (.slice p ps.length c) ps.length ((Qf ps s).map nv)) w):=by
 have f0:=hps.1
 refine zin 54 Tryz.func89 ?_
 have hB:=Below.refl w.heap.size w
 refine zl 25 54 (fun zm e7 V=>∃ (i:Nat) (q:O0) (d:Nat),e7=[(0,.slice gl ps.length cl),(1,.string ⟨s.toArray⟩),(4,S0),(5,V0 0),(6,.slice q i d),(7,V0 (↑(Uj ps i).sum:Int)),(12,.slice gl ps.length cl),(13,V0 (ps.length:Int)),(14,V0 (i:Int))]∧zm=ps.length-((i:Int)).toNat∧B3 w V∧V.ownsRow w.heap.size 3 1 (.slice q i d) i ((Uj ps i).map nv)∧i≤ps.length∧(Uj ps i).sum≤i*8) ⟨0,_,_,rfl,rfl,hB,World.ownsRow_nil _ _ _ _,Nat.zero_le _,Nat.zero_le _⟩ ?_
 rintro _ _ W1 ⟨i,q,d,rfl,rfl,a1,ho,hi,f1⟩ J1 d6 r1
 have e5:i<ps.length→(ps.getD i Xz).1≤8:=fun q=>by have:=(hps.2 i q).1;omega
 refine xid 6 ((i:Int)<(ps.length:Int)) (fun d9=>?_) (fun d9=>?_)
 ·refine xx 6 _ ps.length i 3 (Sts.cell hP Gr Xz (k:=i) (i:=0) (by omega) rfl).1 ?_
  refine xlv 0 (Sts.rp (k:=i) (hP.below a1) Gr Xz (by omega) (by decide)) ?_
  refine xa 0 [V0 0,V0 0,V0 0] 268 fun b3 W3 n3=>?_
  have g3:=n3.ge a1
  refine xsv 0 n3.blk [V0 (↑(ps.getD i Xz).1:Int),V0 ((ps.getD i Xz).2.1),V0 ((ps.getD i Xz).2.2)] fun W4 u4 k4=>?_
  refine xb 6 0 k4 ?_
  refine xbs 0 1 [V0 (↑(ps.getD i Xz).1:Int)] 3 fun b5 W5 n5=>?_
  have a9:=u4.below (bln a1 n3.below) g3
  have g5:=n5.ge a9
  have a7:=u4.own2 (Zb ho n3.below) n3.blk (by decide)
  have d5:=Zr a7 n5
  have a8:=Zb a7 n5.below
  have b4:=bln a9 n5.below
  refine xbi 0 fun _ _ _ _ zJ zQ zo zx zy zK=>Zy (m:=1) (news:=[V0 (↑(ps.getD i Xz).1:Int)]) (V0 0) 1 8 (i+1) (((Uj ps (i+1)).map nv)) zo Tryz.underlying35 (by kernel_rfl) rfl (by decide) zx a8 zy (n5.blk.sl 1 1 (by decide) (by decide)) rfl (by simp[Value.oneCell']) (by unfold maxLen;omega) (by omega) b4.size (by rfl) (by rw[Km,List.map_append];rfl) fun f2 f4 W6 o6 e6 d8=>?_
  refine zK _ _ ?_
  have b8:=(k4.below n5.below).grown e6 a8 (by decide)
  refine xb 6 0 b8 ?_
  refine xwm 0 ((↑(Uj ps i).sum:Int)+(↑(ps.getD i Xz).1:Int)) (↑((Uj ps i).sum+((ps.getD i Xz).1)):Int) ?_
  refine xwm 5 ((i:Int)+1) (↑(i+1):Int) ?_
  refine xv1 2 7 (show(V0 (↑((Uj ps i).sum+((ps.getD i Xz).1)):Int):Value)=V0 (↑(Uj ps (i+1)).sum:Int) from by rw[Km];simp) ?_
  have c6:=b4.trans d8
  exact ze 0 (d6 _ _ _ ⟨i+1,_,_,rfl,rfl,c6,o6,by omega,by rw[Km,List.sum_append,List.sum_cons,List.sum_nil];have:=e5 (by omega);omega⟩ (by omega))
 refine xk 14 (show(((s.length:Int) != (↑(Uj ps i).sum:Int)):Bool)=false from by rw[show i=ps.length by omega,hsl];simp) ?_
 refine xcf 5 fun _ _ _ zJ zQ zo zx zK=>Ue s zo zx Tryz.underlying9 Tryz.underlying22 Tryz.underlying5 (by omega) ?_
 intro bz cz W7 b6 e1
 refine zK _ _ ?_
 have a2:=Zb ho b6
 refine xc 1 (args:=#[.slice (S1 bz) s.length cz,.slice q i d]) (Unpack_P (S1 bz) s.length cz i s q d (Uj ps i) _ rfl (Ln ps i) (fun j hj=>by rw[Ln] at hj;rw[wids_get ps hj];have:=(hps.2 j (by omega)).1;omega) (by rw[show i=ps.length by omega];omega) (by omega) (by omega) e1 (Ze a2)) ?_
 rintro e W8 e8
 rcases e8 with ⟨hq,rfl,b2⟩|⟨hq,p5,c5,rfl,b2,h5⟩
 ·have a5:i=ps.length:=by omega
  have c3:Nf ps s=false:=by rw[←Bool.not_eq_true];intro q;exact hq (by rw[a5];exact readOk_lt hps q)
  refine xmk 25 fun _ _ _ _ zJ zQ zo zx zy zK=>Ke ps.length (V0 0) 1 8 ((List.replicate ps.length 0).map nv) zo zx zy Tryz.underlying35 (by kernel_rfl) rfl (by omega) (by omega) (Ir _) fun b9 W9 n9=>?_
  have b1:=bln (bln a1 b6) b2
  have g9:=n9.ge b1
  have c1:=Zb a2 b2
  have d4:=Zr c1 n9
  refine zK _ _ ?_
  have c7:=bln b1 n9.below
  have o9:=Zz (size:=1) (n:=ps.length) n9.blk g9 (by simp) (by unfold maxLen;omega)
  refine xe 6 (.tuple #[.slice (S1 b9) ps.length ps.length,V0 2]) ?_
  have he:Qi ps s=2:=by unfold Qi;rw[if_pos hsl,if_neg (by rw[c3];decide)]
  exact⟨_,rfl,c7,_,_,by rw[he],by rw[Qf,if_neg (by rw[he];decide)];exact o9⟩
 have e3:=(bln a1 b6).size
 have a5:i=ps.length:=by omega
 have a4:=Zf h5 e3
 have e0:Sl (W8) (.slice p5 i c5) i (((Jk s 0 (Uj ps i)).map fun n:Nat=>(n:Int)).map V0):=by have q:=Ze a4;rw[map_nv] at q;exact q
 have a3:=bln (bln a1 b6) b2
 refine xc 15 (args:=#[.slice gl ps.length cl,.slice p5 i c5]) (Fp ps ((Jk s 0 (Uj ps i)).map fun n:Nat=>(n:Int)) gl p5 cl c5 i _ hps a5 (rawsI_len ps s i) (hP.below a3) e0) ?_
 rintro e e9 c9
 rcases c9 with ⟨c8,rfl,a0⟩|⟨c8,rfl,a0⟩
 ·have c3:Nf ps s=false:=by unfold Nf Ez;rw[←a5];exact c8
  refine xmk 9 fun _ _ _ _ zJ zQ zo zx zy zK=>Ke ps.length (V0 0) 1 8 ((List.replicate ps.length 0).map nv) zo zx zy Tryz.underlying35 (by kernel_rfl) rfl (by omega) (by omega) (Ir _) fun e2 f3 a6=>?_
  have b0:=bln a3 a0
  have d7:=a6.ge b0
  have c4:=Zb (Zb a2 b2) a0
  have c2:=Zr c4 a6
  have d2:=Zb a4 a0
  have c0:=Zr d2 a6
  refine zK _ _ ?_
  have d1:=bln b0 a6.below
  have e4:=Zz (size:=1) (n:=ps.length) a6.blk d7 (by simp) (by unfold maxLen;omega)
  refine xe 6 (.tuple #[.slice (S1 e2) ps.length ps.length,V0 2]) ?_
  have he:Qi ps s=2:=by unfold Qi;rw[if_pos hsl,if_neg (by rw[c3];decide)]
  exact⟨_,rfl,d1,_,_,by rw[he],by rw[Qf,if_neg (by rw[he];decide)];exact e4⟩
 have b7:Nf ps s=true:=by unfold Nf Ez;rw[←a5];exact c8
 refine xk 4 (show(((⟨(Ze6 ps ((Jk s 0 (Uj ps i)).map fun n:Nat=>(n:Int)) ps.length).toArray⟩:ByteArray).toList==(⟨#[]⟩:ByteArray).toList):Bool)=false from putL_ne hps h0) ?_
 have d0:=bln a3 a0
 have d3:=Zb a4 a0
 refine xe 10 (.tuple #[.slice p5 i c5,V0 0]) ?_
 have he:Qi ps s=0:=by unfold Qi;rw[if_pos hsl,if_pos b7]
 subst a5
 exact⟨_,rfl,d0,_,_,by rw[he],by rw[Qf,if_pos he];exact d3⟩
theorem Zb8(ps:List Pc)(s:Bl)(gl:O0)(cl:Nat)(w:World)(hps:Jt ps)(h0:0<ps.length)(hs:s.length≤100000)(hP:Sts Zcn w (.slice gl ps.length cl) ps) :
 C0 89 #[.slice gl ps.length cl,.string ⟨s.toArray⟩] w (Yy (fun w' r=>∃ p c,r=.tuple #[.slice p ps.length c,V0 (Qi ps s)]∧w'.ownsRow w.heap.size 3 1 (.slice p ps.length c) ps.length ((Qf ps s).map nv)) w):=by
 by_cases h:s.length=(Uj ps ps.length).sum
 ·exact Rq ps s gl cl w hps h0 hs hP h
 ·exact Ei ps s gl cl w hps h0 hs hP h
def mapP:List Pc:=[(8,0,1099511627775)]
theorem mapP_ok:Jt mapP:=by
 refine⟨by decide,fun i hi=>?_⟩
 have a0:i<1:=hi
 obtain rfl:i=0:=by omega
 simp[mapP,List.getD]
def detP:List Pc:=[(8,0,16384),(8,0,2147483647),(4,0,16777215),(4,0,16777215)]
theorem detP_ok:Jt detP:=by
 refine⟨by decide,fun i hi=>?_⟩
 have a0:i<4:=hi
 obtain rfl|rfl|rfl|rfl:i=0∨i=1∨i=2∨i=3:=by omega
 all_goals simp[detP,List.getD]
abbrev Mp:=Int×Int×Int
def mapC(m:Mp):List Value:=[V0 m.1,V0 m.2.1,V0 m.2.2]
theorem Pg(m:Mp):(mapC m).length=3:=rfl
abbrev Dv:=(Int×Int×Int×Int)×List Mp
structure MapsOk(data:Int)(M:List Mp):Prop where
 rise:M.Pairwise (fun x y=>x.1<y.1)
 each:∀ m∈M,(0≤m.1∧m.1≤281474976710655)∧(0≤m.2.1∧m.2.1<data)∧0≤m.2.2∧m.2.2≤16777215
theorem MapsOk.nil(data:Int):MapsOk data []:=⟨.nil,fun _ h=>by cases h⟩
structure DevOk(data:Int)(d:Dv):Prop where
 id:0≤d.1.1∧d.1.1≤16777215
 tx:0≤d.1.2.1∧d.1.2.1≤2147483647
 made:0≤d.1.2.2.1∧d.1.2.2.1≤16777215
 snap:0≤d.1.2.2.2∧d.1.2.2.2≤16777215
 maps:MapsOk data d.2
def Up(L:List Dv):Nat:=(L.map fun d=>d.2.length).sum
structure DevsOk(data:Int)(L:List Dv):Prop where
 few:L.length≤4096
 sum:Up L≤16384
 rise:L.Pairwise (fun x y=>x.1.1<y.1.1)
 each:∀ d∈L,DevOk data d
theorem DevsOk.nil(data:Int):DevsOk data []:=⟨by decide,by decide,.nil,fun _ h=>by cases h⟩
def mapN(v:Bl):Nat:=(Qf mapP v).getD 0 0
def mapB(v:Bl):Nat:=mapN v/16777216
def mapT(v:Bl):Nat:=mapN v%16777216
def mapE(data:Int)(v:Bl):Int:=if Qi mapP v≠0 then Qi mapP v else if data≤(mapB v:Int) then 2 else 0
def mpD:Mp:=(0,0,0)
end Go.Proofs.YtceeiinepijokaaGreat
namespace Go.Proofs.YtceeiinepijokaaGreat
set_option maxHeartbeats 8000000
set_option maxRecDepth 100000
open Go.RowKit Go.Extern.Stop Go.Stop Go.Extern
set_option linter.unusedVariables false
attribute [local irreducible] wpList wpAnyH Code.wp Oper.wp Go
section
variable {P:Program} {a:Act}
theorem run_shrU8{o:Oper}{t t2:TypeId}{x y:Operand}{n s:Nat}{j:Int}{kj:IntKind}(ho:o.op=.binOp .shr t x y t2)(hx:a.eval x=.int .u8 (n:Int))(hy:a.eval y=.int kj j)(hj:j=(s:Int))(hs:s≤8)(w:World):(execOp a.eval o).run P w=.ok (.value (.int .u8 ((n/2 ^ s:Nat):Int))) w:=by
 subst hj
 have e:=shift_shr_u8 kj (n:Int) (s:Int) (Int.natCast_nonneg s) (by omega)
 simp only[execOp,ho,hx,hy,eqGuard_shr,binOp_shr,e]
 simp
end
theorem Get_okN(a:O0)(n c k w:Nat)(ki wi:Int)(l:Bl)(W:World)(hn:l.length=n)(hki:ki=(k:Int))(hwi:wi=(w:Int))(hw:w=1∨w=2∨w=4)(hk:k+w≤n)(hl:n≤100000000)(h:Bys W (.slice a n c) l) :
 C0 78 #[.slice a n c,V0 ki,V0 wi] W (Ret (.tuple #[V0 (Zh l k w:Int),V0 0]) W):=by
 subst hn hki hwi;exact Zeb a c k w l W (by omega) hk hl h (by have:=Yf l k w (by omega);omega)
def bitN(l:Bl)(i:Nat):Nat:=(l.getD (4+i/4) 0).toNat/2 ^ (i%4*2)%4
theorem i64_and3{n:Nat}(h:n<9223372036854775808):IntKind.i64.wrap (↑(BitVec.ofInt 64 (n:Int) &&& BitVec.ofInt 64 (3:Int)).toNat:Int)=((n%4:Nat):Int):=by
 rw[show(3:Int)=((3:Nat):Int) from rfl,BitVec.ofInt_natCast,BitVec.ofInt_natCast,BitVec.toNat_and,BitVec.toNat_ofNat,BitVec.toNat_ofNat,Nat.mod_eq_of_lt (by omega),Nat.mod_eq_of_lt (by omega)]
 rw[show n &&& 3=n%4 from Nat.and_two_pow_sub_one_eq_mod n 2]
 exact Ht (by omega)
theorem Lo(n k:Nat)(hn:n<9223372036854775808)(hk:0<k):IntKind.i64.wrap (Int.tdiv (n:Int) (k:Int))=((n/k:Nat):Int):=by
 rw[Int.tdiv_eq_ediv_of_nonneg (Int.natCast_nonneg _),←Int.natCast_ediv]
 exact Ht (Nat.lt_of_le_of_lt (Nat.div_le_self _ _) hn)
theorem Mw(n k:Nat):Int.tmod (n:Int) (k:Int)=((n%k:Nat):Int):=by
 rw[Int.tmod_eq_emod_of_nonneg (Int.natCast_nonneg _),←Int.natCast_emod]
theorem shr_lt(l:Bl)(k s:Nat):(l.getD k 0).toNat/2 ^ s<256:=Nat.lt_of_le_of_lt (Nat.div_le_self _ _) (l.getD k 0).toNat_lt
def Em(l:Bl)(n:Nat):List Nat:=(List.range n).map (bitN l)
theorem Zgz(l:Bl)(n:Nat):Em l (n+1)=Em l n++[bitN l n]:=by simp[Em,List.range_succ]
def Zfr(l:Bl):Prop:=l.length=244∧Zh l 0 4≤960∧∀ i,i<960→Zh l 0 4≤i→bitN l i=0
def BitsP(l:Bl)(w:World)(e:Ending)(w':World):Prop :=
 (¬ Zfr l∧e=.returned (.tuple #[S0,V0 7])∧B3 w w') ∨
 (Zfr l∧∃ p c,e=.returned (.tuple #[.slice p (Zh l 0 4) c,V0 0])∧B3 w w'∧w'.ownsRow w.heap.size 3 1 (.slice p (Zh l 0 4) c) (Zh l 0 4) ((Em l (Zh l 0 4)).map nv))
theorem bits_Read(a:O0)(c:Nat)(l:Bl)(w:World)(hl:l.length≤100000000)(h:Bys w (.slice a l.length c) l) :
 C0 166 #[.slice a l.length c] w (BitsP l w):=by
 refine zin 47 Tryz.func166 ?_
 refine xin 14 (l.length:Int) (244:Int) (fun b1=>?_) (fun b1=>?_)
 ·exact xe 8 (.tuple #[S0,V0 7]) (.inl ⟨fun h=>by have:=h.1;omega,rfl,(B4 w)⟩)
 refine xr 5 (args:=#[.slice a l.length c,V0 0,V0 4]) (Get_okN a l.length c 0 4 0 4 l _ rfl rfl rfl (by decide) (by omega) hl (h.below (B4 w))) fun W2 a6=>?_
 refine xid 14 ((↑(Zh l 0 4):Int)>(960:Int)) (fun b0=>?_) (fun b0=>?_)
 ·exact xe 8 (.tuple #[S0,V0 7]) (.inl ⟨fun h=>by have:=h.2.1;omega,rfl,a6⟩)
 refine zl 14 47 (fun zm a7 V=>∃ (i m:Nat) (p:O0) (c2:Nat),a7=[(0,.slice a l.length c),(4,V0 (↑(Zh l 0 4):Int)),(6,.slice p m c2),(19,V0 (i:Int))]∧zm=960-((i:Int)).toNat∧B3 w V∧V.ownsRow w.heap.size 3 1 (.slice p m c2) m ((Em l m).map nv)∧i≤960∧m=min i (Zh l 0 4)∧(∀ j,j<i→Zh l 0 4≤j→bitN l j=0)) ⟨0,0,_,_,rfl,rfl,a6,World.ownsRow_nil _ _ _ _,Nat.zero_le _,by omega,?_⟩ ?_
 ·exact fun j hj=>absurd hj (by omega)
 rintro _ _ W4 ⟨i,m,p,c2,rfl,rfl,a0,ho,hi,hm,hz⟩ J4 a5 r4
 refine xid 6 ((i:Int)<(960:Int)) (fun a9=>?_) (fun a9=>?_)
 ·refine xq 14 (congrArg V0 (show(IntKind.i64.wrap (Int.tdiv (i:Int) 4):Int)=(↑(i/4):Int) from Lo i 4 (by omega) (by decide))) ?_
  refine xwm 0 (4+(↑(i/4):Int)) (↑(4+(i/4)):Int) ?_
  refine xx 0 _ l.length (4+(i/4)) 1 (Bys.elem h (k:=(4+(i/4))) (by omega)).1 ?_
  refine xl 0 ((Bys.elem (h.below a0) (k:=(4+(i/4))) (by omega)).2) ?_
  refine xq 1 (congrArg V0 (show(Int.tmod (i:Int) 4:Int)=(↑(i%4):Int) from Mw i 4)) ?_
  refine xwm 0 ((↑(i%4):Int)*2) (↑((i%4)*2):Int) ?_
  refine xbo 0 (t:=5) (t2:=3) (fun _ _ _ _ zo zx zy V hV=>run_shrU8 (n:=((l.getD (4+(i/4)) 0).toNat)) (s:=((i%4)*2)) (kj:=.i64) (j:=(↑((i%4)*2):Int)) zo zx zy rfl (by omega) V) ?_
  refine xq 0 (congrArg V0 (show(IntKind.i64.wrap (↑((l.getD (4+(i/4)) 0).toNat/2 ^ ((i%4)*2)):Int):Int)=(↑((l.getD (4+(i/4)) 0).toNat/2 ^ ((i%4)*2)):Int) from Ht (by have:=shr_lt l (4+i/4) (i%4*2);omega))) ?_
  refine xq 0 (congrArg V0 (show(IntKind.i64.wrap (↑(BitVec.ofInt 64 (↑((l.getD (4+(i/4)) 0).toNat/2 ^ ((i%4)*2)):Int) &&& BitVec.ofInt 64 (3:Int)).toNat:Int):Int)=(↑(bitN l i):Int) from i64_and3 (by have:=shr_lt l (4+i/4) (i%4*2);omega))) ?_
  refine xid 12 ((i:Int)<(↑(Zh l 0 4):Int)) (fun b3=>?_) (fun b3=>?_)
  ·refine xbs 3 1 [V0 (↑(bitN l i):Int)] 3 fun b7 W7 n7=>?_
   have g7:=n7.ge a0
   have a4:=Zr ho n7
   have a2:=Zb ho n7.below
   have a1:=bln a0 n7.below
   refine xbi 0 fun _ _ _ _ zJ zQ zo zx zy zK=>Zy (m:=1) (news:=[V0 (↑(bitN l i):Int)]) (V0 0) 1 8 (m+1) ((Em l (m+1)).map nv) zo Tryz.underlying35 (by kernel_rfl) rfl (by decide) zx a2 zy (n7.blk.sl 1 1 (by decide) (by decide)) rfl (by simp[Value.oneCell']) (by unfold maxLen;omega) (by omega) a1.size (by rfl) (by rw[Zgz,List.map_append,show m=i by omega];rfl) fun b5 b4 W8 o8 b6 a8=>?_
   refine zK _ _ ?_
   refine xwm 6 ((i:Int)+1) (↑(i+1):Int) ?_
   have a3:=a1.trans a8
   exact ze 2 (a5 _ _ _ ⟨i+1,m+1,_,_,rfl,rfl,a3,o8,by omega,by omega,fun j hj hc=>(Nat.lt_or_ge j i).elim (fun q=>hz j q hc) (fun q=>by obtain rfl:j=i:=(by omega);omega)⟩ (by omega))
  refine xin 7 (↑(bitN l i):Int) (0:Int) (fun b2=>?_) (fun b2=>?_)
  ·exact xe 13 (.tuple #[S0,V0 7]) (.inl ⟨fun h=>by have:=h.2.2 i (by omega) (by omega);omega,rfl,a0⟩)
  refine xwm 5 ((i:Int)+1) (↑(i+1):Int) ?_
  exact ze 2 (a5 _ _ _ ⟨i+1,m,_,_,rfl,rfl,a0,ho,by omega,by omega,fun j hj hc=>(Nat.lt_or_ge j i).elim (fun q=>hz j q hc) (fun q=>by obtain rfl:j=i:=(by omega);omega)⟩ (by omega))
 refine xe 13 (.tuple #[.slice p m c2,V0 0]) ?_
 obtain rfl:m=Zh l 0 4:=by omega
 exact .inr ⟨⟨by omega,by omega,fun j hj hc=>hz j (by omega) hc⟩,_,_,rfl,a0,ho⟩
end Go.Proofs.YtceeiinepijokaaGreat
namespace Go.Proofs.YtceeiinepijokaaGreat
set_option maxHeartbeats 8000000
set_option maxRecDepth 100000
open Go.RowKit
theorem Blk.ty{w:World}{b:Nat}{cs cs':List Value}{t t':TypeId}(k:Blk w b cs t)(q:Blk w b cs' t'):t=t':=by
 have h1:w.heap[b]? = some (.cells cs.toArray t (0,0)):=k
 have h2:w.heap[b]? = some (.cells cs'.toArray t' (0,0)):=q
 rw[h1] at h2
 simp only[Option.some.injEq,Obj.cells.injEq] at h2
 exact h2.2.1
theorem Hw.upd{w W:World}{b:Nat}{cs:List Value}{t:TypeId}{l:List (Option Int)}{c:Option Int}{v:Value}(h:Hw w l c v)(u:Upd w b W)(k:Blk w b cs t)(hne:t≠258):Hw W l c v :=
 h.kept fun _ _ q=>u.blk q (by rintro rfl;exact hne (k.ty q))
theorem Hw.grown{w W:World}{e:TypeId}{base size n:Nat}{s:Value}{xs:List Value}{l:List (Option Int)}{c:Option Int}{v:Value}(h:Hw w l c v)(hg:w.grownBy W s.ownBlock)(hown:w.ownsRow base e size s n xs)(hne:e≠258):Hw W l c v :=
 h.kept fun _ _ q=>q.grown hg hown hne
theorem Hw.only{T:List TypeId}{w W:World}{l:List (Option Int)}{c:Option Int}{v:Value}(h:Hw w l c v)(k:Zd T w W)(hne:T.contains 258=false):Hw W l c v:=h.kept fun _ _ q=>q.only k hne
end Go.Proofs.YtceeiinepijokaaGreat
namespace Go.Proofs.YtceeiinepijokaaGreat
set_option maxHeartbeats 8000000
set_option maxRecDepth 100000
open Go.RowKit Go.Extern.Stop Go.Stop Go.Extern
set_option linter.unusedVariables false
attribute [local irreducible] wpList wpAnyH Code.wp Oper.wp Go
structure ImgR(B b:Nat)(p:Option Addr)(n c:Nat)(l:List UInt8)(w:World):Prop where
 blk:Blk w b [.slice p n c] 59
 row:w.ownsRow B 5 1 (.slice p n c) n (l.map bv)
 hn:n≤3686400
theorem ImgR.below{B b:Nat}{p:O0}{n c:Nat}{l:Bl}{w W:World}(h:ImgR B b p n c l w)(hb:B3 w W):ImgR B b p n c l W:=⟨h.blk.below hb,Zb h.row hb,h.hn⟩
theorem ImgR.only{B b:Nat}{p:O0}{n c:Nat}{l:Bl}{w W:World}{T:List TypeId}(h:ImgR B b p n c l w)(hO:Zd T w W)(hT:T.contains 59=false∧T.contains 5=false):ImgR B b p n c l W:=⟨h.blk.only hO hT.1,Zi h.row hO hT.2,h.hn⟩
theorem ImgR.len{B b:Nat}{p:O0}{n c:Nat}{l:Bl}{w:World}(h:ImgR B b p n c l w):l.length=n:=by have:=h.row.1;simpa using this
theorem ImgR.base{B b:Nat}{p:O0}{n c:Nat}{l:Bl}{w:World}(h:ImgR B b p n c l w)(hn:0<n):∃ g,p=some ⟨g,0,none⟩∧n≤c:=by
 rcases h.row.2 with ⟨_,h0⟩|⟨g,a0,a1,hv,_,_,hc,_⟩
 ·omega
 ·simp only[Value.slice.injEq] at hv
  obtain⟨rfl,_,rfl⟩:=hv
  exact⟨g,rfl,hc⟩
def Yj(l:Bl)(j:Nat):Bl:=(l.drop (j*256)).take 256
theorem Qp{l:Bl}{j:Nat}(h:j<l.length/256):(Yj l j).length=256:=by simp[Yj];omega
theorem Bys.mid{w:World}{g off n c:Nat}{l:Bl}(h:Bys w (.slice (some ⟨g,off,none⟩) n c) l)(hl:l.length=n)(k m:Nat)(hm:0<m)(hk:k+m≤n):Bys w (.slice (some ⟨g,off+k,none⟩) m m) ((l.drop k).take m):=by
 have a0:((l.drop k).take m).length=m:=by simp;omega
 rcases h with ⟨a',c',h1,h2,h3⟩|⟨g',a1,a2,h1,h2,h3,h4⟩
 ·omega
 ·simp only[Value.slice.injEq,Option.some.injEq,Addr.mk.injEq] at h1
  obtain⟨⟨rfl,rfl,_⟩,_,rfl⟩:=h1
  refine .inr ⟨g,off+k,m,by rw[a0],by omega,by omega,fun j x hj=>?_⟩
  rw[List.getElem?_map,List.getElem?_take] at hj
  split at hj
  ·rw[List.getElem?_drop] at hj
   have:=h4 (k+j) x (by rw[List.getElem?_map];exact hj)
   rwa [←Nat.add_assoc] at this
  ·cases hj
theorem ImgR.part{B b g:Nat}{n c:Nat}{l:Bl}{w:World}(h:ImgR B b (S1 g) n c l w){j:Nat}(hj:j<n/256):Bys w (.slice (some ⟨g,j*256,none⟩) 256 256) (Yj l j):=by
 have:=Bys.mid (Yi (Ze h.row) h.len) h.len (j*256) 256 (by decide) (by omega)
 rwa [Nat.zero_add] at this
def ReadP(n:Nat)(l:Bl)(k:Int)(w:World)(e:Ending)(w':World):Prop :=
 (¬ (0≤k∧k<(n/256:Nat))∧∃ v,e=.returned (.tuple #[v,V0 3])∧B3 w w') ∨
 (∃ j:Nat,k=(j:Int)∧j<n/256∧∃ p c,e=.returned (.tuple #[.slice p 256 c,V0 0])∧B3 w w'∧w'.ownsRow w.heap.size 5 1 (.slice p 256 c) 256 ((Yj l j).map bv))
theorem Eo(b:Nat)(p:O0)(n c:Nat)(k:Int)(w:World)(hk:Blk w b [.slice p n c] 59)(hn:n≤100000000)(ho:¬ (0≤k∧k<(n/256:Nat))) :
 C0 134 #[P0 b,V0 k] w (Ret (.tuple #[S0,V0 3]) w):=by
 refine zin 33 Tryz.func134 ?_
 refine xg 21 [13,14] (decide (k<(0:Int))) (fun a0=>?_) (fun a0=>?_)
 ·have a0:=of_decide_eq_true a0
  exact xe 18 (.tuple #[S0,V0 3]) ⟨rfl,(B4 w)⟩
 have a0:=of_decide_eq_false a0
 refine xr 2 (args:=#[P0 b]) (Yk b _ n c _ (hk.below (B4 w)) hn) fun W2 a1=>?_
 refine xk 5 (show(decide (k≥(↑(n/256):Int)):Bool)=true from decide_eq_true (by omega)) ?_
 exact xe 9 (.tuple #[S0,V0 3]) ⟨rfl,a1⟩
theorem Ru(B b:Nat)(p:O0)(n c:Nat)(l:Bl)(k:Int)(w:World)(hI:ImgR B b p n c l w)(ho:¬ (0≤k∧k<(n/256:Nat))) :
 C0 73 #[P0 b,V0 k] w (Yy (fun _ r=>∃ v,r=.tuple #[v,V0 3]) w):=by
 refine zin 17 Tryz.func73 ?_
 refine xr 10 (args:=#[P0 b,V0 k]) (Eo b p n c k _ (hI.below (B4 w)).blk (by have:=hI.hn;omega) ho) fun W1 a1=>?_
 refine xc 10 (args:=#[S0]) (Zaj 0 _) ?_
 rintro _ W2 ⟨v2,rfl,a0,_⟩
 have hB:=bln a1 a0
 exact xe 6 (.tuple #[v2,V0 3]) ⟨_,rfl,hB,_,rfl⟩
theorem Ah(B b g:Nat)(n c:Nat)(l:Bl)(j:Nat)(w:World)(hI:ImgR B b (S1 g) n c l w)(hj:j<n/256)(hc:n≤c) :
 C0 73 #[P0 b,V0 (j:Int)] w (Yy (fun w' r=>∃ p2 c3,r=.tuple #[.slice p2 256 c3,V0 0]∧w'.ownsRow w.heap.size 5 1 (.slice p2 256 c3) 256 ((Yj l j).map bv)) w):=by
 have a3:=Qp (l:=l) (j:=j) (by rw[hI.len];exact hj)
 refine zin 17 Tryz.func73 ?_
 refine xr 10 (args:=#[P0 b,V0 (j:Int)]) (Ec b g n c j _ (hI.below (B4 w)).blk (by have:=hI.hn;omega) hc hj) fun W1 a1=>?_
 refine xc 10 (args:=#[.slice (some ⟨g,(j*256),none⟩) 256 256]) (Qk (some ⟨g,(j*256),none⟩) 256 256 (Yj l j) _ a3 ((hI.below a1).part hj) (by decide)) ?_
 rintro _ W2 ⟨_,rfl,a4,ho⟩
 have a0:=Zf ho a1.size
 unfold Pu at a0
 rw[a3] at a0
 obtain⟨p2,c3,rfl⟩:=(Ze a0).slice
 have a2:=bln a1 a4
 exact xe 6 (.tuple #[.slice p2 256 c3,V0 0]) ⟨_,rfl,a2,_,_,rfl,a0⟩
theorem Bw(B b:Nat)(p:O0)(n c:Nat)(l:Bl)(k:Int)(w:World)(hI:ImgR B b p n c l w) :
 C0 73 #[P0 b,V0 k] w (ReadP n l k w):=by
 by_cases h:0≤k∧k<(n/256:Nat)
 ·obtain⟨g,rfl,hc⟩:=hI.base (by omega)
  obtain⟨j,rfl⟩:∃ j:Nat,k=j:=⟨k.toNat,by omega⟩
  refine(Ah B b g n c l j w hI (by omega) hc).mono ?_
  rintro e W ⟨_,rfl,hb,p2,c3,rfl,ho⟩
  exact .inr ⟨j,rfl,by omega,_,_,rfl,hb,ho⟩
 ·refine(Ru B b p n c l k w hI h).mono ?_
  rintro e W ⟨_,rfl,hb,v,rfl⟩
  exact .inl ⟨h,_,rfl,hb⟩
def inE (l:Bl)(kind no:Int):Int:=if 0≤no∧no<(l.length/256:Nat) then Xr kind no (Yj l no.toNat) else 3
def inB (l:Bl)(no:Int):Bl:=((Yj l no.toNat).drop 8).take 244
theorem Fi{l:Bl}{kind no:Int}{n:Nat}(hl:l.length=n)(h:¬ (0≤no∧no<(n/256:Nat))):inE l kind no=3:=by subst hl;exact if_neg h
theorem Ss{l:Bl}{kind no:Int}{n j:Nat}(hl:l.length=n)(hk:no=(j:Int))(h:j<n/256):inE l kind no=Xr kind no (Yj l j):=by
 subst hl hk;rw[inE,if_pos ⟨by omega,by omega⟩];rfl
theorem Sn{l:Bl}{no:Int}{j:Nat}(hk:no=(j:Int)):inB l no=((Yj l j).drop 8).take 244:=by subst hk;rfl
theorem Zdb{l:Bl}{no:Int}{n j:Nat}(hl:l.length=n)(hk:no=(j:Int))(h:j<n/256):(inB l no).length=244:=by
 subst hl hk;have:=Qp h;simp[inB,this]
theorem Iu{l l':Bl}(h:l.length=l'.length)(h2:∀ j,j<l.length→l.getD j 0=l'.getD j 0):l=l':=by
 apply List.ext_getElem h
 intro j h3 h4
 have:=h2 j h3
 simpa [List.getD,h3,h4] using this
theorem Hg{l:Bl}{k:Nat}{x:Bl}(h:k+x.length≤l.length)(j:Nat):(Qy l k x).getD j 0=if k≤j∧j<k+x.length then x.getD (j-k) 0 else l.getD j 0:=by
 unfold Qy
 simp only[List.getD]
 rw[List.append_assoc,List.getElem?_append,List.getElem?_append]
 have e:(l.take k).length=k:=by simp;omega
 rw[e]
 by_cases h1:j<k
 ·rw[if_pos h1,if_neg (by omega),List.getElem?_take,if_pos h1]
 ·rw[if_neg h1]
  by_cases h2:j-k<x.length
  ·rw[if_pos h2,if_pos (by omega)]
  ·rw[if_neg h2,if_neg (by omega),List.getElem?_drop,show k+x.length+(j-k-x.length)=j by omega]
theorem Sh{l l':Bl}:∀ (w k:Nat),(∀ j,k≤j→j<k+w→l.getD j 0=l'.getD j 0)→Zh l k w=Zh l' k w
 | 0,k,h=>rfl
 | w+1,k,h=>by rw[Zh,Zh,h k (by omega) (by omega),Sh w (k+1) fun j h1 h2=>h j (by omega) (by omega)]
theorem Gf{l:Bl}:∀ (w k m:Nat),(∀ i,i<w→l.getD (k+i) 0=UInt8.ofNat (m/256 ^ i))→Zh l k w=m%256 ^ w
 | 0,k,m,h=>by simp[Zh,Nat.mod_one]
 | w+1,k,m,h=>by
  have h0:=h 0 (by omega)
  simp only[Nat.add_zero,Nat.pow_zero,Nat.div_one] at h0
  have h1:=Gf (l:=l) w (k+1) (m/256) fun i hi=>by
   have:=h (i+1) (by omega)
   rw[Nat.pow_succ,Nat.mul_comm,←Nat.div_div_eq_div_mul] at this
   rw[show k+1+i=k+(i+1) by omega];exact this
  rw[Zh,h0,h1,Nat.pow_succ,Nat.mul_comm (256 ^ w) 256,Nat.mod_mul]
  congr 1
theorem Am{l:Bl}{k w:Nat}{n:Int}(h:k+w≤l.length)(h0:0≤n)(hb:n.toNat<256 ^ w):(Zh (Qy l k (leB n w)) k w:Int)=n:=by
 rw[Gf w k n.toNat,Nat.mod_eq_of_lt hb]
 ·omega
 ·intro i hi
  rw[Hg (by rw[Zg];exact h),if_pos (by rw[Zg];omega),show k+i-k=i by omega]
  simp[leB,Zp,List.getD,List.getElem?_range hi]
theorem Ym{l x:Bl}{k j w:Nat}(h:k+x.length≤l.length)(hd:j+w≤k∨k+x.length≤j):Zh (Qy l k x) j w=Zh l j w :=
 Sh w j fun i h1 h2=>by rw[Hg h,if_neg (by omega)]
theorem rawN_zero{l:Bl}{k w:Nat}(h:∀ j,k≤j→j<k+w→l.getD j 0=0):Zh l k w=0:=by
 have:=Gf (l:=l) w k 0 fun i hi=>by rw[h (k+i) (by omega) (by omega)];simp
 simpa using this
theorem sumB_put{l x:Bl}{kind:Int}(h:252≤l.length):Bm (Qy l 252 x) kind=Bm l kind:=by
 unfold Bm Qy
 rw[List.append_assoc,List.take_append_of_le_length (by simp;omega),List.take_take];rfl
theorem Lg(n j:Nat):(List.replicate n (0:UInt8)).getD j 0=0:=by
 simp[List.getD,List.getElem?_replicate];split<;>rfl
def Za7(li:Bl):Bl:=li++List.replicate (244-li.length) 0
theorem Zau{kind no:Int}{li:Bl}(h1:1≤kind)(h2:kind≤4)(h3:0≤no)(h4:no<14400)(hl:li.length≤244):Xr kind no (Xk kind no li)=0:=by
 have l1:=Gu hl
 have l2:=Gq (no:=no) hl
 have l3:=Ko (kind:=kind) (no:=no) hl
 have l4:=Vb (kind:=kind) (no:=no) hl
 have a0:Jq kind no (Xk kind no li) 0=false:=by simp only[Jq];rw[show Vv kind no=true from decide_eq_true (by omega)];rfl
 have a1:Jq kind no (Xk kind no li) 1=false:=by simp only[Jq,l4];rfl
 have a2:Jq kind no (Xk kind no li) 2=false:=by
  have hs:Bm (Xk kind no li) kind=Bm (Py kind no li) kind:=by unfold Xk;exact sumB_put (by omega)
  have hr:(Zh (Xk kind no li) 252 4:Int)=(Bm (Py kind no li) kind:Int):=by
   unfold Xk
   exact Am (by omega) (by omega) (by have:=sumB_lt (Py kind no li) kind;simpa using this)
  simp only[Jq,hr,hs];simp
 have a3:Jq kind no (Xk kind no li) 3=false:=by
  have hr:(Zh (Xk kind no li) 0 4:Int)=no:=by
   unfold Xk
   rw[Ym (by rw[Zg];omega) (.inl (by omega))]
   unfold Py
   rw[Ym (by rw[Zg];omega) (.inl (by omega))]
   unfold Zdy
   exact Am (by omega) (by omega) (by omega)
  simp only[Jq,hr];simp
 have a4:Jq kind no (Xk kind no li) 4=false:=by
  have hr:(Zh (Xk kind no li) 4 2:Int)=kind:=by
   unfold Xk
   rw[Ym (by rw[Zg];omega) (.inl (by omega))]
   unfold Py
   exact Am (by omega) (by omega) (by omega)
  simp only[Jq,hr];simp
 have a5:Jq kind no (Xk kind no li) 5=false:=by
  have hr:Zh (Xk kind no li) 6 2=0:=by
   unfold Xk
   rw[Ym (by rw[Zg];omega) (.inl (by omega))]
   unfold Py
   rw[Ym (by rw[Zg];omega) (.inr (by rw[Zg];omega))]
   unfold Zdy
   rw[Ym (by rw[Zg];omega) (.inr (by rw[Zg];omega))]
   unfold Zal
   rw[Ym (by rw[List.length_replicate];omega) (.inl (by omega))]
   exact rawN_zero fun j _ _=>Lg 256 j
  simp only[Jq,hr];rfl
 simp[Xr,a0,a1,a2,a3,a4,a5]
theorem in_seal{kind no:Int}{li:Bl}(hl:li.length≤244):((Xk kind no li).drop 8).take 244=Za7 li:=by
 have l1:=Gu hl
 have l2:=Gq (no:=no) hl
 have l3:=Ko (kind:=kind) (no:=no) hl
 have l4:=Vb (kind:=kind) (no:=no) hl
 apply Iu
 ·simp[Za7,l4];omega
 ·intro j hj
  have a0:j<244:=by simp[l4] at hj;omega
  have e:(((Xk kind no li).drop 8).take 244).getD j 0=(Xk kind no li).getD (8+j) 0:=by
   simp only[List.getD];rw[List.getElem?_take,if_pos a0,List.getElem?_drop]
  rw[e]
  unfold Xk
  rw[Hg (by rw[Zg];omega),if_neg (by rw[Zg];omega)]
  unfold Py
  rw[Hg (by rw[Zg];omega),if_neg (by rw[Zg];omega)]
  unfold Zdy
  rw[Hg (by rw[Zg];omega),if_neg (by rw[Zg];omega)]
  unfold Zal
  rw[Hg (by rw[List.length_replicate];omega),Lg]
  unfold Za7
  simp only[List.getD]
  rw[List.getElem?_append]
  by_cases h:j<li.length
  ·rw[if_pos ⟨by omega,by omega⟩,if_pos h,show 8+j-8=j by omega]
  ·rw[if_neg (by omega),if_neg h]
   have:=Lg (244-li.length) (j-li.length)
   simp only[List.getD] at this
   exact this.symm
theorem Ih{l x:Bl}{k:Nat}(hx:x.length=256)(hk:k<l.length/256):Yj (Qy l (k*256) x) k=x:=by
 have a0:k*256+256≤l.length:=by omega
 have hp:=Yx (l:=l) (k:=k*256) (x:=x) (by omega)
 apply Iu
 ·rw[Qp (by rw[hp];exact hk),hx]
 ·intro j hj
  rw[Qp (by rw[hp];exact hk)] at hj
  have e:(Yj (Qy l (k*256) x) k).getD j 0=(Qy l (k*256) x).getD (k*256+j) 0:=by
   simp only[Yj,List.getD];rw[List.getElem?_take,if_pos hj,List.getElem?_drop]
  rw[e,Hg (by omega),if_pos (by omega),show k*256+j-k*256=j by omega]
theorem Qb{l x:Bl}{k i:Nat}(hx:x.length=256)(hk:k<l.length/256)(hne:i≠k)(hi:i<l.length/256):Yj (Qy l (k*256) x) i=Yj l i:=by
 have a0:k*256+256≤l.length:=by omega
 have hp:=Yx (l:=l) (k:=k*256) (x:=x) (by omega)
 apply Iu
 ·rw[Qp (by rw[hp];exact hi),Qp hi]
 ·intro j hj
  rw[Qp (by rw[hp];exact hi)] at hj
  have e:∀ l:Bl,(Yj l i).getD j 0=l.getD (i*256+j) 0:=fun l=>by
   simp only[Yj,List.getD];rw[List.getElem?_take,if_pos hj,List.getElem?_drop]
  rw[e,e,Hg (by omega),if_neg (by omega)]
theorem Yh(k:Nat):Builtin.zeroCells #[Value.int .u8 0] k=(List.replicate k (Value.int .u8 0)).toArray:=by
 apply Array.ext'
 unfold Builtin.zeroCells
 simp only[List.size_toArray,List.length_cons,List.length_nil,Nat.zero_add,Nat.mul_one,Nat.mod_one]
 rw[Array.toList_map]
 simp only[Array.toList_range]
 apply List.ext_getElem?
 intro i
 simp only[List.getElem?_map,List.getElem?_replicate]
 by_cases h:i<k
 ·rw[List.getElem?_range h,if_pos h];rfl
 ·rw[if_neg h,List.getElem?_eq_none (by simpa using h)];rfl
theorem Wj{P:Program}(w:World)(t tn ty e:TypeId)(i:TypeInfo)(kq kn:IntKind)(ht:P.underlying t=some (.slice e))(htn:P.underlying tn=some (.int kn))(hi:P.info? e=some i)(hz:i.zero=some (.int .u8 0))(hs1:i.size=1)(hb1:i.bytes=1)
 (g n c k:Nat) (cur:Array Value) (hg:w.heap[g]? = some (.cells cur e (0,0))) (h0:0<k) (hroom:n+k≤c) (hfit:n+k≤cur.size) (hk:n+k≤1000000) :
 (Builtin.append_ #[t,tn] ty #[.slice (S1 g) n c,.int kq k]).run P w =
 .ok (.slice (S1 g) (n+k) c) (w.setRow g (cur.toList.take n++List.replicate k (Value.int .u8 0)++cur.toList.drop (n+k)).toArray):=by
 have a3:k≠0:=by omega
 have hw:IntKind.i64.wrap (k:Int)=k:=by rw[IntKind.wrap_i64];omega
 have a0:¬ (281474976710656<(k:Int)):=by omega
 have a1:¬ ((k:Int)<0):=by omega
 have a2:=run_storeCells_at P g n e (List.replicate k (.int .u8 0)) 0 cur w hg (by simpa using hfit) (by intro u hu;rw[(List.mem_replicate.1 hu).2];rfl)
 simp only[Nat.add_zero,List.length_replicate] at a2
 simp[Builtin.append_,run_underlying ht,run_underlying htn,sizeOf,typeInfo,zeroValue,hi,hz,hs1,hb1,asInt,asIntOf,hw,a1,a0,a3,hroom,Addr.add_lit,show(Value.int IntKind.u8 0).cells=#[Value.int .u8 0] from rfl,Yh,a2]
theorem op_appZo{P:Program}{a:Act}{w:World}{K:Act→World→Prop}{Q:Exit→Act→World→Prop}{o:Oper}{s x:Operand}{t tn e:TypeId}{kq kn:IntKind}{base:Nat}{v:Value}{n:Nat}{xs:List Value}(k n':Nat)(xs':List Value)
 (ho:o.op=.call { callee:=.builtin .append,args:=#[s,x],argTypes:=#[t,tn] }) (ht:P.underlying t=some (.slice e)) (htn:P.underlying tn=some (.int kn)) (hi:(P.info? e).map (fun i=>(i.zero,i.size,i.bytes))=some (some (.int .u8 0),1,1))
 (hs:a.eval s=v) (hown:w.ownsRow base e 1 v n xs) (hx:a.eval x=.int kq (k:Int)) (h0:0<k) (hk:n+k≤1000000) (hbase:base≤w.heap.size) (hn:n+k=n') (hxs:xs++List.replicate k (.int .u8 0)=xs')
 (h:∀ b c' W,W.ownsRow base e 1 (.slice b n' c') n' xs'→w.grownBy W v.ownBlock→Below base w W→K (a.put o.dst (.slice b n' c')) W):o.wp P a w K Q:=by
 subst hn hxs
 cases hq:P.info? e with
 | none=>simp[hq] at hi
 | some i =>
  simp only[hq,Option.map_some,Option.some.injEq,Prod.mk.injEq] at hi
  obtain⟨hz,h1,h2⟩:=hi
  have a5:xs.length=n:=by simpa using hown.1
  have a0:(xs++List.replicate k (Value.int .u8 0)).length=(n+k)*1:=by simp[a5]
  rcases hown.2 with ⟨rfl,rfl⟩|⟨g,c,a1,rfl,b2,hg,b4,a3,b0,a4⟩
  ·obtain rfl:xs=[]:=List.eq_nil_of_length_eq_zero a5
   have hr:=Lib.run_append_nil_zeros (P:=P) w t tn o.type e i (.int .u8 0) kq kn ht htn hq hz k h0 (by omega) (by omega) (by rw[h2];omega)
   unfold Oper.wp execOp
   simp only[ho,resolve,invoke,builtin,Sem.run_bind,Sem.run_pure,Result.andThen_ok,List.map_toArray,List.map_cons,List.map_nil,hs,hx,hr]
   have a6:=grownCap_ge w k 0 e
   have a3:grownCap w k 0 e≤maxLen:=grownCap_le_maxLen w k 0 e (by unfold maxLen;omega)
   simp only[Nat.zero_add,List.nil_append] at h
   refine h _ _ _ ⟨by simp,.inr ⟨w.heap.size,_,_,rfl,hbase,heap_alloc_new w.drew _,a6,a3,?_,?_⟩⟩ ⟨rfl,rfl,rfl,by simp,fun k hk _=>by first|exact heap_alloc_old w.drew _ k hk|exact heap_alloc_old w.drew _ hk⟩ (((Za w).trans (show Below w.drew.heap.size w.drew _ from blx w.drew _)).mono hbase)
   ·rw[show(Value.int .u8 0).cells=#[Value.int .u8 0] from rfl,Yh,Yh];simp;omega
   ·rw[show(Value.int .u8 0).cells=#[Value.int .u8 0] from rfl,Yh,Yh]
    simp only[Array.toList_append,Nat.mul_one]
    exact List.take_left' (by simp)
  by_cases hroom:n+k≤c
  ·have b1:a1.size=c:=by simpa using b0
   have hr:=Wj (P:=P) w t tn o.type e i kq kn ht htn hq hz h1 h2 g n c k a1 hg h0 hroom (by omega) hk
   unfold Oper.wp execOp
   simp only[ho,resolve,invoke,builtin,Sem.run_bind,Sem.run_pure,Result.andThen_ok,List.map_toArray,List.map_cons,List.map_nil,hs,hx,hr]
   have a8:w.grownBy (w.setRow g (a1.toList.take n++List.replicate k (Value.int .u8 0)++a1.toList.drop (n+k)).toArray) (Value.ownBlock (.slice (S1 g) n c)):=⟨rfl,rfl,rfl,by simp,fun k' _ a9=>setRow_other w g k' _ (fun e=>a9 (by simp[Value.ownBlock,e]))⟩
   refine h _ _ _ ⟨a0,.inr ⟨g,c,_,rfl,b2,setRow_heap w g a1 _ e _ hg,hroom,a3,?_,?_⟩⟩ a8 (Vf a8 hown (Nat.le_refl _) hbase)
   ·simp only[List.size_toArray,List.length_append,List.length_take,List.length_drop,Array.length_toList,List.length_replicate]
    omega
   ·have b3:a1.toList.take n=xs:=by simpa using a4
    rw[b3,←a0]
    exact List.take_left
  ·have a2:∀ j u,xs[j]? = some u→w.cell? ((⟨g,0,none⟩:Addr).add j)=some u:=hown.cells (g:=g) rfl
   have a7:=run_firstCells_some (P:=P) (w:=w.drew) i.size n ⟨g,0,none⟩ n c xs (by rw[a5,h1,Nat.mul_one]) (by simpa using a2)
   have hr:=Lib.run_append_grow_zeros (P:=P) w t tn o.type e i (.int .u8 0) kq kn ht htn hq hz (S1 g) n c xs a7 k h0 (by omega) (by omega) (by omega) (by rw[h2];omega) (by rw[h2];exact growslice_fits (by omega) (by omega))
   unfold Oper.wp execOp
   simp only[ho,resolve,invoke,builtin,Sem.run_bind,Sem.run_pure,Result.andThen_ok,List.map_toArray,List.map_cons,List.map_nil,hs,hx,hr]
   have a6:=grownCap_ge w (n+k) c e
   have a3:grownCap w (n+k) c e≤maxLen:=grownCap_le_maxLen w (n+k) c e (by unfold maxLen;omega)
   refine h _ _ _ ⟨a0,.inr ⟨w.heap.size,_,_,rfl,hbase,heap_alloc_new w.drew _,a6,a3,?_,?_⟩⟩ ⟨rfl,rfl,rfl,by simp,fun k hk _=>by first|exact heap_alloc_old w.drew _ k hk|exact heap_alloc_old w.drew _ hk⟩ (((Za w).trans (show Below w.drew.heap.size w.drew _ from blx w.drew _)).mono hbase)
   ·rw[show(Value.int .u8 0).cells=#[Value.int .u8 0] from rfl,Yh,Yh];simp[a5];omega
   ·rw[show(Value.int .u8 0).cells=#[Value.int .u8 0] from rfl,Yh,Yh]
    simp only[Array.toList_append,List.append_assoc]
    rw[←List.append_assoc,←a0]
    exact List.take_left
theorem Su{kind no:Int}(h:Vv kind no=true):1≤kind∧kind≤4∧0≤no∧no<14400:=of_decide_eq_true h
theorem step1_xor(a b:Nat):Gj (a ^^^ b)=Gj a ^^^ Gj b:=by
 have e:∀ r,Gj r=(r/2) ^^^ (if r%2=1 then 2197175160 else 0):=fun r=>by unfold Gj;split<;>simp
 rw[e,e,e,Nat.xor_div_two]
 have hp:=Nat.xor_mod_two_eq_one (a:=a) (b:=b)
 by_cases h1:a%2=1<;>by_cases h2:b%2=1
 ·rw[if_neg (by rw[hp];simp[h1,h2]),if_pos h1,if_pos h2,Nat.xor_zero]
  rw[show a/2 ^^^ 2197175160 ^^^ (b/2 ^^^ 2197175160)=a/2 ^^^ b/2 ^^^ (2197175160 ^^^ 2197175160) by ac_rfl];simp
 ·rw[if_pos (by rw[hp];simp[h1,h2]),if_pos h1,if_neg h2,Nat.xor_zero];ac_rfl
 ·rw[if_pos (by rw[hp];simp[h1,h2]),if_neg h1,if_pos h2,Nat.xor_zero];ac_rfl
 ·rw[if_neg (by rw[hp];simp[h1,h2]),if_neg h1,if_neg h2,Nat.xor_zero,Nat.xor_zero,Nat.xor_zero]
theorem stepN_xor(n a b:Nat):Xo n (a ^^^ b)=Xo n a ^^^ Xo n b:=by
 induction n with
 | zero=>rfl
 | succ n ih=>rw[Xo,ih,step1_xor];rfl
theorem Pj(q:Nat):Gj (2*q)=q:=by unfold Gj;rw[if_neg (by omega)];omega
theorem stepN_16(q:Nat):Xo 4 (16*q)=q:=by
 show Gj (Gj (Gj (Gj (16*q))))=q
 rw[show 16*q=2*(2*(2*(2*q))) by omega,Pj,Pj,Pj,Pj]
theorem split16(r:Nat):r=(16*(r/16)) ^^^ (r%16):=by
 apply Nat.eq_of_testBit_eq
 intro i
 rw[Nat.testBit_xor,show 16*(r/16)=2 ^ 4*(r/2 ^ 4) from rfl,Nat.testBit_two_pow_mul,Nat.testBit_div_two_pow,show r%16=r%2 ^ 4 from rfl,Nat.testBit_mod_two_pow]
 by_cases h:4≤i
 ·rw[show i-4+4=i by omega,show decide (i≥4)=true from decide_eq_true h,show decide (i<4)=false from decide_eq_false (by omega)];simp
 ·rw[show decide (i≥4)=false from decide_eq_false h,show decide (i<4)=true from decide_eq_true (by omega)];simp
theorem stepN_4(r:Nat):Xo 4 r=(r/16) ^^^ Nx (r%16):=by
 conv=>lhs;rw[split16 r]
 rw[stepN_xor,stepN_16];rfl
theorem stepN_add(m n r:Nat):Xo (m+n) r=Xo m (Xo n r):=by
 induction m with
 | zero=>simp[Xo]
 | succ m ih=>rw[Nat.succ_add,Xo,ih];rfl
theorem crcStep_8(r:Nat)(x:UInt8):An r x=Xo 8 (r ^^^ x.toNat):=by
 show _=Xo (4+4) (r ^^^ x.toNat)
 rw[stepN_add,stepN_4,stepN_4];rfl
theorem step1_odd{r:Nat}(h:r%2=1):Gj r=(r/2) ^^^ 2197175160:=if_pos h
theorem step1_ev{r:Nat}(h:¬ r%2=1):Gj r=r/2:=if_neg h
theorem ref_Step(r:Nat)(w:World)(hr:r<4294967296) :
 C0 239 #[V0 (r:Int)] w (Ret (V0 (Xo 8 r:Int)) w):=by
 refine zin 18 Tryz.func239 ?_
 have hB:=Below.refl w.heap.size w
 refine zl 12 18 (fun zm a2 V=>∃ (j:Nat),a2=[(0,V0 (↑(Xo j r):Int)),(2,V0 0),(3,V0 (j:Int))]∧zm=8-((j:Int)).toNat∧B3 w V∧j≤8) ⟨0,rfl,rfl,hB,by decide⟩ ?_
 rintro _ _ W1 ⟨j,rfl,rfl,a0,hj⟩ J1 a1 r1
 refine xid 7 ((j:Int)<(8:Int)) (fun a3=>?_) (fun a3=>?_)
 ·refine xq 7 (congrArg V0 (show(Int.tmod (↑(Xo j r):Int) 2:Int)=(↑((Xo j r)%2):Int) from Mw (Xo j r) 2)) ?_
  refine xq 7 (congrArg V0 (show(IntKind.i64.wrap (Int.tdiv (↑(Xo j r):Int) 2):Int)=(↑((Xo j r)/2):Int) from Lo (Xo j r) 2 (by have:=Dw (j:=j) hr;omega) (by decide))) ?_
  refine xie 8 (↑((Xo j r)%2):Int) (1:Int) (fun a4=>?_) (fun a4=>?_)
  ·refine xq 2 (congrArg V0 (show(IntKind.i64.wrap (↑(BitVec.ofInt 64 (↑((Xo j r)/2):Int) ^^^ BitVec.ofInt 64 (2197175160:Int)).toNat:Int):Int)=(↑(((Xo j r)/2) ^^^ 2197175160):Int) from Ri (a:=(Xo j r)/2) (b:=2197175160) (by have:=Dw (j:=j) hr;omega) (by decide))) ?_
   refine xwm 6 ((j:Int)+1) (↑(j+1):Int) ?_
   refine xv1 2 0 (show(V0 (↑(((Xo j r)/2) ^^^ 2197175160):Int):Value)=V0 (↑(Xo (j+1) r):Int) from by rw[show Xo (j+1) r=Gj (Xo j r) from rfl,step1_odd (by omega)]) ?_
   exact ze 0 (a1 _ _ _ ⟨j+1,rfl,rfl,a0,by omega⟩ (by omega))
  refine xwm 5 ((j:Int)+1) (↑(j+1):Int) ?_
  refine xv1 2 0 (show(V0 (↑((Xo j r)/2):Int):Value)=V0 (↑(Xo (j+1) r):Int) from by rw[show Xo (j+1) r=Gj (Xo j r) from rfl,step1_ev (by omega)]) ?_
  exact ze 0 (a1 _ _ _ ⟨j+1,rfl,rfl,a0,by omega⟩ (by omega))
 refine xe 12 (V0 (↑(Xo j r):Int)) ?_
 obtain rfl:j=8:=by omega
 exact⟨rfl,a0⟩
theorem ref_More(a:O0)(c:Nat)(l:Bl)(w:World)(hl:l.length≤100000000)(h:Bys w (.slice a l.length c) l) :
 C0 216 #[V0 0,.slice a l.length c] w (Ret (V0 (Hk l:Int)) w):=by
 refine zin 31 Tryz.func216 ?_
 have hB:=Below.refl w.heap.size w
 refine zl 33 31 (fun zm a4 V=>∃ (i:Nat),a4=[(1,.slice a l.length c),(4,V0 0),(5,V0 (↑(Xb 4294967295 (l.take i)):Int)),(6,V0 (i:Int))]∧zm=l.length-((i:Int)).toNat∧B3 w V∧i≤l.length) ⟨0,rfl,rfl,hB,Nat.zero_le _⟩ ?_
 rintro _ _ W1 ⟨i,rfl,rfl,a0,hi⟩ J1 a2 r1
 refine xid 9 ((i:Int)<(l.length:Int)) (fun a5=>?_) (fun a5=>?_)
 ·refine xx 8 _ l.length i 1 (Bys.elem h (k:=i) (by omega)).1 ?_
  refine xl 0 ((Bys.elem (h.below a0) (k:=i) (by omega)).2) ?_
  refine xq 0 (congrArg V0 (show(IntKind.i64.wrap (↑(l.getD i 0).toNat:Int):Int)=(↑(l.getD i 0).toNat:Int) from Ht (by have:=(l.getD i 0).toNat_lt;omega))) ?_
  refine xq 0 (congrArg V0 (show(IntKind.i64.wrap (↑(BitVec.ofInt 64 (↑(Xb 4294967295 (l.take i)):Int) ^^^ BitVec.ofInt 64 (↑(l.getD i 0).toNat:Int)).toNat:Int):Int)=(↑((Xb 4294967295 (l.take i)) ^^^ (l.getD i 0).toNat):Int) from Ri (Gb (by decide) _) (Zhn _))) ?_
  refine xr 0 (args:=#[V0 (↑((Xb 4294967295 (l.take i)) ^^^ (l.getD i 0).toNat):Int)]) (ref_Step ((Xb 4294967295 (l.take i)) ^^^ (l.getD i 0).toNat) _ (Nat.xor_lt_two_pow (n:=32) (Gb (by decide) _) (Zhn _))) fun W3 a3=>?_
  refine xwm 6 ((i:Int)+1) (↑(i+1):Int) ?_
  refine xv1 2 5 (show(V0 (↑(Xo 8 ((Xb 4294967295 (l.take i)) ^^^ (l.getD i 0).toNat)):Int):Value)=V0 (↑(Xb 4294967295 (l.take (i+1))):Int) from by rw[Dx (by omega),crcStep_8]) ?_
  have a1:=bln a0 a3
  exact ze 0 (a2 _ _ _ ⟨i+1,rfl,rfl,a1,by omega⟩ (by omega))
 refine xq 8 (congrArg V0 (show(IntKind.i64.wrap (↑(BitVec.ofInt 64 (↑(Xb 4294967295 (l.take i)):Int) ^^^ BitVec.ofInt 64 (4294967295:Int)).toNat:Int):Int)=(↑((Xb 4294967295 (l.take i)) ^^^ 4294967295):Int) from Ri (b:=4294967295) (Gb (by decide) _) (by decide))) ?_
 refine xe 4 (V0 (↑((Xb 4294967295 (l.take i)) ^^^ 4294967295):Int)) ?_
 obtain rfl:i=l.length:=by omega
 rw[List.take_length]
 exact⟨rfl,a0⟩
theorem ref_Sum(a:O0)(c:Nat)(l:Bl)(w:World)(hl:l.length≤100000000)(h:Bys w (.slice a l.length c) l) :
 C0 160 #[.slice a l.length c] w (Ret (V0 (Hk l:Int)) w):=by
 refine zin 5 Tryz.func160 ?_
 refine xr 8 (args:=#[V0 0,.slice a l.length c]) (ref_More a c l _ hl (h.below (B4 w))) fun W1 a0=>?_
 exact xe 4 (V0 (↑(Hk l):Int)) ⟨rfl,a0⟩
theorem ref_SumN(a:O0)(n c:Nat)(l:Bl)(w:World)(hn:l.length=n)(hl:n≤100000000)(h:Bys w (.slice a n c) l):C0 160 #[.slice a n c] w (Ret (V0 (Hk l:Int)) w):=by
 subst hn;exact ref_Sum a c l w hl h
theorem leB_snoc(n:Int)(w:Nat):leB n (w+1)=leB n w++[Zp n w]:=by simp[leB,List.range_succ]
theorem u8_byteAt(m i:Nat):IntKind.u8.wrap (((m/256 ^ i)%256:Nat):Int)=((Zp (m:Int) i).toNat:Int):=by
 rw[Zbd (Int.natCast_nonneg _)]
 unfold Zp
 simp only[Int.toNat_natCast,Nat.pow_zero,Nat.div_one]
 congr 2
 apply UInt8.toNat_inj.1
 simp[UInt8.toNat_ofNat']
theorem ref_Bytes(m w:Nat)(W:World)(hm:m<9223372036854775808)(hw:w≤8) :
 C0 159 #[V0 (m:Int),V0 (w:Int)] W (Yy (fun W' r=>∃ p c,r=.slice p w c∧W'.ownsRow W.heap.size 5 1 (.slice p w c) w ((leB (m:Int) w).map bv)) W):=by
 refine zin 21 Tryz.func159 ?_
 refine xv1 17 0 (show(V0 (m:Int):Value)=V0 ((m/256 ^ 0:Nat):Int) from by rw[Nat.pow_zero,Nat.div_one]) ?_
 have hB:=Below.refl W.heap.size W
 refine zl 0 21 (fun zm a7 V=>∃ (i:Nat) (p:O0) (c:Nat),a7=[(0,V0 (↑(m/256 ^ i):Int)),(1,V0 (w:Int)),(4,S0),(5,.slice p i c),(6,V0 (i:Int))]∧zm=w-((i:Int)).toNat∧B3 W V∧V.ownsRow W.heap.size 5 1 (.slice p i c) i ((leB (m:Int) i).map bv)∧i≤w) ⟨0,_,_,rfl,rfl,hB,World.ownsRow_nil _ _ _ _,Nat.zero_le _⟩ ?_
 rintro _ _ W1 ⟨i,p,c,rfl,rfl,a0,ho,hi⟩ J1 a5 r1
 refine xid 8 ((i:Int)<(w:Int)) (fun a6=>?_) (fun a6=>?_)
 ·refine xq 8 (congrArg V0 (show(Int.tmod (↑(m/256 ^ i):Int) 256:Int)=(↑((m/256 ^ i)%256):Int) from Mw (m/256 ^ i) 256)) ?_
  refine xq 0 (congrArg (Value.int .u8) (show(IntKind.u8.wrap (↑((m/256 ^ i)%256):Int):Int)=(↑(Zp (m:Int) i).toNat:Int) from u8_byteAt m i)) ?_
  refine xbs 0 1 [.int .u8 (↑(Zp (m:Int) i).toNat:Int)] 5 fun b3 W3 n3=>?_
  have g3:=n3.ge a0
  have a4:=Zr ho n3
  have a3:=Zb ho n3.below
  have a1:=bln a0 n3.below
  refine xbi 0 fun _ _ _ _ zJ zQ zo zx zy zK=>Zy (m:=1) (news:=[.int .u8 (↑(Zp (m:Int) i).toNat:Int)]) (.int .u8 0) 1 1 (i+1) ((leB (m:Int) (i+1)).map bv) zo Tryz.underlying22 (by kernel_rfl) rfl (by decide) zx a3 zy (n3.blk.sl 1 1 (by decide) (by decide)) rfl (by simp[Value.oneCell']) (by unfold maxLen;omega) (by omega) a1.size (by rfl) (by rw[leB_snoc,List.map_append];rfl) fun b1 a9 W4 o4 b0 a8=>?_
  refine zK _ _ ?_
  refine xq 5 (congrArg V0 (show(IntKind.i64.wrap (Int.tdiv (↑(m/256 ^ i):Int) 256):Int)=(↑((m/256 ^ i)/256):Int) from Lo (m/256 ^ i) 256 (Nat.lt_of_le_of_lt (Nat.div_le_self _ _) hm) (by decide))) ?_
  refine xwm 6 ((i:Int)+1) (↑(i+1):Int) ?_
  refine xv1 2 0 (show(V0 (↑((m/256 ^ i)/256):Int):Value)=V0 (↑(m/256 ^ (i+1)):Int) from by rw[Nat.pow_succ,←Nat.div_div_eq_div_mul]) ?_
  have a2:=a1.trans a8
  exact ze 0 (a5 _ _ _ ⟨i+1,_,_,rfl,rfl,a2,o4,by omega⟩ (by omega))
 refine xe 12 (.slice p i c) ?_
 obtain rfl:i=w:=by omega
 exact⟨_,rfl,a0,_,_,rfl,ho⟩
theorem ref_BytesN(n:Int)(w:Nat)(wi:Int)(W:World)(h0:0≤n)(hn:n<9223372036854775808)(hwi:wi=(w:Int))(hw:w≤8):C0 159 #[V0 n,V0 wi] W (Yy (fun W' r=>∃ p c,r=.slice p w c∧W'.ownsRow W.heap.size 5 1 (.slice p w c) w ((leB n w).map bv)) W):=by
 subst hwi
 obtain⟨m,rfl⟩:∃ m:Nat,n=m:=⟨n.toNat,by omega⟩
 exact ref_Bytes m w W (by omega) hw
theorem ref_Salt1(w:World) :
 C0 161 #[V0 1] w (Ret (V0 (Pz 1:Int)) w):=by
 refine zin 15 Tryz.func161 ?_
 refine xbs 7 5 [V0 0,V0 160774,V0 121107,V0 240779,V0 160478] 3 fun b1 W1 n1=>?_
 refine xb 22 1 n1.blk ?_
 exact xe 4 (V0 160774) ⟨rfl,n1.below⟩
theorem ref_Salt2(w:World) :
 C0 161 #[V0 2] w (Ret (V0 (Pz 2:Int)) w):=by
 refine zin 15 Tryz.func161 ?_
 refine xbs 7 5 [V0 0,V0 160774,V0 121107,V0 240779,V0 160478] 3 fun b1 W1 n1=>?_
 refine xb 22 2 n1.blk ?_
 exact xe 4 (V0 121107) ⟨rfl,n1.below⟩
theorem ref_Salt3(w:World) :
 C0 161 #[V0 3] w (Ret (V0 (Pz 3:Int)) w):=by
 refine zin 15 Tryz.func161 ?_
 refine xbs 7 5 [V0 0,V0 160774,V0 121107,V0 240779,V0 160478] 3 fun b1 W1 n1=>?_
 refine xb 22 3 n1.blk ?_
 exact xe 4 (V0 240779) ⟨rfl,n1.below⟩
theorem ref_Salt4(w:World) :
 C0 161 #[V0 4] w (Ret (V0 (Pz 4:Int)) w):=by
 refine zin 15 Tryz.func161 ?_
 refine xbs 7 5 [V0 0,V0 160774,V0 121107,V0 240779,V0 160478] 3 fun b1 W1 n1=>?_
 refine xb 22 4 n1.blk ?_
 exact xe 4 (V0 160478) ⟨rfl,n1.below⟩
theorem ref_Salt(kind:Int)(h1:1≤kind)(h2:kind≤4)(w:World):C0 161 #[V0 kind] w (Ret (V0 (Pz kind:Int)) w):=by
 obtain rfl|rfl|rfl|rfl:kind=1∨kind=2∨kind=3∨kind=4:=by omega
 ·exact ref_Salt1 w
 ·exact ref_Salt2 w
 ·exact ref_Salt3 w
 ·exact ref_Salt4 w
theorem Zbb(kind no:Int)(w:World) :
 C0 158 #[V0 kind,V0 no] w (Ret (.bool (Vv kind no)) w):=by
 refine zin 19 Tryz.func158 ?_
 refine xg 10 [6,7] (decide (kind≥(1:Int))) (fun a1=>?_) (fun a1=>?_)
 ·have a1:=of_decide_eq_true a1
  refine xg 4 [9,10,11] (decide (kind≤(4:Int))) (fun a2=>?_) (fun a2=>?_)
  ·have a2:=of_decide_eq_true a2
   refine xg 4 [13,14,15] (decide (no≥(0:Int))) (fun a0=>?_) (fun a0=>?_)
   ·have a0:=of_decide_eq_true a0
    exact xe 7 (.bool (decide (no<(14400:Int)))) ⟨by rw[show Vv kind no=decide (no<14400) from decide_eq_decide.2 ⟨fun h=>h.2.2.2,fun h=>⟨by omega,by omega,by omega,h⟩⟩],(B4 w)⟩
   have a0:=of_decide_eq_false a0
   exact xe 7 (.bool false) ⟨by rw[show Vv kind no=false from decide_eq_false (by omega)],(B4 w)⟩
  have a2:=of_decide_eq_false a2
  exact xe 11 (.bool false) ⟨by rw[show Vv kind no=false from decide_eq_false (by omega)],(B4 w)⟩
 have a1:=of_decide_eq_false a1
 exact xe 15 (.bool false) ⟨by rw[show Vv kind no=false from decide_eq_false (by omega)],(B4 w)⟩
theorem rawN_hi(l:Bl):∀ (j k r:Nat),Zh l (k+j) r≤Zh l k (j+r)
 | 0,k,r=>by simp
 | j+1,k,r=>by
  have ih:=rawN_hi l j (k+1) r
  rw[show j+1+r=(j+r)+1 by omega,Zh,show k+(j+1)=k+1+j by omega]
  omega
theorem raw8(l:Bl)(k:Nat):Zh l k 8<9223372036854775808↔(l.getD (k+7) 0).toNat<128:=by
 have h:∀ i,(l.getD i 0).toNat<256:=fun i=>(l.getD i 0).toNat_lt
 have h0:=h k
 have h1:=h (k+1)
 have h2:=h (k+2)
 have h3:=h (k+3)
 have h4:=h (k+4)
 have h5:=h (k+5)
 have h6:=h (k+6)
 have h7:=h (k+7)
 simp only[Zh,Nat.add_assoc,Nat.reduceAdd]
 omega
theorem Za0{l:Bl}{k w j r:Nat}(h:Zh l k w<9223372036854775808)(hj:0<j)(e:j+r=w):(l.getD (k+(j-1)) 0).toNat+256*Zh l (k+j) r<9223372036854775808∧Zh l (k+(j-1)) (r+1)=Zh l (k+j) r*256+(l.getD (k+(j-1)) 0).toNat:=by
 have h1:=rawN_hi l (j-1) k (r+1)
 rw[show j-1+(r+1)=w by omega,Zh,show k+(j-1)+1=k+j by omega] at h1
 refine⟨by omega,?_⟩
 rw[Zh,show k+(j-1)+1=k+j by omega];omega
theorem ref_width1(w:World) :
 C0 240 #[V0 1] w (Ret (.bool true) w):=by
 refine zin 17 Tryz.func240 ?_
 exact xe 25 (.bool true) ⟨rfl,(B4 w)⟩
theorem Zhq(w:World) :
 C0 240 #[V0 2] w (Ret (.bool true) w):=by
 refine zin 17 Tryz.func240 ?_
 exact xe 25 (.bool true) ⟨rfl,(B4 w)⟩
theorem Zf4(w:World) :
 C0 240 #[V0 4] w (Ret (.bool true) w):=by
 refine zin 17 Tryz.func240 ?_
 exact xe 25 (.bool true) ⟨rfl,(B4 w)⟩
theorem Zg2(w:World) :
 C0 240 #[V0 8] w (Ret (.bool true) w):=by
 refine zin 17 Tryz.func240 ?_
 exact xe 25 (.bool true) ⟨rfl,(B4 w)⟩
theorem ref_width(k:Nat)(hw:k=1∨k=2∨k=4∨k=8)(w:World):C0 240 #[V0 (k:Int)] w (Ret (.bool true) w):=by
 rcases hw with rfl|rfl|rfl|rfl
 ·exact ref_width1 w
 ·exact Zhq w
 ·exact Zf4 w
 ·exact Zg2 w
theorem Zed(a:O0)(m c k w:Nat)(W:World)(hw:w=1∨w=2∨w=4∨w=8)(hk:k+w≤m)(hm:m≤100000000) :
 C0 217 #[.slice a m c,V0 (k:Int),V0 (w:Int)] W (Ret (V0 0) W):=by
 refine zin 26 Tryz.func217 ?_
 refine xr 9 (args:=#[V0 (w:Int)]) (ref_width w hw _) fun W1 a0=>?_
 refine xgk 12 [11,12] (show(decide ((k:Int)<(0:Int)):Bool)=false from decide_eq_false (by omega)) ?_
 refine xgk 6 [16,17,18] (show(decide ((k:Int)>(m:Int)):Bool)=false from decide_eq_false (by omega)) ?_
 refine xwm 3 ((m:Int)-(k:Int)) (↑(m-k):Int) ?_
 refine xk 5 (show(decide ((↑(m-k):Int)<(w:Int)):Bool)=false from decide_eq_false (by omega)) ?_
 exact xe 8 (V0 0) ⟨rfl,a0⟩
theorem Zds(a:O0)(c k w:Nat)(l:Bl)(W:World)(hw:w=1∨w=2∨w=4∨w=8)(hk:k+w≤l.length)(hl:l.length≤100000000)(h:Bys W (.slice a l.length c) l)(hq:¬ Zh l k w<9223372036854775808) :
 C0 162 #[.slice a l.length c,V0 (k:Int),V0 (w:Int)] W (Ret (.tuple #[V0 0,V0 2]) W):=by
 have a0:w=8:=by
  rcases hw with h1|h1|h1|h1
  ·have:=Yf l k w (by omega);omega
  ·have:=Yf l k w (by omega);omega
  ·have:=Yf l k w (by omega);omega
  ·exact h1
 have a2:=(not_congr (raw8 l k)).1 (by rw[←a0];exact hq)
 refine zin 45 Tryz.func162 ?_
 refine xr 11 (args:=#[.slice a l.length c,V0 (k:Int),V0 (w:Int)]) (Zed a l.length c k w _ hw hk hl) fun W1 a1=>?_
 refine xgk 19 [19,20] (show(((w:Int)==(8:Int)):Bool)=true from by rw[a0];rfl) ?_
 refine xwm 2 ((k:Int)+7) (↑(k+7):Int) ?_
 refine xx 0 _ l.length (k+7) 1 (Bys.elem h (k:=(k+7)) (by omega)).1 ?_
 refine xl 0 ((Bys.elem (h.below a1) (k:=(k+7)) (by omega)).2) ?_
 refine xk 4 (show(decide ((↑(l.getD (k+7) 0).toNat:Int)≥(128:Int)):Bool)=true from decide_eq_true (by omega)) ?_
 exact xe 8 (.tuple #[V0 0,V0 2]) ⟨rfl,a1⟩
theorem Ts(a:O0)(c k w:Nat)(l:Bl)(W:World)(hw:w=1∨w=2∨w=4∨w=8)(hk:k+w≤l.length)(hl:l.length≤100000000)(h:Bys W (.slice a l.length c) l)(hq:Zh l k w<9223372036854775808) :
 C0 162 #[.slice a l.length c,V0 (k:Int),V0 (w:Int)] W (Ret (.tuple #[V0 (Zh l k w:Int),V0 0]) W):=by
 refine zin 45 Tryz.func162 ?_
 refine xr 11 (args:=#[.slice a l.length c,V0 (k:Int),V0 (w:Int)]) (Zed a l.length c k w _ hw hk hl) fun W1 a4=>?_
 refine xg 19 [19,20] ((w:Int)==(8:Int)) (fun a2=>?_) (fun a2=>?_)
 ·have a2:=eq_of_beq a2
  refine xwm 2 ((k:Int)+7) (↑(k+7):Int) ?_
  refine xx 0 _ l.length (k+7) 1 (Bys.elem h (k:=(k+7)) (by omega)).1 ?_
  refine xl 0 ((Bys.elem (h.below a4) (k:=(k+7)) (by omega)).2) ?_
  refine xk 4 (show(decide ((↑(l.getD (k+7) 0).toNat:Int)≥(128:Int)):Bool)=false from decide_eq_false (by have:=(raw8 l k).1 (by rw[←show w=8 by omega];exact hq);omega)) ?_
  refine xwm 11 ((w:Int)-1) (↑(w-1):Int) ?_
  refine xv1 4 10 (show(V0 (↑(w-1):Int):Value)=V0 ((w:Int)-1) from congrArg V0 (by omega)) ?_
  refine zl 0 45 (fun zm a6 V=>∃ (j r:Nat),a6=[(0,.slice a l.length c),(1,V0 (k:Int)),(6,V0 0),(7,V0 0),(9,V0 (↑(Zh l (k+j) r):Int)),(10,V0 ((j:Int)-1))]∧zm=(((j:Int)-1)+1).toNat∧B3 W V∧j+r=w) ⟨w,0,rfl,rfl,a4,by omega⟩ ?_
  rintro _ _ W3 ⟨j,r,rfl,rfl,a0,a3⟩ J3 a8 r3
  have a5:0<j→_:=fun hj=>Za0 hq hj a3
  refine xid 7 ((j:Int)-1≥(0:Int)) (fun a7=>?_) (fun a7=>?_)
  ·refine xwm 6 ((↑(Zh l (k+j) r):Int)*256) (↑((Zh l (k+j) r)*256):Int) ?_
   refine xq 3 (congrArg V0 (show IntKind.i64.wrap ((k:Int)+((j:Int)-1))=(↑(k+(j-1)):Int) from(show IntKind.i64.wrap ((k:Int)+((j:Int)-1))=((k:Int)+((j:Int)-1)) from by first|exact IntWalk.i64_in _ (by omega)|(simp only[IntKind.wrap];omega)).trans (by omega))) ?_
   refine xx 0 _ l.length (k+(j-1)) 1 (Bys.elem h (k:=(k+(j-1))) (by omega)).1 ?_
   refine xl 0 ((Bys.elem (h.below a0) (k:=(k+(j-1))) (by omega)).2) ?_
   refine xq 0 (congrArg V0 (show(IntKind.i64.wrap (↑(l.getD (k+(j-1)) 0).toNat:Int):Int)=(↑(l.getD (k+(j-1)) 0).toNat:Int) from Ht (by have:=(l.getD (k+(j-1)) 0).toNat_lt;omega))) ?_
   refine xw 0 ((↑((Zh l (k+j) r)*256):Int)+(↑(l.getD (k+(j-1)) 0).toNat:Int)) ?_
   refine xq 6 (congrArg V0 (show IntKind.i64.wrap ((j:Int)-1-1)=((↑(j-1:Nat):Int)-1) from(show IntKind.i64.wrap ((j:Int)-1-1)=((j:Int)-1-1) from by first|exact IntWalk.i64_in _ (by omega)|(simp only[IntKind.wrap];omega)).trans (by omega))) ?_
   refine xv1 2 9 (show(V0 ((↑((Zh l (k+j) r)*256):Int)+(↑(l.getD (k+(j-1)) 0).toNat:Int)):Value)=V0 (↑(Zh l (k+(j-1)) (r+1)):Int) from by rw[(a5 (by omega)).2];rfl) ?_
   exact ze 0 (a8 _ _ _ ⟨j-1,r+1,rfl,rfl,a0,by omega⟩ (by omega))
  refine xe 13 (.tuple #[V0 (↑(Zh l (k+j) r):Int),V0 0]) ?_
  rw[show Zh l (k+j) r=Zh l k w from by rw[show j=0 by omega,show r=w by omega];rfl];exact⟨rfl,a0⟩
 have a2:=Ya a2
 refine xwm 21 ((w:Int)-1) (↑(w-1):Int) ?_
 refine xv1 4 10 (show(V0 (↑(w-1):Int):Value)=V0 ((w:Int)-1) from congrArg V0 (by omega)) ?_
 refine zl 0 45 (fun zm a6 V=>∃ (j r:Nat),a6=[(0,.slice a l.length c),(1,V0 (k:Int)),(6,V0 0),(7,V0 0),(9,V0 (↑(Zh l (k+j) r):Int)),(10,V0 ((j:Int)-1))]∧zm=(((j:Int)-1)+1).toNat∧B3 W V∧j+r=w) ⟨w,0,rfl,rfl,a4,by omega⟩ ?_
 rintro _ _ W5 ⟨j,r,rfl,rfl,a1,a3⟩ J5 a9 r5
 have a5:0<j→_:=fun hj=>Za0 hq hj a3
 refine xid 7 ((j:Int)-1≥(0:Int)) (fun b0=>?_) (fun b0=>?_)
 ·refine xwm 6 ((↑(Zh l (k+j) r):Int)*256) (↑((Zh l (k+j) r)*256):Int) ?_
  refine xq 3 (congrArg V0 (show IntKind.i64.wrap ((k:Int)+((j:Int)-1))=(↑(k+(j-1)):Int) from(show IntKind.i64.wrap ((k:Int)+((j:Int)-1))=((k:Int)+((j:Int)-1)) from by first|exact IntWalk.i64_in _ (by omega)|(simp only[IntKind.wrap];omega)).trans (by omega))) ?_
  refine xx 0 _ l.length (k+(j-1)) 1 (Bys.elem h (k:=(k+(j-1))) (by omega)).1 ?_
  refine xl 0 ((Bys.elem (h.below a1) (k:=(k+(j-1))) (by omega)).2) ?_
  refine xq 0 (congrArg V0 (show(IntKind.i64.wrap (↑(l.getD (k+(j-1)) 0).toNat:Int):Int)=(↑(l.getD (k+(j-1)) 0).toNat:Int) from Ht (by have:=(l.getD (k+(j-1)) 0).toNat_lt;omega))) ?_
  refine xw 0 ((↑((Zh l (k+j) r)*256):Int)+(↑(l.getD (k+(j-1)) 0).toNat:Int)) ?_
  refine xq 6 (congrArg V0 (show IntKind.i64.wrap ((j:Int)-1-1)=((↑(j-1:Nat):Int)-1) from(show IntKind.i64.wrap ((j:Int)-1-1)=((j:Int)-1-1) from by first|exact IntWalk.i64_in _ (by omega)|(simp only[IntKind.wrap];omega)).trans (by omega))) ?_
  refine xv1 2 9 (show(V0 ((↑((Zh l (k+j) r)*256):Int)+(↑(l.getD (k+(j-1)) 0).toNat:Int)):Value)=V0 (↑(Zh l (k+(j-1)) (r+1)):Int) from by rw[(a5 (by omega)).2];rfl) ?_
  exact ze 0 (a9 _ _ _ ⟨j-1,r+1,rfl,rfl,a1,by omega⟩ (by omega))
 refine xe 13 (.tuple #[V0 (↑(Zh l (k+j) r):Int),V0 0]) ?_
 rw[show Zh l (k+j) r=Zh l k w from by rw[show j=0 by omega,show r=w by omega];rfl];exact⟨rfl,a1⟩
theorem ref_Get(a:O0)(c k w:Nat)(l:Bl)(W:World)(hw:w=1∨w=2∨w=4∨w=8)(hk:k+w≤l.length)(hl:l.length≤100000000)(h:Bys W (.slice a l.length c) l) :
 C0 162 #[.slice a l.length c,V0 (k:Int),V0 (w:Int)] W (Ret (.tuple #[V0 (getV l k w),V0 (Zee l k w)]) W):=by
 by_cases hq:Zh l k w<9223372036854775808
 ·rw[Rc hq,Oe hq];exact Ts a c k w l W hw hk hl h hq
 ·rw[getV,Zee,if_neg hq,if_neg hq];exact Zds a c k w l W hw hk hl h hq
theorem Zes(a:O0)(n c k w:Nat)(ki wi:Int)(l:Bl)(W:World)(hn:l.length=n)(hki:ki=(k:Int))(hwi:wi=(w:Int))(hw:w=1∨w=2∨w=4)(hk:k+w≤n)(hl:n≤100000000)(h:Bys W (.slice a n c) l) :
 C0 162 #[.slice a n c,V0 ki,V0 wi] W (Ret (.tuple #[V0 (Zh l k w:Int),V0 0]) W):=by
 subst hn hki hwi;exact Ts a c k w l W (by omega) hk hl h (by have:=Yf l k w (by omega);omega)
theorem Ic(a:O0)(c:Nat)(l:Bl)(aw:O0)(cw:Nat)(ws:List Nat)(W:World)(hk:∀ i,i<ws.length→ws.getD i 0=1∨ws.getD i 0=2∨ws.getD i 0=4∨ws.getD i 0=8)(hs:ws.sum≤l.length)(hl:l.length≤100000000)(hw:ws.length≤1000)(h:Bys W (.slice a l.length c) l)(hws:Sl W (.slice aw ws.length cw) ws.length (ws.map nv))(hq:∀ i,i<ws.length→(Jk l 0 ws).getD i 0<9223372036854775808) :
 C0 95 #[.slice a l.length c,.slice aw ws.length cw] W (Yy (fun w' r=>∃ p c,r=.tuple #[.slice p ws.length c,V0 0]∧w'.ownsRow W.heap.size 3 1 (.slice p ws.length c) ws.length ((Jk l 0 ws).map nv)) W):=by
 refine zin 41 Tryz.func95 ?_
 have hB:=Below.refl W.heap.size W
 refine zl 23 41 (fun zm b1 V=>∃ (i:Nat) (p:O0) (c2:Nat),b1=[(0,.slice a l.length c),(1,.slice aw ws.length cw),(6,.slice p i c2),(7,V0 (↑(ws.take i).sum:Int)),(8,V0 (i:Int))]∧zm=ws.length-((i:Int)).toNat∧B3 W V∧V.ownsRow W.heap.size 3 1 (.slice p i c2) i ((Jk l 0 (ws.take i)).map nv)∧i≤ws.length) ⟨0,_,_,rfl,rfl,hB,World.ownsRow_nil _ _ _ _,Nat.zero_le _⟩ ?_
 rintro _ _ W1 ⟨i,p,c2,rfl,rfl,a0,ho,hi⟩ J1 a9 r1
 have b7:i<ws.length→(ws.take i).sum+ws.getD i 0≤ws.sum:=Ny
 have a8:i<ws.length→(Jk l 0 ws).getD i 0=Zh l (ws.take i).sum (ws.getD i 0):=fun h=>by rw[Lh l ws 0 i h,Nat.zero_add]
 refine xid 9 ((i:Int)<(ws.length:Int)) (fun b2=>?_) (fun b2=>?_)
 ·refine xx 10 _ ws.length i 1 (Zj hws rfl (k:=i) (by omega)).1 ?_
  refine xl 0 ((Zj (hws.below a0) rfl (k:=i) (by omega)).2) ?_
  refine xr 0 (args:=#[.slice a l.length c,V0 (↑(ws.take i).sum:Int),V0 (↑(ws.getD i 0):Int)]) (ref_Get a c (ws.take i).sum (ws.getD i 0) l _ (hk i (by omega)) (by omega) hl (h.below a0)) fun W3 a7=>?_
  refine xk 14 (show(((Zee l (ws.take i).sum (ws.getD i 0)) != (0:Int)):Bool)=false from by rw[Oe (by rw[←a8 (by omega)];exact hq i (by omega))];rfl) ?_
  refine xbs 6 1 [V0 (getV l (ws.take i).sum (ws.getD i 0))] 3 fun b4 W4 n4=>?_
  have a2:=bln a0 a7
  have g4:=n4.ge a2
  have a4:=Zb ho a7
  have a6:=Zr a4 n4
  have a5:=Zb a4 n4.below
  have a3:=bln a2 n4.below
  refine xbi 0 fun _ _ _ _ zJ zQ zo zx zy zK=>Zy (m:=1) (news:=[V0 (getV l (ws.take i).sum (ws.getD i 0))]) (V0 0) 1 8 (i+1) ((Jk l 0 (ws.take (i+1))).map nv) zo Tryz.underlying35 (by kernel_rfl) rfl (by decide) zx a5 zy (n4.blk.sl 1 1 (by decide) (by decide)) rfl (by simp[Value.oneCell']) (by unfold maxLen;omega) (by omega) a3.size (by rfl) (by rw[Hy (by omega),Ly,Nat.zero_add,List.map_append];simp only[List.map_cons,List.map_nil,nv];rw[Rc (by rw[←a8 (by omega)];exact hq i (by omega))]) fun b6 b5 W5 o5 b3 b0=>?_
  refine zK _ _ ?_
  refine xx 7 _ ws.length i 1 (Zj hws rfl (k:=i) (by omega)).1 ?_
  have a1:=a3.trans b0
  refine xl 0 ((Zj (hws.below a1) rfl (k:=i) (by omega)).2) ?_
  refine xwm 0 ((↑(ws.take i).sum:Int)+(↑(ws.getD i 0):Int)) (↑((ws.take i).sum+(ws.getD i 0)):Int) ?_
  refine xwm 6 ((i:Int)+1) (↑(i+1):Int) ?_
  refine xv1 2 7 (show(V0 (↑((ws.take i).sum+(ws.getD i 0)):Int):Value)=V0 (↑(ws.take (i+1)).sum:Int) from by rw[Hy (by omega),List.sum_append];simp) ?_
  exact ze 0 (a9 _ _ _ ⟨i+1,_,_,rfl,rfl,a1,o5,by omega⟩ (by omega))
 refine xe 13 (.tuple #[.slice p i c2,V0 0]) ?_
 obtain rfl:i=ws.length:=by omega
 rw[List.take_length] at ho
 exact⟨_,rfl,a0,_,_,rfl,ho⟩
theorem Zdf(a:O0)(n c:Nat)(l:Bl)(aw:O0)(cw m:Nat)(ws:List Nat)(xs:List Nat)(W:World)(hn:l.length=n)(hm:ws.length=m)(hx:Jk l 0 ws=xs)(hk:∀ i,i<ws.length→ws.getD i 0=1∨ws.getD i 0=2∨ws.getD i 0=4∨ws.getD i 0=8)(hs:ws.sum≤n)(hl:n≤100000000)(hw:ws.length≤1000)(h:Bys W (.slice a n c) l)(hws:Sl W (.slice aw m cw) m (ws.map nv))(hq:∀ i,i<ws.length→(Jk l 0 ws).getD i 0<9223372036854775808) :
 C0 95 #[.slice a n c,.slice aw m cw] W (Yy (fun w' r=>∃ p c,r=.tuple #[.slice p m c,V0 0]∧w'.ownsRow W.heap.size 3 1 (.slice p m c) m (xs.map nv)) W):=by
 subst hn hm hx;exact Ic a c l aw cw ws W hk hs hl hw h hws hq
theorem ref_Zero(a:O0)(c:Nat)(l:Bl)(w:World)(hl:l.length≤100000000)(h:Bys w (.slice a l.length c) l) :
 C0 96 #[.slice a l.length c] w (Ret (.bool (Qm l)) w):=by
 refine zin 15 Tryz.func96 ?_
 have hB:=Below.refl w.heap.size w
 refine zl 12 15 (fun zm a1 V=>∃ (i:Nat),a1=[(0,.slice a l.length c),(3,V0 (i:Int))]∧zm=l.length-((i:Int)).toNat∧B3 w V∧i≤l.length∧(∀ j,j<i→l.getD j 0=0)) ⟨0,rfl,rfl,hB,Nat.zero_le _,?_⟩ ?_
 ·exact fun j hj=>absurd hj (by omega)
 rintro _ _ W1 ⟨i,rfl,rfl,a0,hi,hz⟩ J1 a2 r1
 refine xid 9 ((i:Int)<(l.length:Int)) (fun a3=>?_) (fun a3=>?_)
 ·refine xx 8 _ l.length i 1 (Bys.elem h (k:=i) (by omega)).1 ?_
  refine xl 0 ((Bys.elem (h.below a0) (k:=i) (by omega)).2) ?_
  refine xin 3 (↑(l.getD i 0).toNat:Int) (0:Int) (fun a4=>?_) (fun a4=>?_)
  ·refine xe 11 (.bool false) ?_
   rw[Eb (j:=i) (by omega) (by assumption)];exact⟨rfl,a0⟩
  refine xwm 5 ((i:Int)+1) (↑(i+1):Int) ?_
  exact ze 2 (a2 _ _ _ ⟨i+1,rfl,rfl,a0,by omega,fun j hj=>(Nat.lt_or_ge j i).elim (hz j) (fun q=>by obtain rfl:j=i:=(by omega);exact Zas (by assumption))⟩ (by omega))
 refine xe 11 (.bool true) ?_
 rw[Bh (fun j hj=>hz j (by omega))];exact⟨rfl,a0⟩
theorem ref_ZeroN(a:O0)(n c:Nat)(l:Bl)(w:World)(hn:l.length=n)(hl:n≤100000000)(h:Bys w (.slice a n c) l):C0 96 #[.slice a n c] w (Ret (.bool (Qm l)) w):=by
 subst hn;exact ref_Zero a c l w hl h
theorem St(a b:O0)(ca cb:Nat)(l:List Int)(w:World)(ha:Ints w (.slice a l.length ca) l)(hb:Ints w (.slice b l.length cb) l) :
 C0 11 #[.slice a l.length ca,.slice b l.length cb] w (Ret (.bool true) w):=by
 have a5:=Sl.len ha
 refine zin 26 Tryz.func11 ?_
 refine xk 15 (show(((l.length:Int) != (l.length:Int)):Bool)=false from by simp) ?_
 have hB:=Below.refl w.heap.size w
 refine zl 9 26 (fun zm a3 V=>∃ (i:Nat),a3=[(0,.slice a l.length ca),(1,.slice b l.length cb),(5,V0 (i:Int))]∧zm=l.length-((i:Int)).toNat∧B3 w V∧i≤l.length) ⟨0,rfl,rfl,hB,Nat.zero_le _⟩ ?_
 rintro _ _ W1 ⟨i,rfl,rfl,a1,hi⟩ J1 a2 r1
 refine xid 9 ((i:Int)<(l.length:Int)) (fun a4=>?_) (fun a4=>?_)
 ·refine xd 5 .z ?_
  refine xx (.e [0,1] 2) _ l.length i 1 (Ints.elem ha (k:=i) (by omega)).1 ?_
  have a0:=bln a1 (Za W1)
  refine xl (.e [] 3) ((Ints.elem (ha.below a0) (k:=i) (by omega)).2) ?_
  refine xx (.e [4,5] 6) _ l.length i 1 (Ints.elem hb (k:=i) (by omega)).1 ?_
  refine xl (.e [] 7) ((Ints.elem (hb.below a0) (k:=i) (by omega)).2) ?_
  refine xk (.r [8] 2) (show(((l.getD i 0) != (l.getD i 0)):Bool)=false from by simp) ?_
  refine xwm 5 ((i:Int)+1) (↑(i+1):Int) ?_
  exact ze 2 (a2 _ _ _ ⟨i+1,rfl,rfl,a0,by omega⟩ (by omega))
 exact xe 11 (.bool true) ⟨rfl,a1⟩
end Go.Proofs.YtceeiinepijokaaGreat
