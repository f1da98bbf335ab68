/- node.Width and node.Max at the five trees; package tall: over, Levels, Nodes, Sizes. -/
import Derived.Lib.BufferWrite
import Derived.Lib.AppendStr
import Derived.Lib.ItoaNum
import Derived.Lib.ItoaLen
import Derived.Lib.LaidTab
import Derived.Maps.Own
import Derived.Maps.RangeRun
import Derived.Lib.AppendZerosOnto
import Derived.Test.YtekomodnkfhihaaGreatDoorMg1
namespace Go.Proofs.YtekomodnkfhihaaGreatDoor
set_option maxHeartbeats 8000000
set_option maxRecDepth 100000
open Go.RowKit Go.Extern.Stop Go.Stop Go.Extern
set_option linter.unusedVariables false
attribute [local irreducible] wpList wpAnyH Code.wp Oper.wp Go
theorem Um(w:World) :
 C0 145 #[V0 1,.bool true] w (Ret (V0 4) w):=by
 refine zin 31 Tryz.func145 ?_
 exact xe 94 (V0 4) ⟨rfl,(B3 w)⟩
theorem Ay(w:World) :
 C0 85 #[V0 1,.bool true] w (Ret (V0 18) w):=by
 refine zin 16 Tryz.func85 ?_
 refine xr 9 (args:=#[V0 1,.bool true]) (Um _) fun W1 a0=>?_
 exact xe 24 (V0 18) ⟨rfl,a0⟩
theorem Uw(w:World) :
 C0 145 #[V0 1,.bool false] w (Ret (V0 4) w):=by
 refine zin 31 Tryz.func145 ?_
 exact xe 41 (V0 4) ⟨rfl,(B3 w)⟩
theorem Ie(w:World) :
 C0 85 #[V0 1,.bool false] w (Ret (V0 18) w):=by
 refine zin 16 Tryz.func85 ?_
 refine xr 9 (args:=#[V0 1,.bool false]) (Uw _) fun W1 a0=>?_
 exact xe 24 (V0 18) ⟨rfl,a0⟩
theorem Uk(w:World) :
 C0 145 #[V0 2,.bool true] w (Ret (V0 8) w):=by
 refine zin 31 Tryz.func145 ?_
 exact xe 101 (V0 8) ⟨rfl,(B3 w)⟩
theorem Ia(w:World) :
 C0 85 #[V0 2,.bool true] w (Ret (V0 12) w):=by
 refine zin 16 Tryz.func85 ?_
 refine xr 9 (args:=#[V0 2,.bool true]) (Uk _) fun W1 a0=>?_
 exact xe 24 (V0 12) ⟨rfl,a0⟩
theorem Ut(w:World) :
 C0 145 #[V0 2,.bool false] w (Ret (V0 4) w):=by
 refine zin 31 Tryz.func145 ?_
 exact xe 41 (V0 4) ⟨rfl,(B3 w)⟩
theorem Tw(w:World) :
 C0 85 #[V0 2,.bool false] w (Ret (V0 18) w):=by
 refine zin 16 Tryz.func85 ?_
 refine xr 9 (args:=#[V0 2,.bool false]) (Ut _) fun W1 a0=>?_
 exact xe 24 (V0 18) ⟨rfl,a0⟩
theorem Un(w:World) :
 C0 145 #[V0 3,.bool true] w (Ret (V0 24) w):=by
 refine zin 31 Tryz.func145 ?_
 exact xe 93 (V0 24) ⟨rfl,(B3 w)⟩
theorem Aj(w:World) :
 C0 85 #[V0 3,.bool true] w (Ret (V0 6) w):=by
 refine zin 16 Tryz.func85 ?_
 refine xr 9 (args:=#[V0 3,.bool true]) (Un _) fun W1 a0=>?_
 exact xe 24 (V0 6) ⟨rfl,a0⟩
theorem Up(w:World) :
 C0 145 #[V0 3,.bool false] w (Ret (V0 4) w):=by
 refine zin 31 Tryz.func145 ?_
 exact xe 41 (V0 4) ⟨rfl,(B3 w)⟩
theorem Tt(w:World) :
 C0 85 #[V0 3,.bool false] w (Ret (V0 18) w):=by
 refine zin 16 Tryz.func85 ?_
 refine xr 9 (args:=#[V0 3,.bool false]) (Up _) fun W1 a0=>?_
 exact xe 24 (V0 18) ⟨rfl,a0⟩
theorem Ul(w:World) :
 C0 145 #[V0 4,.bool true] w (Ret (V0 16) w):=by
 refine zin 31 Tryz.func145 ?_
 exact xe 98 (V0 16) ⟨rfl,(B3 w)⟩
theorem Te(w:World) :
 C0 85 #[V0 4,.bool true] w (Ret (V0 9) w):=by
 refine zin 16 Tryz.func85 ?_
 refine xr 9 (args:=#[V0 4,.bool true]) (Ul _) fun W1 a0=>?_
 exact xe 24 (V0 9) ⟨rfl,a0⟩
theorem Uj(w:World) :
 C0 145 #[V0 4,.bool false] w (Ret (V0 4) w):=by
 refine zin 31 Tryz.func145 ?_
 exact xe 41 (V0 4) ⟨rfl,(B3 w)⟩
theorem Sv(w:World) :
 C0 85 #[V0 4,.bool false] w (Ret (V0 18) w):=by
 refine zin 16 Tryz.func85 ?_
 refine xr 9 (args:=#[V0 4,.bool false]) (Uj _) fun W1 a0=>?_
 exact xe 24 (V0 18) ⟨rfl,a0⟩
theorem Ui(w:World) :
 C0 145 #[V0 5,.bool true] w (Ret (V0 4) w):=by
 refine zin 31 Tryz.func145 ?_
 exact xe 94 (V0 4) ⟨rfl,(B3 w)⟩
theorem Ac(w:World) :
 C0 85 #[V0 5,.bool true] w (Ret (V0 18) w):=by
 refine zin 16 Tryz.func85 ?_
 refine xr 9 (args:=#[V0 5,.bool true]) (Ui _) fun W1 a0=>?_
 exact xe 24 (V0 18) ⟨rfl,a0⟩
theorem Ur(w:World) :
 C0 145 #[V0 5,.bool false] w (Ret (V0 4) w):=by
 refine zin 31 Tryz.func145 ?_
 exact xe 41 (V0 4) ⟨rfl,(B3 w)⟩
theorem An(w:World) :
 C0 85 #[V0 5,.bool false] w (Ret (V0 18) w):=by
 refine zin 16 Tryz.func85 ?_
 refine xr 9 (args:=#[V0 5,.bool false]) (Ur _) fun W1 a0=>?_
 exact xe 24 (V0 18) ⟨rfl,a0⟩
def Mu(t:Int)(leaf:Bool):Nat:=if leaf=false then 4 else if t=2 then 8 else if t=3 then 24 else if t=4 then 16 else 4
def Qg(t:Int)(leaf:Bool):Nat:=if leaf=false then 18 else if t=2 then 12 else if t=3 then 6 else if t=4 then 9 else 18
theorem Oe(t:Int)(leaf:Bool)(h1:1≤t)(h2:t≤5)(w:World):C0 145 #[V0 t,.bool leaf] w (Ret (V0 (Mu t leaf:Int)) w):=by
 obtain rfl|rfl|rfl|rfl|rfl:t=1∨t=2∨t=3∨t=4∨t=5:=by omega
 all_goals cases leaf
 ·exact Uw w
 ·exact Um w
 ·exact Ut w
 ·exact Uk w
 ·exact Up w
 ·exact Un w
 ·exact Uj w
 ·exact Ul w
 ·exact Ur w
 ·exact Ui w
theorem Lh(t:Int)(leaf:Bool)(h1:1≤t)(h2:t≤5)(w:World):C0 85 #[V0 t,.bool leaf] w (Ret (V0 (Qg t leaf:Int)) w):=by
 obtain rfl|rfl|rfl|rfl|rfl:t=1∨t=2∨t=3∨t=4∨t=5:=by omega
 all_goals cases leaf
 ·exact Ie w
 ·exact Ay w
 ·exact Tw w
 ·exact Ia w
 ·exact Tt w
 ·exact Aj w
 ·exact Sv w
 ·exact Te w
 ·exact An w
 ·exact Ac w
theorem Yk(t:Int)(leaf:Bool):1≤Qg t leaf∧Qg t leaf≤18:=by
 unfold Qg;repeat' split
 all_goals decide
theorem run_quo{P:Program}{a:Act}{o:Oper}{t:TypeId}{x y:Operand}{t2:TypeId}{p q r:Int}{k:IntKind}(ho:o.op=.binOp .quo t x y t2)(hx:a.eval x=.int k p)(hy:a.eval y=.int k q)(hq:q≠0)(hr:k.wrap (Int.tdiv p q)=r)(w:World) :
 (execOp a.eval o).run P w=.ok (.value (.int k r)) w:=by
 subst hr
 have hb:(binOp .quo t (.int k p) (.int k q)).run P w=.ok (.int k (k.wrap (p.tdiv q))) w:=by
  simp[binOp,Op.intDiv,hq]
 have hg:(eqGuard .quo t x y (.int k p) (.int k q)).run P w=.ok () w:=rfl
 simp only[execOp,ho,hx,hy,B8,hg,C4,hb]
 rfl
def ovN (n m:Nat):Nat:=max 1 ((n+m-1)/m)
theorem max_cast(a b:Nat):(if(b:Int)>(a:Int) then(b:Int) else(a:Int))=((max a b:Nat):Int):=by split<;>omega
theorem Yr(n m:Nat):1≤ovN n m:=by unfold ovN;omega
theorem Bm(n m:Nat)(hm:1≤m):ovN n m≤n+1:=by
 have:(n+m-1)/m≤n:=by
  rw[Nat.div_le_iff_le_mul_add_pred M0]
  have:=Nat.le_mul_of_pos_left n hm
  omega
 unfold ovN;omega
theorem ov18{x:Nat}(h:2≤x):ovN x 18≤x/2:=by unfold ovN;omega
theorem Wr(n m:Nat)(w:World)(hn:n≤1000000)(hm:1≤m)(hm2:m≤1000000) :
 C0 86 #[V0 (n:Int),V0 (m:Int)] w (Ret (V0 (ovN n m:Int)) w):=by
 refine zin 12 Tryz.func86 ?_
 refine xwm 9 ((n:Int)+(m:Int)) (↑(n+m):Int) ?_
 refine xwm 0 ((↑(n+m):Int)-1) (↑((n+m)-1):Int) ?_
 refine xbo 1 (t:=3) (t2:=3) (fun _ _ _ _ zo zx zy V hV=>run_quo (r:=(↑((n+m-1)/m):Int)) zo zx zy M0 (Zb0 (n+m-1) m M0 M0) V) ?_
 refine xq 0 (congrArg V0 (show(if(↑((n+m-1)/m):Int)>(1:Int) then(↑((n+m-1)/m):Int) else(1:Int):Int)=(↑(ovN n m):Int) from max_cast 1 ((n+m-1)/m))) ?_
 exact xe 4 (V0 (↑(ovN n m):Int)) ⟨rfl,(B3 w)⟩
def lenOf:Value→Nat
 | .slice _ n _=>n
 | _=>0
def nv (n:Nat):Value:=V0 (n:Int)
def Dg(x:Nat):List Nat:=if h:x≤1 then [x] else x::Dg (ovN x 18)
termination_by x
decreasing_by have:=ov18 (x:=x) M0;omega
theorem Qz{x:Nat}(h:x≤1):Dg x=[x]:=by rw[Dg];simp[h]
theorem Qt{x:Nat}(h:¬ x≤1):Dg x=x::Dg (ovN x 18):=by rw[Dg];simp[h]
theorem levs_sum{x:Nat}(h:1≤x):(Dg x).sum≤2*x:=by
 induction x using Nat.strongRecOn with
 | _ x ih =>
  by_cases h1:x≤1
  ·rw[Qz h1];simp;omega
  ·rw[Qt h1,G0]
   have h2:=ov18 (x:=x) M0
   have:=ih (ovN x 18) M0 (Yr _ _)
   omega
theorem levs_len{x:Nat}(h:1≤x):(Dg x).length≤x:=by
 induction x using Nat.strongRecOn with
 | _ x ih =>
  by_cases h1:x≤1
  ·rw[Qz h1];simpa using h
  ·rw[Qt h1,D5]
   have h2:=ov18 (x:=x) M0
   have:=ih (ovN x 18) M0 (Yr _ _)
   omega
theorem Hg{w:World}{b:O0}{n c:Nat}{l:List Nat}(h:Sl w (.slice b n c) n (l.map nv))(hl:l.length=n){k:Nat}(hk:k<n):b.isSome=true∧w.cell? (Zr b (k*1))=some (V0 ((l.getD k 0:Nat):Int)):=by
 have e:l.map nv=(l.map fun x:Nat=>(x:Int)).map V0:=by simp[nv]
 rw[e] at h
 have:=IntsN.elem h (by simpa using hl) hk
 rw[show(l.map fun x:Nat=>(x:Int)).getD k 0=((l.getD k 0:Nat):Int) by simp[List.getD,B4 (show k<l.length by omega)]] at this
 exact this
theorem Bz{xs:List Nat}{x j:Nat}(h:xs.length=j):(xs++[x]).getD j 0=x:=by subst h;simp[List.getD]
theorem Lz{L:List Nat}{k:Nat}(h:k<L.length):(L.take (k+1)).sum=(L.take k).sum+L.getD k 0:=by
 rw[List.take_add_one,E7];simp[List.getD,B4 h]
theorem take_le{L:List Nat}(k:Nat):(L.take k).sum≤L.sum:=by
 conv=>rhs;rw[←F6 k L,E7]
 omega
def Vw(t:Int)(n:Nat):List Nat:=Dg (ovN n (Qg t true))
def Zy(t:Int)(n:Nat):Nat:=(Vw t n).sum
theorem levL_len(t:Int)(n:Nat):(Vw t n).length≤n+1:=by
 have:=levs_len (Yr n (Qg t true));have:=Bm n (Qg t true) (Yk t true).1;unfold Vw;omega
theorem Yp(t:Int)(n:Nat):Zy t n≤2*n+2:=by
 have:=levs_sum (Yr n (Qg t true));have:=Bm n (Qg t true) (Yk t true).1;unfold Zy Vw;omega
theorem Ei(t:Int)(n:Nat)(w:World)(h1:1≤t)(h2:t≤5)(hn:n≤32768) :
 C0 40 #[V0 t,V0 (n:Int)] w (Qh (fun w' r=>∃ p c,r=.slice p (Vw t n).length c∧w'.ownsRow w.heap.size 3 1 (.slice p (Vw t n).length c) (Vw t n).length ((Vw t n).map nv)) w):=by
 have b1:=(Yk t true).1
 have c8:=(Yk t true).2
 have d3:=Bm n (Qg t true) b1
 have c0:=Yr n (Qg t true)
 refine zin 45 Tryz.func40 ?_
 refine xr 8 (args:=#[V0 t,.bool true]) (Lh t true h1 h2 _) fun W1 b2=>?_
 refine xr 1 (args:=#[V0 t,.bool false]) (Lh t false h1 h2 _) fun W2 b3=>?_
 refine xgk 10 [13,14] (show(((↑(Qg t true):Int)==(0:Int)):Bool)=false from by simp;omega) ?_
 refine xgk 4 [16,17,18] (show(decide ((n:Int)<(0:Int)):Bool)=false from decide_eq_false M0) ?_
 refine xk 5 (show(decide ((n:Int)>(32768:Int)):Bool)=false from decide_eq_false M0) ?_
 refine xr 6 (args:=#[V0 (n:Int),V0 (↑(Qg t true):Int)]) (Wr n (Qg t true) _ M0 b1 M0) fun W5 b5=>?_
 refine xbs 0 1 [V0 (↑(ovN n (Qg t true)):Int)] 3 fun b6 W6 n6=>?_
 have g6:=n6.ge (bln (bln b2 b3) b5)
 have hB:=bln (bln (bln b2 b3) b5) n6.below
 refine zl 5 45 (fun zm c3 V=>∃ (j x:Nat) (xs:List Nat) (p:O0) (c:Nat),c3=[(4,S0),(6,V0 18),(7,.slice p (j+1) c)]∧zm=40000-(j+1)∧Bl w V∧V.ownsRow w.heap.size 3 1 (.slice p (j+1) c) (j+1) ((xs++[x]).map nv)∧xs.length=j∧1≤x∧x≤32769∧xs++Dg x=Vw t n∧j+x≤40000) ⟨0,(ovN n (Qg t true)),[],_,_,rfl,rfl,hB,Xg (size:=1) (n:=1) n6.blk g6 rfl (by unfold maxLen;decide),rfl,c0,by omega,rfl,by omega⟩ ?_
 rintro _ _ W7 ⟨j,x,xs,p,c,rfl,rfl,a2,ho,a0,c5,c7,b0,hj⟩ J7 c2 r7
 refine xwm 6 ((↑(j+1):Int)-1) (j:Int) ?_
 refine xx 0 _ (j+1) j 1 (Hg (Ze ho) (by simp[a0]) (k:=j) M0).1 ?_
 refine xl 0 (by have:=(Hg (Ze ho) (by simp[a0]) (k:=j) M0).2;rwa [Bz a0] at this) ?_
 refine xid 3 ((x:Int)>(1:Int)) (fun c1=>?_) (fun c1=>?_)
 ·refine xwm 8 ((↑(j+1):Int)-1) (j:Int) ?_
  refine xx 0 _ (j+1) j 1 (Hg (Ze ho) (by simp[a0]) (k:=j) M0).1 ?_
  refine xl 0 (by have:=(Hg (Ze ho) (by simp[a0]) (k:=j) M0).2;rwa [Bz a0] at this) ?_
  refine xr 1 (args:=#[V0 (x:Int),V0 18]) (Wr x 18 _ M0 Do Do) fun W9 b4=>?_
  refine xbs 0 1 [V0 (↑(ovN x 18):Int)] 3 fun d2 d0 a5=>?_
  have a3:=bln a2 b4
  have c9:=a5.ge a3
  have a1:=Za ho b4
  have a6:=Zg a1 a5
  have a8:=Za a1 a5.below
  have a4:=bln a3 a5.below
  refine xbi 0 fun _ _ _ _ zJ zQ zo zx zy zK=>Zz (m:=1) (news:=[V0 (↑(ovN x 18):Int)]) (V0 0) 1 8 (j+1+1) (((xs++[x])++[ovN x 18]).map nv) zo Tryz.underlying27 K0 rfl Do zx a8 zy (a5.blk.sl 1 1 Do Do) rfl (by simp[Value.oneCell']) (by unfold maxLen;omega) M0 a4.size (by rfl) (by simp[nv]) fun b8 b9 d1 c4 b7 a7=>?_
  refine zK _ _ ?_
  have c6:=ov18 (x:=x) M0
  have a9:=a4.trans a7
  exact ze 3 (c2 _ _ _ ⟨j+1,(ovN x 18),xs++[x],_,_,rfl,rfl,a9,c4,by simp[a0],Yr _ _,by omega,by rw[←b0,Qt (x:=x) M0];simp,by omega⟩ M0)
 refine xe 12 (.slice p (j+1) c) ?_
 have e:Vw t n=xs++[x]:=by rw[←b0,Qz (x:=x) M0]
 have el:(Vw t n).length=j+1:=by rw[e];simp[a0]
 exact⟨_,rfl,a2,p,c,by rw[el],by rw[el,e];exact ho⟩
theorem Xi(t:Int)(n:Nat)(w:World)(h1:1≤t)(h2:t≤5)(hn:n≤32768) :
 C0 13 #[V0 t,V0 (n:Int)] w (Ret (V0 (Zy t n:Int)) w):=by
 refine zin 21 Tryz.func13 ?_
 refine xc 15 (args:=#[V0 t,V0 (n:Int)]) (Ei t n _ h1 h2 hn) ?_
 rintro _ W1 ⟨_,rfl,a3,p,c,rfl,ho⟩
 have a2:=A3 w.heap.size
 have a1:=Zf ho a2
 refine zl 5 21 (fun zm a6 V=>∃ (k:Nat),a6=[(4,V0 0),(5,V0 (↑((Vw t n).take k).sum:Int)),(10,.slice p ((Vw t n).length) c),(11,V0 (↑((Vw t n).length):Int)),(12,V0 (k:Int))]∧zm=(Vw t n).length-((k:Int)).toNat∧Bl w V∧V.ownsRow w.heap.size 3 1 (.slice p (Vw t n).length c) (Vw t n).length ((Vw t n).map nv)∧k≤(Vw t n).length) ⟨0,rfl,rfl,a3,a1,A6 _⟩ ?_
 rintro _ _ W2 ⟨k,rfl,rfl,a0,ho,hk⟩ J2 a5 r2
 have a8:=levL_len t n
 have a2:=Yp t n
 unfold Zy at a2
 have a7:=take_le (L:=Vw t n) (k+1)
 have a9:k<(Vw t n).length→((Vw t n).take (k+1)).sum=((Vw t n).take k).sum+(Vw t n).getD k 0:=Lz
 refine xid 6 ((k:Int)<(↑((Vw t n).length):Int)) (fun a4=>?_) (fun a4=>?_)
 ·refine xx 6 _ ((Vw t n).length) k 1 (Hg (Ze ho) rfl (k:=k) M0).1 ?_
  refine xl 0 ((Hg (Ze ho) rfl (k:=k) M0).2) ?_
  refine xwm 6 ((↑((Vw t n).take k).sum:Int)+(↑((Vw t n).getD k 0):Int)) (↑(((Vw t n).take k).sum+((Vw t n).getD k 0)):Int) ?_
  refine xwm 5 ((k:Int)+1) (↑(k+1):Int) ?_
  refine xv1 2 5 (show(V0 (↑(((Vw t n).take k).sum+((Vw t n).getD k 0)):Int):Value)=V0 (↑((Vw t n).take (k+1)).sum:Int) from by rw[Lz M0]) ?_
  exact ze 0 (a5 _ _ _ ⟨k+1,rfl,rfl,a0,ho,by omega⟩ M0)
 refine xe 12 (V0 (↑((Vw t n).take k).sum:Int)) ?_
 have e:k=(Vw t n).length:=by omega
 subst e
 rw[List.take_length]
 exact⟨rfl,a0⟩
def Ys(n m i:Nat):Nat:=min m (n-i*m)
theorem Zco{n m i:Nat}(hm:1≤m)(h:i<ovN n m):i*m≤n:=by
 unfold ovN at h
 rcases F1 i with rfl|hi
 ·omega
 ·have h1:i+1≤(n+m-1)/m:=by omega
  have h2:=(Nat.le_div_iff_mul_le M0).1 h1
  rw[H7] at h2
  omega
def Bb(n m k:Nat):List Value:=(List.range (ovN n m)).map fun i=>V0 (if i<k then(Ys n m i:Int) else 0)
def sizL(n m:Nat):List Nat:=(List.range (ovN n m)).map (Ys n m)
theorem Zaw(n m:Nat):Kk (Value.int .i64 0).cells.toList (ovN n m)=Bb n m 0:=by
 rw[show(Value.int .i64 0).cells.toList=[Value.int .i64 0] from rfl,Kk,Bb]
 simp[List.map_const']
theorem sizK_all(n m:Nat):Bb n m (ovN n m)=(sizL n m).map nv:=by
 unfold Bb sizL nv
 rw[L0]
 apply H4
 intro i hi
 rw[E2] at hi
 simp[hi]
theorem sizK_set{n m k:Nat}(h:k<ovN n m):(Bb n m k).set k (V0 (Ys n m k:Int))=Bb n m (k+1):=by
 apply F4
 intro i
 by_cases hi:i<ovN n m
 ·by_cases e:k=i
  ·subst e
   rw[I6 (by simpa [Bb] using h)]
   simp[Bb,B5 h]
  ·rw[J0 e]
   simp only[Bb,B7,B5 hi,C5]
   by_cases e2:i<k
   ·simp[e2,show i<k+1 by omega]
   ·simp[e2,show ¬ i<k+1 by omega]
 ·rw[C3 (by simp[Bb];omega),C3 (by simp[Bb];omega)]
theorem sizL_len(n m:Nat):(sizL n m).length=ovN n m:=by simp[sizL]
theorem Aw(n m:Nat)(w:World)(hn:n≤32768)(hm:1≤m)(hm2:m≤32768) :
 C0 259 #[V0 (n:Int),V0 (m:Int)] w (Qh (fun w' r=>∃ p c,r=.slice p (ovN n m) c∧w'.ownsRow w.heap.size 3 1 (.slice p (ovN n m) c) (ovN n m) ((sizL n m).map nv)) w):=by
 have a8:=Bm n m hm
 refine zin 40 Tryz.func259 ?_
 refine xgk 11 [8,9] (show(decide ((n:Int)<(0:Int)):Bool)=false from decide_eq_false M0) ?_
 refine xgk 4 [11,12,13] (show(decide ((n:Int)>(32768:Int)):Bool)=false from decide_eq_false M0) ?_
 refine xk 5 (show(decide ((m:Int)<(1:Int)):Bool)=false from decide_eq_false M0) ?_
 refine xq 5 (congrArg V0 (show(if(32768:Int)<(m:Int) then(32768:Int) else(m:Int):Int)=(m:Int) from if_neg M0)) ?_
 refine xr 7 (args:=#[V0 (n:Int),V0 (m:Int)]) (Wr n m _ M0 hm M0) fun W3 a2=>?_
 refine xmk 0 fun _ _ _ _ zJ zQ zo zx zy zK=>Ka (ovN n m) (V0 0) 1 8 (Bb n m 0) zo zx zy Tryz.underlying27 K0 rfl M0 M0 (Zaw n m) fun b4 W4 n4=>?_
 refine zK _ _ ?_
 have hB:=bln a2 n4.below
 refine zl 12 40 (fun zm a4 V=>∃ (k:Nat),a4=[(0,V0 (n:Int)),(1,V0 (m:Int)),(4,S0),(5,.slice (S1 b4) (ovN n m) (ovN n m)),(24,V0 (↑(ovN n m):Int)),(25,V0 (k:Int))]∧zm=ovN n m-((k:Int)).toNat∧Bl w V∧Blk V b4 (Bb n m k) 3∧k≤ovN n m) ⟨0,rfl,rfl,hB,n4.blk,A6 _⟩ ?_
 rintro _ _ W5 ⟨k,rfl,rfl,a1,a0,hk⟩ J5 a6 r5
 have a7:k<ovN n m→k*m≤n:=Zco hm
 refine xid 6 ((k:Int)<(↑(ovN n m):Int)) (fun a5=>?_) (fun a5=>?_)
 ·refine xwm 17 ((k:Int)*(m:Int)) (↑(k*m):Int) ?_
  refine xwm 0 ((n:Int)-(↑(k*m):Int)) (↑(n-(k*m)):Int) ?_
  refine xxb 1 b4 0 (ovN n m) k 1 ?_
  refine xsg 0 a0 (0+k*1) (V0 (if(↑(n-(k*m)):Int)<(m:Int) then(↑(n-(k*m)):Int) else(m:Int))) (by simp[Bb];omega) fun W7 u7 k7=>?_
  replace k7:Blk W7 b4 (Bb n m (k+1)) 3:=by rw[←(show(Bb n m k).set (0+k*1) (V0 (if(↑(n-(k*m)):Int)<(m:Int) then(↑(n-(k*m)):Int) else(m:Int)))=Bb n m (k+1) from by rw[show 0+k*1=k by omega,show(if(↑(n-(k*m)):Int)<(m:Int) then(↑(n-(k*m)):Int) else(m:Int))=(↑(Ys n m k):Int) from Rf m (n-k*m)];exact sizK_set M0)];exact k7
  have g4:=n4.ge a2
  refine xwm 4 ((k:Int)+1) (↑(k+1):Int) ?_
  have a3:=u7.below a1 g4
  exact ze 2 (a6 _ _ _ ⟨k+1,rfl,rfl,a3,k7,by omega⟩ M0)
 have g4:=n4.ge a2
 refine xe 12 (.slice (S1 b4) (ovN n m) (ovN n m)) ?_
 have e:k=ovN n m:=by omega
 subst e
 have ho:=Xg (size:=1) (n:=ovN n m) a0 g4 (by simp[Bb]) (by unfold maxLen;omega)
 rw[sizK_all] at ho
 exact⟨_,rfl,a1,_,_,rfl,ho⟩
end Go.Proofs.YtekomodnkfhihaaGreatDoor
namespace Go.Proofs.YtekomodnkfhihaaGreatDoor
set_option maxHeartbeats 8000000
set_option maxRecDepth 100000
open Go.RowKit
set_option linter.unusedVariables false
theorem Za0(bs:ByteArray)(i:Nat)(r:Bi):ByteArray.toList.loop bs i r=r.reverse++bs.data.toList.drop i:=by
 have hs:bs.data.toList.length=bs.size:=by rw[I1];rfl
 rw[ByteArray.toList.loop]
 split
 ·rename_i h
  have h':i<bs.data.toList.length:=by omega
  rw[Za0 bs (i+1) _,H0 h']
  have e:bs.get! i=bs.data.toList[i]:=by
   have h2:i<bs.data.size:=by rw[←I1];exact h'
   show bs.data[i]! = _
   rw[getElem!_pos bs.data i h2];simp
  rw[e];simp
 ·rename_i h
  rw[C9 M0];simp
termination_by bs.size-i
theorem Ss(a:Bi):(⟨a.toArray⟩:ByteArray).toList=a:=by
 unfold ByteArray.toList;rw[Za0];simp
theorem str_beq(a b:Bi):((⟨a.toArray⟩:ByteArray).toList==(⟨b.toArray⟩:ByteArray).toList)=(a==b):=by rw[Ss,Ss]
theorem Cr{b:Bool}(h:(!b)=true):b=false:=by simpa using h
theorem Ck{b:Bool}(h:(!b)=false):b=true:=by simpa using h
end Go.Proofs.YtekomodnkfhihaaGreatDoor
namespace Go.Proofs.YtekomodnkfhihaaGreatDoor
set_option maxHeartbeats 8000000
set_option maxRecDepth 100000
open Go.RowKit Go.Extern.Stop Go.Stop Go.Extern
set_option linter.unusedVariables false
attribute [local irreducible] wpList wpAnyH Code.wp Oper.wp Go
theorem Wl{P:Program}{a:Act}{o:Oper}{src dst e:TypeId}{x:Operand}{b:O0}{n c:Nat}{l:Bi}{w:World}(ho:o.op=.convert src dst x)(hx:a.eval x=.slice b n c)(h:Bys w (.slice b n c) l)(hl:l.length=n)
 (hs:P.underlying src=some (.slice e)) (he:P.underlying e=some (.int .u8)) (hd:P.underlying dst=some .string):(execOp a.eval o).run P w=.ok (.value (.string ⟨l.toArray⟩)) w:=by
 have hr:(convert src dst (.slice b n c)).run P w=.ok (.string ⟨l.toArray⟩) w:=by
  subst hl
  rcases Sl.at h with hn|⟨g,a0,rfl,hc⟩
  ·obtain rfl:l=[]:=by simpa using hn
   cases b with
   | none=>rw[run_convert_bytes_string w src dst e none _ c hs he hd];rfl
   | some p=>exact run_convert_bytes_back w src dst e p c [] hs he hd (fun j hj=>by simp at hj)
  ·exact run_convert_bytes_back w src dst e _ c l hs he hd (fun j hj=>by rw[Addr.add_mid];exact hc j _ (by simp[B4 hj,bv]))
 simp only[execOp,ho,hx,B8,hr];rfl
theorem Al.below{B ba b g n c:Nat}{pa:O0}{ca f N k:Nat}{l:Bi}{w W:World}(h:Al B ba b g n c pa ca f N k l w)(hb:Bl w W):Al B ba b g n c pa ca f N k l W:=⟨h.blkA.below hb,h.blkI.below hb,Za h.data hb,Za h.nums hb⟩
theorem Gd{w:World}{base n c size:Nat}{e:TypeId}{p:O0}{xs:List Value}(h:w.ownsRow base e size (.slice p n c) n xs)(hn:0<n):∃ g,p=some ⟨g,0,none⟩∧n≤c:=by
 rcases h.2 with ⟨_,h0⟩|⟨g,a0,a1,hv,_,_,hc,_⟩
 ·omega
 ·simp only[A7] at hv;exact⟨g,hv.1,by omega⟩
theorem Bys.cap{w:World}{a:O0}{n c:Nat}{l:Bi}(h:Bys w (.slice a n c) l)(hl:l.length=n):n≤c:=by
 rcases h with ⟨a',c',h1,h2,_⟩|⟨b,a0,cap,h1,h2,_,_⟩
 ·omega
 ·simp only[A7] at h1;omega
theorem Tg(b:Nat)(p0:O0)(n c f N:Nat)(fi:Int)(hfi:fi=(f:Int))(hN:n/256-f=N)(w:World)(hk:Blk w b [.slice p0 n c] 108)(hn:n≤3686400)(h1:1≤f)(h2:f≤n/256) :
 C0 42 #[P0 b,V0 fi] w (Qh (fun w' r=>∃ ba p c2,r=.tuple #[P0 ba,.nilIface]∧w.heap.size≤ba∧Blk w' ba [.slice p N c2,V0 0,P0 b] 169∧w'.ownsRow w.heap.size 3 1 (.slice p N c2) N ((Np f N).map V0)) w):=by
 subst hfi hN;exact Zb1 b p0 n c f w hk hn h1 h2
end Go.Proofs.YtekomodnkfhihaaGreatDoor
namespace Go.Proofs.YtekomodnkfhihaaGreatDoor
set_option maxHeartbeats 8000000
set_option maxRecDepth 100000
open Go.RowKit Go.Extern.Stop Go.Stop Go.Extern
set_option linter.unusedVariables false
attribute [local irreducible] wpList wpAnyH Code.wp Oper.wp Go
section
variable {P:Program} {a:Act}
end
theorem Bys.cut{w:World}{b:O0}{n c:Nat}{l:Bi}(h:Bys w (.slice b n c) l)(hl:l.length=n)(k m:Nat)(hk:k≤m)(hm:m≤n):Bys w (.slice (Uv b k c 1) (m-k) (c-k)) ((l.drop k).take (m-k)):=by
 have a0:((l.drop k).take (m-k)).length=m-k:=by simp;omega
 have a2:=Bys.cap h hl
 rcases h with ⟨a',c',h1,h2,h3⟩|⟨g,a1,a3,h1,h2,h3,h4⟩
 ·obtain rfl:k=0:=by omega
  obtain rfl:m=0:=by omega
  refine .inl ⟨Uv b 0 c 1,c-0,?_,by simp,by simp⟩
  simp
 ·simp only[A7] at h1
  obtain⟨rfl,_,rfl⟩:=h1
  by_cases hz:m-k=0
  ·refine .inl ⟨Uv (some ⟨g,a1,none⟩) k c 1,c-k,by rw[hz],by omega,?_⟩
   rw[hz];rfl
  ·refine .inr ⟨g,a1+k*1,c-k,?_,by omega,by omega,fun j x hj=>?_⟩
   ·rw[Uv,if_neg M0,a0];simp[Addr.add]
   ·rw[B7,Ge] at hj
    split at hj
    ·rw[E3] at hj
     have:=h4 (k+j) x (by rw[B7];exact hj)
     rwa [D0,D7]
    ·cases hj
end Go.Proofs.YtekomodnkfhihaaGreatDoor
namespace Go.Proofs.YtekomodnkfhihaaGreatDoor
set_option maxHeartbeats 8000000
set_option maxRecDepth 100000
open Go.RowKit Go.Extern.Stop Go.Stop Go.Extern
set_option linter.unusedVariables false
section
variable {P:Program} {Q:Exit→Act→World→Prop} {a:Act} {w:World} {K:Act→World→Prop}
theorem Rh{o:Oper}{d x:Operand}{dT sT e:TypeId}{base g off n cap dLen dCap:Nat}{xs:List Value}(l:Bi)(xs':List Value)(ho:o.op=.call { callee:=.builtin .copy,args:=#[d,x],argTypes:=#[dT,sT] })(hu:P.underlying dT=some (.slice e))(hsz:(P.info? e).map (·.size)=some 1)
 (hd:a.eval d=.slice (some ⟨g,off,none⟩) dLen dCap) (hs:a.eval x=.string ⟨l.toArray⟩) (hown:w.ownsRow base e 1 (.slice (S1 g) n cap) n xs) (hm:l.length≤dLen) (hfit:off+l.length≤n)
 (hbase:base≤w.heap.size) (hxs:xs.take off++l.map bv++xs.drop (off+l.length)=xs')
 (h:∀ W,W.ownsRow base e 1 (.slice (S1 g) n cap) n xs'→w.grownBy W (Value.slice (S1 g) n cap).ownBlock→Below base w W→K (a.put o.dst (V0 (l.length:Int))) W):o.wp P a w K Q:=by
 obtain⟨hl,hr⟩:=hown
 rcases hr with ⟨hv,_⟩|⟨g2,b1,a1,hv,a5,hh,a6,a8,a4,a7⟩
 ·cases hv
 simp only[A7,At,Addr.mk.injEq] at hv
 obtain⟨⟨rfl,_,_⟩,_,rfl⟩:=hv
 have b2:xs.length=n:=by simpa using hl
 have a3:a1.toList.length=cap:=by simpa using a4
 have a9:(l.map bv).length=l.length:=by simp
 have b0:∀ W,W.heap[g]? = some (.cells (a1.toList.take off++l.map bv++a1.toList.drop (off+l.length)).toArray e (0,0))→w.grownBy W (some g)→K (a.put o.dst (V0 (l.length:Int))) W:=by
  intro W hW hg
  refine h W ⟨?_,.inr ⟨g,cap,_,rfl,a5,hW,a6,a8,?_,?_⟩⟩ hg (Yq (v:=.slice (S1 g) n cap) hg ⟨hl,.inr ⟨g,cap,a1,rfl,a5,hh,a6,a8,a4,a7⟩⟩ (A3 _) hbase)
  ·rw[←hxs];simp;omega
  ·simp only[F3,A1,D1,H2,a3,D0,a9];omega
  ·have hA:(a1.toList.take off++l.map bv).length=off+l.length:=by simp only[A1,D1,a3,a9];omega
   rw[←hxs,←a7]
   simp only[D0]
   rw[List.take_append,A5 (by rw[hA];omega),hA,List.take_take,Gt (by omega:off≤n),List.drop_take]
 have a0:(⟨l.toArray⟩:ByteArray).size=l.length:=by show l.toArray.size=l.length;simp
 have a2:=Go.Lib.run_copy_row_string (P:=P) w dT sT o.type e g off dLen dCap ⟨l.toArray⟩ a1 e hu hsz hh (by rw[a0];exact hm) (by rw[a0,a4];omega)
 rw[a0] at a2
 have b3:Go.Lib.byteCells (⟨l.toArray⟩:ByteArray).data.toList=l.map bv:=rfl
 rw[b3] at a2
 have h2:(execOp a.eval o).run P w=.ok (.value (V0 (l.length:Int))) (w.setRow g (a1.toList.take off++l.map bv++a1.toList.drop (off+l.length)).toArray):=by
  simp[execOp,ho,resolve,invoke,builtin,hd,hs,a2,Result.andThen,goInt]
 exact Vr h2 (b0 _ (setRow_heap w g _ _ e _ hh) ⟨rfl,rfl,rfl,by simp,fun k _ hk=>setRow_other w g k _ (fun e=>hk (by rw[e]))⟩)
theorem Sl.head{b:O0}{n c:Nat}{xs:List Value}(h:Sl w (.slice b n c) n xs)(hn:xs.length=n)(m:Nat)(hm:m≤n):Sl w (.slice b m c) m (xs.take m):=by
 rcases h with ⟨a',c',h1,h2,h3⟩|⟨b',a1,a2,h1,h2,h3,h4⟩
 ·obtain rfl:m=0:=by omega
  simp only[A7] at h1
  exact .inl ⟨b,c,rfl,rfl,by simp⟩
 ·simp only[A7] at h1
  obtain⟨rfl,_,rfl⟩:=h1
  refine .inr ⟨b',a1,c,rfl,by omega,h3,fun j x hj=>h4 j x ?_⟩
  have a0:j<m:=by have:=(List.getElem?_eq_some_iff.1 hj).1;simp at this;omega
  rwa [E1 a0] at hj
def sv (l:Bi):Value:=.string ⟨l.toArray⟩
theorem Strs.elem{b:O0}{n c:Nat}{V:List Bi}(h:Sl w (.slice b n c) n (V.map sv))(hl:V.length=n){k:Nat}(hk:k<n):b.isSome=true∧w.cell? (Zr b (k*1))=some (.string ⟨(V.getD k []).toArray⟩):=by
 rcases h with ⟨a',c',h1,h2,h3⟩|⟨b',a0,a1,h1,h2,h3,h4⟩
 ·omega
 ·simp only[A7] at h1
  obtain⟨rfl,_,rfl⟩:=h1
  refine⟨rfl,?_⟩
  have:=h4 k (sv (V.getD k [])) (by simp[List.getD,B4 (show k<V.length by omega)])
  rw[D0]
  show w.cell? ((⟨b',a0,none⟩:Addr).add k)=_
  rw[Addr.add_mid]
  exact this
end
end Go.Proofs.YtekomodnkfhihaaGreatDoor
namespace Go.Proofs.YtekomodnkfhihaaGreatDoor
set_option maxHeartbeats 8000000
set_option maxRecDepth 100000
open Go.RowKit Go.Extern.Stop Go.Stop Go.Extern
set_option linter.unusedVariables false
attribute [local irreducible] wpList wpAnyH Code.wp Oper.wp Go
theorem Sl.cap{w:World}{b:O0}{n c:Nat}{xs:List Value}(h:Sl w (.slice b n c) n xs):n≤c:=by
 rcases h with ⟨a',c',h1,h2,_⟩|⟨b',a0,cap,h1,h2,_,_⟩
 ·omega
 ·simp only[A7] at h1;omega
def La(b:Bool):Int:=if b then 1 else 0
theorem Sj(b:Bool):0≤La b∧La b<256:=by cases b<;>decide
structure NodeOk(t:Int)(leaf:Bool)(n m v:Nat)(K:List Int)(Vs:List (List UInt8)):Prop where
 ht1:1≤t
 ht2:t≤5
 hm:Qg t leaf=m
 hv:Mu t leaf=v
 hK:K.length=n
 hV:Vs.length=n
 hn:n≤m
 hl:leaf=false→1≤n
 hk0:∀ i,i<n→0≤K.getD i 0∧K.getD i 0≤281474976710655
 hk1:∀ j,j+1<n→K.getD j 0<K.getD (j+1) 0
 hw:∀ i,i<n→(Vs.getD i []).length=v
theorem Fh(t:Int)(leaf:Bool):4≤Mu t leaf∧Mu t leaf≤24:=by
 unfold Mu
 repeat' split
 all_goals decide
theorem fitN(t:Int)(leaf:Bool):12+Qg t leaf*8+Qg t leaf*Mu t leaf≤244:=by
 unfold Mu Qg
 repeat' split
 all_goals decide
theorem Cs{K:List Int}{i j:Nat}(h:j<i):(K.take i).getD j 0=K.getD j 0:=by simp[List.getD,E1 h]
theorem Ni(t:Int)(leaf:Bool)(m:Nat)(hm:Qg t leaf=m)(h1:1≤t)(h2:t≤5)(w:World):C0 85 #[V0 t,.bool leaf] w (Ret (V0 (m:Int)) w):=by
 subst hm;exact Lh t leaf h1 h2 w
theorem Hl(t:Int)(leaf:Bool)(v:Nat)(hv:Mu t leaf=v)(h1:1≤t)(h2:t≤5)(w:World):C0 145 #[V0 t,.bool leaf] w (Ret (V0 (v:Int)) w):=by
 subst hv;exact Oe t leaf h1 h2 w
theorem Zbr(leaf:Bool)(w:World) :
 C0 280 #[.bool leaf] w (Ret (V0 (La leaf)) w):=by
 refine zin 4 Tryz.func280 ?_
 refine xi 11 leaf (fun a0=>?_) (fun a0=>?_)
 ·exact xe 7 (V0 1) ⟨by simp_all [La],(B3 w)⟩
 exact xe 8 (V0 0) ⟨by simp_all [La],(B3 w)⟩
theorem Sa(a:O0)(i c:Nat)(L:List Int)(k:Int)(w:World)(hL:L.length=i)(h:Sl w (.slice a i c) i (L.map V0))(h1:0≤k)(h2:k≤281474976710655)(h3:∀ j,i=j+1→L.getD j 0<k)(hi:i≤1000) :
 C0 273 #[.slice a i c,V0 k] w (Ret (V0 0) w):=by
 refine zin 26 Tryz.func273 ?_
 refine xgk 12 [7,8] (show(decide (k<(0:Int)):Bool)=false from decide_eq_false M0) ?_
 refine xk 6 (show(decide (k>(281474976710655:Int)):Bool)=false from decide_eq_false M0) ?_
 refine xg 6 [15,16] (decide ((i:Int)>(0:Int))) (fun a0=>?_) (fun a0=>?_)
 ·have a0:=of_decide_eq_true a0
  refine xwm 3 ((i:Int)-1) (↑(i-1):Int) ?_
  refine xx 0 _ i (i-1) 1 (IntsN.elem h hL (k:=(i-1)) M0).1 ?_
  refine xl 0 ((IntsN.elem h hL (k:=(i-1)) M0).2) ?_
  refine xk 6 (show(decide ((L.getD (i-1) 0)≥k):Bool)=false from decide_eq_false (by have:=h3 (i-1) M0;omega)) ?_
  exact xe 9 (V0 0) ⟨rfl,(B3 w)⟩
 have a0:=of_decide_eq_false a0
 exact xe 22 (V0 0) ⟨rfl,(B3 w)⟩
theorem Tx(t:Int)(leaf:Bool)(n m v:Nat)(K:List Int)(Vs:List Bi)(ak av:O0)(ck cv:Nat)(w:World)(N:NodeOk t leaf n m v K Vs)(hKs:Sl w (.slice ak n ck) n (K.map V0))(hVs:Sl w (.slice av n cv) n (Vs.map sv)) :
 C0 279 #[.agg #[V0 t,.bool leaf,.slice ak n ck,.slice av n cv]] w (Ret (.bool true) w):=by
 have c0:=N.ht1
 have b9:=N.ht2
 have d1:=N.hn
 have c6:=Fh t leaf
 rw[N.hv] at c6
 have c5:=Yk t leaf
 rw[N.hm] at c5
 have b4:=fitN t leaf
 rw[N.hm,N.hv] at b4
 have c1:=Sl.cap hKs
 refine zin 70 Tryz.func279 ?_
 refine xa 2 [V0 t,.bool leaf,.slice ak n ck,.slice av n cv] 191 fun b1 W1 n1=>?_
 refine xb 6 0 n1.blk ?_
 refine xb 1 1 n1.blk ?_
 refine xr 0 (args:=#[V0 t,.bool leaf]) (Hl t leaf v N.hv c0 b9 _) fun W2 b5=>?_
 refine xd 5 .z ?_
 refine xgk (.b [0,1,2]) [12,13] (show(((v:Int)==(0:Int)):Bool)=false from by simp;omega) ?_
 have a5:=(n1.blk.below b5).below (Zb W2)
 refine xb (.e [3] 4) 2 a5 ?_
 refine xb (.e [5,6] 7) 0 a5 ?_
 refine xb (.e [8] 9) 1 a5 ?_
 refine xr (.o [] 10) (args:=#[V0 t,.bool leaf]) (Ni t leaf m N.hm c0 b9 _) fun W4 b3=>?_
 refine xgk (.b [11,12,13]) [22,23,24] (show(decide ((n:Int)>(m:Int)):Bool)=false from decide_eq_false M0) ?_
 have a0:=a5.below b3
 refine xb (.e [14] 15) 3 a0 ?_
 refine xb (.e [16,17] 18) 2 a0 ?_
 refine xgk (.b [19,20,21,22]) [31,32,33] (show(((n:Int) != (n:Int)):Bool)=false from by simp) ?_
 refine xb (.e [23] 24) 1 a0 ?_
 refine xg (.b [25,26]) [36,37] (!leaf) (fun c3=>?_) (fun c3=>?_)
 ·refine xb (.e [27] 28) 2 a0 ?_
  refine xk (.r [29,30,31,32] 2) (show(((n:Int)==(0:Int)):Bool)=false from by have:=N.hl (by simp_all);simp;omega) ?_
  refine xb 6 2 a0 ?_
  have hB:=bln (bln (bln n1.below b5) (Zb W2)) b3
  refine zl 5 70 (fun zm b7 V=>∃ (i:Nat),b7=[(1,P0 b1),(3,V0 (v:Int)),(45,.slice ak n ck),(46,V0 (n:Int)),(47,V0 (i:Int))]∧zm=n-((i:Int)).toNat∧Bl w V∧Blk V b1 ([V0 t,.bool leaf,.slice ak n ck,.slice av n cv]) 191∧i≤n) ⟨0,rfl,rfl,hB,a0,A6 _⟩ ?_
  rintro _ _ W8 ⟨i,rfl,rfl,a6,a7,hi⟩ J8 c4 r8
  refine xid 6 ((i:Int)<(n:Int)) (fun c2=>?_) (fun c2=>?_)
  ·refine xx 7 _ n i 1 (IntsN.elem hKs N.hK (k:=i) M0).1 ?_
   refine xl 0 ((IntsN.elem (hKs.below a6) N.hK (k:=i) M0).2) ?_
   refine xb 7 2 a7 ?_
   refine xsH 1 (fun _ _ _ _ zo zx zy V=>Vq (k:=i) (b:=ak) (n:=n) (c:=ck) (i:=(i:Int)) (ki:=.i64) zo zx zy rfl M0 Tryz.underlying27 K0 V) ?_
   refine xr 1 (args:=#[.slice ak i ck,V0 (K.getD i 0)]) (Sa ak i ck (K.take i) (K.getD i 0) _ (by rw[D1,N.hK];omega) (by rw[E5];exact(hKs.below a6).head (by simpa using N.hK) i M0) (N.hk0 i M0).1 (N.hk0 i M0).2 (fun j e=>by subst e;rw[Cs M0];exact N.hk1 j M0) M0) fun d0 a8=>?_
   have a3:=a7.below a8
   refine xb 3 3 a3 ?_
   refine xx 1 _ n i 1 (Strs.elem hVs N.hV (k:=i) M0).1 ?_
   have a9:=bln a6 a8
   refine xl 0 ((Strs.elem (hVs.below a9) N.hV (k:=i) M0).2) ?_
   refine xk 6 (show(((↑(Vs.getD i []).length:Int) != (v:Int)):Bool)=false from by rw[N.hw i M0];simp) ?_
   refine xw 4 ((i:Int)+1) ?_
   exact ze 2 (c4 _ _ _ ⟨i+1,rfl,rfl,a9,a3,by omega⟩ M0)
  exact xe 11 (.bool true) ⟨rfl,a6⟩
 refine xb (.r [27,28,29,30,31,32] 9) 2 a0 ?_
 have hB:=bln (bln (bln n1.below b5) (Zb W2)) b3
 refine zl 5 70 (fun zm b7 V=>∃ (i:Nat),b7=[(1,P0 b1),(3,V0 (v:Int)),(45,.slice ak n ck),(46,V0 (n:Int)),(47,V0 (i:Int))]∧zm=n-((i:Int)).toNat∧Bl w V∧Blk V b1 ([V0 t,.bool leaf,.slice ak n ck,.slice av n cv]) 191∧i≤n) ⟨0,rfl,rfl,hB,a0,A6 _⟩ ?_
 rintro _ _ d2 ⟨i,rfl,rfl,a2,a4,hi⟩ c7 b6 c8
 refine xid 6 ((i:Int)<(n:Int)) (fun b8=>?_) (fun b8=>?_)
 ·refine xx 7 _ n i 1 (IntsN.elem hKs N.hK (k:=i) M0).1 ?_
  refine xl 0 ((IntsN.elem (hKs.below a2) N.hK (k:=i) M0).2) ?_
  refine xb 7 2 a4 ?_
  refine xsH 1 (fun _ _ _ _ zo zx zy V=>Vq (k:=i) (b:=ak) (n:=n) (c:=ck) (i:=(i:Int)) (ki:=.i64) zo zx zy rfl M0 Tryz.underlying27 K0 V) ?_
  refine xr 1 (args:=#[.slice ak i ck,V0 (K.getD i 0)]) (Sa ak i ck (K.take i) (K.getD i 0) _ (by rw[D1,N.hK];omega) (by rw[E5];exact(hKs.below a2).head (by simpa using N.hK) i M0) (N.hk0 i M0).1 (N.hk0 i M0).2 (fun j e=>by subst e;rw[Cs M0];exact N.hk1 j M0) M0) fun c9 b0=>?_
  have a1:=a4.below b0
  refine xb 3 3 a1 ?_
  refine xx 1 _ n i 1 (Strs.elem hVs N.hV (k:=i) M0).1 ?_
  have b2:=bln a2 b0
  refine xl 0 ((Strs.elem (hVs.below b2) N.hV (k:=i) M0).2) ?_
  refine xk 6 (show(((↑(Vs.getD i []).length:Int) != (v:Int)):Bool)=false from by rw[N.hw i M0];simp) ?_
  refine xw 4 ((i:Int)+1) ?_
  exact ze 2 (b6 _ _ _ ⟨i+1,rfl,rfl,b2,a1,by omega⟩ M0)
 exact xe 11 (.bool true) ⟨rfl,a2⟩
end Go.Proofs.YtekomodnkfhihaaGreatDoor
namespace Go.Proofs.YtekomodnkfhihaaGreatDoor
set_option maxHeartbeats 8000000
set_option maxRecDepth 100000
open Go.RowKit Go.Extern.Stop Go.Stop Go.Extern
set_option linter.unusedVariables false
section
variable {P:Program} {a:Act} {w:World} {K:Act→World→Prop} {Q:Exit→Act→World→Prop}
theorem Fa(l:Bi):Lib.strCells ⟨l.toArray⟩=l.map bv:=by
 unfold Lib.strCells bv
 simp
theorem Zc3{o:Oper}{s x:Operand}{t u e:TypeId}{base:Nat}{v:Value}{n:Nat}{xs:List Value}(l:Bi)(n':Nat)(xs':List Value)(ho:o.op=.call { callee:=.builtin .append,args:=#[s,x],argTypes:=#[t,u] })
 (ht:P.underlying t=some (.slice e)) (hu:P.underlying u=some .string) (hi:(P.info? e).map (fun i=>(i.zero,i.size,i.bytes))=some (some (.int .u8 0),1,1)) (hs:a.eval s=v) (hown:w.ownsRow base e 1 v n xs) (hx:a.eval x=.string ⟨l.toArray⟩)
 (hb:n+l.length≤100000000) (hbase:base≤w.heap.size) (hn:n+l.length=n') (hxs:xs++l.map bv=xs')
 (h:∀ b c W,W.ownsRow base e 1 (.slice b n' c) n' xs'→w.grownBy W v.ownBlock→Below base w W→K (a.put o.dst (.slice b n' c)) W):o.wp P a w K Q:=by
 cases hq:P.info? e with
 | none=>simp[hq] at hi
 | some i =>
  simp only[hq,C5,At,C2] at hi
  have a0:(⟨l.toArray⟩:ByteArray).size=l.length:=by simp[ByteArray.size]
  obtain⟨v',W,hr,h2,h3,_⟩:=Lib.run_append_own_string (P:=P) w base t u o.type e i ht hu hq hi.1 hi.2.1 hi.2.2 v n xs hown ⟨l.toArray⟩ (by rw[a0];unfold maxLen;omega) (by rw[a0];omega) hbase
  rw[a0,Fa] at h2
  subst hn hxs
  obtain⟨b,c,rfl⟩:=(Ze h2).slice
  unfold Oper.wp execOp
  simp only[ho,resolve,invoke,builtin,B8,F0,C4,H1,E4,I3,hs,hx,hr]
  exact h b c W h2 h3 (Yq h3 hown (A3 _) hbase)
theorem Bw(g k:Nat):Zr (S1 g) (k*1)=⟨g,k,none⟩:=by
 simp[Zr,Addr.add];exact fun h=>h.symm
theorem Yh{o:Oper}{t e:TypeId}{x y:Operand}{g n c k base:Nat}{xs:List Value}{v:Value}(ho:o.op=.store t x y)(hx:a.eval x=.pointer (some (Zr (S1 g) (k*1))))(hy:a.eval y=v)
 (hi:(P.info? t).map (·.size)=some 1) (h1:v.oneCell'=true) (hown:w.ownsRow base e 1 (.slice (S1 g) n c) n xs) (hk:k<n)
 (h:∀ W,Upd w g W→W.ownsRow base e 1 (.slice (S1 g) n c) n (xs.set k v)→K (a.put o.dst undef) W):o.wp P a w K Q:=by
 obtain⟨hl,h2⟩:=hown
 rcases h2 with ⟨h2,_⟩|⟨g',a3,a0,hv,hg,hh,hc,hm,a1,a2⟩
 ·cases h2
 ·simp only[A7,At,Addr.mk.injEq] at hv
  obtain⟨⟨rfl,_⟩,_,rfl⟩:=hv
  have hb:Blk w g a0.toList e:=by unfold Blk;simpa using hh
  rw[Bw] at hx
  refine Jp ho hx hy hi h1 hb (by simp;omega) fun W hu hW=>h W hu ⟨by simpa using hl,.inr ⟨g,c,(a0.toList.set k v).toArray,rfl,hg,hW,hc,hm,by simpa using a1,?_⟩⟩
  rw[←a2]
  simp[List.take_set]
end
section
variable {P:Program} {ops:Array Oper} {Q:Exit→Act→World→Prop} {a a':Act} {w:World} {S:World→Prop} {md:Region.Mode} {L L':Array Bool} {fuel:Nat}
end
theorem Va{w:World}{base e size g n c:Nat}{xs:List Value}(h:w.ownsRow base e size (.slice (S1 g) n c) n xs):base≤g:=(h.lt g rfl).1
theorem Wq{w:World}{base e size g n c:Nat}{xs:List Value}(h:w.ownsRow base e size (.slice (S1 g) n c) n xs):∃ cs,Blk w g cs e:=by
 rcases h.2 with ⟨h2,_⟩|⟨g',a1,a0,hv,hg,hh,_⟩
 ·cases h2
 ·simp only[A7,At,Addr.mk.injEq] at hv
  obtain⟨⟨rfl,_⟩,_⟩:=hv
  exact⟨a0.toList,by unfold Blk;simpa using hh⟩
theorem Xd{w:World}{base e size g n c b:Nat}{t:TypeId}{xs cs:List Value}(k:Blk w b cs t)(h:w.ownsRow base e size (.slice (S1 g) n c) n xs)(hne:t≠e):b≠g:=by
 rintro rfl
 obtain⟨a0,k'⟩:=Wq h
 have h1:w.heap[b]? = some (.cells cs.toArray t (0,0)):=k
 rw[show w.heap[b]? = some (.cells a0.toArray e (0,0)) from k'] at h1
 simp only[At,Obj.cells.injEq] at h1
 exact hne h1.2.1.symm
theorem Zd.of_updRow{T:List TypeId}{w W:World}{base e size g n c:Nat}{xs:List Value}(u:Upd w g W)(h:w.ownsRow base e size (.slice (S1 g) n c) n xs)(hT:T.contains e=true):Zd T w W:=by
 obtain⟨cs,k⟩:=Wq h
 exact Zd.of_upd u k hT
theorem Upd.ownRow{w W:World}{base base2 e e2 size size2 g n c n2:Nat}{v:Value}{xs ys:List Value}(u:Upd w g W)(h:w.ownsRow base2 e2 size2 v n2 ys)(o:w.ownsRow base e size (.slice (S1 g) n c) n xs)(hne:e2≠e):W.ownsRow base2 e2 size2 v n2 ys:=by
 obtain⟨cs,k⟩:=Wq o
 exact u.own2 h k hne
end Go.Proofs.YtekomodnkfhihaaGreatDoor
namespace Go.Proofs.YtekomodnkfhihaaGreatDoor
set_option maxHeartbeats 8000000
set_option maxRecDepth 100000
open Go.RowKit Go.Extern.Stop Go.Stop Go.Extern
set_option linter.unusedVariables false
attribute [local irreducible] wpList wpAnyH Code.wp Oper.wp Go
abbrev Ll:=Nat×Int×Int
def partC(p:Ll):List Value:=[V0 (p.1:Int),V0 p.2.1,V0 p.2.2]
theorem Bf(p:Ll):(partC p).length=3:=rfl
def Qc:Ll:=(4,0,0)
def Pe(ps:List Ll):Prop:=ps.length≤1000∧∀ i,i<ps.length→((ps.getD i Qc).1=4∨(ps.getD i Qc).1=8)∧0≤(ps.getD i Qc).2.1∧(ps.getD i Qc).2.2<9223372036854775808∧((ps.getD i Qc).1=4→(ps.getD i Qc).2.2<4294967296)
def inP (p:Ll)(n:Int):Bool:=decide (p.2.1≤n∧n≤p.2.2)
def Hz(ps:List Ll)(N:List Int)(k:Nat):Bool:=(List.range k).all fun i=>inP (ps.getD i Qc) (N.getD i 0)
theorem Tb(ps:List Ll)(N:List Int)(k:Nat):Hz ps N (k+1)=(Hz ps N k&&inP (ps.getD k Qc) (N.getD k 0)):=by simp[Hz,C6]
theorem Mb{ps:List Ll}{N:List Int}{i k:Nat}(hi:i<k)(h:inP (ps.getD i Qc) (N.getD i 0)=false):Hz ps N k=false:=by
 unfold Hz
 rw[List.all_eq_false]
 exact⟨i,E2.2 hi,by rw[h];decide⟩
def Oq(ps:List Ll)(N:List Int)(k:Nat):Bi:=(List.range k).flatMap fun i=>leB (N.getD i 0) (ps.getD i Qc).1
theorem Db(ps:List Ll)(N:List Int)(k:Nat):Oq ps N (k+1)=Oq ps N k++leB (N.getD k 0) (ps.getD k Qc).1:=by simp[Oq,C6]
def wids(ps:List Ll)(k:Nat):List Nat:=(List.range k).map fun i=>(ps.getD i Qc).1
theorem Cb(ps:List Ll)(k:Nat):wids ps (k+1)=wids ps k++[(ps.getD k Qc).1]:=by simp[wids,C6]
theorem Wf(ps:List Ll)(N:List Int)(k:Nat):(Oq ps N k).length=(wids ps k).sum:=by
 induction k with
 | zero=>rfl
 | succ k ih=>rw[Db,Cb,A1,Zl,ih];simp
theorem Pack_48(g w:Nat)(n:Int)(W:World)(hw:w=4∨w=8)(h0:0≤n)(hb:w=4→n<4294967296)(hk:Blk W g [V0 (w:Int),V0 n] 178):C0 97 #[.slice (S1 g) 1 1] W (Qh (fun w' r=>∃ p c,r=.tuple #[.slice p w c,V0 0]∧w'.ownsRow W.heap.size 5 1 (.slice p w c) w ((leB n w).map bv)) W):=by
 rcases hw with rfl|rfl
 ·exact Pi g n h0 (hb rfl) W hk
 ·exact Zcq g n h0 W hk
def ValPutP(ps:List Ll)(N:List Int)(w:World)(e:Ending)(w':World):Prop :=
 (Hz ps N ps.length=false∧e=.returned (.string ⟨#[]⟩)∧Bl w w')∨(Hz ps N ps.length=true∧e=.returned (.string ⟨(Oq ps N ps.length).toArray⟩)∧Bl w w')
theorem Su(ps:List Ll)(N:List Int)(gl gn:O0)(cl cn:Nat)(w:World)(hps:Pe ps)(hNl:N.length=ps.length)(hP:Sts partC w (.slice gl ps.length cl) ps)(hN:Sl w (.slice gn ps.length cn) ps.length (N.map V0)) :
 C0 146 #[.slice gl ps.length cl,.slice gn ps.length cn] w (ValPutP ps N w):=by
 have c5:=hps.1
 refine zin 51 Tryz.func146 ?_
 have hB:=Below.refl w.heap.size w
 refine zl 19 51 (fun zm b9 V=>∃ (i m:Nat) (q:O0) (d:Nat),b9=[(1,.slice gn ps.length cn),(5,.slice q m d),(10,.slice gl ps.length cl),(11,V0 (ps.length:Int)),(12,V0 (i:Int))]∧zm=ps.length-((i:Int)).toNat∧Bl w V∧V.ownsRow w.heap.size 5 1 (.slice q m d) m ((Oq ps N i).map bv)∧i≤ps.length∧m=(wids ps i).sum∧m≤i*8∧Hz ps N i=true) ⟨0,0,_,_,rfl,rfl,hB,A9 _ _ _ _,A6 _,rfl,A6 _,rfl⟩ ?_
 rintro _ _ W1 ⟨i,m,q,d,rfl,rfl,a2,ho,hi,hm,c4,a4⟩ J1 b2 r1
 refine xid 6 ((i:Int)<(ps.length:Int)) (fun b8=>?_) (fun b8=>?_)
 ·refine xx 7 _ ps.length i 3 (Sts.cell hP Bf Qc (k:=i) (i:=0) M0 rfl).1 ?_
  refine xlv 0 (Sts.rp (k:=i) (hP.below a2) Bf Qc M0 Do) ?_
  refine xa 0 [V0 0,V0 0,V0 0] 298 fun b3 W3 n3=>?_
  have g3:=n3.ge a2
  refine xsv 1 n3.blk [V0 (↑(ps.getD i Qc).1:Int),V0 ((ps.getD i Qc).2.1),V0 ((ps.getD i Qc).2.2)] fun W4 u4 k4=>?_
  refine xd 4 .z ?_
  refine xx (.e [0,1] 2) _ ps.length i 1 (IntsN.elem hN hNl (k:=i) M0).1 ?_
  have a0:=bln (u4.below (bln a2 n3.below) g3) (Zb W4)
  refine xl (.e [] 3) ((IntsN.elem (hN.below a0) hNl (k:=i) M0).2) ?_
  have a3:=k4.below (Zb W4)
  refine xb (.e [4] 5) 1 a3 ?_
  refine xg (.b [6,7]) [23,24] (decide ((N.getD i 0)<(ps.getD i Qc).2.1)) (fun a5=>?_) (fun a5=>?_)
  ·have a5:=of_decide_eq_true a5
   exact xe (.r [8,9,10,11,12,13,14,15] 15) (.string ⟨#[]⟩) (.inl ⟨Mb (i:=i) M0 (decide_eq_false M0),rfl,a0⟩)
  have a5:=of_decide_eq_false a5
  refine xx (.e [8,9] 10) _ ps.length i 1 (IntsN.elem hN hNl (k:=i) M0).1 ?_
  refine xl (.e [] 11) ((IntsN.elem (hN.below a0) hNl (k:=i) M0).2) ?_
  refine xb (.e [12] 13) 2 a3 ?_
  refine xid (.r [14,15] 2) ((N.getD i 0)>(ps.getD i Qc).2.2) (fun b6=>?_) (fun b6=>?_)
  ·exact xe 12 (.string ⟨#[]⟩) (.inl ⟨Mb (i:=i) M0 (decide_eq_false M0),rfl,a0⟩)
  refine xd 3 .z ?_
  have a7:=a3.below (Zb W4.drew)
  refine xb (.e [0] 1) 0 a7 ?_
  refine xx (.e [2,3] 4) _ ps.length i 1 (IntsN.elem hN hNl (k:=i) M0).1 ?_
  have a1:=bln a0 (Zb W4.drew)
  refine xl (.e [] 5) ((IntsN.elem (hN.below a1) hNl (k:=i) M0).2) ?_
  refine xbs (.o [6] 7) 1 [V0 (↑(ps.getD i Qc).1:Int),V0 (N.getD i 0)] 178 fun b7 W7 n7=>?_
  have g7:=n7.ge a1
  refine yc (.o [] 8) (args:=#[.slice (S1 b7) 1 1]) .z (Pack_48 b7 (ps.getD i Qc).1 (N.getD i 0) _ (hps.2 i M0).1 (by have:=(hps.2 i M0).2.1;omega) (fun q=>by have:=(hps.2 i M0).2.2.2 q;omega) n7.blk) ?_
  rintro _ W8 ⟨_,rfl,b0,p2,c2,rfl,h2⟩
  have b4:=(bln a1 n7.below).size
  refine⟨b0,?_⟩
  have a8:=Za (Za (Za (Za (u4.own2 (Za ho n3.below) n3.blk Do) (Zb W4)) (Zb W4.drew)) n7.below) b0
  have b1:=Zf h2 b4
  have a6:=bln (bln a1 n7.below) b0
  refine xbi (.r [9,10,11,12,13] 5) fun _ _ _ _ zJ zQ zo zx zy zK=>Zz (m:=(ps.getD i Qc).1) (news:=(leB (N.getD i 0) (ps.getD i Qc).1).map bv) (.int .u8 0) 1 1 ((m+(ps.getD i Qc).1)) (((Oq ps N (i+1)).map bv)) zo Tryz.underlying50 K0 rfl Do zx a8 zy (Ze b1) (by simp[Zl]) (Xw _) (by unfold maxLen;have:=(hps.2 i M0).1;omega) (by have:=(hps.2 i M0).1;omega) a6.size (by rfl) (by rw[Db,B6]) fun c1 c3 W9 o9 c0 b5=>?_
  refine zK _ _ ?_
  refine xwm 5 ((i:Int)+1) (↑(i+1):Int) ?_
  have a9:=a6.trans b5
  exact ze 2 (b2 _ _ _ ⟨i+1,_,_,_,rfl,rfl,a9,o9,by omega,by rw[Cb,hm];simp,by have:=(hps.2 i M0).1;omega,by rw[Tb,a4];exact decide_eq_true ⟨by omega,by omega⟩⟩ M0)
 refine xcv0 8 (fun _ _ _ zo zx=>Wl zo zx (Qf (Ze ho) (by rw[Wf];exact hm.symm)) (by rw[Wf];exact hm.symm) Tryz.underlying50 Tryz.underlying5 Tryz.underlying9) ?_
 refine xe 4 (.string ⟨(Oq ps N i).toArray⟩) ?_
 obtain rfl:i=ps.length:=by omega
 exact .inr ⟨a4,rfl,a2⟩
theorem Et(ps:List Ll)(N:List Int)(gl gn:O0)(cl cn n:Nat)(w:World)(hps:Pe ps)(hn:n=ps.length)(hNl:N.length=n)(hP:Sts partC w (.slice gl ps.length cl) ps)(hN:Sl w (.slice gn n cn) n (N.map V0)) :
 C0 146 #[.slice gl ps.length cl,.slice gn n cn] w (fun e w'=>(Hz ps N n=false∧e=.returned (.string ⟨#[]⟩)∧Bl w w')∨(Hz ps N n=true∧e=.returned (.string ⟨(Oq ps N ps.length).toArray⟩)∧Bl w w')):=by
 subst hn;exact Su ps N gl gn cl cn w hps hNl hP hN
def mapP:List Ll:=[(8,0,1099511627775)]
theorem mapP_ok:Pe mapP:=by
 refine⟨by decide,fun i hi=>?_⟩
 have a0:i<1:=hi
 obtain rfl:i=0:=by omega
 simp[mapP,List.getD]
def detP:List Ll:=[(8,0,16384),(8,0,2147483647),(4,0,16777215),(4,0,16777215)]
theorem Zc8:Pe detP:=by
 refine⟨by decide,fun i hi=>?_⟩
 have a0:i<4:=hi
 obtain rfl|rfl|rfl|rfl:i=0∨i=1∨i=2∨i=3:=by omega
 all_goals simp[detP,List.getD]
abbrev Mp:=Int×Int×Int
def We(m:Mp):List Value:=[V0 m.1,V0 m.2.1,V0 m.2.2]
theorem Yf(m:Mp):(We m).length=3:=rfl
abbrev Dv:=(Int×Int×Int×Int)×List Mp
structure MapsOk(data:Int)(M:List Mp):Prop where
 rise:M.Pairwise (fun x y=>x.1<y.1)
 each:∀ m∈M,(0≤m.1∧m.1≤281474976710655)∧(0≤m.2.1∧m.2.1<data)∧0≤m.2.2∧m.2.2≤16777215
theorem MapsOk.nil(data:Int):MapsOk data []:=⟨.nil,fun _ h=>by cases h⟩
structure DevOk(data:Int)(d:Dv):Prop where
 id:0≤d.1.1∧d.1.1≤16777215
 tx:0≤d.1.2.1∧d.1.2.1≤2147483647
 made:0≤d.1.2.2.1∧d.1.2.2.1≤16777215
 snap:0≤d.1.2.2.2∧d.1.2.2.2≤16777215
 maps:MapsOk data d.2
def Qp(L:List Dv):Nat:=(L.map fun d=>d.2.length).sum
structure DevsOk(data:Int)(L:List Dv):Prop where
 few:L.length≤4096
 sum:Qp L≤16384
 rise:L.Pairwise (fun x y=>x.1.1<y.1.1)
 each:∀ d∈L,DevOk data d
theorem DevsOk.nil(data:Int):DevsOk data []:=⟨by decide,by decide,.nil,fun _ h=>by cases h⟩
def mpD:Mp:=(0,0,0)
def inZ (n lo hi:Int):Bool:=decide (lo≤n∧n≤hi)
theorem inZ_t{n lo hi:Int}:inZ n lo hi=true↔lo≤n∧n≤hi:=decide_eq_true_iff
def dvE (d:Dv)(last:Int):Int:=if inZ d.1.1 0 16777215&&(inZ d.1.2.1 0 2147483647&&(inZ d.1.2.2.1 0 16777215&&inZ d.1.2.2.2 0 16777215)) then(if d.1.1≤last then 8 else 0) else 2
def mpE (data:Int)(m:Mp)(last:Int):Int:=if inZ m.1 0 281474976710655&&(inZ m.2.1 0 (data-1)&&inZ m.2.2 0 16777215) then(if m.1≤last then 8 else 0) else 2
def Me(data:Int):List Mp→Int→Int
 | [],_=>0
 | m::r,last=>if mpE data m last≠0 then mpE data m last else Me data r m.1
def Oo(data:Int):List Dv→Int→Int
 | [],_=>0
 | d::r,last=>if dvE d last≠0 then dvE d last else if Me data d.2 (-1)≠0 then Me data d.2 (-1) else Oo data r d.1.1
def wsum(L:List Dv):Int:=IntKind.i64.wrap (Qp L:Int)
def Ye(tx time unit data:Int)(L:List Dv):Int :=
 if(inZ tx 0 2147483647&&inZ time 0 16777215)&&(inZ unit 1 65536&&inZ data 0 65536) then(if 4096<L.length∨16384<wsum L then 2 else Oo data L (-1)) else 2
theorem mpE_2{data:Int}{m:Mp}{last:Int}(h:(inZ m.1 0 281474976710655&&(inZ m.2.1 0 (data-1)&&inZ m.2.2 0 16777215))=false):mpE data m last=2:=if_neg (by rw[h];decide)
theorem mpE_8{data:Int}{m:Mp}{last:Int}(h:(inZ m.1 0 281474976710655&&(inZ m.2.1 0 (data-1)&&inZ m.2.2 0 16777215))=true)(h2:m.1≤last):mpE data m last=8:=(if_pos h).trans (if_pos h2)
theorem mpE_0{data:Int}{m:Mp}{last:Int}(h:(inZ m.1 0 281474976710655&&(inZ m.2.1 0 (data-1)&&inZ m.2.2 0 16777215))=true)(h2:¬ m.1≤last):mpE data m last=0:=(if_pos h).trans (if_neg h2)
theorem dvE_2{d:Dv}{last:Int}(h:(inZ d.1.1 0 16777215&&(inZ d.1.2.1 0 2147483647&&(inZ d.1.2.2.1 0 16777215&&inZ d.1.2.2.2 0 16777215)))=false):dvE d last=2:=if_neg (by rw[h];decide)
theorem dvE_8{d:Dv}{last:Int}(h:(inZ d.1.1 0 16777215&&(inZ d.1.2.1 0 2147483647&&(inZ d.1.2.2.1 0 16777215&&inZ d.1.2.2.2 0 16777215)))=true)(h2:d.1.1≤last):dvE d last=8:=(if_pos h).trans (if_pos h2)
theorem dvE_0{d:Dv}{last:Int}(h:(inZ d.1.1 0 16777215&&(inZ d.1.2.1 0 2147483647&&(inZ d.1.2.2.1 0 16777215&&inZ d.1.2.2.2 0 16777215)))=true)(h2:¬ d.1.1≤last):dvE d last=0:=(if_pos h).trans (if_neg h2)
theorem mpE_ok{data:Int}{m:Mp}{last:Int}:mpE data m last=0↔((0≤m.1∧m.1≤281474976710655)∧(0≤m.2.1∧m.2.1<data)∧0≤m.2.2∧m.2.2≤16777215)∧last<m.1:=by
 unfold mpE
 simp only[C8,inZ_t]
 split
 ·split
  ·exact⟨fun h=>absurd h Do,fun h=>by omega⟩
  ·exact⟨fun _=>by omega,fun _=>rfl⟩
 ·exact⟨fun h=>absurd h Do,fun h=>by omega⟩
theorem dvE_ok{d:Dv}{last:Int}:dvE d last=0↔((0≤d.1.1∧d.1.1≤16777215)∧(0≤d.1.2.1∧d.1.2.1≤2147483647)∧(0≤d.1.2.2.1∧d.1.2.2.1≤16777215)∧0≤d.1.2.2.2∧d.1.2.2.2≤16777215)∧last<d.1.1:=by
 unfold dvE
 simp only[C8,inZ_t]
 split
 ·split
  ·exact⟨fun h=>absurd h Do,fun h=>by omega⟩
  ·exact⟨fun _=>by omega,fun _=>rfl⟩
 ·exact⟨fun h=>absurd h Do,fun h=>by omega⟩
theorem Fb{data:Int}:∀ {M:List Mp} {last:Int},Me data M last=0↔MapsOk data M∧∀ m∈M,last<m.1
 | [],last=>⟨fun _=>⟨.nil _,fun _ h=>by cases h⟩,fun _=>rfl⟩
 | m::r,last=>by
  have ih:=@Fb data r m.1
  show(if mpE data m last≠0 then mpE data m last else Me data r m.1)=0↔_
  by_cases h:mpE data m last=0
  ·rw[if_neg (fun q=>q h),ih]
   have h2:=mpE_ok.1 h
   constructor
   ·rintro⟨a,b⟩
    refine⟨⟨.cons b a.rise,fun x hx=>?_⟩,fun x hx=>?_⟩
    ·rcases D4.1 hx with rfl|hx
     ·exact h2.1
     ·exact a.each x hx
    ·rcases D4.1 hx with rfl|hx
     ·exact h2.2
     ·have:=b x hx;omega
   ·rintro⟨a,_⟩
    obtain⟨c1,c2⟩:=List.pairwise_cons.1 a.rise
    exact⟨⟨c2,fun x hx=>a.each x (C7 _ hx)⟩,c1⟩
  ·rw[if_pos h]
   exact⟨fun q=>absurd q h,fun q=>absurd (mpE_ok.2 ⟨q.1.each m (B9 ..),q.2 m (B9 ..)⟩) h⟩
theorem Zcs{data:Int}:∀ {L:List Dv} {last:Int},Oo data L last=0↔(L.Pairwise (fun x y=>x.1.1<y.1.1)∧∀ d∈L,DevOk data d)∧∀ d∈L,last<d.1.1
  | [],last=>⟨fun _=>⟨⟨.nil,fun _ h=>by cases h⟩,fun _ h=>by cases h⟩,fun _=>rfl⟩
  | d :: r, last => by
    have ih:=@Zcs data r d.1.1
    show(if dvE d last≠0 then dvE d last else if Me data d.2 (-1)≠0 then Me data d.2 (-1) else Oo data r d.1.1)=0↔_
    by_cases h:dvE d last=0
    · rw[if_neg (fun q=>q h)]
      have h2:=dvE_ok.1 h
      by_cases g:Me data d.2 (-1)=0
      · rw[if_neg (fun q=>q g),ih]
        have g2:=Fb.1 g
        constructor
        · rintro⟨⟨a1,a2⟩,b⟩
          refine⟨⟨.cons b a1,fun x hx=>?_⟩,fun x hx=>?_⟩
          · rcases D4.1 hx with rfl|hx
            · exact⟨h2.1.1,h2.1.2.1,h2.1.2.2.1,h2.1.2.2.2,g2.1⟩
            · exact a2 x hx
          · rcases D4.1 hx with rfl|hx
            · exact h2.2
            · have:=b x hx;omega
        · rintro⟨⟨a1,a2⟩,_⟩
          obtain⟨c1,c2⟩:=List.pairwise_cons.1 a1
          exact⟨⟨c2,fun x hx=>a2 x (C7 _ hx)⟩,c1⟩
      · rw[if_pos g]
        refine⟨fun q=>absurd q g,fun q=>absurd (Fb.2 ⟨(q.1.2 d (B9 ..)).maps,fun m hm=>?_⟩) g⟩
        have:=(q.1.2 d (B9 ..)).maps.each m hm;omega
    · rw[if_pos h]
      refine⟨fun q=>absurd q h,fun q=>absurd (dvE_ok.2 ⟨?_,q.2 d (B9 ..)⟩) h⟩
      have:=q.1.2 d (B9 ..)
      exact⟨this.id,this.tx,this.made,this.snap⟩
structure PoolOk(tx time unit data:Int)(L:List Dv):Prop where
 htx:0≤tx∧tx≤2147483647
 htime:0≤time∧time≤16777215
 hunit:1≤unit∧unit≤65536
 hdata:0≤data∧data≤65536
 devs:DevsOk data L
theorem Zbv{M:List Mp}(h:M.Pairwise (fun x y=>x.1<y.1))(h0:∀ m∈M,0≤m.1):∀ i (hi:i<M.length),(i:Int)≤M[i].1
 | 0,hi=>h0 _ (D6 hi)
 | i+1,hi=>by
  have ih:=Zbv h h0 i M0
  have:=List.pairwise_iff_getElem.1 h i (i+1) M0 hi M0
  omega
theorem maps_few{data:Int}{M:List Mp}(h:MapsOk data M):M.length≤281474976710656:=by
 by_cases h0:M.length=0
 ·omega
 ·have h1:=Zbv h.rise (fun m hm=>(h.each m hm).1.1) (M.length-1) M0
  have h2:=(h.each _ (D6 (show M.length-1<M.length by omega))).1.2
  omega
theorem sum_few{L:List Dv}{k:Nat}(h:∀ d∈L,d.2.length≤k):Qp L≤L.length*k:=by
 induction L with
 | nil=>exact A6 _
 | cons d r ih =>
  have h1:=h d (B9 ..)
  have h2:=ih fun x hx=>h x (C7 _ hx)
  have e:Qp (d::r)=d.2.length+Qp r:=rfl
  rw[e,D5,H7];omega
theorem Zde{data:Int}{L:List Dv}(hf:L.length≤4096)(h:∀ d∈L,DevOk data d):wsum L=(Qp L:Int):=by
 have h1:=sum_few fun d hd=>maps_few (h d hd).maps
 have h2:L.length*281474976710656≤4096*281474976710656:=Is _ hf
 exact IntWalk.i64_in _ M0
theorem wrap_add(a b:Int):IntKind.i64.wrap (IntKind.i64.wrap a+b)=IntKind.i64.wrap (a+b):=by
 simp only[IntKind.wrap,IntKind.signed,IntKind.bits]
 simp
 try omega
theorem Kf{tx time unit data:Int}{L:List Dv}:Ye tx time unit data L=0↔PoolOk tx time unit data L:=by
 unfold Ye
 simp only[C8,inZ_t]
 split
 ·rename_i h
  split
  ·rename_i g
   refine⟨fun q=>absurd q Do,fun q=>?_⟩
   have a:=q.devs.few
   have b:=q.devs.sum
   rw[Zde a q.devs.each] at g
   omega
  ·rename_i g
   rw[Zcs]
   constructor
   ·rintro⟨⟨a,b⟩,_⟩
    have hw:=Zde (L:=L) M0 b
    exact⟨h.1.1,h.1.2,h.2.1,h.2.2,by omega,by omega,a,b⟩
   ·intro q
    exact⟨⟨q.devs.rise,q.devs.each⟩,fun d hd=>by have:=(q.devs.each d hd).id;omega⟩
 ·rename_i h
  exact⟨fun q=>absurd q Do,fun q=>absurd ⟨⟨q.htx,q.htime⟩,q.hunit,q.hdata⟩ h⟩
theorem Zcv{L:List Dv}{n:Nat}(h:n<L.length){x:Dv}:Qp (L.take (n+1))=Qp (L.take n)+(L.getD n x).2.length:=by
 unfold Qp
 rw[A4 h,B6,E7]
 simp[List.getD,h]
theorem Jf{data:Int}{M:List Mp}{i:Nat}{x:Mp}{last:Int}(h:i<M.length):Me data (M.drop i) last=if mpE data (M.getD i x) last≠0 then mpE data (M.getD i x) last else Me data (M.drop (i+1)) (M.getD i x).1:=by
 rw[H0 h,show M.getD i x=M[i] from by simp[List.getD,h]];rfl
theorem mpsE_end{data:Int}{M:List Mp}{i:Nat}{last:Int}(h:M.length≤i):Me data (M.drop i) last=0:=by
 rw[C9 h];rfl
theorem Zba{data:Int}{L:List Dv}{i:Nat}{x:Dv}{last:Int}(h:i<L.length):Oo data (L.drop i) last=if dvE (L.getD i x) last≠0 then dvE (L.getD i x) last else if Me data (L.getD i x).2 (-1)≠0 then Me data (L.getD i x).2 (-1) else Oo data (L.drop (i+1)) (L.getD i x).1.1:=by
 rw[H0 h,show L.getD i x=L[i] from by simp[List.getD,h]];rfl
theorem dvsE_end{data:Int}{L:List Dv}{i:Nat}{last:Int}(h:L.length≤i):Oo data (L.drop i) last=0:=by
 rw[C9 h];rfl
abbrev Zv:=Dv×O0×Nat
def zvD:Zv:=(((0,0,0,0),[]),none,0)
def devZ(z:Zv):List Value:=[V0 z.1.1.1,V0 z.1.1.2.1,V0 z.1.1.2.2.1,V0 z.1.1.2.2.2,.slice z.2.1 z.1.2.length z.2.2]
theorem Xu(z:Zv):(devZ z).length=5:=rfl
structure DevsR(w:World)(p:Option Addr)(c:Nat)(Z:List Zv):Prop where
 row:Sts devZ w (.slice p Z.length c) Z
 each:∀ i,i<Z.length→Sts We w (.slice (Z.getD i zvD).2.1 (Z.getD i zvD).1.2.length (Z.getD i zvD).2.2) (Z.getD i zvD).1.2
theorem DevsR.below{w W:World}{p:O0}{c:Nat}{Z:List Zv}(h:DevsR w p c Z)(hb:Bl w W):DevsR W p c Z:=⟨h.row.below hb,fun i hi=>(h.each i hi).below hb⟩
theorem DevsR.rowN{w:World}{p:O0}{c n:Nat}{Z:List Zv}(h:DevsR w p c Z)(hn:Z.length=n):Sl w (.slice p n c) n (Z.flatMap devZ):=by subst hn;exact h.row
theorem DevsR.someN{w:World}{p:O0}{c n i:Nat}{Z:List Zv}(h:DevsR w p c Z)(hn:Z.length=n)(hi:i<n):p.isSome=true:=by subst hn;exact(Sts.cell h.row Xu zvD (k:=i) (i:=0) hi rfl).1
theorem Kd(n lo hi:Int)(w:World) :
 C0 36 #[V0 n,V0 lo,V0 hi] w (Ret (.bool (inZ n lo hi)) w):=by
 refine zin 15 Tryz.func36 ?_
 refine xg 11 [9,10] (decide (lo≤n)) (fun a0=>?_) (fun a0=>?_)
 ·have a0:=of_decide_eq_true a0
  exact xe 8 (.bool (decide (n≤hi))) ⟨by rw[show inZ n lo hi=decide (n≤hi) from by unfold inZ;exact decide_eq_decide.2 M0],(B3 w)⟩
 have a0:=of_decide_eq_false a0
 exact xe 8 (.bool false) ⟨by rw[show inZ n lo hi=false from decide_eq_false M0],(B3 w)⟩
theorem Hf(t:Int)(w:World) :
 C0 84 #[V0 t] w (Ret (.bool !(inZ t 0 16777215)) w):=by
 refine zin 6 Tryz.func84 ?_
 refine xr 8 (args:=#[V0 t,V0 0,V0 16777215]) (Kd t 0 16777215 _) fun W1 a0=>?_
 exact xe 5 (.bool (!(inZ t 0 16777215))) ⟨rfl,a0⟩
theorem indexT1(t:Int)(b:Nat)(w:World)(k:Blk w b [V0 t] 3) :
 C0 144 #[.slice (S1 b) 1 1,.func (.func 84) #[] #[]] w ((fun e w'=>((inZ t 0 16777215)=true∧e=.returned (V0 (-1))∧Bl w w')∨((inZ t 0 16777215)=false∧∃ i:Nat,e=.returned (V0 (i:Int))∧Bl w w'))):=by
 refine zin 19 Tryz.func144 ?_
 refine xu 14 2 ?_
 refine xb 23 0 k ?_
 refine xr 0 (args:=#[V0 t]) (Hf t _) fun W1 a0=>?_
 refine xi 2 (!(inZ t 0 16777215)) (fun a1=>?_) (fun a1=>?_)
 ·exact xe 12 (V0 0) (.inr ⟨by simp_all,0,rfl,a0⟩)
 exact xe 26 (V0 (-1)) (.inl ⟨by simp_all,rfl,a0⟩)
theorem Au(t:Int)(b:Nat)(w:World)(k:Blk w b [V0 t] 3) :
 C0 83 #[.slice (S1 b) 1 1,.func (.func 84) #[] #[]] w (Ret (.bool !(inZ t 0 16777215)) w):=by
 refine zin 9 Tryz.func83 ?_
 refine xc 9 (args:=#[.slice (S1 b) 1 1,.func (.func 84) #[] #[]]) (indexT1 t b _ k) ?_
 rintro e W1 a1
 rcases a1 with ⟨hz,rfl,a0⟩|⟨hz,i0,rfl,a0⟩
 ·exact xe 5 (.bool false) ⟨by first|(rw[hz];rfl)|(rw[hz,decide_eq_true M0];rfl),a0⟩
 exact xe 5 (.bool (decide ((i0:Int)≥(0:Int)))) ⟨by first|(rw[hz];rfl)|(rw[hz,decide_eq_true M0];rfl),a0⟩
theorem Cc(tx:Int)(t:Int)(b:Nat)(w:World)(k:Blk w b [V0 t] 3) :
 C0 35 #[V0 tx,.slice (S1 b) 1 1] w (Ret (.bool ((inZ tx 0 2147483647)&&(inZ t 0 16777215))) w):=by
 refine zin 12 Tryz.func35 ?_
 refine xr 8 (args:=#[V0 tx,V0 0,V0 2147483647]) (Kd tx 0 2147483647 _) fun W1 a0=>?_
 refine xg 1 [6,7] (inZ tx 0 2147483647) (fun a3=>?_) (fun a3=>?_)
 ·have a2:=k.below a0
  refine xr 1 (args:=#[.slice (S1 b) 1 1,.func (.func 84) #[] #[]]) (Au t b _ a2) fun W3 a1=>?_
  have hB:=bln a0 a1
  exact xe 6 (.bool (!(!(inZ t 0 16777215)))) ⟨by simp_all,hB⟩
 exact xe 8 (.bool false) ⟨by simp_all,a0⟩
theorem indexT2(t u:Int)(b:Nat)(w:World)(k:Blk w b [V0 t,V0 u] 3) :
 C0 144 #[.slice (S1 b) 2 2,.func (.func 84) #[] #[]] w ((fun e w'=>(((inZ t 0 16777215)&&(inZ u 0 16777215))=true∧e=.returned (V0 (-1))∧Bl w w')∨(((inZ t 0 16777215)&&(inZ u 0 16777215))=false∧∃ i:Nat,e=.returned (V0 (i:Int))∧Bl w w'))):=by
 refine zin 19 Tryz.func144 ?_
 refine xu 14 3 ?_
 refine xb 23 0 k ?_
 refine xr 0 (args:=#[V0 t]) (Hf t _) fun W1 a0=>?_
 refine xi 2 (!(inZ t 0 16777215)) (fun a4=>?_) (fun a4=>?_)
 ·exact xe 12 (V0 0) (.inr ⟨by simp_all,0,rfl,a0⟩)
 have a2:=k.below a0
 refine xb 31 1 a2 ?_
 refine xr 0 (args:=#[V0 u]) (Hf u _) fun W3 a1=>?_
 refine xi 2 (!(inZ u 0 16777215)) (fun a3=>?_) (fun a3=>?_)
 ·have hB:=bln a0 a1
  exact xe 12 (V0 1) (.inr ⟨by simp_all,1,rfl,hB⟩)
 have hB:=bln a0 a1
 exact xe 26 (V0 (-1)) (.inl ⟨by simp_all,rfl,hB⟩)
theorem Tn(t u:Int)(b:Nat)(w:World)(k:Blk w b [V0 t,V0 u] 3) :
 C0 83 #[.slice (S1 b) 2 2,.func (.func 84) #[] #[]] w (Ret (.bool !((inZ t 0 16777215)&&(inZ u 0 16777215))) w):=by
 refine zin 9 Tryz.func83 ?_
 refine xc 9 (args:=#[.slice (S1 b) 2 2,.func (.func 84) #[] #[]]) (indexT2 t u b _ k) ?_
 rintro e W1 a1
 rcases a1 with ⟨hz,rfl,a0⟩|⟨hz,i0,rfl,a0⟩
 ·exact xe 5 (.bool false) ⟨by first|(rw[hz];rfl)|(rw[hz,decide_eq_true M0];rfl),a0⟩
 exact xe 5 (.bool (decide ((i0:Int)≥(0:Int)))) ⟨by first|(rw[hz];rfl)|(rw[hz,decide_eq_true M0];rfl),a0⟩
theorem De(tx:Int)(t u:Int)(b:Nat)(w:World)(k:Blk w b [V0 t,V0 u] 3) :
 C0 35 #[V0 tx,.slice (S1 b) 2 2] w (Ret (.bool ((inZ tx 0 2147483647)&&((inZ t 0 16777215)&&(inZ u 0 16777215)))) w):=by
 refine zin 12 Tryz.func35 ?_
 refine xr 8 (args:=#[V0 tx,V0 0,V0 2147483647]) (Kd tx 0 2147483647 _) fun W1 a0=>?_
 refine xg 1 [6,7] (inZ tx 0 2147483647) (fun a3=>?_) (fun a3=>?_)
 ·have a2:=k.below a0
  refine xr 1 (args:=#[.slice (S1 b) 2 2,.func (.func 84) #[] #[]]) (Tn t u b _ a2) fun W3 a1=>?_
  have hB:=bln a0 a1
  exact xe 6 (.bool (!(!((inZ t 0 16777215)&&(inZ u 0 16777215))))) ⟨by simp_all,hB⟩
 exact xe 8 (.bool false) ⟨by simp_all,a0⟩
theorem Dz(d:Dv)(last:Int)(a:O0)(n c:Nat)(w:World) :
 C0 38 #[.agg #[V0 d.1.1,V0 d.1.2.1,V0 d.1.2.2.1,V0 d.1.2.2.2,.slice a n c],V0 last] w (Ret (V0 (dvE d last)) w):=by
 refine zin 26 Tryz.func38 ?_
 refine xa 2 [V0 d.1.1,V0 d.1.2.1,V0 d.1.2.2.1,V0 d.1.2.2.2,.slice a n c] 32 fun b1 W1 n1=>?_
 refine xb 8 0 n1.blk ?_
 refine xr 0 (args:=#[V0 d.1.1,V0 0,V0 16777215]) (Kd d.1.1 0 16777215 _) fun W2 a3=>?_
 refine xg 2 [9,10] (!(inZ d.1.1 0 16777215)) (fun a0=>?_) (fun a0=>?_)
 ·have a0:=Cr a0
  have hB:=bln n1.below a3
  exact xe 22 (V0 2) ⟨by rw[dvE_2 (by rw[a0];rfl)],hB⟩
 have a0:=Ck a0
 have a1:=n1.blk.below a3
 refine xb 1 1 a1 ?_
 refine xb 1 2 a1 ?_
 refine xb 1 3 a1 ?_
 refine xbs 0 2 [V0 d.1.2.2.1,V0 d.1.2.2.2] 3 fun b4 W4 n4=>?_
 refine xr 0 (args:=#[V0 d.1.2.1,.slice (S1 b4) 2 2]) (De d.1.2.1 d.1.2.2.1 d.1.2.2.2 b4 _ n4.blk) fun W5 a4=>?_
 refine xi 5 (!((inZ d.1.2.1 0 2147483647)&&((inZ d.1.2.2.1 0 16777215)&&(inZ d.1.2.2.2 0 16777215)))) (fun a2=>?_) (fun a2=>?_)
 ·have a2:=Cr a2
  have hB:=bln (bln (bln n1.below a3) n4.below) a4
  exact xe 8 (V0 2) ⟨by rw[dvE_2 (by rw[a0,a2];rfl)],hB⟩
 have a2:=Ck a2
 have a5:=(a1.below n4.below).below a4
 refine xb 3 0 a5 ?_
 refine xid 5 (d.1.1≤last) (fun a6=>?_) (fun a6=>?_)
 ·have hB:=bln (bln (bln n1.below a3) n4.below) a4
  exact xe 8 (V0 8) ⟨by rw[dvE_8 (by rw[a0,a2];rfl) M0],hB⟩
 have hB:=bln (bln (bln n1.below a3) n4.below) a4
 exact xe 9 (V0 0) ⟨by rw[dvE_0 (by rw[a0,a2];rfl) M0],hB⟩
theorem Ds(a:O0)(c:Nat)(L:List Mp)(data:Int)(w:World)(hd:0≤data∧data≤65536)(ha:Sts We w (.slice a L.length c) L) :
 C0 39 #[.slice a L.length c,V0 data] w (Ret (V0 (Me data L (-1))) w):=by
 have c1:=Sl.len ha
 refine zin 41 Tryz.func39 ?_
 have hB:=Below.refl w.heap.size w
 refine zl 19 41 (fun zm c0 V=>∃ (i:Nat) (a4:Int),c0=[(1,V0 data),(5,V0 a4),(8,.slice a L.length c),(9,V0 (L.length:Int)),(10,V0 (i:Int))]∧zm=L.length-((i:Int)).toNat∧Bl w V∧i≤L.length∧Me data L (-1)=Me data (L.drop i) a4) ⟨0,(-1),rfl,rfl,hB,A6 _,rfl⟩ ?_
 rintro _ _ W1 ⟨i,a4,rfl,rfl,a1,hi,he⟩ J1 b8 r1
 refine xid 6 ((i:Int)<(L.length:Int)) (fun b9=>?_) (fun b9=>?_)
 ·refine xx 6 _ L.length i 3 (Sts.cell ha Yf mpD (k:=i) (i:=0) M0 rfl).1 ?_
  refine xlv 0 (Sts.rp (k:=i) (ha.below a1) Yf mpD M0 Do) ?_
  refine xa 0 [V0 0,V0 0,V0 0] 63 fun b3 W3 n3=>?_
  have g3:=n3.ge a1
  refine xsv 0 n3.blk [V0 ((L.getD i mpD).1),V0 ((L.getD i mpD).2.1),V0 ((L.getD i mpD).2.2)] fun W4 u4 k4=>?_
  refine xb 7 0 k4 ?_
  refine xr 0 (args:=#[V0 ((L.getD i mpD).1),V0 0,V0 281474976710655]) (Kd ((L.getD i mpD).1) 0 281474976710655 _) fun W5 a5=>?_
  refine xg 2 [18,19] (!(inZ ((L.getD i mpD).1) 0 281474976710655)) (fun a2=>?_) (fun a2=>?_)
  ·have a2:=Cr a2
   have b5:=bln (u4.below (bln a1 n3.below) g3) a5
   exact xe 30 (V0 2) ⟨by rw[he,Jf (x:=mpD) M0,mpE_2 (by rw[a2];rfl)];rfl,b5⟩
  have a2:=Ck a2
  have a8:=k4.below a5
  refine xb 1 1 a8 ?_
  refine xw 1 (data-1) ?_
  refine xr 0 (args:=#[V0 ((L.getD i mpD).2.1),V0 0,V0 (data-1)]) (Kd ((L.getD i mpD).2.1) 0 (data-1) _) fun W7 a9=>?_
  refine xg 3 [25,26,27] (!(inZ ((L.getD i mpD).2.1) 0 (data-1))) (fun a3=>?_) (fun a3=>?_)
  ·have a3:=Cr a3
   have b6:=bln (bln (u4.below (bln a1 n3.below) g3) a5) a9
   exact xe 22 (V0 2) ⟨by rw[he,Jf (x:=mpD) M0,mpE_2 (by rw[a2,a3];rfl)];rfl,b6⟩
  have a3:=Ck a3
  have a7:=a8.below a9
  refine xb 1 2 a7 ?_
  refine xr 0 (args:=#[V0 ((L.getD i mpD).2.2),V0 0,V0 16777215]) (Kd ((L.getD i mpD).2.2) 0 16777215 _) fun W9 b0=>?_
  refine xi 5 (!(inZ ((L.getD i mpD).2.2) 0 16777215)) (fun a0=>?_) (fun a0=>?_)
  ·have a0:=Cr a0
   have b7:=bln (bln (bln (u4.below (bln a1 n3.below) g3) a5) a9) b0
   exact xe 13 (V0 2) ⟨by rw[he,Jf (x:=mpD) M0,mpE_2 (by rw[a2,a3,a0];rfl)];rfl,b7⟩
  have a0:=Ck a0
  have a6:=a7.below b0
  refine xb 3 0 a6 ?_
  refine xid 5 ((L.getD i mpD).1≤a4) (fun b4=>?_) (fun b4=>?_)
  ·have b2:=bln (bln (bln (u4.below (bln a1 n3.below) g3) a5) a9) b0
   exact xe 13 (V0 8) ⟨by rw[he,Jf (x:=mpD) M0,mpE_8 (by rw[a2,a3,a0];rfl) M0];rfl,b2⟩
  refine xb 5 0 a6 ?_
  refine xwm 5 ((i:Int)+1) (↑(i+1):Int) ?_
  have b1:=bln (bln (bln (u4.below (bln a1 n3.below) g3) a5) a9) b0
  exact ze 2 (b8 _ _ _ ⟨i+1,(L.getD i mpD).1,rfl,rfl,b1,by omega,by rw[he,Jf (x:=mpD) M0,mpE_0 (by rw[a2,a3,a0];rfl) M0];rfl⟩ M0)
 exact xe 11 (V0 0) ⟨by rw[he,mpsE_end M0],a1⟩
theorem Zdo{Z:List Zv}{i:Nat}(h:i<Z.length)(x:Dv):(Z.map Prod.fst).getD i x=(Z.getD i zvD).1:=by simp[List.getD,h]
theorem Gy{data:Int}{Z:List Zv}{i:Nat}{last:Int}(h:i<Z.length):Oo data ((Z.map Prod.fst).drop i) last=if dvE (Z.getD i zvD).1 last≠0 then dvE (Z.getD i zvD).1 last else if Me data (Z.getD i zvD).1.2 (-1)≠0 then Me data (Z.getD i zvD).1.2 (-1) else Oo data ((Z.map Prod.fst).drop (i+1)) (Z.getD i zvD).1.1.1:=by
 rw[Zba (x:=zvD.1) (by rw[A0];exact h),Zdo h]
theorem Gz{Z:List Zv}{i:Nat}(h:i<Z.length):Qp ((Z.map Prod.fst).take (i+1))=Qp ((Z.map Prod.fst).take i)+(Z.getD i zvD).1.2.length:=by
 rw[Zcv (x:=zvD.1) (by rw[A0];exact h),Zdo h]
theorem Ag(p:O0)(c n:Nat)(t u v x:Int)(Z:List Zv)(w:World)(hZ:Z.length=n)(hP:DevsR w p c Z) :
 C0 37 #[.agg #[V0 t,V0 u,V0 v,V0 x,.slice p n c]] w (Ret (V0 (wsum (Z.map Prod.fst))) w):=by
 have a7:=Sl.len (hP.rowN hZ)
 refine zin 20 Tryz.func37 ?_
 refine xa 2 [V0 t,V0 u,V0 v,V0 x,.slice p n c] 24 fun b1 W1 n1=>?_
 refine xb 12 4 n1.blk ?_
 refine zl 5 20 (fun zm a6 V=>∃ (i:Nat),a6=[(2,V0 0),(3,V0 (IntKind.i64.wrap (↑(Qp ((Z.map Prod.fst).take i)):Int))),(7,.slice p n c),(8,V0 (n:Int)),(9,V0 (i:Int))]∧zm=n-((i:Int)).toNat∧Bl w V∧Blk V b1 ([V0 t,V0 u,V0 v,V0 x,.slice p n c]) 24∧i≤n) ⟨0,rfl,rfl,n1.below,n1.blk,A6 _⟩ ?_
 rintro _ _ W2 ⟨i,rfl,rfl,a1,a2,hi⟩ J2 a5 r2
 refine xid 6 ((i:Int)<(n:Int)) (fun a4=>?_) (fun a4=>?_)
 ·refine xx 6 _ n i 5 (hP.someN hZ (i:=i) M0) ?_
  refine xlv 0 (Sts.rp (k:=i) (hP.below a1).row Xu zvD M0 Do) ?_
  refine xa 0 [V0 0,V0 0,V0 0,V0 0,S0] 32 fun b4 W4 n4=>?_
  have g4:=n4.ge a1
  refine xsv 0 n4.blk [V0 ((Z.getD i zvD).1.1.1),V0 ((Z.getD i zvD).1.1.2.1),V0 ((Z.getD i zvD).1.1.2.2.1),V0 ((Z.getD i zvD).1.1.2.2.2),.slice ((Z.getD i zvD).2.1) ((Z.getD i zvD).1.2.length) ((Z.getD i zvD).2.2)] fun W5 u5 k5=>?_
  refine xb 5 4 k5 ?_
  refine xwm 7 ((i:Int)+1) (↑(i+1):Int) ?_
  refine xv1 2 3 (show(V0 (IntKind.i64.wrap ((IntKind.i64.wrap (↑(Qp ((Z.map Prod.fst).take i)):Int))+(↑((Z.getD i zvD).1.2.length):Int))):Value)=V0 (IntKind.i64.wrap (↑(Qp ((Z.map Prod.fst).take (i+1))):Int)) from congrArg V0 ((wrap_add _ _).trans (congrArg IntKind.i64.wrap (by have:=Gz (Z:=Z) (i:=i) M0;omega)))) ?_
  have a3:=u5.below (bln a1 n4.below) g4
  have a0:=u5.blkT (a2.below n4.below) n4.blk Do
  exact ze 0 (a5 _ _ _ ⟨i+1,rfl,rfl,a3,a0,by omega⟩ M0)
 exact xe 12 (V0 (IntKind.i64.wrap (↑(Qp ((Z.map Prod.fst).take i)):Int))) ⟨by unfold wsum;rw[A5 (by rw[A0];omega)],a1⟩
theorem Nc{tx time unit data:Int}{L:List Dv}(h:((inZ tx 0 2147483647&&inZ time 0 16777215)&&(inZ unit 1 65536&&inZ data 0 65536))=false):Ye tx time unit data L=2:=if_neg (by rw[h];decide)
theorem Bh{tx time unit data:Int}{L:List Dv}(h:((inZ tx 0 2147483647&&inZ time 0 16777215)&&(inZ unit 1 65536&&inZ data 0 65536))=true)(h2:4096<L.length∨16384<wsum L):Ye tx time unit data L=2:=(if_pos h).trans (if_pos h2)
theorem Ud{tx time unit data:Int}{L:List Dv}(h:((inZ tx 0 2147483647&&inZ time 0 16777215)&&(inZ unit 1 65536&&inZ data 0 65536))=true)(h2:¬ (4096<L.length∨16384<wsum L)):Ye tx time unit data L=Oo data L (-1):=(if_pos h).trans (if_neg h2)
theorem Vm(p:O0)(c n:Nat)(t u v x:Int)(Z:List Zv)(w:World)(hZ:Z.length=n)(hP:DevsR w p c Z) :
 C0 12 #[.agg #[V0 t,V0 u,V0 v,V0 x,.slice p n c]] w (Ret (V0 (Ye t u v x (Z.map Prod.fst))) w):=by
 have f1:=Sl.len (hP.rowN hZ)
 refine zin 60 Tryz.func12 ?_
 refine xa 2 [V0 t,V0 u,V0 v,V0 x,.slice p n c] 24 fun b1 W1 n1=>?_
 refine xb 7 0 n1.blk ?_
 refine xb 1 1 n1.blk ?_
 refine xbs 0 1 [V0 u] 3 fun b2 W2 n2=>?_
 refine xr 0 (args:=#[V0 t,.slice (S1 b2) 1 1]) (Cc t u b2 _ n2.blk) fun W3 b9=>?_
 refine xg 2 [14,15] (!((inZ t 0 2147483647)&&(inZ u 0 16777215))) (fun a3=>?_) (fun a3=>?_)
 ·have a3:=Cr a3
  have hB:=bln (bln n1.below n2.below) b9
  exact xe 21 (V0 2) ⟨by rw[Nc (by rw[a3];rfl)],hB⟩
 have a3:=Ck a3
 have c7:=(n1.blk.below n2.below).below b9
 refine xb 1 2 c7 ?_
 refine xr 0 (args:=#[V0 v,V0 1,V0 65536]) (Kd v 1 65536 _) fun W5 c2=>?_
 refine xg 3 [19,20,21] (!(inZ v 1 65536)) (fun a4=>?_) (fun a4=>?_)
 ·have a4:=Cr a4
  have hB:=bln (bln (bln n1.below n2.below) b9) c2
  exact xe 15 (V0 2) ⟨by rw[Nc (by rw[a3,a4];rfl)],hB⟩
 have a4:=Ck a4
 have c4:=c7.below c2
 refine xb 1 3 c4 ?_
 refine xr 0 (args:=#[V0 x,V0 0,V0 65536]) (Kd x 0 65536 _) fun W7 c8=>?_
 refine xi 4 (!(inZ x 0 65536)) (fun a5=>?_) (fun a5=>?_)
 ·have a5:=Cr a5
  have hB:=bln (bln (bln (bln n1.below n2.below) b9) c2) c8
  exact xe 7 (V0 2) ⟨by rw[Nc (by rw[a3,a4,a5];rfl)],hB⟩
 have a5:=Ck a5
 have b6:=c4.below c8
 refine xb 6 4 b6 ?_
 refine xg 3 [30,31] (decide ((n:Int)>(4096:Int))) (fun c5=>?_) (fun c5=>?_)
 ·have c5:=of_decide_eq_true c5
  have hB:=bln (bln (bln (bln n1.below n2.below) b9) c2) c8
  exact xe 14 (V0 2) ⟨by rw[Bh (by rw[a3,a4,a5];rfl) (by rw[A0];omega)],hB⟩
 have c5:=of_decide_eq_false c5
 refine xlv 0 b6.rp ?_
 have hB:=bln (bln (bln (bln n1.below n2.below) b9) c2) c8
 refine xr 0 (args:=#[.agg #[V0 t,V0 u,V0 v,V0 x,.slice p n c]]) (Ag p c n t u v x Z _ hZ (hP.below hB)) fun e7 b3=>?_
 refine xid 4 ((wsum (Z.map Prod.fst))>(16384:Int)) (fun d5=>?_) (fun d5=>?_)
 ·have d6:=bln hB b3
  exact xe 7 (V0 2) ⟨by rw[Bh (by rw[a3,a4,a5];rfl) (by rw[A0];omega)],d6⟩
 have d3:¬ (4096<(Z.map Prod.fst).length∨16384<wsum (Z.map Prod.fst)):=by rw[A0];omega
 have c3:=b6.below b3
 refine xb 11 4 c3 ?_
 have d7:=bln hB b3
 have d9:=(((n2.blk.below b9).below c2).below c8).below b3
 refine zl 5 60 (fun zm e2 V=>∃ (i:Nat) (a2:Int),e2=[(1,P0 b1),(3,V0 a2),(37,.slice p n c),(38,V0 (n:Int)),(39,V0 (i:Int))]∧zm=n-((i:Int)).toNat∧Bl w V∧Blk V b1 ([V0 t,V0 u,V0 v,V0 x,.slice p n c]) 24∧Blk V b2 ([V0 u]) 3∧i≤n∧Oo x (Z.map Prod.fst) (-1)=Oo x ((Z.map Prod.fst).drop i) a2) ⟨0,(-1),rfl,rfl,d7,c3,d9,A6 _,rfl⟩ ?_
 rintro _ _ e3 ⟨i,a2,rfl,rfl,a1,c0,b7,hi,he⟩ e4 d0 f2
 have hx:=inZ_t.1 a5
 refine xid 6 ((i:Int)<(n:Int)) (fun d4=>?_) (fun d4=>?_)
 ·refine xx 6 _ n i 5 (hP.someN hZ (i:=i) M0) ?_
  refine xlv 0 (Sts.rp (k:=i) (hP.below a1).row Xu zvD M0 Do) ?_
  refine xa 0 [V0 0,V0 0,V0 0,V0 0,S0] 32 fun e8 e9 b5=>?_
  have e1:=b5.ge a1
  refine xsv 0 b5.blk [V0 ((Z.getD i zvD).1.1.1),V0 ((Z.getD i zvD).1.1.2.1),V0 ((Z.getD i zvD).1.1.2.2.1),V0 ((Z.getD i zvD).1.1.2.2.2),.slice ((Z.getD i zvD).2.1) ((Z.getD i zvD).1.2.length) ((Z.getD i zvD).2.2)] fun e5 c9 e0=>?_
  refine xlv 5 e0.rp ?_
  refine xr 1 (args:=#[.agg #[V0 ((Z.getD i zvD).1.1.1),V0 ((Z.getD i zvD).1.1.2.1),V0 ((Z.getD i zvD).1.1.2.2.1),V0 ((Z.getD i zvD).1.1.2.2.2),.slice ((Z.getD i zvD).2.1) ((Z.getD i zvD).1.2.length) ((Z.getD i zvD).2.2)],V0 a2]) (Dz (Z.getD i zvD).1 a2 _ _ _ _) fun e6 a8=>?_
  refine xin 9 (dvE (Z.getD i zvD).1 a2) (0:Int) (fun b0=>?_) (fun b0=>?_)
  ·have d8:=bln (c9.below (bln a1 b5.below) e1) a8
   exact xe 13 (V0 (dvE (Z.getD i zvD).1 a2)) ⟨by rw[Ud (by rw[a3,a4,a5];rfl) d3,he,Gy M0,if_pos b0],d8⟩
  have b4:=e0.below a8
  refine xb 6 4 b4 ?_
  have a0:=(c9.blkT (c0.below b5.below) b5.blk Do).below a8
  refine xb 1 3 a0 ?_
  have b8:=bln (c9.below (bln a1 b5.below) e1) a8
  refine xr 0 (args:=#[.slice ((Z.getD i zvD).2.1) ((Z.getD i zvD).1.2.length) ((Z.getD i zvD).2.2),V0 x]) (Ds _ _ (Z.getD i zvD).1.2 x _ hx ((hP.below b8).each i M0)) fun f0 a6=>?_
  refine xin 9 (Me x (Z.getD i zvD).1.2 (-1)) (0:Int) (fun c1=>?_) (fun c1=>?_)
  ·have d1:=bln b8 a6
   exact xe 13 (V0 (Me x (Z.getD i zvD).1.2 (-1))) ⟨by rw[Ud (by rw[a3,a4,a5];rfl) d3,he,Gy M0,if_neg (fun q=>q b0),if_pos c1],d1⟩
  have c6:=b4.below a6
  refine xb 4 0 c6 ?_
  refine xwm 5 ((i:Int)+1) (↑(i+1):Int) ?_
  have d2:=bln b8 a6
  have a9:=a0.below a6
  have a7:=((c9.blkT (b7.below b5.below) b5.blk Do).below a8).below a6
  exact ze 2 (d0 _ _ _ ⟨i+1,(Z.getD i zvD).1.1.1,rfl,rfl,d2,a9,a7,by omega,by rw[he,Gy M0,if_neg (fun q=>q b0),if_neg (fun q=>q c1)]⟩ M0)
 exact xe 11 (V0 0) ⟨by rw[Ud (by rw[a3,a4,a5];rfl) d3,he,dvsE_end (by rw[A0];omega)],a1⟩
def Ns(t:Int)(leaf:Bool)(n m v:Nat):Bi:=leB (La leaf) 1++leB t 1++leB (n:Int) 2++leB (v:Int) 2++leB (m:Int) 2++leB 0 4
theorem Nh(t:Int)(leaf:Bool)(n m v:Nat):(Ns t leaf n m v).length=12:=by simp[Ns,Zl]
def Gg(m v:Nat)(H:Bi)(K:List Int)(Vs:List Bi):Nat→Bi
 | 0=>Vy (List.replicate 244 0) 0 H
 | i+1=>Vy (Vy (Gg m v H K Vs i) (12+i*8) (leB (K.getD i 0) 8)) (12+m*8+i*v) (Vs.getD i [])
theorem Ct{m v:Nat}{H:Bi}{K:List Int}{Vs:List Bi}(hH:H.length=12)(hf:12+m*8+m*v≤244):∀ {i:Nat},i≤m→(∀ j,j<i→(Vs.getD j []).length=v)→(Gg m v H K Vs i).length=244
 | 0,_,_=>by rw[Gg,Ve (by rw[A8];omega),A8]
 | i+1,hi,hV=>by
  have ih:=Ct (K:=K) hH hf (i:=i) M0 (fun j hj=>hV j M0)
  have h1:=hV i M0
  have h2:(i+1)*v≤m*v:=Is v hi
  rw[H7,Nat.one_mul] at h2
  have h3:(Vy (Gg m v H K Vs i) (12+i*8) (leB (K.getD i 0) 8)).length=244:=by rw[Ve (by rw[Zl,ih];omega),ih]
  rw[Gg,Ve (by rw[h1,h3];omega),h3]
theorem node_Put(t:Int)(leaf:Bool)(n m v:Nat)(K:List Int)(Vs:List Bi)(ak av:O0)(ck cv:Nat)(w:World)(N:NodeOk t leaf n m v K Vs)(hKs:Sl w (.slice ak n ck) n (K.map V0))(hVs:Sl w (.slice av n cv) n (Vs.map sv)) :
 C0 260 #[.agg #[V0 t,.bool leaf,.slice ak n ck,.slice av n cv]] w (Qh (fun w' r=>∃ p c,r=.tuple #[.slice p 244 c,V0 0]∧w'.ownsRow w.heap.size 5 1 (.slice p 244 c) 244 ((Gg m v (Ns t leaf n m v) K Vs n).map bv)) w):=by
 have e4:=N.ht1
 have e2:=N.ht2
 have g3:=N.hn
 have f4:=Fh t leaf
 rw[N.hv] at f4
 have f3:=Yk t leaf
 rw[N.hm] at f3
 have d5:=fitN t leaf
 rw[N.hm,N.hv] at d5
 have f0:=Sl.cap hKs
 refine zin 90 Tryz.func260 ?_
 refine xa 2 [V0 t,.bool leaf,.slice ak n ck,.slice av n cv] 191 fun b1 W1 n1=>?_
 refine xlv 7 n1.blk.rp ?_
 refine xr 0 (args:=#[.agg #[V0 t,.bool leaf,.slice ak n ck,.slice av n cv]]) (Tx t leaf n m v K Vs ak av ck cv _ N (hKs.below n1.below) (hVs.below n1.below)) fun W2 e6=>?_
 refine xd 7 .z ?_
 have a3:=(n1.blk.below e6).below (Zb W2)
 refine xb (.e [0] 1) 0 a3 ?_
 refine xb (.e [2] 3) 1 a3 ?_
 refine xb (.e [5] 6) 0 a3 ?_
 refine xb (.e [7] 8) 1 a3 ?_
 refine xr (.o [] 4) (args:=#[V0 t,.bool leaf]) (Hl t leaf v N.hv e4 e2 _) fun W3 e5=>?_
 refine xr (.o [] 9) (args:=#[V0 t,.bool leaf]) (Ni t leaf m N.hm e4 e2 _) fun W4 e3=>?_
 refine xd (.r [10,11] 3) .z ?_
 have a7:=((a3.below e5).below e3).below (Zb W4)
 refine xb (.e [0] 1) 1 a7 ?_
 refine xb (.e [4] 5) 0 a7 ?_
 refine xb (.e [6,7] 8) 2 a7 ?_
 refine xr (.o [9,10,11,12,13,14,15] 2) (args:=#[.bool leaf]) (Zbr leaf _) fun W5 e9=>?_
 refine xbs (.o [3] 16) 6 [V0 1,V0 (La leaf),V0 1,V0 t,V0 2,V0 (n:Int),V0 2,V0 (v:Int),V0 2,V0 (m:Int),V0 4,V0 0] 178 fun b6 W6 n6=>?_
 have b4:=bln (bln (bln (bln (bln (bln n1.below e6) (Zb W2)) e5) e3) (Zb W4)) e9
 have g6:=n6.ge b4
 refine yc (.o [] 17) (args:=#[.slice (S1 b6) 6 6]) .z (Zag b6 (La leaf) t (n:Int) (v:Int) (m:Int) (Sj leaf).1 (Sj leaf).2 M0 M0 M0 M0 M0 M0 M0 M0 _ n6.blk) ?_
 rintro _ W7 ⟨_,rfl,c8,p2,c2,rfl,h2⟩
 have f2:=(bln b4 n6.below).size
 refine⟨c8,?_⟩
 refine xmk (.r [18,19,20,21,22] 4) fun _ _ _ _ zJ zQ zo zx zy zK=>Ka 244 (.int .u8 0) 1 1 ((List.replicate 244 (0:UInt8)).map bv) zo zx zy Tryz.underlying50 K0 rfl M0 M0 (Cy 244) fun b8 W8 n8=>?_
 have c5:=bln (bln b4 n6.below) c8
 have g8:=n8.ge c5
 have c4:=Zf h2 f2
 have e0:=Zg c4 n8
 refine zK _ _ ?_
 have o8:=Xg (size:=1) (n:=244) n8.blk g8 (by rw[A0,A8]) (by unfold maxLen;omega)
 have d9:=Za c4 n8.below
 have c6:=bln c5 n8.below
 refine xbi 7 (t2:=50) fun _ _ _ _ zJ zQ zo zx zy zK=>Jd (dLen:=244) (dCap:=244) (off:=0) 12 ((Ns t leaf n m v).map bv) ((Gg m v (Ns t leaf n m v) K Vs 0).map bv) zo Tryz.underlying50 K0 zx zy (Ze d9) o8 (by simp[Nh]) M0 M0 (Xw _) c6.size (by simp[Gg,Vy,Nh]) fun W9 o9 e1 e7=>?_
 refine zK _ _ ?_
 have b9:=((((a7.below e9).below n6.below).below c8).below n8.below).grown e1 o8 Do
 refine xb 6 2 b9 ?_
 have d4:=c6.trans e7
 have d3:=((n6.blk.below c8).below n8.below).grown e1 o8 Do
 refine zl 5 90 (fun zm f6 V=>∃ (i:Nat),f6=[(1,P0 b1),(2,S0),(3,V0 0),(4,V0 (v:Int)),(5,V0 (m:Int)),(8,.slice (S1 b8) 244 244),(52,.slice ak n ck),(53,V0 (n:Int)),(54,V0 (i:Int))]∧zm=n-((i:Int)).toNat∧Bl w V∧Blk V b1 ([V0 t,.bool leaf,.slice ak n ck,.slice av n cv]) 191∧Blk V b6 ([V0 1,V0 (La leaf),V0 1,V0 t,V0 2,V0 (n:Int),V0 2,V0 (v:Int),V0 2,V0 (m:Int),V0 4,V0 0]) 178∧V.ownsRow w.heap.size 5 1 (.slice (S1 b8) 244 244) 244 ((Gg m v (Ns t leaf n m v) K Vs i).map bv)∧i≤n) ⟨0,rfl,rfl,d4,b9,d3,o9,A6 _⟩ ?_
 rintro _ _ g2 ⟨i,rfl,rfl,a1,b5,a6,ho,hi⟩ g5 d1 g1
 have e7:i<n→i*v+v≤m*v:=fun h=>by have h9:(i+1)*v≤m*v:=Is v M0;rw[H7,Nat.one_mul] at h9;exact h9
 refine xid 6 ((i:Int)<(n:Int)) (fun d6=>?_) (fun d6=>?_)
 ·refine xx 7 _ n i 1 (IntsN.elem hKs N.hK (k:=i) M0).1 ?_
  refine xl 0 ((IntsN.elem (hKs.below a1) N.hK (k:=i) M0).2) ?_
  refine xbs 8 1 [V0 8,V0 (K.getD i 0)] 178 fun e8 f7 a9=>?_
  have d0:=a9.ne a6
  have f8:=a9.ge a1
  refine xc 0 (args:=#[.slice (S1 e8) 1 1]) (Zcq e8 (K.getD i 0) (N.hk0 i M0).1 _ a9.blk) ?_
  rintro _ g0 ⟨_,rfl,a8,p3,c3,rfl,h3⟩
  have c9:=(bln a1 a9.below).size
  refine xwm 11 ((i:Int)*8) (↑(i*8):Int) ?_
  refine xwm 0 (12+(↑(i*8):Int)) (↑(12+(i*8)):Int) ?_
  refine xsL 0 (fun _ _ _ _ zo zx zy V=>Jt (k:=(12+(i*8))) (b:=b8) (off:=0) (n:=244) (c:=244) (i:=(↑(12+(i*8)):Int)) (ki:=.i64) 1 zo zx zy rfl M0 M0 Tryz.underlying50 K0 V) ?_
  have b2:=Za (Za ho a9.below) a8
  have d8:=Zf h3 c9
  have b7:=bln (bln a1 a9.below) a8
  refine xbi 1 (t2:=50) fun _ _ _ _ zJ zQ zo zx zy zK=>Jd (dLen:=(244-(12+(i*8)))) (dCap:=(244-(12+(i*8)))) (off:=(0+(12+(i*8))*1)) 8 ((leB (K.getD i 0) 8).map bv) ((Vy (Gg m v (Ns t leaf n m v) K Vs i) (12+i*8) (leB (K.getD i 0) 8)).map bv) zo Tryz.underlying50 K0 zx zy (Ze d8) b2 (by simp[Zl]) M0 M0 (Xw _) b7.size (by simp[Vy,Zl,E5,G6]) fun c7 f5 c1 d7=>?_
  refine zK _ _ ?_
  refine xd 2 (.t w.heap.size [5]) ?_
  refine xwm (.e [0,1] 2) ((m:Int)*8) (↑(m*8):Int) ?_
  refine xwm (.e [] 3) (12+(↑(m*8):Int)) (↑(12+(m*8)):Int) ?_
  refine xwm (.e [4,5] 6) ((i:Int)*(v:Int)) (↑(i*v):Int) ?_
  refine xwm (.e [] 7) ((↑(12+(m*8)):Int)+(↑(i*v):Int)) (↑((12+(m*8))+(i*v)):Int) ?_
  refine xsL (.e [] 8) (fun _ _ _ _ zo zx zy V=>Jt (k:=((12+(m*8))+(i*v))) (b:=b8) (off:=0) (n:=244) (c:=244) (i:=(↑((12+(m*8))+(i*v)):Int)) (ki:=.i64) 1 zo zx zy rfl M0 M0 Tryz.underlying50 K0 V) ?_
  have a0:=(((b5.below a9.below).below a8).grown c1 b2 Do).below (Zb c7)
  refine xbt (.e [9] 10) 3 w.heap.size [5] a0 ?_
  refine xx (.e [11] 12) _ n i 1 (Strs.elem hVs N.hV (k:=i) M0).1 ?_
  have b0:=bln (b7.trans d7) (Zb c7)
  refine xlt (.e [] 13) (.t w.heap.size [5]) (fun V hV=>(Strs.elem (hVs.below (sft_keep b0 hV (A3 _))) N.hV (k:=i) M0).2) ?_
  have a2:=Za f5 (Zb c7)
  refine ybi (.o [] 14) (t2:=9) (.t w.heap.size [5]) fun _ _ _ _ zJ zQ zo zx zy zK=>Rh (dLen:=(244-((12+(m*8))+(i*v)))) (dCap:=(244-((12+(m*8))+(i*v)))) (off:=(0+((12+(m*8))+(i*v))*1)) (Vs.getD i []) ((Gg m v (Ns t leaf n m v) K Vs (i+1)).map bv) zo Tryz.underlying50 K0 zx zy a2 (by rw[N.hw i M0];omega) (by rw[N.hw i M0];omega) b0.size (by simp[Gg,Vy,E5,G6]) fun f9 f1 b3 c0=>?_
  refine zK _ _ (Zu c0 b3 a2 Do) ?_
  refine xwm 4 ((i:Int)+1) (↑(i+1):Int) ?_
  have d2:=b0.trans c0
  have a5:=a0.grown b3 a2 Do
  have a4:=((((a6.below a9.below).below a8).grown c1 b2 Do).below (Zb c7)).grown b3 a2 Do
  exact ze 2 (d1 _ _ _ ⟨i+1,rfl,rfl,d2,a5,a4,f1,by omega⟩ M0)
 refine xe 13 (.tuple #[.slice (S1 b8) 244 244,V0 0]) ?_
 have e:i=n:=by omega
 subst e
 exact⟨_,rfl,a1,_,_,rfl,ho⟩
theorem Hj(ba b:Nat)(v x:Value)(w:World)(hk:Blk w ba [v,x,P0 b] 169) :
 C0 151 #[P0 ba] w (Ret (P0 b) w):=by
 refine zin 9 Tryz.func151 ?_
 refine xr 9 (args:=#[P0 ba]) (Yu ba b _ _ _ hk) fun W1 a1=>?_
 have a0:=hk.below a1
 refine xb 10 2 a0 ?_
 exact xe 4 (P0 b) ⟨rfl,a1⟩
abbrev Ent:=Int×Bi×Int
def Yn:Ent:=(0,[],0)
def Qb(x:Ent):List Value:=[V0 x.1,.string ⟨x.2.1.toArray⟩,V0 x.2.2]
theorem Vb(x:Ent):(Qb x).length=3:=rfl
def Zbb(l:List Ent):Nat→Int
 | 0=>-1
 | i+1=>(l.getD i Yn).1
structure EntsOk(v:Nat)(l:List Ent):Prop where
 hk:∀ i,i<l.length→0≤(l.getD i Yn).1∧(l.getD i Yn).1≤281474976710655
 hs:∀ j,j+1<l.length→(l.getD j Yn).1<(l.getD (j+1) Yn).1
 hw:∀ i,i<l.length→(l.getD i Yn).2.1.length=v
theorem EntsOk.last{v:Nat}{l:List Ent}(E:EntsOk v l){i:Nat}(h:i<l.length):Zbb l i<(l.getD i Yn).1:=by
 cases i with
 | zero=>have:=(E.hk 0 h).1;simp only[Zbb];omega
 | succ j=>exact E.hs j h
theorem Ph(x:Nat):x≤(Dg x).sum:=by
 by_cases h:x≤1
 ·rw[Qz h];simp
 ·rw[Qt h];simp
theorem Xk(t:Int)(n:Nat):1≤Zy t n:=by
 have h1:=Ph (ovN n (Qg t true));have h2:=Yr n (Qg t true);unfold Zy Vw;omega
theorem Eg(t:Int)(v:Nat)(a:O0)(c:Nat)(l:List Ent)(w:World)(ht1:1≤t)(ht2:t≤5)(hv:Mu t true=v)(E:EntsOk v l)(h:Sts Qb w (.slice a l.length c) l)(hn:l.length≤32768) :
 C0 213 #[V0 t,.slice a l.length c] w (Ret (.bool true) w):=by
 have a5:=Fh t true
 rw[hv] at a5
 have a8:=Xk t l.length
 refine zin 45 Tryz.func213 ?_
 refine xr 8 (args:=#[V0 t,.bool true]) (Hl t true v hv ht1 ht2 _) fun W1 a6=>?_
 refine xgk 9 [12,13] (show(((v:Int)==(0:Int)):Bool)=false from by simp;omega) ?_
 refine xr 3 (args:=#[V0 t,V0 (l.length:Int)]) (Xi t l.length _ ht1 ht2 hn) fun W3 a3=>?_
 refine xk 4 (show(((↑(Zy t l.length):Int)==(0:Int)):Bool)=false from by simp;omega) ?_
 have hB:=bln a6 a3
 refine zl 16 45 (fun zm a4 V=>∃ (i:Nat),a4=[(5,V0 (v:Int)),(6,V0 (Zbb l i)),(20,.slice a l.length c),(21,V0 (l.length:Int)),(22,V0 (i:Int))]∧zm=l.length-((i:Int)).toNat∧Bl w V∧i≤l.length) ⟨0,rfl,rfl,hB,A6 _⟩ ?_
 rintro _ _ W4 ⟨i,rfl,rfl,a0,hi⟩ J4 a7 r4
 refine xid 6 ((i:Int)<(l.length:Int)) (fun a2=>?_) (fun a2=>?_)
 ·refine xx 6 _ l.length i 3 (Sts.cell h Vb Yn (k:=i) (i:=0) M0 rfl).1 ?_
  refine xlv 0 (Sts.rp (k:=i) (h.below a0) Vb Yn M0 Do) ?_
  refine xa 0 [V0 0,.string ⟨#[]⟩,V0 0] 124 fun b6 W6 n6=>?_
  have g6:=n6.ge a0
  refine xsv 0 n6.blk [V0 ((l.getD i Yn).1),.string ⟨((l.getD i Yn).2.1).toArray⟩,V0 ((l.getD i Yn).2.2)] fun W7 u7 k7=>?_
  refine xb 6 0 k7 ?_
  refine xgk 3 [29,30] (show(decide ((l.getD i Yn).1≤(Zbb l i)):Bool)=false from decide_eq_false (by have:=E.last (i:=i) M0;omega)) ?_
  refine xb 1 0 k7 ?_
  refine xgk 3 [33,34,35] (show(decide ((l.getD i Yn).1>(281474976710655:Int)):Bool)=false from decide_eq_false (by have:=(E.hk i M0).2;omega)) ?_
  refine xb 1 1 k7 ?_
  refine xk 6 (show(((↑((l.getD i Yn).2.1).length:Int) != (v:Int)):Bool)=false from by rw[E.hw i M0];simp) ?_
  refine xb 4 0 k7 ?_
  refine xw 5 ((i:Int)+1) ?_
  have a1:=u7.below (bln a0 n6.below) g6
  exact ze 2 (a7 _ _ _ ⟨i+1,rfl,rfl,a1,by omega⟩ M0)
 exact xe 11 (.bool true) ⟨rfl,a0⟩
theorem Ih(w:World) :
 C0 149 #[] w (Qh (fun w' r=>∃ b,r=.slice (S1 b) 1 1∧w.heap.size≤b∧Blk w' b [V0 4,V0 1,V0 14399] 298) w):=by
 refine zin 3 Tryz.func149 ?_
 refine xbs 8 1 [V0 4,V0 1,V0 14399] 298 fun b1 W1 n1=>?_
 have g1:=n1.ge (B3 w)
 exact xe 4 (.slice (S1 b1) 1 1) ⟨_,rfl,n1.below,_,rfl,g1,n1.blk⟩
theorem Tj(gl gn:Nat)(n:Int)(h1:1≤n)(h2:n≤14399)(w:World)(hl:Blk w gl [V0 4,V0 1,V0 14399] 298)(hn:Blk w gn [V0 n] 3) :
 C0 146 #[.slice (S1 gl) 1 1,.slice (S1 gn) 1 1] w (Ret (.string ⟨(leB n 4).toArray⟩) w):=by
 have b6:=h1
 have b3:=h2
 clear h2
 refine zin 51 Tryz.func146 ?_
 refine xu 19 2 ?_
 refine xlv 15 hl.rp ?_
 refine xa 0 [V0 0,V0 0,V0 0] 298 fun b1 W1 n1=>?_
 have a6:=n1.ne hl
 refine xsv 1 n1.blk [V0 4,V0 1,V0 14399] fun W2 u2 k2=>?_
 have g1:=n1.ge (B3 w)
 refine xd 4 .z ?_
 have a0:=(u2.blkT (hn.below n1.below) n1.blk Do).below (Zb W2)
 refine xb (.e [0,1,2] 3) 0 a0 ?_
 have a1:=k2.below (Zb W2)
 refine xb (.e [4] 5) 1 a1 ?_
 refine xgk (.b [6,7]) [23,24] (show(decide (n<(1:Int)):Bool)=false from decide_eq_false M0) ?_
 refine xb (.e [8,9,10] 11) 0 a0 ?_
 refine xb (.e [12] 13) 2 a1 ?_
 refine xk (.r [14,15] 2) (show(decide (n>(14399:Int)):Bool)=false from decide_eq_false M0) ?_
 refine xd 3 .z ?_
 have a4:=a1.below (Zb W2.drew)
 refine xb (.e [0] 1) 0 a4 ?_
 have a5:=a0.below (Zb W2.drew)
 refine xb (.e [2,3,4] 5) 0 a5 ?_
 refine xbs (.o [6] 7) 1 [V0 4,V0 n] 178 fun b4 W4 n4=>?_
 refine yc (.o [] 8) (args:=#[.slice (S1 b4) 1 1]) .z (Pi b4 n M0 M0 _ n4.blk) ?_
 rintro _ W5 ⟨_,rfl,a7,p2,c2,rfl,h2⟩
 have a9:=(bln (bln (bln (u2.below n1.below g1) (Zb W2)) (Zb W2.drew)) n4.below).size
 refine⟨a7,?_⟩
 have o6:=A9 W5 w.heap.size 5 1
 have a3:=Zf h2 a9
 have hB:=bln (bln (bln (bln (u2.below n1.below g1) (Zb W2)) (Zb W2.drew)) n4.below) a7
 refine xbi (.r [9,10,11,12,13] 5) fun _ _ _ _ zJ zQ zo zx zy zK=>Zz (m:=4) (news:=(leB n 4).map bv) (.int .u8 0) 1 1 (4) ((leB n 4).map bv) zo Tryz.underlying50 K0 rfl Do zx o6 zy (Ze a3) (by simp[Zl]) (Xw _) (by unfold maxLen;omega) M0 hB.size (by rfl) (by simp) fun b0 b2 W7 o7 b5 a8=>?_
 refine zK _ _ ?_
 refine xcv0 24 (fun _ _ _ zo zx=>Wl zo zx (Qf (Ze o7) (Zl _ _)) (Zl _ _) Tryz.underlying50 Tryz.underlying5 Tryz.underlying9) ?_
 have a2:=hB.trans a8
 exact xe 4 (.string ⟨(leB n 4).toArray⟩) ⟨rfl,a2⟩
theorem Mn(n:Int)(h1:1≤n)(h2:n≤14399)(w:World) :
 C0 90 #[V0 n] w (Ret (.string ⟨(leB n 4).toArray⟩) w):=by
 refine zin 7 Tryz.func90 ?_
 refine xc 7 (args:=#[]) (Ih _) ?_
 rintro _ W1 ⟨_,rfl,a2,gl,rfl,gg,kl⟩
 refine xbs 1 1 [V0 n] 3 fun b2 W2 n2=>?_
 have a0:=kl.below n2.below
 refine xr 0 (args:=#[.slice (S1 gl) 1 1,.slice (S1 b2) 1 1]) (Tj gl b2 n h1 h2 _ a0 n2.blk) fun W3 a1=>?_
 have hB:=bln (bln a2 n2.below) a1
 exact xe 4 (.string ⟨(leB n 4).toArray⟩) ⟨rfl,hB⟩
theorem Sts.cut{α:Type}{f:α→List Value}{m:Nat}{w:World}{b:O0}{c:Nat}{l:List α}(hm:∀ x,(f x).length=m)(h:Sts f w (.slice b l.length c) l)(k:Nat)(hk:k≤l.length):Sts f w (.slice (Uv b k c m) (l.drop k).length (c-k)) (l.drop k):=by
 have a0:(l.drop k).length=l.length-k:=by simp
 have a1:=Sl.cap h
 by_cases hkn:k=l.length
 ·refine .inl ⟨Uv b k c m,c-k,by rw[show(l.drop k).length=0 by omega],by omega,?_⟩
  rw[C9 M0];rfl
 rcases h with ⟨a',c',h1,h2,h3⟩|⟨g,a3,a4,h1,h2,h3,h4⟩
 ·omega
 ·simp only[A7] at h1
  obtain⟨rfl,_,rfl⟩:=h1
  refine .inr ⟨g,a3+k*m,c-k,?_,by omega,by omega,fun j x hj=>?_⟩
  ·rw[Uv,if_neg M0];simp[Addr.add]
  ·have a2:(l.drop k).flatMap f=(l.flatMap f).drop (k*m):=by
    conv=>rhs;rw[←F6 k l,G3]
    rw[List.drop_left' (by rw[Wt hm,D1,Gt hk])]
   rw[a2,E3] at hj
   have:=h4 _ _ hj
   rwa [←D7] at this
theorem Al.only{B ba b g n c:Nat}{pa:O0}{ca f N k:Nat}{l:Bi}{w W:World}{T:List TypeId}(h:Al B ba b g n c pa ca f N k l w)(hO:Zd T w W)(hT:(T.contains 169||T.contains 108||T.contains 5||T.contains 3)=false):Al B ba b g n c pa ca f N k l W:=by
 simp only[K1] at hT
 exact⟨h.blkA.only hO hT.1.1.1,h.blkI.only hO hT.1.1.2,Zo h.data hO hT.1.2,Zo h.nums hO hT.2⟩
def Xe(l:List Ent)(m i:Nat):List Ent:=(l.drop (i*m)).take m
def Qd(c:List Ent):List Int:=c.map (·.1)
def Vj(c:List Ent):List Bi:=c.map (·.2.1)
def nodB(t:Int)(leaf:Bool)(m v:Nat)(c:List Ent):Bi:=Gg m v (Ns t leaf c.length m v) (Qd c) (Vj c) c.length
def levB(t:Int)(leaf:Bool)(m v:Nat)(l:List Ent)(q:Nat)(bs:Bi):Nat→Bi
 | 0=>bs
 | i+1=>Vy (levB t leaf m v l q bs i) ((q+i)*256) (Wc 2 ((q+i:Nat):Int) (nodB t leaf m v (Xe l m i)))
def upX (l:List Ent)(m q i:Nat):Ent:=(((Xe l m i).getD 0 Yn).1,leB ((q+i:Nat):Int) 4,((q+i:Nat):Int))
def upE (l:List Ent)(m q j:Nat):List Ent:=(List.range j).map (upX l m q)
theorem upE_succ(l:List Ent)(m q j:Nat):upE l m q (j+1)=upE l m q j++[upX l m q j]:=by simp[upE,C6]
theorem Xh(l:List Ent)(m q j:Nat):(upE l m q j).length=j:=by simp[upE]
theorem Jb{l:List Ent}{m q j i:Nat}(h:i<j):(upE l m q j).getD i Yn=upX l m q i:=by simp[upE,List.getD,B5 h]
theorem Gk(l:List Ent)(m i:Nat):(Xe l m i).length=Ys l.length m i:=by simp[Xe,Ys]
theorem Ww{l:List Ent}{m i j:Nat}(h:j<Ys l.length m i):(Xe l m i).getD j Yn=l.getD (i*m+j) Yn:=by
 unfold Ys at h
 simp[Xe,List.getD,E1 (show j<m by omega),E3]
theorem Dd{c:List Ent}{j:Nat}(h:j<c.length):(Qd c).getD j 0=(c.getD j Yn).1:=by simp[Qd,List.getD,h]
theorem Zck{c:List Ent}{j:Nat}(h:j<c.length):(Vj c).getD j []=(c.getD j Yn).2.1:=by simp[Vj,List.getD,h]
theorem Gf(c:List Ent):(Qd c).length=c.length:=by simp[Qd]
theorem Ch(c:List Ent):(Vj c).length=c.length:=by simp[Vj]
theorem siz_lt{n m i:Nat}(hm:1≤m)(hn:1≤n)(h:i<ovN n m):i*m<n:=by
 unfold ovN at h
 rcases F1 i with rfl|hi
 ·omega
 have h2:i<(n+m-1)/m:=by omega
 have h3:=(Nat.lt_div_iff_mul_lt M0).1 h2
 omega
theorem chunk_ok{t:Int}{leaf:Bool}{m v:Nat}{l:List Ent}(E:EntsOk v l)(h1:1≤t)(h2:t≤5)(hm:Qg t leaf=m)(hv:Mu t leaf=v)(hl:leaf=false→1≤l.length){i:Nat}(hi:i<ovN l.length m):NodeOk t leaf (Xe l m i).length m v (Qd (Xe l m i)) (Vj (Xe l m i)):=by
 have a5:=(Yk t leaf).1
 rw[hm] at a5
 have a0:=Gk l m i
 have a6:=Zco a5 hi
 have a7:(Xe l m i).length≤l.length-i*m:=by rw[a0];unfold Ys;omega
 have a4:∀ j,j<(Xe l m i).length→i*m+j<l.length∧(Qd (Xe l m i)).getD j 0=(l.getD (i*m+j) Yn).1∧(Vj (Xe l m i)).getD j []=(l.getD (i*m+j) Yn).2.1:=fun j hj=>by
  refine⟨by omega,?_,?_⟩
  ·rw[Dd hj,Ww M0]
  ·rw[Zck hj,Ww M0]
 refine⟨h1,h2,hm,hv,Gf _,Ch _,by rw[a0];unfold Ys;omega,fun h=>?_,fun j hj=>?_,fun j hj=>?_,fun j hj=>?_⟩
 ·have:=siz_lt a5 (hl h) hi
  rw[a0];unfold Ys;omega
 ·obtain⟨a1,a2,_⟩:=a4 j hj
  rw[a2];exact E.hk _ a1
 ·obtain⟨a1,a2,_⟩:=a4 j M0
  obtain⟨b1,b2,_⟩:=a4 (j+1) hj
  rw[a2,b2];exact E.hs _ M0
 ·obtain⟨a1,_,a3⟩:=a4 j hj
  rw[a3];exact E.hw _ a1
theorem nodB_len{t:Int}{leaf:Bool}{m v:Nat}{c:List Ent}(N:NodeOk t leaf c.length m v (Qd c) (Vj c)):(nodB t leaf m v c).length=244:=by
 have hf:=fitN t leaf
 rw[N.hm,N.hv] at hf
 exact Ct (Nh _ _ _ _ _) hf N.hn (fun j hj=>N.hw j hj)
theorem Sf{w:World}{b:O0}{n m c:Nat}(h:Sl w (.slice b (ovN n m) c) (ovN n m) ((sizL n m).map nv)){k:Nat}(hk:k<ovN n m):b.isSome=true∧w.cell? (Zr b (k*1))=some (V0 ((Ys n m k:Nat):Int)):=by
 have:=Hg h (sizL_len n m) hk
 rwa [show(sizL n m).getD k 0=Ys n m k from by simp[sizL,List.getD,B5 hk]] at this
theorem Zb4{l:List Ent}{j:Nat}(h:j<l.length):((Qd l).take (j+1)).map V0=((Qd l).take j).map V0++[V0 (l.getD j Yn).1]:=by
 rw[A4 (by rw[Gf];exact h)]
 simp[Qd,List.getD,h]
theorem Zcr{l:List Ent}{j:Nat}(h:j<l.length):((Vj l).take (j+1)).map sv=((Vj l).take j).map sv++[.string ⟨(l.getD j Yn).2.1.toArray⟩]:=by
 rw[A4 (by rw[Ch];exact h)]
 simp[Vj,List.getD,h,sv]
theorem Ig{l:List Ent}{m i s:Nat}(hs:Ys l.length m i=s):(Qd (l.drop (i*m))).take s=Qd (Xe l m i):=by
 subst hs
 unfold Qd Xe Ys
 rw[←E5]
 congr 1
 rw[I8];simp
theorem Og{l:List Ent}{m i s:Nat}(hs:Ys l.length m i=s):(Vj (l.drop (i*m))).take s=Vj (Xe l m i):=by
 subst hs
 unfold Vj Xe Ys
 rw[←E5]
 congr 1
 rw[I8];simp
theorem EntsOk.mono{v:Nat}{l:List Ent}(E:EntsOk v l):∀ {a b:Nat},a<b→b<l.length→(l.getD a Yn).1<(l.getD b Yn).1:=by
 intro a b h hb
 induction b with
 | zero=>omega
 | succ b ih =>
  have h1:=E.hs b M0
  rcases E6 a b with h2|h2
  ·have:=ih h2 M0;omega
  ·obtain rfl:a=b:=by omega
   exact h1
theorem Za6{v:Nat}{l:List Ent}{m:Nat}(hm:1≤m)(hl:1≤l.length){i q:Nat}(hi:i<ovN l.length m):(upX l m q i).1=(l.getD (i*m) Yn).1∧i*m<l.length:=by
 have h:=siz_lt hm hl hi
 refine⟨?_,h⟩
 unfold upX
 rw[Ww (by unfold Ys;omega)];rfl
theorem up_ok{v:Nat}{l:List Ent}(E:EntsOk v l){m q:Nat}(hm:1≤m):EntsOk 4 (upE l m q (ovN l.length m)):=by
 rcases F1 l.length with h0|hl
 ·have h1:ovN l.length m=1:=by
   rw[h0];unfold ovN
   have:(0+m-1)/m=0:=Nat.div_eq_of_lt M0
   omega
  have a0:l=[]:=E8 h0
  subst a0
  constructor
  ·intro i hi;rw[Xh,h1] at hi;rw[Jb M0];simp[upX,Xe,Yn]
  ·intro j hj;rw[Xh,h1] at hj;omega
  ·intro i hi;rw[Xh,h1] at hi;rw[Jb M0];simp[upX,Zl]
 constructor
 ·intro i hi
  rw[Xh] at hi
  obtain⟨h1,h2⟩:=Za6 (v:=v) (q:=q) hm hl hi
  rw[Jb hi,h1];exact E.hk _ h2
 ·intro j hj
  rw[Xh] at hj
  obtain⟨h1,h2⟩:=Za6 (v:=v) (q:=q) hm hl hj
  obtain⟨h3,h4⟩:=Za6 (v:=v) (q:=q) hm hl (show j<ovN l.length m by omega)
  rw[Jb hj,Jb M0,h1,h3]
  refine E.mono ?_ h2
  rw[H7];omega
 ·intro i hi
  rw[Xh] at hi
  rw[Jb hi];simp[upX,Zl]
def Gs(t:Int)(u:List Ent)(q:Nat)(bs:Bi):Int×Bi :=
 if h:u.length≤1 then((u.getD 0 Yn).2.2,bs)
 else Gs t (upE u 18 q (ovN u.length 18)) (q+ovN u.length 18) (levB t false 18 4 u q bs (ovN u.length 18))
termination_by u.length
decreasing_by rw[Xh];have:=ov18 (x:=u.length) M0;omega
theorem Mg{t:Int}{u:List Ent}{q:Nat}{bs:Bi}(h:u.length≤1):Gs t u q bs=((u.getD 0 Yn).2.2,bs):=by rw[Gs];simp[h]
theorem Pc{t:Int}{u:List Ent}{q:Nat}{bs:Bi}(h:¬ u.length≤1):Gs t u q bs=Gs t (upE u 18 q (ovN u.length 18)) (q+ovN u.length 18) (levB t false 18 4 u q bs (ovN u.length 18)):=by rw[Gs];simp[h]
def Vk(t:Int)(l:List Ent)(q:Nat)(bs:Bi):Int×Bi :=
 Gs t (upE l (Qg t true) q (ovN l.length (Qg t true))) (q+ovN l.length (Qg t true)) (levB t true (Qg t true) (Mu t true) l q bs (ovN l.length (Qg t true)))
theorem Ew{t:Int}{u:List Ent}{q:Nat}{bs:Bi}(h1:1≤u.length)(hu:(u.getD (u.length-1) Yn).2.2=((q-1:Nat):Int))(hq:1≤q):(Gs t u q bs).1=((q-1+((Dg u.length).sum-u.length):Nat):Int):=by
 induction hx:u.length using Nat.strongRecOn generalizing u q bs with
 | _ x ih =>
  subst hx
  by_cases h:u.length≤1
  ·rw[Mg h,Qz h]
   rw[show u.length-1=0 by omega] at hu
   show(u.getD 0 Yn).2.2=_
   rw[hu];simp
  ·have a1:=ov18 (x:=u.length) M0
   have hp:=Yr u.length 18
   rw[Pc h,ih (ovN u.length 18) M0 (u:=upE u 18 q (ovN u.length 18)) (q:=q+ovN u.length 18) (by rw[Xh];exact hp) ?_ M0 (Xh _ _ _ _),Qt h]
   ·have a0:=Ph (ovN u.length 18)
    simp only[G0]
    congr 1
    omega
   ·rw[Xh,Jb M0]
    simp only[upX]
    congr 1
    omega
def LaidQ(B ba b g n c:Nat)(pa:O0)(ca f N k:Nat)(l:Bi)(kind:Int)(li:Bi)(q:Nat)(w:World)(e:Ending)(w':World):Prop :=
 e=.returned (.tuple #[V0 (q:Int),.nilIface])∧Below B w w'∧Zd [169,5] w w'∧Fr [ba,g] w w'∧Al B ba b g n c pa ca f N (k+1) (Vy l (q*256) (Wc kind (q:Int) li)) w'
theorem Jl(B ba b g n c:Nat)(p:O0)(ca f N k:Nat)(l:Bi)(kind:Int)(a:O0)(ci:Nat)(li:Bi)(q n':Nat)(w:World)(hq:f+k=q)(hn':li.length=n')(hC:AlC B ba n c ca f N)(hA:Al B ba b g n c p ca f N k l w)(hkN:k<N)(h1:1≤kind)(h2:kind≤4)(hin:∀ W,Below B w W→Zd [169] w W→Bys W (.slice a n' ci) li)(hl:n'≤244)(hBw:B≤w.heap.size) :
 C0 161 #[P0 ba,V0 kind,.slice a n' ci] w (LaidQ B ba b g n c p ca f N k l kind li q w):=by
 subst hq hn';exact Zdh B ba b g n c p ca f N k l kind a ci li w hC hA hkN h1 h2 hin hl hBw
theorem up_row{l:List Ent}{m q i:Nat}{key:Int}(hk:key=((Xe l m i).getD 0 Yn).1):(upE l m q i).flatMap Qb++[V0 key,.string ⟨(leB ((q+i:Nat):Int) 4).toArray⟩,V0 ((q+i:Nat):Int)]=(upE l m q (i+1)).flatMap Qb:=by
 subst hk;rw[upE_succ];simp[Qb,upX]
theorem Zbj{l:List Ent}{m i j:Nat}(hs:Ys l.length m i=j)(hj:0<j):((Qd (Xe l m i))).getD 0 0=((Xe l m i).getD 0 Yn).1:=Dd (by rw[Gk];omega)
theorem Fj{l:List Ent}{m i j:Nat}(hs:Ys l.length m i=j)(hj:j=0):(0:Int)=((Xe l m i).getD 0 Yn).1:=by
 have:Xe l m i=[]:=E8 (by rw[Gk];omega)
 rw[this];rfl
def bmN (n:Nat):Nat:=(n+959)/960
theorem bmN_lt{n i:Nat}(h:i<bmN n):i*960<n:=by unfold bmN at h;omega
theorem bmN_done{n i:Nat}(h:i=bmN n):n≤i*960:=by subst h;unfold bmN;omega
def mn3 (n:Int):Int:=if n<3 then n else 3
def Zi(l:List Int):List Int:=l.map mn3
theorem Ij{l:List Int}{k:Nat}(h:k<l.length):Zi (l.take (k+1))=Zi (l.take k)++[mn3 (l.getD k 0)]:=by
 unfold Zi
 rw[A4 h,B6,show l.getD k 0=l[k] from by simp[List.getD,h]]
 rfl
def ovX (l:List Int)(k:Nat):List Ent:=if 3≤l.getD k 0 then [((k:Int),leB (l.getD k 0) 4,0)] else []
def Zh(l:List Int)(k:Nat):List Ent:=(List.range k).flatMap (ovX l)
theorem Ma(l:List Int)(k:Nat):Zh l (k+1)=Zh l k++ovX l k:=by simp[Zh,C6]
theorem Vv{l:List Int}{k:Nat}(h:3≤l.getD k 0):Zh l (k+1)=Zh l k++[((k:Int),leB (l.getD k 0) 4,0)]:=by rw[Ma];unfold ovX;rw[if_pos h]
theorem Qm{l:List Int}{k:Nat}(h:¬ 3≤l.getD k 0):Zh l (k+1)=Zh l k:=by rw[Ma];unfold ovX;rw[if_neg h];simp
theorem overK_ok(l:List Int)(k:Nat):(Zh l k).Pairwise (fun a b=>a.1<b.1)∧∀ x∈Zh l k,0≤x.1∧x.1<k∧x.2.1.length=4:=by
 induction k with
 | zero=>simp[Zh]
 | succ k ih =>
  by_cases h3:3≤l.getD k 0
  ·rw[Vv h3]
   refine⟨List.pairwise_append.2 ⟨ih.1,by simp,fun a ha b hb=>?_⟩,fun x hx=>?_⟩
   ·simp only[D8] at hb;subst hb;exact(ih.2 a ha).2.1
   ·rcases List.mem_append.1 hx with h|h
    ·have:=ih.2 x h;exact⟨this.1,by have:=this.2.1;omega,this.2.2⟩
    ·simp only[D8] at h;subst h;exact⟨F9 _,by show(k:Int)<((k+1:Nat):Int);omega,Zl _ _⟩
  ·rw[Qm h3]
   exact⟨ih.1,fun x hx=>by have:=ih.2 x hx;exact⟨this.1,by have:=this.2.1;omega,this.2.2⟩⟩
theorem Gn(l:List Int)(k:Nat):(Zh l k).length≤k:=by
 induction k with
 | zero=>simp[Zh]
 | succ k ih =>
  by_cases h3:3≤l.getD k 0
  ·rw[Vv h3];simp;exact ih
  ·rw[Qm h3];omega
theorem Gc{l:List Ent}{i:Nat}(h:i<l.length):l.getD i Yn=l[i]:=by simp[List.getD,h]
theorem Co(l:List Int)(k:Nat)(hk:k≤65536):EntsOk 4 (Zh l k):=by
 have h:=overK_ok l k
 refine⟨fun i hi=>?_,fun j hj=>?_,fun i hi=>?_⟩
 ·rw[Gc hi];have:=h.2 _ (D6 hi);omega
 ·rw[Gc hj,Gc M0];exact List.pairwise_iff_getElem.1 h.1 j (j+1) M0 hj M0
 ·rw[Gc hi];exact(h.2 _ (D6 hi)).2.2
def Ks(n:Int):Prop:=0≤n∧n≤2147483647
instance (n:Int):Decidable (Ks n):=by unfold Ks;infer_instance
def Yx(l:List Int):Int:=if 65536<l.length then 1 else if ∀ k,k<l.length→Ks (l.getD k 0) then 0 else 2
theorem Wv{l:List Int}(h:Yx l=0):l.length≤65536∧∀ k,k<l.length→Ks (l.getD k 0):=by
 unfold Yx at h
 split at h
 ·simp at h
 ·split at h
  ·exact⟨by omega,by assumption⟩
  ·simp at h
def Kl(l:List Int)(i:Nat):List Int:=(l.drop (i*960)).take 960
def Xa(l:List Int)(n:Nat):List (List Int):=(List.range n).map (Kl l)
theorem Qw(l:List Int)(n:Nat):(Xa l n).length=n:=by simp[Xa]
theorem Er{l:List Int}{n i:Nat}(h:i<n):(Xa l n).getD i []=Kl l i:=by simp[Xa,List.getD,h]
theorem Mo(l:List Int)(i:Nat):(Kl l i).length=min 960 (l.length-i*960):=by simp[Kl]
def Jh(l:List Int):Prop:=∀ n∈l,0≤n∧n≤3
theorem small_ok{l:List Int}(h:∀ k,k<l.length→Ks (l.getD k 0)):Jh (Zi l):=by
 intro n hn
 obtain⟨m,hm,rfl⟩:=List.mem_map.1 hn
 obtain⟨k,hk,rfl⟩:=List.getElem_of_mem hm
 have:=h k hk
 rw[show l.getD k 0=l[k] from by simp[List.getD,hk]] at this
 unfold Ks at this
 unfold mn3;split<;>omega
theorem Dy{l:List Int}(h:Jh l)(i:Nat):Jh (Kl l i):=fun n hn=>h n (List.mem_of_mem_drop (I0 hn))
def atI (l:List Int)(i j:Nat):Int:=if j<i then l.getD j 0 else 0
def g4 (l:List Int)(i k:Nat):Int:=atI l i (4*k)+4*atI l i (4*k+1)+16*atI l i (4*k+2)+64*atI l i (4*k+3)
def g4B (l:List Int)(i k:Nat):UInt8:=UInt8.ofNat (g4 l i k).toNat
def Hs(l:List Int)(i:Nat):Bi:=leB l.length 4++(List.range 240).map (g4B l i)
theorem Kr(l:List Int)(i:Nat):(Hs l i).length=244:=by simp[Hs,Zl]
def bitsB(l:List Int):Bi:=Hs l l.length
def Th(l:List Int)(k:Nat):Nat:=((l.take k).filter fun n=>n==0).length
def Xl(l:List Int):Nat:=Th l l.length
def Zx(l:List Int):Nat:=l.findIdx fun n=>n==0
theorem Td{l:List Int}{k:Nat}(h:k<l.length):Th l (k+1)=Th l k+(if l.getD k 0=0 then 1 else 0):=by
 unfold Th
 rw[A4 h,List.filter_append,A1]
 simp only[List.getD,B4 h,Option.getD_some]
 by_cases e:l[k]=0<;>simp[e]
theorem Wo(l:List Int)(k:Nat):Th l k≤k:=N0 (I9 _ _) (by simp;omega)
theorem Pt(l:List Int):Zx l≤l.length:=List.findIdx_le_length
theorem Oy{l:List Int}{i:Nat}(h:i<l.length)(h0:l.getD i 0=0)(hp:∀ j,j<i→l.getD j 0≠0):Zx l=i:=by
 unfold Zx
 refine(List.findIdx_eq h).2 ⟨?_,fun j hj=>?_⟩
 ·rw[List.getD,B4 h] at h0;simpa using h0
 ·have:=hp j hj
  rw[List.getD,B4 M0] at this;simpa using this
theorem Dw{l:List Int}(hp:∀ j,j<l.length→l.getD j 0≠0):Zx l=l.length:=by
 unfold Zx
 rw[List.findIdx_eq_length]
 intro n hn
 obtain⟨k,hk,rfl⟩:=List.getElem_of_mem hn
 have:=hp k hk
 rw[List.getD,B4 hk] at this;simpa using this
def slotB(n f g:Int):Bi:=leB n 8++leB f 4++leB g 4
theorem Zaf(n f g:Int):(slotB n f g).length=16:=by simp[slotB,Zl]
def Kn(L:List (List Int))(q:Nat)(bs:Bi):Nat→Bi
 | 0=>bs
 | i+1=>Vy (Kn L q bs i) ((q+i)*256) (Wc 3 ((q+i:Nat):Int) (bitsB (L.getD i [])))
def Iv(L:List (List Int))(q i:Nat):Ent:=((i:Int),slotB ((q+i:Nat):Int) (Xl (L.getD i []):Int) (Zx (L.getD i []):Int),0)
def Xj(L:List (List Int))(q j:Nat):List Ent:=(List.range j).map (Iv L q)
theorem Vu(L:List (List Int))(q j:Nat):(Xj L q j).length=j:=by simp[Xj]
theorem Eu(L:List (List Int))(q j:Nat):Xj L q (j+1)=Xj L q j++[Iv L q j]:=by simp[Xj,C6]
theorem Jq{L:List (List Int)}{q j i:Nat}(h:i<j):(Xj L q j).getD i Yn=Iv L q i:=by simp[Xj,List.getD,h]
theorem Ob(L:List (List Int))(q j:Nat)(hj:j≤65536):EntsOk 16 (Xj L q j):=by
 refine⟨fun i hi=>?_,fun i hi=>?_,fun i hi=>?_⟩<;>rw[Vu] at hi
 ·rw[Jq hi];simp only[Iv];omega
 ·rw[Jq hi,Jq M0];simp only[Iv];omega
 ·rw[Jq hi];exact Zaf _ _ _
def plotB(l:List Int)(q:Nat)(bs:Bi):Int×Int×Bi :=
 let L:=Xa (Zi l) (bmN l.length)
 let x:=Vk 4 (Xj L q (bmN l.length)) (q+bmN l.length) (Kn L q bs (bmN l.length))
 let y:=Vk 5 (Zh l l.length) (q+bmN l.length+Zy 4 (bmN l.length)) x.2
 (x.1,y.1,y.2)
def Ho(l:List Int):Nat:=bmN l.length+Zy 4 (bmN l.length)+Zy 5 (Zh l l.length).length
theorem Ci{l:List Int}(h:Jh l)(i j:Nat):0≤atI l i j∧atI l i j≤3:=by
 unfold atI
 split
 ·by_cases hj:j<l.length
  ·rw[show l.getD j 0=l[j] from by simp[List.getD,hj]];exact h _ (D6 hj)
  ·rw[show l.getD j 0=0 from by simp[List.getD,Nat.le_of_not_lt hj]];omega
 ·omega
theorem Hh{l:List Int}(h:Jh l)(j:Nat):0≤l.getD j 0∧l.getD j 0≤3:=by
 have:=Ci h (j+1) j
 unfold atI at this
 rwa [if_pos M0] at this
theorem Qj{l:List Int}{i j:Nat}(h:j≠i):atI l (i+1) j=atI l i j:=by
 unfold atI
 by_cases q:j<i
 ·rw[if_pos q,if_pos M0]
 ·rw[if_neg q,if_neg M0]
theorem Rm(l:List Int)(i:Nat):atI l (i+1) i=l.getD i 0:=by unfold atI;rw[if_pos M0]
theorem Jz{l:List Int}{i j:Nat}(h:i≤j):atI l i j=0:=by unfold atI;rw[if_neg M0]
theorem g4_ne{l:List Int}{i k:Nat}(h:k≠i/4):g4 l (i+1) k=g4 l i k:=by
 unfold g4
 rw[Qj M0,Qj M0,Qj M0,Qj M0]
theorem g4_at{l:List Int}(h:Jh l){i q r:Nat}(hi:i=4*q+r)(hr:r<4):g4 l (i+1) q=g4 l i q+l.getD i 0*4 ^ r∧0≤g4 l i q∧g4 l i q<4 ^ r:=by
 have b0:=Ci h i (4*q)
 have b1:=Ci h i (4*q+1)
 have b2:=Ci h i (4*q+2)
 have b3:=Ci h i (4*q+3)
 unfold g4
 obtain rfl|rfl|rfl|rfl:r=0∨r=1∨r=2∨r=3:=by omega
 ·rw[show 4*q=i from by omega,Rm,Qj M0,Qj M0,Qj M0,Jz (A3 i),Jz (I7 i 1),Jz (I7 i 2),Jz (I7 i 3)]
  omega
 ·have e2:atI l i (4*q+2)=0:=Jz M0
  have e3:atI l i (4*q+3)=0:=Jz M0
  have e1:atI l i (4*q+1)=0:=Jz M0
  rw[Qj (j:=4*q) M0,Qj (j:=4*q+2) M0,Qj (j:=4*q+3) M0,e1,e2,e3,←hi,Rm]
  omega
 ·have e2:atI l i (4*q+2)=0:=Jz M0
  have e3:atI l i (4*q+3)=0:=Jz M0
  rw[Qj (j:=4*q) M0,Qj (j:=4*q+1) M0,Qj (j:=4*q+3) M0,e2,e3,←hi,Rm]
  omega
 ·have e3:atI l i (4*q+3)=0:=Jz M0
  rw[Qj (j:=4*q) M0,Qj (j:=4*q+1) M0,Qj (j:=4*q+2) M0,e3,←hi,Rm]
  omega
theorem g4B_at{l:List Int}(h:Jh l){i:Nat}:((g4B l (i+1) (i/4)).toNat:Int)=((g4B l i (i/4)).toNat:Int)+l.getD i 0*4 ^ (i%4)∧(g4B l i (i/4)).toNat<4 ^ (i%4):=by
 obtain⟨h1,h2,h3⟩:=g4_at h (show i=4*(i/4)+i%4 by omega) M0
 have hn:=Hh h i
 have hp:(4:Int) ^ (i%4)≤64:=by
  have:i%4<4:=by omega
  obtain e|e|e|e:i%4=0∨i%4=1∨i%4=2∨i%4=3:=by omega
  all_goals rw[e];decide
 have a1:(0:Int)<4 ^ (i%4):=Int.pow_pos Do
 generalize hP:(4:Int) ^ (i%4)=Pq at *
 have hq:l.getD i 0*Pq≤3*Pq:=Int.mul_le_mul_of_nonneg_right hn.2 M0
 have a2:0≤l.getD i 0*Pq:=Int.mul_nonneg hn.1 M0
 generalize l.getD i 0*Pq=M at *
 have a0:((4 ^ (i%4):Nat):Int)=Pq:=by rw[←hP];simp
 unfold g4B
 rw[UInt8.toNat_ofNat',UInt8.toNat_ofNat',h1]
 omega
def Ba(gs:List (Nat×Nat))(L:List (List Int))(i:Nat):Value:=.slice (some ⟨(gs.getD i (0,0)).1,0,none⟩) (L.getD i []).length (gs.getD i (0,0)).2
structure Lists(w:World)(base:Nat)(v:Value)(gs:List (Nat×Nat))(L:List (List Int)):Prop where
 row:w.ownsRow base 27 1 v L.length ((List.range L.length).map (Ba gs L))
 each:∀ i,i<L.length→w.ownsRow base 3 1 (Ba gs L i) (L.getD i []).length ((L.getD i []).map (Value.int .i64))
theorem Lists.below{w W:World}{base:Nat}{v:Value}{gs:List (Nat×Nat)}{L:List (List Int)}(h:Lists w base v gs L)(hb:Bl w W):Lists W base v gs L:=⟨Za h.row hb,fun i hi=>Za (h.each i hi) hb⟩
theorem Lists.only{T:List TypeId}{w W:World}{base:Nat}{v:Value}{gs:List (Nat×Nat)}{L:List (List Int)}(h:Lists w base v gs L)(hO:Zd T w W)(hT:T.contains 27=false∧T.contains 3=false):Lists W base v gs L:=⟨Zo h.row hO hT.1,fun i hi=>Zo (h.each i hi) hO hT.2⟩
theorem Lists.elem{w:World}{base:Nat}{p:O0}{n c:Nat}{gs:List (Nat×Nat)}{L:List (List Int)}(h:Lists w base (.slice p n c) gs L)(hn:L.length=n){k:Nat}(hk:k<n):p.isSome=true∧w.cell? (Zr p (k*1))=some (Ba gs L k):=by
 subst hn
 rw[D0]
 exact Sl.elem (Ze h.row) (by simp[hk])
theorem Lists.mono{w:World}{base base':Nat}{v:Value}{gs:List (Nat×Nat)}{L:List (List Int)}(h:Lists w base' v gs L)(hb:base≤base'):Lists w base v gs L:=⟨Zf h.row hb,fun i hi=>Zf (h.each i hi) hb⟩
def FrB (B:Nat)(S:List Nat)(w W:World):Prop:=w.heap.size≤W.heap.size∧∀ k,k<B→k∉S→W.heap[k]? = w.heap[k]?
theorem Fr.trans_B{S S':List Nat}{a w W:World}(h:Fr S a w)(k:FrB a.heap.size S' w W)(hs:∀ k∈S',k∈S):Fr S a W:=⟨N0 h.size k.1,fun i hi hn=>(k.2 i hi fun q=>hn (hs i q)).trans (h.block i hi hn)⟩
theorem or_step:∀ r:Fin 4,∀ n:Fin 4,∀ o:Fin 64,o.val<4 ^ r.val→o.val ||| (n.val*4 ^ r.val)=o.val+n.val*4 ^ r.val:=by decide
end Go.Proofs.YtekomodnkfhihaaGreatDoor
namespace Go.Proofs.YtekomodnkfhihaaGreatDoor
set_option maxHeartbeats 8000000
set_option maxRecDepth 100000
open Go.RowKit Go.Extern.Stop Go.Stop Go.Extern
set_option linter.unusedVariables false
attribute [local irreducible] wpList wpAnyH Code.wp Oper.wp Go
section
variable {P:Program} {a:Act}
end
theorem Ry(n k:Nat)(hn:n<9223372036854775808)(hk:0<k):IntKind.i64.wrap (Int.tdiv (n:Int) (k:Int))=((n/k:Nat):Int):=by
 rw[Int.tdiv_eq_ediv_of_nonneg (F9 _),←Int.natCast_ediv]
 exact Lx (H6 (J6 _ _) hn)
theorem Zbp(n k:Nat):Int.tmod (n:Int) (k:Int)=((n%k:Nat):Int):=by
 rw[Int.tmod_eq_emod_of_nonneg (F9 _),←Int.natCast_emod]
end Go.Proofs.YtekomodnkfhihaaGreatDoor
namespace Go.Proofs.YtekomodnkfhihaaGreatDoor
set_option maxHeartbeats 8000000
set_option maxRecDepth 100000
open Go.RowKit
theorem Blk.ty{w:World}{b:Nat}{cs cs':List Value}{t t':TypeId}(k:Blk w b cs t)(q:Blk w b cs' t'):t=t':=by
 have h1:w.heap[b]? = some (.cells cs.toArray t (0,0)):=k
 have h2:w.heap[b]? = some (.cells cs'.toArray t' (0,0)):=q
 rw[h1] at h2
 simp only[At,Obj.cells.injEq] at h2
 exact h2.2.1
theorem Jw.upd{w W:World}{b:Nat}{cs:List Value}{t:TypeId}{l:List (Option Int)}{c:Option Int}{v:Value}(h:Jw w l c v)(u:Upd w b W)(k:Blk w b cs t)(hne:t≠204):Jw W l c v :=
 h.kept fun _ _ q=>u.blk q (by rintro rfl;exact hne (k.ty q))
theorem Jw.grown{w W:World}{e:TypeId}{base size n:Nat}{s:Value}{xs:List Value}{l:List (Option Int)}{c:Option Int}{v:Value}(h:Jw w l c v)(hg:w.grownBy W s.ownBlock)(hown:w.ownsRow base e size s n xs)(hne:e≠204):Jw W l c v :=
 h.kept fun _ _ q=>q.grown hg hown hne
theorem Jw.only{T:List TypeId}{w W:World}{l:List (Option Int)}{c:Option Int}{v:Value}(h:Jw w l c v)(k:Zd T w W)(hne:T.contains 204=false):Jw W l c v:=h.kept fun _ _ q=>q.only k hne
end Go.Proofs.YtekomodnkfhihaaGreatDoor
namespace Go.Proofs.YtekomodnkfhihaaGreatDoor
set_option maxHeartbeats 8000000
set_option maxRecDepth 100000
open Go.RowKit Go.Extern.Stop Go.Stop Go.Extern
set_option linter.unusedVariables false
attribute [local irreducible] wpList wpAnyH Code.wp Oper.wp Go
structure ImgR(B b:Nat)(p:Option Addr)(n c:Nat)(l:List UInt8)(w:World):Prop where
 blk:Blk w b [.slice p n c] 108
 row:w.ownsRow B 5 1 (.slice p n c) n (l.map bv)
 hn:n≤3686400
theorem ImgR.below{B b:Nat}{p:O0}{n c:Nat}{l:Bi}{w W:World}(h:ImgR B b p n c l w)(hb:Bl w W):ImgR B b p n c l W:=⟨h.blk.below hb,Za h.row hb,h.hn⟩
theorem ImgR.only{B b:Nat}{p:O0}{n c:Nat}{l:Bi}{w W:World}{T:List TypeId}(h:ImgR B b p n c l w)(hO:Zd T w W)(hT:T.contains 108=false∧T.contains 5=false):ImgR B b p n c l W:=⟨h.blk.only hO hT.1,Zo h.row hO hT.2,h.hn⟩
theorem ImgR.len{B b:Nat}{p:O0}{n c:Nat}{l:Bi}{w:World}(h:ImgR B b p n c l w):l.length=n:=by have:=h.row.1;simpa using this
theorem ImgR.base{B b:Nat}{p:O0}{n c:Nat}{l:Bi}{w:World}(h:ImgR B b p n c l w)(hn:0<n):∃ g,p=some ⟨g,0,none⟩∧n≤c:=by
 rcases h.row.2 with ⟨_,h0⟩|⟨g,a0,a1,hv,_,_,hc,_⟩
 ·omega
 ·simp only[A7] at hv
  obtain⟨rfl,_,rfl⟩:=hv
  exact⟨g,rfl,hc⟩
def blkB(l:Bi)(j:Nat):Bi:=(l.drop (j*256)).take 256
theorem Bys.mid{w:World}{g off n c:Nat}{l:Bi}(h:Bys w (.slice (some ⟨g,off,none⟩) n c) l)(hl:l.length=n)(k m:Nat)(hm:0<m)(hk:k+m≤n):Bys w (.slice (some ⟨g,off+k,none⟩) m m) ((l.drop k).take m):=by
 have a0:((l.drop k).take m).length=m:=by simp;omega
 rcases h with ⟨a',c',h1,h2,h3⟩|⟨g',a1,a2,h1,h2,h3,h4⟩
 ·omega
 ·simp only[A7,At,Addr.mk.injEq] at h1
  obtain⟨⟨rfl,rfl,_⟩,_,rfl⟩:=h1
  refine .inr ⟨g,off+k,m,by rw[a0],by omega,by omega,fun j x hj=>?_⟩
  rw[B7,Ge] at hj
  split at hj
  ·rw[E3] at hj
   have:=h4 (k+j) x (by rw[B7];exact hj)
   rwa [←D7] at this
  ·cases hj
theorem ImgR.part{B b g:Nat}{n c:Nat}{l:Bi}{w:World}(h:ImgR B b (S1 g) n c l w){j:Nat}(hj:j<n/256):Bys w (.slice (some ⟨g,j*256,none⟩) 256 256) (blkB l j):=by
 have:=Bys.mid (Qf (Ze h.row) h.len) h.len (j*256) 256 Do M0
 rwa [E9] at this
def mapV(m:Mp):Bi:=Oq mapP [m.2.1*16777216+m.2.2] 1
theorem mapV_len(m:Mp):(mapV m).length=8:=by unfold mapV;rw[Wf];rfl
def Hu(n:Int)(d:Dv):Bi:=Oq detP [n,d.1.2.1,d.1.2.2.1,d.1.2.2.2] 4
theorem Ah(n:Int)(d:Dv):(Hu n d).length=24:=by unfold Hu;rw[Wf];rfl
def Jv(M:List Mp):List Ent:=M.map fun m=>(m.1,mapV m,0)
theorem Yz(M:List Mp):(Jv M).length=M.length:=A0 ..
def dvD:Dv:=((0,0,0,0),[])
def Gq(L:List Dv)(R:Nat→Nat):List Ent:=(List.range L.length).map fun i=>((L.getD i dvD).1.1,leB (R i:Int) 4,0)
def Hr(L:List Dv)(C:Nat→Int):List Ent:=(List.range L.length).map fun i=>((L.getD i dvD).1.1,Hu (C i) (L.getD i dvD),0)
theorem Yw(L:List Dv)(R:Nat→Nat):(Gq L R).length=L.length:=by simp[Gq]
theorem Qa(L:List Dv)(C:Nat→Int):(Hr L C).length=L.length:=by simp[Hr]
theorem Jj{L:List Dv}{R:Nat→Nat}{i:Nat}(h:i<L.length):(Gq L R).getD i Yn=((L.getD i dvD).1.1,leB (R i:Int) 4,0):=by simp[Gq,List.getD,B5 h]
theorem Je{L:List Dv}{C:Nat→Int}{i:Nat}(h:i<L.length):(Hr L C).getD i Yn=((L.getD i dvD).1.1,Hu (C i) (L.getD i dvD),0):=by simp[Hr,List.getD,B5 h]
theorem Kv{M:List Mp}{i:Nat}(h:i<M.length):(Jv M).getD i Yn=((M.getD i (0,0,0)).1,mapV (M.getD i (0,0,0)),0):=by simp[Jv,List.getD,h]
theorem mapEs_ok{data:Int}{M:List Mp}(h:MapsOk data M):EntsOk 8 (Jv M):=by
 refine⟨fun i hi=>?_,fun j hj=>?_,fun i hi=>?_⟩
 ·rw[Yz] at hi
  rw[Kv hi]
  have:=h.each (M.getD i (0,0,0)) (by simp[List.getD,hi])
  exact this.1
 ·rw[Yz] at hj
  rw[Kv M0,Kv hj]
  have:=List.pairwise_iff_getElem.1 h.rise j (j+1) M0 hj M0
  simpa [List.getD,hj,show j<M.length by omega] using this
 ·rw[Yz] at hi
  rw[Kv hi];exact mapV_len _
theorem Ro{data:Int}{L:List Dv}(h:DevsOk data L):(∀ i,i<L.length→0≤(L.getD i dvD).1.1∧(L.getD i dvD).1.1≤281474976710655)∧∀ j,j+1<L.length→(L.getD j dvD).1.1<(L.getD (j+1) dvD).1.1:=by
 refine⟨fun i hi=>?_,fun j hj=>?_⟩
 ·have:=(h.each (L.getD i dvD) (by simp[List.getD,hi])).id;omega
 ·have:=List.pairwise_iff_getElem.1 h.rise j (j+1) M0 hj M0
  simpa [List.getD,hj,show j<L.length by omega] using this
theorem topEs_ok{data:Int}{L:List Dv}{R:Nat→Nat}(h:DevsOk data L):EntsOk 4 (Gq L R):=by
 obtain⟨h1,h2⟩:=Ro h
 refine⟨fun i hi=>?_,fun j hj=>?_,fun i hi=>?_⟩
 ·rw[Yw] at hi
  rw[Jj hi];exact h1 i hi
 ·rw[Yw] at hj
  rw[Jj M0,Jj hj];exact h2 j hj
 ·rw[Yw] at hi
  rw[Jj hi];exact Zl _ _
theorem detEs_ok{data:Int}{L:List Dv}{C:Nat→Int}(h:DevsOk data L):EntsOk 24 (Hr L C):=by
 obtain⟨h1,h2⟩:=Ro h
 refine⟨fun i hi=>?_,fun j hj=>?_,fun i hi=>?_⟩
 ·rw[Qa] at hi
  rw[Je hi];exact h1 i hi
 ·rw[Qa] at hj
  rw[Je M0,Je hj];exact h2 j hj
 ·rw[Qa] at hi
  rw[Je hi];exact Ah _ _
def Zaq(B ba b g nn cc:Nat)(pa:O0)(ca f N k0:Nat)(bs:Bi)(t:Int)(leaf:Bool)(m v:Nat)(l:List Ent)(w:World)(e:Ending)(w':World):Prop :=
 ∃ p c,e=.returned (.tuple #[.slice p (ovN l.length m) c,.nilIface])∧Below B w w'∧Zd [169,5] w w'∧Fr [ba,g] w w'∧Al B ba b g nn cc pa ca f N (k0+ovN l.length m) (levB t leaf m v l (f+k0) bs (ovN l.length m)) w'∧w'.ownsRow w.heap.size 124 3 (.slice p (ovN l.length m) c) (ovN l.length m) ((upE l m (f+k0) (ovN l.length m)).flatMap Qb)
theorem Ek(B ba b g nn cc:Nat)(pa:O0)(ca f N k0:Nat)(bs:Bi)(t:Int)(leaf:Bool)(m v:Nat)(a:O0)(c:Nat)(l:List Ent)(w:World)(hC:AlC B ba nn cc ca f N)(hA:Al B ba b g nn cc pa ca f N k0 bs w)(ht1:1≤t)(ht2:t≤5)(hm:Qg t leaf=m)(hv:Mu t leaf=v)(E:EntsOk v l)(hl:leaf=false→1≤l.length)(hn:l.length≤32768)(hf1:1≤f)(hk:k0+ovN l.length m≤N)(hin:∀ W,Below B w W→Zd [169,5] w W→Sts Qb W (.slice a l.length c) l)(hBw:B≤w.heap.size) :
 C0 215 #[P0 ba,V0 t,.bool leaf,.slice a l.length c] w (Zaq B ba b g nn cc pa ca f N k0 bs t leaf m v l w):=by
 have n8:=Yk t leaf
 rw[hm] at n8
 have p7:=hC.hf
 have p8:=hC.hn
 refine zin 96 Tryz.func215 ?_
 refine xr 18 (args:=#[V0 t,.bool leaf]) (Ni t leaf m hm ht1 ht2 _) fun W1 f2=>?_
 refine xc 0 (args:=#[V0 (l.length:Int),V0 (m:Int)]) (Aw l.length m _ hn M0 M0) ?_
 rintro _ W2 ⟨_,rfl,i4,ps,cs,rfl,e5⟩
 have m8:=(blB (Below.refl B w) hBw f2).size
 have h4:=Zf e5 m8
 have l5:=(hA.below f2).below i4
 have hB:=blB (blB (Below.refl B w) hBw f2) hBw i4
 have hX:=(show Fr [ba,g] w _ from(Fr.of_below f2)).trans (Fr.of_below i4)
 have hO:=(show Zd [169,5] w _ from(Zd.of_below f2)).trans (Zd.of_below i4)
 refine zl 5 96 (fun zm j9 V=>∃ (i:Nat) (a2:O0) (c2:Nat) (l2:List Ent) (p4:O0) (c4:Nat),j9=[(0,P0 ba),(1,V0 t),(2,.bool leaf),(3,.slice a2 l2.length c2),(10,.slice p4 i c4),(26,.slice ps (ovN l.length m) cs),(27,V0 (↑(ovN l.length m):Int)),(28,V0 (i:Int))]∧zm=ovN l.length m-((i:Int)).toNat∧Below B w V∧Fr [ba,g] w V∧Zd [169,5] w V∧V.ownsRow w.heap.size 3 1 (.slice ps (ovN l.length m) cs) (ovN l.length m) ((sizL l.length m).map nv)∧V.ownsRow w.heap.size 124 3 (.slice p4 i c4) i ((upE l m (f+k0) i).flatMap Qb)∧Al B ba b g nn cc pa ca f N (k0+i) (levB t leaf m v l (f+k0) bs i) V∧(∀ W,Below B w W→Zd [169,5] w W→Sts Qb W (.slice a2 l2.length c2) l2)∧i≤ovN l.length m∧l2=l.drop (i*m)) ⟨0,a,c,l,none,0,rfl,rfl,hB,hX,hO,h4,A9 _ _ _ _,l5,?_,A6 _,by simp⟩ ?_
 ·exact hin
 rintro _ _ W3 ⟨i,a2,c2,l2,p4,c4,rfl,rfl,d8,f0,d9,e5,m0,hA,i6,hi,h0⟩ J3 m2 r3
 have o0:=Sl.cap (i6 _ d8 d9)
 have q0:i<ovN l.length m→i*m≤l.length:=Zco M0
 have k8:l2.length=l.length-i*m:=by rw[h0];simp
 have i0:Ys l.length m i≤l2.length:=by rw[k8];unfold Ys;omega
 refine xid 6 ((i:Int)<(↑(ovN l.length m):Int)) (fun n7=>?_) (fun n7=>?_)
 ·refine xx 6 _ (ovN l.length m) i 1 (Sf (Ze e5) (k:=i) M0).1 ?_
  refine xl 0 ((Sf (Ze e5) (k:=i) M0).2) ?_
  have j1:=d8
  have d0:=d9
  have d6:=f0
  refine xa 8 [V0 0,.bool false,S0,S0] 191 fun b6 W6 n6=>?_
  refine xsv 0 n6.blk [V0 t,.bool leaf,S0,S0] fun W7 u7 k7=>?_
  have g6:=n6.ge (B3 W3)
  refine xsH 7 (fun _ _ _ _ zo zx zy V=>Vq (k:=(Ys l.length m i)) (b:=a2) (n:=l2.length) (c:=c2) (i:=(↑(Ys l.length m i):Int)) (ki:=.i64) zo zx zy rfl M0 Tryz.underlying99 K0 V) ?_
  have hB:=u7.below n6.below g6
  refine zl 5 96 (fun zm j9 V=>∃ (j:Nat) (kp:O0) (kc:Nat) (vp:O0) (vc:Nat),j9=[(0,P0 ba),(1,V0 t),(2,.bool leaf),(3,.slice a2 l2.length c2),(10,.slice p4 i c4),(12,V0 (↑(Ys l.length m i):Int)),(13,P0 b6),(26,.slice ps (ovN l.length m) cs),(27,V0 (↑(ovN l.length m):Int)),(28,V0 (i:Int)),(37,.slice a2 (Ys l.length m i) c2),(38,V0 (↑(Ys l.length m i):Int)),(39,V0 (j:Int))]∧zm=Ys l.length m i-((j:Int)).toNat∧Bl W3 V∧Blk V b6 ([V0 t,.bool leaf,.slice kp j kc,.slice vp j vc]) 191∧V.ownsRow W3.heap.size 3 1 (.slice kp j kc) j (((Qd l2).take j).map V0)∧V.ownsRow W3.heap.size 9 1 (.slice vp j vc) j (((Vj l2).take j).map sv)∧j≤Ys l.length m i) ⟨0,none,0,none,0,rfl,rfl,hB,k7,A9 _ _ _ _,A9 _ _ _ _,A6 _⟩ ?_
  rintro _ _ W8 ⟨j,kp,kc,vp,vc,rfl,rfl,c0,b4,hK,hV,hj⟩ J8 m9 r8
  refine xid 6 ((j:Int)<(↑(Ys l.length m i):Int)) (fun n5=>?_) (fun n5=>?_)
  ·have b2:=i6 _ j1 d0
   refine xx 6 _ (Ys l.length m i) j 3 (Sts.cell b2 Vb Yn (k:=j) (i:=0) M0 rfl).1 ?_
   refine xlv 0 (Sts.rp (k:=j) (b2.below c0) Vb Yn M0 Do) ?_
   refine xa 0 [V0 0,.string ⟨#[]⟩,V0 0] 124 fun q1 r5 c7=>?_
   have m7:=c7.ge c0
   refine xsv 0 c7.blk [V0 ((l2.getD j Yn).1),.string ⟨((l2.getD j Yn).2.1).toArray⟩,V0 ((l2.getD j Yn).2.2)] fun p2 i9 l9=>?_
   have b0:=i9.blkT (b4.below c7.below) c7.blk Do
   refine xb 5 2 b0 ?_
   refine xb 1 0 l9 ?_
   refine xbs 0 1 [V0 ((l2.getD j Yn).1)] 3 fun p0 q8 d1=>?_
   have g7:=i9.below (bln c0 c7.below) m7
   have o7:=d1.ge g7
   have e8:=i9.own2 (Za hK c7.below) c7.blk Do
   have j7:=Zg e8 d1
   have c5:=Za e8 d1.below
   have g0:=bln g7 d1.below
   refine xbi 0 fun _ _ _ _ zJ zQ zo zx zy zK=>Zz (m:=1) (news:=[V0 ((l2.getD j Yn).1)]) (V0 0) 1 8 (j+1) (((Qd l2).take (j+1)).map V0) zo Tryz.underlying27 K0 rfl Do zx c5 zy (d1.blk.sl 1 1 Do Do) rfl (by simp[Value.oneCell']) (by unfold maxLen;omega) M0 g0.size (by rfl) ((Zb4 M0).symm) fun g2 g8 q6 m6 e1 k4=>?_
   refine zK _ _ ?_
   have a1:=(b0.below d1.below).grown e1 c5 Do
   refine xs 1 a1 [V0 t,.bool leaf,.slice g2 (j+1) g8,.slice vp j vc] fun p1 j0 l8=>?_
   refine xb 4 3 l8 ?_
   have h7:=j0.blkT ((l9.below d1.below).grown e1 c5 Do) a1 Do
   refine xb 1 1 h7 ?_
   refine xbs 0 1 [.string ⟨((l2.getD j Yn).2.1).toArray⟩] 9 fun r0 p9 e4=>?_
   have i2:=j0.below (g0.trans k4) g6
   have o9:=e4.ge i2
   have g1:=j0.own2 (Xb (Za (i9.own2 (Za hV c7.below) c7.blk Do) d1.below) e1 c5 Do) a1 Do
   have k3:=Zg g1 e4
   have e0:=Za g1 e4.below
   have f8:=bln i2 e4.below
   refine xbi 0 fun _ _ _ _ zJ zQ zo zx zy zK=>Zz (m:=1) (news:=[.string ⟨((l2.getD j Yn).2.1).toArray⟩]) (.string ⟨#[]⟩) 1 16 (j+1) (((Vj l2).take (j+1)).map sv) zo Tryz.underlying109 K0 rfl Do zx e0 zy (e4.blk.sl 1 1 Do Do) rfl (by simp[Value.oneCell']) (by unfold maxLen;omega) M0 f8.size (by rfl) ((Zcr M0).symm) fun l3 j8 r4 m3 f5 j6=>?_
   refine zK _ _ ?_
   have b3:=(l8.below e4.below).grown f5 e0 Do
   refine xs 1 b3 [V0 t,.bool leaf,.slice g2 (j+1) g8,.slice l3 (j+1) j8] fun q4 k9 m5=>?_
   refine xwm 4 ((j:Int)+1) (↑(j+1):Int) ?_
   have k2:=k9.below (f8.trans j6) g6
   have f3:=k9.own2 (Xb (Za (j0.own2 m6 a1 Do) e4.below) f5 e0 Do) b3 Do
   have g5:=k9.own2 m3 b3 Do
   exact ze 2 (m9 _ _ _ ⟨j+1,_,_,_,_,rfl,rfl,k2,m5,f3,g5,by omega⟩ M0)
  refine xsL 9 (fun _ _ _ _ zo zx zy V=>Pp (k:=(Ys l.length m i)) (b:=a2) (n:=l2.length) (c:=c2) (i:=(↑(Ys l.length m i):Int)) (ki:=.i64) 3 zo zx zy rfl M0 Tryz.underlying99 K0 V) ?_
  refine xlv 5 b4.rp ?_
  have a6:Bl W3 W8:=c0
  have i1:w.heap.size≤W3.heap.size:=j1.size
  have h3:Ys l.length m i=j:=by omega
  have n4:(Qd l2).take j=Qd (Xe l m i):=by rw[h0];exact Ig h3
  have m4:(Vj l2).take j=Vj (Xe l m i):=by rw[h0];exact Og h3
  have i5:(Xe l m i).length=j:=by rw[Gk,h3]
  have d7:=Zf hK i1
  rw[n4] at d7
  have h5:=Zf hV i1
  rw[m4] at h5
  have hN:=chunk_ok E ht1 ht2 hm hv hl (show i<ovN l.length m by omega)
  have f9:=nodB_len hN
  rw[i5] at hN
  have o1:Gg m v (Ns t leaf j m v) (Qd (Xe l m i)) (Vj (Xe l m i)) j=nodB t leaf m v (Xe l m i):=by rw[←i5];rfl
  refine xc 0 (args:=#[.agg #[V0 t,.bool leaf,.slice kp j kc,.slice vp j vc]]) (node_Put t leaf j m v (Qd (Xe l m i)) (Vj (Xe l m i)) kp vp kc vc _ hN (Ze d7) (Ze h5)) ?_
  rintro _ p5 ⟨_,rfl,a4,p6,c6,rfl,h6⟩
  have j4:=(blB j1 hBw a6).size
  have f6:=Zf h6 j4
  rw[o1] at f6
  have j5:=(hA.below a6).below a4
  have hO:=(d0.trans (Zd.of_below a6)).trans (Zd.of_below a4)
  have hB:=blB (blB j1 hBw a6) hBw a4
  refine xc 21 (args:=#[P0 ba,V0 2,.slice p6 244 c6]) (Jl B ba b g nn cc pa ca f N (k0+i) (levB t leaf m v l (f+k0) bs i) 2 p6 c6 (nodB t leaf m v (Xe l m i)) (f+k0+i) 244 _ (D7 _ _ _).symm f9 hC j5 M0 Do Do (fun W _ hO=>Qf (Ze (Zo f6 hO Do)) f9) Do (N0 hBw hB.size)) ?_
  rintro _ r6 ⟨rfl,k6,a9,f1,hA⟩
  refine xr 20 (args:=#[V0 (↑(f+k0+i):Int)]) (Mn ((f+k0+i:Nat):Int) M0 M0 _) fun o3 a0=>?_
  refine xa 2 [V0 0,.string ⟨#[]⟩,V0 0] 124 fun r2 o6 a3=>?_
  have e2:=blB (hB.trans k6) hBw a0
  have b9:=a3.ge0 e2
  have b5:=Za (Zo (Za (Za m0 a6) a4) a9 Do) a0
  have a5:=Zg b5 a3
  refine xsv 0 a3.blk [V0 0,.string ⟨(leB (↑(f+k0+i):Int) 4).toArray⟩,V0 (↑(f+k0+i):Int)] fun q7 b1 g3=>?_
  refine xid 9 ((↑(Ys l.length m i):Int)>(0:Int)) (fun l1=>?_) (fun l1=>?_)
  ·have e7:((Qd (Xe l m i))).getD 0 0=((Xe l m i).getD 0 Yn).1:=Zbj h3 M0
   have c1:=b1.blkT ((((b4.below a4).only a9 Do).below a0).below a3.below) a3.blk Do
   refine xb 2 2 c1 ?_
   have f7:=b1.own2 (Za (Za (Zo (Za d7 a4) a9 Do) a0) a3.below) a3.blk Do
   refine xx 0 _ j 0 1 (IntsN.elem (Ze f7) (by rw[Gf,i5]) (k:=0) M0).1 ?_
   refine xl 0 ((IntsN.elem (Ze f7) (by rw[Gf,i5]) (k:=0) M0).2) ?_
   refine xs 1 g3 [V0 ((Qd (Xe l m i)).getD 0 0),.string ⟨(leB (↑(f+k0+i):Int) 4).toArray⟩,V0 (↑(f+k0+i):Int)] fun r1 e6 m1=>?_
   refine xlv 4 m1.rp ?_
   refine xbs 0 1 [V0 ((Qd (Xe l m i)).getD 0 0),.string ⟨(leB (↑(f+k0+i):Int) 4).toArray⟩,V0 (↑(f+k0+i):Int)] 124 fun q5 q2 b7=>?_
   have j2:=b7.ne m1
   have e9:=e6.below (b1.below (blB e2 hBw a3.below) (N0 hBw b9)) (N0 hBw b9)
   have p3:=b7.ge0 e9
   have d4:=e6.own3 (b1.own3 (Za b5 a3.below) a5) a5
   have i3:=Zg d4 b7
   have a7:=Za d4 b7.below
   have f4:=blB e9 hBw b7.below
   refine xbi 0 fun _ _ _ _ zJ zQ zo zx zy zK=>Zz (m:=1) (news:=[V0 ((Qd (Xe l m i)).getD 0 0),.string ⟨(leB (↑(f+k0+i):Int) 4).toArray⟩,V0 (↑(f+k0+i):Int)]) (.agg #[V0 0,.string ⟨#[]⟩,V0 0]) 3 32 (i+1) ((upE l m (f+k0) (i+1)).flatMap Qb) zo Tryz.underlying99 K0 rfl Do zx a7 zy (b7.blk.sl 1 1 Do Do) rfl (by simp[Value.oneCell']) (by unfold maxLen;omega) M0 f4.size (by rfl) (up_row (by first|exact e7|exact d3)) fun n3 n1 q3 n0 c8 l0=>?_
   refine zK _ _ ?_
   refine xwm 5 ((i:Int)+1) (↑(i+1):Int) ?_
   refine xv1 2 3 (show(.slice (Uv a2 (Ys l.length m i) c2 3) (l2.length-(Ys l.length m i)) (c2-(Ys l.length m i)):Value)=.slice (Uv a2 (Ys l.length m i) c2 3) ((l2.drop (Ys l.length m i)).length) (c2-Ys l.length m i) from by rw[H2]) ?_
   have k5:=(((((hA.below a0).below a3.below).only (Zd.of_upd (T:=[124]) b1 a3.blk Do) Do).only (Zd.of_upd (T:=[124]) e6 g3 Do) Do).below b7.below).only (Zd.of_grown (T:=[124]) c8 a7 Do) Do
   have e3:l2.drop (Ys l.length m i)=l.drop ((i+1)*m):=by
    rw[h0,K7,H7,Nat.one_mul]
    unfold Ys
    rcases Nat.le_total m (l.length-i*m) with q|q
    ·rw[Gt q]
    ·rw[Nat.min_eq_right q,C9 M0,C9 M0]
   have l4:=f4.trans (l0.mono hBw)
   have hX:=(Fr.grown_new ((Fr.upd_new (Fr.upd_new (((((d6.trans (Fr.of_below a6)).trans (Fr.of_below a4)).trans (f1.mono (by simp))).trans (Fr.of_below a0)).trans (Fr.of_below a3.below)) b1 b9) e6 b9).trans (Fr.of_below b7.below)) c8 a7)
   have l7:=(Zd.grown_new ((Zd.upd_new (Zd.upd_new (((hO.trans a9).trans (Zd.of_below a0)).trans (Zd.of_below a3.below)) b1 b9) e6 b9).trans (Zd.of_below b7.below)) c8 a7)
   have h8:=Xb (Za (e6.own2 (b1.own2 (Za (Za (Zo (Za (Za e5 a6) a4) a9 Do) a0) a3.below) a3.blk Do) g3 Do) b7.below) c8 a7 Do
   exact ze 0 (m2 _ _ _ ⟨i+1,_,_,(l2.drop (Ys l.length m i)),_,_,rfl,rfl,l4,hX,l7,h8,n0,k5,fun W h1 h2=>Sts.cut Vb (i6 W h1 h2) _ i0,by omega,e3⟩ M0)
  have d3:(0:Int)=((Xe l m i).getD 0 Yn).1:=Fj h3 M0
  refine xlv 4 g3.rp ?_
  refine xbs 0 1 [V0 0,.string ⟨(leB (↑(f+k0+i):Int) 4).toArray⟩,V0 (↑(f+k0+i):Int)] 124 fun o8 o5 b8=>?_
  have i7:=b8.ne g3
  have d2:=b1.below (blB e2 hBw a3.below) (N0 hBw b9)
  have q9:=b8.ge0 d2
  have c9:=b1.own3 (Za b5 a3.below) a5
  have i8:=Zg c9 b8
  have a8:=Za c9 b8.below
  have d5:=blB d2 hBw b8.below
  refine xbi 0 fun _ _ _ _ zJ zQ zo zx zy zK=>Zz (m:=1) (news:=[V0 0,.string ⟨(leB (↑(f+k0+i):Int) 4).toArray⟩,V0 (↑(f+k0+i):Int)]) (.agg #[V0 0,.string ⟨#[]⟩,V0 0]) 3 32 (i+1) ((upE l m (f+k0) (i+1)).flatMap Qb) zo Tryz.underlying99 K0 rfl Do zx a8 zy (b8.blk.sl 1 1 Do Do) rfl (by simp[Value.oneCell']) (by unfold maxLen;omega) M0 d5.size (by rfl) (up_row (by first|exact e7|exact d3)) fun n2 o2 o4 n9 c3 k1=>?_
  refine zK _ _ ?_
  refine xwm 5 ((i:Int)+1) (↑(i+1):Int) ?_
  refine xv1 2 3 (show(.slice (Uv a2 (Ys l.length m i) c2 3) (l2.length-(Ys l.length m i)) (c2-(Ys l.length m i)):Value)=.slice (Uv a2 (Ys l.length m i) c2 3) ((l2.drop (Ys l.length m i)).length) (c2-Ys l.length m i) from by rw[H2]) ?_
  have l6:=((((hA.below a0).below a3.below).only (Zd.of_upd (T:=[124]) b1 a3.blk Do) Do).below b8.below).only (Zd.of_grown (T:=[124]) c3 a8 Do) Do
  have e3:l2.drop (Ys l.length m i)=l.drop ((i+1)*m):=by
   rw[h0,K7,H7,Nat.one_mul]
   unfold Ys
   rcases Nat.le_total m (l.length-i*m) with q|q
   ·rw[Gt q]
   ·rw[Nat.min_eq_right q,C9 M0,C9 M0]
  have g9:=d5.trans (k1.mono hBw)
  have hX:=(Fr.grown_new ((Fr.upd_new (((((d6.trans (Fr.of_below a6)).trans (Fr.of_below a4)).trans (f1.mono (by simp))).trans (Fr.of_below a0)).trans (Fr.of_below a3.below)) b1 b9).trans (Fr.of_below b8.below)) c3 a8)
  have j3:=(Zd.grown_new ((Zd.upd_new (((hO.trans a9).trans (Zd.of_below a0)).trans (Zd.of_below a3.below)) b1 b9).trans (Zd.of_below b8.below)) c3 a8)
  have h9:=Xb (Za (b1.own2 (Za (Za (Zo (Za (Za e5 a6) a4) a9 Do) a0) a3.below) a3.blk Do) b8.below) c3 a8 Do
  exact ze 0 (m2 _ _ _ ⟨i+1,_,_,(l2.drop (Ys l.length m i)),_,_,rfl,rfl,g9,hX,j3,h9,n9,l6,fun W h1 h2=>Sts.cut Vb (i6 W h1 h2) _ i0,by omega,e3⟩ M0)
 refine xe 13 (.tuple #[.slice p4 i c4,.nilIface]) ?_
 obtain rfl:i=ovN l.length m:=by omega
 exact⟨_,_,rfl,d8,d9,f0,hA,m0⟩
theorem Zb7{w w':World}(h:Zd [169,5] w w'):Zd [169,5,39] w w':=h.mono fun t ht=>by simp at ht ⊢;exact⟨ht.1,ht.2.1⟩
def Zan(B ba b g nn cc:Nat)(pa:O0)(ca f N k0:Nat)(bs:Bi)(t:Int)(leaf:Bool)(m v:Nat)(l:List Ent)(b8:Nat)(w:World)(e:Ending)(w':World):Prop :=
 ∃ p c,e=.returned (.slice p (ovN l.length m) c)∧Below B w w'∧Zd [169,5,39] w w'∧Fr [ba,g,b8] w w'∧Blk w' b8 [.nilIface] 39∧Al B ba b g nn cc pa ca f N (k0+ovN l.length m) (levB t leaf m v l (f+k0) bs (ovN l.length m)) w'∧w'.ownsRow w.heap.size 124 3 (.slice p (ovN l.length m) c) (ovN l.length m) ((upE l m (f+k0) (ovN l.length m)).flatMap Qb)
theorem Nb(B ba b g nn cc:Nat)(pa:O0)(ca f N k0:Nat)(bs:Bi)(t:Int)(leaf:Bool)(m v:Nat)(a:O0)(c:Nat)(l:List Ent)(b3 b4 b8:Nat)(w:World)(k3:Blk w b3 [P0 ba] 77)(k4:Blk w b4 [V0 t] 3)(k8:Blk w b8 [.nilIface] 39)(h38:b3≠b8)(h48:b4≠b8)(hB8:B≤b8)(hC:AlC B ba nn cc ca f N)(hA:Al B ba b g nn cc pa ca f N k0 bs w)(ht1:1≤t)(ht2:t≤5)(hm:Qg t leaf=m)(hv:Mu t leaf=v)(E:EntsOk v l)(hl:leaf=false→1≤l.length)(hn:l.length≤32768)(hf1:1≤f)(hk:k0+ovN l.length m≤N)(hin:∀ W,Below B w W→Zd [169,5,39] w W→Sts Qb W (.slice a l.length c) l)(hBw:B≤w.heap.size) :
 C0 214 #[.bool leaf,.slice a l.length c,P0 b3,P0 b4,P0 b8] w (Zan B ba b g nn cc pa ca f N k0 bs t leaf m v l b8 w):=by
 refine zin 20 Tryz.func214 ?_
 refine xb 7 0 k3 ?_
 refine xb 0 0 k4 ?_
 refine xc 2 (args:=#[P0 ba,V0 t,.bool leaf,.slice a l.length c]) (Ek B ba b g nn cc pa ca f N k0 bs t leaf m v a c l _ hC hA ht1 ht2 hm hv E hl hn hf1 hk (fun W h1 h2=>hin W ((Below.refl B _).trans h1) ((Zd.refl _ _).trans (Zb7 h2))) (N0 hBw (Below.refl B _).size)) ?_
 rintro _ W1 ⟨p4,c4,rfl,a6,a3,a4,hA,a5⟩
 have a7:=A3 w.heap.size
 have a0:=k8.only a3 Do
 refine xs 10 a0 [.nilIface] fun W2 u2 k2=>?_
 have hB:=u2.below a6 hB8
 have hO:=(show Zd [169,5,39] w _ from(Zb7 a3)).trans (Zd.of_upd u2 a0 Do)
 have hX:=(show Fr [ba,g,b8] w _ from(a4.mono (by simp))).trans (Fr.of_upd u2 (by simp))
 have a2:=hA.only (Zd.of_upd (T:=[39]) u2 a0 Do) Do
 have a1:=u2.own2 (Zf a5 a7) a0 Do
 exact xe 9 (.slice p4 (ovN l.length m) c4) ⟨_,_,rfl,hB,hO,hX,k2,a2,a1⟩
def Rz(B ba b g nn cc:Nat)(pa:O0)(ca f N k0:Nat)(bs:Bi)(t:Int)(l:List Ent)(w:World)(e:Ending)(w':World):Prop :=
 e=.returned (.tuple #[V0 (Vk t l (f+k0) bs).1,.nilIface])∧Below B w w'∧Zd [169,5,39] w w'∧Fr [ba,g] w w'∧Al B ba b g nn cc pa ca f N (k0+Zy t l.length) (Vk t l (f+k0) bs).2 w'
theorem Tm(B ba b g nn cc:Nat)(pa:O0)(ca f N k0:Nat)(bs:Bi)(t:Int)(a:O0)(c:Nat)(l:List Ent)(w:World)(hC:AlC B ba nn cc ca f N)(hA:Al B ba b g nn cc pa ca f N k0 bs w)(ht1:1≤t)(ht2:t≤5)(E:EntsOk (Mu t true) l)(hn:l.length≤32768)(hf1:1≤f)(hkN:k0≤N)(hk:k0+Zy t l.length≤N)(hin:∀ W,Below B w W→Zd [169,5,39] w W→Sts Qb W (.slice a l.length c) l)(hBw:B≤w.heap.size) :
 C0 148 #[P0 ba,V0 t,.slice a l.length c] w (Rz B ba b g nn cc pa ca f N k0 bs t l w):=by
 have f7:=Xk t l.length
 have g5:(ovN l.length (Qg t true))≤Zy t l.length:=Ph _
 have g6:=Bm l.length (Qg t true) (Yk t true).1
 have f2:=Yr l.length (Qg t true)
 have f9:=hC.hf
 have g0:=hC.hn
 refine zin 52 Tryz.func148 ?_
 refine xa 2 [P0 ba] 77 fun b1 W1 n1=>?_
 refine xa 0 [V0 t] 3 fun b2 W2 n2=>?_
 have k1:=n1.blk.below n2.below
 refine xb 8 0 k1 ?_
 have b9:=(hA.below n1.below).below n2.below
 refine xr 0 (args:=#[P0 ba]) (Hj ba b _ _ _ b9.blkA) fun W3 b5=>?_
 have k2:=n2.blk.below b5
 refine xb 7 0 k2 ?_
 have hB:=blB (blB (blB (Below.refl B w) hBw n1.below) hBw n2.below) hBw b5
 have hO:=((show Zd [169,5,39] w _ from(Zd.of_below n1.below)).trans (Zd.of_below n2.below)).trans (Zd.of_below b5)
 refine xr 1 (args:=#[V0 t,.slice a l.length c]) (Eg t (Mu t true) a c l _ ht1 ht2 rfl E (hin _ hB hO) hn) fun W4 b4=>?_
 refine xd 6 .z ?_
 have c4:=((k1.below b5).below b4).below (Zb W4)
 refine xb (.e [] 0) 0 c4 ?_
 have c8:=(k2.below b4).below (Zb W4)
 refine xb (.e [] 2) 0 c8 ?_
 have c1:=((b9.below b5).below b4).below (Zb W4)
 refine xr (.o [3,4] 1) (args:=#[P0 ba]) (Ua ba b pa N ca k0 _ c1.blkA hkN) fun W5 b6=>?_
 refine xr (.o [] 5) (args:=#[V0 t,V0 (l.length:Int)]) (Xi t l.length _ ht1 ht2 hn) fun W6 b8=>?_
 refine xk (.r [6,7] 2) (show(decide ((↑(N-k0):Int)<(↑(Zy t l.length):Int)):Bool)=false from decide_eq_false M0) ?_
 refine xa 5 [.nilIface] 39 fun b7 W7 n7=>?_
 have a9:=blB (blB (blB (blB hB hBw b4) hBw (Zb W4)) hBw b6) hBw b8
 have g7:=n7.ge0 a9
 have a6:=((c4.below b6).below b8).below n7.below
 have a8:=((c8.below b6).below b8).below n7.below
 have e3:=((c1.below b6).below b8).below n7.below
 have b0:=blB a9 hBw n7.below
 have c6:=((((hO.trans (Zd.of_below b4)).trans (Zd.of_below (Zb W4))).trans (Zd.of_below b6)).trans (Zd.of_below b8)).trans (Zd.of_below n7.below)
 refine xc 12 (args:=#[.bool true,.slice a l.length c,P0 b1,P0 b2,P0 b7]) (Nb B ba b g nn cc pa ca f N k0 bs t true (Qg t true) (Mu t true) a c l b1 b2 b7 _ a6 a8 n7.blk (Blk.tne a6 n7.blk Do) (Blk.tne a8 n7.blk Do) (N0 hBw g7) hC e3 ht1 ht2 rfl rfl E (by simp) hn hf1 M0 (fun W h1 h2=>hin W (b0.trans h1) (c6.trans h2)) (N0 hBw b0.size)) ?_
 rintro _ W8 ⟨d6,e1,rfl,e9,e6,f0,d9,hA,a7⟩
 have f1:=(blB a9 hBw n7.below).size
 refine xv1 5 10 (show(.slice d6 (ovN l.length (Qg t true)) e1:Value)=.slice d6 ((upE l (Qg t true) (f+k0) (ovN l.length (Qg t true))).length) e1 from by rw[Xh]) ?_
 have c3:=Zf a7 f1
 have e5:=b0.trans e9
 have hX:=(Fr.trans_new ((((((((show Fr [ba,g] w _ from(Fr.of_below n1.below)).trans (Fr.of_below n2.below)).trans (Fr.of_below b5)).trans (Fr.of_below b4)).trans (Fr.of_below (Zb W4))).trans (Fr.of_below b6)).trans (Fr.of_below b8)).trans (Fr.of_below n7.below)) f0 g7)
 have d1:=c6.trans e6
 have d7:=a6.only e6 Do
 have d2:=a8.only e6 Do
 refine zl 0 52 (fun zm f5 V=>∃ (u:List Ent) (K:Nat) (c9:Bi) (p:O0) (c2:Nat),f5=[(6,V0 0),(7,.nilIface),(8,P0 b7),(9,.func (.func 214) #[] #[P0 b1,P0 b2,P0 b7]),(10,.slice p u.length c2)]∧zm=u.length∧Below B w V∧Fr [ba,g] w V∧Zd [169,5,39] w V∧Blk V b1 ([P0 ba]) 77∧Blk V b2 ([V0 t]) 3∧Blk V b7 ([.nilIface]) 39∧V.ownsRow w.heap.size 124 3 (.slice p u.length c2) u.length (u.flatMap Qb)∧Al B ba b g nn cc pa ca f N K c9 V∧K+(Dg u.length).sum=k0+Zy t l.length+u.length∧1≤u.length∧u.length≤32768∧EntsOk 4 u∧Gs t u (f+K) c9=Vk t l (f+k0) bs) ⟨(upE l (Qg t true) (f+k0) (ovN l.length (Qg t true))),(k0+(ovN l.length (Qg t true))),(levB t true (Qg t true) (Mu t true) l (f+k0) bs (ovN l.length (Qg t true))),d6,e1,rfl,rfl,e5,hX,d1,d7,d2,d9,(by rw[Xh];exact c3),hA,(by rw[Xh];unfold Zy Vw;omega),(by rw[Xh];exact f2),(by rw[Xh];omega),up_ok E (Yk t true).1,(by rw[←D7];rfl)⟩ ?_
 rintro _ _ W9 ⟨u,K,c9,p,c2,rfl,rfl,a3,c0,c7,a2,a1,a0,a7,hA,hK,f4,f8,hE,d0⟩ J9 f3 r9
 have g2:¬ u.length≤1→(Dg u.length).sum=u.length+(Dg (ovN u.length 18)).sum:=fun h=>by rw[Qt h];rfl
 have g1:=Ph (ovN u.length 18)
 have f6:2≤u.length→ovN u.length 18≤u.length/2:=ov18
 have e4:=Yr u.length 18
 refine xb 3 0 a0 ?_
 refine xid 8 ((u.length:Int)>(1:Int)) (fun d5=>?_) (fun d5=>?_)
 ·refine xc 6 (args:=#[.bool false,.slice p u.length c2,P0 b1,P0 b2,P0 b7]) (Nb B ba b g nn cc pa ca f N K c9 t false 18 4 p c2 u b1 b2 b7 _ a2 a1 a0 (Blk.tne a2 a0 Do) (Blk.tne a1 a0 Do) (N0 hBw g7) hC hA ht1 ht2 rfl rfl hE (fun _=>f4) M0 hf1 M0 (fun W _ h2=>Ze (Zo a7 h2 Do)) (N0 hBw a3.size)) ?_
  rintro _ g3 ⟨e8,e7,rfl,d8,b3,d4,d9,hA,a7⟩
  refine xv1 3 10 (show(.slice e8 (ovN u.length 18) e7:Value)=.slice e8 ((upE u 18 (f+K) (ovN u.length 18)).length) e7 from by rw[Xh]) ?_
  have c5:=Zf a7 a3.size
  have e0:=a3.trans d8
  have d3:=(Fr.trans_new c0 d4 g7)
  have e2:=c7.trans b3
  have a5:=a2.only b3 Do
  have a4:=a1.only b3 Do
  refine ze 0 (f3 _ _ _ ⟨(upE u 18 (f+K) (ovN u.length 18)),(K+ovN u.length 18),_,_,_,rfl,rfl,e0,d3,e2,a5,a4,d9,(by rw[Xh];exact c5),hA,(by rw[Xh];omega),(by rw[Xh];exact e4),(by rw[Xh];omega),up_ok hE Do,(by rw[←d0,←D7];exact(Pc M0).symm)⟩ ?_)
  show((upE u 18 (f+K) (ovN u.length 18)).length)<u.length
  rw[Xh];omega
 refine xb 8 0 a0 ?_
 refine xx 9 _ u.length 0 3 (Sts.cell (Ze a7) Vb Yn (k:=0) (i:=0) M0 rfl).1 ?_
 refine xl 1 ((Sts.cell (Ze a7) Vb Yn (k:=0) (i:=2) M0 rfl).2) ?_
 refine xe 5 (.tuple #[V0 ((u.getD 0 Yn).2.2),.nilIface]) ?_
 have h1:u.length≤1:=by omega
 rw[Mg h1] at d0
 rw[Qz h1] at hK
 simp only[G0,List.sum_nil] at hK
 obtain rfl:K=k0+Zy t l.length:=by omega
 refine⟨by rw[←d0],a3,c7,c0,by rw[←d0];exact hA⟩
theorem Al.mono{B B' ba b g n c:Nat}{pa:O0}{ca f N k:Nat}{l:Bi}{w:World}(h:Al B' ba b g n c pa ca f N k l w)(hB:B≤B'):Al B ba b g n c pa ca f N k l w:=⟨h.blkA,h.blkI,Zf h.data hB,Zf h.nums hB⟩
theorem AlC.mono{B B' ba n c ca f N:Nat}(h:AlC B' ba n c ca f N)(hB:B≤B'):AlC B ba n c ca f N:=⟨h.hn,h.hc,h.hca,h.hf,N0 hB h.hB⟩
theorem row_at{w:World}{base g n c size:Nat}{e:TypeId}{xs:List Value}(h:w.ownsRow base e size (.slice (S1 g) n c) n xs):∃ cur,w.heap[g]? = some (.cells cur e (0,0)):=by
 rcases h.2 with ⟨hv,_⟩|⟨g2,a0,cur,hv,_,hh,_⟩
 ·cases hv
 ·simp only[A7,At,Addr.mk.injEq] at hv
  obtain⟨⟨rfl,_,_⟩,_⟩:=hv
  exact⟨cur,hh⟩
theorem Al.ne{B ba b g n c:Nat}{pa:O0}{ca f N k:Nat}{l:Bi}{B2 ba2 b2 g2 n2 c2:Nat}{pa2:O0}{ca2 f2 N2 k2:Nat}{l2:Bi}{w:World}(h:Al B ba b g n c pa ca f N k l w)(h2:Al B2 ba2 b2 g2 n2 c2 pa2 ca2 f2 N2 k2 l2 w):b2≠ba∧b2≠g:=by
 constructor
 ·rintro rfl
  exact absurd (h.blkA.ty h2.blkI) Do
 ·rintro rfl
  obtain⟨a0,hh⟩:=row_at h.data
  have h3:w.heap[b2]? = some (.cells [.slice (S1 g2) n2 c2].toArray 108 (0,0)):=h2.blkI
  rw[hh] at h3
  simp only[At,Obj.cells.injEq] at h3
  exact absurd h3.2.1 Do
theorem Al.apart{B2 ba2 b2 g2 n2 c2:Nat}{pa2:O0}{ca2 f2 N2 k2:Nat}{l2:Bi}{w W:World}{ba g:Nat}(h:Al B2 ba2 b2 g2 n2 c2 pa2 ca2 f2 N2 k2 l2 w)(hC:AlC B2 ba2 n2 c2 ca2 f2 N2)(h1:ba<B2)(h2:g<B2)(hne:b2≠ba∧b2≠g)(hX:Fr [ba,g] w W):Al B2 ba2 b2 g2 n2 c2 pa2 ca2 f2 N2 k2 l2 W:=by
 have hB:=hC.hB
 refine⟨h.blkA.fr hX (by simp;omega),h.blkI.fr hX (by simp;exact hne),Zcw h.data hX fun k hk=>?_,Zcw h.nums hX fun k hk=>?_⟩
 ·have:=(h.data.lt k hk).1;simp;omega
 ·have:=(h.nums.lt k hk).1;simp;omega
theorem Kb(B ba b g nn cc:Nat)(pa:O0)(ca f N k0:Nat)(bs:Bi)(t:Int)(a:O0)(c:Nat)(l:List Ent)(n:Nat)(w:World)(hl:l.length=n)(hC:AlC B ba nn cc ca f N)(hA:Al B ba b g nn cc pa ca f N k0 bs w)(ht1:1≤t)(ht2:t≤5)(E:EntsOk (Mu t true) l)(hn:n≤32768)(hf1:1≤f)(hkN:k0≤N)(hk:k0+Zy t n≤N)(hin:∀ W,Below B w W→Zd [169,5,39] w W→Sts Qb W (.slice a l.length c) l)(hBw:B≤w.heap.size) :
 C0 148 #[P0 ba,V0 t,.slice a n c] w (Rz B ba b g nn cc pa ca f N k0 bs t l w):=by
 subst hl;exact Tm B ba b g nn cc pa ca f N k0 bs t a c l w hC hA ht1 ht2 E hn hf1 hkN hk hin hBw
theorem Js{t:Int}{l:List Ent}{q:Nat}{bs:Bi}(hq:1≤q):(Vk t l q bs).1=((q+Zy t l.length-1:Nat):Int):=by
 have hp:=Yr l.length (Qg t true)
 have hg:=Ph (ovN l.length (Qg t true))
 unfold Vk
 rw[Ew (by rw[Xh];exact hp) (by rw[Xh,Jb M0];simp only[upX];congr 1;omega) M0,Xh]
 unfold Zy Vw
 congr 1;omega
abbrev Qk:=Int×List Ent
def Pu(x:Qk):Prop:=1≤x.1∧x.1≤5∧EntsOk (Mu x.1 true) x.2∧x.2.length≤32768
def Pa(x:Qk):Nat:=Zy x.1 x.2.length
def Xo:List Qk→Nat
 | []=>0
 | x::r=>Pa x+Xo r
def Ov:List Qk→Nat→Bi→Bi
 | [],_,bs=>bs
 | x::r,q,bs=>Ov r (q+Pa x) (Vk x.1 x.2 q bs).2
theorem Dp(a b:List Qk):Xo (a++b)=Xo a+Xo b:=by
 induction a with
 | nil=>simp[Xo]
 | cons x a ih=>simp only[F5,Xo,ih];omega
theorem Di(a b:List Qk):∀ (q:Nat) (bs:Bi),Ov (a++b) q bs=Ov b (q+Xo a) (Ov a q bs):=by
 induction a with
 | nil=>intro q bs;simp[Ov,Xo]
 | cons x a ih =>
  intro q bs
  simp only[F5,Ov,Xo,ih]
  rw[show q+Pa x+Xo a=q+(Pa x+Xo a) by omega]
theorem Ca(L:List Dv)(i:Nat):Qp (L.take i)≤Qp L:=by
 conv=>rhs;rw[←F6 i L]
 unfold Qp
 rw[B6,E7];omega
theorem Zdk{α:Type}{l:List α}{k:Nat}(d:α)(h:k<l.length):l.getD k d∈l:=by
 rw[show l.getD k d=l[k] from by simp[List.getD,h]];exact D6 _
def devT(L:List Dv):List Qk:=L.map fun d=>(2,Jv d.2)
theorem Ad{l:List Nat}{a:Nat}(h:a∈l):a≤l.sum:=by
 induction l with
 | nil=>cases h
 | cons b l ih =>
  rw[G0]
  rcases D4.1 h with rfl|h
  ·omega
  ·have:=ih h;omega
theorem devT_ok{data:Int}{L:List Dv}(h:DevsOk data L):∀ x∈devT L,Pu x:=by
 intro x hx
 obtain⟨d,hd,rfl⟩:=List.mem_map.1 hx
 have hs:d.2.length≤Qp L:=by
  unfold Qp
  exact Ad (List.mem_map.2 ⟨d,hd,rfl⟩)
 have:=h.sum
 exact⟨show(1:Int)≤2 by decide,show(2:Int)≤5 by decide,mapEs_ok (h.each d hd).maps,by rw[Yz];omega⟩
theorem forN_one(x:Qk):Xo [x]=Pa x:=by show Pa x+0=_;omega
theorem Yv(F:List Qk)(x:Qk):Xo (F++[x])=Xo F+Pa x:=by rw[Dp,forN_one]
theorem Zbo(F:List Qk)(x:Qk)(q:Nat)(bs:Bi):Ov (F++[x]) q bs=(Vk x.1 x.2 (q+Xo F) (Ov F q bs)).2:=by rw[Di];rfl
theorem Nn(x:Qk):1≤Pa x:=Xk _ _
def AlF (B ba b g nn cc:Nat)(pa:O0)(ca N:Nat)(bs:Bi)(F:List Qk)(w:World):Prop:=Al B ba b g nn cc pa ca 1 N (Xo F) (Ov F 1 bs) w
theorem AlF.below{B ba b g nn cc:Nat}{pa:O0}{ca N:Nat}{bs:Bi}{F:List Qk}{w W:World}(h:AlF B ba b g nn cc pa ca N bs F w)(hb:Bl w W):AlF B ba b g nn cc pa ca N bs F W:=Al.below h hb
theorem AlF.only{B ba b g nn cc:Nat}{pa:O0}{ca N:Nat}{bs:Bi}{F:List Qk}{w W:World}{T:List TypeId}(h:AlF B ba b g nn cc pa ca N bs F w)(hO:Zd T w W)(hT:(T.contains 169||(T.contains 108||(T.contains 5||T.contains 3)))=false):AlF B ba b g nn cc pa ca N bs F W:=by
 simp only[K1] at hT
 exact⟨h.blkA.only hO hT.1,h.blkI.only hO hT.2.1,Zo h.data hO hT.2.2.1,Zo h.nums hO hT.2.2.2⟩
theorem build_F(B ba b g nn cc:Nat)(pa:O0)(ca N:Nat)(bs:Bi)(F:List Qk)(t:Int)(a:O0)(c n:Nat)(l:List Ent)(w:World)(hl:l.length=n)(hC:AlC B ba nn cc ca 1 N)(hA:AlF B ba b g nn cc pa ca N bs F w)(hok:Pu (t,l))(hr:Xo (F++[(t,l)])≤N)
 (hin:∀ W,Below B w W→Zd [169,5,39] w W→Sl W (.slice a n c) n (l.flatMap Qb)) (hBw:B≤w.heap.size) :
 C0 148 #[P0 ba,V0 t,.slice a n c] w (fun e w'=>e=.returned (.tuple #[V0 (Xo (F++[(t,l)]):Int),.nilIface])∧Below B w w'∧Zd [169,5,39] w w'∧Fr [ba,g] w w'∧AlF B ba b g nn cc pa ca N bs (F++[(t,l)]) w'):=by
 subst hl
 have hn:=Nn (t,l)
 rw[Yv] at hr
 refine(Kb B ba b g nn cc pa ca 1 N (Xo F) (Ov F 1 bs) t a c l l.length w rfl hC hA hok.1 hok.2.1 hok.2.2.1 (N0 hok.2.2.2 Do) (A3 _) M0 hr hin hBw).mono ?_
 rintro e w' ⟨rfl,hb,hO,hX,a1⟩
 have a0:(Vk t l (1+Xo F) (Ov F 1 bs)).1=((Xo (F++[(t,l)]):Nat):Int):=by
  rw[Js M0,Yv]
  show((1+Xo F+Pa (t,l)-1:Nat):Int)=_
  omega
 refine⟨by rw[a0],hb,hO,hX,?_⟩
 unfold AlF
 rw[Yv,Zbo]
 exact a1
theorem top_ok{data:Int}{L:List Dv}{R:Nat→Nat}(h:DevsOk data L):Pu (1,Gq L R):=by
 have:=h.few
 exact⟨show(1:Int)≤1 by decide,show(1:Int)≤5 by decide,topEs_ok h,by rw[Yw];omega⟩
theorem det_ok{data:Int}{L:List Dv}{C:Nat→Int}(h:DevsOk data L):Pu (3,Hr L C):=by
 have:=h.few
 exact⟨show(1:Int)≤3 by decide,show(3:Int)≤5 by decide,detEs_ok h,by rw[Qa];omega⟩
theorem Ea{E:List Ent}{i:Nat}(h:i<E.length){x:Ent}(hx:E.getD i Yn=x):(E.take i).flatMap Qb++Qb x=(E.take (i+1)).flatMap Qb:=by
 subst hx
 rw[A4 h,G3]
 simp[List.getD,h]
theorem Tz{data:Int}{L:List Dv}(hD:DevsOk data L){i:Nat}(h:i<L.length):Pu (2,Jv (L.getD i dvD).2):=devT_ok hD _ (List.mem_map.2 ⟨L.getD i dvD,by simp[List.getD,h],rfl⟩)
theorem Wm{L:List Dv}{i:Nat}(h:i<L.length):(L.getD i dvD).2.length≤Qp L:=by
 have a:=Ca L (i+1)
 have e:Qp (L.take (i+1))=Qp (L.take i)+(L.getD i dvD).2.length:=by
  unfold Qp
  rw[A4 h,B6,E7]
  simp[List.getD,h]
 omega
def Hb(L:List Dv):Nat→Int:=fun i=>((L.getD i dvD).2.length:Int)
def Ld(cs:List Nat)(k:Int):List Nat:=cs.set k.toNat (cs.getD k.toNat 0+1)
theorem Jn(cs:List Nat)(k:Int):(Ld cs k).length=cs.length:=by simp[Ld]
theorem sum_set{cs:List Nat}{k:Nat}(h:k<cs.length)(v:Nat):(cs.set k v).sum+cs.getD k 0=cs.sum+v:=by
 induction cs generalizing k with
 | nil=>exact absurd h (by simp)
 | cons a cs ih =>
  cases k with
  | zero=>simp[List.getD];omega
  | succ k =>
   have:=ih (k:=k) (by simpa using h)
   simp only[List.set_cons_succ,G0,List.getD_cons_succ]
   omega
theorem St{cs:List Nat}{k:Int}(h0:0≤k)(h:k<cs.length):(Ld cs k).sum=cs.sum+1:=by
 have:=sum_set (cs:=cs) (k:=k.toNat) M0 (cs.getD k.toNat 0+1)
 unfold Ld;omega
def Qx(cs:List Nat)(S:List Nat):List Nat:=S.foldl (fun(c:List Nat) (b:Nat)=>Ld c (b:Int)) cs
theorem Ub(cs:List Nat)(b:Nat)(S:List Nat):Qx cs (b::S)=Qx (Ld cs (b:Int)) S:=rfl
theorem Bg(cs S T:List Nat):Qx cs (S++T)=Qx (Qx cs S) T:=List.foldl_append
theorem Bj(S:List Nat):∀ cs:List Nat,(Qx cs S).length=cs.length:=by
 induction S with
 | nil=>intro cs;rfl
 | cons b S ih=>intro cs;rw[Ub,ih,Jn]
theorem Za7{cs:List Nat}{k:Nat}(hk:k<cs.length)(i:Nat):(Ld cs (k:Int)).getD i 0=cs.getD i 0+if k=i then 1 else 0:=by
 unfold Ld
 rw[G7]
 by_cases e:k=i
 ·subst e;simp[List.getD,hk]
 ·rw[if_neg e];simp[List.getD,e]
theorem Cz(S:List Nat):∀ cs:List Nat,(∀ b∈S,b<cs.length)→∀ i,(Qx cs S).getD i 0=cs.getD i 0+S.count i:=by
 induction S with
 | nil=>intro cs _ i;simp[Qx]
 | cons b S ih =>
  intro cs h i
  rw[Ub,ih _ (fun x hx=>by rw[Jn];exact h x (C7 _ hx)),Za7 (h b B9),List.count_cons]
  by_cases e:b=i
  ·subst e;simp;omega
  ·rw[if_neg e,if_neg (by simpa using e)];omega
def Ql:Nat→List Dv→List (Nat×Mp)
 | _,[]=>[]
 | i,d::r=>d.2.map (fun m=>(i,m))++Ql (i+1) r
theorem Nk(L:List Dv):∀ i,(Ql i L).length=Qp L:=by
 induction L with
 | nil=>intro i;rfl
 | cons d r ih=>intro i;rw[Ql,A1,A0,ih];rfl
theorem Om(L:List Dv):∀ (b i:Nat),i≤L.length→(Ql b L).drop (Qp (L.take i))=Ql (b+i) (L.drop i):=by
 induction L with
 | nil =>
  intro b i hi;obtain rfl:i=0:=by simpa using hi
  rfl
 | cons d r ih =>
   intro b i hi
   cases i with
   | zero=>rfl
   | succ i =>
    have e:Qp ((d::r).take (i+1))=d.2.length+Qp (r.take i):=rfl
    rw[e,Ql,List.drop_append,A0,show d.2.length+Qp (r.take i)-d.2.length=Qp (r.take i) by omega,C9 (by rw[A0];omega),G5,ih (b+1) i (by simpa using hi)]
    rw[show b+1+i=b+(i+1) by omega];rfl
theorem mapsR_at{L:List Dv}{i j:Nat}(hi:i<L.length)(hj:j<(L.getD i dvD).2.length):(Ql 0 L)[Qp (L.take i)+j]? = some (i,(L.getD i dvD).2.getD j (0,0,0)):=by
 have h:=Om L 0 i M0
 rw[←E3,h,H0 hi,Ql,E9]
 have e:L.getD i dvD=L[i]:=by simp[List.getD,hi]
 rw[e] at hj ⊢
 rw[G9 (by rw[A0];exact hj),B7,B4 hj]
 simp[List.getD,hj]
def Uz(cs:List Nat)(R:List (Nat×Mp)):List Nat:=R.foldl (fun c x=>Ld c x.2.2.1) cs
def Qe(data:Nat)(L:List Dv):List Nat:=Uz (List.replicate data 0) (Ql 0 L)
theorem Cn(R:List (Nat×Mp)):∀ cs,(Uz cs R).length=cs.length:=by
 induction R with
 | nil=>intro cs;rfl
 | cons x r ih=>intro cs;show(Uz (Ld cs x.2.2.1) r).length=_;rw[ih,Jn]
theorem Ya(data:Nat)(L:List Dv):(Qe data L).length=data:=by unfold Qe;rw[Cn,A8]
theorem Ty(cs:List Nat)(R:List (Nat×Mp)){k:Nat}{x:Nat×Mp}(h:R[k]? = some x):Uz cs (R.take (k+1))=Ld (Uz cs (R.take k)) x.2.2.1:=by
 have hk:k<R.length:=by
  rcases E6 k R.length with q|q
  ·exact q
  ·rw[C3 q] at h;cases h
 rw[B4 hk,At] at h
 unfold Uz
 rw[A4 hk,List.foldl_append,h];rfl
theorem Cp{data:Int}:∀ (L:List Dv),(∀ d∈L,DevOk data d)→∀ (b:Nat),∀ x∈Ql b L,0≤x.2.2.1∧x.2.2.1<data
 | [],_,_,x,hx=>by cases hx
 | d::r,he,b,x,hx=>by
  rw[Ql] at hx
  rcases List.mem_append.1 hx with hx|hx
  ·obtain⟨m,hm,rfl⟩:=List.mem_map.1 hx
   exact((he d (B9 ..)).maps.each m hm).2.1
  ·exact Cp r (fun y hy=>he y (C7 _ hy)) (b+1) x hx
theorem Rq{data:Int}{L:List Dv}(h:DevsOk data L)(b:Nat):∀ x∈Ql b L,0≤x.2.2.1∧x.2.2.1<data:=Cp L h.each b
theorem Cq{data:Nat}(R:List (Nat×Mp))(h:∀ x∈R,0≤x.2.2.1∧x.2.2.1<(data:Int)):∀ cs,cs.length=data→(Uz cs R).sum=cs.sum+R.length:=by
 induction R with
 | nil=>intro cs _;rfl
 | cons x r ih =>
  intro cs hc
  have hx:=h x (B9 ..)
  show(Uz (Ld cs x.2.2.1) r).sum=_
  rw[ih (fun y hy=>h y (C7 _ hy)) _ (by rw[Jn];exact hc),St hx.1 M0,D5];omega
theorem Pb{data:Nat}{L:List Dv}(h:DevsOk (data:Int) L):(Qe data L).sum=Qp L:=by
 unfold Qe
 rw[Cq _ (Rq h 0) _ A8,List.sum_replicate_nat,Nk];omega
theorem Nd(l:List Nat)(i:Nat):l.getD i 0≤l.sum:=by
 induction l generalizing i with
 | nil=>simp[List.getD]
 | cons a l ih =>
  cases i with
  | zero=>simp[List.getD]
  | succ i=>have:=ih i;simp only[List.getD_cons_succ,G0];omega
def Xp(data:Nat)(L:List Dv):List Int:=(Qe data L).map fun n:Nat=>(n:Int)
theorem Qv(data:Nat)(L:List Dv):(Xp data L).length=data:=by unfold Xp;rw[A0,Ya]
theorem Py(data:Nat)(L:List Dv)(i:Nat):(Xp data L).getD i 0=((Qe data L).getD i 0:Nat):=by
 unfold Xp
 simp only[List.getD,B7]
 cases (Qe data L)[i]? <;> rfl
theorem Ed{data:Nat}{L:List Dv}(hd:data≤65536)(h:DevsOk (data:Int) L):Yx (Xp data L)=0:=by
 unfold Yx
 rw[Qv,if_neg M0,if_pos]
 intro k hk
 rw[Py]
 have a:=Nd (Qe data L) k
 rw[Pb h] at a
 have b:=h.sum
 unfold Ks;omega
def Yo(cs:List Nat)(k:Nat):Nat:=((cs.take k).filter fun n=>decide (3≤n)).length
theorem Qs{cs:List Nat}{k:Nat}(h:k<cs.length):Yo cs (k+1)=Yo cs k+if 3≤cs.getD k 0 then 1 else 0:=by
 unfold Yo
 rw[A4 h,List.filter_append,A1,show cs.getD k 0=cs[k] from by simp[List.getD,h]]
 congr 1
 by_cases q:3≤cs[k]<;>simp[q]
theorem Wd(cs:List Nat):∀ k,k≤cs.length→3*Yo cs k≤(cs.take k).sum
 | 0,_=>by simp[Yo]
 | k+1,h=>by
  have ih:=Wd cs k M0
  rw[Qs M0,A4 M0,E7]
  have e:cs.getD k 0=cs[k]:=by simp[List.getD,show k<cs.length by omega]
  rw[e]
  simp only[G0,List.sum_nil,H3]
  split<;>omega
theorem Sk(data:Nat)(L:List Dv):∀ k,k≤data→(Zh (Xp data L) k).length=Yo (Qe data L) k
 | 0,_=>by simp[Zh,Yo]
 | k+1,h=>by
  have ih:=Sk data L k M0
  rw[Qs (by rw[Ya];omega),←ih]
  by_cases q:3≤(Xp data L).getD k 0
  ·rw[Vv q,A1,if_pos (by rw[Py] at q;omega)];rfl
  ·rw[Qm q,if_neg (by rw[Py] at q;omega),H3]
def Sc(data:Nat)(L:List Dv):Nat:=Yo (Qe data L) data
theorem Wp(data:Nat)(L:List Dv):(Zh (Xp data L) (Xp data L).length).length=Sc data L:=by rw[Qv];exact Sk data L data (A3 _)
theorem Mw{data:Nat}{L:List Dv}(h:DevsOk (data:Int) L):Sc data L≤5462:=by
 have a:=Wd (Qe data L) data (by rw[Ya];exact A3 _)
 rw[A5 (by rw[Ya];exact A3 _),Pb h] at a
 have:=h.sum
 unfold Sc;omega
def Jk(L:List Dv):Nat:=(L.map fun d=>Zy 2 d.2.length).sum
def Ko(data:Nat)(L:List Dv):Nat:=1+Zy 3 L.length+Zy 1 L.length+Jk L+bmN data+Zy 4 (bmN data)+Zy 5 (Sc data L)
theorem Ic{L:List Dv}{i:Nat}(h:i<L.length):Jk (L.take (i+1))=Jk (L.take i)+Zy 2 (L.getD i dvD).2.length:=by
 unfold Jk
 rw[A4 h,B6,E7,show L.getD i dvD=L[i] from by simp[List.getD,h]]
 simp
def Li(m:Nat):Nat:=m+(m-1)/959+1
def Ts(data:Nat)(L:List Dv):Nat:=Li (Ko data L+2)
theorem Sb{L:List Dv}:Jk L≤2*Qp L+2*L.length:=by
 induction L with
 | nil=>exact A6 _
 | cons d r ih =>
  have e2:Jk (d::r)=Zy 2 d.2.length+Jk r:=rfl
  have e3:Qp (d::r)=d.2.length+Qp r:=rfl
  have:=Yp 2 d.2.length
  rw[e2,e3,D5];omega
theorem Wk{data:Nat}{L:List Dv}(hd:data≤65536)(h:DevsOk (data:Int) L):1≤Ko data L∧Ko data L≤100000:=by
 have a:=Yp 3 L.length
 have b:=Yp 1 L.length
 have c:=@Sb L
 have d:=Yp 4 (bmN data)
 have e:=Yp 5 (Sc data L)
 have f:=Mw h
 have g:=h.few
 have i:=h.sum
 have j:bmN data≤69:=by unfold bmN;omega
 unfold Ko;omega
theorem Zcz{m n:Nat}(h:Li m≤n):m+bmN n≤n:=by unfold Li at h;unfold bmN;omega
/-! ### numerals tell numbers -/
theorem Mt{n:Nat}(h:n<10):(UInt8.ofNat (48+n)).toNat=48+n:=by
 rw[UInt8.toNat_ofNat'];omega
def valD(l:Bi):Nat:=l.foldl (fun a d=>a*10+(d.toNat-48)) 0
theorem Zcp(l:Bi)(d:UInt8):valD (l++[d])=valD l*10+(d.toNat-48):=by unfold valD;rw[List.foldl_append];rfl
theorem Ue(u:Nat):valD (Lib.decDigits u)=u∧∀ d∈Lib.decDigits u,48≤d.toNat:=by
 induction u using Nat.strongRecOn with
 | _ u ih =>
  rw[Lib.decDigits]
  by_cases h:u<10
  ·rw[dif_pos h]
   refine⟨?_,fun d hd=>?_⟩
   ·show 0*10+((UInt8.ofNat (48+u)).toNat-48)=u
    rw[Mt h];omega
   ·rw[D8.1 hd,Mt h];omega
  ·rw[dif_neg h]
   obtain⟨h1,h2⟩:=ih (u/10) M0
   refine⟨?_,fun d hd=>?_⟩
   ·rw[Zcp,h1,Mt M0];omega
   ·rcases List.mem_append.1 hd with hd|hd
    ·exact h2 d hd
    ·rw[D8.1 hd,Mt M0];omega
theorem Zce{a b:Nat}(h:Lib.decDigits a=Lib.decDigits b):a=b:=by rw[←(Ue a).1,h,(Ue b).1]
theorem Oh(n:Int):∀ d∈Lib.itoa n,d.toNat=45∨48≤d.toNat:=by
 intro d hd
 unfold Lib.itoa at hd
 split at hd
 ·rcases D4.1 hd with rfl|hd
  ·exact .inl rfl
  ·exact .inr ((Ue _).2 d hd)
 ·exact .inr ((Ue _).2 d hd)
theorem itoa_inj{a b:Int}(h:Lib.itoa a=Lib.itoa b):a=b:=by
 unfold Lib.itoa at h
 split at h<;>split at h
 ·have:=Zce (List.cons.inj h).2;omega
 ·have q:=(Ue b.toNat).2 45 (by rw[←h];exact B9)
  exact absurd q Do
 ·have q:=(Ue a.toNat).2 45 (by rw[h];exact B9)
  exact absurd q Do
 ·have:=Zce h;omega
theorem Sd:∀ {a b r s:Bi},(∀ d∈a,d≠32)→(∀ d∈b,d≠32)→a++32::r=b++32::s→a=b∧r=s
 | [],[],r,s,_,_,h=>⟨rfl,(List.cons.inj h).2⟩
 | [],y::b,r,s,_,hb,h=>absurd (List.cons.inj h).1.symm (hb y B9)
 | x::a,[],r,s,ha,_,h=>absurd (List.cons.inj h).1 (ha x B9)
 | x::a,y::b,r,s,ha,hb,h=>by
  obtain⟨h1,h2⟩:=List.cons.inj h
  obtain⟨h3,h4⟩:=Sd (fun d hd=>ha d (C7 _ hd)) (fun d hd=>hb d (C7 _ hd)) h2
  exact⟨by rw[h1,h3],h4⟩
def txtN(n:Int):Bi:=Lib.itoa n++[32]
theorem Mz{a b:Int}{r s:Bi}(h:txtN a++r=txtN b++s):a=b∧r=s:=by
 unfold txtN at h
 rw[G8,G8] at h
 have ne:∀ n:Int,∀ d∈Lib.itoa n,d≠32:=fun n d hd q=>by
  subst q
  rcases Oh n _ hd with q|q
  ·exact absurd q Do
  ·exact absurd q Do
 obtain⟨h1,h2⟩:=Sd (ne a) (ne b) h
 exact⟨itoa_inj h1,h2⟩
theorem Ly{n:Int}(h0 : -9223372036854775808≤n)(h1:n≤9223372036854775807):(txtN n).length≤22:=by
 unfold txtN;rw[A1];have:=Lib.itoa_length_le n h0 h1;simp;omega
def Fu(m:Mp):Bi:=txtN m.1++(txtN m.2.1++txtN m.2.2)
def txt (M:List Mp):Bi:=M.flatMap Fu
theorem Zdq(m:Mp):Fu m≠[]:=by
 unfold Fu txtN
 intro h
 have:=congrArg List.length h
 simp at this
theorem txtM_inj{a b:Mp}{r s:Bi}(h:Fu a++r=Fu b++s):a=b∧r=s:=by
 unfold Fu at h
 simp only[G8] at h
 obtain⟨h1,h⟩:=Mz h
 obtain⟨h2,h⟩:=Mz h
 obtain⟨h3,h⟩:=Mz h
 exact⟨Prod.ext h1 (Prod.ext h2 h3),h⟩
theorem Eh:∀ {a b:List Mp},txt a=txt b→a=b
 | [],[],_=>rfl
 | [],y::b,h=>by
  have:Fu y++txt b=[]:=h.symm
  exact absurd (List.append_eq_nil_iff.1 this).1 (Zdq y)
 | x::a,[],h=>by
  have:Fu x++txt a=[]:=h
  exact absurd (List.append_eq_nil_iff.1 this).1 (Zdq x)
 | x::a,y::b,h=>by
  obtain⟨h1,h2⟩:=txtM_inj (show Fu x++txt a=Fu y++txt b from h)
  rw[h1,Eh h2]
def InI (n:Int):Prop:=-9223372036854775808≤n∧n≤9223372036854775807
def MpR (m:Mp):Prop:=InI m.1∧InI m.2.1∧InI m.2.2
theorem txt_len{M:List Mp}(h:∀ m∈M,MpR m):(txt M).length≤66*M.length:=by
 induction M with
 | nil=>exact A6 _
 | cons m r ih =>
  have a:=ih fun x hx=>h x (C7 _ hx)
  obtain⟨h1,h2,h3⟩:=h m B9
  have e:txt (m::r)=Fu m++txt r:=rfl
  rw[e,A1,D5]
  unfold Fu
  rw[A1,A1]
  have:=Ly h1.1 h1.2
  have:=Ly h2.1 h2.2
  have:=Ly h3.1 h3.2
  omega
theorem txt_take{M:List Mp}{i:Nat}(h:i<M.length):txt (M.take (i+1))=txt (M.take i)++Fu (M.getD i mpD):=by
 unfold txt
 rw[A4 h,G3,show M.getD i mpD=M[i] from by simp[List.getD,h]]
 simp
/-! ### owners -/
def Zw(L:List Dv)(i:Nat):Nat:=L.findIdx fun d=>decide (d.2=(L.getD i dvD).2)
theorem Kq{L:List Dv}{i:Nat}(h:i<L.length):Zw L i≤i∧(L.getD (Zw L i) dvD).2=(L.getD i dvD).2:=by
 have e:L.getD i dvD=L[i]:=by simp[List.getD,h]
 have h1:Zw L i<L.length:=List.findIdx_lt_length_of_exists ⟨L[i],D6 h,by rw[e];simp⟩
 refine⟨?_,?_⟩
 ·rcases E6 i (Zw L i) with q|q
  ·have h9:=List.not_of_lt_findIdx q
   have h8:decide ((L[i]).2=(L.getD i dvD).2)=true:=by rw[e];exact decide_eq_true rfl
   exact absurd h8 (by simpa using h9)
  ·exact q
 ·have h2:=List.findIdx_getElem (p:=fun d:Dv=>decide (d.2=(L.getD i dvD).2)) (w:=h1)
  have e2:L.getD (Zw L i) dvD=L[Zw L i]:=by simp[List.getD,h1]
  rw[e2];exact of_decide_eq_true h2
theorem Lm{L:List Dv}{i k:Nat}(hk:k<Zw L i):(L.getD k dvD).2≠(L.getD i dvD).2:=by
 have hl:k<L.length:=C1 hk List.findIdx_le_length
 have:=List.not_of_lt_findIdx hk
 rw[show L.getD k dvD=L[k] from by simp[List.getD,hl]]
 simpa using this
theorem Df{L:List Dv}{i k:Nat}(hi:i<L.length)(h1:(L.getD k dvD).2=(L.getD i dvD).2)(h2:∀ j,j<k→(L.getD j dvD).2≠(L.getD i dvD).2):k=Zw L i:=by
 rcases Nat.lt_trichotomy k (Zw L i) with q|q|q
 ·exact absurd h1 (Lm q)
 ·exact q
 ·exact absurd (Kq hi).2 (h2 _ q)
theorem Gv{L:List Dv}{i:Nat}(hi:i<L.length):Zw L (Zw L i)=Zw L i:=by
 have h:=Kq hi
 have hl:Zw L i<L.length:=by omega
 exact(Df hl (by rfl) fun j hj=>by rw[h.2];exact Lm hj).symm
def owL (L:List Dv):List Nat:=(List.range L.length).map (Zw L)
theorem Nj(L:List Dv):(owL L).length=L.length:=by unfold owL;rw[A0,List.length_range]
theorem Zam{L:List Dv}{i:Nat}(h:i<L.length):(owL L).getD i 0=Zw L i:=by
 unfold owL
 simp[List.getD,h]
def Na(L:List Dv)(i:Nat):List (Bi×Nat):=((List.range i).filter fun k=>Zw L k==k).map fun k=>(txt (L.getD k dvD).2,k)
theorem Nm(L:List Dv)(i:Nat):Na L (i+1)=if Zw L i=i then Na L i++[(txt (L.getD i dvD).2,i)] else Na L i:=by
 unfold Na
 rw[C6,List.filter_append,B6]
 by_cases q:Zw L i=i<;>simp[q]
def ItT (w : World) : Prop := Lib.TabIs Tryz.prog w "internal/strconv.uint64pow10" .u64 Lib.pow10Tab
theorem ItT.below{w W:World}(h:ItT w)(hb:Bl w W):ItT W:=by
 unfold ItT Lib.TabIs World.var? at h ⊢
 cases hg : Tryz.prog.globalNamed "internal/strconv.uint64pow10" with
 | none=>rw[hg] at h;cases h
 | some g =>
  rw[hg] at h
  simp only[Option.bind_some] at h ⊢
  rcases E6 g w.heap.size with q|q
  ·rw[hb.block g q];exact h
  ·rw[Array.getElem?_eq_none q] at h;cases h
theorem Hm(w:World):∀ k,Bl w (w.drewN k)
 | 0=>Below.refl _ _
 | k+1=>by
  have h:=Hm w k
  first|exact bln h (Zb _)|exact bln (Zb w) (Hm w.drew k)
theorem Ok(w:World)(os:Array Obj):Bl w (Go.Sort.grow w os):=⟨rfl,rfl,rfl,by simp[Go.Sort.grow],fun k hk=>by simp[Go.Sort.grow,Array.getElem?_append,hk]⟩
theorem Lo{n:Int}(hn:InI n)(w:World)(h:ItT w):C0 77 #[V0 n] w (Ret (.string ⟨(Lib.itoa n).toArray⟩) w):=by
 refine(Px n hn.1 hn.2 w h).mono ?_
 rintro e W ⟨rfl,k,os,rfl⟩
 exact⟨rfl,bln (Hm w k) (Ok _ os)⟩
def Bld (B b:Nat)(l:Bi)(w:World):Prop:=∃ v q c,(v=.pointer none∨v=P0 b)∧B≤b∧Blk w b [v,.slice q l.length c] 155∧w.ownsRow B 5 1 (.slice q l.length c) l.length (l.map bv)
theorem Bld.below{B b:Nat}{l:Bi}{w W:World}(h:Bld B b l w)(hb:Bl w W):Bld B b l W:=by
 obtain⟨v,q,c,h1,h2,h3,h4⟩:=h
 exact⟨v,q,c,h1,h2,h3.below hb,Za h4 hb⟩
theorem Bld.only{B b:Nat}{l:Bi}{w W:World}{T:List TypeId}(h:Bld B b l w)(hO:Zd T w W)(hT:(T.contains 155||T.contains 5)=false):Bld B b l W:=by
 obtain⟨v,q,c,h1,h2,h3,h4⟩:=h
 simp only[K1] at hT
 exact⟨v,q,c,h1,h2,h3.only hO hT.1,Zo h4 hO hT.2⟩
theorem Bld.zero{B b:Nat}{w:World}(hB:B≤b)(k:Blk w b [.pointer none,S0] 155):Bld B b [] w :=
 ⟨_,none,0,.inl rfl,hB,k,A9 _ _ _ _⟩
theorem Zdi(b:Nat)(x:Value)(w:World)(k:Blk w b [P0 b,x] 155) :
 C0 142 #[P0 b] w fun e w'=>e=.returned (.tuple #[])∧w'=w:=by
 have h0:w.cell? ⟨b,0,none⟩=some (P0 b):=k.cell (i:=0) rfl
 obtain⟨j,hj,_⟩:=Option.map_eq_some_iff.1 Xq.sizeBuilder
 go_enter Tryz.func142,Tryz.ntmps142
 go_wp2
 rw[Lib.run_neq_ptr_same w _ Tryz.underlying153 hj]
 go_wp2
 go_end0
 exact⟨rfl,rfl⟩
theorem Iq(b:Nat)(x:Value)(w:World)(k:Blk w b [.pointer none,x] 155) :
 C0 142 #[P0 b] w fun e w'=>e=.returned (.tuple #[])∧w'=w.setCell ⟨b,0,none⟩ (P0 b):=by
 have h0:w.cell? ⟨b,0,none⟩=some (.pointer none):=k.cell (i:=0) rfl
 have a2:w.frozen? ⟨b,0,none⟩=false:=k.frozen 0
 have a0:w.shape? b=some (155,2):=by
  have:w.heap[b]? = some (.cells #[.pointer none,x] 155 (0,0)):=k
  simp[World.shape?,this]
 obtain⟨j,hj,a1⟩:=Option.map_eq_some_iff.1 Xq.sizeBuilder
 go_enter Tryz.func142,Tryz.ntmps142
 go_wp2
 rw[Lib.run_to_unsafe w ⟨b,0,none⟩ Tryz.underlying153 Tryz.underlying233 hj (by rw[a1];decide) a0 (Nat.zero_lt_succ 1)]
 simp only[Result.andThen]
 rw[Oper.upon_value]
 go_wp2
 rw[run_callFunc_extern Tryz.func211 K0 K0 K0 (e:=Extern.AbiNoEscape.same) K0]
 rw[Lib.run_noEscape]
 simp only[Result.andThen]
 rw[Oper.upon_value]
 go_wp2
 rw[Lib.run_from_unsafe w ⟨b,0,none⟩ Tryz.underlying233 Tryz.underlying153 hj a0 Xq.liesBuilder]
 simp only[Result.andThen]
 rw[Oper.upon_value]
 go_wp2
 go_end0
 exact⟨rfl,rfl⟩
theorem Rb(B b:Nat)(v x:Value)(w:World)(hv:v=.pointer none∨v=P0 b)(hB:B≤b)(k:Blk w b [v,x] 155) :
 C0 142 #[P0 b] w fun e w'=>e=.returned (.tuple #[])∧Below B w w'∧Zd [155] w w'∧Blk w' b [P0 b,x] 155:=by
 rcases hv with rfl|rfl
 ·refine(Iq b x w k).mono ?_
  rintro e W ⟨rfl,rfl⟩
  have u:=Upd.setCell w b 0 (P0 b)
  exact⟨rfl,u.below (Below.refl _ _) hB,Zd.of_upd u k Do,k.set 0 _⟩
 ·refine(Zdi b x w k).mono ?_
  rintro e W ⟨rfl,rfl⟩
  exact⟨rfl,Below.refl _ _,Zd.refl _ _,k⟩
theorem bldStr(B b:Nat)(v:Value)(q:O0)(c n:Nat)(l:Bi)(s:Bi)(w:World)(hv:v=.pointer none∨v=P0 b)(hbB:B≤b)(kb:Blk w b [v,.slice q n c] 155)(ho:w.ownsRow B 5 1 (.slice q n c) n (l.map bv))(hn:l.length=n)(hl:n+s.length≤100000000)(hBw:B≤w.heap.size) :
 C0 76 #[P0 b,.string ⟨s.toArray⟩] w ((fun e w'=>∃ q c,e=.returned (.tuple #[V0 (s.length:Int),.nilIface])∧Below B w w'∧Zd [155,5] w w'∧Blk w' b [P0 b,.slice q (n+s.length) c] 155∧w'.ownsRow B 5 1 (.slice q (n+s.length) c) (n+s.length) ((l++s).map bv))):=by
 refine zin 19 Tryz.func76 ?_
 refine xc 9 (args:=#[P0 b]) (Rb B b v (.slice q n c) _ hv hbB kb) ?_
 rintro _ W1 ⟨rfl,a7,a6,a5⟩
 refine xb 8 1 a5 ?_
 have a1:=Zo ho a6 Do
 refine xbi 1 (t2:=9) fun _ _ _ _ zJ zQ zo zx zy zK=>Zc3 s (n+s.length) (((l++s).map bv)) zo Tryz.underlying50 Tryz.underlying9 K0 zx a1 zy M0 (N0 hBw a7.size) (by rfl) (by rw[B6]) fun a8 b0 W2 o2 a4 a9=>?_
 refine zK _ _ ?_
 have a0:=a5.grown a4 a1 Do
 refine xs 2 a0 [P0 b,.slice a8 (n+s.length) b0] fun W3 u3 k3=>?_
 have a2:=u3.own2 o2 a0 Do
 have a3:=u3.below (a7.trans a9) hbB
 have hO:=((show Zd [155,5] w _ from(a6.wide Do)).trans (Zd.of_grown a4 a1 Do)).trans (Zd.of_upd u3 a0 Do)
 exact xe 11 (.tuple #[V0 (s.length:Int),.nilIface]) ⟨_,_,rfl,a3,hO,k3,a2⟩
theorem bldByte(B b:Nat)(v:Value)(q:O0)(c n:Nat)(l:Bi)(x:UInt8)(w:World)(hv:v=.pointer none∨v=P0 b)(hbB:B≤b)(kb:Blk w b [v,.slice q n c] 155)(ho:w.ownsRow B 5 1 (.slice q n c) n (l.map bv))(hn:l.length=n)(hl:n+1≤100000000)(hBw:B≤w.heap.size) :
 C0 78 #[P0 b,(bv x)] w ((fun e w'=>∃ q c,e=.returned (.nilIface)∧Below B w w'∧Zd [155,5] w w'∧Blk w' b [P0 b,.slice q (n+1) c] 155∧w'.ownsRow B 5 1 (.slice q (n+1) c) (n+1) ((l++[x]).map bv))):=by
 refine zin 17 Tryz.func78 ?_
 refine xc 8 (args:=#[P0 b]) (Rb B b v (.slice q n c) _ hv hbB kb) ?_
 rintro _ W1 ⟨rfl,b3,a6,a5⟩
 refine xb 8 1 a5 ?_
 refine xbs 1 1 [(bv x)] 5 fun b2 W2 n2=>?_
 have a2:=Zo ho a6 Do
 have a7:=Zg a2 n2
 have a1:=Za a2 n2.below
 have hB:=blB b3 hBw n2.below
 refine xbi 0 fun _ _ _ _ zJ zQ zo zx zy zK=>Zz (m:=1) (news:=[(bv x)]) (.int .u8 0) 1 1 (n+1) (((l++[x]).map bv)) zo Tryz.underlying50 K0 rfl Do zx a1 zy (n2.blk.sl 1 1 Do Do) rfl (Xw [x]) (by unfold maxLen;omega) M0 (N0 hBw hB.size) (by rfl) (by rw[B6];rfl) fun b1 b0 W3 o3 a8 a9=>?_
 refine zK _ _ ?_
 have a0:=(a5.below n2.below).grown a8 a1 Do
 refine xs 2 a0 [P0 b,.slice b1 (n+1) b0] fun W4 u4 k4=>?_
 have a3:=u4.own2 o3 a0 Do
 have a4:=u4.below (hB.trans a9) hbB
 have hO:=(((show Zd [155,5] w _ from(a6.wide Do)).trans (Zd.of_below n2.below)).trans (Zd.of_grown a8 a1 Do)).trans (Zd.of_upd u4 a0 Do)
 exact xe 8 .nilIface ⟨_,_,rfl,a4,hO,k4,a3⟩
def BldP(B b:Nat)(l:Bi)(v:Value)(w:World)(e:Ending)(w':World):Prop:=e=.returned v∧Below B w w'∧Zd [155,5] w w'∧Bld B b l w'
theorem Dj{B b:Nat}{l:Bi}(s:Bi)(w:World)(h:Bld B b l w)(hl:l.length+s.length≤100000000)(hBw:B≤w.heap.size) :
 C0 76 #[P0 b,.string ⟨s.toArray⟩] w (BldP B b (l++s) (.tuple #[V0 (s.length:Int),.nilIface]) w):=by
 obtain⟨v,q,c,h1,h2,h3,h4⟩:=h
 refine(bldStr B b v q c l.length l s w h1 h2 h3 h4 rfl hl hBw).mono ?_
 rintro e W ⟨q2,c2,rfl,hb,hO,k,ho⟩
 rw[←A1] at k ho
 exact⟨rfl,hb,hO,_,q2,c2,.inr rfl,h2,k,ho⟩
theorem bld_Byte{B b:Nat}{l:Bi}(x:UInt8)(w:World)(h:Bld B b l w)(hl:l.length+1≤100000000)(hBw:B≤w.heap.size) :
 C0 78 #[P0 b,bv x] w (BldP B b (l++[x]) .nilIface w):=by
 obtain⟨v,q,c,h1,h2,h3,h4⟩:=h
 refine(bldByte B b v q c l.length l x w h1 h2 h3 h4 rfl hl hBw).mono ?_
 rintro e W ⟨q2,c2,rfl,hb,hO,k,ho⟩
 have e:l.length+1=(l++[x]).length:=by simp
 rw[e] at k ho
 exact⟨rfl,hb,hO,_,q2,c2,.inr rfl,h2,k,ho⟩
theorem bld_End{B b:Nat}{l:Bi}(w:World)(h:Bld B b l w)(hBw:B≤w.heap.size) :
 C0 79 #[P0 b] w (fun e w'=>e=.returned (.string ⟨l.toArray⟩)∧Below B w w'):=by
 obtain⟨v,q,c,h1,h2,h3,h4⟩:=h
 have hx:Lib.BuilderAtF 155 5 B b v (Lib.byteCells l) w:=by
  refine⟨h2,_,h3,?_,fun e=>?_⟩
  ·rw[Lib.byteCells_length];exact World.ownsRowF_of h4
  ·rcases h4.2 with ⟨h5,_⟩|⟨g,a0,a1,h5,_,h6,_⟩
   ·rw[h5] at e;cases e
   ·rw[h5] at e
    obtain rfl:g=b:=Option.some.inj e
    rw[show w.heap[g]? = _ from h3] at h6
    cases h6
 refine(Kg B b l w (by rcases h1 with rfl|rfl;exact .inl hx;exact .inr hx) hBw).mono ?_
 rintro e W ⟨rfl,_,hb,_⟩
 exact⟨rfl,hb⟩
end Go.Proofs.YtekomodnkfhihaaGreatDoor
namespace Go.Proofs.YtekomodnkfhihaaGreatDoor
set_option maxHeartbeats 8000000
set_option maxRecDepth 100000
open Go.ChangeShapes Go.WideShapes Go.ChangeAt Go.RowKit Go.Joins
set_option linter.unusedVariables false
abbrev twL3 : List (String × DataW Unit) := [("math/bits.deBruijn32tab", Rows.laid_math_bits_deBruijn32tab), ("math/bits.deBruijn64tab", Rows.laid_math_bits_deBruijn64tab), ("internal/strconv.uint64pow10", Rows.laid_internal_strconv_uint64pow10)]
theorem Tryz.pw : Tryz.prog.globalNamed "internal/strconv.uint64pow10" = some 1 := by kernel_rfl
theorem Tryz.pwT:(Tryz.prog.globals[1]?).map (·.type)=some 387:=by kernel_rfl
theorem pow_data{H:Type}:(Rows.laid_internal_strconv_uint64pow10:DataW H)=Lib.tabData .u64 Lib.pow10Tab:=by
 unfold Rows.laid_internal_strconv_uint64pow10 Lib.tabData
 rfl
theorem itT_of{W:World}(h:laidMet Tryz.prog twL3 W):ItT W:=by
 obtain⟨ps,⟨_,_,_,_,_,_,_,_,_,_,⟨_,_,_,_,_,_,_,_,_,_,⟨g,t,cs,a1,p,q,hg,ht,a0,hd,_,_⟩,_⟩,_⟩,_⟩:=h
 obtain rfl:=Option.some.inj (Tryz.pw.symm.trans hg)
 obtain rfl:=Option.some.inj (Tryz.pwT.symm.trans ht)
 unfold ItT Lib.TabIs
 rw[a0]
 rw[pow_data] at hd
 rw[←Lib.cells_of_tab Tryz.underlying387 Tryz.underlying341 K0 K0 hd]
theorem itT3{W:World}(h:laidMetH Tryz.prog twL3 W):ItT W:=itT_of h
def tab32:Array Value:=#[.int .u8 0,.int .u8 1,.int .u8 28,.int .u8 2,.int .u8 29,.int .u8 14,.int .u8 24,.int .u8 3,.int .u8 30,.int .u8 22,.int .u8 20,.int .u8 15,.int .u8 25,.int .u8 17,.int .u8 4,.int .u8 8,.int .u8 31,.int .u8 27,.int .u8 13,.int .u8 23,.int .u8 21,.int .u8 19,.int .u8 16,.int .u8 7,.int .u8 26,.int .u8 12,.int .u8 18,.int .u8 6,.int .u8 11,.int .u8 5,.int .u8 10,.int .u8 9]
def tab64:Array Value:=#[.int .u8 0,.int .u8 1,.int .u8 56,.int .u8 2,.int .u8 57,.int .u8 49,.int .u8 28,.int .u8 3,.int .u8 61,.int .u8 58,.int .u8 42,.int .u8 50,.int .u8 38,.int .u8 29,.int .u8 17,.int .u8 4,.int .u8 62,.int .u8 47,.int .u8 59,.int .u8 36,.int .u8 45,.int .u8 43,.int .u8 51,.int .u8 22,.int .u8 53,.int .u8 39,.int .u8 33,.int .u8 30,.int .u8 24,.int .u8 18,.int .u8 12,.int .u8 5,.int .u8 63,.int .u8 55,.int .u8 48,.int .u8 27,.int .u8 60,.int .u8 41,.int .u8 37,.int .u8 16,.int .u8 46,.int .u8 35,.int .u8 44,.int .u8 21,.int .u8 52,.int .u8 32,.int .u8 23,.int .u8 11,.int .u8 54,.int .u8 26,.int .u8 40,.int .u8 15,.int .u8 34,.int .u8 20,.int .u8 31,.int .u8 10,.int .u8 25,.int .u8 14,.int .u8 19,.int .u8 9,.int .u8 13,.int .u8 8,.int .u8 7,.int .u8 6]
def tabPow:Array Value:=(Lib.pow10Tab.map fun z=>Value.int .u64 z).toArray
noncomputable def laidWorld4 (os:Os):World :=
 let put (cs:Array Value):Obj→Obj:=fun
  | .cells _ t frozen=>.cells cs t frozen
  | o=>o
 let w0:=laidWorld os
 { w0 with heap:=((w0.heap.modify 2 (put tab32)).modify 3 (put tab64)).modify 1 (put tabPow) }
theorem Pf(os:Os)(args:Array Value):laidMetH Tryz.prog twL3 ((laidWorld4 os).forCall (fun _ _=>0) ⟨#[],args,[]⟩).memory :=
 laidMetH_of_parts (laidMet_of_run' 8 K0 K0) K0
end Go.Proofs.YtekomodnkfhihaaGreatDoor
namespace Go.Proofs.YtekomodnkfhihaaGreatDoor
set_option maxHeartbeats 8000000
set_option maxRecDepth 100000
open Go.RowKit Go.Extern.Stop Go.Stop Go.Extern
set_option linter.unusedVariables false
attribute [local irreducible] wpList wpAnyH Code.wp Oper.wp Go
theorem Wx{B b:Nat}{l:Bi}(w:World)(h:Bld B b l w)(hl:l.length+1≤100000000)(hBw:B≤w.heap.size) :
 C0 78 #[P0 b,.int .u8 32] w (BldP B b (l++[32]) .nilIface w):=bld_Byte 32 w h hl hBw
theorem txt_next{M:List Mp}{k:Nat}(h:k<M.length):((((((txt (M.take k)++Lib.itoa (M.getD k mpD).1)++[32])++Lib.itoa (M.getD k mpD).2.1)++[32])++Lib.itoa (M.getD k mpD).2.2)++[32])=txt (M.take (k+1)):=by
 rw[txt_take h];simp only[Fu,txtN,G8]
theorem txt_lens{M:List Mp}{k:Nat}(hR:∀ m∈M,MpR m)(h:k<M.length)(hl:M.length≤100000):(txt (M.take k)).length≤6600000∧InI (M.getD k mpD).1∧InI (M.getD k mpD).2.1∧InI (M.getD k mpD).2.2∧(Lib.itoa (M.getD k mpD).1).length≤21∧(Lib.itoa (M.getD k mpD).2.1).length≤21∧(Lib.itoa (M.getD k mpD).2.2).length≤21:=by
 have a:=txt_len (M:=M.take k) (fun m hm=>hR m (I0 hm))
 rw[D1] at a
 have e:M.getD k mpD=M[k]:=by simp[List.getD,h]
 obtain⟨h1,h2,h3⟩:=hR (M.getD k mpD) (by rw[e];exact D6 h)
 exact⟨by omega,h1,h2,h3,Lib.itoa_length_le _ h1.1 h1.2,Lib.itoa_length_le _ h2.1 h2.2,Lib.itoa_length_le _ h3.1 h3.2⟩
theorem Zc2(p:O0)(c:Nat)(M:List Mp)(w:World)(hI:ItT w)(h:Sts We w (.slice p M.length c) M)(hR:∀ m∈M,MpR m)(hf:M.length≤100000) :
 C0 30 #[.slice p M.length c] w (Ret (.string ⟨(txt M).toArray⟩) w):=by
 have e8:=Sl.len h
 refine zin 33 Tryz.func30 ?_
 refine xa 7 [.pointer none,S0] 155 fun b1 W1 n1=>?_
 have g1:=n1.ge (B3 w)
 refine zl 11 33 (fun zm d9 V=>∃ (k:Nat),d9=[(2,.string ⟨#[]⟩),(3,P0 b1),(8,.slice p M.length c),(9,V0 (M.length:Int)),(10,V0 (k:Int))]∧zm=M.length-((k:Int)).toNat∧Bl w V∧Bld w.heap.size b1 (txt (M.take k)) V∧k≤M.length) ⟨0,rfl,rfl,n1.below,Bld.zero g1 n1.blk,A6 _⟩ ?_
 rintro _ _ W2 ⟨k,rfl,rfl,a1,a0,hk⟩ J2 d3 r2
 refine xid 6 ((k:Int)<(M.length:Int)) (fun d6=>?_) (fun d6=>?_)
 ·obtain⟨q0,q1,q2,q3,q4,q5,q6⟩:=txt_lens (k:=k) hR M0 hf
  refine xx 6 _ M.length k 3 (Sts.cell h Yf mpD (k:=k) (i:=0) M0 rfl).1 ?_
  refine xlv 0 (Sts.rp (k:=k) (h.below a1) Yf mpD M0 Do) ?_
  refine xa 0 [V0 0,V0 0,V0 0] 63 fun b4 W4 n4=>?_
  have g4:=n4.ge a1
  refine xsv 0 n4.blk [V0 ((M.getD k mpD).1),V0 ((M.getD k mpD).2.1),V0 ((M.getD k mpD).2.2)] fun W5 u5 k5=>?_
  refine xb 5 0 k5 ?_
  refine xb 1 1 k5 ?_
  refine xb 1 2 k5 ?_
  refine xbs 0 3 [V0 ((M.getD k mpD).1),V0 ((M.getD k mpD).2.1),V0 ((M.getD k mpD).2.2)] 3 fun b6 W6 n6=>?_
  have b2:=u5.below (bln a1 n4.below) g4
  have g6:=n6.ge b2
  refine xu 5 4 ?_
  refine xb 14 0 n6.blk ?_
  have b7:=bln b2 n6.below
  refine xr 6 (args:=#[V0 ((M.getD k mpD).1)]) (Lo q1 _ (hI.below b7)) fun W7 d0=>?_
  have a8:=(((a0.below n4.below).only (Zd.of_upd (T:=[63]) u5 n4.blk Do) Do).below n6.below).below d0
  have c0:=bln b7 d0
  refine xc 0 (args:=#[P0 b1,.string ⟨(Lib.itoa (M.getD k mpD).1).toArray⟩]) (Dj (Lib.itoa (M.getD k mpD).1) _ a8 (by first|omega|(simp only[A1];omega)|(simp only[A1,List.length_singleton];omega)) c0.size) ?_
  rintro _ W8 ⟨rfl,d5,e0,a0⟩
  have a9:=c0.trans d5
  refine xc 3 (args:=#[P0 b1,.int .u8 32]) (Wx _ a0 (by first|omega|(simp only[A1];omega)|(simp only[A1,List.length_singleton];omega)) a9.size) ?_
  rintro _ W9 ⟨rfl,d7,d8,a0⟩
  have a7:=((n6.blk.below d0).only e0 Do).only d8 Do
  refine xb 22 1 a7 ?_
  have a4:=a9.trans d7
  refine xr 6 (args:=#[V0 ((M.getD k mpD).2.1)]) (Lo q2 _ (hI.below a4)) fun e5 a3=>?_
  have b5:=a0.below a3
  have a5:=bln a4 a3
  refine xc 0 (args:=#[P0 b1,.string ⟨(Lib.itoa (M.getD k mpD).2.1).toArray⟩]) (Dj (Lib.itoa (M.getD k mpD).2.1) _ b5 (by first|omega|(simp only[A1];omega)|(simp only[A1,List.length_singleton];omega)) a5.size) ?_
  rintro _ e7 ⟨rfl,c3,c7,a0⟩
  have a6:=a5.trans c3
  refine xc 3 (args:=#[P0 b1,.int .u8 32]) (Wx _ a0 (by first|omega|(simp only[A1];omega)|(simp only[A1,List.length_singleton];omega)) a6.size) ?_
  rintro _ e1 ⟨rfl,c9,c8,a0⟩
  have d1:=((a7.below a3).only c7 Do).only c8 Do
  refine xb 22 2 d1 ?_
  have b0:=a6.trans c9
  refine xr 6 (args:=#[V0 ((M.getD k mpD).2.2)]) (Lo q3 _ (hI.below b0)) fun e4 b3=>?_
  have c2:=a0.below b3
  have c1:=bln b0 b3
  refine xc 0 (args:=#[P0 b1,.string ⟨(Lib.itoa (M.getD k mpD).2.2).toArray⟩]) (Dj (Lib.itoa (M.getD k mpD).2.2) _ c2 (by first|omega|(simp only[A1];omega)|(simp only[A1,List.length_singleton];omega)) c1.size) ?_
  rintro _ e6 ⟨rfl,c6,d2,a0⟩
  have a2:=c1.trans c6
  refine xc 3 (args:=#[P0 b1,.int .u8 32]) (Wx _ a0 (by first|omega|(simp only[A1];omega)|(simp only[A1,List.length_singleton];omega)) a2.size) ?_
  rintro _ e2 ⟨rfl,c4,d4,a0⟩
  refine xwm 22 ((k:Int)+1) (↑(k+1):Int) ?_
  have b8:=a2.trans c4
  exact ze 2 (d3 _ _ _ ⟨k+1,rfl,rfl,b8,(txt_next (M:=M) (k:=k) M0▸a0),by omega⟩ M0)
 refine xc 7 (args:=#[P0 b1]) (bld_End _ a0 a1.size) ?_
 rintro _ e3 ⟨rfl,c5⟩
 have b9:=a1.trans c5
 exact xe 4 (.string ⟨(txt (M.take k)).toArray⟩) ⟨by rw[A5 M0],b9⟩
end Go.Proofs.YtekomodnkfhihaaGreatDoor
namespace Go.Proofs.YtekomodnkfhihaaGreatDoor
set_option maxHeartbeats 8000000
set_option maxRecDepth 100000
open Go.RowKit Go.Extern.Stop Go.Stop Go.Extern
open Go.ChangeMaps (setBlock heap_setBlock_same heap_setBlock_other)
set_option linter.unusedVariables false
attribute [local irreducible] wpList wpAnyH Code.wp Oper.wp Go
variable {P:Program} {w:World}
theorem By{r:Nat}{es:Array MapEntry}{c:Nat}(hb:w.heap[r]? = some (.map es c))(o:Obj):Upd w r (setBlock w r o):=⟨rfl,rfl,rfl,by simp[setBlock],fun k hk=>heap_setBlock_other hb _ hk⟩
/-! ### in a walk -/
inductive Zm
 | mm (t:TypeId)
 | lk (t:TypeId) (m k:Value)
 | mu (t:TypeId) (m k v:Value)
 | b1 (b:Builtin) (t:TypeId) (u:Value)
 | b2 (b:Builtin) (t t2:TypeId) (u v:Value)
noncomputable def zmf (n:Nat) (kv:List (Nat×Value)) (o:Oper):Option Zm:=match o.op with
 | .makeMap t none=>some (.mm t)
 | .lookup t x y false=>some (.lk t (zev n kv x) (zev n kv y))
 | .mapUpdate t x y z=>some (.mu t (zev n kv x) (zev n kv y) (zev n kv z))
 | .call c=>match c.callee with
  | .builtin b=>match c.args.toList,c.argTypes.toList with
   | [x],[t]=>some (.b1 b t (zev n kv x))
   | [x,y],[t,t2]=>some (.b2 b t t2 (zev n kv x) (zev n kv y))
   | _,_=>none
  | _=>none
 | _=>none
noncomputable def zm (s:Zs):Option Zm:=match zop s with
 | some o=>zmf s.n s.kv o
 | none=>none
section
variable {P:Program} {fn:Func} {R:Ending→World→Prop} {w:World} {s:Zs}
theorem op_skip{a:Act}{o:Oper}{K:Act→World→Prop}{Q:Exit→Act→World→Prop}{w':World}(hv:(execOp a.eval o).run P w=.ok .skip w')(k:K (a.put o.dst undef) w'):o.wp P a w K Q:=by
 simp only[Oper.wp,hv,Oper.upon];exact k
end
end Go.Proofs.YtekomodnkfhihaaGreatDoor
namespace Go.Proofs.YtekomodnkfhihaaGreatDoor
set_option maxHeartbeats 8000000
set_option maxRecDepth 100000
open Go.RowKit Go.Extern.Stop Go.Stop Go.Extern
open Go.ChangeMaps (setBlock heap_setBlock_same heap_setBlock_other)
set_option linter.unusedVariables false
attribute [local irreducible] wpList wpAnyH Code.wp Oper.wp Go
structure KeyK{α:Type}[DecidableEq α](P:Program)(kt:TypeId)(mk:α→Value)(un:Value→α):Prop where
 inv:∀ a,un (mk a)=a
 d:∃ D,P.underlying kt=some D∧∀ a b,Instr.sameNow D (mk a) (mk b)=some (decide (a=b))
 ok:∀ (b:Bool) (a:α) (w:World),(Instr.checkKey b 10000 kt (mk a)).run P w=.ok () w
section
variable {α:Type} {mk:α→Value} {un:Value→α}
def Ep(mk:α→Value)(kv:List (α×Value)):List (Value×Value):=kv.map fun p=>(mk p.1,p.2)
def Ju(mk:α→Value)(W:World)(r:Nat)(kv:List (α×Value)):Prop :=
 ∃ es clock,W.heap[r]? = some (.map es clock)∧es.toList.map (fun e=>(e.key,e.val))=Ep mk kv∧(∀ x∈es.toList,x.born<clock)∧(es.toList.map (·.born)).Nodup
theorem Ju.lt{W:World}{r:Nat}{kv:List (α×Value)}(h:Ju mk W r kv):r<W.heap.size:=by
 obtain⟨es,a0,h1,_⟩:=h
 exact(Array.getElem?_eq_some_iff.1 h1).1
theorem Ju.kept{w W:World}{r:Nat}{kv:List (α×Value)}(h:Ju mk w r kv)(hb:W.heap[r]? = w.heap[r]?):Ju mk W r kv:=by
 obtain⟨es,a0,h1,h2⟩:=h
 exact⟨es,a0,hb.trans h1,h2⟩
theorem Ju.below{w W:World}{r:Nat}{kv:List (α×Value)}(h:Ju mk w r kv)(hb:Bl w W):Ju mk W r kv:=h.kept (hb.block r h.lt)
theorem Ju.ne_blk{w:World}{r b:Nat}{kv:List (α×Value)}{cs:List Value}{t:TypeId}(h:Ju mk w r kv)(k:Blk w b cs t):r≠b:=fun e=>by
 subst e
 obtain⟨es,a0,h1,_⟩:=h
 have:w.heap[r]? = some (.cells cs.toArray t (0,0)):=k
 rw[h1] at this;cases this
theorem Ju.ne_own{w:World}{r base size n:Nat}{kv:List (α×Value)}{e:TypeId}{v:Value}{xs:List Value}(h:Ju mk w r kv)(k:w.ownsRow base e size v n xs):some r≠v.ownBlock:=fun q=>by
 rcases k.2 with ⟨h2,_⟩|⟨g,a1,a2,hv,hg,hh,_⟩
 ·subst h2;simp[Value.ownBlock] at q
 ·subst hv
  simp only[Value.ownBlock,At] at q
  subst q
  obtain⟨es,a0,h1,_⟩:=h
  rw[h1] at hh;cases hh
theorem Ju.grown{w W:World}{r base size n:Nat}{kv:List (α×Value)}{e:TypeId}{v:Value}{xs:List Value}(h:Ju mk w r kv)(hg:w.grownBy W v.ownBlock)(k:w.ownsRow base e size v n xs):Ju mk W r kv:=h.kept (hg.block r h.lt (h.ne_own k))
theorem Ju.updBlk{w W:World}{r b:Nat}{kv:List (α×Value)}{cs:List Value}{t:TypeId}(h:Ju mk w r kv)(u:Upd w b W)(k:Blk w b cs t):Ju mk W r kv:=h.kept (u.block r (h.ne_blk k))
theorem Ju.upd{w W:World}{r b:Nat}{kv:List (α×Value)}(h:Ju mk w r kv)(u:Upd w b W)(hn:r≠b):Ju mk W r kv:=h.kept (u.block r hn)
theorem own_obj{w W:World}{r base size n:Nat}{e:TypeId}{v:Value}{xs:List Value}(k:w.ownsRow base e size v n xs)(h:∀ cs t f,w.heap[r]? ≠ some (.cells cs t f))(u:Upd w r W):W.ownsRow base e size v n xs:=u.own3 k fun j hj q=>by
 subst q
 rcases k.2 with ⟨h2,_⟩|⟨g,a0,a1,hv,hg,hh,_⟩
 ·subst h2;simp[Value.ownBlock] at hj
 ·subst hv
  simp only[Value.ownBlock,At] at hj
  subst hj
  exact h _ _ _ hh
theorem blk_obj{w W:World}{r b:Nat}{cs:List Value}{t:TypeId}(k:Blk w b cs t)(h:∀ cs t f,w.heap[r]? ≠ some (.cells cs t f))(u:Upd w r W):Blk W b cs t:=u.blk k (fun q=>by
 subst q
 exact h cs.toArray t (0,0) k)
theorem Ju.obj{w:World}{r:Nat}{kv:List (α×Value)}(h:Ju mk w r kv):∀ cs t f,w.heap[r]? ≠ some (.cells cs t f):=fun cs t f q=>by
 obtain⟨es,a0,h1,_⟩:=h
 rw[h1] at q;cases q
structure NewMV(mk:α→Value)(w:World)(r:Nat)(W:World):Prop where
 at_:r=w.heap.size
 below:Below w.heap.size w W
 map:Ju mk W r []
theorem NewMV.ge{w W A:World}{r:Nat}(h:NewMV mk w r W)(k:Below A.heap.size A w):A.heap.size≤r:=by have:=k.size;have:=h.at_;omega
theorem NewMV.mk'(mk:α→Value)(w:World):NewMV mk w w.heap.size (w.alloc (.map #[] 0)):=⟨rfl,blx _ _,#[],0,Id w _,rfl,(fun _ h=>by cases h),List.Pairwise.nil⟩
def Ky[DecidableEq α]:List (α×Value)→α→Option Value
 | [],_=>none
 | p::r,k=>if k=p.1 then some p.2 else Ky r k
theorem Od[DecidableEq α]{kv:List (α×Value)}{k:α}(h:k∉kv.map Prod.fst):Ky kv k=none:=by
 induction kv with
 | nil=>rfl
 | cons p r ih =>
  simp only[E4,D4,not_or] at h
  unfold Ky
  rw[if_neg h.1];exact ih h.2
theorem Zc9[DecidableEq α]{kv:List (α×Value)}{k:α}(h:k∈kv.map Prod.fst):∃ v,Ky kv k=some v∧(k,v)∈kv:=by
 induction kv with
 | nil=>cases h
 | cons p r ih =>
  unfold Ky
  by_cases q:k=p.1
  ·rw[if_pos q];exact⟨p.2,rfl,by rw[q];exact B9⟩
  ·rw[if_neg q]
   obtain⟨v,h1,h2⟩:=ih (by simpa [q] using h)
   exact⟨v,h1,C7 _ h2⟩
theorem Bo[DecidableEq α]{D:TypeDesc}(hd:∀ a b:α,Instr.sameNow D (mk a) (mk b)=some (decide (a=b)))(k:α):∀ (es:List MapEntry) (kv:List (α×Value)) (i:Nat),es.map (fun e=>(e.key,e.val))=Ep mk kv→∃ j,Instr.findNow D (mk k) es i=some ((Ky kv k).map fun v=>(j,v))
 | [],kv,i,h=>by
  have:kv=[]:=by simpa [Ep] using h.symm
  subst this;exact⟨0,rfl⟩
 | e::es,[],i,h=>by simp[Ep] at h
 | e::es,p::kv,i,h=>by
  simp only[Ep,E4,G4,C2] at h
  obtain⟨⟨h1,h2⟩,h3⟩:=h
  by_cases q:k=p.1
  ·refine⟨i,?_⟩
   simp[Instr.findNow,h1,h2,hd,Ky,q]
  ·obtain⟨j,ih⟩:=Bo hd k es kv (i+1) h3
   refine⟨j,?_⟩
   simp[Instr.findNow,h1,hd,Ky,q,ih]
theorem Ku[DecidableEq α]{P:Program}{kt:TypeId}(K:KeyK P kt mk un)(k:α){es:List MapEntry}{kv:List (α×Value)}(h:es.map (fun e=>(e.key,e.val))=Ep mk kv)(w:World) :
 ∃ j,(Instr.findKey kt (mk k) es).run P w=.ok ((Ky kv k).map fun v=>(j,v)) w:=by
 obtain⟨D,hD,hd⟩:=K.d
 obtain⟨j,hj⟩:=Bo hd k es kv 0 h
 refine⟨j,?_⟩
 simp only[Instr.findKey,B8,run_underlying hD,C4,hj]
 rfl
variable {P:Program} {w:World}
theorem Zdj[DecidableEq α]{t kt et:TypeId}{r:Nat}{kv:List (α×Value)}(K:KeyK P kt mk un)(ht:P.underlying t=some (.map kt et))(h:Ju mk w r kv){k:α}{v:Value}(hv:Ky kv k=some v)(ok:Bool) :
 (Instr.lookup t (.map (some r)) (mk k) ok).run P w=.ok (if ok then .tuple #[v,.bool true] else v) w:=by
 obtain⟨es,a0,h1,h2,_⟩:=h
 obtain⟨j,hf⟩:=Ku K k h2 w
 rw[hv] at hf
 cases ok<;>simp[Instr.lookup,run_underlying ht,MapKept.run_getObj_map h1,K.ok,hf,Result.andThen]
theorem Zc7[DecidableEq α]{t kt et:TypeId}{r:Nat}{kv:List (α×Value)}(K:KeyK P kt mk un)(ht:P.underlying t=some (.map kt et))(h:Ju mk w r kv){k:α}{z:Value}(hz:(zeroValue et).run P w=.ok z w)(hv:Ky kv k=none)(ok:Bool) :
 (Instr.lookup t (.map (some r)) (mk k) ok).run P w=.ok (if ok then .tuple #[z,.bool false] else z) w:=by
 obtain⟨es,a0,h1,h2,_⟩:=h
 obtain⟨j,hf⟩:=Ku K k h2 w
 rw[hv] at hf
 cases ok<;>simp[Instr.lookup,run_underlying ht,MapKept.run_getObj_map h1,K.ok,hf,hz,Result.andThen]
theorem Fl[DecidableEq α]{t kt et:TypeId}{r:Nat}{kv:List (α×Value)}(K:KeyK P kt mk un)(ht:P.underlying t=some (.map kt et))(h:Ju mk w r kv){k:α}(v:Value)(hn:Ky kv k=none) :
 ∃ W,(Instr.mapUpdate t (.map (some r)) (mk k) v).run P w=.ok () W∧Upd w r W∧Ju mk W r (kv++[(k,v)]):=by
 obtain⟨es,a0,h1,h2,h3,h4⟩:=h
 obtain⟨j,hf⟩:=Ku K k h2 w
 rw[hn] at hf
 refine⟨setBlock w r (.map (es.push ⟨mk k,v,a0⟩) (a0+1)),?_,By h1 _,_,_,heap_setBlock_same h1 _,?_,?_,?_⟩
 ·simp[Instr.mapUpdate,run_underlying ht,MapKept.run_getObj_map h1,K.ok,hf,MapKept.run_setObj_map _ h1,Result.andThen,setBlock]
 ·rw[Array.toList_push,B6,h2];simp[Ep]
 ·intro x hx
  rw[Array.toList_push,List.mem_append] at hx
  rcases hx with hx|hx
  ·exact Nat.lt_succ_of_lt (h3 x hx)
  ·obtain rfl:=D8.1 hx
   exact Nat.lt_succ_self a0
 ·rw[Array.toList_push,B6,List.nodup_append]
  refine⟨h4,by simp,fun a ha b hb q=>?_⟩
  obtain⟨x,hx,rfl⟩:=List.mem_map.1 ha
  simp at hb
  have:=h3 x hx
  omega
end
/-! ### in a walk -/
inductive Zmv
 | mm (t:TypeId)
 | lk (t:TypeId) (m k:Value) (ok:Bool)
 | mu (t:TypeId) (m k v:Value)
 | rg (t:TypeId) (m:Value)
 | nx (i:Value)
 | en (i:Value)
noncomputable def zmvf (n:Nat) (kv:List (Nat×Value)) (o:Oper):Option Zmv:=match o.op with
 | .makeMap t none=>some (.mm t)
 | .lookup t x y ok=>some (.lk t (zev n kv x) (zev n kv y) ok)
 | .mapUpdate t x y z=>some (.mu t (zev n kv x) (zev n kv y) (zev n kv z))
 | .range t x=>some (.rg t (zev n kv x))
 | .next x false=>some (.nx (zev n kv x))
 | .entry x=>some (.en (zev n kv x))
 | _=>none
noncomputable def zmv (s:Zs):Option Zmv:=match zop s with
 | some o=>zmvf s.n s.kv o
 | none=>none
def ZmvOk(a:Act)(o:Oper):Zmv→Prop
 | .mm t=>o.op=.makeMap t none
 | .lk t m k ok=>∃ x y,o.op=.lookup t x y ok∧a.eval x=m∧a.eval y=k
 | .mu t m k v=>∃ x y z,o.op=.mapUpdate t x y z∧a.eval x=m∧a.eval y=k∧a.eval z=v
 | .rg t m=>∃ x,o.op=.range t x∧a.eval x=m
 | .nx i=>∃ x,o.op=.next x false∧a.eval x=i
 | .en i=>∃ x,o.op=.entry x∧a.eval x=i
theorem Mx{n:Nat}{kv:List (Nat×Value)}{o:Oper}{k:Zmv}(h:zmvf n kv o=some k):ZmvOk (zact n kv) o k:=by
 unfold zmvf at h
 split at h
 ·rename_i a0;cases h;exact a0
 ·rename_i a0;cases h;exact⟨_,_,a0,by rw[Zj],by rw[Zj]⟩
 ·rename_i a0;cases h;exact⟨_,_,_,a0,by rw[Zj],by rw[Zj],by rw[Zj]⟩
 ·rename_i a0;cases h;exact⟨_,a0,by rw[Zj]⟩
 ·rename_i a0;cases h;exact⟨_,a0,by rw[Zj]⟩
 ·rename_i a0;cases h;exact⟨_,a0,by rw[Zj]⟩
 ·cases h
section
variable {P:Program} {fn:Func} {R:Ending→World→Prop} {w:World} {s:Zs} {α:Type} {mk:α→Value} {un:Value→α}
theorem xmmV(mk:α→Value)(q:Zq)(t:TypeId)(k:∀ r W,NewMV mk w r W→Go P fn R (znx (zq P q s) (.map (some r))) W)(h:zmv (zq P q s)=some (.mm t):=by kernel_rfl)(hz:Vn (zq P q s)=true:=by kernel_rfl):Go P fn R s w:=by
 obtain⟨o,ho,h⟩:=Xz h
 have a0:o.op=.makeMap t none:=Mx h
 exact Zn q s (zgo ho (Yi hz) fun K hK=>Vr (v:=.map (some w.heap.size)) (w':=w.alloc (.map #[] 0)) (by simp[execOp,a0,Instr.makeMap,newObj,Sem.run,Result.andThen]) (hK _ _ (Yj hz) (k _ _ (NewMV.mk' mk w))))
theorem xlkS[DecidableEq α](q:Zq){t kt et:TypeId}{r:Nat}{kv:List (α×Value)}(k:α)(ok:Bool){v:Value}(ht:P.underlying t=some (.map kt et))(K:KeyK P kt mk un)(hM:Ju mk w r kv)(hv:Ky kv k=some v)(g:Go P fn R (znx (zq P q s) (if ok then .tuple #[v,.bool true] else v)) w)
 (h:zmv (zq P q s)=some (.lk t (.map (some r)) (mk k) ok):=by kernel_rfl) (hz:Uh (zq P q s)=true:=by kernel_rfl):Go P fn R s w:=by
 obtain⟨o,ho,h⟩:=Xz h
 obtain⟨x,y,h1,h2,h3⟩:=Mx h
 exact Zn q s (Ff ho (fun V hV=>by
  have hr:=Zdj (P:=P) K ht (hM.below (Vl hz hV)) hv ok
  simp only[execOp,h1,h2,h3,B8,hr,Result.andThen];rfl) g)
theorem xlkN[DecidableEq α](q:Zq){t kt et:TypeId}{r:Nat}{kv:List (α×Value)}(k:α)(ok:Bool){z:Value}(ht:P.underlying t=some (.map kt et))(K:KeyK P kt mk un)(hz0:∀ V,(zeroValue et).run P V=.ok z V)(hM:Ju mk w r kv)(hv:Ky kv k=none)(g:Go P fn R (znx (zq P q s) (if ok then .tuple #[z,.bool false] else z)) w)
 (h:zmv (zq P q s)=some (.lk t (.map (some r)) (mk k) ok):=by kernel_rfl) (hz:Uh (zq P q s)=true:=by kernel_rfl):Go P fn R s w:=by
 obtain⟨o,ho,h⟩:=Xz h
 obtain⟨x,y,h1,h2,h3⟩:=Mx h
 exact Zn q s (Ff ho (fun V hV=>by
  have hr:=Zc7 (P:=P) K ht (hM.below (Vl hz hV)) (hz0 V) hv ok
  simp only[execOp,h1,h2,h3,B8,hr,Result.andThen];rfl) g)
theorem xmuV[DecidableEq α](q:Zq){t kt et:TypeId}{r:Nat}{kv:List (α×Value)}(k:α)(v:Value)(ht:P.underlying t=some (.map kt et))(K:KeyK P kt mk un)(hM:Ju mk w r kv)(hn:Ky kv k=none)(g:∀ W,Upd w r W→Ju mk W r (kv++[(k,v)])→Go P fn R (znx (zq P q s) undef) W)
 (h:zmv (zq P q s)=some (.mu t (.map (some r)) (mk k) v):=by kernel_rfl) (hz:Vn (zq P q s)=true:=by kernel_rfl):Go P fn R s w:=by
 obtain⟨o,ho,h⟩:=Xz h
 obtain⟨x,y,z,h1,h2,h3,h4⟩:=Mx h
 obtain⟨W,hr,hu,hm⟩:=Fl (P:=P) K ht hM v hn
 exact Zn q s (zgo ho (Yi hz) fun K hK=>op_skip (w':=W) (by simp[execOp,h1,h2,h3,h4,hr,Result.andThen]) (hK _ _ (Yj hz) (g W hu hm)))
end
end Go.Proofs.YtekomodnkfhihaaGreatDoor
namespace Go.Proofs.YtekomodnkfhihaaGreatDoor
set_option maxHeartbeats 8000000
set_option maxRecDepth 100000
open Go.RowKit Go.Extern.Stop Go.Stop Go.Extern
set_option linter.unusedVariables false
attribute [local irreducible] wpList wpAnyH Code.wp Oper.wp Go
theorem Xm(k:Nat):Builtin.zeroCells #[Value.int .u8 0] k=(List.replicate k (Value.int .u8 0)).toArray:=by
 apply Array.ext'
 unfold Builtin.zeroCells
 simp only[F3,D5,K2,E9,D0,Nat.mod_one]
 rw[Array.toList_map]
 simp only[Array.toList_range]
 apply F4
 intro i
 simp only[B7,I5]
 by_cases h:i<k
 ·rw[B5 h,if_pos h];rfl
 ·rw[if_neg h,C3 (by simpa using h)];rfl
theorem Kx{P:Program}(w:World)(t tn ty e:TypeId)(i:TypeInfo)(kq kn:IntKind)(ht:P.underlying t=some (.slice e))(htn:P.underlying tn=some (.int kn))(hi:P.info? e=some i)(hz:i.zero=some (.int .u8 0))(hs1:i.size=1)(hb1:i.bytes=1)
 (g n c k:Nat) (cur:Array Value) (hg:w.heap[g]? = some (.cells cur e (0,0))) (h0:0<k) (hroom:n+k≤c) (hfit:n+k≤cur.size) (hk:n+k≤1000000) :
 (Builtin.append_ #[t,tn] ty #[.slice (S1 g) n c,.int kq k]).run P w =
 .ok (.slice (S1 g) (n+k) c) (w.setRow g (cur.toList.take n++List.replicate k (Value.int .u8 0)++cur.toList.drop (n+k)).toArray):=by
 have a3:k≠0:=by omega
 have hw:IntKind.i64.wrap (k:Int)=k:=by rw[IntKind.wrap_i64];omega
 have a1:¬ (281474976710656<(k:Int)):=by omega
 have a0:¬ ((k:Int)<0):=by omega
 have a2:=run_storeCells_at P g n e (List.replicate k (.int .u8 0)) 0 cur w hg (by simpa using hfit) (by intro u hu;rw[(List.mem_replicate.1 hu).2];rfl)
 simp only[H3,A8] at a2
 simp[Builtin.append_,run_underlying ht,run_underlying htn,sizeOf,typeInfo,zeroValue,hi,hz,hs1,hb1,asInt,asIntOf,hw,a0,a1,a3,hroom,Addr.add_lit,show(Value.int IntKind.u8 0).cells=#[Value.int .u8 0] from rfl,Xm,a2]
theorem op_appZo{P:Program}{a:Act}{w:World}{K:Act→World→Prop}{Q:Exit→Act→World→Prop}{o:Oper}{s x:Operand}{t tn e:TypeId}{kq kn:IntKind}{base:Nat}{v:Value}{n:Nat}{xs:List Value}(k n':Nat)(xs':List Value)
 (ho:o.op=.call { callee:=.builtin .append,args:=#[s,x],argTypes:=#[t,tn] }) (ht:P.underlying t=some (.slice e)) (htn:P.underlying tn=some (.int kn)) (hi:(P.info? e).map (fun i=>(i.zero,i.size,i.bytes))=some (some (.int .u8 0),1,1))
 (hs:a.eval s=v) (hown:w.ownsRow base e 1 v n xs) (hx:a.eval x=.int kq (k:Int)) (h0:0<k) (hk:n+k≤1000000) (hbase:base≤w.heap.size) (hn:n+k=n') (hxs:xs++List.replicate k (.int .u8 0)=xs')
 (h:∀ b c' W,W.ownsRow base e 1 (.slice b n' c') n' xs'→w.grownBy W v.ownBlock→Below base w W→K (a.put o.dst (.slice b n' c')) W):o.wp P a w K Q:=by
 subst hn hxs
 cases hq:P.info? e with
 | none=>simp[hq] at hi
 | some i =>
  simp only[hq,C5,At,C2] at hi
  obtain⟨hz,h1,h2⟩:=hi
  have a5:xs.length=n:=by simpa using hown.1
  have a0:(xs++List.replicate k (Value.int .u8 0)).length=(n+k)*1:=by simp[a5]
  rcases hown.2 with ⟨rfl,rfl⟩|⟨g,c,a1,rfl,b0,hg,b4,a2,b3,a4⟩
  ·obtain rfl:xs=[]:=E8 a5
   have hr:=Lib.run_append_nil_zeros (P:=P) w t tn o.type e i (.int .u8 0) kq kn ht htn hq hz k h0 M0 M0 (by rw[h2];omega)
   unfold Oper.wp execOp
   simp only[ho,resolve,invoke,builtin,B8,F0,C4,H1,E4,I3,hs,hx,hr]
   have a6:=grownCap_ge w k 0 e
   have a2:grownCap w k 0 e≤maxLen:=grownCap_le_maxLen w k 0 e (by unfold maxLen;omega)
   simp only[E9,G5] at h
   refine h _ _ _ ⟨by simp,.inr ⟨w.heap.size,_,_,rfl,hbase,heap_alloc_new w.drew _,a6,a2,?_,?_⟩⟩ ⟨rfl,rfl,rfl,by simp,fun k hk _=>by first|exact heap_alloc_old w.drew _ k hk|exact heap_alloc_old w.drew _ hk⟩ (((Zb w).trans (show Below w.drew.heap.size w.drew _ from blx w.drew _)).mono hbase)
   ·rw[show(Value.int .u8 0).cells=#[Value.int .u8 0] from rfl,Xm,Xm];simp;omega
   ·rw[show(Value.int .u8 0).cells=#[Value.int .u8 0] from rfl,Xm,Xm]
    simp only[Array.toList_append,D0]
    exact List.take_left' (by simp)
  by_cases hroom:n+k≤c
  ·have b1:a1.size=c:=by simpa using b3
   have hr:=Kx (P:=P) w t tn o.type e i kq kn ht htn hq hz h1 h2 g n c k a1 hg h0 hroom M0 hk
   unfold Oper.wp execOp
   simp only[ho,resolve,invoke,builtin,B8,F0,C4,H1,E4,I3,hs,hx,hr]
   have a8:w.grownBy (w.setRow g (a1.toList.take n++List.replicate k (Value.int .u8 0)++a1.toList.drop (n+k)).toArray) (Value.ownBlock (.slice (S1 g) n c)):=⟨rfl,rfl,rfl,by simp,fun k' _ b2=>setRow_other w g k' _ (fun e=>b2 (by simp[Value.ownBlock,e]))⟩
   refine h _ _ _ ⟨a0,.inr ⟨g,c,_,rfl,b0,setRow_heap w g a1 _ e _ hg,hroom,a2,?_,?_⟩⟩ a8 (Yq a8 hown (A3 _) hbase)
   ·simp only[F3,A1,D1,H2,I1,A8]
    omega
   ·have a9:a1.toList.take n=xs:=by simpa using a4
    rw[a9,←a0]
    exact List.take_left
  ·have a3:∀ j u,xs[j]? = some u→w.cell? ((⟨g,0,none⟩:Addr).add j)=some u:=hown.cells (g:=g) rfl
   have a7:=run_firstCells_some (P:=P) (w:=w.drew) i.size n ⟨g,0,none⟩ n c xs (by rw[a5,h1,D0]) (by simpa using a3)
   have hr:=Lib.run_append_grow_zeros (P:=P) w t tn o.type e i (.int .u8 0) kq kn ht htn hq hz (S1 g) n c xs a7 k h0 M0 M0 M0 (by rw[h2];omega) (by rw[h2];exact growslice_fits M0 M0)
   unfold Oper.wp execOp
   simp only[ho,resolve,invoke,builtin,B8,F0,C4,H1,E4,I3,hs,hx,hr]
   have a6:=grownCap_ge w (n+k) c e
   have a2:grownCap w (n+k) c e≤maxLen:=grownCap_le_maxLen w (n+k) c e (by unfold maxLen;omega)
   refine h _ _ _ ⟨a0,.inr ⟨w.heap.size,_,_,rfl,hbase,heap_alloc_new w.drew _,a6,a2,?_,?_⟩⟩ ⟨rfl,rfl,rfl,by simp,fun k hk _=>by first|exact heap_alloc_old w.drew _ k hk|exact heap_alloc_old w.drew _ hk⟩ (((Zb w).trans (show Below w.drew.heap.size w.drew _ from blx w.drew _)).mono hbase)
   ·rw[show(Value.int .u8 0).cells=#[Value.int .u8 0] from rfl,Xm,Xm];simp[a5];omega
   ·rw[show(Value.int .u8 0).cells=#[Value.int .u8 0] from rfl,Xm,Xm]
    simp only[Array.toList_append,G8]
    rw[←G8,←a0]
    exact List.take_left
theorem BysM.elem{w:World}{a:O0}{n c:Nat}{l:Bi}(h:Bys w (.slice a n c) l)(hl:l.length=n){k:Nat}(hk:k<n):a.isSome=true∧w.cell? (Zr a (k*1))=some (.int .u8 (↑(l.getD k 0).toNat:Int)):=by
 subst hl;exact Bys.elem h hk
def entE(v:Nat)(l:List Ent)(i:Nat):Prop:=Zbb l i<(l.getD i Yn).1∧(l.getD i Yn).1≤281474976710655∧(l.getD i Yn).2.1.length=v
instance (v:Nat) (l:List Ent) (i:Nat):Decidable (entE v l i):=by unfold entE;infer_instance
theorem ImgR.mono{B B' b:Nat}{p:O0}{n c:Nat}{l:Bi}{w:World}(h:ImgR B b p n c l w)(hB:B'≤B):ImgR B' b p n c l w:=⟨h.blk,Zf h.row hB,h.hn⟩
def WroteR(B b:Nat)(p:O0)(n c:Nat)(l:Bi)(w:World)(e:Ending)(w':World):Prop :=
 e=.returned .nilIface∧Below B w w'∧Zd [5] w w'∧ImgR B b p n c l w'
theorem Bt(B b:Nat)(p:O0)(n c k:Nat)(ki:Int)(l:Bi)(kind:Int)(a:O0)(ca m:Nat)(li:Bi)(w:World)(hki:ki=(k:Int))(hm:li.length=m)(hI:ImgR B b p n c l w)(hk:k<n/256)(h1:1≤kind)(h2:kind≤4)(hin:Bys w (.slice a m ca) li)(hl:m≤244)(hBw:B≤w.heap.size) :
 C0 47 #[P0 b,V0 ki,V0 kind,.slice a m ca] w (WroteR B b p n c (Vy l (k*256) (Wc kind k li)) w):=by
 subst hki hm
 obtain⟨g,rfl,hc⟩:=hI.base M0
 refine(Wu B b g n c k l kind a ca li w hI.blk hI.row hI.hn hc hk h1 h2 hin hl hBw).mono ?_
 rintro e W ⟨rfl,hb,hO,_,ho⟩
 exact⟨rfl,hb,hO,hI.blk.only hO Do,ho,hI.hn⟩
end Go.Proofs.YtekomodnkfhihaaGreatDoor
