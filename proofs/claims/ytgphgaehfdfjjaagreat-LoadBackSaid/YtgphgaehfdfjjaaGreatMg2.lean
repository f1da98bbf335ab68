/- node.Width and node.Max at the five trees; package tall: over, Levels, Nodes, Sizes. -/
import Derived.Lib.BufferWrite
import Derived.Lib.AppendStr
import Derived.Laws.IdiomStrings
import Derived.Test.YtgphgaehfdfjjaaGreatRows
import Derived.RangeFuncNested
import Derived.RangeFuncBound
import Derived.RangeFuncCalls
import Derived.RangeFuncLeaves
import Derived.Shelf.Abstract
import Derived.Shelf.RegionOpen
import Derived.OwnWalkIn
import Derived.TacticsInMore
import Derived.LoopNIn
import Derived.LoopIn
import Derived.Test.YtgphgaehfdfjjaaGreatMg1
namespace Go.Proofs.YtgphgaehfdfjjaaGreat
set_option maxHeartbeats 8000000
set_option maxRecDepth 100000
open Go.RowKit Go.Extern.Stop Go.Stop Go.Extern
set_option linter.unusedVariables false
attribute [local irreducible] wpList wpAnyH Code.wp Oper.wp Go
theorem Md(w:World) :
 C0 46 #[V0 1,.bool true] w (Ret (V0 4) w):=by
 refine zin 31 Tryz.func46 ?_
 exact xe 94 (V0 4) ⟨rfl,(B3 w)⟩
theorem Zbz(w:World) :
 C0 50 #[V0 1,.bool true] w (Ret (V0 18) w):=by
 refine zin 16 Tryz.func50 ?_
 refine xr 9 (args:=#[V0 1,.bool true]) (Md _) fun W1 a0=>?_
 exact xe 24 (V0 18) ⟨rfl,a0⟩
theorem Nr(w:World) :
 C0 46 #[V0 1,.bool false] w (Ret (V0 4) w):=by
 refine zin 31 Tryz.func46 ?_
 exact xe 41 (V0 4) ⟨rfl,(B3 w)⟩
theorem Zdp(w:World) :
 C0 50 #[V0 1,.bool false] w (Ret (V0 18) w):=by
 refine zin 16 Tryz.func50 ?_
 refine xr 9 (args:=#[V0 1,.bool false]) (Nr _) fun W1 a0=>?_
 exact xe 24 (V0 18) ⟨rfl,a0⟩
theorem Mg(w:World) :
 C0 46 #[V0 2,.bool true] w (Ret (V0 8) w):=by
 refine zin 31 Tryz.func46 ?_
 exact xe 101 (V0 8) ⟨rfl,(B3 w)⟩
theorem Zbh(w:World) :
 C0 50 #[V0 2,.bool true] w (Ret (V0 12) w):=by
 refine zin 16 Tryz.func50 ?_
 refine xr 9 (args:=#[V0 2,.bool true]) (Mg _) fun W1 a0=>?_
 exact xe 24 (V0 12) ⟨rfl,a0⟩
theorem Nv(w:World) :
 C0 46 #[V0 2,.bool false] w (Ret (V0 4) w):=by
 refine zin 31 Tryz.func46 ?_
 exact xe 41 (V0 4) ⟨rfl,(B3 w)⟩
theorem Zbt(w:World) :
 C0 50 #[V0 2,.bool false] w (Ret (V0 18) w):=by
 refine zin 16 Tryz.func50 ?_
 refine xr 9 (args:=#[V0 2,.bool false]) (Nv _) fun W1 a0=>?_
 exact xe 24 (V0 18) ⟨rfl,a0⟩
theorem Mb(w:World) :
 C0 46 #[V0 3,.bool true] w (Ret (V0 24) w):=by
 refine zin 31 Tryz.func46 ?_
 exact xe 93 (V0 24) ⟨rfl,(B3 w)⟩
theorem Zcb(w:World) :
 C0 50 #[V0 3,.bool true] w (Ret (V0 6) w):=by
 refine zin 16 Tryz.func50 ?_
 refine xr 9 (args:=#[V0 3,.bool true]) (Mb _) fun W1 a0=>?_
 exact xe 24 (V0 6) ⟨rfl,a0⟩
theorem Nn(w:World) :
 C0 46 #[V0 3,.bool false] w (Ret (V0 4) w):=by
 refine zin 31 Tryz.func46 ?_
 exact xe 41 (V0 4) ⟨rfl,(B3 w)⟩
theorem Zc3(w:World) :
 C0 50 #[V0 3,.bool false] w (Ret (V0 18) w):=by
 refine zin 16 Tryz.func50 ?_
 refine xr 9 (args:=#[V0 3,.bool false]) (Nn _) fun W1 a0=>?_
 exact xe 24 (V0 18) ⟨rfl,a0⟩
theorem Nw(w:World) :
 C0 46 #[V0 4,.bool true] w (Ret (V0 16) w):=by
 refine zin 31 Tryz.func46 ?_
 exact xe 98 (V0 16) ⟨rfl,(B3 w)⟩
theorem Zbp(w:World) :
 C0 50 #[V0 4,.bool true] w (Ret (V0 9) w):=by
 refine zin 16 Tryz.func50 ?_
 refine xr 9 (args:=#[V0 4,.bool true]) (Nw _) fun W1 a0=>?_
 exact xe 24 (V0 9) ⟨rfl,a0⟩
theorem Mc(w:World) :
 C0 46 #[V0 4,.bool false] w (Ret (V0 4) w):=by
 refine zin 31 Tryz.func46 ?_
 exact xe 41 (V0 4) ⟨rfl,(B3 w)⟩
theorem Zds(w:World) :
 C0 50 #[V0 4,.bool false] w (Ret (V0 18) w):=by
 refine zin 16 Tryz.func50 ?_
 refine xr 9 (args:=#[V0 4,.bool false]) (Mc _) fun W1 a0=>?_
 exact xe 24 (V0 18) ⟨rfl,a0⟩
theorem Mj(w:World) :
 C0 46 #[V0 5,.bool true] w (Ret (V0 4) w):=by
 refine zin 31 Tryz.func46 ?_
 exact xe 94 (V0 4) ⟨rfl,(B3 w)⟩
theorem Zbg(w:World) :
 C0 50 #[V0 5,.bool true] w (Ret (V0 18) w):=by
 refine zin 16 Tryz.func50 ?_
 refine xr 9 (args:=#[V0 5,.bool true]) (Mj _) fun W1 a0=>?_
 exact xe 24 (V0 18) ⟨rfl,a0⟩
theorem Ma(w:World) :
 C0 46 #[V0 5,.bool false] w (Ret (V0 4) w):=by
 refine zin 31 Tryz.func46 ?_
 exact xe 41 (V0 4) ⟨rfl,(B3 w)⟩
theorem Zci(w:World) :
 C0 50 #[V0 5,.bool false] w (Ret (V0 18) w):=by
 refine zin 16 Tryz.func50 ?_
 refine xr 9 (args:=#[V0 5,.bool false]) (Ma _) fun W1 a0=>?_
 exact xe 24 (V0 18) ⟨rfl,a0⟩
def Ht(t:Int)(leaf:Bool):Nat:=if leaf=false then 4 else if t=2 then 8 else if t=3 then 24 else if t=4 then 16 else 4
def Qq(t:Int)(leaf:Bool):Nat:=if leaf=false then 18 else if t=2 then 12 else if t=3 then 6 else if t=4 then 9 else 18
theorem Eb(t:Int)(leaf:Bool)(h1:1≤t)(h2:t≤5)(w:World):C0 46 #[V0 t,.bool leaf] w (Ret (V0 (Ht t leaf:Int)) w):=by
 obtain rfl|rfl|rfl|rfl|rfl:t=1∨t=2∨t=3∨t=4∨t=5:=by omega
 all_goals cases leaf
 ·exact Nr w
 ·exact Md w
 ·exact Nv w
 ·exact Mg w
 ·exact Nn w
 ·exact Mb w
 ·exact Mc w
 ·exact Nw w
 ·exact Ma w
 ·exact Mj w
theorem Ld(t:Int)(leaf:Bool)(h1:1≤t)(h2:t≤5)(w:World):C0 50 #[V0 t,.bool leaf] w (Ret (V0 (Qq t leaf:Int)) w):=by
 obtain rfl|rfl|rfl|rfl|rfl:t=1∨t=2∨t=3∨t=4∨t=5:=by omega
 all_goals cases leaf
 ·exact Zdp w
 ·exact Zbz w
 ·exact Zbt w
 ·exact Zbh w
 ·exact Zc3 w
 ·exact Zcb w
 ·exact Zds w
 ·exact Zbp w
 ·exact Zci w
 ·exact Zbg w
theorem Yb(t:Int)(leaf:Bool):1≤Qq t leaf∧Qq t leaf≤18:=by
 unfold Qq;repeat' split
 all_goals decide
theorem run_quo{P:Program}{a:Act}{o:Oper}{t:TypeId}{x y:Operand}{t2:TypeId}{p q r:Int}{k:IntKind}(ho:o.op=.binOp .quo t x y t2)(hx:a.eval x=.int k p)(hy:a.eval y=.int k q)(hq:q≠0)(hr:k.wrap (Int.tdiv p q)=r)(w:World) :
 (execOp a.eval o).run P w=.ok (.value (.int k r)) w:=by
 subst hr
 have hb:(binOp .quo t (.int k p) (.int k q)).run P w=.ok (.int k (k.wrap (p.tdiv q))) w:=by
  simp[binOp,Op.intDiv,hq]
 have hg:(eqGuard .quo t x y (.int k p) (.int k q)).run P w=.ok () w:=rfl
 simp only[execOp,ho,hx,hy,Sem.run_bind,hg,Result.andThen_ok,hb]
 rfl
def ovN (n m:Nat):Nat:=max 1 ((n+m-1)/m)
theorem max_cast(a b:Nat):(if(b:Int)>(a:Int) then(b:Int) else(a:Int))=((max a b:Nat):Int):=by split<;>omega
theorem Xy(n m:Nat):1≤ovN n m:=by unfold ovN;omega
theorem So(n m:Nat)(hm:1≤m):ovN n m≤n+1:=by
 have:(n+m-1)/m≤n:=by
  rw[Nat.div_le_iff_le_mul_add_pred (by omega)]
  have:=Nat.le_mul_of_pos_left n hm
  omega
 unfold ovN;omega
theorem Zdw{x:Nat}(h:2≤x):ovN x 18≤x/2:=by unfold ovN;omega
theorem Bg(n m:Nat)(w:World)(hn:n≤1000000)(hm:1≤m)(hm2:m≤1000000) :
 C0 69 #[V0 (n:Int),V0 (m:Int)] w (Ret (V0 (ovN n m:Int)) w):=by
 refine zin 12 Tryz.func69 ?_
 refine xwm 9 ((n:Int)+(m:Int)) (↑(n+m):Int) ?_
 refine xwm 0 ((↑(n+m):Int)-1) (↑((n+m)-1):Int) ?_
 refine xbo 1 (t:=3) (t2:=3) (fun _ _ _ _ zo zx zy V hV=>run_quo (r:=(↑((n+m-1)/m):Int)) zo zx zy (by omega) (Tw (n+m-1) m (by omega) (by omega)) V) ?_
 refine xq 0 (congrArg V0 (show(if(↑((n+m-1)/m):Int)>(1:Int) then(↑((n+m-1)/m):Int) else(1:Int):Int)=(↑(ovN n m):Int) from max_cast 1 ((n+m-1)/m))) ?_
 exact xe 4 (V0 (↑(ovN n m):Int)) ⟨rfl,(B3 w)⟩
def lenOf:Value→Nat
 | .slice _ n _=>n
 | _=>0
def nv (n:Nat):Value:=V0 (n:Int)
def Je(x:Nat):List Nat:=if h:x≤1 then [x] else x::Je (ovN x 18)
termination_by x
decreasing_by have:=Zdw (x:=x) (by omega);omega
theorem Vq{x:Nat}(h:x≤1):Je x=[x]:=by rw[Je];simp[h]
theorem Yw{x:Nat}(h:¬ x≤1):Je x=x::Je (ovN x 18):=by rw[Je];simp[h]
theorem levs_sum{x:Nat}(h:1≤x):(Je x).sum≤2*x:=by
 induction x using Nat.strongRecOn with
 | _ x ih =>
  by_cases h1:x≤1
  ·rw[Vq h1];simp;omega
  ·rw[Yw h1,List.sum_cons]
   have h2:=Zdw (x:=x) (by omega)
   have:=ih (ovN x 18) (by omega) (Xy _ _)
   omega
theorem levs_len{x:Nat}(h:1≤x):(Je x).length≤x:=by
 induction x using Nat.strongRecOn with
 | _ x ih =>
  by_cases h1:x≤1
  ·rw[Vq h1];simpa using h
  ·rw[Yw h1,List.length_cons]
   have h2:=Zdw (x:=x) (by omega)
   have:=ih (ovN x 18) (by omega) (Xy _ _)
   omega
theorem Zt{w:World}{b:O0}{n c:Nat}{l:List Nat}(h:Sl w (.slice b n c) n (l.map nv))(hl:l.length=n){k:Nat}(hk:k<n):b.isSome=true∧w.cell? (Zw b (k*1))=some (V0 ((l.getD k 0:Nat):Int)):=by
 have e:l.map nv=(l.map fun x:Nat=>(x:Int)).map V0:=by simp[nv]
 rw[e] at h
 have:=IntsN.elem h (by simpa using hl) hk
 rw[show(l.map fun x:Nat=>(x:Int)).getD k 0=((l.getD k 0:Nat):Int) by simp[List.getD,List.getElem?_eq_getElem (show k<l.length by omega)]] at this
 exact this
theorem Ro{xs:List Nat}{x j:Nat}(h:xs.length=j):(xs++[x]).getD j 0=x:=by subst h;simp[List.getD]
theorem Rf{L:List Nat}{k:Nat}(h:k<L.length):(L.take (k+1)).sum=(L.take k).sum+L.getD k 0:=by
 rw[List.take_add_one,List.sum_append];simp[List.getD,List.getElem?_eq_getElem h]
theorem Zey{L:List Nat}(k:Nat):(L.take k).sum≤L.sum:=by
 conv=>rhs;rw[←List.take_append_drop k L,List.sum_append]
 omega
def Jk(t:Int)(n:Nat):List Nat:=Je (ovN n (Qq t true))
def Ka(t:Int)(n:Nat):Nat:=(Jk t n).sum
theorem levL_len(t:Int)(n:Nat):(Jk t n).length≤n+1:=by
 have:=levs_len (Xy n (Qq t true));have:=So n (Qq t true) (Yb t true).1;unfold Jk;omega
theorem nodN_le(t:Int)(n:Nat):Ka t n≤2*n+2:=by
 have:=levs_sum (Xy n (Qq t true));have:=So n (Qq t true) (Yb t true).1;unfold Ka Jk;omega
theorem Iw(t:Int)(n:Nat)(w:World)(h1:1≤t)(h2:t≤5)(hn:n≤32768) :
 C0 48 #[V0 t,V0 (n:Int)] w (Ky (fun w' r=>∃ p c,r=.slice p (Jk t n).length c∧w'.ownsRow w.heap.size 3 1 (.slice p (Jk t n).length c) (Jk t n).length ((Jk t n).map nv)) w):=by
 have b4:=(Yb t true).1
 have c7:=(Yb t true).2
 have d3:=So n (Qq t true) b4
 have c2:=Xy n (Qq t true)
 refine zin 45 Tryz.func48 ?_
 refine xr 8 (args:=#[V0 t,.bool true]) (Ld t true h1 h2 _) fun W1 b0=>?_
 refine xr 1 (args:=#[V0 t,.bool false]) (Ld t false h1 h2 _) fun W2 b1=>?_
 refine xgk 10 [13,14] (show(((↑(Qq t true):Int)==(0:Int)):Bool)=false from by simp;omega) ?_
 refine xgk 4 [16,17,18] (show(decide ((n:Int)<(0:Int)):Bool)=false from decide_eq_false (by omega)) ?_
 refine xk 5 (show(decide ((n:Int)>(32768:Int)):Bool)=false from decide_eq_false (by omega)) ?_
 refine xr 6 (args:=#[V0 (n:Int),V0 (↑(Qq t true):Int)]) (Bg n (Qq t true) _ (by omega) b4 (by omega)) fun W5 b2=>?_
 refine xbs 0 1 [V0 (↑(ovN n (Qq t true)):Int)] 3 fun b6 W6 n6=>?_
 have g6:=n6.ge (bln (bln b0 b1) b2)
 have hB:=bln (bln (bln b0 b1) b2) n6.below
 refine zl 5 45 (fun zm c1 V=>∃ (j x:Nat) (xs:List Nat) (p:O0) (c:Nat),c1=[(4,S0),(6,V0 18),(7,.slice p (j+1) c)]∧zm=40000-(j+1)∧B0 w V∧V.ownsRow w.heap.size 3 1 (.slice p (j+1) c) (j+1) ((xs++[x]).map nv)∧xs.length=j∧1≤x∧x≤32769∧xs++Je x=Jk t n∧j+x≤40000) ⟨0,(ovN n (Qq t true)),[],_,_,rfl,rfl,hB,Xo (size:=1) (n:=1) n6.blk g6 rfl (by unfold maxLen;decide),rfl,c2,by omega,rfl,by omega⟩ ?_
 rintro _ _ W7 ⟨j,x,xs,p,c,rfl,rfl,a1,ho,a0,c9,c8,b5,hj⟩ J7 b8 r7
 refine xwm 6 ((↑(j+1):Int)-1) (j:Int) ?_
 refine xx 0 _ (j+1) j 1 (Zt (Zf ho) (by simp[a0]) (k:=j) (by omega)).1 ?_
 refine xl 0 (by have:=(Zt (Zf ho) (by simp[a0]) (k:=j) (by omega)).2;rwa [Ro a0] at this) ?_
 refine xid 3 ((x:Int)>(1:Int)) (fun b7=>?_) (fun b7=>?_)
 ·refine xwm 8 ((↑(j+1):Int)-1) (j:Int) ?_
  refine xx 0 _ (j+1) j 1 (Zt (Zf ho) (by simp[a0]) (k:=j) (by omega)).1 ?_
  refine xl 0 (by have:=(Zt (Zf ho) (by simp[a0]) (k:=j) (by omega)).2;rwa [Ro a0] at this) ?_
  refine xr 1 (args:=#[V0 (x:Int),V0 18]) (Bg x 18 _ (by omega) (by decide) (by decide)) fun W9 b3=>?_
  refine xbs 0 1 [V0 (↑(ovN x 18):Int)] 3 fun d0 c5 a5=>?_
  have a2:=bln a1 b3
  have c6:=a5.ge a2
  have a4:=Zb ho b3
  have a7:=Xa a4 a5
  have a8:=Zb a4 a5.below
  have a3:=bln a2 a5.below
  refine xbi 0 fun _ _ _ _ zJ zQ zo zx zy zK=>Xk (m:=1) (news:=[V0 (↑(ovN x 18):Int)]) (V0 0) 1 8 (j+1+1) (((xs++[x])++[ovN x 18]).map nv) zo Tryz.underlying68 (by kernel_rfl) rfl (by decide) zx a8 zy (a5.blk.sl 1 1 (by decide) (by decide)) rfl (by simp[Value.oneCell']) (by unfold maxLen;omega) (by omega) a3.size (by rfl) (by simp[nv]) fun c3 c4 d1 b9 c0 a6=>?_
  refine zK _ _ ?_
  have d2:=Zdw (x:=x) (by omega)
  have a9:=a3.trans a6
  exact ze 3 (b8 _ _ _ ⟨j+1,(ovN x 18),xs++[x],_,_,rfl,rfl,a9,b9,by simp[a0],Xy _ _,by omega,by rw[←b5,Yw (x:=x) (by omega)];simp,by omega⟩ (by omega))
 refine xe 12 (.slice p (j+1) c) ?_
 have e:Jk t n=xs++[x]:=by rw[←b5,Vq (x:=x) (by omega)]
 have el:(Jk t n).length=j+1:=by rw[e];simp[a0]
 exact⟨_,rfl,a1,p,c,by rw[el],by rw[el,e];exact ho⟩
theorem Ei(t:Int)(n:Nat)(w:World)(h1:1≤t)(h2:t≤5)(hn:n≤32768) :
 C0 29 #[V0 t,V0 (n:Int)] w (Ret (V0 (Ka t n:Int)) w):=by
 refine zin 21 Tryz.func29 ?_
 refine xc 15 (args:=#[V0 t,V0 (n:Int)]) (Iw t n _ h1 h2 hn) ?_
 rintro _ W1 ⟨_,rfl,a5,p,c,rfl,ho⟩
 have a2:=Nat.le_refl w.heap.size
 have a1:=Zh ho a2
 refine zl 5 21 (fun zm a4 V=>∃ (k:Nat),a4=[(4,V0 0),(5,V0 (↑((Jk t n).take k).sum:Int)),(10,.slice p ((Jk t n).length) c),(11,V0 (↑((Jk t n).length):Int)),(12,V0 (k:Int))]∧zm=(Jk t n).length-((k:Int)).toNat∧B0 w V∧V.ownsRow w.heap.size 3 1 (.slice p (Jk t n).length c) (Jk t n).length ((Jk t n).map nv)∧k≤(Jk t n).length) ⟨0,rfl,rfl,a5,a1,Nat.zero_le _⟩ ?_
 rintro _ _ W2 ⟨k,rfl,rfl,a0,ho,hk⟩ J2 a3 r2
 have a7:=levL_len t n
 have a2:=nodN_le t n
 unfold Ka at a2
 have a8:=Zey (L:=Jk t n) (k+1)
 have a9:k<(Jk t n).length→((Jk t n).take (k+1)).sum=((Jk t n).take k).sum+(Jk t n).getD k 0:=Rf
 refine xid 6 ((k:Int)<(↑((Jk t n).length):Int)) (fun a6=>?_) (fun a6=>?_)
 ·refine xx 6 _ ((Jk t n).length) k 1 (Zt (Zf ho) rfl (k:=k) (by omega)).1 ?_
  refine xl 0 ((Zt (Zf ho) rfl (k:=k) (by omega)).2) ?_
  refine xwm 6 ((↑((Jk t n).take k).sum:Int)+(↑((Jk t n).getD k 0):Int)) (↑(((Jk t n).take k).sum+((Jk t n).getD k 0)):Int) ?_
  refine xwm 5 ((k:Int)+1) (↑(k+1):Int) ?_
  refine xv1 2 5 (show(V0 (↑(((Jk t n).take k).sum+((Jk t n).getD k 0)):Int):Value)=V0 (↑((Jk t n).take (k+1)).sum:Int) from by rw[Rf (by omega)]) ?_
  exact ze 0 (a3 _ _ _ ⟨k+1,rfl,rfl,a0,ho,by omega⟩ (by omega))
 refine xe 12 (V0 (↑((Jk t n).take k).sum:Int)) ?_
 have e:k=(Jk t n).length:=by omega
 subst e
 rw[List.take_length]
 exact⟨rfl,a0⟩
def Ye(n m i:Nat):Nat:=min m (n-i*m)
theorem Sy{n m i:Nat}(hm:1≤m)(h:i<ovN n m):i*m≤n:=by
 unfold ovN at h
 rcases Nat.eq_zero_or_pos i with rfl|hi
 ·omega
 ·have h1:i+1≤(n+m-1)/m:=by omega
  have h2:=(Nat.le_div_iff_mul_le (by omega)).1 h1
  rw[Nat.add_mul] at h2
  omega
def Rk(n m k:Nat):List Value:=(List.range (ovN n m)).map fun i=>V0 (if i<k then(Ye n m i:Int) else 0)
def sizL(n m:Nat):List Nat:=(List.range (ovN n m)).map (Ye n m)
theorem Zff(n m:Nat):Jv (Value.int .i64 0).cells.toList (ovN n m)=Rk n m 0:=by
 rw[show(Value.int .i64 0).cells.toList=[Value.int .i64 0] from rfl,Jv,Rk]
 simp[List.map_const']
theorem sizK_all(n m:Nat):Rk n m (ovN n m)=(sizL n m).map nv:=by
 unfold Rk sizL nv
 rw[List.map_map]
 apply List.map_congr_left
 intro i hi
 rw[List.mem_range] at hi
 simp[hi]
theorem sizK_set{n m k:Nat}(h:k<ovN n m):(Rk n m k).set k (V0 (Ye n m k:Int))=Rk n m (k+1):=by
 apply List.ext_getElem?
 intro i
 by_cases hi:i<ovN n m
 ·by_cases e:k=i
  ·subst e
   rw[List.getElem?_set_self (by simpa [Rk] using h)]
   simp[Rk,List.getElem?_range h]
  ·rw[List.getElem?_set_ne e]
   simp only[Rk,List.getElem?_map,List.getElem?_range hi,Option.map_some]
   by_cases e2:i<k
   ·simp[e2,show i<k+1 by omega]
   ·simp[e2,show ¬ i<k+1 by omega]
 ·rw[List.getElem?_eq_none (by simp[Rk];omega),List.getElem?_eq_none (by simp[Rk];omega)]
theorem sizL_len(n m:Nat):(sizL n m).length=ovN n m:=by simp[sizL]
theorem Zbl(n m:Nat)(w:World)(hn:n≤32768)(hm:1≤m)(hm2:m≤32768) :
 C0 49 #[V0 (n:Int),V0 (m:Int)] w (Ky (fun w' r=>∃ p c,r=.slice p (ovN n m) c∧w'.ownsRow w.heap.size 3 1 (.slice p (ovN n m) c) (ovN n m) ((sizL n m).map nv)) w):=by
 have a8:=So n m hm
 refine zin 40 Tryz.func49 ?_
 refine xgk 11 [8,9] (show(decide ((n:Int)<(0:Int)):Bool)=false from decide_eq_false (by omega)) ?_
 refine xgk 4 [11,12,13] (show(decide ((n:Int)>(32768:Int)):Bool)=false from decide_eq_false (by omega)) ?_
 refine xk 5 (show(decide ((m:Int)<(1:Int)):Bool)=false from decide_eq_false (by omega)) ?_
 refine xq 5 (congrArg V0 (show(if(32768:Int)<(m:Int) then(32768:Int) else(m:Int):Int)=(m:Int) from if_neg (by omega))) ?_
 refine xr 7 (args:=#[V0 (n:Int),V0 (m:Int)]) (Bg n m _ (by omega) hm (by omega)) fun W3 a2=>?_
 refine xmk 0 fun _ _ _ _ zJ zQ zo zx zy zK=>Hf (ovN n m) (V0 0) 1 8 (Rk n m 0) zo zx zy Tryz.underlying68 (by kernel_rfl) rfl (by omega) (by omega) (Zff n m) fun b4 W4 n4=>?_
 refine zK _ _ ?_
 have hB:=bln a2 n4.below
 refine zl 12 40 (fun zm a4 V=>∃ (k:Nat),a4=[(0,V0 (n:Int)),(1,V0 (m:Int)),(4,S0),(5,.slice (S1 b4) (ovN n m) (ovN n m)),(24,V0 (↑(ovN n m):Int)),(25,V0 (k:Int))]∧zm=ovN n m-((k:Int)).toNat∧B0 w V∧Blk V b4 (Rk n m k) 3∧k≤ovN n m) ⟨0,rfl,rfl,hB,n4.blk,Nat.zero_le _⟩ ?_
 rintro _ _ W5 ⟨k,rfl,rfl,a1,a0,hk⟩ J5 a5 r5
 have a7:k<ovN n m→k*m≤n:=Sy hm
 refine xid 6 ((k:Int)<(↑(ovN n m):Int)) (fun a6=>?_) (fun a6=>?_)
 ·refine xwm 17 ((k:Int)*(m:Int)) (↑(k*m):Int) ?_
  refine xwm 0 ((n:Int)-(↑(k*m):Int)) (↑(n-(k*m)):Int) ?_
  refine xxb 1 b4 0 (ovN n m) k 1 ?_
  refine xsg 0 a0 (0+k*1) (V0 (if(↑(n-(k*m)):Int)<(m:Int) then(↑(n-(k*m)):Int) else(m:Int))) (by simp[Rk];omega) fun W7 u7 k7=>?_
  replace k7:Blk W7 b4 (Rk n m (k+1)) 3:=by rw[←(show(Rk n m k).set (0+k*1) (V0 (if(↑(n-(k*m)):Int)<(m:Int) then(↑(n-(k*m)):Int) else(m:Int)))=Rk n m (k+1) from by rw[show 0+k*1=k by omega,show(if(↑(n-(k*m)):Int)<(m:Int) then(↑(n-(k*m)):Int) else(m:Int))=(↑(Ye n m k):Int) from Oy m (n-k*m)];exact sizK_set (by omega))];exact k7
  have g4:=n4.ge a2
  refine xwm 4 ((k:Int)+1) (↑(k+1):Int) ?_
  have a3:=u7.below a1 g4
  exact ze 2 (a5 _ _ _ ⟨k+1,rfl,rfl,a3,k7,by omega⟩ (by omega))
 have g4:=n4.ge a2
 refine xe 12 (.slice (S1 b4) (ovN n m) (ovN n m)) ?_
 have e:k=ovN n m:=by omega
 subst e
 have ho:=Xo (size:=1) (n:=ovN n m) a0 g4 (by simp[Rk]) (by unfold maxLen;omega)
 rw[sizK_all] at ho
 exact⟨_,rfl,a1,_,_,rfl,ho⟩
def Xb(l:Bl):Nat→Nat→Nat
 | _,0=>0
 | k,w+1=>(l.getD k 0).toNat+256*Xb l (k+1) w
theorem Ff(l:Bl):∀ (w k:Nat),Xb l k w<256 ^ w
 | 0,k=>by simp[Xb]
 | w+1,k=>by
  have:=Ff l w (k+1)
  have h:=(l.getD k 0).toNat_lt
  rw[Xb,Nat.pow_succ];omega
theorem Ov(l:Bl)(k w:Nat)(hw:w≤7):Xb l k w<72057594037927936:=Nat.lt_of_lt_of_le (Ff l w k) (by rw[show(72057594037927936:Nat)=256 ^ 7 from rfl];exact Nat.pow_le_pow_right (by decide) hw)
theorem Ku(l:Bl)(k w:Nat)(hw:w≤4):Xb l k w<4294967296:=Nat.lt_of_lt_of_le (Ff l w k) (by rw[show(4294967296:Nat)=256 ^ 4 from rfl];exact Nat.pow_le_pow_right (by decide) hw)
theorem Ow{n b:Nat}(hn:n<72057594037927936)(hb:b<256):IntKind.u64.wrap (↑(BitVec.ofInt 64 (IntKind.u64.wrap ((n:Int)*2 ^ 8)) ||| BitVec.ofInt 64 (b:Int)).toNat:Int)=((b+256*n:Nat):Int):=by
 have h1:IntKind.u64.wrap ((n:Int)*2 ^ 8)=((n*2 ^ 8:Nat):Int):=by
  rw[show(n:Int)*2 ^ 8=((n*2 ^ 8:Nat):Int) by omega];exact IntWalk.u64_in _ (by constructor<;>omega)
 rw[h1,BitVec.ofInt_natCast,BitVec.ofInt_natCast,BitVec.toNat_or,BitVec.toNat_ofNat,BitVec.toNat_ofNat,Nat.mod_eq_of_lt (by omega),Nat.mod_eq_of_lt (by omega)]
 rw[←Nat.shiftLeft_eq,←Nat.shiftLeft_add_eq_or_of_lt (by exact hb:b<2 ^ 8),Nat.shiftLeft_eq,IntWalk.u64_in _ (by constructor<;>omega)]
 congr 1;omega
theorem Zhb{n:Nat}(h:n<18446744073709551616):IntKind.u64.wrap (n:Int)=(n:Int):=IntWalk.u64_in _ (by constructor<;>omega)
theorem Zav(a:O0)(m c k w:Nat)(hw:w=1∨w=2∨w=4∨w=8)(hk:k+w≤m)(hm:m≤100000000)(W:World) :
 C0 110 #[.slice a m c,V0 (k:Int),V0 (w:Int)] W (Ret (V0 0) W):=by
 rcases hw with rfl|rfl|rfl|rfl
 ·exact there_1 a m c k hk hm W
 ·exact Zfg a m c k hk hm W
 ·exact Zes a m c k hk hm W
 ·exact there_8 a m c k hk hm W
theorem Zge(a:O0)(c k w:Nat)(l:Bl)(W:World)(hw:w=1∨w=2∨w=4∨w=8)(hk:k+w≤l.length)(hl:l.length≤100000000)(h:Bys W (.slice a l.length c) l)(hq:Xb l k w<9223372036854775808) :
 C0 85 #[.slice a l.length c,V0 (k:Int),V0 (w:Int)] W (Ret (.tuple #[V0 (Xb l k w:Int),V0 0]) W):=by
 refine zin 38 Tryz.func85 ?_
 refine xr 12 (args:=#[.slice a l.length c,V0 (k:Int),V0 (w:Int)]) (Zav a l.length c k w hw hk hl _) fun W1 a3=>?_
 refine xw 21 ((w:Int)-1) ?_
 refine zl 4 38 (fun zm a2 V=>∃ (j r:Nat),a2=[(0,.slice a l.length c),(1,V0 (k:Int)),(6,V0 0),(7,V0 0),(9,.int .u64 (↑(Xb l (k+j) r):Int)),(10,V0 ((j:Int)-1))]∧zm=(((j:Int)-1)+1).toNat∧B0 W V∧j+r=w) ⟨w,0,rfl,rfl,a3,by omega⟩ ?_
 rintro _ _ W2 ⟨j,r,rfl,rfl,a0,a5⟩ J2 a1 r2
 refine xid 7 ((j:Int)-1≥(0:Int)) (fun a4=>?_) (fun a4=>?_)
 ·refine xq 10 (congrArg V0 (show IntKind.i64.wrap ((k:Int)+((j:Int)-1))=(↑(k+(j-1)):Int) from(show IntKind.i64.wrap ((k:Int)+((j:Int)-1))=((k:Int)+((j:Int)-1)) from by first|exact IntWalk.i64_in _ (by omega)|(simp only[IntKind.wrap];omega)).trans (by omega))) ?_
  refine xx 0 _ l.length (k+(j-1)) 1 (Bys.elem h (k:=(k+(j-1))) (by omega)).1 ?_
  refine xl 0 ((Bys.elem (h.below a0) (k:=(k+(j-1))) (by omega)).2) ?_
  refine xq 0 (congrArg (Value.int .u64) (show(IntKind.u64.wrap (↑(l.getD (k+(j-1)) 0).toNat:Int):Int)=(↑(l.getD (k+(j-1)) 0).toNat:Int) from Zhb (by have:=(l.getD (k+(j-1)) 0).toNat_lt;omega))) ?_
  refine xq 0 (congrArg (Value.int .u64) (show(IntKind.u64.wrap (↑(BitVec.ofInt 64 (IntKind.u64.wrap ((↑(Xb l (k+j) r):Int)*2 ^ 8)) ||| BitVec.ofInt 64 (↑(l.getD (k+(j-1)) 0).toNat:Int)).toNat:Int):Int)=(↑(Xb l (k+(j-1)) (r+1)):Int) from(Ow (Ov l (k+j) r (by omega)) (l.getD (k+(j-1)) 0).toNat_lt).trans (congrArg (fun x:Nat=>(x:Int)) (by rw[Xb,show k+(j-1)+1=k+j by omega])))) ?_
  refine xq 6 (congrArg V0 (show IntKind.i64.wrap ((j:Int)-1-1)=((↑(j-1:Nat):Int)-1) from(show IntKind.i64.wrap ((j:Int)-1-1)=((j:Int)-1-1) from by first|exact IntWalk.i64_in _ (by omega)|(simp only[IntKind.wrap];omega)).trans (by omega))) ?_
  exact ze 2 (a1 _ _ _ ⟨j-1,r+1,rfl,rfl,a0,by omega⟩ (by omega))
 refine xk 12 (show(decide ((↑(Xb l (k+j) r):Int)≥(9223372036854775808:Int)):Bool)=false from by rw[(show Xb l (k+j) r=Xb l k w from by rw[show j=0 by omega,show r=w by omega];rfl)];exact decide_eq_false (by omega)) ?_
 refine xq 5 (congrArg V0 (show(IntKind.i64.wrap (↑(Xb l (k+j) r):Int):Int)=(↑(Xb l k w):Int) from by rw[(show Xb l (k+j) r=Xb l k w from by rw[show j=0 by omega,show r=w by omega];rfl)];exact Ce hq)) ?_
 exact xe 5 (.tuple #[V0 (↑(Xb l k w):Int),V0 0]) ⟨rfl,a0⟩
theorem Zg8(a:O0)(c k w:Nat)(l:Bl)(W:World)(hw:w=1∨w=2∨w=4∨w=8)(hk:k+w≤l.length)(hl:l.length≤100000000)(h:Bys W (.slice a l.length c) l)(hq:¬ Xb l k w<9223372036854775808) :
 C0 85 #[.slice a l.length c,V0 (k:Int),V0 (w:Int)] W (Ret (.tuple #[V0 0,V0 2]) W):=by
 refine zin 38 Tryz.func85 ?_
 refine xr 12 (args:=#[.slice a l.length c,V0 (k:Int),V0 (w:Int)]) (Zav a l.length c k w hw hk hl _) fun W1 a3=>?_
 refine xw 21 ((w:Int)-1) ?_
 refine zl 4 38 (fun zm a2 V=>∃ (j r:Nat),a2=[(0,.slice a l.length c),(1,V0 (k:Int)),(6,V0 0),(7,V0 0),(9,.int .u64 (↑(Xb l (k+j) r):Int)),(10,V0 ((j:Int)-1))]∧zm=(((j:Int)-1)+1).toNat∧B0 W V∧j+r=w) ⟨w,0,rfl,rfl,a3,by omega⟩ ?_
 rintro _ _ W2 ⟨j,r,rfl,rfl,a0,a5⟩ J2 a1 r2
 refine xid 7 ((j:Int)-1≥(0:Int)) (fun a4=>?_) (fun a4=>?_)
 ·refine xq 10 (congrArg V0 (show IntKind.i64.wrap ((k:Int)+((j:Int)-1))=(↑(k+(j-1)):Int) from(show IntKind.i64.wrap ((k:Int)+((j:Int)-1))=((k:Int)+((j:Int)-1)) from by first|exact IntWalk.i64_in _ (by omega)|(simp only[IntKind.wrap];omega)).trans (by omega))) ?_
  refine xx 0 _ l.length (k+(j-1)) 1 (Bys.elem h (k:=(k+(j-1))) (by omega)).1 ?_
  refine xl 0 ((Bys.elem (h.below a0) (k:=(k+(j-1))) (by omega)).2) ?_
  refine xq 0 (congrArg (Value.int .u64) (show(IntKind.u64.wrap (↑(l.getD (k+(j-1)) 0).toNat:Int):Int)=(↑(l.getD (k+(j-1)) 0).toNat:Int) from Zhb (by have:=(l.getD (k+(j-1)) 0).toNat_lt;omega))) ?_
  refine xq 0 (congrArg (Value.int .u64) (show(IntKind.u64.wrap (↑(BitVec.ofInt 64 (IntKind.u64.wrap ((↑(Xb l (k+j) r):Int)*2 ^ 8)) ||| BitVec.ofInt 64 (↑(l.getD (k+(j-1)) 0).toNat:Int)).toNat:Int):Int)=(↑(Xb l (k+(j-1)) (r+1)):Int) from(Ow (Ov l (k+j) r (by omega)) (l.getD (k+(j-1)) 0).toNat_lt).trans (congrArg (fun x:Nat=>(x:Int)) (by rw[Xb,show k+(j-1)+1=k+j by omega])))) ?_
  refine xq 6 (congrArg V0 (show IntKind.i64.wrap ((j:Int)-1-1)=((↑(j-1:Nat):Int)-1) from(show IntKind.i64.wrap ((j:Int)-1-1)=((j:Int)-1-1) from by first|exact IntWalk.i64_in _ (by omega)|(simp only[IntKind.wrap];omega)).trans (by omega))) ?_
  exact ze 2 (a1 _ _ _ ⟨j-1,r+1,rfl,rfl,a0,by omega⟩ (by omega))
 refine xk 12 (show(decide ((↑(Xb l (k+j) r):Int)≥(9223372036854775808:Int)):Bool)=true from by rw[(show Xb l (k+j) r=Xb l k w from by rw[show j=0 by omega,show r=w by omega];rfl)];exact decide_eq_true (by omega)) ?_
 exact xe 8 (.tuple #[V0 0,V0 2]) ⟨rfl,a0⟩
def Gh(l:Bl):Nat→List Nat→List Nat
 | _,[]=>[]
 | k,w::r=>Xb l k w::Gh l (k+w) r
theorem Ew(l:Bl):∀ (ws:List Nat) (k:Nat),(Gh l k ws).length=ws.length
 | [],k=>rfl
 | w::r,k=>by simp[Gh,Ew l r]
theorem Wt(l:Bl)(w:Nat):∀ (ws:List Nat) (k:Nat),Gh l k (ws++[w])=Gh l k ws++[Xb l (k+ws.sum) w]
 | [],k=>by simp[Gh]
 | x::r,k=>by simp[Gh,Wt l w r,Nat.add_assoc]
theorem Fp(l:Bl):∀ (ws:List Nat) (k i:Nat),i<ws.length→(Gh l k ws).getD i 0=Xb l (k+(ws.take i).sum) (ws.getD i 0)
 | [],k,i,h=>by simp at h
 | w::r,k,0,h=>by simp[Gh]
 | w::r,k,i+1,h=>by
  have:=Fp l r (k+w) i (by simpa using h)
  simp only[List.getD_eq_getElem?_getD] at this ⊢
  simp[Gh,this,Nat.add_assoc]
theorem Ww{ws:List Nat}{i:Nat}(h:i<ws.length):ws.take (i+1)=ws.take i++[ws.getD i 0]:=by
 rw[List.take_succ_eq_append_getElem h];simp[List.getD,h]
theorem Bu{ws:List Nat}{i:Nat}(h:i<ws.length):(ws.take i).sum+ws.getD i 0≤ws.sum:=by
 have h1:=Rf h;have h2:=Zey (L:=ws) (i+1);omega
def getV(l:Bl)(k w:Nat):Int:=if Xb l k w<9223372036854775808 then(Xb l k w:Int) else 0
def Zev(l:Bl)(k w:Nat):Int:=if Xb l k w<9223372036854775808 then 0 else 2
theorem Zgb{l:Bl}{k w:Nat}(h:Zev l k w=0):Xb l k w<9223372036854775808:=by unfold Zev at h;split at h;assumption;cases h
theorem getE_two{l:Bl}{k w:Nat}(h:Zev l k w≠0):¬ Xb l k w<9223372036854775808∧Zev l k w=2:=by unfold Zev at h ⊢;split at h;exact absurd rfl h;rename_i h2;exact⟨h2,if_neg h2⟩
theorem Zd0{l:Bl}{k w:Nat}(h:Xb l k w<9223372036854775808):Zev l k w=0:=if_pos h
theorem Ib{l:Bl}{k w:Nat}(h:Xb l k w<9223372036854775808):getV l k w=(Xb l k w:Int):=if_pos h
theorem Zf8(a:O0)(c k w:Nat)(l:Bl)(W:World)(hw:w=1∨w=2∨w=4∨w=8)(hk:k+w≤l.length)(hl:l.length≤100000000)(h:Bys W (.slice a l.length c) l) :
 C0 85 #[.slice a l.length c,V0 (k:Int),V0 (w:Int)] W (Ret (.tuple #[V0 (getV l k w),V0 (Zev l k w)]) W):=by
 by_cases hq:Xb l k w<9223372036854775808
 ·rw[Ib hq,Zd0 hq];exact Zge a c k w l W hw hk hl h hq
 ·rw[getV,Zev,if_neg hq,if_neg hq];exact Zg8 a c k w l W hw hk hl h hq
theorem Sm(a:O0)(c:Nat)(l:Bl)(aw:O0)(cw:Nat)(ws:List Nat)(W:World)(hk:∀ i,i<ws.length→ws.getD i 0=1∨ws.getD i 0=2∨ws.getD i 0=4∨ws.getD i 0=8)(hs:ws.sum≤l.length)(hl:l.length≤100000000)(hw:ws.length≤1000)(h:Bys W (.slice a l.length c) l)(hws:Sl W (.slice aw ws.length cw) ws.length (ws.map nv))(hq:∀ i,i<ws.length→(Gh l 0 ws).getD i 0<9223372036854775808) :
 C0 97 #[.slice a l.length c,.slice aw ws.length cw] W (Ky (fun w' r=>∃ p c,r=.tuple #[.slice p ws.length c,V0 0]∧w'.ownsRow W.heap.size 3 1 (.slice p ws.length c) ws.length ((Gh l 0 ws).map nv)) W):=by
 refine zin 37 Tryz.func97 ?_
 have hB:=Below.refl W.heap.size W
 refine zl 25 37 (fun zm a9 V=>∃ (i:Nat) (p:O0) (c2:Nat),a9=[(0,.slice a l.length c),(6,.slice p i c2),(7,V0 (↑(ws.take i).sum:Int)),(12,.slice aw ws.length cw),(13,V0 (ws.length:Int)),(14,V0 (i:Int))]∧zm=ws.length-((i:Int)).toNat∧B0 W V∧V.ownsRow W.heap.size 3 1 (.slice p i c2) i ((Gh l 0 (ws.take i)).map nv)∧i≤ws.length) ⟨0,_,_,rfl,rfl,hB,World.ownsRow_nil _ _ _ _,Nat.zero_le _⟩ ?_
 rintro _ _ W1 ⟨i,p,c2,rfl,rfl,a0,ho,hi⟩ J1 b0 r1
 have b3:i<ws.length→(ws.take i).sum+ws.getD i 0≤ws.sum:=Bu
 have a7:i<ws.length→(Gh l 0 ws).getD i 0=Xb l (ws.take i).sum (ws.getD i 0):=fun h=>by rw[Fp l ws 0 i h,Nat.zero_add]
 refine xid 6 ((i:Int)<(ws.length:Int)) (fun b1=>?_) (fun b1=>?_)
 ·refine xx 6 _ ws.length i 1 (Zt hws rfl (k:=i) (by omega)).1 ?_
  refine xl 0 ((Zt (hws.below a0) rfl (k:=i) (by omega)).2) ?_
  refine xr 8 (args:=#[.slice a l.length c,V0 (↑(ws.take i).sum:Int),V0 (↑(ws.getD i 0):Int)]) (Zf8 a c (ws.take i).sum (ws.getD i 0) l _ (hk i (by omega)) (by omega) hl (h.below a0)) fun W3 a6=>?_
  refine xk 14 (show(((Zev l (ws.take i).sum (ws.getD i 0)) != (0:Int)):Bool)=false from by rw[Zd0 (by rw[←a7 (by omega)];exact hq i (by omega))];rfl) ?_
  refine xbs 6 1 [V0 (getV l (ws.take i).sum (ws.getD i 0))] 3 fun b4 W4 n4=>?_
  have a3:=bln a0 a6
  have g4:=n4.ge a3
  have a1:=Zb ho a6
  have a8:=Xa a1 n4
  have a4:=Zb a1 n4.below
  have a2:=bln a3 n4.below
  refine xbi 0 fun _ _ _ _ zJ zQ zo zx zy zK=>Xk (m:=1) (news:=[V0 (getV l (ws.take i).sum (ws.getD i 0))]) (V0 0) 1 8 (i+1) ((Gh l 0 (ws.take (i+1))).map nv) zo Tryz.underlying68 (by kernel_rfl) rfl (by decide) zx a4 zy (n4.blk.sl 1 1 (by decide) (by decide)) rfl (by simp[Value.oneCell']) (by unfold maxLen;omega) (by omega) a2.size (by rfl) (by rw[Ww (by omega),Wt,Nat.zero_add,List.map_append];simp only[List.map_cons,List.map_nil,nv];rw[Ib (by rw[←a7 (by omega)];exact hq i (by omega))]) fun b5 b7 W5 o5 b6 b2=>?_
  refine zK _ _ ?_
  refine xwm 6 ((↑(ws.take i).sum:Int)+(↑(ws.getD i 0):Int)) (↑((ws.take i).sum+(ws.getD i 0)):Int) ?_
  refine xwm 5 ((i:Int)+1) (↑(i+1):Int) ?_
  refine xv1 2 7 (show(V0 (↑((ws.take i).sum+(ws.getD i 0)):Int):Value)=V0 (↑(ws.take (i+1)).sum:Int) from by rw[Ww (by omega),List.sum_append];simp) ?_
  have a5:=a2.trans b2
  exact ze 0 (b0 _ _ _ ⟨i+1,_,_,rfl,rfl,a5,o5,by omega⟩ (by omega))
 refine xe 13 (.tuple #[.slice p i c2,V0 0]) ?_
 obtain rfl:i=ws.length:=by omega
 rw[List.take_length] at ho
 exact⟨_,rfl,a0,_,_,rfl,ho⟩
theorem Zc5(a:O0)(c:Nat)(l:Bl)(aw:O0)(cw:Nat)(ws:List Nat)(W:World)(hk:∀ i,i<ws.length→ws.getD i 0=1∨ws.getD i 0=2∨ws.getD i 0=4∨ws.getD i 0=8)(hs:ws.sum≤l.length)(hl:l.length≤100000000)(hw:ws.length≤1000)(h:Bys W (.slice a l.length c) l)(hws:Sl W (.slice aw ws.length cw) ws.length (ws.map nv))(hq:¬ ∀ i,i<ws.length→(Gh l 0 ws).getD i 0<9223372036854775808) :
 C0 97 #[.slice a l.length c,.slice aw ws.length cw] W (Ret (.tuple #[S0,V0 2]) W):=by
 refine zin 37 Tryz.func97 ?_
 have hB:=Below.refl W.heap.size W
 refine zl 25 37 (fun zm b6 V=>∃ (i:Nat) (p:O0) (c2:Nat),b6=[(0,.slice a l.length c),(6,.slice p i c2),(7,V0 (↑(ws.take i).sum:Int)),(12,.slice aw ws.length cw),(13,V0 (ws.length:Int)),(14,V0 (i:Int))]∧zm=ws.length-((i:Int)).toNat∧B0 W V∧V.ownsRow W.heap.size 3 1 (.slice p i c2) i ((Gh l 0 (ws.take i)).map nv)∧i≤ws.length∧(∀ j,j<i→(Gh l 0 ws).getD j 0<9223372036854775808)) ⟨0,_,_,rfl,rfl,hB,World.ownsRow_nil _ _ _ _,Nat.zero_le _,?_⟩ ?_
 ·exact fun j hj=>absurd hj (by omega)
 rintro _ _ W1 ⟨i,p,c2,rfl,rfl,a0,ho,hi,a1⟩ J1 b7 r1
 have c0:i<ws.length→(ws.take i).sum+ws.getD i 0≤ws.sum:=Bu
 have b3:i<ws.length→(Gh l 0 ws).getD i 0=Xb l (ws.take i).sum (ws.getD i 0):=fun h=>by rw[Fp l ws 0 i h,Nat.zero_add]
 refine xid 6 ((i:Int)<(ws.length:Int)) (fun b4=>?_) (fun b4=>?_)
 ·refine xx 6 _ ws.length i 1 (Zt hws rfl (k:=i) (by omega)).1 ?_
  refine xl 0 ((Zt (hws.below a0) rfl (k:=i) (by omega)).2) ?_
  refine xr 8 (args:=#[.slice a l.length c,V0 (↑(ws.take i).sum:Int),V0 (↑(ws.getD i 0):Int)]) (Zf8 a c (ws.take i).sum (ws.getD i 0) l _ (hk i (by omega)) (by omega) hl (h.below a0)) fun W3 a7=>?_
  refine xin 14 (Zev l (ws.take i).sum (ws.getD i 0)) (0:Int) (fun a9=>?_) (fun a9=>?_)
  ·have a5:=getE_two a9
   have a6:=bln a0 a7
   refine xe 14 (.tuple #[S0,V0 (Zev l (ws.take i).sum (ws.getD i 0))]) ?_
   rw[a5.2];exact⟨rfl,a6⟩
  have a5:=Zgb a9
  refine xbs 6 1 [V0 (getV l (ws.take i).sum (ws.getD i 0))] 3 fun b5 W5 n5=>?_
  have a2:=bln a0 a7
  have g5:=n5.ge a2
  have a3:=Zb ho a7
  have b1:=Xa a3 n5
  have b0:=Zb a3 n5.below
  have a4:=bln a2 n5.below
  refine xbi 0 fun _ _ _ _ zJ zQ zo zx zy zK=>Xk (m:=1) (news:=[V0 (getV l (ws.take i).sum (ws.getD i 0))]) (V0 0) 1 8 (i+1) ((Gh l 0 (ws.take (i+1))).map nv) zo Tryz.underlying68 (by kernel_rfl) rfl (by decide) zx b0 zy (n5.blk.sl 1 1 (by decide) (by decide)) rfl (by simp[Value.oneCell']) (by unfold maxLen;omega) (by omega) a4.size (by rfl) (by rw[Ww (by omega),Wt,Nat.zero_add,List.map_append];simp only[List.map_cons,List.map_nil,nv];rw[Ib a5]) fun c1 b9 W6 o6 b8 b2=>?_
  refine zK _ _ ?_
  refine xwm 6 ((↑(ws.take i).sum:Int)+(↑(ws.getD i 0):Int)) (↑((ws.take i).sum+(ws.getD i 0)):Int) ?_
  refine xwm 5 ((i:Int)+1) (↑(i+1):Int) ?_
  refine xv1 2 7 (show(V0 (↑((ws.take i).sum+(ws.getD i 0)):Int):Value)=V0 (↑(ws.take (i+1)).sum:Int) from by rw[Ww (by omega),List.sum_append];simp) ?_
  have a8:=a4.trans b2
  exact ze 0 (b7 _ _ _ ⟨i+1,_,_,rfl,rfl,a8,o6,by omega,fun j hj=>(Nat.lt_or_ge j i).elim (fun q=>a1 j q) (fun q=>by obtain rfl:j=i:=(by omega);rw[b3 (by omega)];exact a5)⟩ (by omega))
 refine xe 13 (.tuple #[.slice p i c2,V0 0]) ?_
 exact absurd (fun j hj=>a1 j (by omega)) hq
end Go.Proofs.YtgphgaehfdfjjaaGreat
namespace Go.Proofs.YtgphgaehfdfjjaaGreat
set_option maxHeartbeats 8000000
set_option maxRecDepth 100000
open Go.RowKit
set_option linter.unusedVariables false
theorem Zf1(bs:ByteArray)(i:Nat)(r:Bl):ByteArray.toList.loop bs i r=r.reverse++bs.data.toList.drop i:=by
 have hs:bs.data.toList.length=bs.size:=by rw[Array.length_toList];rfl
 rw[ByteArray.toList.loop]
 split
 ·rename_i h
  have h':i<bs.data.toList.length:=by omega
  rw[Zf1 bs (i+1) _,List.drop_eq_getElem_cons h']
  have e:bs.get! i=bs.data.toList[i]:=by
   have h2:i<bs.data.size:=by rw[←Array.length_toList];exact h'
   show bs.data[i]! = _
   rw[getElem!_pos bs.data i h2];simp
  rw[e];simp
 ·rename_i h
  rw[List.drop_eq_nil_of_le (by omega)];simp
termination_by bs.size-i
theorem Ol(a:Bl):(⟨a.toArray⟩:ByteArray).toList=a:=by
 unfold ByteArray.toList;rw[Zf1];simp
theorem str_beq(a b:Bl):((⟨a.toArray⟩:ByteArray).toList==(⟨b.toArray⟩:ByteArray).toList)=(a==b):=by rw[Ol,Ol]
theorem Te{b:Bool}(h:(!b)=true):b=false:=by simpa using h
theorem Rp{b:Bool}(h:(!b)=false):b=true:=by simpa using h
end Go.Proofs.YtgphgaehfdfjjaaGreat
namespace Go.Proofs.YtgphgaehfdfjjaaGreat
set_option maxHeartbeats 8000000
set_option maxRecDepth 100000
open Go.RowKit Go.Extern.Stop Go.Stop Go.Extern
set_option linter.unusedVariables false
attribute [local irreducible] wpList wpAnyH Code.wp Oper.wp Go
theorem tmod_bd(x:Int){m:Nat}(hm:0<m) : -(m:Int)<Int.tmod x m∧Int.tmod x m<m:=by
 have h1:=Int.tmod_lt_of_pos x (b:=(m:Int)) (by omega)
 have h2:=Int.tmod_lt_of_pos (-x) (b:=(m:Int)) (by omega)
 rw[Int.neg_tmod] at h2
 omega
theorem Zhc{P:Program}{a:Act}{o:Oper}{t:TypeId}{x y:Operand}{t2:TypeId}{p q r:Int}{k:IntKind}(ho:o.op=.binOp .rem t x y t2)(hx:a.eval x=.int k p)(hy:a.eval y=.int k q)(hq:q≠0)(hr:Int.tmod p q=r)(w:World) :
 (execOp a.eval o).run P w=.ok (.value (.int k r)) w:=by
 subst hr
 have hb:(binOp .rem t (.int k p) (.int k q)).run P w=.ok (.int k (p.tmod q)) w:=by
  simp[binOp,Op.intDiv,hq]
 have hg:(eqGuard .rem t x y (.int k p) (.int k q)).run P w=.ok () w:=rfl
 simp only[execOp,ho,hx,hy,Sem.run_bind,hg,Result.andThen_ok,hb]
 rfl
theorem Lb{P:Program}{a:Act}{o:Oper}{src dst e:TypeId}{x:Operand}{b:O0}{n c:Nat}{l:Bl}{w:World}(ho:o.op=.convert src dst x)(hx:a.eval x=.slice b n c)(h:Bys w (.slice b n c) l)(hl:l.length=n)
 (hs:P.underlying src=some (.slice e)) (he:P.underlying e=some (.int .u8)) (hd:P.underlying dst=some .string):(execOp a.eval o).run P w=.ok (.value (.string ⟨l.toArray⟩)) w:=by
 have hr:(convert src dst (.slice b n c)).run P w=.ok (.string ⟨l.toArray⟩) w:=by
  subst hl
  rcases Sl.at h with hn|⟨g,a0,rfl,hc⟩
  ·obtain rfl:l=[]:=by simpa using hn
   cases b with
   | none=>rw[run_convert_bytes_string w src dst e none _ c hs he hd];rfl
   | some p=>exact run_convert_bytes_back w src dst e p c [] hs he hd (fun j hj=>by simp at hj)
  ·exact run_convert_bytes_back w src dst e _ c l hs he hd (fun j hj=>by rw[Addr.add_mid];exact hc j _ (by simp[List.getElem?_eq_getElem hj,bv]))
 simp only[execOp,ho,hx,Sem.run_bind,hr];rfl
theorem Al.below{B ba b g n c:Nat}{pa:O0}{ca f N k:Nat}{l:Bl}{w W:World}(h:Al B ba b g n c pa ca f N k l w)(hb:B0 w W):Al B ba b g n c pa ca f N k l W:=⟨h.blkA.below hb,h.blkI.below hb,Zb h.data hb,Zb h.nums hb⟩
theorem Lm{w:World}{base n c size:Nat}{e:TypeId}{p:O0}{xs:List Value}(h:w.ownsRow base e size (.slice p n c) n xs)(hn:0<n):∃ g,p=some ⟨g,0,none⟩∧n≤c:=by
 rcases h.2 with ⟨_,h0⟩|⟨g,a1,a0,hv,_,_,hc,_⟩
 ·omega
 ·simp only[Value.slice.injEq] at hv;exact⟨g,hv.1,by omega⟩
theorem Bys.cap{w:World}{a:O0}{n c:Nat}{l:Bl}(h:Bys w (.slice a n c) l)(hl:l.length=n):n≤c:=by
 rcases h with ⟨a',c',h1,h2,_⟩|⟨b,a0,cap,h1,h2,_,_⟩
 ·omega
 ·simp only[Value.slice.injEq] at h1;omega
theorem Si(a:O0)(c n m:Nat)(l:Bl)(w:World)(hn:l.length=n)(hm:min (n/256) 14400*256=m)(h:Bys w (.slice a n c) l)(hl:n≤100000000)(hc:n≤c) :
 C0 9 #[.slice a n c] w (Ky (fun w' r=>∃ b p c,r=P0 b∧w.heap.size≤b∧Blk w' b [.slice p m c] 75∧w'.ownsRow w.heap.size 5 1 (.slice p m c) m ((l.take m).map bv)) w):=by
 subst hn hm;exact image_Of a c l w h hl hc
theorem En(b:Nat)(p0:O0)(n c f N:Nat)(fi:Int)(hfi:fi=(f:Int))(hN:n/256-f=N)(w:World)(hk:Blk w b [.slice p0 n c] 75)(hn:n≤3686400)(h1:1≤f)(h2:f≤n/256) :
 C0 8 #[P0 b,V0 fi] w (Ky (fun w' r=>∃ ba p c2,r=.tuple #[P0 ba,.nilIface]∧w.heap.size≤ba∧Blk w' ba [.slice p N c2,V0 0,P0 b] 72∧w'.ownsRow w.heap.size 3 1 (.slice p N c2) N ((Zdl f N).map V0)) w):=by
 subst hfi hN;exact Zen b p0 n c f w hk hn h1 h2
end Go.Proofs.YtgphgaehfdfjjaaGreat
namespace Go.Proofs.YtgphgaehfdfjjaaGreat
set_option maxHeartbeats 8000000
set_option maxRecDepth 100000
open Go.RowKit Go.Extern.Stop Go.Stop Go.Extern
set_option linter.unusedVariables false
attribute [local irreducible] wpList wpAnyH Code.wp Oper.wp Go
section
variable {P:Program} {a:Act}
theorem Uf{o:Oper}{t e:TypeId}{x y y2:Operand}{b:O0}{n k h c:Nat}{i j:Int}{ki kj:IntKind}(size:Nat)(ho:o.op=.slice t x (some y) (some y2) none)(hx:a.eval x=.slice b n c)(hy:a.eval y=.int ki i)(hi:i=(k:Int))(hy2:a.eval y2=.int kj j)(hj:j=(h:Int))(hk:k≤h)(hc:h≤c)
 (ht:P.underlying t=some (.slice e)) (hs:(P.info? e).map (·.size)=some size) (w:World):(execOp a.eval o).run P w=.ok (.value (.slice (Pt b k c size) (h-k) (c-k))) w:=by
 cases hq:P.info? e with
 | none=>simp[hq] at hs
 | some q =>
  have a0:q.size=size:=by simpa [hq] using hs
  subst hi hj
  have h1:(0:Int)≤(k:Int):=by omega
  have h2:(0:Int)≤(h:Int):=by omega
  have h3:(k:Int)≤(h:Int):=by omega
  have h4:(h:Int)≤(c:Int):=by omega
  by_cases h5:c=k
  ·simp_all [execOp,Instr.sliceAt,Instr.slice,Instr.sliceBounds,Instr.sliceBound,asIntOf,run_underlying ht,sizeOf,typeInfo,Pt]
  ·simp_all [execOp,Instr.sliceAt,Instr.slice,Instr.sliceBounds,Instr.sliceBound,asIntOf,run_underlying ht,sizeOf,typeInfo,Pt]
end
theorem Bys.cut{w:World}{b:O0}{n c:Nat}{l:Bl}(h:Bys w (.slice b n c) l)(hl:l.length=n)(k m:Nat)(hk:k≤m)(hm:m≤n):Bys w (.slice (Pt b k c 1) (m-k) (c-k)) ((l.drop k).take (m-k)):=by
 have a0:((l.drop k).take (m-k)).length=m-k:=by simp;omega
 have a2:=Bys.cap h hl
 rcases h with ⟨a',c',h1,h2,h3⟩|⟨g,a1,a3,h1,h2,h3,h4⟩
 ·obtain rfl:k=0:=by omega
  obtain rfl:m=0:=by omega
  refine .inl ⟨Pt b 0 c 1,c-0,?_,by simp,by simp⟩
  simp
 ·simp only[Value.slice.injEq] at h1
  obtain⟨rfl,_,rfl⟩:=h1
  by_cases hz:m-k=0
  ·refine .inl ⟨Pt (some ⟨g,a1,none⟩) k c 1,c-k,by rw[hz],by omega,?_⟩
   rw[hz];rfl
  ·refine .inr ⟨g,a1+k*1,c-k,?_,by omega,by omega,fun j x hj=>?_⟩
   ·rw[Pt,if_neg (by omega),a0];simp[Addr.add]
   ·rw[List.getElem?_map,List.getElem?_take] at hj
    split at hj
    ·rw[List.getElem?_drop] at hj
     have:=h4 (k+j) x (by rw[List.getElem?_map];exact hj)
     rwa [Nat.mul_one,Nat.add_assoc]
    ·cases hj
def Hp(l:Bl):Bool:=l.all (·==0)
theorem Zdn{l:Bl}(h:∀ j,j<l.length→l.getD j 0=0):Hp l=true:=by
 unfold Hp
 rw[List.all_eq_true]
 intro x hx
 obtain⟨j,hj,rfl⟩:=List.mem_iff_getElem.1 hx
 have:=h j hj
 simpa [List.getD,hj] using this
theorem Ac{l:Bl}{j:Nat}(hj:j<l.length)(h:((l.getD j 0).toNat:Int)≠0):Hp l=false:=by
 unfold Hp
 rw[List.all_eq_false]
 refine⟨l[j],List.getElem_mem hj,?_⟩
 intro h2
 apply h
 have:l[j]=0:=by simpa using h2
 simp[List.getD,hj,this]
theorem Zg7{x:UInt8}(h:(x.toNat:Int)=0):x=0:=by
 have h1:x.toNat=0:=by omega
 exact UInt8.toNat_inj.1 (by rw[h1];rfl)
theorem zero_1(n:Int)(w:World) :
 C0 137 #[.int .u8 n] w (Ret (.bool (n != 0)) w):=by
 refine zin 5 Tryz.func137 ?_
 exact xe 13 (.bool (n != (0:Int))) ⟨rfl,(B3 w)⟩
theorem Zgd(a:O0)(c:Nat)(l:Bl)(w:World)(hl:l.length≤100000000)(h:Bys w (.slice a l.length c) l) :
 C0 138 #[.slice a l.length c,.func (.func 137) #[] #[]] w (fun e w'=>(Hp l=true∧e=.returned (V0 (-1))∧B0 w w')∨(Hp l=false∧∃ i:Nat,e=.returned (V0 (i:Int))∧B0 w w')):=by
 refine zin 19 Tryz.func138 ?_
 have hB:=Below.refl w.heap.size w
 refine zl 14 19 (fun zm a4 V=>∃ (i:Nat),a4=[(0,.slice a l.length c),(1,.func (.func 137) #[] #[]),(7,V0 (l.length:Int)),(8,V0 (i:Int))]∧zm=l.length-((i:Int)).toNat∧B0 w V∧i≤l.length∧(∀ j,j<i→l.getD j 0=0)) ⟨0,rfl,rfl,hB,Nat.zero_le _,?_⟩ ?_
 ·exact fun j hj=>absurd hj (by omega)
 rintro _ _ W1 ⟨i,rfl,rfl,a0,hi,hz⟩ J1 a6 r1
 refine xid 6 ((i:Int)<(l.length:Int)) (fun a5=>?_) (fun a5=>?_)
 ·refine xx 15 _ l.length i 1 (Bys.elem h (k:=i) (by omega)).1 ?_
  refine xl 0 ((Bys.elem (h.below a0) (k:=i) (by omega)).2) ?_
  refine xr 0 (args:=#[.int .u8 (↑(l.getD i 0).toNat:Int)]) (zero_1 (↑(l.getD i 0).toNat:Int) _) fun W3 a3=>?_
  refine xin 2 (↑(l.getD i 0).toNat:Int) (0:Int) (fun a7=>?_) (fun a7=>?_)
  ·have a1:=bln a0 a3
   exact xe 12 (V0 (i:Int)) (.inr ⟨Ac (j:=i) (by omega) (by assumption),_,rfl,a1⟩)
  refine xwm 4 ((i:Int)+1) (↑(i+1):Int) ?_
  have a2:=bln a0 a3
  exact ze 2 (a6 _ _ _ ⟨i+1,rfl,rfl,a2,by omega,fun j hj=>(Nat.lt_or_ge j i).elim (hz j) (fun q=>by obtain rfl:j=i:=(by omega);exact Zg7 (by assumption))⟩ (by omega))
 exact xe 11 (V0 (-1)) (.inl ⟨Zdn (fun j hj=>hz j (by omega)),rfl,a0⟩)
theorem Rr(a:O0)(c:Nat)(l:Bl)(w:World)(hl:l.length≤100000000)(h:Bys w (.slice a l.length c) l) :
 C0 136 #[.slice a l.length c,.func (.func 137) #[] #[]] w (Ret (.bool (!Hp l)) w):=by
 refine zin 9 Tryz.func136 ?_
 refine xc 9 (args:=#[.slice a l.length c,.func (.func 137) #[] #[]]) (Zgd a c l _ hl (h.below (B3 w))) ?_
 rintro e W1 a1
 rcases a1 with ⟨hz,rfl,a0⟩|⟨hz,i0,rfl,a0⟩
 ·refine xe 5 (.bool false) ?_
  rw[hz];exact⟨rfl,a0⟩
 refine xe 5 (.bool (decide ((i0:Int)≥(0:Int)))) ?_
 rw[hz,show decide ((i0:Int)≥(0:Int))=true from decide_eq_true (by omega)];exact⟨rfl,a0⟩
theorem Zej(a:O0)(c:Nat)(l:Bl)(w:World)(hl:l.length≤100000000)(h:Bys w (.slice a l.length c) l) :
 C0 134 #[.slice a l.length c] w (Ret (.bool (Hp l)) w):=by
 refine zin 6 Tryz.func134 ?_
 refine xr 8 (args:=#[.slice a l.length c,.func (.func 137) #[] #[]]) (Rr a c l _ hl (h.below (B3 w))) fun W1 a0=>?_
 refine xe 5 (.bool (!(!Hp l))) ?_
 rw[Bool.not_not];exact⟨rfl,a0⟩
def Nu(kind no:Int):Bool:=decide (1≤kind∧kind≤4∧0≤no∧no<14400)
theorem Im(kind no:Int)(w:World) :
 C0 102 #[V0 kind,V0 no] w (Ret (.bool (Nu kind no)) w):=by
 refine zin 19 Tryz.func102 ?_
 refine xg 10 [6,7] (decide (kind≥(1:Int))) (fun a1=>?_) (fun a1=>?_)
 ·have a1:=of_decide_eq_true a1
  refine xg 4 [9,10,11] (decide (kind≤(4:Int))) (fun a2=>?_) (fun a2=>?_)
  ·have a2:=of_decide_eq_true a2
   refine xg 4 [13,14,15] (decide (no≥(0:Int))) (fun a0=>?_) (fun a0=>?_)
   ·have a0:=of_decide_eq_true a0
    exact xe 7 (.bool (decide (no<(14400:Int)))) ⟨by rw[show Nu kind no=decide (no<14400) from decide_eq_decide.2 ⟨fun h=>h.2.2.2,fun h=>⟨by omega,by omega,by omega,h⟩⟩],(B3 w)⟩
   have a0:=of_decide_eq_false a0
   exact xe 7 (.bool false) ⟨by rw[show Nu kind no=false from decide_eq_false (by omega)],(B3 w)⟩
  have a2:=of_decide_eq_false a2
  exact xe 11 (.bool false) ⟨by rw[show Nu kind no=false from decide_eq_false (by omega)],(B3 w)⟩
 have a1:=of_decide_eq_false a1
 exact xe 15 (.bool false) ⟨by rw[show Nu kind no=false from decide_eq_false (by omega)],(B3 w)⟩
theorem Ze8(a:O0)(c k w:Nat)(l:Bl)(W:World)(hw:w=1∨w=2∨w=4)(hk:k+w≤l.length)(hl:l.length≤100000000)(h:Bys W (.slice a l.length c) l) :
 C0 105 #[.slice a l.length c,V0 (k:Int),V0 (w:Int)] W (Ret (V0 (Xb l k w:Int)) W):=by
 refine zin 17 Tryz.func105 ?_
 refine xr 10 (args:=#[.slice a l.length c,V0 (k:Int),V0 (w:Int)]) (Zge a c k w l _ (by omega) hk hl (h.below (B3 W)) (by have:=Ku l k w (by omega);omega)) fun W1 a0=>?_
 exact xe 14 (V0 (↑(Xb l k w):Int)) ⟨rfl,a0⟩
theorem Uk(a:O0)(n c k w:Nat)(ki wi:Int)(l:Bl)(W:World)(hn:l.length=n)(hki:ki=(k:Int))(hwi:wi=(w:Int))(hw:w=1∨w=2∨w=4)(hk:k+w≤n)(hl:n≤100000000)(h:Bys W (.slice a n c) l) :
 C0 105 #[.slice a n c,V0 ki,V0 wi] W (Ret (V0 (Xb l k w:Int)) W):=by
 subst hn hki hwi;exact Ze8 a c k w l W hw hk hl h
def Wi(kind no:Int)(l:Bl):Nat→Bool
 | 0=>!Nu kind no
 | 1=>(l.length:Int) != 256
 | 2=>(Xb l 252 4:Int) != (Ts l kind:Int)
 | 3=>(Xb l 0 4:Int) != no
 | 4=>(Xb l 4 2:Int) != kind
 | _=>(Xb l 6 2:Int) != 0
def Vu(kind no:Int)(l:Bl):Int :=
 if Wi kind no l 0 then 1 else if Wi kind no l 1 then 7 else if Wi kind no l 2 then 4 else if Wi kind no l 3 then 5 else if Wi kind no l 4 then 6 else if Wi kind no l 5 then 7 else 0
theorem Zdu{kind no:Int}{l:Bl}(h:Wi kind no l 1=false):l.length=256:=by
 have:(l.length:Int)=256:=Qi h
 omega
theorem open_1(kind no:Int)(w:World)(l:Bl)(bk:Nat)(kk:Blk w bk [V0 kind] 3)(bn:Nat)(kn:Blk w bn [V0 no] 3) :
 C0 101 #[P0 bk,P0 bn] w (Ret (.bool (Wi kind no l 0)) w):=by
 refine zin 7 Tryz.func101 ?_
 refine xb 7 0 kk ?_
 refine xb 0 0 kn ?_
 refine xr 0 (args:=#[V0 kind,V0 no]) (Im kind no _) fun W1 a0=>?_
 exact xe 5 (.bool (!(Nu kind no))) ⟨rfl,a0⟩
theorem open_2(kind no:Int)(w:World)(bb:Nat)(a:O0)(c:Nat)(l:Bl)(kb:Blk w bb [.slice a l.length c] 36) :
 C0 103 #[P0 bb] w (Ret (.bool (Wi kind no l 1)) w):=by
 refine zin 5 Tryz.func103 ?_
 refine xb 7 0 kb ?_
 exact xe 6 (.bool ((l.length:Int) != (256:Int))) ⟨rfl,(B3 w)⟩
theorem Zga(kind:Int)(a:O0)(c n:Nat)(l:Bl)(w:World)(hn:l.length=n)(h256:n=256)(hc:256≤c)(h:Bys w (.slice a n c) l) :
 C0 106 #[.slice a n c,V0 kind] w (Ret (V0 (Ts l kind:Int)) w):=by
 subst h256;exact Za9 kind a c l w hn hc h
theorem open_3(kind no:Int)(w:World)(bb:Nat)(a:O0)(c:Nat)(l:Bl)(kb:Blk w bb [.slice a l.length c] 36)(bk:Nat)(kk:Blk w bk [V0 kind] 3)(hl:l.length=256)(hc:256≤c)(h:Bys w (.slice a l.length c) l) :
 C0 104 #[P0 bb,P0 bk] w (Ret (.bool (Wi kind no l 2)) w):=by
 refine zin 9 Tryz.func104 ?_
 refine xd 6 .z ?_
 have a0:=kb.below (Za w)
 refine xb (.e [] 0) 0 a0 ?_
 refine xb (.e [] 2) 0 a0 ?_
 have a2:=kk.below (Za w)
 refine xb (.e [] 3) 0 a2 ?_
 have hB:=(Za w)
 refine xr (.o [] 1) (args:=#[.slice a l.length c,V0 252,V0 4]) (Uk a l.length c 252 4 252 4 l _ rfl rfl rfl (by decide) (by omega) (by omega) (h.below hB)) fun W1 a4=>?_
 have a1:=bln hB a4
 refine xr (.o [] 4) (args:=#[.slice a l.length c,V0 kind]) (Zga kind a c l.length l _ rfl hl hc (h.below a1)) fun W2 a5=>?_
 have a3:=bln a1 a5
 exact xe (.r [5,6] 3) (.bool ((↑(Xb l 252 4):Int) != (↑(Ts l kind):Int))) ⟨rfl,a3⟩
theorem open_4(kind no:Int)(w:World)(bb:Nat)(a:O0)(c:Nat)(l:Bl)(kb:Blk w bb [.slice a l.length c] 36)(bn:Nat)(kn:Blk w bn [V0 no] 3)(hl:l.length=256)(hc:256≤c)(h:Bys w (.slice a l.length c) l) :
 C0 107 #[P0 bb,P0 bn] w (Ret (.bool (Wi kind no l 3)) w):=by
 refine zin 7 Tryz.func107 ?_
 refine xd 6 .z ?_
 have a2:=kb.below (Za w)
 refine xb (.e [] 0) 0 a2 ?_
 have a0:=kn.below (Za w)
 refine xb (.e [] 2) 0 a0 ?_
 have hB:=(Za w)
 refine xr (.o [] 1) (args:=#[.slice a l.length c,V0 0,V0 4]) (Uk a l.length c 0 4 0 4 l _ rfl rfl rfl (by decide) (by omega) (by omega) (h.below hB)) fun W1 a3=>?_
 have a1:=bln hB a3
 exact xe (.r [3,4] 3) (.bool ((↑(Xb l 0 4):Int) != no)) ⟨rfl,a1⟩
theorem open_5(kind no:Int)(w:World)(bb:Nat)(a:O0)(c:Nat)(l:Bl)(kb:Blk w bb [.slice a l.length c] 36)(bk:Nat)(kk:Blk w bk [V0 kind] 3)(hl:l.length=256)(hc:256≤c)(h:Bys w (.slice a l.length c) l) :
 C0 108 #[P0 bb,P0 bk] w (Ret (.bool (Wi kind no l 4)) w):=by
 refine zin 7 Tryz.func108 ?_
 refine xd 6 .z ?_
 have a2:=kb.below (Za w)
 refine xb (.e [] 0) 0 a2 ?_
 have a0:=kk.below (Za w)
 refine xb (.e [] 2) 0 a0 ?_
 have hB:=(Za w)
 refine xr (.o [] 1) (args:=#[.slice a l.length c,V0 4,V0 2]) (Uk a l.length c 4 2 4 2 l _ rfl rfl rfl (by decide) (by omega) (by omega) (h.below hB)) fun W1 a3=>?_
 have a1:=bln hB a3
 exact xe (.r [3,4] 3) (.bool ((↑(Xb l 4 2):Int) != kind)) ⟨rfl,a1⟩
theorem open_6(kind no:Int)(w:World)(bb:Nat)(a:O0)(c:Nat)(l:Bl)(kb:Blk w bb [.slice a l.length c] 36)(hl:l.length=256)(hc:256≤c)(h:Bys w (.slice a l.length c) l) :
 C0 109 #[P0 bb] w (Ret (.bool (Wi kind no l 5)) w):=by
 refine zin 5 Tryz.func109 ?_
 refine xb 7 0 kb ?_
 refine xr 0 (args:=#[.slice a l.length c,V0 6,V0 2]) (Uk a l.length c 6 2 6 2 l _ rfl rfl rfl (by decide) (by omega) (by omega) (h.below (B3 w))) fun W1 a0=>?_
 exact xe 5 (.bool ((↑(Xb l 6 2):Int) != (0:Int))) ⟨rfl,a0⟩
def OpenP(kind no:Int)(l:Bl)(w:World)(e:Ending)(w':World):Prop :=
 (Vu kind no l≠0∧e=.returned (.tuple #[S0,V0 (Vu kind no l)])∧B0 w w') ∨
 (Vu kind no l=0∧∃ p c,e=.returned (.tuple #[.slice p 244 c,V0 0])∧B0 w w'∧w'.ownsRow w.heap.size 5 1 (.slice p 244 c) 244 (((l.drop 8).take 244).map bv))
theorem Zfi(kind no:Int)(a:O0)(c:Nat)(l:Bl)(w:World)(h:Bys w (.slice a l.length c) l) :
 C0 82 #[.slice a l.length c,V0 kind,V0 no] w (OpenP kind no l w):=by
 have m5:=h.cap rfl
 refine zin 39 Tryz.func82 ?_
 refine xa 2 [.slice a l.length c] 36 fun b1 W1 n1=>?_
 refine xa 0 [V0 kind] 3 fun b2 W2 n2=>?_
 refine xa 0 [V0 no] 3 fun b3 W3 n3=>?_
 have l5:=n3.ne n2.blk
 refine xbs 18 6 [.func (.func 101) #[] #[P0 b2,P0 b3],V0 1,.func (.func 103) #[] #[P0 b1],V0 7,.func (.func 104) #[] #[P0 b1,P0 b2],V0 4,.func (.func 107) #[] #[P0 b1,P0 b3],V0 5,.func (.func 108) #[] #[P0 b1,P0 b2],V0 6,.func (.func 109) #[] #[P0 b1],V0 7] 183 fun b4 W4 n4=>?_
 refine xu 12 7 ?_
 refine xlv 14 (n4.blk.rpp 0 2) ?_
 refine xa 0 [.nilFunc,V0 0] 183 fun b5 W5 n5=>?_
 have h5:=n5.ne n4.blk
 refine xsv 0 n5.blk [.func (.func 101) #[] #[P0 b2,P0 b3],V0 1] fun W6 u6 k6=>?_
 have g5:=n5.ge (bln (bln (bln n1.below n2.below) n3.below) n4.below)
 refine xb 5 0 k6 ?_
 have f8:=u6.blkT (((n2.blk.below n3.below).below n4.below).below n5.below) n5.blk (by decide)
 have k3:=u6.blkT ((n3.blk.below n4.below).below n5.below) n5.blk (by decide)
 refine xr 0 (args:=#[P0 b2,P0 b3]) (open_1 kind no _ l b2 f8 b3 k3) fun W7 b6=>?_
 refine xi 2 (Wi kind no l 0) (fun k2=>?_) (fun k2=>?_)
 ·have d0:=k2
  refine xd 1 .z ?_
  have k4:=(k6.below b6).below (Za W7)
  refine xb (.e [0] 1) 1 k4 ?_
  have hB:=bln (bln (u6.below (bln (bln (bln (bln n1.below n2.below) n3.below) n4.below) n5.below) g5) b6) (Za W7)
  refine xe (.r [2,3] 8) (.tuple #[S0,V0 1]) ?_
  have he:Vu kind no l=1:=by simp[Vu,d0]
  exact .inl ⟨by rw[he];decide,by rw[he],hB⟩
 have d0:=k2
 have f5:=(u6.blk (n4.blk.below n5.below) (Ne.symm (Ne.symm h5))).below b6
 refine xlv 22 (f5.rpp 2 2) ?_
 refine xa 0 [.nilFunc,V0 0] 183 fun b9 W9 n9=>?_
 have i4:=n9.ne f5
 have i5:=k6.below b6
 have g3:=n9.ne i5
 refine xsv 0 n9.blk [.func (.func 103) #[] #[P0 b1],V0 7] fun n7 e9 k0=>?_
 have g9:=n9.ge (bln (u6.below (bln (bln (bln (bln n1.below n2.below) n3.below) n4.below) n5.below) g5) b6)
 refine xb 5 0 k0 ?_
 have k1:=e9.blkT (((u6.blkT ((((n1.blk.below n2.below).below n3.below).below n4.below).below n5.below) n5.blk (by decide)).below b6).below n9.below) n9.blk (by decide)
 refine xr 0 (args:=#[P0 b1]) (open_2 kind no _ b1 a c l k1) fun l8 a4=>?_
 refine xi 2 (Wi kind no l 1) (fun d4=>?_) (fun d4=>?_)
 ·have a3:=d4
  refine xd 1 .z ?_
  have g7:=(k0.below a4).below (Za l8)
  refine xb (.e [0] 1) 1 g7 ?_
  have hB:=bln (bln (e9.below (bln (bln (u6.below (bln (bln (bln (bln n1.below n2.below) n3.below) n4.below) n5.below) g5) b6) n9.below) g9) a4) (Za l8)
  refine xe (.r [2,3] 8) (.tuple #[S0,V0 7]) ?_
  have he:Vu kind no l=7:=by simp[Vu,d0,a3]
  exact .inl ⟨by rw[he];decide,by rw[he],hB⟩
 have a3:=d4
 have l9:=Zdu a3
 have e1:=(e9.blk (f5.below n9.below) (Ne.symm (Ne.symm i4))).below a4
 refine xlv 22 (e1.rpp 4 2) ?_
 refine xa 0 [.nilFunc,V0 0] 183 fun o8 n0 a7=>?_
 have e2:=a7.ne e1
 have g6:=(e9.blk (i5.below n9.below) (Ne.symm (Ne.symm g3))).below a4
 have e8:=a7.ne g6
 have c5:=k0.below a4
 have e3:=a7.ne c5
 have hB:=bln (e9.below (bln (bln (u6.below (bln (bln (bln (bln n1.below n2.below) n3.below) n4.below) n5.below) g5) b6) n9.below) g9) a4
 have m8:=a7.ge hB
 refine xsv 0 a7.blk [.func (.func 104) #[] #[P0 b1,P0 b2],V0 4] fun n6 e0 l2=>?_
 refine xb 5 0 l2 ?_
 have h3:=e0.blkT ((k1.below a4).below a7.below) a7.blk (by decide)
 have i7:=e0.blkT (((e9.blkT ((f8.below b6).below n9.below) n9.blk (by decide)).below a4).below a7.below) a7.blk (by decide)
 have f1:=e0.below (bln hB a7.below) m8
 refine xr 0 (args:=#[P0 b1,P0 b2]) (open_3 kind no _ b1 a c l h3 b2 i7 (Zdu a3) (by have:=Zdu a3;have:=h.cap rfl;omega) (h.below f1)) fun m0 a0=>?_
 refine xi 2 (Wi kind no l 2) (fun d6=>?_) (fun d6=>?_)
 ·have f6:=d6
  refine xd 1 .z ?_
  have g1:=(l2.below a0).below (Za m0)
  refine xb (.e [0] 1) 1 g1 ?_
  have j7:=bln (bln f1 a0) (Za m0)
  refine xe (.r [2,3] 8) (.tuple #[S0,V0 4]) ?_
  have he:Vu kind no l=4:=by simp[Vu,d0,a3,f6]
  exact .inl ⟨by rw[he];decide,by rw[he],j7⟩
 have f6:=d6
 have f0:=(e0.blk (e1.below a7.below) (Ne.symm (Ne.symm e2))).below a0
 refine xlv 22 (f0.rpp 6 2) ?_
 refine xa 0 [.nilFunc,V0 0] 183 fun o0 o3 a6=>?_
 have f2:=a6.ne f0
 have i1:=(e0.blk (g6.below a7.below) (Ne.symm (Ne.symm e8))).below a0
 have d5:=a6.ne i1
 have c6:=(e0.blk (c5.below a7.below) (Ne.symm (Ne.symm e3))).below a0
 have e7:=a6.ne c6
 have c2:=l2.below a0
 have b7:=a6.ne c2
 have h1:=bln f1 a0
 have m4:=a6.ge h1
 refine xsv 0 a6.blk [.func (.func 107) #[] #[P0 b1,P0 b3],V0 5] fun o2 c8 l4=>?_
 refine xb 5 0 l4 ?_
 have f7:=c8.blkT ((h3.below a0).below a6.below) a6.blk (by decide)
 have k8:=c8.blkT (((e0.blkT (((e9.blkT ((k3.below b6).below n9.below) n9.blk (by decide)).below a4).below a7.below) a7.blk (by decide)).below a0).below a6.below) a6.blk (by decide)
 have f3:=c8.below (bln h1 a6.below) m4
 refine xr 0 (args:=#[P0 b1,P0 b3]) (open_4 kind no _ b1 a c l f7 b3 k8 (Zdu a3) (by have:=Zdu a3;have:=h.cap rfl;omega) (h.below f3)) fun l6 a1=>?_
 refine xi 2 (Wi kind no l 3) (fun d8=>?_) (fun d8=>?_)
 ·have h4:=d8
  refine xd 1 .z ?_
  have h2:=(l4.below a1).below (Za l6)
  refine xb (.e [0] 1) 1 h2 ?_
  have l0:=bln (bln f3 a1) (Za l6)
  refine xe (.r [2,3] 8) (.tuple #[S0,V0 5]) ?_
  have he:Vu kind no l=5:=by simp[Vu,d0,a3,f6,h4]
  exact .inl ⟨by rw[he];decide,by rw[he],l0⟩
 have h4:=d8
 have f4:=(c8.blk (f0.below a6.below) (Ne.symm (Ne.symm f2))).below a1
 refine xlv 22 (f4.rpp 8 2) ?_
 refine xa 0 [.nilFunc,V0 0] 183 fun m9 o6 a5=>?_
 have e6:=a5.ne f4
 have h8:=(c8.blk (i1.below a6.below) (Ne.symm (Ne.symm d5))).below a1
 have e5:=a5.ne h8
 have c7:=(c8.blk (c6.below a6.below) (Ne.symm (Ne.symm e7))).below a1
 have e4:=a5.ne c7
 have c4:=(c8.blk (c2.below a6.below) (Ne.symm (Ne.symm b7))).below a1
 have b8:=a5.ne c4
 have d1:=l4.below a1
 have c0:=a5.ne d1
 have g8:=bln f3 a1
 have m6:=a5.ge g8
 refine xsv 0 a5.blk [.func (.func 108) #[] #[P0 b1,P0 b2],V0 6] fun o1 c9 k5=>?_
 refine xb 5 0 k5 ?_
 have h6:=c9.blkT ((f7.below a1).below a5.below) a5.blk (by decide)
 have j5:=c9.blkT (((c8.blkT ((i7.below a0).below a6.below) a6.blk (by decide)).below a1).below a5.below) a5.blk (by decide)
 have d3:=c9.below (bln g8 a5.below) m6
 refine xr 0 (args:=#[P0 b1,P0 b2]) (open_5 kind no _ b1 a c l h6 b2 j5 (Zdu a3) (by have:=Zdu a3;have:=h.cap rfl;omega) (h.below d3)) fun m3 a2=>?_
 refine xi 2 (Wi kind no l 4) (fun d9=>?_) (fun d9=>?_)
 ·have j2:=d9
  refine xd 1 .z ?_
  have h0:=(k5.below a2).below (Za m3)
  refine xb (.e [0] 1) 1 h0 ?_
  have j8:=bln (bln d3 a2) (Za m3)
  refine xe (.r [2,3] 8) (.tuple #[S0,V0 6]) ?_
  have he:Vu kind no l=6:=by simp[Vu,d0,a3,f6,h4,j2]
  exact .inl ⟨by rw[he];decide,by rw[he],j8⟩
 have j2:=d9
 have g0:=(c9.blk (f4.below a5.below) (Ne.symm (Ne.symm e6))).below a2
 refine xlv 22 (g0.rpp 10 2) ?_
 refine xa 0 [.nilFunc,V0 0] 183 fun o4 o7 a9=>?_
 have j3:=a9.ne g0
 have k7:=(c9.blk (h8.below a5.below) (Ne.symm (Ne.symm e5))).below a2
 have l1:=a9.ne k7
 have i3:=(c9.blk (c7.below a5.below) (Ne.symm (Ne.symm e4))).below a2
 have j4:=a9.ne i3
 have i2:=(c9.blk (c4.below a5.below) (Ne.symm (Ne.symm b8))).below a2
 have i9:=a9.ne i2
 have g2:=(c9.blk (d1.below a5.below) (Ne.symm (Ne.symm c0))).below a2
 have j0:=a9.ne g2
 have i8:=k5.below a2
 have j1:=a9.ne i8
 have h9:=bln d3 a2
 have m7:=a9.ge h9
 refine xsv 0 a9.blk [.func (.func 109) #[] #[P0 b1],V0 7] fun o5 m2 m1=>?_
 refine xb 5 0 m1 ?_
 have i0:=m2.blkT ((h6.below a2).below a9.below) a9.blk (by decide)
 have a8:=m2.below (bln h9 a9.below) m7
 refine xr 0 (args:=#[P0 b1]) (open_6 kind no _ b1 a c l i0  (Zdu a3) (by have:=Zdu a3;have:=h.cap rfl;omega) (h.below a8)) fun l7 b0=>?_
 refine xi 2 (Wi kind no l 5) (fun d7=>?_) (fun d7=>?_)
 ·have l3:=d7
  refine xd 1 .z ?_
  have i6:=(m1.below b0).below (Za l7)
  refine xb (.e [0] 1) 1 i6 ?_
  have h7:=bln (bln a8 b0) (Za l7)
  refine xe (.r [2,3] 8) (.tuple #[S0,V0 7]) ?_
  have he:Vu kind no l=7:=by simp[Vu,d0,a3,f6,h4,j2,l3]
  exact .inl ⟨by rw[he];decide,by rw[he],h7⟩
 have l3:=d7
 have j6:=i0.below b0
 refine xb 22 0 j6 ?_
 refine xsB 0 (fun _ _ _ _ _ zo zx zy zz V=>Uf (k:=8) (h:=252) (b:=a) (n:=l.length) (c:=c) (i:=8) (ki:=.i64) (j:=252) (kj:=.i64) 1 zo zx zy rfl zz rfl (by omega) (by omega) Tryz.underlying36 (by kernel_rfl) V) ?_
 have d2:=bln a8 b0
 refine xc 0 (args:=#[.slice (Pt a 8 c 1) 244 (c-8)]) (Qh (Pt a 8 c 1) 244 (c-8) ((l.drop 8).take 244) _ (by have:=Zdu a3;simp;omega) ((Bys.cut h rfl 8 252 (by decide) (by have:=Zdu a3;omega)).below d2) (by decide)) ?_
 rintro _ n8 ⟨_,rfl,j9,ho⟩
 have k9:=(bln a8 b0).size
 have c1:=Zh ho k9
 unfold Wj at c1
 rw[show((l.drop 8).take 244).length=244 from by have:=Zdu a3;simp;omega] at c1
 obtain⟨p,c3,rfl⟩:=(Zf c1).slice
 have f9:=bln d2 j9
 exact xe 5 (.tuple #[.slice p 244 c3,V0 0]) (.inr ⟨by simp[Vu,d0,a3,f6,h4,j2,l3],_,_,rfl,f9,c1⟩)
end Go.Proofs.YtgphgaehfdfjjaaGreat
namespace Go.Proofs.YtgphgaehfdfjjaaGreat
set_option maxHeartbeats 8000000
set_option maxRecDepth 100000
open Go.RowKit Go.Extern.Stop Go.Stop Go.Extern
set_option linter.unusedVariables false
section
variable {P:Program} {Q:Exit→Act→World→Prop} {a:Act} {w:World} {K:Act→World→Prop}
theorem op_copyS{o:Oper}{d x:Operand}{dT sT e:TypeId}{base g off n cap dLen dCap:Nat}{xs:List Value}(l:Bl)(xs':List Value)(ho:o.op=.call { callee:=.builtin .copy,args:=#[d,x],argTypes:=#[dT,sT] })(hu:P.underlying dT=some (.slice e))(hsz:(P.info? e).map (·.size)=some 1)
 (hd:a.eval d=.slice (some ⟨g,off,none⟩) dLen dCap) (hs:a.eval x=.string ⟨l.toArray⟩) (hown:w.ownsRow base e 1 (.slice (S1 g) n cap) n xs) (hm:l.length≤dLen) (hfit:off+l.length≤n)
 (hbase:base≤w.heap.size) (hxs:xs.take off++l.map bv++xs.drop (off+l.length)=xs')
 (h:∀ W,W.ownsRow base e 1 (.slice (S1 g) n cap) n xs'→w.grownBy W (Value.slice (S1 g) n cap).ownBlock→Below base w W→K (a.put o.dst (V0 (l.length:Int))) W):o.wp P a w K Q:=by
 obtain⟨hl,hr⟩:=hown
 rcases hr with ⟨hv,_⟩|⟨g2,b3,a1,hv,a7,hh,a9,a8,a4,a6⟩
 ·cases hv
 simp only[Value.slice.injEq,Option.some.injEq,Addr.mk.injEq] at hv
 obtain⟨⟨rfl,_,_⟩,_,rfl⟩:=hv
 have b1:xs.length=n:=by simpa using hl
 have a3:a1.toList.length=cap:=by simpa using a4
 have a5:(l.map bv).length=l.length:=by simp
 have b2:∀ W,W.heap[g]? = some (.cells (a1.toList.take off++l.map bv++a1.toList.drop (off+l.length)).toArray e (0,0))→w.grownBy W (some g)→K (a.put o.dst (V0 (l.length:Int))) W:=by
  intro W hW hg
  refine h W ⟨?_,.inr ⟨g,cap,_,rfl,a7,hW,a9,a8,?_,?_⟩⟩ hg (Hw (v:=.slice (S1 g) n cap) hg ⟨hl,.inr ⟨g,cap,a1,rfl,a7,hh,a9,a8,a4,a6⟩⟩ (Nat.le_refl _) hbase)
  ·rw[←hxs];simp;omega
  ·simp only[List.size_toArray,List.length_append,List.length_take,List.length_drop,a3,Nat.mul_one,a5];omega
  ·have hA:(a1.toList.take off++l.map bv).length=off+l.length:=by simp only[List.length_append,List.length_take,a3,a5];omega
   rw[←hxs,←a6]
   simp only[Nat.mul_one]
   rw[List.take_append,List.take_of_length_le (by rw[hA];omega),hA,List.take_take,Nat.min_eq_left (by omega:off≤n),List.drop_take]
 have a0:(⟨l.toArray⟩:ByteArray).size=l.length:=by show l.toArray.size=l.length;simp
 have a2:=Go.Lib.run_copy_row_string (P:=P) w dT sT o.type e g off dLen dCap ⟨l.toArray⟩ a1 e hu hsz hh (by rw[a0];exact hm) (by rw[a0,a4];omega)
 rw[a0] at a2
 have b0:Go.Lib.byteCells (⟨l.toArray⟩:ByteArray).data.toList=l.map bv:=rfl
 rw[b0] at a2
 have h2:(execOp a.eval o).run P w=.ok (.value (V0 (l.length:Int))) (w.setRow g (a1.toList.take off++l.map bv++a1.toList.drop (off+l.length)).toArray):=by
  simp[execOp,ho,resolve,invoke,builtin,hd,hs,a2,Result.andThen,goInt]
 exact Uh h2 (b2 _ (setRow_heap w g _ _ e _ hh) ⟨rfl,rfl,rfl,by simp,fun k _ hk=>setRow_other w g k _ (fun e=>hk (by rw[e]))⟩)
theorem Sl.head{b:O0}{n c:Nat}{xs:List Value}(h:Sl w (.slice b n c) n xs)(hn:xs.length=n)(m:Nat)(hm:m≤n):Sl w (.slice b m c) m (xs.take m):=by
 rcases h with ⟨a',c',h1,h2,h3⟩|⟨b',a1,a2,h1,h2,h3,h4⟩
 ·obtain rfl:m=0:=by omega
  simp only[Value.slice.injEq] at h1
  exact .inl ⟨b,c,rfl,rfl,by simp⟩
 ·simp only[Value.slice.injEq] at h1
  obtain⟨rfl,_,rfl⟩:=h1
  refine .inr ⟨b',a1,c,rfl,by omega,h3,fun j x hj=>h4 j x ?_⟩
  have a0:j<m:=by have:=(List.getElem?_eq_some_iff.1 hj).1;simp at this;omega
  rwa [List.getElem?_take_of_lt a0] at hj
def sv (l:Bl):Value:=.string ⟨l.toArray⟩
theorem Strs.elem{b:O0}{n c:Nat}{V:List Bl}(h:Sl w (.slice b n c) n (V.map sv))(hl:V.length=n){k:Nat}(hk:k<n):b.isSome=true∧w.cell? (Zw b (k*1))=some (.string ⟨(V.getD k []).toArray⟩):=by
 rcases h with ⟨a',c',h1,h2,h3⟩|⟨b',a0,a1,h1,h2,h3,h4⟩
 ·omega
 ·simp only[Value.slice.injEq] at h1
  obtain⟨rfl,_,rfl⟩:=h1
  refine⟨rfl,?_⟩
  have:=h4 k (sv (V.getD k [])) (by simp[List.getD,List.getElem?_eq_getElem (show k<V.length by omega)])
  rw[Nat.mul_one]
  show w.cell? ((⟨b',a0,none⟩:Addr).add k)=_
  rw[Addr.add_mid]
  exact this
end
end Go.Proofs.YtgphgaehfdfjjaaGreat
namespace Go.Proofs.YtgphgaehfdfjjaaGreat
set_option maxHeartbeats 8000000
set_option maxRecDepth 100000
open Go.RowKit Go.Extern.Stop Go.Stop Go.Extern
set_option linter.unusedVariables false
attribute [local irreducible] wpList wpAnyH Code.wp Oper.wp Go
theorem Sl.cap{w:World}{b:O0}{n c:Nat}{xs:List Value}(h:Sl w (.slice b n c) n xs):n≤c:=by
 rcases h with ⟨a',c',h1,h2,_⟩|⟨b',a0,cap,h1,h2,_,_⟩
 ·omega
 ·simp only[Value.slice.injEq] at h1;omega
def Hz(b:Bool):Int:=if b then 1 else 0
theorem Fb(b:Bool):0≤Hz b∧Hz b<256:=by cases b<;>decide
structure NodeOk(t:Int)(leaf:Bool)(n m v:Nat)(K:List Int)(Vs:List (List UInt8)):Prop where
 ht1:1≤t
 ht2:t≤5
 hm:Qq t leaf=m
 hv:Ht t leaf=v
 hK:K.length=n
 hV:Vs.length=n
 hn:n≤m
 hl:leaf=false→1≤n
 hk0:∀ i,i<n→0≤K.getD i 0∧K.getD i 0≤281474976710655
 hk1:∀ j,j+1<n→K.getD j 0<K.getD (j+1) 0
 hw:∀ i,i<n→(Vs.getD i []).length=v
theorem Bf(t:Int)(leaf:Bool):4≤Ht t leaf∧Ht t leaf≤24:=by
 unfold Ht
 repeat' split
 all_goals decide
theorem fitN(t:Int)(leaf:Bool):12+Qq t leaf*8+Qq t leaf*Ht t leaf≤244:=by
 unfold Ht Qq
 repeat' split
 all_goals decide
theorem Td{K:List Int}{i j:Nat}(h:j<i):(K.take i).getD j 0=K.getD j 0:=by simp[List.getD,List.getElem?_take_of_lt h]
theorem Bw(t:Int)(leaf:Bool)(m:Nat)(hm:Qq t leaf=m)(h1:1≤t)(h2:t≤5)(w:World):C0 50 #[V0 t,.bool leaf] w (Ret (V0 (m:Int)) w):=by
 subst hm;exact Ld t leaf h1 h2 w
theorem Wq(t:Int)(leaf:Bool)(v:Nat)(hv:Ht t leaf=v)(h1:1≤t)(h2:t≤5)(w:World):C0 46 #[V0 t,.bool leaf] w (Ret (V0 (v:Int)) w):=by
 subst hv;exact Eb t leaf h1 h2 w
theorem Zgs(leaf:Bool)(w:World) :
 C0 71 #[.bool leaf] w (Ret (V0 (Hz leaf)) w):=by
 refine zin 4 Tryz.func71 ?_
 refine xi 11 leaf (fun a0=>?_) (fun a0=>?_)
 ·exact xe 7 (V0 1) ⟨by simp_all [Hz],(B3 w)⟩
 exact xe 8 (V0 0) ⟨by simp_all [Hz],(B3 w)⟩
theorem Zaw(a:O0)(i c:Nat)(L:List Int)(k:Int)(w:World)(hL:L.length=i)(h:Sl w (.slice a i c) i (L.map V0))(h1:0≤k)(h2:k≤281474976710655)(h3:∀ j,i=j+1→L.getD j 0<k)(hi:i≤1000) :
 C0 88 #[.slice a i c,V0 k] w (Ret (V0 0) w):=by
 refine zin 26 Tryz.func88 ?_
 refine xgk 12 [7,8] (show(decide (k<(0:Int)):Bool)=false from decide_eq_false (by omega)) ?_
 refine xk 6 (show(decide (k>(281474976710655:Int)):Bool)=false from decide_eq_false (by omega)) ?_
 refine xg 6 [15,16] (decide ((i:Int)>(0:Int))) (fun a0=>?_) (fun a0=>?_)
 ·have a0:=of_decide_eq_true a0
  refine xwm 3 ((i:Int)-1) (↑(i-1):Int) ?_
  refine xx 0 _ i (i-1) 1 (IntsN.elem h hL (k:=(i-1)) (by omega)).1 ?_
  refine xl 0 ((IntsN.elem h hL (k:=(i-1)) (by omega)).2) ?_
  refine xk 6 (show(decide ((L.getD (i-1) 0)≥k):Bool)=false from decide_eq_false (by have:=h3 (i-1) (by omega);omega)) ?_
  exact xe 9 (V0 0) ⟨rfl,(B3 w)⟩
 have a0:=of_decide_eq_false a0
 exact xe 22 (V0 0) ⟨rfl,(B3 w)⟩
theorem Zdc(t:Int)(leaf:Bool)(n m v:Nat)(K:List Int)(Vs:List Bl)(ak av:O0)(ck cv:Nat)(w:World)(N:NodeOk t leaf n m v K Vs)(hKs:Sl w (.slice ak n ck) n (K.map V0))(hVs:Sl w (.slice av n cv) n (Vs.map sv)) :
 C0 70 #[.agg #[V0 t,.bool leaf,.slice ak n ck,.slice av n cv]] w (Ret (.bool true) w):=by
 have b9:=N.ht1
 have c0:=N.ht2
 have d1:=N.hn
 have c5:=Bf t leaf
 rw[N.hv] at c5
 have c1:=Yb t leaf
 rw[N.hm] at c1
 have b7:=fitN t leaf
 rw[N.hm,N.hv] at b7
 have c6:=Sl.cap hKs
 refine zin 70 Tryz.func70 ?_
 refine xa 2 [V0 t,.bool leaf,.slice ak n ck,.slice av n cv] 117 fun b1 W1 n1=>?_
 refine xb 6 0 n1.blk ?_
 refine xb 1 1 n1.blk ?_
 refine xr 0 (args:=#[V0 t,.bool leaf]) (Wq t leaf v N.hv b9 c0 _) fun W2 b4=>?_
 refine xd 5 .z ?_
 refine xgk (.b [0,1,2]) [12,13] (show(((v:Int)==(0:Int)):Bool)=false from by simp;omega) ?_
 have a5:=(n1.blk.below b4).below (Za W2)
 refine xb (.e [3] 4) 2 a5 ?_
 refine xb (.e [5,6] 7) 0 a5 ?_
 refine xb (.e [8] 9) 1 a5 ?_
 refine xr (.o [] 10) (args:=#[V0 t,.bool leaf]) (Bw t leaf m N.hm b9 c0 _) fun W4 b5=>?_
 refine xgk (.b [11,12,13]) [22,23,24] (show(decide ((n:Int)>(m:Int)):Bool)=false from decide_eq_false (by omega)) ?_
 have a0:=a5.below b5
 refine xb (.e [14] 15) 3 a0 ?_
 refine xb (.e [16,17] 18) 2 a0 ?_
 refine xgk (.b [19,20,21,22]) [31,32,33] (show(((n:Int) != (n:Int)):Bool)=false from by simp) ?_
 refine xb (.e [23] 24) 1 a0 ?_
 refine xg (.b [25,26]) [36,37] (!leaf) (fun c3=>?_) (fun c3=>?_)
 ·refine xb (.e [27] 28) 2 a0 ?_
  refine xk (.r [29,30,31,32] 2) (show(((n:Int)==(0:Int)):Bool)=false from by have:=N.hl (by simp_all);simp;omega) ?_
  refine xb 6 2 a0 ?_
  have hB:=bln (bln (bln n1.below b4) (Za W2)) b5
  refine zl 5 70 (fun zm b6 V=>∃ (i:Nat),b6=[(1,P0 b1),(3,V0 (v:Int)),(45,.slice ak n ck),(46,V0 (n:Int)),(47,V0 (i:Int))]∧zm=n-((i:Int)).toNat∧B0 w V∧Blk V b1 ([V0 t,.bool leaf,.slice ak n ck,.slice av n cv]) 117∧i≤n) ⟨0,rfl,rfl,hB,a0,Nat.zero_le _⟩ ?_
  rintro _ _ W8 ⟨i,rfl,rfl,a6,a7,hi⟩ J8 c4 r8
  refine xid 6 ((i:Int)<(n:Int)) (fun c2=>?_) (fun c2=>?_)
  ·refine xx 7 _ n i 1 (IntsN.elem hKs N.hK (k:=i) (by omega)).1 ?_
   refine xl 0 ((IntsN.elem (hKs.below a6) N.hK (k:=i) (by omega)).2) ?_
   refine xb 7 2 a7 ?_
   refine xsH 1 (fun _ _ _ _ zo zx zy V=>Xz (k:=i) (b:=ak) (n:=n) (c:=ck) (i:=(i:Int)) (ki:=.i64) zo zx zy rfl (by omega) Tryz.underlying68 (by kernel_rfl) V) ?_
   refine xr 1 (args:=#[.slice ak i ck,V0 (K.getD i 0)]) (Zaw ak i ck (K.take i) (K.getD i 0) _ (by rw[List.length_take,N.hK];omega) (by rw[List.map_take];exact(hKs.below a6).head (by simpa using N.hK) i (by omega)) (N.hk0 i (by omega)).1 (N.hk0 i (by omega)).2 (fun j e=>by subst e;rw[Td (by omega)];exact N.hk1 j (by omega)) (by omega)) fun c7 b2=>?_
   have a3:=a7.below b2
   refine xb 3 3 a3 ?_
   refine xx 1 _ n i 1 (Strs.elem hVs N.hV (k:=i) (by omega)).1 ?_
   have a9:=bln a6 b2
   refine xl 0 ((Strs.elem (hVs.below a9) N.hV (k:=i) (by omega)).2) ?_
   refine xk 6 (show(((↑(Vs.getD i []).length:Int) != (v:Int)):Bool)=false from by rw[N.hw i (by omega)];simp) ?_
   refine xw 4 ((i:Int)+1) ?_
   exact ze 2 (c4 _ _ _ ⟨i+1,rfl,rfl,a9,a3,by omega⟩ (by omega))
  exact xe 11 (.bool true) ⟨rfl,a6⟩
 refine xb (.r [27,28,29,30,31,32] 9) 2 a0 ?_
 have hB:=bln (bln (bln n1.below b4) (Za W2)) b5
 refine zl 5 70 (fun zm b6 V=>∃ (i:Nat),b6=[(1,P0 b1),(3,V0 (v:Int)),(45,.slice ak n ck),(46,V0 (n:Int)),(47,V0 (i:Int))]∧zm=n-((i:Int)).toNat∧B0 w V∧Blk V b1 ([V0 t,.bool leaf,.slice ak n ck,.slice av n cv]) 117∧i≤n) ⟨0,rfl,rfl,hB,a0,Nat.zero_le _⟩ ?_
 rintro _ _ d2 ⟨i,rfl,rfl,a2,a4,hi⟩ d0 b3 c8
 refine xid 6 ((i:Int)<(n:Int)) (fun b8=>?_) (fun b8=>?_)
 ·refine xx 7 _ n i 1 (IntsN.elem hKs N.hK (k:=i) (by omega)).1 ?_
  refine xl 0 ((IntsN.elem (hKs.below a2) N.hK (k:=i) (by omega)).2) ?_
  refine xb 7 2 a4 ?_
  refine xsH 1 (fun _ _ _ _ zo zx zy V=>Xz (k:=i) (b:=ak) (n:=n) (c:=ck) (i:=(i:Int)) (ki:=.i64) zo zx zy rfl (by omega) Tryz.underlying68 (by kernel_rfl) V) ?_
  refine xr 1 (args:=#[.slice ak i ck,V0 (K.getD i 0)]) (Zaw ak i ck (K.take i) (K.getD i 0) _ (by rw[List.length_take,N.hK];omega) (by rw[List.map_take];exact(hKs.below a2).head (by simpa using N.hK) i (by omega)) (N.hk0 i (by omega)).1 (N.hk0 i (by omega)).2 (fun j e=>by subst e;rw[Td (by omega)];exact N.hk1 j (by omega)) (by omega)) fun c9 a8=>?_
  have a1:=a4.below a8
  refine xb 3 3 a1 ?_
  refine xx 1 _ n i 1 (Strs.elem hVs N.hV (k:=i) (by omega)).1 ?_
  have b0:=bln a2 a8
  refine xl 0 ((Strs.elem (hVs.below b0) N.hV (k:=i) (by omega)).2) ?_
  refine xk 6 (show(((↑(Vs.getD i []).length:Int) != (v:Int)):Bool)=false from by rw[N.hw i (by omega)];simp) ?_
  refine xw 4 ((i:Int)+1) ?_
  exact ze 2 (b3 _ _ _ ⟨i+1,rfl,rfl,b0,a1,by omega⟩ (by omega))
 exact xe 11 (.bool true) ⟨rfl,a2⟩
def widG(t:Int)(leaf:Bool):Nat:=if 1≤t∧t≤5 then Ht t leaf else 0
def Zgi(t:Int)(leaf:Bool):Nat:=if 1≤t∧t≤5 then Qq t leaf else 0
theorem fitG(t:Int)(leaf:Bool):12+Zgi t leaf*8+Zgi t leaf*widG t leaf≤244:=by
 unfold Zgi widG;split
 ·exact fitN t leaf
 ·decide
theorem maxG_le(t:Int)(leaf:Bool):Zgi t leaf≤18:=by
 unfold Zgi;split
 ·exact(Yb t leaf).2
 ·decide
theorem widG_le(t:Int)(leaf:Bool):widG t leaf≤24:=by
 unfold widG;split
 ·exact(Bf t leaf).2
 ·decide
theorem Wa(t:Int)(leaf:Bool)(w:World)(h:¬ (1≤t∧t≤5)) :
 C0 46 #[V0 t,.bool leaf] w (Ret (V0 0) w):=by
 refine zin 31 Tryz.func46 ?_
 refine xg 17 [8,9] (decide (t<(1:Int))) (fun a0=>?_) (fun a0=>?_)
 ·have a0:=of_decide_eq_true a0
  exact xe 15 (V0 0) ⟨rfl,(B3 w)⟩
 have a0:=of_decide_eq_false a0
 refine xk 6 (show(decide (t>(5:Int)):Bool)=true from decide_eq_true (by omega)) ?_
 exact xe 8 (V0 0) ⟨rfl,(B3 w)⟩
theorem Wf(t:Int)(leaf:Bool)(w:World):C0 46 #[V0 t,.bool leaf] w (Ret (V0 (widG t leaf:Int)) w):=by
 unfold widG
 by_cases h:1≤t∧t≤5
 ·rw[if_pos h];exact Eb t leaf h.1 h.2 w
 ·rw[if_neg h];exact Wa t leaf w h
theorem Ru(t:Int)(leaf:Bool)(w:World)(h:¬ (1≤t∧t≤5)) :
 C0 50 #[V0 t,.bool leaf] w (Ret (V0 0) w):=by
 refine zin 16 Tryz.func50 ?_
 refine xr 9 (args:=#[V0 t,.bool leaf]) (Wa t leaf _ h) fun W1 a0=>?_
 exact xe 18 (V0 0) ⟨rfl,a0⟩
theorem Sd(t:Int)(leaf:Bool)(w:World):C0 50 #[V0 t,.bool leaf] w (Ret (V0 (Zgi t leaf:Int)) w):=by
 unfold Zgi
 by_cases h:1≤t∧t≤5
 ·rw[if_pos h];exact Ld t leaf h.1 h.2 w
 ·rw[if_neg h];exact Ru t leaf w h
def Zbj(L:List Int)(i:Nat)(k:Int):Int:=if k<0∨281474976710655<k then 2 else if 0<i∧k≤L.getD (i-1) 0 then 8 else 0
def Qb(l:Bl):Int:=(Xb l 1 1:Int)
def Xp(l:Bl):Bool:=(Xb l 0 1:Int)==(1:Int)
def Zn(l:Bl):Nat:=Xb l 2 2
def Qu(l:Bl):Nat:=widG (Qb l) (Xp l)
def Kb(l:Bl):Nat:=Zgi (Qb l) (Xp l)
def Ck(l:Bl):Bool:=decide (Xb l 0 1≤1∧Qu l≠0∧Xb l 2 2≤Kb l∧Xb l 4 2=Qu l∧Xb l 6 2=Kb l∧Xb l 8 4=0∧(Xb l 0 1=1∨0<Xb l 2 2))
def ShapeP(l:Bl)(w:World)(e:Ending)(w':World):Prop :=
 (Ck l=false∧∃ a b c,e=.returned (.tuple #[.agg #[V0 a,.bool b,S0,S0],V0 c,.bool false])∧B0 w w') ∨
 (Ck l=true∧e=.returned (.tuple #[.agg #[V0 (Qb l),.bool (Xp l),S0,S0],V0 (Zn l:Int),.bool true])∧B0 w w')
theorem Py(a:O0)(n c:Nat)(l:Bl)(aw:O0)(cw m:Nat)(ws:List Nat)(xs:List Nat)(W:World)(hn:l.length=n)(hm:ws.length=m)(hx:Gh l 0 ws=xs)(hk:∀ i,i<ws.length→ws.getD i 0=1∨ws.getD i 0=2∨ws.getD i 0=4∨ws.getD i 0=8)(hs:ws.sum≤n)(hl:n≤100000000)(hw:ws.length≤1000)(h:Bys W (.slice a n c) l)(hws:Sl W (.slice aw m cw) m (ws.map nv))(hq:∀ i,i<ws.length→(Gh l 0 ws).getD i 0<9223372036854775808) :
 C0 97 #[.slice a n c,.slice aw m cw] W (Ky (fun w' r=>∃ p c,r=.tuple #[.slice p m c,V0 0]∧w'.ownsRow W.heap.size 3 1 (.slice p m c) m (xs.map nv)) W):=by
 subst hn hm hx;exact Sm a c l aw cw ws W hk hs hl hw h hws hq
def Vn(l:Bl):List Nat:=[Xb l 0 1,Xb l 1 1,Xb l 2 2,Xb l 4 2,Xb l 6 2,Xb l 8 4]
theorem head6_bd(l:Bl)(i:Nat)(hi:i<6):(Gh l 0 [1,1,2,2,2,4]).getD i 0<9223372036854775808:=by
 have h1:=Ku l 0 1 (by decide)
 have h2:=Ku l 1 1 (by decide)
 have h3:=Ku l 2 2 (by decide)
 have h4:=Ku l 4 2 (by decide)
 have h5:=Ku l 6 2 (by decide)
 have h6:=Ku l 8 4 (by decide)
 obtain rfl|rfl|rfl|rfl|rfl|rfl:i=0∨i=1∨i=2∨i=3∨i=4∨i=5:=by omega
 all_goals simp[Gh]
 all_goals omega
theorem Zdb(a:O0)(c:Nat)(l:Bl)(w:World)(hl:l.length=244)(h:Bys w (.slice a 244 c) l) :
 C0 133 #[.slice a 244 c] w (ShapeP l w):=by
 refine zin 92 Tryz.func133 ?_
 refine xa 2 [V0 0,.bool false,S0,S0] 117 fun b1 W1 n1=>?_
 refine xbs 18 6 [V0 1,V0 1,V0 2,V0 2,V0 2,V0 4] 3 fun b2 W2 n2=>?_
 have hB:=bln n1.below n2.below
 refine xc 0 (args:=#[.slice a 244 c,.slice (S1 b2) 6 6]) (Py a 244 c l (S1 b2) 6 6 [1,1,2,2,2,4] (Vn l) _ hl rfl rfl (by decide) (by decide) (by decide) (by decide) (h.below hB) (n2.blk.sl 6 6 (by decide) (by decide)) (head6_bd l)) ?_
 rintro _ W3 ⟨_,rfl,f0,p5,c5,rfl,h5⟩
 have g3:=(bln n1.below n2.below).size
 refine xd 8 (.t w.heap.size [117]) ?_
 have b5:=Zb (Zh h5 g3) (Za W3)
 refine xx (.e [0] 1) _ 6 1 1 (Zt (l:=Vn l) (Zf b5) rfl (k:=1) (by decide)).1 ?_
 refine xlt (.e [] 2) (.t w.heap.size [117]) (fun V hV=>(Zt (l:=Vn l) (Zf (Zg b5 hV.2 (by decide))) rfl (k:=1) (by decide)).2) ?_
 refine xx (.e [3] 4) _ 6 0 1 (Zt (l:=Vn l) (Zf b5) rfl (k:=0) (by decide)).1 ?_
 refine xlt (.e [] 5) (.t w.heap.size [117]) (fun V hV=>(Zt (l:=Vn l) (Zf (Zg b5 hV.2 (by decide))) rfl (k:=0) (by decide)).2) ?_
 refine xa (.o [6,7] 8) [V0 0,.bool false,S0,S0] 117 fun b4 W4 n4=>?_
 have k1:=((n1.blk.below n2.below).below f0).below (Za W3)
 have a3:=n4.ne k1
 have a5:=bln (bln hB f0) (Za W3)
 have g4:=n4.ge a5
 refine ysv (.o [] 9) n4.blk [V0 (↑(Xb l 1 1):Int),.bool ((↑(Xb l 0 1):Int)==(1:Int)),S0,S0] (.t w.heap.size [117]) fun W5 u5 k5=>⟨(Xd u5 n4.blk g4 (by decide)),?_⟩
 have b7:=u5.own2 (Zb b5 n4.below) n4.blk (by decide)
 refine xx 6 _ 6 0 1 (Zt (l:=Vn l) (Zf b7) rfl (k:=0) (by decide)).1 ?_
 refine xl 0 ((Zt (l:=Vn l) (Zf b7) rfl (k:=0) (by decide)).2) ?_
 refine xg 2 [32,33] (decide ((↑(Xb l 0 1):Int)>(1:Int))) (fun c1=>?_) (fun c1=>?_)
 ·have c1:=of_decide_eq_true c1
  have d5:=u5.blk (k1.below n4.below) (Ne.symm (Ne.symm a3))
  refine xsv 13 d5 [V0 0,.bool false,S0,S0] fun W7 u7 k7=>?_
  have g1:=n1.ge (B3 w)
  have e3:=u7.below (u5.below (bln a5 n4.below) g4) g1
  exact xec 6 k7 (.tuple #[.agg #[V0 0,.bool false,S0,S0],V0 0,.bool false]) (.inl ⟨decide_eq_false (by omega),_,_,_,rfl,e3⟩)
 have c1:=of_decide_eq_false c1
 refine xb 1 0 k5 ?_
 refine xb 1 1 k5 ?_
 refine xr 0 (args:=#[V0 (↑(Xb l 1 1):Int),.bool ((↑(Xb l 0 1):Int)==(1:Int))]) (Wf (Qb l) (Xp l) _) fun W8 a7=>?_
 refine xie 4 (↑(Qu l):Int) (0:Int) (fun f7=>?_) (fun f7=>?_)
 ·have d4:=(u5.blk (k1.below n4.below) (Ne.symm (Ne.symm a3))).below a7
  refine xsv 3 d4 [V0 0,.bool false,S0,S0] fun g9 g7 g6=>?_
  have g1:=n1.ge (B3 w)
  have e6:=g7.below (bln (u5.below (bln a5 n4.below) g4) a7) g1
  exact xec 6 g6 (.tuple #[.agg #[V0 0,.bool false,S0,S0],V0 0,.bool false]) (.inl ⟨decide_eq_false (by omega),_,_,_,rfl,e6⟩)
 refine xd 3 .z ?_
 have a6:=(k5.below a7).below (Za W8)
 refine xb (.e [0] 1) 0 a6 ?_
 refine xb (.e [2] 3) 1 a6 ?_
 refine xb (.e [5] 6) 0 a6 ?_
 refine xb (.e [7] 8) 1 a6 ?_
 refine xr (.o [] 4) (args:=#[V0 (↑(Xb l 1 1):Int),.bool ((↑(Xb l 0 1):Int)==(1:Int))]) (Wf (Qb l) (Xp l) _) fun h4 a1=>?_
 refine xr (.o [] 9) (args:=#[V0 (↑(Xb l 1 1):Int),.bool ((↑(Xb l 0 1):Int)==(1:Int))]) (Sd (Qb l) (Xp l) _) fun a4 a0=>?_
 have a2:=Zb (Zb (Zb (Zb b7 a7) (Za W8)) a1) a0
 refine xx (.r [10,11] 5) _ 6 2 1 (Zt (l:=Vn l) (Zf a2) rfl (k:=2) (by decide)).1 ?_
 refine xl 0 ((Zt (l:=Vn l) (Zf a2) rfl (k:=2) (by decide)).2) ?_
 refine xg 3 [56,57] (decide ((↑(Xb l 2 2):Int)≤(↑(Kb l):Int))) (fun a9=>?_) (fun a9=>?_)
 ·have a9:=of_decide_eq_true a9
  refine xx 1 _ 6 3 1 (Zt (l:=Vn l) (Zf a2) rfl (k:=3) (by decide)).1 ?_
  refine xl 0 ((Zt (l:=Vn l) (Zf a2) rfl (k:=3) (by decide)).2) ?_
  refine xg 4 [62,63,64] ((↑(Xb l 4 2):Int)==(↑(Qu l):Int)) (fun b0=>?_) (fun b0=>?_)
  ·have b0:=eq_of_beq b0
   refine xx 1 _ 6 4 1 (Zt (l:=Vn l) (Zf a2) rfl (k:=4) (by decide)).1 ?_
   refine xl 0 ((Zt (l:=Vn l) (Zf a2) rfl (k:=4) (by decide)).2) ?_
   refine xg 4 [69,70,71] ((↑(Xb l 6 2):Int)==(↑(Kb l):Int)) (fun b3=>?_) (fun b3=>?_)
   ·have b3:=eq_of_beq b3
    refine xx 1 _ 6 5 1 (Zt (l:=Vn l) (Zf a2) rfl (k:=5) (by decide)).1 ?_
    refine xl 0 ((Zt (l:=Vn l) (Zf a2) rfl (k:=5) (by decide)).2) ?_
    refine xg 3 [75,76,77] ((↑(Xb l 8 4):Int)==(0:Int)) (fun a8=>?_) (fun a8=>?_)
    ·have a8:=eq_of_beq a8
     have b8:=(a6.below a1).below a0
     refine xb 1 1 b8 ?_
     refine xg 1 [27,37,45,50,79,80] ((↑(Xb l 0 1):Int)==(1:Int)) (fun b6=>?_) (fun b6=>?_)
     ·have b6:=eq_of_beq b6
      refine xd 10 (.t w.heap.size [117]) ?_
      have c6:=Zb a2 (Za a4)
      refine xx (.e [1] 2) _ 6 2 1 (Zt (l:=Vn l) (Zf c6) rfl (k:=2) (by decide)).1 ?_
      refine xlt (.e [] 3) (.t w.heap.size [117]) (fun V hV=>(Zt (l:=Vn l) (Zf (Zg c6 hV.2 (by decide))) rfl (k:=2) (by decide)).2) ?_
      have d8:=b8.below (Za a4)
      refine xlv (.o [4] 0) d8.rp ?_
      have d1:=(((((u5.blk (k1.below n4.below) (Ne.symm (Ne.symm a3))).below a7).below (Za W8)).below a1).below a0).below (Za a4)
      have g1:=n1.ge (B3 w)
      refine ysv (.o [] 5) d1 [V0 (↑(Xb l 1 1):Int),.bool ((↑(Xb l 0 1):Int)==(1:Int)),S0,S0] (.t w.heap.size [117]) fun h7 e9 g8=>⟨(Xd e9 d1 g1 (by decide)),?_⟩
      have e0:=e9.below (bln (bln (bln (bln (bln (u5.below (bln a5 n4.below) g4) a7) (Za W8)) a1) a0) (Za a4)) g1
      exact xec (.r [6,7] 3) g8 (.tuple #[.agg #[V0 (↑(Xb l 1 1):Int),.bool ((↑(Xb l 0 1):Int)==(1:Int)),S0,S0],V0 (↑(Xb l 2 2):Int),.bool true]) (.inr ⟨decide_eq_true (by omega),rfl,e0⟩)
     have b6:=Yj b6
     refine xx 1 _ 6 2 1 (Zt (l:=Vn l) (Zf a2) rfl (k:=2) (by decide)).1 ?_
     refine xl 0 ((Zt (l:=Vn l) (Zf a2) rfl (k:=2) (by decide)).2) ?_
     refine xd 7 (.t w.heap.size [117]) ?_
     have c3:=Zb a2 (Za a4)
     refine xx (.e [1] 2) _ 6 2 1 (Zt (l:=Vn l) (Zf c3) rfl (k:=2) (by decide)).1 ?_
     refine xlt (.e [] 3) (.t w.heap.size [117]) (fun V hV=>(Zt (l:=Vn l) (Zf (Zg c3 hV.2 (by decide))) rfl (k:=2) (by decide)).2) ?_
     have e1:=b8.below (Za a4)
     refine xlv (.o [4] 0) e1.rp ?_
     have d3:=(((((u5.blk (k1.below n4.below) (Ne.symm (Ne.symm a3))).below a7).below (Za W8)).below a1).below a0).below (Za a4)
     have g1:=n1.ge (B3 w)
     refine ysv (.o [] 5) d3 [V0 (↑(Xb l 1 1):Int),.bool ((↑(Xb l 0 1):Int)==(1:Int)),S0,S0] (.t w.heap.size [117]) fun h6 f2 g0=>⟨(Xd f2 d3 g1 (by decide)),?_⟩
     have c8:=f2.below (bln (bln (bln (bln (bln (u5.below (bln a5 n4.below) g4) a7) (Za W8)) a1) a0) (Za a4)) g1
     refine xec (.r [6,7] 3) g0 (.tuple #[.agg #[V0 (↑(Xb l 1 1):Int),.bool ((↑(Xb l 0 1):Int)==(1:Int)),S0,S0],V0 (↑(Xb l 2 2):Int),.bool (decide ((↑(Xb l 2 2):Int)>(0:Int)))]) ?_
     rcases Bool.eq_false_or_eq_true (decide ((↑(Xb l 2 2):Int)>(0:Int))) with hq|hq
     ·have f9:=of_decide_eq_true hq
      rw[hq];exact .inr ⟨decide_eq_true (by omega),rfl,c8⟩
     ·have f9:=of_decide_eq_false hq
      rw[hq];exact .inl ⟨decide_eq_false (by omega),_,_,_,rfl,c8⟩
    have a8:=Yj a8
    refine xd 13 (.t w.heap.size [117]) ?_
    have c4:=Zb a2 (Za a4)
    refine xx (.e [1] 2) _ 6 2 1 (Zt (l:=Vn l) (Zf c4) rfl (k:=2) (by decide)).1 ?_
    refine xlt (.e [] 3) (.t w.heap.size [117]) (fun V hV=>(Zt (l:=Vn l) (Zf (Zg c4 hV.2 (by decide))) rfl (k:=2) (by decide)).2) ?_
    have d9:=((a6.below a1).below a0).below (Za a4)
    refine xlv (.o [4] 0) d9.rp ?_
    have c9:=(((((u5.blk (k1.below n4.below) (Ne.symm (Ne.symm a3))).below a7).below (Za W8)).below a1).below a0).below (Za a4)
    have g1:=n1.ge (B3 w)
    refine ysv (.o [] 5) c9 [V0 (↑(Xb l 1 1):Int),.bool ((↑(Xb l 0 1):Int)==(1:Int)),S0,S0] (.t w.heap.size [117]) fun h0 f5 g5=>⟨(Xd f5 c9 g1 (by decide)),?_⟩
    have e2:=f5.below (bln (bln (bln (bln (bln (u5.below (bln a5 n4.below) g4) a7) (Za W8)) a1) a0) (Za a4)) g1
    exact xec (.r [6,7] 3) g5 (.tuple #[.agg #[V0 (↑(Xb l 1 1):Int),.bool ((↑(Xb l 0 1):Int)==(1:Int)),S0,S0],V0 (↑(Xb l 2 2):Int),.bool false]) (.inl ⟨decide_eq_false (by omega),_,_,_,rfl,e2⟩)
   have b3:=Yj b3
   refine xd 19 (.t w.heap.size [117]) ?_
   have d2:=Zb a2 (Za a4)
   refine xx (.e [1] 2) _ 6 2 1 (Zt (l:=Vn l) (Zf d2) rfl (k:=2) (by decide)).1 ?_
   refine xlt (.e [] 3) (.t w.heap.size [117]) (fun V hV=>(Zt (l:=Vn l) (Zf (Zg d2 hV.2 (by decide))) rfl (k:=2) (by decide)).2) ?_
   have e5:=((a6.below a1).below a0).below (Za a4)
   refine xlv (.o [4] 0) e5.rp ?_
   have c2:=(((((u5.blk (k1.below n4.below) (Ne.symm (Ne.symm a3))).below a7).below (Za W8)).below a1).below a0).below (Za a4)
   have g1:=n1.ge (B3 w)
   refine ysv (.o [] 5) c2 [V0 (↑(Xb l 1 1):Int),.bool ((↑(Xb l 0 1):Int)==(1:Int)),S0,S0] (.t w.heap.size [117]) fun h2 f3 f8=>⟨(Xd f3 c2 g1 (by decide)),?_⟩
   have d7:=f3.below (bln (bln (bln (bln (bln (u5.below (bln a5 n4.below) g4) a7) (Za W8)) a1) a0) (Za a4)) g1
   exact xec (.r [6,7] 3) f8 (.tuple #[.agg #[V0 (↑(Xb l 1 1):Int),.bool ((↑(Xb l 0 1):Int)==(1:Int)),S0,S0],V0 (↑(Xb l 2 2):Int),.bool false]) (.inl ⟨decide_eq_false (by omega),_,_,_,rfl,d7⟩)
  have b0:=Yj b0
  refine xd 26 (.t w.heap.size [117]) ?_
  have d0:=Zb a2 (Za a4)
  refine xx (.e [1] 2) _ 6 2 1 (Zt (l:=Vn l) (Zf d0) rfl (k:=2) (by decide)).1 ?_
  refine xlt (.e [] 3) (.t w.heap.size [117]) (fun V hV=>(Zt (l:=Vn l) (Zf (Zg d0 hV.2 (by decide))) rfl (k:=2) (by decide)).2) ?_
  have d6:=((a6.below a1).below a0).below (Za a4)
  refine xlv (.o [4] 0) d6.rp ?_
  have c0:=(((((u5.blk (k1.below n4.below) (Ne.symm (Ne.symm a3))).below a7).below (Za W8)).below a1).below a0).below (Za a4)
  have g1:=n1.ge (B3 w)
  refine ysv (.o [] 5) c0 [V0 (↑(Xb l 1 1):Int),.bool ((↑(Xb l 0 1):Int)==(1:Int)),S0,S0] (.t w.heap.size [117]) fun h3 f1 g2=>⟨(Xd f1 c0 g1 (by decide)),?_⟩
  have e4:=f1.below (bln (bln (bln (bln (bln (u5.below (bln a5 n4.below) g4) a7) (Za W8)) a1) a0) (Za a4)) g1
  exact xec (.r [6,7] 3) g2 (.tuple #[.agg #[V0 (↑(Xb l 1 1):Int),.bool ((↑(Xb l 0 1):Int)==(1:Int)),S0,S0],V0 (↑(Xb l 2 2):Int),.bool false]) (.inl ⟨decide_eq_false (by omega),_,_,_,rfl,e4⟩)
 have a9:=of_decide_eq_false a9
 refine xd 33 (.t w.heap.size [117]) ?_
 have b9:=Zb a2 (Za a4)
 refine xx (.e [1] 2) _ 6 2 1 (Zt (l:=Vn l) (Zf b9) rfl (k:=2) (by decide)).1 ?_
 refine xlt (.e [] 3) (.t w.heap.size [117]) (fun V hV=>(Zt (l:=Vn l) (Zf (Zg b9 hV.2 (by decide))) rfl (k:=2) (by decide)).2) ?_
 have e7:=((a6.below a1).below a0).below (Za a4)
 refine xlv (.o [4] 0) e7.rp ?_
 have c7:=(((((u5.blk (k1.below n4.below) (Ne.symm (Ne.symm a3))).below a7).below (Za W8)).below a1).below a0).below (Za a4)
 have g1:=n1.ge (B3 w)
 refine ysv (.o [] 5) c7 [V0 (↑(Xb l 1 1):Int),.bool ((↑(Xb l 0 1):Int)==(1:Int)),S0,S0] (.t w.heap.size [117]) fun h1 f4 f6=>⟨(Xd f4 c7 g1 (by decide)),?_⟩
 have e8:=f4.below (bln (bln (bln (bln (bln (u5.below (bln a5 n4.below) g4) a7) (Za W8)) a1) a0) (Za a4)) g1
 exact xec (.r [6,7] 3) f6 (.tuple #[.agg #[V0 (↑(Xb l 1 1):Int),.bool ((↑(Xb l 0 1):Int)==(1:Int)),S0,S0],V0 (↑(Xb l 2 2):Int),.bool false]) (.inl ⟨decide_eq_false (by omega),_,_,_,rfl,e8⟩)
theorem Zfe(a:O0)(i c:Nat)(L:List Int)(k:Int)(w:World)(hL:L.length=i)(h:Sl w (.slice a i c) i (L.map V0))(hi:i≤1000) :
 C0 88 #[.slice a i c,V0 k] w (Ret (V0 (Zbj L i k)) w):=by
 refine zin 26 Tryz.func88 ?_
 refine xg 12 [7,8] (decide (k<(0:Int))) (fun a1=>?_) (fun a1=>?_)
 ·have a1:=of_decide_eq_true a1
  exact xe 15 (V0 2) ⟨by rw[show Zbj L i k=2 from by unfold Zbj;rw[if_pos (by omega)]],(B3 w)⟩
 have a1:=of_decide_eq_false a1
 refine xid 6 (k>(281474976710655:Int)) (fun a3=>?_) (fun a3=>?_)
 ·exact xe 8 (V0 2) ⟨by rw[show Zbj L i k=2 from by unfold Zbj;rw[if_pos (by omega)]],(B3 w)⟩
 refine xg 6 [15,16] (decide ((i:Int)>(0:Int))) (fun a0=>?_) (fun a0=>?_)
 ·have a0:=of_decide_eq_true a0
  refine xwm 3 ((i:Int)-1) (↑(i-1):Int) ?_
  refine xx 0 _ i (i-1) 1 (IntsN.elem h hL (k:=(i-1)) (by omega)).1 ?_
  refine xl 0 ((IntsN.elem h hL (k:=(i-1)) (by omega)).2) ?_
  refine xid 6 ((L.getD (i-1) 0)≥k) (fun a2=>?_) (fun a2=>?_)
  ·exact xe 8 (V0 8) ⟨by rw[show Zbj L i k=8 from by unfold Zbj;rw[if_neg (by omega),if_pos (by omega)]],(B3 w)⟩
  exact xe 9 (V0 0) ⟨by rw[show Zbj L i k=0 from by unfold Zbj;rw[if_neg (by omega),if_neg (by omega)]],(B3 w)⟩
 have a0:=of_decide_eq_false a0
 exact xe 22 (V0 0) ⟨by rw[show Zbj L i k=0 from by unfold Zbj;rw[if_neg (by omega),if_neg (by omega)]],(B3 w)⟩
def Ri(l:Bl)(i:Nat):Nat:=Xb l (12+i*8) 8
def Vp(l:Bl)(n:Nat):List Int:=(List.range n).map fun i=>(Ri l i:Int)
theorem Ue(l:Bl)(n:Nat):(Vp l n).length=n:=by simp[Vp]
theorem Zbw(l:Bl)(n:Nat):Vp l (n+1)=Vp l n++[(Ri l n:Int)]:=by simp[Vp,List.range_succ]
theorem Su(l:Bl){n i:Nat}(h:i<n):(Vp l n).getD i 0=(Ri l i:Int):=by simp[Vp,List.getD,List.getElem?_range h]
def Zc1(l:Bl)(i:Nat):Bl:=(l.drop (12+Kb l*8+i*Qu l)).take (Qu l)
def Ho(l:Bl)(n:Nat):List Bl:=(List.range n).map (Zc1 l)
theorem Lx(l:Bl)(n:Nat):(Ho l n).length=n:=by simp[Ho]
theorem Ef(l:Bl)(n:Nat):Ho l (n+1)=Ho l n++[Zc1 l n]:=by simp[Ho,List.range_succ]
theorem Tr(l:Bl){n i:Nat}(h:i<n):(Ho l n).getD i []=Zc1 l i:=by simp[Ho,List.getD,List.getElem?_range h]
def Fg(l:Bl)(i:Nat):Int:=if 281474976710655<Ri l i then 2 else if 0<i∧Ri l i≤Ri l (i-1) then 8 else 0
def Yh(l:Bl):Nat→Int
 | 0=>0
 | i+1=>if Yh l i≠0 then Yh l i else Fg l i
theorem Mm{l:Bl}{i:Nat}(h:Yh l i≠0):∀ n,i≤n→Yh l n=Yh l i
 | 0,h2=>by
  obtain rfl:i=0:=by omega
  rfl
 | n+1,h2=>by
   by_cases e:i=n+1
   ·rw[e]
   ·have ih:=Mm h n (by omega)
    rw[Yh,if_pos (by rw[ih];exact h),ih]
theorem Ds{l:Bl}{i n:Nat}(h:Yh l i=0)(he:Fg l i≠0)(hi:i<n):Yh l n=Fg l i:=by
 have e:Yh l (i+1)=Fg l i:=by rw[Yh,if_neg (by rw[h];decide)]
 rw[Mm (by rw[e];exact he) n hi,e]
theorem Gy{l:Bl}{i:Nat}(h:Yh l i=0)(he:Fg l i=0):Yh l (i+1)=0:=by rw[Yh,if_neg (by rw[h];decide),he]
theorem keyE_R{l:Bl}{i:Nat}:Zbj (Vp l i) i (Ri l i:Int)=Fg l i:=by
 unfold Zbj Fg
 by_cases h:281474976710655<Ri l i
 ·rw[if_pos (by omega),if_pos h]
 ·rw[if_neg (by omega),if_neg h]
  by_cases h2:0<i
  ·rw[Su l (show i-1<i by omega)]
   by_cases h3:Ri l i≤Ri l (i-1)
   ·rw[if_pos (by omega),if_pos (by omega)]
   ·rw[if_neg (by omega),if_neg (by omega)]
  ·rw[if_neg (by omega),if_neg (by omega)]
def Fv(l:Bl):Nat:=12+Zn l*8
def Zb1(l:Bl):Nat:=12+Kb l*8
def Rh(l:Bl):Nat:=Zb1 l+Zn l*Qu l
def Aj(l:Bl):Bool:=Hp ((l.drop (Fv l)).take (Zb1 l-Fv l))&&Hp ((l.drop (Rh l)).take (244-Rh l))
def Kr(l:Bl):Int:=if Ck l then(if Aj l then Yh l (Zn l) else 7) else 7
def NodeP(l:Bl)(w:World)(e:Ending)(w':World):Prop :=
 (Kr l≠0∧e=.returned (.tuple #[.agg #[V0 0,.bool false,S0,S0],V0 (Kr l)])∧B0 w w') ∨
 (Kr l=0∧∃ kp kc vp vc,e=.returned (.tuple #[.agg #[V0 (Qb l),.bool (Xp l),.slice kp (Zn l) kc,.slice vp (Zn l) vc],V0 0])∧B0 w w' ∧
  w'.ownsRow w.heap.size 3 1 (.slice kp (Zn l) kc) (Zn l) ((Vp l (Zn l)).map V0)∧w'.ownsRow w.heap.size 9 1 (.slice vp (Zn l) vc) (Zn l) ((Ho l (Zn l)).map sv))
theorem Ls{l:Bl}(h:Ck l=true):Zn l≤Kb l:=(of_decide_eq_true h).2.2.1
theorem Ea(a:O0)(n c:Nat)(l:Bl)(w:World)(hn:l.length=n)(hl:n≤100000000)(h:Bys w (.slice a n c) l):C0 134 #[.slice a n c] w (Ret (.bool (Hp l)) w):=by
 subst hn;exact Zej a c l w hl h
theorem valN_bys{a:O0}{c i:Nat}{l:Bl}{w:World}(h:Bys w (.slice a 244 c) l)(hl:l.length=244)(hb:12+Kb l*8+(i+1)*Qu l≤244)(hi:(i+1)*Qu l=i*Qu l+Qu l) :
 Bys w (.slice (Pt a (12+Kb l*8+i*Qu l) c 1) (12+Kb l*8+(i+1)*Qu l-(12+Kb l*8+i*Qu l)) (c-(12+Kb l*8+i*Qu l))) (Zc1 l i):=by
 have:=Bys.cut h hl (12+Kb l*8+i*Qu l) (12+Kb l*8+(i+1)*Qu l) (by omega) hb
 rw[show 12+Kb l*8+(i+1)*Qu l-(12+Kb l*8+i*Qu l)=Qu l by omega] at this ⊢
 exact this
theorem Zgj{i:Nat}{l:Bl}(hl:l.length=244)(hb:12+Kb l*8+(i+1)*Qu l≤244)(hi:(i+1)*Qu l=i*Qu l+Qu l):(Zc1 l i).length=12+Kb l*8+(i+1)*Qu l-(12+Kb l*8+i*Qu l):=by
 unfold Zc1;simp only[List.length_take,List.length_drop];omega
def GetP(l:Bl)(k w:Nat)(W:World)(e:Ending)(w':World):Prop :=
 (Xb l k w<9223372036854775808∧e=.returned (.tuple #[V0 (Xb l k w:Int),V0 0])∧B0 W w')∨(¬ Xb l k w<9223372036854775808∧e=.returned (.tuple #[V0 0,V0 2])∧B0 W w')
theorem Get_P(a:O0)(n c k w:Nat)(l:Bl)(W:World)(hn:l.length=n)(hw:w=1∨w=2∨w=4∨w=8)(hk:k+w≤n)(hl:n≤100000000)(h:Bys W (.slice a n c) l)(wi:Int)(hwi:wi=(w:Int)) :
 C0 85 #[.slice a n c,V0 (k:Int),V0 wi] W (GetP l k w W):=by
 subst hn hwi
 by_cases hq:Xb l k w<9223372036854775808
 ·refine(Zge a c k w l W hw hk hl h hq).mono ?_
  rintro e V ⟨rfl,hb⟩;exact .inl ⟨hq,rfl,hb⟩
 ·refine(Zg8 a c k w l W hw hk hl h hq).mono ?_
  rintro e V ⟨rfl,hb⟩;exact .inr ⟨hq,rfl,hb⟩
theorem Zgg(l:Bl)(a:O0)(i c:Nat)(w:World)(h:Sl w (.slice a i c) i ((Vp l i).map V0))(hi:i≤1000) :
 C0 88 #[.slice a i c,V0 (↑(Ri l i):Int)] w (fun e w'=>(Fg l i=0∧e=.returned (V0 0)∧B0 w w')∨(Fg l i≠0∧e=.returned (V0 (Fg l i))∧B0 w w')):=by
 refine(Zfe a i c (Vp l i) (Ri l i) w (Ue l i) h hi).mono ?_
 rintro e W ⟨rfl,hb⟩
 rw[keyE_R]
 by_cases hz:Fg l i=0
 ·exact .inl ⟨hz,by rw[hz],hb⟩
 ·exact .inr ⟨hz,rfl,hb⟩
theorem Zei(a:O0)(c:Nat)(l:Bl)(w:World)(hl:l.length=244)(h:Bys w (.slice a 244 c) l) :
 C0 128 #[.slice a 244 c] w (NodeP l w):=by
 have l4:=Bys.cap h hl
 refine zin 104 Tryz.func128 ?_
 refine xa 2 [V0 0,.bool false,S0,S0] 117 fun b1 W1 n1=>?_
 refine xc 6 (args:=#[.slice a 244 c]) (Zdb a c l _ hl (h.below n1.below)) ?_
 rintro e W2 n0
 rcases n0 with ⟨hs,t0,l0,c0,rfl,f2⟩|⟨hs,rfl,f2⟩
 ·refine xa 4 [V0 0,.bool false,S0,S0] 117 fun b3 W3 n3=>?_
  have k1:=n1.blk.below f2
  have f8:=n3.ne k1
  have g9:=bln n1.below f2
  have g3:=n3.ge g9
  refine xsv 0 n3.blk [V0 t0,.bool l0,S0,S0] fun W4 u4 k4=>?_
  have i8:=u4.blk (k1.below n3.below) (Ne.symm (Ne.symm f8))
  refine xsv 15 i8 [V0 0,.bool false,S0,S0] fun W5 u5 k5=>?_
  have g1:=n1.ge (B3 w)
  have i1:=u5.below (u4.below (bln g9 n3.below) g3) g1
  refine xec 5 k5 (.tuple #[.agg #[V0 0,.bool false,S0,S0],V0 7]) ?_
  have he:Kr l=7:=by unfold Kr;simp[hs]
  exact .inl ⟨by rw[he];decide,by rw[he],i1⟩
 have m4:=Ls hs
 have i4:=fitG (Qb l) (Xp l)
 have h5:=maxG_le (Qb l) (Xp l)
 have k0:=widG_le (Qb l) (Xp l)
 change 12+Kb l*8+Kb l*Qu l≤244 at i4
 change Kb l≤18 at h5
 change Qu l≤24 at k0
 have n2:Zn l*Qu l≤Kb l*Qu l:=Nat.mul_le_mul_right _ m4
 refine xa 4 [V0 0,.bool false,S0,S0] 117 fun b6 W6 n6=>?_
 have k1:=n1.blk.below f2
 have a3:=n6.ne k1
 have f6:=bln n1.below f2
 have g6:=n6.ge f6
 refine xsv 0 n6.blk [V0 (Qb l),.bool (Xp l),S0,S0] fun W7 u7 k7=>?_
 refine xd 15 .z ?_
 have c3:=k7.below (Za W7)
 refine xb (.e [0] 1) 0 c3 ?_
 refine xb (.e [2] 3) 1 c3 ?_
 refine xb (.e [5] 6) 0 c3 ?_
 refine xb (.e [7] 8) 1 c3 ?_
 refine xr (.o [] 4) (args:=#[V0 (Qb l),.bool (Xp l)]) (Wf (Qb l) (Xp l) _) fun W8 f7=>?_
 refine xr (.o [] 9) (args:=#[V0 (Qb l),.bool (Xp l)]) (Sd (Qb l) (Xp l) _) fun W9 f4=>?_
 refine xwm (.r [10,11] 5) ((↑(Kb l):Int)*8) (↑((Kb l)*8):Int) ?_
 refine xwm 0 (12+(↑((Kb l)*8):Int)) (↑(12+((Kb l)*8)):Int) ?_
 refine xwm 8 ((↑(Zn l):Int)*8) (↑((Zn l)*8):Int) ?_
 refine xwm 0 (12+(↑((Zn l)*8):Int)) (↑(12+((Zn l)*8)):Int) ?_
 refine xsB 1 (fun _ _ _ _ _ zo zx zy zz V=>Uf (k:=(12+((Zn l)*8))) (h:=(12+((Kb l)*8))) (b:=a) (n:=244) (c:=c) (i:=(↑(12+((Zn l)*8)):Int)) (ki:=.i64) (j:=(↑(12+((Kb l)*8)):Int)) (kj:=.i64) 1 zo zx zy rfl zz rfl (by omega) (by omega) Tryz.underlying36 (by kernel_rfl) V) ?_
 have e4:=bln (bln (bln (u7.below (bln f6 n6.below) g6) (Za W7)) f7) f4
 refine xr 0 (args:=#[.slice (Pt a (12+((Zn l)*8)) c 1) ((12+((Kb l)*8))-(12+((Zn l)*8))) (c-(12+((Zn l)*8)))]) (Ea (Pt a (12+((Zn l)*8)) c 1) ((12+((Kb l)*8))-(12+((Zn l)*8))) (c-(12+((Zn l)*8))) _ _ (by simp;omega) (by omega) ((Bys.cut h hl (12+((Zn l)*8)) (12+((Kb l)*8)) (by omega) (by omega)).below e4)) fun o5 b2=>?_
 refine xg 2 [42,43] (!(Hp ((l.drop (Fv l)).take (Zb1 l-Fv l)))) (fun e0=>?_) (fun e0=>?_)
 ·have h4:Hp ((l.drop (Fv l)).take (Zb1 l-Fv l))=false:=by simpa using e0
  have h6:=((((u7.blk (k1.below n6.below) (Ne.symm (Ne.symm a3))).below (Za W7)).below f7).below f4).below b2
  refine xsv 16 h6 [V0 0,.bool false,S0,S0] fun p0 m5 l8=>?_
  have g1:=n1.ge (B3 w)
  have j0:=m5.below (bln e4 b2) g1
  refine xec 5 l8 (.tuple #[.agg #[V0 0,.bool false,S0,S0],V0 7]) ?_
  have he:Kr l=7:=by unfold Kr;simp[hs,Aj,h4]
  exact .inl ⟨by rw[he];decide,by rw[he],j0⟩
 have h4:Hp ((l.drop (Fv l)).take (Zb1 l-Fv l))=true:=by simpa using e0
 refine xwm 4 ((↑(Zn l):Int)*(↑(Qu l):Int)) (↑((Zn l)*(Qu l)):Int) ?_
 refine xwm 0 ((↑(12+((Kb l)*8)):Int)+(↑((Zn l)*(Qu l)):Int)) (↑((12+((Kb l)*8))+((Zn l)*(Qu l))):Int) ?_
 refine xsL 0 (fun _ _ _ _ zo zx zy V=>Jr (k:=((12+((Kb l)*8))+((Zn l)*(Qu l)))) (b:=a) (n:=244) (c:=c) (i:=(↑((12+((Kb l)*8))+((Zn l)*(Qu l))):Int)) (ki:=.i64) 1 zo zx zy rfl (by omega) Tryz.underlying36 (by kernel_rfl) V) ?_
 have e1:=bln e4 b2
 refine xr 0 (args:=#[.slice (Pt a ((12+((Kb l)*8))+((Zn l)*(Qu l))) c 1) (244-((12+((Kb l)*8))+((Zn l)*(Qu l)))) (c-((12+((Kb l)*8))+((Zn l)*(Qu l))))]) (Ea (Pt a ((12+((Kb l)*8))+((Zn l)*(Qu l))) c 1) (244-((12+((Kb l)*8))+((Zn l)*(Qu l)))) (c-((12+((Kb l)*8))+((Zn l)*(Qu l)))) _ _ (by simp;omega) (by omega) ((Bys.cut h hl (12+((Kb l)*8)+((Zn l)*(Qu l))) 244 (by omega) (by omega)).below e1)) fun n4 b9=>?_
 refine xi 4 (!(Hp ((l.drop (Rh l)).take (244-Rh l)))) (fun d9=>?_) (fun d9=>?_)
 ·have k2:Hp ((l.drop (Rh l)).take (244-Rh l))=false:=by simpa using d9
  have j4:=(((((u7.blk (k1.below n6.below) (Ne.symm (Ne.symm a3))).below (Za W7)).below f7).below f4).below b2).below b9
  refine xsv 3 j4 [V0 0,.bool false,S0,S0] fun p1 m0 m3=>?_
  have g1:=n1.ge (B3 w)
  have h9:=m0.below (bln e1 b9) g1
  refine xec 5 m3 (.tuple #[.agg #[V0 0,.bool false,S0,S0],V0 7]) ?_
  have he:Kr l=7:=by unfold Kr;simp[hs,Aj,h4,k2]
  exact .inl ⟨by rw[he];decide,by rw[he],h9⟩
 have k2:Hp ((l.drop (Rh l)).take (244-Rh l))=true:=by simpa using d9
 have i9:Aj l=true:=by unfold Aj;rw[h4,k2];rfl
 have i2:=bln e1 b9
 have j5:=(((((u7.blk (k1.below n6.below) (Ne.symm (Ne.symm a3))).below (Za W7)).below f7).below f4).below b2).below b9
 have j6:=(((c3.below f7).below f4).below b2).below b9
 refine zl 10 104 (fun zm l3 V=>∃ (i:Nat) (kp:O0) (kc:Nat) (vp:O0) (vc:Nat),l3=[(0,.slice a 244 c),(2,P0 b1),(4,P0 b6),(7,V0 (↑(Qu l):Int)),(9,V0 (↑(12+((Kb l)*8)):Int)),(55,V0 (↑(Zn l):Int)),(56,V0 (i:Int))]∧zm=Zn l-((i:Int)).toNat∧B0 w V∧Blk V b1 ([V0 0,.bool false,S0,S0]) 117∧Blk V b6 ([V0 (Qb l),.bool (Xp l),.slice kp i kc,.slice vp i vc]) 117∧V.ownsRow w.heap.size 3 1 (.slice kp i kc) i ((Vp l i).map V0)∧V.ownsRow w.heap.size 9 1 (.slice vp i vc) i ((Ho l i).map sv)∧i≤Zn l∧Yh l i=0) ⟨0,none,0,none,0,rfl,rfl,i2,j5,j6,World.ownsRow_nil _ _ _ _,World.ownsRow_nil _ _ _ _,Nat.zero_le _,rfl⟩ ?_
 rintro _ _ o4 ⟨i,kp,kc,vp,vc,rfl,rfl,a6,a0,c6,hK,hV,hi,hz⟩ n7 h1 o6
 have k9:(i+1)*Qu l=i*Qu l+Qu l:=Nat.succ_mul i (Qu l)
 have l2:i<Zn l→(i+1)*Qu l≤Kb l*Qu l:=fun hh=>Nat.mul_le_mul_right _ (by omega)
 refine xid 6 ((i:Int)<(↑(Zn l):Int)) (fun k3=>?_) (fun k3=>?_)
 ·refine xwm 14 ((i:Int)*8) (↑(i*8):Int) ?_
  refine xwm 0 (12+(↑(i*8):Int)) (↑(12+(i*8)):Int) ?_
  refine xc 0 (args:=#[.slice a 244 c,V0 (↑(12+(i*8)):Int),V0 8]) (Get_P a 244 c (12+(i*8)) 8 l _ hl (by decide) (by omega) (by decide) (h.below a6) 8 rfl) ?_
  rintro e p4 j9
  rcases j9 with ⟨m9,rfl,a2⟩|⟨m9,rfl,a2⟩
  ·have a5:=c6.below a2
   refine xb 17 2 a5 ?_
   have h0:=Zb hK a2
   refine xc 1 (args:=#[.slice kp i kc,V0 (↑(Ri l i):Int)]) (Zgg l kp i kc _ (Zf h0) (by omega)) ?_
   rintro e o1 j1
   rcases j1 with ⟨e6,rfl,a4⟩|⟨e6,rfl,a4⟩
   ·have a8:=a5.below a4
    refine xb 16 2 a8 ?_
    refine xbs 1 1 [V0 (↑(Ri l i):Int)] 3 fun n8 o9 c9=>?_
    have g8:=bln (bln a6 a2) a4
    have n5:=c9.ge g8
    have f5:=Zb h0 a4
    have j7:=Xa f5 c9
    have c4:=Zb f5 c9.below
    have d3:=bln g8 c9.below
    refine xbi 0 fun _ _ _ _ zJ zQ zo zx zy zK=>Xk (m:=1) (news:=[V0 (↑(Ri l i):Int)]) (V0 0) 1 8 (i+1) ((Vp l (i+1)).map V0) zo Tryz.underlying68 (by kernel_rfl) rfl (by decide) zx c4 zy (c9.blk.sl 1 1 (by decide) (by decide)) rfl (by simp[Value.oneCell']) (by unfold maxLen;omega) (by omega) d3.size (by rfl) (by rw[Zbw,List.map_append];rfl) fun e3 e2 p8 l1 d0 j2=>?_
    refine zK _ _ ?_
    have a1:=(a8.below c9.below).grown d0 c4 (by decide)
    refine xs 1 a1 [V0 (Qb l),.bool (Xp l),.slice e3 (i+1) e2,.slice vp i vc] fun d4 e5 k6=>?_
    refine xd 2 (.t w.heap.size [9,117]) ?_
    refine xwm (.e [0,2,3,4,5] 6) ((i:Int)*(↑(Qu l):Int)) (↑(i*(Qu l)):Int) ?_
    refine xwm (.e [] 7) ((↑(12+((Kb l)*8)):Int)+(↑(i*(Qu l)):Int)) (↑((12+((Kb l)*8))+(i*(Qu l))):Int) ?_
    refine xwm (.e [8,9] 10) ((i:Int)+1) (↑(i+1):Int) ?_
    refine xwm (.e [11] 12) ((↑(i+1):Int)*(↑(Qu l):Int)) (↑((i+1)*(Qu l)):Int) ?_
    refine xwm (.e [] 13) ((↑(12+((Kb l)*8)):Int)+(↑((i+1)*(Qu l)):Int)) (↑((12+((Kb l)*8))+((i+1)*(Qu l))):Int) ?_
    refine xsB (.e [] 14) (fun _ _ _ _ _ zo zx zy zz V=>Uf (k:=((12+((Kb l)*8))+(i*(Qu l)))) (h:=((12+((Kb l)*8))+((i+1)*(Qu l)))) (b:=a) (n:=244) (c:=c) (i:=(↑((12+((Kb l)*8))+(i*(Qu l))):Int)) (ki:=.i64) (j:=(↑((12+((Kb l)*8))+((i+1)*(Qu l))):Int)) (kj:=.i64) 1 zo zx zy rfl zz rfl (by omega) (by omega) Tryz.underlying36 (by kernel_rfl) V) ?_
    have b4:=Zb (e5.own2 (Zz (Zb (Zb (Zb hV a2) a4) c9.below) d0 c4 (by decide)) a1 (by decide)) (Za d4)
    have a7:=bln (e5.below (d3.trans j2) g6) (Za d4)
    refine xcvt (.e [] 15) (.t w.heap.size [9,117]) (fun _ _ _ zo zx V b4=>Lb zo zx ((valN_bys h hl (by omega) k9).below (Ya a7 b4 (Nat.le_refl _))) (Zgj hl (by omega) k9) Tryz.underlying36 Tryz.underlying5 Tryz.underlying9) ?_
    refine xm2 0 1 16 ?_ ?_
    ·have d5:=k6.below (Za d4)
     refine xb 0 3 d5 ?_
     refine xbs (.o [] 16) 1 [.string ⟨(Zc1 l i).toArray⟩] 9 fun p6 p9 d1=>?_
     have p3:=d1.ge a7
     have i3:=Xa b4 d1
     have b7:=Zb b4 d1.below
     have d8:=bln a7 d1.below
     refine ybi (.o [] 17) (.t w.heap.size [9,117]) fun _ _ _ _ zJ zQ zo zx zy zK=>Xk (m:=1) (news:=[.string ⟨(Zc1 l i).toArray⟩]) (.string ⟨#[]⟩) 1 16 (i+1) ((Ho l (i+1)).map sv) zo Tryz.underlying115 (by kernel_rfl) rfl (by decide) zx b7 zy (d1.blk.sl 1 1 (by decide) (by decide)) rfl (by simp[Value.oneCell']) (by unfold maxLen;omega) (by omega) d8.size (by rfl) (by rw[Ef,List.map_append];rfl) fun i0 j3 n9 m1 c8 f9=>?_
     refine zK _ _ (Yd f9 c8 b7 (by decide)) ?_
     have b0:=(d5.below d1.below).grown c8 b7 (by decide)
     refine ys (.o [18] 19) b0 [V0 (Qb l),.bool (Xp l),.slice e3 (i+1) e2,.slice i0 (i+1) j3] (.t w.heap.size [9,117]) fun q0 h3 m2=>⟨(Xd h3 b0 g6 (by decide)),?_⟩
     refine xwm 4 ((i:Int)+1) (↑(i+1):Int) ?_
     have e8:=h3.below (d8.trans f9) g6
     have b5:=h3.blk ((((e5.blk ((((a0.below a2).below a4).below c9.below).grown d0 c4 (by decide)) (Ne.symm (Ne.symm a3))).below (Za d4)).below d1.below).grown c8 b7 (by decide)) (Ne.symm (Ne.symm a3))
     have f3:=h3.own2 (Zz (Zb (Zb (e5.own2 l1 a1 (by decide)) (Za d4)) d1.below) c8 b7 (by decide)) b0 (by decide)
     have h2:=h3.own2 m1 b0 (by decide)
     exact ze 2 (h1 _ _ _ ⟨i+1,_,_,_,_,rfl,rfl,e8,b5,m2,f3,h2,by omega,Gy hz e6⟩ (by omega))
    refine xbs 0 1 [.string ⟨(Zc1 l i).toArray⟩] 9 fun p2 p7 d7=>?_
    have o3:=d7.ge a7
    have i7:=Xa b4 d7
    have d6:=(k6.below (Za d4)).below d7.below
    refine xb (.o [] 1) 3 d6 ?_
    have c5:=Zb b4 d7.below
    have d2:=bln a7 d7.below
    refine ybi (.o [] 17) (.t w.heap.size [9,117]) fun _ _ _ _ zJ zQ zo zx zy zK=>Xk (m:=1) (news:=[.string ⟨(Zc1 l i).toArray⟩]) (.string ⟨#[]⟩) 1 16 (i+1) ((Ho l (i+1)).map sv) zo Tryz.underlying115 (by kernel_rfl) rfl (by decide) zx c5 zy (d7.blk.sl 1 1 (by decide) (by decide)) rfl (by simp[Value.oneCell']) (by unfold maxLen;omega) (by omega) d2.size (by rfl) (by rw[Ef,List.map_append];rfl) fun i5 j8 o2 m8 c7 g0=>?_
    refine zK _ _ (Yd g0 c7 c5 (by decide)) ?_
    have a9:=d6.grown c7 c5 (by decide)
    refine ys (.o [18] 19) a9 [V0 (Qb l),.bool (Xp l),.slice e3 (i+1) e2,.slice i5 (i+1) j8] (.t w.heap.size [9,117]) fun o0 g5 l5=>⟨(Xd g5 a9 g6 (by decide)),?_⟩
    refine xwm 4 ((i:Int)+1) (↑(i+1):Int) ?_
    have e7:=g5.below (d2.trans g0) g6
    have c1:=g5.blk ((((e5.blk ((((a0.below a2).below a4).below c9.below).grown d0 c4 (by decide)) (Ne.symm (Ne.symm a3))).below (Za d4)).below d7.below).grown c7 c5 (by decide)) (Ne.symm (Ne.symm a3))
    have f1:=g5.own2 (Zz (Zb (Zb (e5.own2 l1 a1 (by decide)) (Za d4)) d7.below) c7 c5 (by decide)) a9 (by decide)
    have g2:=g5.own2 m8 a9 (by decide)
    exact ze 2 (h1 _ _ _ ⟨i+1,_,_,_,_,rfl,rfl,e7,c1,l5,f1,g2,by omega,Gy hz e6⟩ (by omega))
   refine xk 10 (show(((Fg l i) != (0:Int)):Bool)=true from bne_iff_ne.2 e6) ?_
   have b8:=(a0.below a2).below a4
   refine xsv 4 b8 [V0 0,.bool false,S0,S0] fun o8 l9 l6=>?_
   have g1:=n1.ge (B3 w)
   have f0:=l9.below (bln (bln a6 a2) a4) g1
   refine xec 10 l6 (.tuple #[.agg #[V0 0,.bool false,S0,S0],V0 (Fg l i)]) ?_
   have he:Kr l=Fg l i:=by unfold Kr;rw[if_pos hs,if_pos i9,Ds hz e6 (by omega)]
   exact .inl ⟨by rw[he];exact e6,by rw[he],f0⟩
  have c2:=a0.below a2
  refine xsv 29 c2 [V0 0,.bool false,S0,S0] fun p5 m7 m6=>?_
  have g1:=n1.ge (B3 w)
  have e9:=m7.below (bln a6 a2) g1
  refine xec 10 m6 (.tuple #[.agg #[V0 0,.bool false,S0,S0],V0 2]) ?_
  have k8:Fg l i=2:=by unfold Fg;rw[if_pos (by unfold Ri;omega)]
  have he:Kr l=2:=by unfold Kr;rw[if_pos hs,if_pos i9,Ds hz (by rw[k8];decide) (by omega),k8]
  exact .inl ⟨by rw[he];decide,by rw[he],e9⟩
 refine xlv 7 c6.rp ?_
 refine xsv 0 a0 [V0 (Qb l),.bool (Xp l),.slice kp i kc,.slice vp i vc] fun o7 i6 l7=>?_
 have g1:=n1.ge (B3 w)
 have g7:=i6.below a6 g1
 have h8:=i6.own2 hK a0 (by decide)
 have h7:=i6.own2 hV a0 (by decide)
 refine xec 4 l7 (.tuple #[.agg #[V0 (Qb l),.bool (Xp l),.slice kp i kc,.slice vp i vc],V0 0]) ?_
 obtain rfl:i=Zn l:=by omega
 exact .inr ⟨by unfold Kr;rw[if_pos hs,if_pos i9,hz],_,_,_,_,rfl,g7,h8,h7⟩
end Go.Proofs.YtgphgaehfdfjjaaGreat
namespace Go.Proofs.YtgphgaehfdfjjaaGreat
set_option maxHeartbeats 8000000
set_option maxRecDepth 100000
open Go.RowKit Go.Extern.Stop Go.Stop Go.Extern
set_option linter.unusedVariables false
section
variable {P:Program} {a:Act} {w:World} {K:Act→World→Prop} {Q:Exit→Act→World→Prop}
end
section
variable {P:Program} {ops:Array Oper} {Q:Exit→Act→World→Prop} {a a':Act} {w:World} {S:World→Prop} {md:Region.Mode} {L L':Array Bool} {fuel:Nat}
end
theorem own_ge{w:World}{base e size g n c:Nat}{xs:List Value}(h:w.ownsRow base e size (.slice (S1 g) n c) n xs):base≤g:=(h.lt g rfl).1
theorem own_blk{w:World}{base e size g n c:Nat}{xs:List Value}(h:w.ownsRow base e size (.slice (S1 g) n c) n xs):∃ cs,Blk w g cs e:=by
 rcases h.2 with ⟨h2,_⟩|⟨g',a1,a0,hv,hg,hh,_⟩
 ·cases h2
 ·simp only[Value.slice.injEq,Option.some.injEq,Addr.mk.injEq] at hv
  obtain⟨⟨rfl,_⟩,_⟩:=hv
  exact⟨a0.toList,by unfold Blk;simpa using hh⟩
theorem Ze.of_updRow{T:List TypeId}{w W:World}{base e size g n c:Nat}{xs:List Value}(u:Upd w g W)(h:w.ownsRow base e size (.slice (S1 g) n c) n xs)(hT:T.contains e=true):Ze T w W:=by
 obtain⟨cs,k⟩:=own_blk h
 exact Ze.of_upd u k hT
end Go.Proofs.YtgphgaehfdfjjaaGreat
namespace Go.Proofs.YtgphgaehfdfjjaaGreat
set_option maxHeartbeats 8000000
set_option maxRecDepth 100000
open Go.RowKit Go.Extern.Stop Go.Stop Go.Extern
set_option linter.unusedVariables false
attribute [local irreducible] wpList wpAnyH Code.wp Oper.wp Go
theorem Wp{P:Program}{a:Act}{w:World}{K:Act→World→Prop}{Q:Exit→Act→World→Prop}{o:Oper}{src dst e:TypeId}{x:Operand}(l:Bl)(ho:o.op=.convert src dst x)(hx:a.eval x=.string ⟨l.toArray⟩)
 (hs:P.underlying src=some .string) (hd:P.underlying dst=some (.slice e)) (he:P.underlying e=some (.int .u8)) (hl:l.length≤1000000)
 (k:∀ b c W,B0 w W→Bys W (.slice (S1 b) l.length c) l→K (a.put o.dst (.slice (S1 b) l.length c)) W):o.wp P a w K Q:=by
 have hr:=run_bytes_of_string (P:=P) w src dst e ⟨l.toArray⟩ hs hd he
 have a2:(⟨l.toArray⟩:ByteArray).size=l.length:=by simp[ByteArray.size]
 rw[a2] at hr
 obtain⟨W1,a0⟩:∃ W1,W1=w.drew.alloc (.cells (bytesRow ⟨l.toArray⟩ (grownCap w l.length 0 e)) e ((bytesRow ⟨l.toArray⟩ (grownCap w l.length 0 e)).size,(bytesRow ⟨l.toArray⟩ (grownCap w l.length 0 e)).size+1)):=⟨_,rfl⟩
 rw[←a0] at hr
 have h2:(execOp a.eval o).run P w=.ok (.value (.slice (some ⟨w.heap.size,0,none⟩) l.length (grownCap w l.length 0 e))) W1:=by
  simp only[execOp,ho,hx,Sem.run_bind,hr];rfl
 refine Uh h2 (k _ _ _ (by rw[a0];exact(Za w).trans (show Below w.drew.heap.size w.drew _ from blx w.drew _)) (.inr ⟨w.heap.size,0,_,rfl,grownCap_ge w l.length 0 e,grownCap_le_maxLen w l.length 0 e (by unfold maxLen;omega),fun j y hj=>?_⟩))
 have a1:j<l.length:=by have:=(List.getElem?_eq_some_iff.1 hj).1;simpa using this
 have hb:=bytesRow_at ⟨l.toArray⟩ (grownCap w l.length 0 e) j (by simpa using a1)
 have hy:y=.int .u8 ((l.toArray[j]'(by simpa using a1)).toNat:Int):=by
  rw[List.getElem?_map,List.getElem?_eq_getElem a1] at hj
  simp only[Option.map_some,Option.some.injEq] at hj
  rw[←hj];rfl
 have hh:W1.heap[w.heap.size]? = some (.cells (bytesRow ⟨l.toArray⟩ (grownCap w l.length 0 e)) e ((bytesRow ⟨l.toArray⟩ (grownCap w l.length 0 e)).size,(bytesRow ⟨l.toArray⟩ (grownCap w l.length 0 e)).size+1)):=by rw[a0];exact heap_alloc_new w.drew _
 rw[hy]
 simp[World.cell?,hh,hb]
def Ys(s:Bl):Int:=if s.length=4 then(if 1≤Xb s 0 4∧Xb s 0 4≤14399 then 0 else 2) else 7
def Js(s:Bl):Nat:=if Ys s=0 then Xb s 0 4 else 0
theorem Za8(bs:ByteArray)(i:Nat)(r:Bl)(h:i≤bs.size):(ByteArray.toList.loop bs i r).length=r.length+(bs.size-i):=by
 rw[ByteArray.toList.loop]
 split
 ·rename_i h2
  rw[Za8 bs (i+1) _ (by omega)]
  simp;omega
 ·simp;omega
termination_by bs.size-i
theorem Dq(bs:ByteArray):bs.toList.length=bs.size:=by
 unfold ByteArray.toList;rw[Za8 _ _ _ (Nat.zero_le _)];simp
theorem four_ne(n:Int):((⟨(leB n 4).toArray⟩:ByteArray).toList==(⟨#[]⟩:ByteArray).toList)=false:=by
 cases hq:((⟨(leB n 4).toArray⟩:ByteArray).toList==(⟨#[]⟩:ByteArray).toList) with
 | false=>rfl
 | true =>
  have e:=congrArg List.length (eq_of_beq hq)
  rw[Dq,Dq] at e
  simp[ByteArray.size,Zj] at e
theorem Ai(w:World) :
 C0 32 #[] w (Ky (fun w' r=>∃ b,r=.slice (S1 b) 1 1∧w.heap.size≤b∧Blk w' b [V0 4,V0 1,V0 14399] 107) w):=by
 refine zin 3 Tryz.func32 ?_
 refine xbs 8 1 [V0 4,V0 1,V0 14399] 107 fun b1 W1 n1=>?_
 have g1:=n1.ge (B3 w)
 exact xe 4 (.slice (S1 b1) 1 1) ⟨_,rfl,n1.below,_,rfl,g1,n1.blk⟩
theorem Zbk(gl:Nat)(an:O0)(cn:Nat)(n:Int)(w:World)(hl:Blk w gl [V0 4,V0 1,V0 14399] 107)(hn:Sl w (.slice an 1 cn) 1 [V0 n])(h1:1≤n)(h2:n≤14399) :
 C0 25 #[.slice (S1 gl) 1 1,.slice an 1 cn] w (Ret (.string ⟨(leB n 4).toArray⟩) w):=by
 have b3:=h1
 have b0:=h2
 clear h2
 refine zin 51 Tryz.func25 ?_
 refine xu 19 2 ?_
 refine xlv 15 hl.rp ?_
 refine xa 0 [V0 0,V0 0,V0 0] 107 fun b1 W1 n1=>?_
 have a7:=n1.ne hl
 refine xsv 1 n1.blk [V0 4,V0 1,V0 14399] fun W2 u2 k2=>?_
 have g1:=n1.ge (B3 w)
 refine xd 4 .z ?_
 refine xx (.e [0,1] 2) _ 1 0 1 (Ints.elem (l:=[n]) hn (k:=0) (by simp)).1 ?_
 have hB:=bln (u2.below n1.below g1) (Za W2)
 refine xl (.e [] 3) ((Ints.elem (l:=[n]) (hn.below hB) (k:=0) (by simp)).2) ?_
 have a1:=k2.below (Za W2)
 refine xb (.e [4] 5) 1 a1 ?_
 refine xgk (.b [6,7]) [23,24] (show(decide (n<(1:Int)):Bool)=false from decide_eq_false (by omega)) ?_
 refine xx (.e [8,9] 10) _ 1 0 1 (Ints.elem (l:=[n]) hn (k:=0) (by simp)).1 ?_
 refine xl (.e [] 11) ((Ints.elem (l:=[n]) (hn.below hB) (k:=0) (by simp)).2) ?_
 refine xb (.e [12] 13) 2 a1 ?_
 refine xk (.r [14,15] 2) (show(decide (n>(14399:Int)):Bool)=false from decide_eq_false (by omega)) ?_
 refine xd 3 .z ?_
 have a3:=a1.below (Za W2.drew)
 refine xb (.e [0] 1) 0 a3 ?_
 refine xx (.e [2,3] 4) _ 1 0 1 (Ints.elem (l:=[n]) hn (k:=0) (by simp)).1 ?_
 have a0:=bln hB (Za W2.drew)
 refine xl (.e [] 5) ((Ints.elem (l:=[n]) (hn.below a0) (k:=0) (by simp)).2) ?_
 refine xbs (.o [6] 7) 1 [V0 4,V0 n] 111 fun b4 W4 n4=>?_
 have g4:=n4.ge a0
 refine yc (.o [] 8) (args:=#[.slice (S1 b4) 1 1]) .z (Zg4 b4 n (by omega) (by omega) _ n4.blk) ?_
 rintro _ W5 ⟨_,rfl,a6,p2,c2,rfl,h2⟩
 have a9:=(bln a0 n4.below).size
 refine⟨a6,?_⟩
 have o6:=World.ownsRow_nil W5 w.heap.size 5 1
 have a5:=Zh h2 a9
 have a2:=bln (bln a0 n4.below) a6
 refine xbi (.r [9,10,11,12,13] 5) fun _ _ _ _ zJ zQ zo zx zy zK=>Xk (m:=4) (news:=(leB n 4).map bv) (.int .u8 0) 1 1 (4) ((leB n 4).map bv) zo Tryz.underlying36 (by kernel_rfl) rfl (by decide) zx o6 zy (Zf a5) (by simp[Zj]) (Vw _) (by unfold maxLen;omega) (by omega) a2.size (by rfl) (by simp) fun b5 b2 W7 o7 b6 a8=>?_
 refine zK _ _ ?_
 refine xcv0 24 (fun _ _ _ zo zx=>Lb zo zx (Jh (Zf o7) (Zj _ _)) (Zj _ _) Tryz.underlying36 Tryz.underlying5 Tryz.underlying9) ?_
 have a4:=a2.trans a8
 exact xe 4 (.string ⟨(leB n 4).toArray⟩) ⟨rfl,a4⟩
theorem Zcu(gl:Nat)(an:O0)(cn:Nat)(n:Int)(w:World)(hl:Blk w gl [V0 4,V0 1,V0 14399] 107)(hn:Sl w (.slice an 1 cn) 1 [V0 n])(h:¬ (1≤n∧n≤14399)) :
 C0 25 #[.slice (S1 gl) 1 1,.slice an 1 cn] w (Ret (.string ⟨#[]⟩) w):=by
 refine zin 51 Tryz.func25 ?_
 refine xu 19 2 ?_
 refine xlv 15 hl.rp ?_
 refine xa 0 [V0 0,V0 0,V0 0] 107 fun b1 W1 n1=>?_
 have a2:=n1.ne hl
 refine xsv 1 n1.blk [V0 4,V0 1,V0 14399] fun W2 u2 k2=>?_
 have g1:=n1.ge (B3 w)
 refine xd 4 .z ?_
 refine xx (.e [0,1] 2) _ 1 0 1 (Ints.elem (l:=[n]) hn (k:=0) (by simp)).1 ?_
 have hB:=bln (u2.below n1.below g1) (Za W2)
 refine xl (.e [] 3) ((Ints.elem (l:=[n]) (hn.below hB) (k:=0) (by simp)).2) ?_
 have a1:=k2.below (Za W2)
 refine xb (.e [4] 5) 1 a1 ?_
 refine xg (.b [6,7]) [23,24] (decide (n<(1:Int))) (fun a0=>?_) (fun a0=>?_)
 ·have a0:=of_decide_eq_true a0
  exact xe (.r [8,9,10,11,12,13,14,15] 15) (.string ⟨#[]⟩) ⟨rfl,hB⟩
 have a0:=of_decide_eq_false a0
 refine xx (.e [8,9] 10) _ 1 0 1 (Ints.elem (l:=[n]) hn (k:=0) (by simp)).1 ?_
 refine xl (.e [] 11) ((Ints.elem (l:=[n]) (hn.below hB) (k:=0) (by simp)).2) ?_
 refine xb (.e [12] 13) 2 a1 ?_
 refine xk (.r [14,15] 2) (show(decide (n>(14399:Int)):Bool)=true from decide_eq_true (by omega)) ?_
 exact xe 12 (.string ⟨#[]⟩) ⟨rfl,hB⟩
theorem Dc(gl:Nat)(s:Bl)(w:World)(hl:Blk w gl [V0 4,V0 1,V0 14399] 107)(hs:s.length≤1000)(h4:s.length≠4) :
 C0 77 #[.slice (S1 gl) 1 1,.string ⟨s.toArray⟩] w (Ky (fun w' r=>∃ p c,r=.tuple #[.slice p 1 c,V0 7]∧w'.ownsRow w.heap.size 3 1 (.slice p 1 c) 1 [V0 0]) w):=by
 refine zin 54 Tryz.func77 ?_
 refine xu 25 2 ?_
 refine xlv 14 hl.rp ?_
 refine xa 0 [V0 0,V0 0,V0 0] 107 fun b1 W1 n1=>?_
 have a4:=n1.ne hl
 refine xsv 0 n1.blk [V0 4,V0 1,V0 14399] fun W2 u2 k2=>?_
 have g1:=n1.ge (B3 w)
 refine xb 6 0 k2 ?_
 refine xbs 0 1 [V0 4] 3 fun b3 W3 n3=>?_
 have o4:=World.ownsRow_nil W3 w.heap.size 3 1
 have hB:=bln (u2.below n1.below g1) n3.below
 refine xbi 0 fun _ _ _ _ zJ zQ zo zx zy zK=>Xk (m:=1) (news:=[V0 4]) (V0 0) 1 8 (1) ([Value.int .i64 4]) zo Tryz.underlying68 (by kernel_rfl) rfl (by decide) zx o4 zy (n3.blk.sl 1 1 (by decide) (by decide)) rfl (by simp[Value.oneCell']) (by unfold maxLen;omega) (by omega) hB.size (by rfl) (by rfl) fun a7 a8 W5 o5 a5 a6=>?_
 refine zK _ _ ?_
 have a1:=(k2.below n3.below).grown a5 o4 (by decide)
 refine xb 6 0 a1 ?_
 refine xk 31 (show(((s.length:Int) != (4:Int)):Bool)=true from bne_iff_ne.2 (by omega)) ?_
 refine xmk 4 fun _ _ _ _ zJ zQ zo zx zy zK=>Hf 1 (V0 0) 1 8 [Value.int .i64 0] zo zx zy Tryz.underlying68 (by kernel_rfl) rfl (by omega) (by omega) (rfl) fun b6 W6 n6=>?_
 have a0:=hB.trans a6
 have g6:=n6.ge a0
 have a3:=Xa o5 n6
 refine zK _ _ ?_
 have a2:=bln a0 n6.below
 have o6:=Xo (size:=1) (n:=1) n6.blk g6 (rfl) (by unfold maxLen;omega)
 exact xe 6 (.tuple #[.slice (S1 b6) 1 1,V0 7]) ⟨_,rfl,a2,_,_,rfl,o6⟩
theorem Ey(gl:Nat)(s:Bl)(w:World)(hl:Blk w gl [V0 4,V0 1,V0 14399] 107)(hs:s.length≤1000)(h4:s.length=4)(h1:1≤Xb s 0 4)(h2:Xb s 0 4≤14399) :
 C0 77 #[.slice (S1 gl) 1 1,.string ⟨s.toArray⟩] w (Ky (fun w' r=>∃ p c,r=.tuple #[.slice p 1 c,V0 0]∧w'.ownsRow w.heap.size 3 1 (.slice p 1 c) 1 [V0 (↑(Xb s 0 4):Int)]) w):=by
 refine zin 54 Tryz.func77 ?_
 refine xu 25 2 ?_
 refine xlv 14 hl.rp ?_
 refine xa 0 [V0 0,V0 0,V0 0] 107 fun b1 W1 n1=>?_
 have a1:=n1.ne hl
 refine xsv 0 n1.blk [V0 4,V0 1,V0 14399] fun W2 u2 k2=>?_
 have g1:=n1.ge (B3 w)
 refine xb 6 0 k2 ?_
 refine xbs 0 1 [V0 4] 3 fun b3 W3 n3=>?_
 have o4:=World.ownsRow_nil W3 w.heap.size 3 1
 have hB:=bln (u2.below n1.below g1) n3.below
 refine xbi 0 fun _ _ _ _ zJ zQ zo zx zy zK=>Xk (m:=1) (news:=[V0 4]) (V0 0) 1 8 (1) ([Value.int .i64 4]) zo Tryz.underlying68 (by kernel_rfl) rfl (by decide) zx o4 zy (n3.blk.sl 1 1 (by decide) (by decide)) rfl (by simp[Value.oneCell']) (by unfold maxLen;omega) (by omega) hB.size (by rfl) (by rfl) fun b2 b0 W5 o5 b4 b5=>?_
 refine zK _ _ ?_
 have a5:=(k2.below n3.below).grown b4 o4 (by decide)
 refine xb 6 0 a5 ?_
 refine xk 31 (show(((s.length:Int) != (4:Int)):Bool)=false from by rw[h4];rfl) ?_
 refine xcf 5 fun _ _ _ zJ zQ zo zx zK=>Wp s zo zx Tryz.underlying9 Tryz.underlying36 Tryz.underlying5 (by omega) ?_
 intro bz cz W6 a2 b7
 refine zK _ _ ?_
 have a3:=Zb o5 a2
 refine xc 1 (args:=#[.slice (S1 bz) s.length cz,.slice b2 1 b0]) (Py (S1 bz) s.length cz s b2 b0 1 [4] [Xb s 0 4] _ rfl rfl rfl (by decide) (by simp;omega) (by omega) (by decide) b7 (Zf a3) (fun i hi=>by obtain rfl:i=0:=(by simpa using hi);have:=Ku s 0 4 (by decide);simp[Gh];omega)) ?_
 rintro _ W7 ⟨_,rfl,a9,p5,c5,rfl,h5⟩
 have b6:=(bln (hB.trans b5) a2).size
 have a7:=((((u2.blk (hl.below n1.below) (Ne.symm (Ne.symm a1))).below n3.below).grown b4 o4 (by decide)).below a2).below a9
 have a0:=Zh h5 b6
 refine xr 15 (args:=#[.slice (S1 gl) 1 1,.slice p5 1 c5]) (Zbk gl p5 c5 (↑(Xb s 0 4):Int) _ a7 (Zf a0) (by omega) (by omega)) fun W8 a8=>?_
 refine xk 4 (show(((⟨(leB (↑(Xb s 0 4):Int) 4).toArray⟩:ByteArray).toList==(⟨#[]⟩:ByteArray).toList):Bool)=false from four_ne _) ?_
 have a6:=bln (bln (bln (hB.trans b5) a2) a9) a8
 have a4:=Zb a0 a8
 exact xe 10 (.tuple #[.slice p5 1 c5,V0 0]) ⟨_,rfl,a6,_,_,rfl,a4⟩
theorem Cz(gl:Nat)(s:Bl)(w:World)(hl:Blk w gl [V0 4,V0 1,V0 14399] 107)(hs:s.length≤1000)(h4:s.length=4)(h1:¬ (1≤(Xb s 0 4:Int)∧(Xb s 0 4:Int)≤14399)) :
 C0 77 #[.slice (S1 gl) 1 1,.string ⟨s.toArray⟩] w (Ky (fun w' r=>∃ p c,r=.tuple #[.slice p 1 c,V0 2]∧w'.ownsRow w.heap.size 3 1 (.slice p 1 c) 1 [V0 0]) w):=by
 refine zin 54 Tryz.func77 ?_
 refine xu 25 2 ?_
 refine xlv 14 hl.rp ?_
 refine xa 0 [V0 0,V0 0,V0 0] 107 fun b1 W1 n1=>?_
 have a1:=n1.ne hl
 refine xsv 0 n1.blk [V0 4,V0 1,V0 14399] fun W2 u2 k2=>?_
 have g1:=n1.ge (B3 w)
 refine xb 6 0 k2 ?_
 refine xbs 0 1 [V0 4] 3 fun b3 W3 n3=>?_
 have o4:=World.ownsRow_nil W3 w.heap.size 3 1
 have hB:=bln (u2.below n1.below g1) n3.below
 refine xbi 0 fun _ _ _ _ zJ zQ zo zx zy zK=>Xk (m:=1) (news:=[V0 4]) (V0 0) 1 8 (1) ([Value.int .i64 4]) zo Tryz.underlying68 (by kernel_rfl) rfl (by decide) zx o4 zy (n3.blk.sl 1 1 (by decide) (by decide)) rfl (by simp[Value.oneCell']) (by unfold maxLen;omega) (by omega) hB.size (by rfl) (by rfl) fun b4 b7 W5 o5 b8 b6=>?_
 refine zK _ _ ?_
 have a8:=(k2.below n3.below).grown b8 o4 (by decide)
 refine xb 6 0 a8 ?_
 refine xk 31 (show(((s.length:Int) != (4:Int)):Bool)=false from by rw[h4];rfl) ?_
 refine xcf 5 fun _ _ _ zJ zQ zo zx zK=>Wp s zo zx Tryz.underlying9 Tryz.underlying36 Tryz.underlying5 (by omega) ?_
 intro bz cz W6 a4 c1
 refine zK _ _ ?_
 have a2:=Zb o5 a4
 refine xc 1 (args:=#[.slice (S1 bz) s.length cz,.slice b4 1 b7]) (Py (S1 bz) s.length cz s b4 b7 1 [4] [Xb s 0 4] _ rfl rfl rfl (by decide) (by simp;omega) (by omega) (by decide) c1 (Zf a2) (fun i hi=>by obtain rfl:i=0:=(by simpa using hi);have:=Ku s 0 4 (by decide);simp[Gh];omega)) ?_
 rintro _ W7 ⟨_,rfl,a6,p5,c5,rfl,h5⟩
 have c2:=(bln (hB.trans b6) a4).size
 have a9:=((((u2.blk (hl.below n1.below) (Ne.symm (Ne.symm a1))).below n3.below).grown b8 o4 (by decide)).below a4).below a6
 have a3:=Zh h5 c2
 refine xr 15 (args:=#[.slice (S1 gl) 1 1,.slice p5 1 c5]) (Zcu gl p5 c5 (↑(Xb s 0 4):Int) _ a9 (Zf a3) (by omega)) fun W8 a5=>?_
 refine xmk 9 fun _ _ _ _ zJ zQ zo zx zy zK=>Hf 1 (V0 0) 1 8 [Value.int .i64 0] zo zx zy Tryz.underlying68 (by kernel_rfl) rfl (by omega) (by omega) (rfl) fun b9 W9 n9=>?_
 have a0:=bln (bln (bln (hB.trans b6) a4) a6) a5
 have g9:=n9.ge a0
 have b2:=Zb (Zb a2 a6) a5
 have b5:=Xa b2 n9
 have a7:=Zb a3 a5
 have c0:=Xa a7 n9
 refine zK _ _ ?_
 have b0:=bln a0 n9.below
 have o9:=Xo (size:=1) (n:=1) n9.blk g9 (rfl) (by unfold maxLen;omega)
 exact xe 6 (.tuple #[.slice (S1 b9) 1 1,V0 2]) ⟨_,rfl,b0,_,_,rfl,o9⟩
theorem Ah(gl:Nat)(s:Bl)(w:World)(hl:Blk w gl [V0 4,V0 1,V0 14399] 107)(hs:s.length≤1000):C0 77 #[.slice (S1 gl) 1 1,.string ⟨s.toArray⟩] w (Ky (fun w' r=>∃ p c,r=.tuple #[.slice p 1 c,V0 (Ys s)]∧w'.ownsRow w.heap.size 3 1 (.slice p 1 c) 1 [V0 (Js s:Int)]) w):=by
 by_cases h4:s.length=4
 ·by_cases h1:1≤Xb s 0 4∧Xb s 0 4≤14399
  ·have he:Ys s=0:=by unfold Ys;rw[if_pos h4,if_pos h1]
   rw[he,Js,if_pos he]
   exact Ey gl s w hl hs h4 h1.1 h1.2
  ·have he:Ys s=2:=by unfold Ys;rw[if_pos h4,if_neg h1]
   rw[he,Js,if_neg (by rw[he];decide)]
   exact Cz gl s w hl hs h4 (by omega)
 ·have he:Ys s=7:=by unfold Ys;rw[if_neg h4]
  rw[he,Js,if_neg (by rw[he];decide)]
  exact Dc gl s w hl hs h4
theorem Uz(s:Bl)(w:World)(hs:s.length≤1000) :
 C0 58 #[.string ⟨s.toArray⟩] w (Ret (.tuple #[V0 (Js s:Int),V0 (Ys s)]) w):=by
 refine zin 16 Tryz.func58 ?_
 refine xc 8 (args:=#[]) (Ai _) ?_
 rintro _ W1 ⟨_,rfl,a1,gl,rfl,gg,kl⟩
 refine xc 1 (args:=#[.slice (S1 gl) 1 1,.string ⟨s.toArray⟩]) (Ah gl s _ kl hs) ?_
 rintro _ W2 ⟨_,rfl,a2,p5,c5,rfl,h5⟩
 have a0:=Zh h5 a1.size
 refine xx 10 _ 1 0 1 (Ints.elem (l:=[(Js s:Int)]) (Zf a0) (k:=0) (by simp)).1 ?_
 refine xl 0 ((Ints.elem (l:=[(Js s:Int)]) (Zf a0) (k:=0) (by simp)).2) ?_
 have hB:=bln a1 a2
 exact xe 6 (.tuple #[V0 (↑(Js s):Int),V0 (Ys s)]) ⟨rfl,hB⟩
abbrev Gj:=Nat×Int×Int
def Rz(p:Gj):List Value:=[V0 (p.1:Int),V0 p.2.1,V0 p.2.2]
theorem Hk(p:Gj):(Rz p).length=3:=rfl
def Xs:Gj:=(4,0,0)
def Kk(ps:List Gj):Prop:=ps.length≤1000∧∀ i,i<ps.length→((ps.getD i Xs).1=4∨(ps.getD i Xs).1=8)∧0≤(ps.getD i Xs).2.1∧(ps.getD i Xs).2.2<9223372036854775808∧((ps.getD i Xs).1=4→(ps.getD i Xs).2.2<4294967296)
def inP (p:Gj)(n:Int):Bool:=decide (p.2.1≤n∧n≤p.2.2)
def Jo(ps:List Gj)(N:List Int)(k:Nat):Bool:=(List.range k).all fun i=>inP (ps.getD i Xs) (N.getD i 0)
theorem Zbn(ps:List Gj)(N:List Int)(k:Nat):Jo ps N (k+1)=(Jo ps N k&&inP (ps.getD k Xs) (N.getD k 0)):=by simp[Jo,List.range_succ]
theorem Er{ps:List Gj}{N:List Int}{i k:Nat}(hi:i<k)(h:inP (ps.getD i Xs) (N.getD i 0)=false):Jo ps N k=false:=by
 unfold Jo
 rw[List.all_eq_false]
 exact⟨i,List.mem_range.2 hi,by rw[h];decide⟩
def Ps(ps:List Gj)(N:List Int)(k:Nat):Bl:=(List.range k).flatMap fun i=>leB (N.getD i 0) (ps.getD i Xs).1
theorem Pc(ps:List Gj)(N:List Int)(k:Nat):Ps ps N (k+1)=Ps ps N k++leB (N.getD k 0) (ps.getD k Xs).1:=by simp[Ps,List.range_succ]
def Hr(ps:List Gj)(k:Nat):List Nat:=(List.range k).map fun i=>(ps.getD i Xs).1
theorem Vm(ps:List Gj)(k:Nat):Hr ps (k+1)=Hr ps k++[(ps.getD k Xs).1]:=by simp[Hr,List.range_succ]
theorem Pj(ps:List Gj)(k:Nat):(Hr ps k).length=k:=by simp[Hr]
theorem wids_get(ps:List Gj){k i:Nat}(h:i<k):(Hr ps k).getD i 0=(ps.getD i Xs).1:=by simp[Hr,List.getD,List.getElem?_range h]
theorem Uq(ps:List Gj)(N:List Int)(k:Nat):(Ps ps N k).length=(Hr ps k).sum:=by
 induction k with
 | zero=>rfl
 | succ k ih=>rw[Pc,Vm,List.length_append,Zj,ih];simp
theorem Pack_48(g w:Nat)(n:Int)(W:World)(hw:w=4∨w=8)(h0:0≤n)(hb:w=4→n<4294967296)(hk:Blk W g [V0 (w:Int),V0 n] 111):C0 45 #[.slice (S1 g) 1 1] W (Ky (fun w' r=>∃ p c,r=.tuple #[.slice p w c,V0 0]∧w'.ownsRow W.heap.size 5 1 (.slice p w c) w ((leB n w).map bv)) W):=by
 rcases hw with rfl|rfl
 ·exact Zg4 g n h0 (hb rfl) W hk
 ·exact Pack_8 g n h0 W hk
def ValPutP(ps:List Gj)(N:List Int)(w:World)(e:Ending)(w':World):Prop :=
 (Jo ps N ps.length=false∧e=.returned (.string ⟨#[]⟩)∧B0 w w')∨(Jo ps N ps.length=true∧e=.returned (.string ⟨(Ps ps N ps.length).toArray⟩)∧B0 w w')
theorem Zbx(ps:List Gj)(N:List Int)(gl gn:O0)(cl cn:Nat)(w:World)(hps:Kk ps)(hNl:N.length=ps.length)(hP:Sts Rz w (.slice gl ps.length cl) ps)(hN:Sl w (.slice gn ps.length cn) ps.length (N.map V0)) :
 C0 25 #[.slice gl ps.length cl,.slice gn ps.length cn] w (ValPutP ps N w):=by
 have c4:=hps.1
 refine zin 51 Tryz.func25 ?_
 have hB:=Below.refl w.heap.size w
 refine zl 19 51 (fun zm b5 V=>∃ (i m:Nat) (q:O0) (d:Nat),b5=[(1,.slice gn ps.length cn),(5,.slice q m d),(10,.slice gl ps.length cl),(11,V0 (ps.length:Int)),(12,V0 (i:Int))]∧zm=ps.length-((i:Int)).toNat∧B0 w V∧V.ownsRow w.heap.size 5 1 (.slice q m d) m ((Ps ps N i).map bv)∧i≤ps.length∧m=(Hr ps i).sum∧m≤i*8∧Jo ps N i=true) ⟨0,0,_,_,rfl,rfl,hB,World.ownsRow_nil _ _ _ _,Nat.zero_le _,rfl,Nat.zero_le _,rfl⟩ ?_
 rintro _ _ W1 ⟨i,m,q,d,rfl,rfl,a1,ho,hi,hm,c1,a5⟩ J1 b6 r1
 refine xid 6 ((i:Int)<(ps.length:Int)) (fun b4=>?_) (fun b4=>?_)
 ·refine xx 7 _ ps.length i 3 (Sts.cell hP Hk Xs (k:=i) (i:=0) (by omega) rfl).1 ?_
  refine xlv 0 (Sts.rp (k:=i) (hP.below a1) Hk Xs (by omega) (by decide)) ?_
  refine xa 0 [V0 0,V0 0,V0 0] 107 fun b3 W3 n3=>?_
  have g3:=n3.ge a1
  refine xsv 1 n3.blk [V0 (↑(ps.getD i Xs).1:Int),V0 ((ps.getD i Xs).2.1),V0 ((ps.getD i Xs).2.2)] fun W4 u4 k4=>?_
  refine xd 4 .z ?_
  refine xx (.e [0,1] 2) _ ps.length i 1 (IntsN.elem hN hNl (k:=i) (by omega)).1 ?_
  have a0:=bln (u4.below (bln a1 n3.below) g3) (Za W4)
  refine xl (.e [] 3) ((IntsN.elem (hN.below a0) hNl (k:=i) (by omega)).2) ?_
  have a3:=k4.below (Za W4)
  refine xb (.e [4] 5) 1 a3 ?_
  refine xg (.b [6,7]) [23,24] (decide ((N.getD i 0)<(ps.getD i Xs).2.1)) (fun a4=>?_) (fun a4=>?_)
  ·have a4:=of_decide_eq_true a4
   exact xe (.r [8,9,10,11,12,13,14,15] 15) (.string ⟨#[]⟩) (.inl ⟨Er (i:=i) (by omega) (decide_eq_false (by omega)),rfl,a0⟩)
  have a4:=of_decide_eq_false a4
  refine xx (.e [8,9] 10) _ ps.length i 1 (IntsN.elem hN hNl (k:=i) (by omega)).1 ?_
  refine xl (.e [] 11) ((IntsN.elem (hN.below a0) hNl (k:=i) (by omega)).2) ?_
  refine xb (.e [12] 13) 2 a3 ?_
  refine xid (.r [14,15] 2) ((N.getD i 0)>(ps.getD i Xs).2.2) (fun b2=>?_) (fun b2=>?_)
  ·exact xe 12 (.string ⟨#[]⟩) (.inl ⟨Er (i:=i) (by omega) (decide_eq_false (by omega)),rfl,a0⟩)
  refine xd 3 .z ?_
  have a8:=a3.below (Za W4.drew)
  refine xb (.e [0] 1) 0 a8 ?_
  refine xx (.e [2,3] 4) _ ps.length i 1 (IntsN.elem hN hNl (k:=i) (by omega)).1 ?_
  have a2:=bln a0 (Za W4.drew)
  refine xl (.e [] 5) ((IntsN.elem (hN.below a2) hNl (k:=i) (by omega)).2) ?_
  refine xbs (.o [6] 7) 1 [V0 (↑(ps.getD i Xs).1:Int),V0 (N.getD i 0)] 111 fun b7 W7 n7=>?_
  have g7:=n7.ge a2
  refine yc (.o [] 8) (args:=#[.slice (S1 b7) 1 1]) .z (Pack_48 b7 (ps.getD i Xs).1 (N.getD i 0) _ (hps.2 i (by omega)).1 (by have:=(hps.2 i (by omega)).2.1;omega) (fun q=>by have:=(hps.2 i (by omega)).2.2.2 q;omega) n7.blk) ?_
  rintro _ W8 ⟨_,rfl,a7,p2,c2,rfl,h2⟩
  have b9:=(bln a2 n7.below).size
  refine⟨a7,?_⟩
  have b1:=Zb (Zb (Zb (Zb (u4.own2 (Zb ho n3.below) n3.blk (by decide)) (Za W4)) (Za W4.drew)) n7.below) a7
  have a9:=Zh h2 b9
  have a6:=bln (bln a2 n7.below) a7
  refine xbi (.r [9,10,11,12,13] 5) fun _ _ _ _ zJ zQ zo zx zy zK=>Xk (m:=(ps.getD i Xs).1) (news:=(leB (N.getD i 0) (ps.getD i Xs).1).map bv) (.int .u8 0) 1 1 ((m+(ps.getD i Xs).1)) (((Ps ps N (i+1)).map bv)) zo Tryz.underlying36 (by kernel_rfl) rfl (by decide) zx b1 zy (Zf a9) (by simp[Zj]) (Vw _) (by unfold maxLen;have:=(hps.2 i (by omega)).1;omega) (by have:=(hps.2 i (by omega)).1;omega) a6.size (by rfl) (by rw[Pc,List.map_append]) fun c0 c3 W9 o9 c5 b8=>?_
  refine zK _ _ ?_
  refine xwm 5 ((i:Int)+1) (↑(i+1):Int) ?_
  have b0:=a6.trans b8
  exact ze 2 (b6 _ _ _ ⟨i+1,_,_,_,rfl,rfl,b0,o9,by omega,by rw[Vm,hm];simp,by have:=(hps.2 i (by omega)).1;omega,by rw[Zbn,a5];exact decide_eq_true ⟨by omega,by omega⟩⟩ (by omega))
 refine xcv0 8 (fun _ _ _ zo zx=>Lb zo zx (Jh (Zf ho) (by rw[Uq];exact hm.symm)) (by rw[Uq];exact hm.symm) Tryz.underlying36 Tryz.underlying5 Tryz.underlying9) ?_
 refine xe 4 (.string ⟨(Ps ps N i).toArray⟩) ?_
 obtain rfl:i=ps.length:=by omega
 exact .inr ⟨a5,rfl,a1⟩
def Gi(ps:List Gj)(s:Bl):List Nat:=Gh s 0 (Hr ps ps.length)
theorem Wv(ps:List Gj)(s:Bl):(Gi ps s).length=ps.length:=by rw[Gi,Ew,Pj]
def Uy(ps:List Gj)(s:Bl):Bool:=Jo ps ((Gi ps s).map fun n:Nat=>(n:Int)) ps.length
def Xv(ps:List Gj)(s:Bl):Int:=if s.length=(Hr ps ps.length).sum then(if Uy ps s then 0 else 2) else 7
def Yu(ps:List Gj)(s:Bl):List Nat:=if Xv ps s=0 then Gi ps s else List.replicate ps.length 0
theorem Yt(ps:List Gj)(s:Bl):(Yu ps s).length=ps.length:=by
 unfold Yu;split
 ·exact Wv ps s
 ·simp
theorem Zd6{ps:List Gj}{s:Bl}(hp:Kk ps)(h:Uy ps s=true):∀ i,i<(Hr ps ps.length).length→(Gh s 0 (Hr ps ps.length)).getD i 0<9223372036854775808:=by
 intro i hi
 rw[Pj] at hi
 unfold Uy Jo at h
 rw[List.all_eq_true] at h
 have h1:=of_decide_eq_true (h i (List.mem_range.2 hi))
 have h2:=(hp.2 i hi).2.2.1
 rw[show((Gi ps s).map fun n:Nat=>(n:Int)).getD i 0=(((Gi ps s).getD i 0:Nat):Int) by simp[List.getD,show i<(Gi ps s).length by rw[Wv];exact hi]] at h1
 change (Gi ps s).getD i 0<_
 omega
theorem map_nv(l:List Nat):l.map nv=(l.map fun n:Nat=>(n:Int)).map V0:=by simp[nv]
theorem putL_ne{ps:List Gj}{N:List Int}(hp:Kk ps)(h0:0<ps.length):((⟨(Ps ps N ps.length).toArray⟩:ByteArray).toList==(⟨#[]⟩:ByteArray).toList)=false:=by
 rw[show(⟨#[]⟩:ByteArray)=⟨([]:Bl).toArray⟩ from rfl,str_beq]
 apply beq_false_of_ne
 intro q
 have h1:=congrArg List.length q
 obtain⟨k,hk⟩:∃ k,ps.length=k+1:=⟨ps.length-1,by omega⟩
 rw[hk,Pc,List.length_append,Zj] at h1
 rw[List.length_nil] at h1
 have:=(hp.2 k (by omega)).1
 omega
theorem Ft(n:Nat):Jv (Value.int .i64 0).cells.toList n=(List.replicate n 0).map nv:=by
 rw[show(Value.int .i64 0).cells.toList=[Value.int .i64 0] from rfl,Jv,List.map_replicate]
 induction n with
 | zero=>rfl
 | succ n ih=>rw[List.replicate_succ,List.flatten_cons,ih,List.replicate_succ];rfl
theorem Bj(ps:List Gj)(s:Bl)(gl:O0)(cl:Nat)(w:World)(hps:Kk ps)(h0:0<ps.length)(hs:s.length≤100000)(hP:Sts Rz w (.slice gl ps.length cl) ps)(hsl:s.length≠(Hr ps ps.length).sum) :
 C0 77 #[.slice gl ps.length cl,.string ⟨s.toArray⟩] w (Ky (fun w' r=>∃ p c,r=.tuple #[.slice p ps.length c,V0 (Xv ps s)]∧w'.ownsRow w.heap.size 3 1 (.slice p ps.length c) ps.length ((Yu ps s).map nv)) w):=by
 have c1:=hps.1
 refine zin 54 Tryz.func77 ?_
 have hB:=Below.refl w.heap.size w
 refine zl 25 54 (fun zm b6 V=>∃ (i:Nat) (q:O0) (d:Nat),b6=[(0,.slice gl ps.length cl),(1,.string ⟨s.toArray⟩),(4,S0),(5,V0 0),(6,.slice q i d),(7,V0 (↑(Hr ps i).sum:Int)),(12,.slice gl ps.length cl),(13,V0 (ps.length:Int)),(14,V0 (i:Int))]∧zm=ps.length-((i:Int)).toNat∧B0 w V∧V.ownsRow w.heap.size 3 1 (.slice q i d) i ((Hr ps i).map nv)∧i≤ps.length∧(Hr ps i).sum≤i*8) ⟨0,_,_,rfl,rfl,hB,World.ownsRow_nil _ _ _ _,Nat.zero_le _,Nat.zero_le _⟩ ?_
 rintro _ _ W1 ⟨i,q,d,rfl,rfl,a0,ho,hi,b9⟩ J1 b8 r1
 have b1:i<ps.length→(ps.getD i Xs).1≤8:=fun q=>by have:=(hps.2 i q).1;omega
 refine xid 6 ((i:Int)<(ps.length:Int)) (fun b4=>?_) (fun b4=>?_)
 ·refine xx 6 _ ps.length i 3 (Sts.cell hP Hk Xs (k:=i) (i:=0) (by omega) rfl).1 ?_
  refine xlv 0 (Sts.rp (k:=i) (hP.below a0) Hk Xs (by omega) (by decide)) ?_
  refine xa 0 [V0 0,V0 0,V0 0] 107 fun b3 W3 n3=>?_
  have g3:=n3.ge a0
  refine xsv 0 n3.blk [V0 (↑(ps.getD i Xs).1:Int),V0 ((ps.getD i Xs).2.1),V0 ((ps.getD i Xs).2.2)] fun W4 u4 k4=>?_
  refine xb 6 0 k4 ?_
  refine xbs 0 1 [V0 (↑(ps.getD i Xs).1:Int)] 3 fun b5 W5 n5=>?_
  have a1:=u4.below (bln a0 n3.below) g3
  have g5:=n5.ge a1
  have a3:=u4.own2 (Zb ho n3.below) n3.blk (by decide)
  have a8:=Xa a3 n5
  have a4:=Zb a3 n5.below
  have a2:=bln a1 n5.below
  refine xbi 0 fun _ _ _ _ zJ zQ zo zx zy zK=>Xk (m:=1) (news:=[V0 (↑(ps.getD i Xs).1:Int)]) (V0 0) 1 8 (i+1) (((Hr ps (i+1)).map nv)) zo Tryz.underlying68 (by kernel_rfl) rfl (by decide) zx a4 zy (n5.blk.sl 1 1 (by decide) (by decide)) rfl (by simp[Value.oneCell']) (by unfold maxLen;omega) (by omega) a2.size (by rfl) (by rw[Vm,List.map_append];rfl) fun c2 c0 W6 o6 b2 b0=>?_
  refine zK _ _ ?_
  have a5:=(k4.below n5.below).grown b2 a4 (by decide)
  refine xb 6 0 a5 ?_
  refine xwm 0 ((↑(Hr ps i).sum:Int)+(↑(ps.getD i Xs).1:Int)) (↑((Hr ps i).sum+((ps.getD i Xs).1)):Int) ?_
  refine xwm 5 ((i:Int)+1) (↑(i+1):Int) ?_
  refine xv1 2 7 (show(V0 (↑((Hr ps i).sum+((ps.getD i Xs).1)):Int):Value)=V0 (↑(Hr ps (i+1)).sum:Int) from by rw[Vm];simp) ?_
  have a7:=a2.trans b0
  exact ze 0 (b8 _ _ _ ⟨i+1,_,_,rfl,rfl,a7,o6,by omega,by rw[Vm,List.sum_append,List.sum_cons,List.sum_nil];have:=b1 (by omega);omega⟩ (by omega))
 refine xk 14 (show(((s.length:Int) != (↑(Hr ps i).sum:Int)):Bool)=true from bne_iff_ne.2 (by rw[show i=ps.length by omega];omega)) ?_
 refine xmk 4 fun _ _ _ _ zJ zQ zo zx zy zK=>Hf ps.length (V0 0) 1 8 ((List.replicate ps.length 0).map nv) zo zx zy Tryz.underlying68 (by kernel_rfl) rfl (by omega) (by omega) (Ft _) fun b7 W7 n7=>?_
 have g7:=n7.ge a0
 have a9:=Xa ho n7
 refine zK _ _ ?_
 have a6:=bln a0 n7.below
 have o7:=Xo (size:=1) (n:=ps.length) n7.blk g7 (by simp) (by unfold maxLen;omega)
 refine xe 6 (.tuple #[.slice (S1 b7) ps.length ps.length,V0 7]) ?_
 have he:Xv ps s=7:=if_neg hsl
 exact⟨_,rfl,a6,_,_,by rw[he],by rw[Yu,if_neg (by rw[he];decide)];exact o7⟩
def UnpP(s:Bl)(ws:List Nat)(n:Nat)(W:World)(e:Ending)(w':World):Prop :=
 ((¬ ∀ i,i<ws.length→(Gh s 0 ws).getD i 0<9223372036854775808)∧e=.returned (.tuple #[S0,V0 2])∧B0 W w') ∨
 ((∀ i,i<ws.length→(Gh s 0 ws).getD i 0<9223372036854775808)∧∃ p c,e=.returned (.tuple #[.slice p n c,V0 0])∧B0 W w'∧w'.ownsRow W.heap.size 3 1 (.slice p n c) n ((Gh s 0 ws).map nv))
theorem Unpack_P(a:O0)(n c m:Nat)(s:Bl)(aw:O0)(cw:Nat)(ws:List Nat)(W:World)(hn:s.length=n)(hm:ws.length=m)(hk:∀ i,i<ws.length→ws.getD i 0=1∨ws.getD i 0=2∨ws.getD i 0=4∨ws.getD i 0=8)(hs:ws.sum≤n)(hl:n≤100000000)(hw:m≤1000)(h:Bys W (.slice a n c) s)(hws:Sl W (.slice aw m cw) m (ws.map nv)) :
 C0 97 #[.slice a n c,.slice aw m cw] W (UnpP s ws m W):=by
 subst hn hm
 by_cases hq:∀ i,i<ws.length→(Gh s 0 ws).getD i 0<9223372036854775808
 ·refine(Sm a c s aw cw ws W hk hs hl hw h hws hq).mono ?_
  rintro e V ⟨_,rfl,hb,p,c2,rfl,ho⟩
  exact .inr ⟨hq,p,c2,rfl,hb,ho⟩
 ·refine(Zc5 a c s aw cw ws W hk hs hl hw h hws hq).mono ?_
  rintro e V ⟨rfl,hb⟩
  exact .inl ⟨hq,rfl,hb⟩
theorem Zd4(ps:List Gj)(s:Bl)(k:Nat):((Gh s 0 (Hr ps k)).map fun n:Nat=>(n:Int)).length=k:=by rw[List.length_map,Ew,Pj]
theorem Wo(ps:List Gj)(N:List Int)(gl gn:O0)(cl cn n:Nat)(w:World)(hps:Kk ps)(hn:n=ps.length)(hNl:N.length=n)(hP:Sts Rz w (.slice gl ps.length cl) ps)(hN:Sl w (.slice gn n cn) n (N.map V0)) :
 C0 25 #[.slice gl ps.length cl,.slice gn n cn] w (fun e w'=>(Jo ps N n=false∧e=.returned (.string ⟨#[]⟩)∧B0 w w')∨(Jo ps N n=true∧e=.returned (.string ⟨(Ps ps N ps.length).toArray⟩)∧B0 w w')):=by
 subst hn;exact Zbx ps N gl gn cl cn w hps hNl hP hN
theorem Da(ps:List Gj)(s:Bl)(gl:O0)(cl:Nat)(w:World)(hps:Kk ps)(h0:0<ps.length)(hs:s.length≤100000)(hP:Sts Rz w (.slice gl ps.length cl) ps)(hsl:s.length=(Hr ps ps.length).sum) :
 C0 77 #[.slice gl ps.length cl,.string ⟨s.toArray⟩] w (Ky (fun w' r=>∃ p c,r=.tuple #[.slice p ps.length c,V0 (Xv ps s)]∧w'.ownsRow w.heap.size 3 1 (.slice p ps.length c) ps.length ((Yu ps s).map nv)) w):=by
 have f2:=hps.1
 refine zin 54 Tryz.func77 ?_
 have hB:=Below.refl w.heap.size w
 refine zl 25 54 (fun zm e5 V=>∃ (i:Nat) (q:O0) (d:Nat),e5=[(0,.slice gl ps.length cl),(1,.string ⟨s.toArray⟩),(4,S0),(5,V0 0),(6,.slice q i d),(7,V0 (↑(Hr ps i).sum:Int)),(12,.slice gl ps.length cl),(13,V0 (ps.length:Int)),(14,V0 (i:Int))]∧zm=ps.length-((i:Int)).toNat∧B0 w V∧V.ownsRow w.heap.size 3 1 (.slice q i d) i ((Hr ps i).map nv)∧i≤ps.length∧(Hr ps i).sum≤i*8) ⟨0,_,_,rfl,rfl,hB,World.ownsRow_nil _ _ _ _,Nat.zero_le _,Nat.zero_le _⟩ ?_
 rintro _ _ W1 ⟨i,q,d,rfl,rfl,a0,ho,hi,f0⟩ J1 e7 r1
 have e1:i<ps.length→(ps.getD i Xs).1≤8:=fun q=>by have:=(hps.2 i q).1;omega
 refine xid 6 ((i:Int)<(ps.length:Int)) (fun e3=>?_) (fun e3=>?_)
 ·refine xx 6 _ ps.length i 3 (Sts.cell hP Hk Xs (k:=i) (i:=0) (by omega) rfl).1 ?_
  refine xlv 0 (Sts.rp (k:=i) (hP.below a0) Hk Xs (by omega) (by decide)) ?_
  refine xa 0 [V0 0,V0 0,V0 0] 107 fun b3 W3 n3=>?_
  have g3:=n3.ge a0
  refine xsv 0 n3.blk [V0 (↑(ps.getD i Xs).1:Int),V0 ((ps.getD i Xs).2.1),V0 ((ps.getD i Xs).2.2)] fun W4 u4 k4=>?_
  refine xb 6 0 k4 ?_
  refine xbs 0 1 [V0 (↑(ps.getD i Xs).1:Int)] 3 fun b5 W5 n5=>?_
  have a7:=u4.below (bln a0 n3.below) g3
  have g5:=n5.ge a7
  have b1:=u4.own2 (Zb ho n3.below) n3.blk (by decide)
  have d4:=Xa b1 n5
  have b2:=Zb b1 n5.below
  have b0:=bln a7 n5.below
  refine xbi 0 fun _ _ _ _ zJ zQ zo zx zy zK=>Xk (m:=1) (news:=[V0 (↑(ps.getD i Xs).1:Int)]) (V0 0) 1 8 (i+1) (((Hr ps (i+1)).map nv)) zo Tryz.underlying68 (by kernel_rfl) rfl (by decide) zx b2 zy (n5.blk.sl 1 1 (by decide) (by decide)) rfl (by simp[Value.oneCell']) (by unfold maxLen;omega) (by omega) b0.size (by rfl) (by rw[Vm,List.map_append];rfl) fun f4 f1 W6 o6 e2 d6=>?_
  refine zK _ _ ?_
  have c6:=(k4.below n5.below).grown e2 b2 (by decide)
  refine xb 6 0 c6 ?_
  refine xwm 0 ((↑(Hr ps i).sum:Int)+(↑(ps.getD i Xs).1:Int)) (↑((Hr ps i).sum+((ps.getD i Xs).1)):Int) ?_
  refine xwm 5 ((i:Int)+1) (↑(i+1):Int) ?_
  refine xv1 2 7 (show(V0 (↑((Hr ps i).sum+((ps.getD i Xs).1)):Int):Value)=V0 (↑(Hr ps (i+1)).sum:Int) from by rw[Vm];simp) ?_
  have d1:=b0.trans d6
  exact ze 0 (e7 _ _ _ ⟨i+1,_,_,rfl,rfl,d1,o6,by omega,by rw[Vm,List.sum_append,List.sum_cons,List.sum_nil];have:=e1 (by omega);omega⟩ (by omega))
 refine xk 14 (show(((s.length:Int) != (↑(Hr ps i).sum:Int)):Bool)=false from by rw[show i=ps.length by omega,hsl];simp) ?_
 refine xcf 5 fun _ _ _ zJ zQ zo zx zK=>Wp s zo zx Tryz.underlying9 Tryz.underlying36 Tryz.underlying5 (by omega) ?_
 intro bz cz W7 b6 e0
 refine zK _ _ ?_
 have a2:=Zb ho b6
 refine xc 1 (args:=#[.slice (S1 bz) s.length cz,.slice q i d]) (Unpack_P (S1 bz) s.length cz i s q d (Hr ps i) _ rfl (Pj ps i) (fun j hj=>by rw[Pj] at hj;rw[wids_get ps hj];have:=(hps.2 j (by omega)).1;omega) (by rw[show i=ps.length by omega];omega) (by omega) (by omega) e0 (Zf a2)) ?_
 rintro e W8 e6
 rcases e6 with ⟨hq,rfl,a6⟩|⟨hq,p5,c5,rfl,a6,h5⟩
 ·have a5:i=ps.length:=by omega
  have c8:Uy ps s=false:=by rw[←Bool.not_eq_true];intro q;exact hq (by rw[a5];exact Zd6 hps q)
  refine xmk 25 fun _ _ _ _ zJ zQ zo zx zy zK=>Hf ps.length (V0 0) 1 8 ((List.replicate ps.length 0).map nv) zo zx zy Tryz.underlying68 (by kernel_rfl) rfl (by omega) (by omega) (Ft _) fun b9 W9 n9=>?_
  have a9:=bln (bln a0 b6) a6
  have g9:=n9.ge a9
  have b7:=Zb a2 a6
  have d5:=Xa b7 n9
  refine zK _ _ ?_
  have c7:=bln a9 n9.below
  have o9:=Xo (size:=1) (n:=ps.length) n9.blk g9 (by simp) (by unfold maxLen;omega)
  refine xe 6 (.tuple #[.slice (S1 b9) ps.length ps.length,V0 2]) ?_
  have he:Xv ps s=2:=by unfold Xv;rw[if_pos hsl,if_neg (by rw[c8];decide)]
  exact⟨_,rfl,c7,_,_,by rw[he],by rw[Yu,if_neg (by rw[he];decide)];exact o9⟩
 have e8:=(bln a0 b6).size
 have a5:i=ps.length:=by omega
 have a4:=Zh h5 e8
 have e4:Sl (W8) (.slice p5 i c5) i (((Gh s 0 (Hr ps i)).map fun n:Nat=>(n:Int)).map V0):=by have q:=Zf a4;rw[map_nv] at q;exact q
 have a3:=bln (bln a0 b6) a6
 refine xc 15 (args:=#[.slice gl ps.length cl,.slice p5 i c5]) (Wo ps ((Gh s 0 (Hr ps i)).map fun n:Nat=>(n:Int)) gl p5 cl c5 i _ hps a5 (Zd4 ps s i) (hP.below a3) e4) ?_
 rintro e e9 c4
 rcases c4 with ⟨c3,rfl,a1⟩|⟨c3,rfl,a1⟩
 ·have c8:Uy ps s=false:=by unfold Uy Gi;rw[←a5];exact c3
  refine xmk 9 fun _ _ _ _ zJ zQ zo zx zy zK=>Hf ps.length (V0 0) 1 8 ((List.replicate ps.length 0).map nv) zo zx zy Tryz.underlying68 (by kernel_rfl) rfl (by omega) (by omega) (Ft _) fun d8 f3 b4=>?_
  have a8:=bln a3 a1
  have d7:=b4.ge a8
  have d2:=Zb (Zb a2 a6) a1
  have c2:=Xa d2 b4
  have c0:=Zb a4 a1
  have b8:=Xa c0 b4
  refine zK _ _ ?_
  have d0:=bln a8 b4.below
  have d9:=Xo (size:=1) (n:=ps.length) b4.blk d7 (by simp) (by unfold maxLen;omega)
  refine xe 6 (.tuple #[.slice (S1 d8) ps.length ps.length,V0 2]) ?_
  have he:Xv ps s=2:=by unfold Xv;rw[if_pos hsl,if_neg (by rw[c8];decide)]
  exact⟨_,rfl,d0,_,_,by rw[he],by rw[Yu,if_neg (by rw[he];decide)];exact d9⟩
 have c1:Uy ps s=true:=by unfold Uy Gi;rw[←a5];exact c3
 refine xk 4 (show(((⟨(Ps ps ((Gh s 0 (Hr ps i)).map fun n:Nat=>(n:Int)) ps.length).toArray⟩:ByteArray).toList==(⟨#[]⟩:ByteArray).toList):Bool)=false from putL_ne hps h0) ?_
 have d3:=bln a3 a1
 have c9:=Zb a4 a1
 refine xe 10 (.tuple #[.slice p5 i c5,V0 0]) ?_
 have he:Xv ps s=0:=by unfold Xv;rw[if_pos hsl,if_pos c1]
 subst a5
 exact⟨_,rfl,d3,_,_,by rw[he],by rw[Yu,if_pos he];exact c9⟩
theorem By(ps:List Gj)(s:Bl)(gl:O0)(cl:Nat)(w:World)(hps:Kk ps)(h0:0<ps.length)(hs:s.length≤100000)(hP:Sts Rz w (.slice gl ps.length cl) ps) :
 C0 77 #[.slice gl ps.length cl,.string ⟨s.toArray⟩] w (Ky (fun w' r=>∃ p c,r=.tuple #[.slice p ps.length c,V0 (Xv ps s)]∧w'.ownsRow w.heap.size 3 1 (.slice p ps.length c) ps.length ((Yu ps s).map nv)) w):=by
 by_cases h:s.length=(Hr ps ps.length).sum
 ·exact Da ps s gl cl w hps h0 hs hP h
 ·exact Bj ps s gl cl w hps h0 hs hP h
end Go.Proofs.YtgphgaehfdfjjaaGreat
namespace Go.Proofs.YtgphgaehfdfjjaaGreat
set_option maxHeartbeats 8000000
set_option maxRecDepth 100000
open Go.RowKit
theorem Blk.ty{w:World}{b:Nat}{cs cs':List Value}{t t':TypeId}(k:Blk w b cs t)(q:Blk w b cs' t'):t=t':=by
 have h1:w.heap[b]? = some (.cells cs.toArray t (0,0)):=k
 have h2:w.heap[b]? = some (.cells cs'.toArray t' (0,0)):=q
 rw[h1] at h2
 simp only[Option.some.injEq,Obj.cells.injEq] at h2
 exact h2.2.1
theorem Vx.upd{w W:World}{b:Nat}{cs:List Value}{t:TypeId}{l:List (Option Int)}{c:Option Int}{v:Value}(h:Vx w l c v)(u:Upd w b W)(k:Blk w b cs t)(hne:t≠152):Vx W l c v :=
 h.kept fun _ _ q=>u.blk q (by rintro rfl;exact hne (k.ty q))
theorem Vx.grown{w W:World}{e:TypeId}{base size n:Nat}{s:Value}{xs:List Value}{l:List (Option Int)}{c:Option Int}{v:Value}(h:Vx w l c v)(hg:w.grownBy W s.ownBlock)(hown:w.ownsRow base e size s n xs)(hne:e≠152):Vx W l c v :=
 h.kept fun _ _ q=>q.grown hg hown hne
theorem Vx.only{T:List TypeId}{w W:World}{l:List (Option Int)}{c:Option Int}{v:Value}(h:Vx w l c v)(k:Ze T w W)(hne:T.contains 152=false):Vx W l c v:=h.kept fun _ _ q=>q.only k hne
end Go.Proofs.YtgphgaehfdfjjaaGreat
namespace Go.Proofs.YtgphgaehfdfjjaaGreat
set_option maxHeartbeats 8000000
set_option maxRecDepth 100000
open Go.RowKit Go.Extern.Stop Go.Stop Go.Extern
set_option linter.unusedVariables false
attribute [local irreducible] wpList wpAnyH Code.wp Oper.wp Go
structure ImgR(B b:Nat)(p:Option Addr)(n c:Nat)(l:List UInt8)(w:World):Prop where
 blk:Blk w b [.slice p n c] 75
 row:w.ownsRow B 5 1 (.slice p n c) n (l.map bv)
 hn:n≤3686400
theorem ImgR.below{B b:Nat}{p:O0}{n c:Nat}{l:Bl}{w W:World}(h:ImgR B b p n c l w)(hb:B0 w W):ImgR B b p n c l W:=⟨h.blk.below hb,Zb h.row hb,h.hn⟩
theorem ImgR.only{B b:Nat}{p:O0}{n c:Nat}{l:Bl}{w W:World}{T:List TypeId}(h:ImgR B b p n c l w)(hO:Ze T w W)(hT:T.contains 75=false∧T.contains 5=false):ImgR B b p n c l W:=⟨h.blk.only hO hT.1,Zg h.row hO hT.2,h.hn⟩
theorem ImgR.len{B b:Nat}{p:O0}{n c:Nat}{l:Bl}{w:World}(h:ImgR B b p n c l w):l.length=n:=by have:=h.row.1;simpa using this
theorem ImgR.base{B b:Nat}{p:O0}{n c:Nat}{l:Bl}{w:World}(h:ImgR B b p n c l w)(hn:0<n):∃ g,p=some ⟨g,0,none⟩∧n≤c:=by
 rcases h.row.2 with ⟨_,h0⟩|⟨g,a1,a0,hv,_,_,hc,_⟩
 ·omega
 ·simp only[Value.slice.injEq] at hv
  obtain⟨rfl,_,rfl⟩:=hv
  exact⟨g,rfl,hc⟩
def Ua(l:Bl)(j:Nat):Bl:=(l.drop (j*256)).take 256
theorem Jz{l:Bl}{j:Nat}(h:j<l.length/256):(Ua l j).length=256:=by simp[Ua];omega
theorem Bys.mid{w:World}{g off n c:Nat}{l:Bl}(h:Bys w (.slice (some ⟨g,off,none⟩) n c) l)(hl:l.length=n)(k m:Nat)(hm:0<m)(hk:k+m≤n):Bys w (.slice (some ⟨g,off+k,none⟩) m m) ((l.drop k).take m):=by
 have a0:((l.drop k).take m).length=m:=by simp;omega
 rcases h with ⟨a',c',h1,h2,h3⟩|⟨g',a1,a2,h1,h2,h3,h4⟩
 ·omega
 ·simp only[Value.slice.injEq,Option.some.injEq,Addr.mk.injEq] at h1
  obtain⟨⟨rfl,rfl,_⟩,_,rfl⟩:=h1
  refine .inr ⟨g,off+k,m,by rw[a0],by omega,by omega,fun j x hj=>?_⟩
  rw[List.getElem?_map,List.getElem?_take] at hj
  split at hj
  ·rw[List.getElem?_drop] at hj
   have:=h4 (k+j) x (by rw[List.getElem?_map];exact hj)
   rwa [←Nat.add_assoc] at this
  ·cases hj
theorem ImgR.part{B b g:Nat}{n c:Nat}{l:Bl}{w:World}(h:ImgR B b (S1 g) n c l w){j:Nat}(hj:j<n/256):Bys w (.slice (some ⟨g,j*256,none⟩) 256 256) (Ua l j):=by
 have:=Bys.mid (Jh (Zf h.row) h.len) h.len (j*256) 256 (by decide) (by omega)
 rwa [Nat.zero_add] at this
def ReadP(n:Nat)(l:Bl)(k:Int)(w:World)(e:Ending)(w':World):Prop :=
 (¬ (0≤k∧k<(n/256:Nat))∧∃ v,e=.returned (.tuple #[v,V0 3])∧B0 w w') ∨
 (∃ j:Nat,k=(j:Int)∧j<n/256∧∃ p c,e=.returned (.tuple #[.slice p 256 c,V0 0])∧B0 w w'∧w'.ownsRow w.heap.size 5 1 (.slice p 256 c) 256 ((Ua l j).map bv))
theorem Bv(b:Nat)(p:O0)(n c:Nat)(k:Int)(w:World)(hk:Blk w b [.slice p n c] 75)(hn:n≤100000000)(ho:¬ (0≤k∧k<(n/256:Nat))) :
 C0 99 #[P0 b,V0 k] w (Ret (.tuple #[S0,V0 3]) w):=by
 refine zin 33 Tryz.func99 ?_
 refine xg 21 [13,14] (decide (k<(0:Int))) (fun a0=>?_) (fun a0=>?_)
 ·have a0:=of_decide_eq_true a0
  exact xe 18 (.tuple #[S0,V0 3]) ⟨rfl,(B3 w)⟩
 have a0:=of_decide_eq_false a0
 refine xr 2 (args:=#[P0 b]) (Ha b _ n c _ (hk.below (B3 w)) hn) fun W2 a1=>?_
 refine xk 5 (show(decide (k≥(↑(n/256):Int)):Bool)=true from decide_eq_true (by omega)) ?_
 exact xe 9 (.tuple #[S0,V0 3]) ⟨rfl,a1⟩
theorem Df(B b:Nat)(p:O0)(n c:Nat)(l:Bl)(k:Int)(w:World)(hI:ImgR B b p n c l w)(ho:¬ (0≤k∧k<(n/256:Nat))) :
 C0 80 #[P0 b,V0 k] w (Ky (fun _ r=>∃ v,r=.tuple #[v,V0 3]) w):=by
 refine zin 17 Tryz.func80 ?_
 refine xr 10 (args:=#[P0 b,V0 k]) (Bv b p n c k _ (hI.below (B3 w)).blk (by have:=hI.hn;omega) ho) fun W1 a0=>?_
 refine xc 10 (args:=#[S0]) (Ss 0 _) ?_
 rintro _ W2 ⟨v2,rfl,a1,_⟩
 have hB:=bln a0 a1
 exact xe 6 (.tuple #[v2,V0 3]) ⟨_,rfl,hB,_,rfl⟩
theorem Fs(B b g:Nat)(n c:Nat)(l:Bl)(j:Nat)(w:World)(hI:ImgR B b (S1 g) n c l w)(hj:j<n/256)(hc:n≤c) :
 C0 80 #[P0 b,V0 (j:Int)] w (Ky (fun w' r=>∃ p2 c3,r=.tuple #[.slice p2 256 c3,V0 0]∧w'.ownsRow w.heap.size 5 1 (.slice p2 256 c3) 256 ((Ua l j).map bv)) w):=by
 have a3:=Jz (l:=l) (j:=j) (by rw[hI.len];exact hj)
 refine zin 17 Tryz.func80 ?_
 refine xr 10 (args:=#[P0 b,V0 (j:Int)]) (Cw b g n c j _ (hI.below (B3 w)).blk (by have:=hI.hn;omega) hc hj) fun W1 a1=>?_
 refine xc 10 (args:=#[.slice (some ⟨g,(j*256),none⟩) 256 256]) (Qh (some ⟨g,(j*256),none⟩) 256 256 (Ua l j) _ a3 ((hI.below a1).part hj) (by decide)) ?_
 rintro _ W2 ⟨_,rfl,a4,ho⟩
 have a0:=Zh ho a1.size
 unfold Wj at a0
 rw[a3] at a0
 obtain⟨p2,c3,rfl⟩:=(Zf a0).slice
 have a2:=bln a1 a4
 exact xe 6 (.tuple #[.slice p2 256 c3,V0 0]) ⟨_,rfl,a2,_,_,rfl,a0⟩
theorem Zb5(B b:Nat)(p:O0)(n c:Nat)(l:Bl)(k:Int)(w:World)(hI:ImgR B b p n c l w) :
 C0 80 #[P0 b,V0 k] w (ReadP n l k w):=by
 by_cases h:0≤k∧k<(n/256:Nat)
 ·obtain⟨g,rfl,hc⟩:=hI.base (by omega)
  obtain⟨j,rfl⟩:∃ j:Nat,k=j:=⟨k.toNat,by omega⟩
  refine(Fs B b g n c l j w hI (by omega) hc).mono ?_
  rintro e W ⟨_,rfl,hb,p2,c3,rfl,ho⟩
  exact .inr ⟨j,rfl,by omega,_,_,rfl,hb,ho⟩
 ·refine(Df B b p n c l k w hI h).mono ?_
  rintro e W ⟨_,rfl,hb,v,rfl⟩
  exact .inl ⟨h,_,rfl,hb⟩
def inE (l:Bl)(kind no:Int):Int:=if 0≤no∧no<(l.length/256:Nat) then Vu kind no (Ua l no.toNat) else 3
def inB (l:Bl)(no:Int):Bl:=((Ua l no.toNat).drop 8).take 244
theorem Zgo{l:Bl}{kind no:Int}{n:Nat}(hl:l.length=n)(h:¬ (0≤no∧no<(n/256:Nat))):inE l kind no=3:=by subst hl;exact if_neg h
theorem inE_in{l:Bl}{kind no:Int}{n j:Nat}(hl:l.length=n)(hk:no=(j:Int))(h:j<n/256):inE l kind no=Vu kind no (Ua l j):=by
 subst hl hk;rw[inE,if_pos ⟨by omega,by omega⟩];rfl
theorem inB_in{l:Bl}{no:Int}{j:Nat}(hk:no=(j:Int)):inB l no=((Ua l j).drop 8).take 244:=by subst hk;rfl
theorem inB_len{l:Bl}{no:Int}{n j:Nat}(hl:l.length=n)(hk:no=(j:Int))(h:j<n/256):(inB l no).length=244:=by
 subst hl hk;have:=Jz h;simp[inB,this]
theorem Mw{l l':Bl}(h:l.length=l'.length)(h2:∀ j,j<l.length→l.getD j 0=l'.getD j 0):l=l':=by
 apply List.ext_getElem h
 intro j h3 h4
 have:=h2 j h3
 simpa [List.getD,h3,h4] using this
theorem Qx{l:Bl}{k:Nat}{x:Bl}(h:k+x.length≤l.length)(j:Nat):(Vo l k x).getD j 0=if k≤j∧j<k+x.length then x.getD (j-k) 0 else l.getD j 0:=by
 unfold Vo
 simp only[List.getD]
 rw[List.append_assoc,List.getElem?_append,List.getElem?_append]
 have e:(l.take k).length=k:=by simp;omega
 rw[e]
 by_cases h1:j<k
 ·rw[if_pos h1,if_neg (by omega),List.getElem?_take,if_pos h1]
 ·rw[if_neg h1]
  by_cases h2:j-k<x.length
  ·rw[if_pos h2,if_pos (by omega)]
  ·rw[if_neg h2,if_neg (by omega),List.getElem?_drop,show k+x.length+(j-k-x.length)=j by omega]
theorem Ee{l l':Bl}:∀ (w k:Nat),(∀ j,k≤j→j<k+w→l.getD j 0=l'.getD j 0)→Xb l k w=Xb l' k w
 | 0,k,h=>rfl
 | w+1,k,h=>by rw[Xb,Xb,h k (by omega) (by omega),Ee w (k+1) fun j h1 h2=>h j (by omega) (by omega)]
theorem Ut{l:Bl}:∀ (w k m:Nat),(∀ i,i<w→l.getD (k+i) 0=UInt8.ofNat (m/256 ^ i))→Xb l k w=m%256 ^ w
 | 0,k,m,h=>by simp[Xb,Nat.mod_one]
 | w+1,k,m,h=>by
  have h0:=h 0 (by omega)
  simp only[Nat.add_zero,Nat.pow_zero,Nat.div_one] at h0
  have h1:=Ut (l:=l) w (k+1) (m/256) fun i hi=>by
   have:=h (i+1) (by omega)
   rw[Nat.pow_succ,Nat.mul_comm,←Nat.div_div_eq_div_mul] at this
   rw[show k+1+i=k+(i+1) by omega];exact this
  rw[Xb,h0,h1,Nat.pow_succ,Nat.mul_comm (256 ^ w) 256,Nat.mod_mul]
  congr 1
theorem Fa{l:Bl}{k w:Nat}{n:Int}(h:k+w≤l.length)(h0:0≤n)(hb:n.toNat<256 ^ w):(Xb (Vo l k (leB n w)) k w:Int)=n:=by
 rw[Ut w k n.toNat,Nat.mod_eq_of_lt hb]
 ·omega
 ·intro i hi
  rw[Qx (by rw[Zj];exact h),if_pos (by rw[Zj];omega),show k+i-k=i by omega]
  simp[leB,Zp,List.getD,List.getElem?_range hi]
theorem Yf{l x:Bl}{k j w:Nat}(h:k+x.length≤l.length)(hd:j+w≤k∨k+x.length≤j):Xb (Vo l k x) j w=Xb l j w :=
 Ee w j fun i h1 h2=>by rw[Qx h,if_neg (by omega)]
theorem Zf5{l:Bl}{k w:Nat}(h:∀ j,k≤j→j<k+w→l.getD j 0=0):Xb l k w=0:=by
 have:=Ut (l:=l) w k 0 fun i hi=>by rw[h (k+i) (by omega) (by omega)];simp
 simpa using this
theorem sumB_put{l x:Bl}{kind:Int}(h:252≤l.length):Ts (Vo l 252 x) kind=Ts l kind:=by
 unfold Ts Vo
 rw[List.append_assoc,List.take_append_of_le_length (by simp;omega),List.take_take];rfl
theorem Lw(n j:Nat):(List.replicate n (0:UInt8)).getD j 0=0:=by
 simp[List.getD,List.getElem?_replicate];split<;>rfl
def Om(li:Bl):Bl:=li++List.replicate (244-li.length) 0
theorem Zg5{kind no:Int}{li:Bl}(h1:1≤kind)(h2:kind≤4)(h3:0≤no)(h4:no<14400)(hl:li.length≤244):Vu kind no (Yz kind no li)=0:=by
 have l1:=Hq hl
 have l2:=Hl (no:=no) hl
 have l3:=Kf (kind:=kind) (no:=no) hl
 have l4:=Jn (kind:=kind) (no:=no) hl
 have a0:Wi kind no (Yz kind no li) 0=false:=by simp only[Wi];rw[show Nu kind no=true from decide_eq_true (by omega)];rfl
 have a1:Wi kind no (Yz kind no li) 1=false:=by simp only[Wi,l4];rfl
 have a2:Wi kind no (Yz kind no li) 2=false:=by
  have hs:Ts (Yz kind no li) kind=Ts (Uv kind no li) kind:=by unfold Yz;exact sumB_put (by omega)
  have hr:(Xb (Yz kind no li) 252 4:Int)=(Ts (Uv kind no li) kind:Int):=by
   unfold Yz
   exact Fa (by omega) (by omega) (by have:=Zd3 (Uv kind no li) kind;simpa using this)
  simp only[Wi,hr,hs];simp
 have a3:Wi kind no (Yz kind no li) 3=false:=by
  have hr:(Xb (Yz kind no li) 0 4:Int)=no:=by
   unfold Yz
   rw[Yf (by rw[Zj];omega) (.inl (by omega))]
   unfold Uv
   rw[Yf (by rw[Zj];omega) (.inl (by omega))]
   unfold Og
   exact Fa (by omega) (by omega) (by omega)
  simp only[Wi,hr];simp
 have a4:Wi kind no (Yz kind no li) 4=false:=by
  have hr:(Xb (Yz kind no li) 4 2:Int)=kind:=by
   unfold Yz
   rw[Yf (by rw[Zj];omega) (.inl (by omega))]
   unfold Uv
   exact Fa (by omega) (by omega) (by omega)
  simp only[Wi,hr];simp
 have a5:Wi kind no (Yz kind no li) 5=false:=by
  have hr:Xb (Yz kind no li) 6 2=0:=by
   unfold Yz
   rw[Yf (by rw[Zj];omega) (.inl (by omega))]
   unfold Uv
   rw[Yf (by rw[Zj];omega) (.inr (by rw[Zj];omega))]
   unfold Og
   rw[Yf (by rw[Zj];omega) (.inr (by rw[Zj];omega))]
   unfold Rm
   rw[Yf (by rw[List.length_replicate];omega) (.inl (by omega))]
   exact Zf5 fun j _ _=>Lw 256 j
  simp only[Wi,hr];rfl
 simp[Vu,a0,a1,a2,a3,a4,a5]
theorem in_seal{kind no:Int}{li:Bl}(hl:li.length≤244):((Yz kind no li).drop 8).take 244=Om li:=by
 have l1:=Hq hl
 have l2:=Hl (no:=no) hl
 have l3:=Kf (kind:=kind) (no:=no) hl
 have l4:=Jn (kind:=kind) (no:=no) hl
 apply Mw
 ·simp[Om,l4];omega
 ·intro j hj
  have a0:j<244:=by simp[l4] at hj;omega
  have e:(((Yz kind no li).drop 8).take 244).getD j 0=(Yz kind no li).getD (8+j) 0:=by
   simp only[List.getD];rw[List.getElem?_take,if_pos a0,List.getElem?_drop]
  rw[e]
  unfold Yz
  rw[Qx (by rw[Zj];omega),if_neg (by rw[Zj];omega)]
  unfold Uv
  rw[Qx (by rw[Zj];omega),if_neg (by rw[Zj];omega)]
  unfold Og
  rw[Qx (by rw[Zj];omega),if_neg (by rw[Zj];omega)]
  unfold Rm
  rw[Qx (by rw[List.length_replicate];omega),Lw]
  unfold Om
  simp only[List.getD]
  rw[List.getElem?_append]
  by_cases h:j<li.length
  ·rw[if_pos ⟨by omega,by omega⟩,if_pos h,show 8+j-8=j by omega]
  ·rw[if_neg (by omega),if_neg h]
   have:=Lw (244-li.length) (j-li.length)
   simp only[List.getD] at this
   exact this.symm
theorem blkB_put{l x:Bl}{k:Nat}(hx:x.length=256)(hk:k<l.length/256):Ua (Vo l (k*256) x) k=x:=by
 have a0:k*256+256≤l.length:=by omega
 have hp:=Yn (l:=l) (k:=k*256) (x:=x) (by omega)
 apply Mw
 ·rw[Jz (by rw[hp];exact hk),hx]
 ·intro j hj
  rw[Jz (by rw[hp];exact hk)] at hj
  have e:(Ua (Vo l (k*256) x) k).getD j 0=(Vo l (k*256) x).getD (k*256+j) 0:=by
   simp only[Ua,List.getD];rw[List.getElem?_take,if_pos hj,List.getElem?_drop]
  rw[e,Qx (by omega),if_pos (by omega),show k*256+j-k*256=j by omega]
theorem Uw{l x:Bl}{k i:Nat}(hx:x.length=256)(hk:k<l.length/256)(hne:i≠k)(hi:i<l.length/256):Ua (Vo l (k*256) x) i=Ua l i:=by
 have a0:k*256+256≤l.length:=by omega
 have hp:=Yn (l:=l) (k:=k*256) (x:=x) (by omega)
 apply Mw
 ·rw[Jz (by rw[hp];exact hi),Jz hi]
 ·intro j hj
  rw[Jz (by rw[hp];exact hi)] at hj
  have e:∀ l:Bl,(Ua l i).getD j 0=l.getD (i*256+j) 0:=fun l=>by
   simp only[Ua,List.getD];rw[List.getElem?_take,if_pos hj,List.getElem?_drop]
  rw[e,e,Qx (by omega),if_neg (by omega)]
theorem BysM.elem{w:World}{a:O0}{n c:Nat}{l:Bl}(h:Bys w (.slice a n c) l)(hl:l.length=n){k:Nat}(hk:k<n):a.isSome=true∧w.cell? (Zw a (k*1))=some (.int .u8 (↑(l.getD k 0).toNat:Int)):=by
 subst hl;exact Bys.elem h hk
def Vt(t:Int)(leaf:Bool)(n m v:Nat):Bl:=leB (Hz leaf) 1++leB t 1++leB (n:Int) 2++leB (v:Int) 2++leB (m:Int) 2++leB 0 4
theorem Vj(t:Int)(leaf:Bool)(n m v:Nat):(Vt t leaf n m v).length=12:=by simp[Vt,Zj]
def Jt(m v:Nat)(H:Bl)(K:List Int)(Vs:List Bl):Nat→Bl
 | 0=>Vo (List.replicate 244 0) 0 H
 | i+1=>Vo (Vo (Jt m v H K Vs i) (12+i*8) (leB (K.getD i 0) 8)) (12+m*8+i*v) (Vs.getD i [])
theorem Cq{m v:Nat}{H:Bl}{K:List Int}{Vs:List Bl}(hH:H.length=12)(hf:12+m*8+m*v≤244):∀ {i:Nat},i≤m→(∀ j,j<i→(Vs.getD j []).length=v)→(Jt m v H K Vs i).length=244
 | 0,_,_=>by rw[Jt,Yn (by rw[List.length_replicate];omega),List.length_replicate]
 | i+1,hi,hV=>by
  have ih:=Cq (K:=K) hH hf (i:=i) (by omega) (fun j hj=>hV j (by omega))
  have h1:=hV i (by omega)
  have h2:(i+1)*v≤m*v:=Nat.mul_le_mul_right v hi
  rw[Nat.add_mul,Nat.one_mul] at h2
  have h3:(Vo (Jt m v H K Vs i) (12+i*8) (leB (K.getD i 0) 8)).length=244:=by rw[Yn (by rw[Zj,ih];omega),ih]
  rw[Jt,Yn (by rw[h1,h3];omega),h3]
theorem node_Put(t:Int)(leaf:Bool)(n m v:Nat)(K:List Int)(Vs:List Bl)(ak av:O0)(ck cv:Nat)(w:World)(N:NodeOk t leaf n m v K Vs)(hKs:Sl w (.slice ak n ck) n (K.map V0))(hVs:Sl w (.slice av n cv) n (Vs.map sv)) :
 C0 51 #[.agg #[V0 t,.bool leaf,.slice ak n ck,.slice av n cv]] w (Ky (fun w' r=>∃ p c,r=.tuple #[.slice p 244 c,V0 0]∧w'.ownsRow w.heap.size 5 1 (.slice p 244 c) 244 ((Jt m v (Vt t leaf n m v) K Vs n).map bv)) w):=by
 have e0:=N.ht1
 have e5:=N.ht2
 have g5:=N.hn
 have f3:=Bf t leaf
 rw[N.hv] at f3
 have f1:=Yb t leaf
 rw[N.hm] at f1
 have d6:=fitN t leaf
 rw[N.hm,N.hv] at d6
 have f5:=Sl.cap hKs
 refine zin 90 Tryz.func51 ?_
 refine xa 2 [V0 t,.bool leaf,.slice ak n ck,.slice av n cv] 117 fun b1 W1 n1=>?_
 refine xlv 7 n1.blk.rp ?_
 refine xr 0 (args:=#[.agg #[V0 t,.bool leaf,.slice ak n ck,.slice av n cv]]) (Zdc t leaf n m v K Vs ak av ck cv _ N (hKs.below n1.below) (hVs.below n1.below)) fun W2 e1=>?_
 refine xd 7 .z ?_
 have a3:=(n1.blk.below e1).below (Za W2)
 refine xb (.e [0] 1) 0 a3 ?_
 refine xb (.e [2] 3) 1 a3 ?_
 refine xb (.e [5] 6) 0 a3 ?_
 refine xb (.e [7] 8) 1 a3 ?_
 refine xr (.o [] 4) (args:=#[V0 t,.bool leaf]) (Wq t leaf v N.hv e0 e5 _) fun W3 e4=>?_
 refine xr (.o [] 9) (args:=#[V0 t,.bool leaf]) (Bw t leaf m N.hm e0 e5 _) fun W4 e2=>?_
 refine xd (.r [10,11] 3) .z ?_
 have a8:=((a3.below e4).below e2).below (Za W4)
 refine xb (.e [0] 1) 1 a8 ?_
 refine xb (.e [4] 5) 0 a8 ?_
 refine xb (.e [6,7] 8) 2 a8 ?_
 refine xr (.o [9,10,11,12,13,14,15] 2) (args:=#[.bool leaf]) (Zgs leaf _) fun W5 e3=>?_
 refine xbs (.o [3] 16) 6 [V0 1,V0 (Hz leaf),V0 1,V0 t,V0 2,V0 (n:Int),V0 2,V0 (v:Int),V0 2,V0 (m:Int),V0 4,V0 0] 111 fun b6 W6 n6=>?_
 have b0:=bln (bln (bln (bln (bln (bln n1.below e1) (Za W2)) e4) e2) (Za W4)) e3
 have g6:=n6.ge b0
 refine yc (.o [] 17) (args:=#[.slice (S1 b6) 6 6]) .z (Zd8 b6 (Hz leaf) t (n:Int) (v:Int) (m:Int) (Fb leaf).1 (Fb leaf).2 (by omega) (by omega) (by omega) (by omega) (by omega) (by omega) (by omega) (by omega) _ n6.blk) ?_
 rintro _ W7 ⟨_,rfl,c7,p2,c2,rfl,h2⟩
 have f6:=(bln b0 n6.below).size
 refine⟨c7,?_⟩
 refine xmk (.r [18,19,20,21,22] 4) fun _ _ _ _ zJ zQ zo zx zy zK=>Hf 244 (.int .u8 0) 1 1 ((List.replicate 244 (0:UInt8)).map bv) zo zx zy Tryz.underlying36 (by kernel_rfl) rfl (by omega) (by omega) (Oz 244) fun b8 W8 n8=>?_
 have c1:=bln (bln b0 n6.below) c7
 have g8:=n8.ge c1
 have b7:=Zh h2 f6
 have e9:=Xa b7 n8
 refine zK _ _ ?_
 have o8:=Xo (size:=1) (n:=244) n8.blk g8 (by rw[List.length_map,List.length_replicate]) (by unfold maxLen;omega)
 have d7:=Zb b7 n8.below
 have c5:=bln c1 n8.below
 refine xbi 7 (t2:=36) fun _ _ _ _ zJ zQ zo zx zy zK=>Nm (dLen:=244) (dCap:=244) (off:=0) 12 ((Vt t leaf n m v).map bv) ((Jt m v (Vt t leaf n m v) K Vs 0).map bv) zo Tryz.underlying36 (by kernel_rfl) zx zy (Zf d7) o8 (by simp[Vj]) (by omega) (by omega) (Vw _) c5.size (by simp[Jt,Vo,Vj]) fun W9 o9 e6 e8=>?_
 refine zK _ _ ?_
 have c4:=((((a8.below e3).below n6.below).below c7).below n8.below).grown e6 o8 (by decide)
 refine xb 6 2 c4 ?_
 have d5:=c5.trans e8
 have d0:=((n6.blk.below c7).below n8.below).grown e6 o8 (by decide)
 refine zl 5 90 (fun zm f4 V=>∃ (i:Nat),f4=[(1,P0 b1),(2,S0),(3,V0 0),(4,V0 (v:Int)),(5,V0 (m:Int)),(8,.slice (S1 b8) 244 244),(52,.slice ak n ck),(53,V0 (n:Int)),(54,V0 (i:Int))]∧zm=n-((i:Int)).toNat∧B0 w V∧Blk V b1 ([V0 t,.bool leaf,.slice ak n ck,.slice av n cv]) 117∧Blk V b6 ([V0 1,V0 (Hz leaf),V0 1,V0 t,V0 2,V0 (n:Int),V0 2,V0 (v:Int),V0 2,V0 (m:Int),V0 4,V0 0]) 111∧V.ownsRow w.heap.size 5 1 (.slice (S1 b8) 244 244) 244 ((Jt m v (Vt t leaf n m v) K Vs i).map bv)∧i≤n) ⟨0,rfl,rfl,d5,c4,d0,o9,Nat.zero_le _⟩ ?_
 rintro _ _ f7 ⟨i,rfl,rfl,a0,b2,a6,ho,hi⟩ f9 d3 g0
 have e8:i<n→i*v+v≤m*v:=fun h=>by have h9:(i+1)*v≤m*v:=Nat.mul_le_mul_right v (by omega);rw[Nat.add_mul,Nat.one_mul] at h9;exact h9
 refine xid 6 ((i:Int)<(n:Int)) (fun d8=>?_) (fun d8=>?_)
 ·refine xx 7 _ n i 1 (IntsN.elem hKs N.hK (k:=i) (by omega)).1 ?_
  refine xl 0 ((IntsN.elem (hKs.below a0) N.hK (k:=i) (by omega)).2) ?_
  refine xbs 8 1 [V0 8,V0 (K.getD i 0)] 111 fun e7 g2 a9=>?_
  have d9:=a9.ne a6
  have g1:=a9.ge a0
  refine xc 0 (args:=#[.slice (S1 e7) 1 1]) (Pack_8 e7 (K.getD i 0) (N.hk0 i (by omega)).1 _ a9.blk) ?_
  rintro _ f8 ⟨_,rfl,a7,p3,c3,rfl,h3⟩
  have c9:=(bln a0 a9.below).size
  refine xwm 11 ((i:Int)*8) (↑(i*8):Int) ?_
  refine xwm 0 (12+(↑(i*8):Int)) (↑(12+(i*8)):Int) ?_
  refine xsL 0 (fun _ _ _ _ zo zx zy V=>Ui (k:=(12+(i*8))) (b:=b8) (off:=0) (n:=244) (c:=244) (i:=(↑(12+(i*8)):Int)) (ki:=.i64) 1 zo zx zy rfl (by omega) (by omega) Tryz.underlying36 (by kernel_rfl) V) ?_
  have b4:=Zb (Zb ho a9.below) a7
  have d4:=Zh h3 c9
  have c0:=bln (bln a0 a9.below) a7
  refine xbi 1 (t2:=36) fun _ _ _ _ zJ zQ zo zx zy zK=>Nm (dLen:=(244-(12+(i*8)))) (dCap:=(244-(12+(i*8)))) (off:=(0+(12+(i*8))*1)) 8 ((leB (K.getD i 0) 8).map bv) ((Vo (Jt m v (Vt t leaf n m v) K Vs i) (12+i*8) (leB (K.getD i 0) 8)).map bv) zo Tryz.underlying36 (by kernel_rfl) zx zy (Zf d4) b4 (by simp[Zj]) (by omega) (by omega) (Vw _) c0.size (by simp[Vo,Zj,List.map_take,List.map_drop]) fun c8 f0 c6 d1=>?_
  refine zK _ _ ?_
  refine xd 2 (.t w.heap.size [5]) ?_
  refine xwm (.e [0,1] 2) ((m:Int)*8) (↑(m*8):Int) ?_
  refine xwm (.e [] 3) (12+(↑(m*8):Int)) (↑(12+(m*8)):Int) ?_
  refine xwm (.e [4,5] 6) ((i:Int)*(v:Int)) (↑(i*v):Int) ?_
  refine xwm (.e [] 7) ((↑(12+(m*8)):Int)+(↑(i*v):Int)) (↑((12+(m*8))+(i*v)):Int) ?_
  refine xsL (.e [] 8) (fun _ _ _ _ zo zx zy V=>Ui (k:=((12+(m*8))+(i*v))) (b:=b8) (off:=0) (n:=244) (c:=244) (i:=(↑((12+(m*8))+(i*v)):Int)) (ki:=.i64) 1 zo zx zy rfl (by omega) (by omega) Tryz.underlying36 (by kernel_rfl) V) ?_
  have a1:=(((b2.below a9.below).below a7).grown c6 b4 (by decide)).below (Za c8)
  refine xbt (.e [9] 10) 3 w.heap.size [5] a1 ?_
  refine xx (.e [11] 12) _ n i 1 (Strs.elem hVs N.hV (k:=i) (by omega)).1 ?_
  have b3:=bln (c0.trans d1) (Za c8)
  refine xlt (.e [] 13) (.t w.heap.size [5]) (fun V hV=>(Strs.elem (hVs.below (Ya b3 hV (Nat.le_refl _))) N.hV (k:=i) (by omega)).2) ?_
  have a2:=Zb f0 (Za c8)
  refine ybi (.o [] 14) (t2:=9) (.t w.heap.size [5]) fun _ _ _ _ zJ zQ zo zx zy zK=>op_copyS (dLen:=(244-((12+(m*8))+(i*v)))) (dCap:=(244-((12+(m*8))+(i*v)))) (off:=(0+((12+(m*8))+(i*v))*1)) (Vs.getD i []) ((Jt m v (Vt t leaf n m v) K Vs (i+1)).map bv) zo Tryz.underlying36 (by kernel_rfl) zx zy a2 (by rw[N.hw i (by omega)];omega) (by rw[N.hw i (by omega)];omega) b3.size (by simp[Jt,Vo,List.map_take,List.map_drop]) fun g3 f2 b5 b9=>?_
  refine zK _ _ (Yd b9 b5 a2 (by decide)) ?_
  refine xwm 4 ((i:Int)+1) (↑(i+1):Int) ?_
  have d2:=b3.trans b9
  have a5:=a1.grown b5 a2 (by decide)
  have a4:=((((a6.below a9.below).below a7).grown c6 b4 (by decide)).below (Za c8)).grown b5 a2 (by decide)
  exact ze 2 (d3 _ _ _ ⟨i+1,rfl,rfl,d2,a5,a4,f2,by omega⟩ (by omega))
 refine xe 13 (.tuple #[.slice (S1 b8) 244 244,V0 0]) ?_
 have e:i=n:=by omega
 subst e
 exact⟨_,rfl,a0,_,_,rfl,ho⟩
def Yl(K:List Int)(n:Nat)(i:Nat):Bl:=(List.range i).flatMap fun j=>if j<n then leB (K.getD j 0) 8 else List.replicate 8 0
theorem Vb(K:List Int)(n i:Nat):Yl K n (i+1)=Yl K n i++(if i<n then leB (K.getD i 0) 8 else List.replicate 8 0):=by
 unfold Yl;rw[List.range_succ,List.flatMap_append];simp
theorem Ja(K:List Int)(n i:Nat):(Yl K n i).length=i*8:=by
 induction i with
 | zero=>rfl
 | succ i ih=>rw[Vb,List.length_append,ih];split<;>simp[Zj]<;>omega
def Qm(Vs:List Bl)(i:Nat):Bl:=(List.range i).flatMap fun j=>Vs.getD j []
theorem Gc(Vs:List Bl)(i:Nat):Qm Vs (i+1)=Qm Vs i++Vs.getD i []:=by
 unfold Qm;rw[List.range_succ,List.flatMap_append];simp
theorem Ul{Vs:List Bl}{v:Nat}:∀ {i:Nat},(∀ j,j<i→(Vs.getD j []).length=v)→(Qm Vs i).length=i*v
 | 0,_=>by simp[Qm]
 | i+1,h=>by rw[Gc,List.length_append,Ul fun j hj=>h j (by omega),h i (by omega),Nat.add_mul,Nat.one_mul]
theorem Ra{P z Q x:Bl}{k:Nat}(hk:P.length=k)(hz:z.length=x.length):Vo (P++z++Q) k x=P++x++Q:=by
 unfold Vo
 subst hk
 rw[List.append_assoc P z Q,List.take_left' rfl,←hz]
 have e:P++(z++Q)=(P++z)++Q:=(List.append_assoc _ _ _).symm
 rw[e,List.drop_left' (by simp)]
theorem Jg(K:List Int)(i:Nat):∀ d,Yl K i (i+d)=Yl K i i++List.replicate (d*8) 0
 | 0=>by simp
 | d+1=>by
  rw[←Nat.add_assoc,Vb,Jg K i d,if_neg (by omega),List.append_assoc,List.replicate_append_replicate,Nat.add_mul,Nat.one_mul]
theorem Nj(K:List Int)(n:Nat):∀ i,i≤n→Yl K n i=Yl K i i
 | 0,_=>rfl
 | i+1,h=>by
  rw[Vb,Vb,if_pos (by omega),if_pos (by omega),Nj K n i (by omega),Nj K (i+1) i (by omega)]
theorem Ez(a b:Nat):List.replicate (a+b) (0:UInt8)=List.replicate a 0++List.replicate b 0:=List.replicate_append_replicate.symm
theorem Eh{m v:Nat}{H:Bl}{K:List Int}{Vs:List Bl}(hH:H.length=12)(hf:12+m*8+m*v≤244):∀ {i:Nat},i≤m→(∀ j,j<i→(Vs.getD j []).length=v) →
  Jt m v H K Vs i=H++Yl K i m++Qm Vs i++List.replicate (232-m*8-i*v) 0
 | 0,_,_=>by
  have e1:=Jg K 0 m
  rw[Nat.zero_add] at e1
  rw[Jt,e1]
  have h1:(232-m*8-0*v)=232-m*8:=by omega
  rw[h1,show(244:Nat)=12+(m*8+(232-m*8)) by omega,Ez,Ez]
  have:=Ra (P:=[]) (z:=List.replicate 12 (0:UInt8)) (Q:=List.replicate (m*8) 0++List.replicate (232-m*8) 0) (x:=H) (k:=0) rfl (by simp[hH])
  rw[List.nil_append,List.nil_append] at this
  rw[this]
  simp[Yl,Qm]
 | i+1,hi,hV=>by
  have ih:=Eh (K:=K) hH hf (i:=i) (by omega) (fun j hj=>hV j (by omega))
  have a4:=hV i (by omega)
  have h2:(i+1)*v≤m*v:=Nat.mul_le_mul_right v hi
  rw[Nat.add_mul,Nat.one_mul] at h2
  obtain⟨d,hd⟩:∃ d,m=i+(d+1):=⟨m-i-1,by omega⟩
  have ek:Yl K i m=Yl K i i++List.replicate 8 0++List.replicate (d*8) 0:=by
   rw[hd,Jg,show(d+1)*8=8+d*8 by omega,Ez,List.append_assoc]
  have a0:Yl K (i+1) m=Yl K i i++leB (K.getD i 0) 8++List.replicate (d*8) 0:=by
   rw[show m=(i+1)+d by omega,Jg,Vb,if_pos (by omega),Nj K (i+1) i (by omega)]
  have er:List.replicate (232-m*8-i*v) (0:UInt8)=List.replicate v 0++List.replicate (232-m*8-(i*v+v)) 0:=by
   rw[←Ez];congr 1;omega
  have a3:(Qm Vs i).length=i*v:=Ul fun j hj=>hV j (by omega)
  rw[Jt,ih,ek,er]
  have s1:=Ra (P:=H++Yl K i i) (z:=List.replicate 8 (0:UInt8)) (Q:=List.replicate (d*8) 0++(Qm Vs i++(List.replicate v 0++List.replicate (232-m*8-(i*v+v)) 0))) (x:=leB (K.getD i 0) 8) (k:=12+i*8) (by rw[List.length_append,hH,Ja]) (by simp[Zj])
  have a1:H++(Yl K i i++List.replicate 8 0++List.replicate (d*8) 0)++Qm Vs i++(List.replicate v 0++List.replicate (232-m*8-(i*v+v)) 0)=H++Yl K i i++List.replicate 8 0++(List.replicate (d*8) 0++(Qm Vs i++(List.replicate v 0++List.replicate (232-m*8-(i*v+v)) 0))):=by simp only[List.append_assoc]
  rw[a1,s1]
  have s2:=Ra (P:=H++Yl K (i+1) m++Qm Vs i) (z:=List.replicate v (0:UInt8)) (Q:=List.replicate (232-m*8-(i*v+v)) 0) (x:=Vs.getD i []) (k:=12+m*8+i*v) (by rw[List.length_append,List.length_append,hH,Ja,a3]) (by rw[List.length_replicate,a4])
  have a2:H++Yl K i i++leB (K.getD i 0) 8++(List.replicate (d*8) 0++(Qm Vs i++(List.replicate v 0++List.replicate (232-m*8-(i*v+v)) 0)))=H++Yl K (i+1) m++Qm Vs i++List.replicate v 0++List.replicate (232-m*8-(i*v+v)) 0:=by rw[a0];simp only[List.append_assoc]
  rw[a2,s2,Gc,Nat.add_mul,Nat.one_mul]
  simp only[List.append_assoc]
end Go.Proofs.YtgphgaehfdfjjaaGreat
namespace Go.Proofs.YtgphgaehfdfjjaaGreat
set_option maxHeartbeats 8000000
set_option maxRecDepth 100000
open Go.RowKit
set_option linter.unusedVariables false
def Zfk(lo hi k:Int):Bool:=decide (lo≤k∧k<hi)
def Jl(lo hi:Int):Bool:=decide (0≤lo∧lo≤hi∧hi≤281474976710656)
def Kn(l:List Int):Prop:=∀ k,k<l.length→1≤k→l[k-1]?.getD 0<l[k]?.getD 0
instance (l:List Int):Decidable (Kn l):=by unfold Kn;infer_instance
def Vh(lo hi:Int)(l:List Int):Int :=
 if Jl lo hi then if Kn l then if ∀ k∈l,lo≤k∧k<hi then 0 else 9 else 8 else 1
@[go_sem] def spanV (lo hi:Int):Value:=.agg #[V0 lo,V0 hi]
theorem Kn.lt{l:List Int}(h:Kn l):∀ (j i:Nat),i<j→j<l.length→l[i]?.getD 0<l[j]?.getD 0:=by
 intro j
 induction j with
 | zero=>intro i h1;omega
 | succ j ih =>
  intro i h1 h2
  have h3:=h (j+1) h2 (by omega)
  simp only[Nat.add_sub_cancel] at h3
  by_cases hij:i=j
  ·subst hij;exact h3
  ·exact Int.lt_trans (ih i (by omega) (by omega)) h3
theorem Kn.one(l:List Int):Kn (l.take 1):=by
 intro k h1 h2;simp at h1;omega
theorem Kn.succ{l:List Int}{k:Nat}{x y:Int}(h:Kn (l.take k))(hx:l[k-1]? = some x)(hy:l[k]? = some y)(hxy:x<y):Kn (l.take (k+1)):=by
 intro j h1 h2
 have a0:j<k+1:=by simp at h1;omega
 rw[List.getElem?_take,List.getElem?_take,if_pos (by omega),if_pos a0]
 by_cases hj:j=k
 ·subst hj;rw[hx,hy];exact hxy
 ·have:=h j (by simp at h1 ⊢;omega) h2
  rw[List.getElem?_take,List.getElem?_take,if_pos (by omega),if_pos (by omega)] at this
  exact this
theorem Zcd{lo hi:Int}{l:List Int}(h:Jl lo hi=false):Vh lo hi l=1:=by simp[Vh,h]
theorem Zc9{lo hi:Int}{l:List Int}{k:Nat}{x y:Int}(h:Jl lo hi=true)(hk:1≤k)(hx:l[k-1]? = some x)(hy:l[k]? = some y)(hxy:y≤x):Vh lo hi l=8:=by
 have hn:¬ Kn l:=fun hs=>by
  have a0:k<l.length:=by rcases List.getElem?_eq_some_iff.1 hy with ⟨h,_⟩;exact h
  have:=hs k a0 hk
  rw[hx,hy] at this
  simp at this;omega
 simp[Vh,h,hn]
theorem Zax{lo hi:Int}(h:Jl lo hi=true):Vh lo hi []=0:=by
 have hs:Kn []:=fun k h1=>by simp at h1
 simp[Vh,h,hs]
theorem Kn.all{l:List Int}{k:Nat}(h:Kn (l.take k))(hk:l.length≤k):Kn l:=by rwa [List.take_of_length_le hk] at h
theorem Zam{lo hi k:Int}:Zfk lo hi k=true↔lo≤k∧k<hi:=by simp[Zfk]
theorem fits_in{lo hi:Int}{l:List Int}{x y:Int}(h:Jl lo hi=true)(hs:Kn l)(hx:l[0]? = some x)(hy:l[l.length-1]? = some y)(ha:Zfk lo hi x=true)(hb:Zfk lo hi y=true):Vh lo hi l=0:=by
 have a0:∀ k∈l,lo≤k∧k<hi:=by
  intro k hk
  obtain⟨i,a1,rfl⟩:=List.mem_iff_getElem.1 hk
  rw[Zam] at ha hb
  have e:l[i]? = some l[i]:=by simp
  have h1:x≤l[i]:=by
   by_cases h0:i=0
   ·subst h0;rw[hx] at e;injection e with e;omega
   ·have:=hs.lt i 0 (by omega) a1
    rw[hx,e] at this;simp at this;omega
  have h2:l[i]≤y:=by
   by_cases h0:i=l.length-1
   ·subst h0;rw[hy] at e;injection e with e;omega
   ·have:=hs.lt (l.length-1) i (by omega) (by omega)
    rw[hy,e] at this;simp at this;omega
  omega
 simp only[Vh,h,if_true,hs]
 rw[if_pos a0]
theorem Zab{lo hi:Int}{l:List Int}{i:Nat}{x:Int}(h:Jl lo hi=true)(hs:Kn l)(hx:l[i]? = some x)(ha:Zfk lo hi x=false):Vh lo hi l=9:=by
 have hn:¬ ∀ k∈l,lo≤k∧k<hi:=fun a0=>by
  have:=Zam.2 (a0 x (List.mem_of_getElem? hx))
  rw[ha] at this;cases this
 simp only[Vh,h,if_true,hs]
 rw[if_neg hn]
theorem Oq(w:World):C0 76 #[] w (Ret (spanV 0 281474976710656) w):=by
 go_enter Tryz.func76,Tryz.ntmps76
 go_wp2
 exact bodyPost_ret (v:=spanV 0 281474976710656) (by simp[results,Tryz.results76,go_sem,spanV]) rfl ⟨rfl,blx _ _⟩
theorem Fe(lo hi k:Int)(w:World):C0 130 #[spanV lo hi,V0 k] w (Ret (.bool (Zfk lo hi k)) w):=by
 unfold spanV
 go_enter Tryz.func130,Tryz.ntmps130
 go_wp2
 all_goals go_ret
 all_goals refine⟨?_,blx _ _⟩
 all_goals (unfold Zfk;congr 2;simp;omega)
theorem Px(lo hi:Int)(w:World):C0 129 #[spanV lo hi] w (Ret (.bool (Jl lo hi)) w):=by
 unfold spanV
 go_enter Tryz.func129,Tryz.ntmps129
 go_wp2_with fail
 refine(Oq _).mono ?_
 rintro e w' ⟨rfl,hb⟩
 have hz:w.heap.size<w'.heap.size:=ltB hb (by simp)
 have h0:=Cp hb (p:=⟨w.heap.size,0,none⟩) (v:=V0 lo) (by simp[go_sem])
 have h1:=Cp hb (p:=⟨w.heap.size,1,none⟩) (v:=V0 hi) (by simp[go_sem])
 unfold spanV
 go_wp2_with fail
 all_goals go_ret
 all_goals refine⟨?_,bln (bln (blx w _) hb) (blx _ _)⟩
 all_goals (unfold Jl;congr 2;simp[*];try omega)
theorem Ln(lo hi:Int)(v:Value)(l:List Int)(w:World)(hl:Ints w v l) :
 C0 117 #[spanV lo hi,v] w (Ret (V0 (Vh lo hi l)) w):=by
 by_cases hr:Jl lo hi=true
 case neg =>
  have a7:Jl lo hi=false:=by simpa using hr
  unfold spanV
  rcases hl with ⟨a0,c0,rfl,a9,hl⟩|⟨b,a4,a8,rfl,a5,a2,hc⟩
  all_goals
   go_enter Tryz.func117,Tryz.ntmps117
   go_wp2_with fail
   refine(Px _ _ _).mono ?_
   rintro e w' ⟨rfl,hb⟩
   go_wp2_with fail
   go_ret
   exact⟨by rw[Zcd a7];rfl,bln (blx w _) hb⟩
 rcases hl with ⟨a0,c0,rfl,a9,hl⟩|⟨b,a4,a8,rfl,a5,a2,hc⟩
 ·obtain rfl:l=[]:=by simpa using hl
  unfold spanV
  go_enter Tryz.func117,Tryz.ntmps117
  go_wp2_with fail
  refine(Px _ _ _).mono ?_
  rintro e w' ⟨rfl,hb⟩
  go_wp2_with fail
  go_loop [5] (fun i=>i=V0 1) (fun _=>0)
  case atStart=>exact rfl
  case round =>
   obtain rfl:=hrel
   go_wp2_with fail
   refine Kv (by kernel_rfl) (by kernel_rfl) ?_
   repeat (go_big_quiet_step (fail))
   refine wpQuiet_nil ?_
   intro wx
   go_wp2_with fail
   go_ret
   exact⟨by rw[Zax hr];rfl,bln (bln (blx w _) hb) wx.below⟩
 ·unfold maxLen at a2
  unfold spanV
  go_enter Tryz.func117,Tryz.ntmps117
  go_wp2_with fail
  refine(Px _ _ _).mono ?_
  rintro e w' ⟨rfl,hb⟩
  have hz:w.heap.size<w'.heap.size:=ltB hb (by simp)
  have h0:=Cp hb (p:=⟨w.heap.size,0,none⟩) (v:=V0 lo) (by simp[go_sem])
  have h1:=Cp hb (p:=⟨w.heap.size,1,none⟩) (v:=V0 hi) (by simp[go_sem])
  have hB:=bln (blx w _) hb
  have HC:=Lib.hid (fun j x (hj:l[j]? = some x)=>Cp hb (getA _ (hc j (V0 x) (by simp[hj]))))
  clear hc hb
  go_wp2_with fail
  go_loopw [5] (fun i wr=>∃ k:Nat,1≤k∧i=V0 k∧Kn (l.take k)∧Below w'.heap.size w' wr) (fun i _=>l.length-(intOf i).toNat)
  case atStart=>exact⟨1,by omega,rfl,Kn.one l,Below.refl _ _⟩
  case round =>
   obtain⟨k,b0,rfl,hs,a1⟩:=hrel
   have HS:=Lib.hid hs;clear hs
   by_cases hlt:k<l.length
   ·obtain⟨x,hx⟩:∃ x,l[k-1]? = some x:=⟨l[k-1],by simp⟩
    obtain⟨y,hy⟩:∃ y,l[k]? = some y:=⟨l[k],by simp⟩
    have b2:=Cp a1 (HC.out _ _ hx)
    have b3:=Cp a1 (HC.out _ _ hy)
    have HX:=Lib.hid hx;clear hx
    have HY:=Lib.hid hy;clear hy
    go_wp2_with fail
    go_quiet (fail)
    go_wp2_with fail
    ·go_ret
     exact⟨by rw[Zc9 hr b0 HX.out HY.out (by assumption)];rfl,bln hB (blD a1 _)⟩
    ·go_roundw
     case rel=>exact⟨k+1,by omega,by go_num,HS.out.succ HX.out HY.out (by assumption),blD a1 _⟩
     case measure=>simp[intOf];omega
   ·have a6:l.length≤k:=by omega
    by_cases h0l:l.length=0
    ·obtain rfl:l=[]:=List.length_eq_zero_iff.mp h0l
     clear h0l
     go_wp2_with fail
     go_quiet (fail)
     go_wp2_with fail
     go_ret
     exact⟨by rw[Zax hr];rfl,bln hB (blD a1 _)⟩
    ·obtain⟨x,hx⟩:∃ x,l[0]? = some x:=⟨l[0],by simp⟩
     obtain⟨y,hy⟩:∃ y,l[l.length-1]? = some y:=⟨l[l.length-1],by simp⟩
     have b1:0<l.length:=by omega
     have e0:∀ z:Ext wr,z.val.cell? ⟨w.heap.size,0,none⟩=some (V0 lo):=fun z=>z.get (Cp a1 h0)
     have e1:∀ z:Ext wr,z.val.cell? ⟨w.heap.size,1,none⟩=some (V0 hi):=fun z=>z.get (Cp a1 h1)
     have e2:∀ z:Ext wr,z.val.cell? ⟨b,a4,none⟩=some (V0 x):=fun z=>z.get (Cp a1 (HC.out 0 _ hx))
     have e3:∀ z:Ext wr,z.val.cell? ⟨b,a4+(l.length-1),none⟩=some (V0 y):=fun z=>z.get (Cp a1 (HC.out _ _ hy))
     have HX:=Lib.hid hx;clear hx
     have HY:=Lib.hid hy;clear hy
     by_cases ha:Zfk lo hi x=true
     ·by_cases a3:Zfk lo hi y=true
      ·go_wp2_with fail
       refine Kv (by kernel_rfl) (by kernel_rfl) ?_
       repeat (go_big_quiet_step (exact Ret.ext (Fe _ _ _ _)))
       refine wpQuiet_nil ?_
       intro wx
       go_wp2_with fail
       go_ret
       exact⟨by rw[fits_in hr (HS.out.all a6) HX.out HY.out ha a3];rfl,bln (bln hB a1) wx.below⟩
      ·have a3:Zfk lo hi y=false:=by simpa using a3
       go_wp2_with fail
       refine Kv (by kernel_rfl) (by kernel_rfl) ?_
       repeat (go_big_quiet_step (exact Ret.ext (Fe _ _ _ _)))
       refine wpQuiet_nil ?_
       intro wx
       go_wp2_with fail
       go_ret
       exact⟨by rw[Zab hr (HS.out.all a6) HY.out a3];rfl,bln (bln hB a1) wx.below⟩
     ·have ha:Zfk lo hi x=false:=by simpa using ha
      go_wp2_with fail
      refine Kv (by kernel_rfl) (by kernel_rfl) ?_
      repeat (go_big_quiet_step (exact Ret.ext (Fe _ _ _ _)))
      refine wpQuiet_nil ?_
      intro wx
      go_wp2_with fail
      go_ret
      exact⟨by rw[Zab hr (HS.out.all a6) HX.out ha];rfl,bln (bln hB a1) wx.below⟩
end Go.Proofs.YtgphgaehfdfjjaaGreat
namespace Go.Proofs.YtgphgaehfdfjjaaGreat
set_option maxHeartbeats 8000000
set_option maxRecDepth 100000
open Go.RowKit
set_option linter.unusedVariables false
attribute [local go_sem] Oper.semAt_some
def Xi(hi:Int)(l:List Int)(i:Nat):Int×Int:=(l[i]?.getD 0,l[i+1]?.getD hi)
def qOf {n:Nat}(j:Fin n):Nat:=n-1-j.val
def encE(hi:Int)(l:List Int)(j:Fin l.length):Array Value:=#[V0 (qOf j:Int),spanV (Xi hi l (qOf j)).1 (Xi hi l (qOf j)).2]
theorem Kx{n k:Nat}(h:k<n):(List.finRange n).take (k+1)=(List.finRange n).take k++[⟨k,h⟩]:=by
 rw[List.take_succ_eq_append_getElem (by simpa using h)];simp
theorem Mi(n:Nat):(List.finRange n).take n=List.finRange n:=List.take_of_length_le (by simp)
theorem Gu{n k:Nat}(h:k≤n):((List.finRange n).take k).length=k:=by simp[h]
theorem each1_in(l Bs Bk:Nat)(p:Nat→Prop)(hi:Int)(b off cap:Nat)(zs:List Int)(hlen:zs.length≤9223372036854775807)(hb':zs.length=0∨p b)(hBk:p Bk)(J Jx:List (Fin zs.length)→World→Prop)
  (hY:∀ pre x W,J pre W→pre.length<zs.length→YieldAt Fence.wide 2 Tryz.prog l (encE hi zs x) W fun e W' =>
   (e=.returned (.bool true)∧J (pre++[x]) W'∧Keeps p W W')∨(e=.returned (.bool false)∧Jx (pre++[x]) W'))
  (W:World) (hc1:W.cell? ⟨Bs,1,none⟩=some (V0 hi)) (hck:W.cell? ⟨Bk,0,none⟩=some (.slice (some ⟨b,off,none⟩) zs.length cap))
  (hc:∀ j x,zs[j]? = some x→W.cell? ⟨b,off+j,none⟩=some (V0 x)) (h0:J [] W) :
  CallsIn Fence.wide 3 Tryz.prog 131 #[.func (.yield l) #[] #[],P0 Bs,P0 Bk] W fun e W'=>(∃ v,e=.returned v) ∧
   ((∃ ys,ys=List.finRange zs.length∧J ys W')∨(∃ pre,(∃ k,k≤zs.length∧pre=(List.finRange zs.length).take k)∧Jx pre W')):=by
 refine callsIn_of_wp Tryz.func131 rfl trivial ?_ rfl
 simp only[Tryz.ntmps131,List.size_toArray,List.length_cons,List.length_nil,Nat.reduceAdd,Nat.reduceSub,Array.replicate_succ,Array.replicate_zero,List.push_toArray,List.append_toArray,List.nil_append,List.cons_append]
 gi_wp2
 gi_loopw [4,5] (fun h i wr=>∃ k:Nat,k≤zs.length∧i=V0 ((zs.length:Int)-1-k)∧h=V0 (zs[zs.length-k]?.getD hi)∧J ((List.finRange zs.length).take k) wr∧Keeps p W wr)
  (fun _ i _=>((intOf i)+1).toNat)
 case atStart=>exact⟨0,Nat.zero_le _,by simp,by simp,h0,Keeps.refl _ _⟩
 case round =>
  obtain⟨k,hk,rfl,rfl,a1,a3⟩:=hrel
  generalize hhv:zs[zs.length-k]?.getD hi=hv
  by_cases hlt:k<zs.length
  ·have hb:p b:=hb'.resolve_left (by omega)
   obtain⟨x,hx⟩:∃ x,zs[zs.length-1-k]? = some x:=⟨zs[zs.length-1-k],by simp⟩
   have a4:=(a3.cell (a:=⟨Bk,0,none⟩) hBk).trans hck
   have a8:=(a3.cell (a:=⟨b,off+(zs.length-1-k),none⟩) hb).trans (hc _ _ hx)
   obtain⟨q,hq⟩:∃ q:Nat,q=zs.length-1-k:=⟨_,rfl⟩
   have a6:((zs.length:Int)-1-k)=(q:Int):=by omega
   have b4:q<zs.length:=by omega
   obtain⟨fn,b1,a7,b3,hy,hR⟩:=hY _ ⟨k,hlt⟩ wr a1 (by rw[Gu hk];exact hlt)
   have hE:encE hi zs ⟨k,hlt⟩=#[V0 (q:Int),.agg #[V0 x,V0 hv]]:=by
    have e0:zs[q]? = some x:=by rw[hq];exact hx
    have e1:q+1=zs.length-k:=by omega
    have e2:qOf (⟨k,hlt⟩:Fin zs.length)=q:=hq.symm
    simp only[encE,Xi,spanV,e2,e0,e1,hhv,Option.getD_some]
   rw[hE] at hy
   rw[←hq] at a8
   rw[a6]
   have HQ:=Lib.hid hq;clear hq
   have HI:=Lib.hid a6;clear a6
   have HX:=Lib.hid hx;clear hx
   have HV:=Lib.hid hhv;clear hhv
   have HE:=Lib.hid hE;clear hE
   gi_wp2
   refine hR.mono ?_
   rintro e W3 (⟨rfl,b0,a5⟩|⟨rfl,a2⟩)
   ·have b2:=(a5.cell (a:=⟨Bk,0,none⟩) hBk).trans a4
    have a9:=(a5.cell (a:=⟨b,off+q,none⟩) hb).trans a8
    gi_wp2
    go_roundw
    case rel =>
     refine⟨k+1,by omega,?_,?_,by rw[Kx hlt];exact b0,a3.trans a5⟩
     ·exact congrArg V0 (by have:=HI.out;omega)
     ·have h1:zs.length-(k+1)=q:=by have:=HQ.out;omega
      have:=HX.out
      rw[←HQ.out] at this
      rw[h1,this];rfl
    case measure=>simp[intOf]
   ·gi_wp2
    refine bodyPost_ret (results_none rfl _ _ _) rfl ?_
    exact⟨⟨_,rfl⟩,.inr ⟨_,⟨k+1,by omega,by rw[Kx hlt]⟩,a2⟩⟩
  ·obtain rfl:k=zs.length:=by omega
   have a0:((zs.length:Int)-1-zs.length) = -1:=by omega
   rw[a0]
   clear a0 hhv
   rw[Mi] at a1
   have HJ:=Lib.hid a1;clear a1
   gi_wp2
   go_end0
   exact⟨⟨_,rfl⟩,.inl ⟨_,rfl,HJ.out⟩⟩
theorem Sn{α:Type}(l Bs Bk:Nat)(hi:Int)(J:List α→World→Prop)(W:World)(hc1:W.cell? ⟨Bs,1,none⟩=some (V0 hi)){a0:O0}{c0:Nat}(hck:W.cell? ⟨Bk,0,none⟩=some (.slice a0 0 c0))(h0:J [] W) :
 CallsIn Fence.wide 3 Tryz.prog 131 #[.func (.yield l) #[] #[],P0 Bs,P0 Bk] W fun e W'=>(∃ v,e=.returned v)∧J [] W':=by
 refine callsIn_of_wp Tryz.func131 rfl trivial ?_ rfl
 simp only[Tryz.ntmps131,List.size_toArray,List.length_cons,List.length_nil,Nat.reduceAdd,Nat.reduceSub,Array.replicate_succ,Array.replicate_zero,List.push_toArray,List.append_toArray,List.nil_append,List.cons_append]
 gi_wp2
 gi_loopw [4,5] (fun _ i wr=>i=V0 (-1)∧J [] wr) (fun _ _ _=>0)
 case atStart=>exact⟨rfl,h0⟩
 case round =>
  obtain⟨rfl,a1⟩:=hrel
  gi_wp2
  go_end0
  exact⟨⟨_,rfl⟩,a1⟩
theorem Zby(Bs Bk:Nat)(p:Nat→Prop)(hi:Int)(v:Value)(zs:List Int)(w:World)(hp:∀ b,p b→b<w.heap.size)(hk:p Bk)(hs:p Bs)(hlen:zs.length≤9223372036854775807)(hv:Ints w v zs)
  (hvp:zs.length≠0→∀ b off n cap,v=.slice (some ⟨b,off,none⟩) n cap→p b)
  (hc1:w.cell? ⟨Bs,1,none⟩=some (V0 hi)) (hck:w.cell? ⟨Bk,0,none⟩=some v) :
  SeqStopsK Fence.wide 3 Tryz.prog 131 #[P0 Bs,P0 Bk] (encE hi zs) (Keeps p)
   (fun ys=>ys=List.finRange zs.length) (fun pre=>∃ k,k≤zs.length∧pre=(List.finRange zs.length).take k) zs.length w:=fun l J Jx W hW _ _ hY h0=>by
 have a2:=Cp hW hc1
 have a1:=Cp hW hck
 rcases hv with ⟨a0,c0,rfl,h1,h2⟩|⟨b,off,cap,rfl,a3,a4,a5⟩
 ·obtain rfl:zs=[]:=by simpa using h2
  exact(Sn l Bs Bk hi J W a2 a1 h0).mono fun e W' ⟨he,hj⟩=>⟨he,.inl ⟨_,rfl,hj⟩⟩
 ·refine each1_in l Bs Bk p hi b off cap zs hlen ?_ hk J Jx hY W a2 a1 (fun j x hj=>Cp hW (a5 j _ (by simp[hj]))) h0
  by_cases h:zs.length=0
  ·exact .inl h
  ·exact .inr (hvp h _ _ _ _ rfl)
theorem Zd5(lo hi:Int)(a:O0)(n c:Nat)(w:World):C0 118 #[spanV lo hi,.slice a n c] w fun e w' =>
 e=.returned (.func (.func 131) #[] #[.pointer (some ⟨w.heap.size,0,none⟩),.pointer (some ⟨w.heap.size+1,0,none⟩)]) ∧
 w'=(w.alloc (.cells #[V0 lo,V0 hi] 148)).alloc (.cells #[.slice a n c] 68):=by
 unfold spanV
 go_enter Tryz.func118,Tryz.ntmps118
 go_wp2
 go_ret
 exact⟨rfl,rfl⟩
def encB(l:List Int)(j:Fin l.length):Array Value:=#[V0 (qOf j:Int),V0 (l[qOf j]?.getD 0)]
theorem back1_in(l Bk:Nat)(p:Nat→Prop)(b off cap:Nat)(zs:List Int)(hlen:zs.length≤9223372036854775807)(hb':zs.length=0∨p b)(hBk:p Bk)(J Jx:List (Fin zs.length)→World→Prop)
  (hY:∀ pre x W,J pre W→pre.length<zs.length→YieldAt Fence.wide 2 Tryz.prog l (encB zs x) W fun e W' =>
   (e=.returned (.bool true)∧J (pre++[x]) W'∧Keeps p W W')∨(e=.returned (.bool false)∧Jx (pre++[x]) W'))
  (W:World) (hck:W.cell? ⟨Bk,0,none⟩=some (.slice (some ⟨b,off,none⟩) zs.length cap))
  (hc:∀ j x,zs[j]? = some x→W.cell? ⟨b,off+j,none⟩=some (V0 x)) (h0:J [] W) :
  CallsIn Fence.wide 3 Tryz.prog 124 #[.func (.yield l) #[] #[],P0 Bk] W fun e W'=>(∃ v,e=.returned v) ∧
   ((∃ ys,ys=List.finRange zs.length∧J ys W')∨(∃ pre,(∃ k,k≤zs.length∧pre=(List.finRange zs.length).take k)∧Jx pre W')):=by
 refine callsIn_of_wp Tryz.func124 rfl trivial ?_ rfl
 simp only[Tryz.ntmps124,List.size_toArray,List.length_cons,List.length_nil,Nat.reduceAdd,Nat.reduceSub,Array.replicate_succ,Array.replicate_zero,List.push_toArray,List.append_toArray,List.nil_append,List.cons_append]
 gi_wp2
 gi_loopw [3] (fun i wr=>∃ k:Nat,k≤zs.length∧i=V0 ((zs.length:Int)-1-k)∧J ((List.finRange zs.length).take k) wr∧Keeps p W wr)
  (fun i _=>((intOf i)+1).toNat)
 case atStart=>exact⟨0,Nat.zero_le _,by simp,h0,Keeps.refl _ _⟩
 case round =>
  obtain⟨k,hk,rfl,a1,a3⟩:=hrel
  by_cases hlt:k<zs.length
  ·have hb:p b:=hb'.resolve_left (by omega)
   obtain⟨x,hx⟩:∃ x,zs[zs.length-1-k]? = some x:=⟨zs[zs.length-1-k],by simp⟩
   have a6:=(a3.cell (a:=⟨Bk,0,none⟩) hBk).trans hck
   have b1:=(a3.cell (a:=⟨b,off+(zs.length-1-k),none⟩) hb).trans (hc _ _ hx)
   obtain⟨q,hq⟩:∃ q:Nat,q=zs.length-1-k:=⟨_,rfl⟩
   have a4:((zs.length:Int)-1-k)=(q:Int):=by omega
   have b2:q<zs.length:=by omega
   obtain⟨fn,a9,a5,b0,hy,hR⟩:=hY _ ⟨k,hlt⟩ wr a1 (by rw[Gu hk];exact hlt)
   have hE:encB zs ⟨k,hlt⟩=#[V0 (q:Int),V0 x]:=by
    have e0:zs[q]? = some x:=by rw[hq];exact hx
    have e2:qOf (⟨k,hlt⟩:Fin zs.length)=q:=hq.symm
    simp only[encB,e2,e0,Option.getD_some]
   rw[hE] at hy
   rw[←hq] at b1
   rw[a4]
   have HQ:=Lib.hid hq;clear hq
   have HI:=Lib.hid a4;clear a4
   have HX:=Lib.hid hx;clear hx
   have HE:=Lib.hid hE;clear hE
   gi_wp2
   refine hR.mono ?_
   rintro e W3 (⟨rfl,a8,a7⟩|⟨rfl,a2⟩)
   ·gi_wp2
    go_roundw
    case rel =>
     refine⟨k+1,by omega,?_,by rw[Kx hlt];exact a8,a3.trans a7⟩
     exact congrArg V0 (by have:=HI.out;omega)
    case measure=>simp[intOf]
   ·gi_wp2
    refine bodyPost_ret (results_none rfl _ _ _) rfl ?_
    exact⟨⟨_,rfl⟩,.inr ⟨_,⟨k+1,by omega,by rw[Kx hlt]⟩,a2⟩⟩
  ·obtain rfl:k=zs.length:=by omega
   have a0:((zs.length:Int)-1-zs.length) = -1:=by omega
   rw[a0]
   clear a0
   rw[Mi] at a1
   have HJ:=Lib.hid a1;clear a1
   gi_wp2
   go_end0
   exact⟨⟨_,rfl⟩,.inl ⟨_,rfl,HJ.out⟩⟩
theorem Rt{α:Type}(l Bk:Nat)(J:List α→World→Prop)(W:World){a0:O0}{c0:Nat}(hck:W.cell? ⟨Bk,0,none⟩=some (.slice a0 0 c0))(h0:J [] W) :
 CallsIn Fence.wide 3 Tryz.prog 124 #[.func (.yield l) #[] #[],P0 Bk] W fun e W'=>(∃ v,e=.returned v)∧J [] W':=by
 refine callsIn_of_wp Tryz.func124 rfl trivial ?_ rfl
 simp only[Tryz.ntmps124,List.size_toArray,List.length_cons,List.length_nil,Nat.reduceAdd,Nat.reduceSub,Array.replicate_succ,Array.replicate_zero,List.push_toArray,List.append_toArray,List.nil_append,List.cons_append]
 gi_wp2
 gi_loopw [3] (fun i wr=>i=V0 (-1)∧J [] wr) (fun _ _=>0)
 case atStart=>exact⟨rfl,h0⟩
 case round =>
  obtain⟨rfl,a1⟩:=hrel
  gi_wp2
  go_end0
  exact⟨⟨_,rfl⟩,a1⟩
theorem Zdq(Bk:Nat)(p:Nat→Prop)(v:Value)(zs:List Int)(w:World)(hp:∀ b,p b→b<w.heap.size)(hk:p Bk)(hlen:zs.length≤9223372036854775807)(hv:Ints w v zs)
  (hvp:zs.length≠0→∀ b off n cap,v=.slice (some ⟨b,off,none⟩) n cap→p b) (hck:w.cell? ⟨Bk,0,none⟩=some v) :
  SeqStopsK Fence.wide 3 Tryz.prog 124 #[P0 Bk] (encB zs) (Keeps p)
   (fun ys=>ys=List.finRange zs.length) (fun pre=>∃ k,k≤zs.length∧pre=(List.finRange zs.length).take k) zs.length w:=fun l J Jx W hW _ _ hY h0=>by
 have a1:=Cp hW hck
 rcases hv with ⟨a0,c0,rfl,h1,h2⟩|⟨b,off,cap,rfl,a3,a2,a4⟩
 ·obtain rfl:zs=[]:=by simpa using h2
  exact(Rt l Bk J W a1 h0).mono fun e W' ⟨he,hj⟩=>⟨he,.inl ⟨_,rfl,hj⟩⟩
 ·refine back1_in l Bk p b off cap zs hlen ?_ hk J Jx hY W a1 (fun j x hj=>Cp hW (a4 j _ (by simp[hj]))) h0
  by_cases h:zs.length=0
  ·exact .inl h
  ·exact .inr (hvp h _ _ _ _ rfl)
end Go.Proofs.YtgphgaehfdfjjaaGreat
namespace Go.Proofs.YtgphgaehfdfjjaaGreat
set_option maxHeartbeats 8000000
set_option maxRecDepth 100000
open Go.RowKit Go.Extern.Stop Go.Stop Go.Extern
set_option linter.unusedVariables false
attribute [local irreducible] wpList wpAnyH Code.wp Oper.wp Go
theorem Zdd(kind no:Int)(a:O0)(n c:Nat)(l:Bl)(w:World)(hn:l.length=n)(h:Bys w (.slice a n c) l):C0 82 #[.slice a n c,V0 kind,V0 no] w (OpenP kind no l w):=by
 subst hn;exact Zfi kind no a c l w h
def Qo(l:Bl)(tree:Int):Int:=if Kr l=0 then(if tree=0∨Qb l=tree then 0 else 6) else Kr l
def Xl(l:Bl)(no tree:Int):Int:=if inE l 2 no=0 then Qo (inB l no) tree else inE l 2 no
def Node1P(l:Bl)(tree:Int)(w:World)(e:Ending)(w':World):Prop :=
 (Qo l tree≠0∧∃ a b kp n1 kc vp n2 vc,e=.returned (.tuple #[.agg #[V0 a,.bool b,.slice kp n1 kc,.slice vp n2 vc],V0 (Qo l tree)])∧B0 w w') ∨
 (Qo l tree=0∧∃ kp kc vp vc,e=.returned (.tuple #[.agg #[V0 (Qb l),.bool (Xp l),.slice kp (Zn l) kc,.slice vp (Zn l) vc],V0 0])∧B0 w w' ∧
  w'.ownsRow w.heap.size 3 1 (.slice kp (Zn l) kc) (Zn l) ((Vp l (Zn l)).map V0)∧w'.ownsRow w.heap.size 9 1 (.slice vp (Zn l) vc) (Zn l) ((Ho l (Zn l)).map sv))
def Zbd(l:Bl)(no tree:Int)(w:World)(e:Ending)(w':World):Prop :=
 (Xl l no tree≠0∧∃ b,e=.returned (.tuple #[.agg #[V0 0,.bool false,S0,S0],.iface 150 (P0 b)])∧B0 w w'∧Vx w' [some no] (some (Xl l no tree)) (.iface 150 (P0 b))) ∨
 (Xl l no tree=0∧∃ kp kc vp vc,e=.returned (.tuple #[.agg #[V0 (Qb (inB l no)),.bool (Xp (inB l no)),.slice kp (Zn (inB l no)) kc,.slice vp (Zn (inB l no)) vc],.nilIface])∧B0 w w' ∧
  w'.ownsRow w.heap.size 3 1 (.slice kp (Zn (inB l no)) kc) (Zn (inB l no)) ((Vp (inB l no) (Zn (inB l no))).map V0)∧w'.ownsRow w.heap.size 9 1 (.slice vp (Zn (inB l no)) vc) (Zn (inB l no)) ((Ho (inB l no) (Zn (inB l no))).map sv))
theorem node_1(tree:Int)(bt:Nat)(a:O0)(c:Nat)(l:Bl)(w:World)(kt:Blk w bt [V0 tree] 3)(hl:l.length=244)(h:Bys w (.slice a 244 c) l) :
 C0 127 #[.slice a 244 c,P0 bt] w (Node1P l tree w):=by
 refine zin 27 Tryz.func127 ?_
 refine xa 2 [V0 0,.bool false,S0,S0] 117 fun b1 W1 n1=>?_
 refine xc 6 (args:=#[.slice a 244 c]) (Zei a c l _ hl (h.below n1.below)) ?_
 rintro e W2 c7
 rcases c7 with ⟨hz,rfl,a4⟩|⟨hz,kp,kc,vp,vc,rfl,a4,hk,c5⟩
 ·refine xa 3 [V0 0,.bool false,S0,S0] 117 fun b3 W3 n3=>?_
  have k1:=n1.blk.below a4
  have a7:=n3.ne k1
  have a5:=bln n1.below a4
  have g3:=n3.ge a5
  refine xsv 0 n3.blk [V0 0,.bool false,S0,S0] fun W4 u4 k4=>?_
  refine xgk 9 [13,14] (show(((Kr l)==(0:Int)):Bool)=false from beq_false_of_ne hz) ?_
  refine xlv 16 k4.rp ?_
  have b4:=u4.blk (k1.below n3.below) (Ne.symm (Ne.symm a7))
  refine xsv 1 b4 [V0 0,.bool false,S0,S0] fun W6 u6 k6=>?_
  have g1:=n1.ge (B3 w)
  have c1:=u6.below (u4.below (bln a5 n3.below) g3) g1
  exact xec 4 k6 (.tuple #[.agg #[V0 0,.bool false,S0,S0],V0 (Kr l)]) (.inl ⟨by unfold Qo;rw[if_neg hz];exact hz,_,_,_,_,_,_,_,_,by unfold Qo;rw[if_neg hz],c1⟩)
 refine xa 3 [V0 0,.bool false,S0,S0] 117 fun b7 W7 n7=>?_
 have k1:=n1.blk.below a4
 have a0:=n7.ne k1
 have a1:=bln n1.below a4
 have g7:=n7.ge a1
 refine xsv 0 n7.blk [V0 (Qb l),.bool (Xp l),.slice kp (Zn l) kc,.slice vp (Zn l) vc] fun W8 u8 k8=>?_
 have a9:=u8.blkT (((kt.below n1.below).below a4).below n7.below) n7.blk (by decide)
 refine xb 9 0 a9 ?_
 refine xg 3 [16,17,18] (tree != (0:Int)) (fun a6=>?_) (fun a6=>?_)
 ·have a6:=Pi a6
  refine xb 1 0 k8 ?_
  refine xb 0 0 a9 ?_
  refine xin 4 (Qb l) tree (fun b6=>?_) (fun b6=>?_)
  ·refine xlv 2 k8.rp ?_
   have b2:=u8.blk (k1.below n7.below) (Ne.symm (Ne.symm a0))
   refine xsv 0 b2 [V0 (Qb l),.bool (Xp l),.slice kp (Zn l) kc,.slice vp (Zn l) vc] fun d3 c9 d0=>?_
   have g1:=n1.ge (B3 w)
   have b9:=c9.below (u8.below (bln a1 n7.below) g7) g1
   exact xec 5 d0 (.tuple #[.agg #[V0 (Qb l),.bool (Xp l),.slice kp (Zn l) kc,.slice vp (Zn l) vc],V0 6]) (.inl ⟨by unfold Qo;rw[if_pos hz,if_neg (by omega)];decide,_,_,_,_,_,_,_,_,by unfold Qo;rw[if_pos hz,if_neg (by omega)],b9⟩)
  refine xlv 4 k8.rp ?_
  have a2:=u8.blk (k1.below n7.below) (Ne.symm (Ne.symm a0))
  refine xsv 1 a2 [V0 (Qb l),.bool (Xp l),.slice kp (Zn l) kc,.slice vp (Zn l) vc] fun d2 c3 c8=>?_
  have g1:=n1.ge (B3 w)
  have b8:=c3.below (u8.below (bln a1 n7.below) g7) g1
  have b5:=c3.own2 (u8.own2 (Zb (Zh hk n1.below.size) n7.below) n7.blk (by decide)) a2 (by decide)
  have a8:=c3.own2 (u8.own2 (Zb (Zh c5 n1.below.size) n7.below) n7.blk (by decide)) a2 (by decide)
  exact xec 4 c8 (.tuple #[.agg #[V0 (Qb l),.bool (Xp l),.slice kp (Zn l) kc,.slice vp (Zn l) vc],V0 0]) (.inr ⟨by unfold Qo;rw[if_pos hz,if_pos (by omega)],_,_,_,_,rfl,b8,b5,a8⟩)
 have a6:=Qi a6
 refine xlv 12 k8.rp ?_
 have a3:=u8.blk (k1.below n7.below) (Ne.symm (Ne.symm a0))
 refine xsv 1 a3 [V0 (Qb l),.bool (Xp l),.slice kp (Zn l) kc,.slice vp (Zn l) vc] fun d1 c2 c6=>?_
 have g1:=n1.ge (B3 w)
 have c0:=c2.below (u8.below (bln a1 n7.below) g7) g1
 have c4:=c2.own2 (u8.own2 (Zb (Zh hk n1.below.size) n7.below) n7.blk (by decide)) a3 (by decide)
 have b0:=c2.own2 (u8.own2 (Zb (Zh c5 n1.below.size) n7.below) n7.blk (by decide)) a3 (by decide)
 exact xec 4 c6 (.tuple #[.agg #[V0 (Qb l),.bool (Xp l),.slice kp (Zn l) kc,.slice vp (Zn l) vc],V0 0]) (.inr ⟨by unfold Qo;rw[if_pos hz,if_pos (by omega)],_,_,_,_,rfl,c0,c4,b0⟩)
theorem readNode(B b:Nat)(p:O0)(n c:Nat)(l:Bl)(no tree:Int)(w:World)(hI:ImgR B b p n c l w)(bt:Nat)(kt:Blk w bt [V0 tree] 3) :
 C0 126 #[P0 b,V0 no,V0 2,.func (.func 127) #[] #[P0 bt]] w (Zbd l no tree w):=by
 refine zin 56 Tryz.func126 ?_
 refine xa 2 [V0 0,.bool false,S0,S0] 117 fun b1 W1 n1=>?_
 refine xa 5 [V0 0,.bool false,S0,S0] 117 fun b2 W2 n2=>?_
 have h8:=n2.ne n1.blk
 have hB:=bln n1.below n2.below
 refine xc 6 (args:=#[P0 b,V0 no]) (Zb5 B b p n c l no _ (hI.below hB)) ?_
 rintro e W3 j9
 rcases j9 with ⟨ho,vr,rfl,a0⟩|⟨j,hk,hj,p2,c2,rfl,a0,ho⟩
 ·refine xd 16 (.t w.heap.size [117]) ?_
  refine xm2 (.b [1,2,3]) 0 4 ?_ ?_
  ·have k2:=(n2.blk.below a0).below (Za W3)
   refine xlv 0 k2.rp ?_
   refine yc (.o [] 4) (args:=#[V0 no,.iface 26 (V0 3)]) (.t w.heap.size [117]) (Vz no 3 _) ?_
   rintro _ W4 ⟨_,rfl,f5,f6⟩
   refine⟨(SF.of_below _ f5),?_⟩
   rw[if_neg (by decide),if_neg (by decide)] at f6
   have k0:=f6
   obtain⟨k3,l6,rfl,_,_⟩:=k0
   have c6:=(((n1.blk.below n2.below).below a0).below (Za W3)).below f5
   have g1:=n1.ge (B3 w)
   refine ysv (.o [] 5) c6 [V0 0,.bool false,S0,S0] (.t w.heap.size [117]) fun W5 u5 k5=>⟨(Xd u5 c6 g1 (by decide)),?_⟩
   have g9:=u5.below (bln (bln (bln hB a0) (Za W3)) f5) g1
   have e4:=f6.upd u5 c6 (by decide)
   refine xec (.r [6] 4) k5 (.tuple #[.agg #[V0 0,.bool false,S0,S0],.iface 150 (P0 k3)]) ?_
   have he:Xl l no tree=3:=by unfold Xl;rw[Zgo hI.len ho];rfl
   exact .inl ⟨by rw[he];decide,_,rfl,g9,by rw[he];exact e4⟩
  refine yc 0 (args:=#[V0 no,.iface 26 (V0 3)]) (.t w.heap.size [117]) (Vz no 3 _) ?_
  rintro _ W6 ⟨_,rfl,e5,f8⟩
  refine⟨(SF.of_below _ e5),?_⟩
  rw[if_neg (by decide),if_neg (by decide)] at f8
  have j2:=f8
  obtain⟨i8,k9,rfl,_,_⟩:=j2
  have k2:=((n2.blk.below a0).below (Za W3)).below e5
  refine xlv (.o [] 0) k2.rp ?_
  have b0:=(((n1.blk.below n2.below).below a0).below (Za W3)).below e5
  have g1:=n1.ge (B3 w)
  refine ysv (.o [] 5) b0 [V0 0,.bool false,S0,S0] (.t w.heap.size [117]) fun W7 u7 k7=>⟨(Xd u7 b0 g1 (by decide)),?_⟩
  have f3:=u7.below (bln (bln (bln hB a0) (Za W3)) e5) g1
  have d6:=f8.upd u7 b0 (by decide)
  refine xec (.r [6] 4) k7 (.tuple #[.agg #[V0 0,.bool false,S0,S0],.iface 150 (P0 i8)]) ?_
  have he:Xl l no tree=3:=by unfold Xl;rw[Zgo hI.len ho];rfl
  exact .inl ⟨by rw[he];decide,_,rfl,f3,by rw[he];exact d6⟩
 have j0:=(bln n1.below n2.below).size
 have i3:j<l.length/256:=by rw[hI.len];exact hj
 have h9:=Jz i3
 have e1:=inE_in (l:=l) (kind:=2) hI.len hk hj
 have g5:=Zh ho j0
 refine xc 22 (args:=#[.slice p2 256 c2,V0 2,V0 no]) (Zdd 2 no p2 256 c2 (Ua l j) _ h9 (Jh (Zf g5) h9)) ?_
 rintro e W8 j1
 rcases j1 with ⟨hs,rfl,a2⟩|⟨hs,p3,c3,rfl,a2,h3⟩
 ·refine xk 14 (show(((Vu 2 no (Ua l j)) != (0:Int)):Bool)=true from bne_iff_ne.2 hs) ?_
  refine xd 1 (.t w.heap.size [117]) ?_
  refine xm2 (.b [1,2,3]) 0 4 ?_ ?_
  ·have k2:=((n2.blk.below a0).below a2).below (Za W8)
   refine xlv 0 k2.rp ?_
   refine yc (.o [] 4) (args:=#[V0 no,.iface 26 (V0 (Vu 2 no (Ua l j)))]) (.t w.heap.size [117]) (Vz no (Vu 2 no (Ua l j)) _) ?_
   rintro _ W9 ⟨_,rfl,f7,g6⟩
   refine⟨(SF.of_below _ f7),?_⟩
   rw[if_neg hs,if_neg hs] at g6
   have j8:=g6
   obtain⟨j4,m6,rfl,_,_⟩:=j8
   have c8:=((((n1.blk.below n2.below).below a0).below a2).below (Za W8)).below f7
   have g1:=n1.ge (B3 w)
   refine ysv (.o [] 5) c8 [V0 0,.bool false,S0,S0] (.t w.heap.size [117]) fun l5 g8 i6=>⟨(Xd g8 c8 g1 (by decide)),?_⟩
   have f9:=g8.below (bln (bln (bln (bln hB a0) a2) (Za W8)) f7) g1
   have e0:=g6.upd g8 c8 (by decide)
   refine xec (.r [6] 4) i6 (.tuple #[.agg #[V0 0,.bool false,S0,S0],.iface 150 (P0 j4)]) ?_
   have he:Xl l no tree=Vu 2 no (Ua l j):=by unfold Xl;rw[e1,if_neg hs]
   exact .inl ⟨by rw[he];exact hs,_,rfl,f9,by rw[he];exact e0⟩
  refine yc 0 (args:=#[V0 no,.iface 26 (V0 (Vu 2 no (Ua l j)))]) (.t w.heap.size [117]) (Vz no (Vu 2 no (Ua l j)) _) ?_
  rintro _ l8 ⟨_,rfl,a9,d1⟩
  refine⟨(SF.of_below _ a9),?_⟩
  rw[if_neg hs,if_neg hs] at d1
  have g0:=d1
  obtain⟨e8,j6,rfl,_,_⟩:=g0
  have k2:=(((n2.blk.below a0).below a2).below (Za W8)).below a9
  refine xlv (.o [] 0) k2.rp ?_
  have c9:=((((n1.blk.below n2.below).below a0).below a2).below (Za W8)).below a9
  have g1:=n1.ge (B3 w)
  refine ysv (.o [] 5) c9 [V0 0,.bool false,S0,S0] (.t w.heap.size [117]) fun m0 g7 i7=>⟨(Xd g7 c9 g1 (by decide)),?_⟩
  have h5:=g7.below (bln (bln (bln (bln hB a0) a2) (Za W8)) a9) g1
  have d0:=d1.upd g7 c9 (by decide)
  refine xec (.r [6] 4) i7 (.tuple #[.agg #[V0 0,.bool false,S0,S0],.iface 150 (P0 e8)]) ?_
  have he:Xl l no tree=Vu 2 no (Ua l j):=by unfold Xl;rw[e1,if_neg hs]
  exact .inl ⟨by rw[he];exact hs,_,rfl,h5,by rw[he];exact d0⟩
 have k6:=(bln hB a0).size
 have d9:=Zh h3 k6
 have j5:((Ua l j).drop 8).take 244=inB l no:=(inB_in hk).symm
 have i0:=inB_len hI.len hk hj
 rw[j5] at d9
 have c7:=bln (bln hB a0) a2
 refine xc 21 (args:=#[.slice p3 244 c3,P0 bt]) (node_1 tree bt p3 c3 (inB l no) _ (kt.below c7) i0 (Jh (Zf d9) i0)) ?_
 rintro e k8 h4
 rcases h4 with ⟨hz,a5,b5,kp,m1,kc,vp,m2,vc,rfl,a1⟩|⟨hz,kp,kc,vp,vc,rfl,a1,hk,j3⟩
 ·refine xa 3 [V0 0,.bool false,S0,S0] 117 fun l2 l0 a6=>?_
  have b7:=(((n1.blk.below n2.below).below a0).below a2).below a1
  have a4:=a6.ne b7
  have k2:=((n2.blk.below a0).below a2).below a1
  have a3:=a6.ne k2
  have c1:=bln c7 a1
  have i1:=a6.ge c1
  refine xsv 0 a6.blk [V0 a5,.bool b5,.slice kp m1 kc,.slice vp m2 vc] fun d4 d3 m3=>?_
  refine xk 10 (show(((Qo (inB l no) tree) != (0:Int)):Bool)=true from bne_iff_ne.2 hz) ?_
  refine xd 1 (.t w.heap.size [117]) ?_
  refine xm2 (.b [1,2,3]) 0 4 ?_ ?_
  ·have e9:=(d3.blk (k2.below a6.below) (Ne.symm (Ne.symm a3))).below (Za d4)
   refine xlv 0 e9.rp ?_
   refine yc (.o [] 4) (args:=#[V0 no,.iface 26 (V0 (Qo (inB l no) tree))]) (.t w.heap.size [117]) (Vz no (Qo (inB l no) tree) _) ?_
   rintro _ l4 ⟨_,rfl,c5,b6⟩
   refine⟨(SF.of_below _ c5),?_⟩
   rw[if_neg hz,if_neg hz] at b6
   have h2:=b6
   obtain⟨e7,j7,rfl,_,_⟩:=h2
   have b9:=((d3.blk (b7.below a6.below) (Ne.symm (Ne.symm a4))).below (Za d4)).below c5
   have g1:=n1.ge (B3 w)
   refine ysv (.o [] 5) b9 [V0 0,.bool false,S0,S0] (.t w.heap.size [117]) fun m5 h7 k4=>⟨(Xd h7 b9 g1 (by decide)),?_⟩
   have f0:=h7.below (bln (bln (d3.below (bln c1 a6.below) i1) (Za d4)) c5) g1
   have b8:=b6.upd h7 b9 (by decide)
   refine xec (.r [6] 4) k4 (.tuple #[.agg #[V0 0,.bool false,S0,S0],.iface 150 (P0 e7)]) ?_
   have he:Xl l no tree=Qo (inB l no) tree:=by unfold Xl;rw[e1,if_pos hs]
   exact .inl ⟨by rw[he];exact hz,_,rfl,f0,by rw[he];exact b8⟩
  refine yc 0 (args:=#[V0 no,.iface 26 (V0 (Qo (inB l no) tree))]) (.t w.heap.size [117]) (Vz no (Qo (inB l no) tree) _) ?_
  rintro _ m4 ⟨_,rfl,a8,d2⟩
  refine⟨(SF.of_below _ a8),?_⟩
  rw[if_neg hz,if_neg hz] at d2
  have h1:=d2
  obtain⟨h0,k1,rfl,_,_⟩:=h1
  have h6:=((d3.blk (k2.below a6.below) (Ne.symm (Ne.symm a3))).below (Za d4)).below a8
  refine xlv (.o [] 0) h6.rp ?_
  have b3:=((d3.blk (b7.below a6.below) (Ne.symm (Ne.symm a4))).below (Za d4)).below a8
  have g1:=n1.ge (B3 w)
  refine ysv (.o [] 5) b3 [V0 0,.bool false,S0,S0] (.t w.heap.size [117]) fun l3 g3 i5=>⟨(Xd g3 b3 g1 (by decide)),?_⟩
  have f4:=g3.below (bln (bln (d3.below (bln c1 a6.below) i1) (Za d4)) a8) g1
  have c0:=d2.upd g3 b3 (by decide)
  refine xec (.r [6] 4) i5 (.tuple #[.agg #[V0 0,.bool false,S0,S0],.iface 150 (P0 h0)]) ?_
  have he:Xl l no tree=Qo (inB l no) tree:=by unfold Xl;rw[e1,if_pos hs]
  exact .inl ⟨by rw[he];exact hz,_,rfl,f4,by rw[he];exact c0⟩
 have d7:=(bln (bln hB a0) a2).size
 refine xa 3 [V0 0,.bool false,S0,S0] 117 fun l1 l9 a7=>?_
 have e2:=(((n1.blk.below n2.below).below a0).below a2).below a1
 have c4:=a7.ne e2
 have k2:=((n2.blk.below a0).below a2).below a1
 have f1:=a7.ne k2
 have e3:=bln c7 a1
 have i2:=a7.ge e3
 refine xsv 0 a7.blk [V0 (Qb (inB l no)),.bool (Xp (inB l no)),.slice kp (Zn (inB l no)) kc,.slice vp (Zn (inB l no)) vc] fun m7 e6 i4=>?_
 refine xlv 15 i4.rp ?_
 have b4:=e6.blk (e2.below a7.below) (Ne.symm (Ne.symm c4))
 refine xsv 0 b4 [V0 (Qb (inB l no)),.bool (Xp (inB l no)),.slice kp (Zn (inB l no)) kc,.slice vp (Zn (inB l no)) vc] fun l7 g2 i9=>?_
 have g1:=n1.ge (B3 w)
 have d5:=g2.below (e6.below (bln e3 a7.below) i2) g1
 have f2:=g2.own2 (e6.own2 (Zb (Zh hk d7) a7.below) a7.blk (by decide)) b4 (by decide)
 have d8:=g2.own2 (e6.own2 (Zb (Zh j3 d7) a7.below) a7.blk (by decide)) b4 (by decide)
 exact xec 4 i9 (.tuple #[.agg #[V0 (Qb (inB l no)),.bool (Xp (inB l no)),.slice kp (Zn (inB l no)) kc,.slice vp (Zn (inB l no)) vc],.nilIface]) (.inr ⟨by unfold Xl;rw[e1,if_pos hs,hz],_,_,_,_,rfl,d5,f2,d8⟩)
theorem Eg(B b:Nat)(p:O0)(n c:Nat)(l:Bl)(no tree:Int)(w:World)(hI:ImgR B b p n c l w) :
 C0 116 #[P0 b,V0 no,V0 tree] w (Zbd l no tree w):=by
 refine zin 14 Tryz.func116 ?_
 refine xa 2 [V0 tree] 3 fun b1 W1 n1=>?_
 refine xa 0 [V0 0,.bool false,S0,S0] 117 fun b2 W2 n2=>?_
 have hB:=bln n1.below n2.below
 have k1:=n1.blk.below n2.below
 refine xc 8 (args:=#[P0 b,V0 no,V0 2,.func (.func 127) #[] #[P0 b1]]) (readNode B b p n c l no tree _ (hI.below hB) b1 k1) ?_
 rintro e W3 a7
 rcases a7 with ⟨he,bf,rfl,a0,hv⟩|⟨he,kp,kc,vp,vc,rfl,a0,hk,a8⟩
 ·have k2:=n2.blk.below a0
  refine xsv 2 k2 [V0 0,.bool false,S0,S0] fun W4 u4 k4=>?_
  have g2:=n2.ge n1.below
  have a3:=u4.below (bln hB a0) g2
  have a2:=hv.upd u4 k2 (by decide)
  exact xec 4 k4 (.tuple #[.agg #[V0 0,.bool false,S0,S0],.iface 150 (P0 bf)]) (.inl ⟨he,_,rfl,a3,a2⟩)
 have a6:=(bln n1.below n2.below).size
 have k2:=n2.blk.below a0
 refine xsv 2 k2 [V0 (Qb (inB l no)),.bool (Xp (inB l no)),.slice kp (Zn (inB l no)) kc,.slice vp (Zn (inB l no)) vc] fun W5 u5 k5=>?_
 have g2:=n2.ge n1.below
 have a5:=u5.below (bln hB a0) g2
 have a4:=u5.own2 (Zh hk a6) k2 (by decide)
 have a1:=u5.own2 (Zh a8 a6) k2 (by decide)
 exact xec 4 k5 (.tuple #[.agg #[V0 (Qb (inB l no)),.bool (Xp (inB l no)),.slice kp (Zn (inB l no)) kc,.slice vp (Zn (inB l no)) vc],.nilIface]) (.inr ⟨he,_,_,_,_,rfl,a5,a4,a1⟩)
end Go.Proofs.YtgphgaehfdfjjaaGreat
