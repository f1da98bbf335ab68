/- The document's answer for layer 7: Width, Max, Right and Put at a node that is right. -/
import Derived.Test.YtegcamkgeacjfaaGreatDoorRows
import Derived.RangeFuncNested
import Derived.RangeFuncBound
import Derived.RangeFuncCalls
import Derived.RangeFuncLeaves
import Derived.Shelf.Abstract
import Derived.Shelf.RegionOpen
import Derived.OwnWalkIn
import Derived.TacticsInMore
import Derived.LoopNIn
import Derived.LoopIn
import Derived.Test.YtegcamkgeacjfaaGreatDoorMg2
namespace Go.Proofs.YtegcamkgeacjfaaGreatDoor
set_option maxHeartbeats 8000000
set_option maxRecDepth 100000
open Go.RowKit Go.Extern.Stop Go.Stop Go.Extern
set_option linter.unusedVariables false
attribute [local irreducible] wpList wpAnyH Code.wp Oper.wp Go
theorem Mq(w:World) :
 C0 173 #[V0 1,.bool true] w (Ret (V0 4) w):=by
 refine zin 19 Tryz.func173 ?_
 refine xbs 7 6 [V0 0,V0 4,V0 8,V0 24,V0 16,V0 4] 3 fun b1 W1 n1=>?_
 refine xb 32 1 n1.blk ?_
 exact xe 4 (V0 4) ⟨rfl,n1.below⟩
theorem Zdd(w:World) :
 C0 88 #[V0 1,.bool true] w (Ret (V0 18) w):=by
 refine zin 16 Tryz.func88 ?_
 refine xr 10 (args:=#[V0 1,.bool true]) (Mq _) fun W1 a0=>?_
 exact xe 18 (V0 18) ⟨rfl,a0⟩
theorem Ld(w:World) :
 C0 173 #[V0 2,.bool true] w (Ret (V0 8) w):=by
 refine zin 19 Tryz.func173 ?_
 refine xbs 7 6 [V0 0,V0 4,V0 8,V0 24,V0 16,V0 4] 3 fun b1 W1 n1=>?_
 refine xb 32 2 n1.blk ?_
 exact xe 4 (V0 8) ⟨rfl,n1.below⟩
theorem Zc0(w:World) :
 C0 88 #[V0 2,.bool true] w (Ret (V0 12) w):=by
 refine zin 16 Tryz.func88 ?_
 refine xr 10 (args:=#[V0 2,.bool true]) (Ld _) fun W1 a0=>?_
 exact xe 25 (V0 12) ⟨rfl,a0⟩
theorem Li(w:World) :
 C0 173 #[V0 3,.bool true] w (Ret (V0 24) w):=by
 refine zin 19 Tryz.func173 ?_
 refine xbs 7 6 [V0 0,V0 4,V0 8,V0 24,V0 16,V0 4] 3 fun b1 W1 n1=>?_
 refine xb 32 3 n1.blk ?_
 exact xe 4 (V0 24) ⟨rfl,n1.below⟩
theorem Zei(w:World) :
 C0 88 #[V0 3,.bool true] w (Ret (V0 6) w):=by
 refine zin 16 Tryz.func88 ?_
 refine xr 10 (args:=#[V0 3,.bool true]) (Li _) fun W1 a0=>?_
 exact xe 39 (V0 6) ⟨rfl,a0⟩
theorem Mm(w:World) :
 C0 173 #[V0 4,.bool true] w (Ret (V0 16) w):=by
 refine zin 19 Tryz.func173 ?_
 refine xbs 7 6 [V0 0,V0 4,V0 8,V0 24,V0 16,V0 4] 3 fun b1 W1 n1=>?_
 refine xb 32 4 n1.blk ?_
 exact xe 4 (V0 16) ⟨rfl,n1.below⟩
theorem Zdp(w:World) :
 C0 88 #[V0 4,.bool true] w (Ret (V0 9) w):=by
 refine zin 16 Tryz.func88 ?_
 refine xr 10 (args:=#[V0 4,.bool true]) (Mm _) fun W1 a0=>?_
 exact xe 32 (V0 9) ⟨rfl,a0⟩
theorem Mi(w:World) :
 C0 173 #[V0 5,.bool true] w (Ret (V0 4) w):=by
 refine zin 19 Tryz.func173 ?_
 refine xbs 7 6 [V0 0,V0 4,V0 8,V0 24,V0 16,V0 4] 3 fun b1 W1 n1=>?_
 refine xb 32 5 n1.blk ?_
 exact xe 4 (V0 4) ⟨rfl,n1.below⟩
theorem Zc3(w:World) :
 C0 88 #[V0 5,.bool true] w (Ret (V0 18) w):=by
 refine zin 16 Tryz.func88 ?_
 refine xr 10 (args:=#[V0 5,.bool true]) (Mi _) fun W1 a0=>?_
 exact xe 18 (V0 18) ⟨rfl,a0⟩
theorem Na(t:Int)(w:World)(h1:1≤t)(h2:t≤5) :
 C0 173 #[V0 t,.bool false] w (Ret (V0 4) w):=by
 refine zin 19 Tryz.func173 ?_
 refine xbs 7 6 [V0 0,V0 4,V0 8,V0 24,V0 16,V0 4] 3 fun b1 W1 n1=>?_
 refine xgk 9 [8,9] (show(decide (t<(1:Int)):Bool)=false from decide_eq_false (by omega)) ?_
 refine xk 5 (show(decide (t>(5:Int)):Bool)=false from decide_eq_false (by omega)) ?_
 exact xe 17 (V0 4) ⟨rfl,n1.below⟩
theorem Zad(t:Int)(w:World)(h1:1≤t)(h2:t≤5) :
 C0 88 #[V0 t,.bool false] w (Ret (V0 18) w):=by
 refine zin 16 Tryz.func88 ?_
 refine xr 10 (args:=#[V0 t,.bool false]) (Na t _ h1 h2) fun W1 a0=>?_
 exact xe 18 (V0 18) ⟨rfl,a0⟩
theorem Pj(t:Int)(leaf:Bool)(w:World)(h:¬ (1≤t∧t≤5)) :
 C0 173 #[V0 t,.bool leaf] w (Ret (V0 0) w):=by
 refine zin 19 Tryz.func173 ?_
 refine xbs 7 6 [V0 0,V0 4,V0 8,V0 24,V0 16,V0 4] 3 fun b1 W1 n1=>?_
 refine xg 9 [8,9] (decide (t<(1:Int))) (fun a0=>?_) (fun a0=>?_)
 ·have a0:=of_decide_eq_true a0
  exact xe 13 (V0 0) ⟨rfl,n1.below⟩
 have a0:=of_decide_eq_false a0
 refine xk 5 (show(decide (t>(5:Int)):Bool)=true from decide_eq_true (by omega)) ?_
 exact xe 7 (V0 0) ⟨rfl,n1.below⟩
theorem Zac(t:Int)(leaf:Bool)(w:World)(h:¬ (1≤t∧t≤5)) :
 C0 88 #[V0 t,.bool leaf] w (Ret (V0 0) w):=by
 refine zin 16 Tryz.func88 ?_
 refine xr 10 (args:=#[V0 t,.bool leaf]) (Pj t leaf _ h) fun W1 a0=>?_
 exact xe 40 (V0 0) ⟨rfl,a0⟩
theorem Za0(t:Int)(leaf:Bool)(v:Nat)(hv:widN t leaf=v)(h1:1≤t)(h2:t≤5)(w:World):C0 173 #[V0 t,.bool leaf] w (Ret (V0 (v:Int)) w):=by
 subst hv
 cases leaf
 ·exact Na t w h1 h2
 obtain rfl|rfl|rfl|rfl|rfl:t=1∨t=2∨t=3∨t=4∨t=5:=by omega
 ·exact Mq w
 ·exact Ld w
 ·exact Li w
 ·exact Mm w
 ·exact Mi w
theorem Zhh(t:Int)(leaf:Bool)(m:Nat)(hm:maxN t leaf=m)(h1:1≤t)(h2:t≤5)(w:World):C0 88 #[V0 t,.bool leaf] w (Ret (V0 (m:Int)) w):=by
 subst hm
 cases leaf
 ·exact Zad t w h1 h2
 obtain rfl|rfl|rfl|rfl|rfl:t=1∨t=2∨t=3∨t=4∨t=5:=by omega
 ·exact Zdd w
 ·exact Zc0 w
 ·exact Zei w
 ·exact Zdp w
 ·exact Zc3 w
theorem Mr(t:Int)(leaf:Bool)(w:World):C0 173 #[V0 t,.bool leaf] w (Ret (V0 (Zg1 t leaf:Int)) w):=by
 unfold Zg1
 by_cases h:1≤t∧t≤5
 ·rw[if_pos h];exact Za0 t leaf _ rfl h.1 h.2 w
 ·rw[if_neg h];exact Pj t leaf w h
theorem Ni(t:Int)(leaf:Bool)(w:World):C0 88 #[V0 t,.bool leaf] w (Ret (V0 (Zfa t leaf:Int)) w):=by
 unfold Zfa
 by_cases h:1≤t∧t≤5
 ·rw[if_pos h];exact Zhh t leaf _ rfl h.1 h.2 w
 ·rw[if_neg h];exact Zac t leaf w h
theorem Nj{l:Bl}(h:Vu l=true):Zt l≤Xp l∧12+Xp l*8+Xp l*Xm l≤244∧Xp l≤18∧Xm l≤24∧Zt l*Xm l≤Xp l*Xm l :=
 ⟨Jk h,fitG (Xv l) (Xr l),Zax (Xv l) (Xr l),Oy (Xv l) (Xr l),Nat.mul_le_mul_right _ (Jk h)⟩
theorem Zd8(a:O0)(c:Nat)(l:Bl)(w:World)(hl:l.length=244)(h:Bys w (.slice a 244 c) l) :
 C0 294 #[.slice a 244 c] w (Ret (.bool (Vu l&&Lp l)) w):=by
 have e4:=Bys.cap h hl
 have e3:=raw1 l 0
 have f4:=Nt l 2 2
 have e9:=Zax (Xv l) (Xr l)
 have e6:=Oy (Xv l) (Xr l)
 change Xp l≤18 at e9
 change Xm l≤24 at e6
 refine zin 101 Tryz.func294 ?_
 refine xx 13 _ 244 0 1 (BysM.elem h hl (k:=0) (by omega)).1 ?_
 refine xl 0 ((BysM.elem h hl (k:=0) (by omega)).2) ?_
 refine xid 4 ((↑(l.getD 0 0).toNat:Int)>(1:Int)) (fun e7=>?_) (fun e7=>?_)
 ·refine xe 7 (.bool false) ?_
  rw[show Vu l=false from decide_eq_false (by omega)];exact⟨rfl,(B1 w)⟩
 refine xbs 5 6 [V0 1,V0 1,V0 2,V0 2,V0 2,V0 4] 3 fun b2 W2 n2=>?_
 refine xc 0 (args:=#[.slice a 244 c,.slice (S1 b2) 6 6]) (Cr a 244 c l (S1 b2) 6 6 [1,1,2,2,2,4] (Yg l) _ hl rfl rfl (by decide) (by decide) (by decide) (by decide) (h.below n2.below) (n2.blk.sl 6 6 (by decide) (by decide)) (Zbg l)) ?_
 rintro _ W3 ⟨_,rfl,a6,p5,c5,rfl,h5⟩
 have a1:=Zg h5 n2.below.size
 refine xx 10 _ 6 0 1 (Zr (l:=Yg l) (Zh a1) rfl (k:=0) (by decide)).1 ?_
 refine xl 0 ((Zr (l:=Yg l) (Zh a1) rfl (k:=0) (by decide)).2) ?_
 refine xx 7 _ 6 1 1 (Zr (l:=Yg l) (Zh a1) rfl (k:=1) (by decide)).1 ?_
 refine xl 0 ((Zr (l:=Yg l) (Zh a1) rfl (k:=1) (by decide)).2) ?_
 refine xr 1 (args:=#[V0 (↑(Zl l 1 1):Int),.bool ((↑(Zl l 0 1):Int)==(1:Int))]) (Mr (Xv l) (Xr l) _) fun W4 a5=>?_
 have b4:=Zb a1 a5
 refine xx 6 _ 6 1 1 (Zr (l:=Yg l) (Zh b4) rfl (k:=1) (by decide)).1 ?_
 refine xl 0 ((Zr (l:=Yg l) (Zh b4) rfl (k:=1) (by decide)).2) ?_
 refine xr 1 (args:=#[V0 (↑(Zl l 1 1):Int),.bool ((↑(Zl l 0 1):Int)==(1:Int))]) (Ni (Xv l) (Xr l) _) fun W5 a4=>?_
 refine xg 9 [38,39] ((↑(Xm l):Int)==(0:Int)) (fun c0=>?_) (fun c0=>?_)
 ·have c0:=eq_of_beq c0
  have c8:=bln (bln (bln n2.below a6) a5) a4
  refine xe 46 (.bool false) ?_
  rw[show Vu l=false from decide_eq_false (by omega)];exact⟨rfl,c8⟩
 have c0:=Xl c0
 have a0:=Zb b4 a4
 refine xx 1 _ 6 3 1 (Zr (l:=Yg l) (Zh a0) rfl (k:=3) (by decide)).1 ?_
 refine xl 0 ((Zr (l:=Yg l) (Zh a0) rfl (k:=3) (by decide)).2) ?_
 refine xg 4 [44,45,46] ((↑(Zl l 4 2):Int) != (↑(Xm l):Int)) (fun c1=>?_) (fun c1=>?_)
 ·have c1:=Qk c1
  have d5:=bln (bln (bln n2.below a6) a5) a4
  refine xe 39 (.bool false) ?_
  rw[show Vu l=false from decide_eq_false (by omega)];exact⟨rfl,d5⟩
 have c1:=Xn c1
 refine xx 1 _ 6 4 1 (Zr (l:=Yg l) (Zh a0) rfl (k:=4) (by decide)).1 ?_
 refine xl 0 ((Zr (l:=Yg l) (Zh a0) rfl (k:=4) (by decide)).2) ?_
 refine xg 4 [51,52,53] ((↑(Zl l 6 2):Int) != (↑(Xp l):Int)) (fun b9=>?_) (fun b9=>?_)
 ·have b9:=Qk b9
  have d2:=bln (bln (bln n2.below a6) a5) a4
  refine xe 32 (.bool false) ?_
  rw[show Vu l=false from decide_eq_false (by omega)];exact⟨rfl,d2⟩
 have b9:=Xn b9
 refine xx 1 _ 6 5 1 (Zr (l:=Yg l) (Zh a0) rfl (k:=5) (by decide)).1 ?_
 refine xl 0 ((Zr (l:=Yg l) (Zh a0) rfl (k:=5) (by decide)).2) ?_
 refine xg 3 [57,58,59] ((↑(Zl l 8 4):Int) != (0:Int)) (fun b6=>?_) (fun b6=>?_)
 ·have b6:=Qk b6
  have d3:=bln (bln (bln n2.below a6) a5) a4
  refine xe 26 (.bool false) ?_
  rw[show Vu l=false from decide_eq_false (by omega)];exact⟨rfl,d3⟩
 have b6:=Xn b6
 refine xx 1 _ 6 2 1 (Zr (l:=Yg l) (Zh a0) rfl (k:=2) (by decide)).1 ?_
 refine xl 0 ((Zr (l:=Yg l) (Zh a0) rfl (k:=2) (by decide)).2) ?_
 refine xg 4 [64,65,66] (decide ((↑(Zl l 2 2):Int)>(↑(Xp l):Int))) (fun a3=>?_) (fun a3=>?_)
 ·have a3:=of_decide_eq_true a3
  have d1:=bln (bln (bln n2.below a6) a5) a4
  refine xe 19 (.bool false) ?_
  rw[show Vu l=false from decide_eq_false (by omega)];exact⟨rfl,d1⟩
 have a3:=of_decide_eq_false a3
 refine xg 3 [68,69] (!((↑(Zl l 0 1):Int)==(1:Int))) (fun b3=>?_) (fun b3=>?_)
 ·have e5:Zl l 0 1≠1:=by have q:¬ ((Zl l 0 1:Int)=1):=(by simpa using b3);omega
  refine xx 1 _ 6 2 1 (Zr (l:=Yg l) (Zh a0) rfl (k:=2) (by decide)).1 ?_
  refine xl 0 ((Zr (l:=Yg l) (Zh a0) rfl (k:=2) (by decide)).2) ?_
  refine xie 5 (↑(Zl l 2 2):Int) (0:Int) (fun e1=>?_) (fun e1=>?_)
  ·have d6:=bln (bln (bln n2.below a6) a5) a4
   refine xe 7 (.bool false) ?_
   rw[show Vu l=false from decide_eq_false (by omega)];exact⟨rfl,d6⟩
  refine xx 6 _ 6 2 1 (Zr (l:=Yg l) (Zh a0) rfl (k:=2) (by decide)).1 ?_
  refine xl 0 ((Zr (l:=Yg l) (Zh a0) rfl (k:=2) (by decide)).2) ?_
  refine xwm 0 (8*(↑(Zl l 2 2):Int)) (↑(8*(Zl l 2 2)):Int) ?_
  refine xwm 0 (12+(↑(8*(Zl l 2 2)):Int)) (↑(12+(8*(Zl l 2 2))):Int) ?_
  refine xwm 1 (8*(↑(Xp l):Int)) (↑(8*(Xp l)):Int) ?_
  refine xwm 0 (12+(↑(8*(Xp l)):Int)) (↑(12+(8*(Xp l))):Int) ?_
  refine xsB 0 (fun _ _ _ _ _ zo zx zy zz V=>Qg (k:=(12+(8*(Zl l 2 2)))) (h:=(12+(8*(Xp l)))) (b:=a) (n:=244) (c:=c) (i:=(↑(12+(8*(Zl l 2 2))):Int)) (ki:=.i64) (j:=(↑(12+(8*(Xp l))):Int)) (kj:=.i64) 1 zo zx zy rfl zz rfl (by omega) (by omega) Tryz.underlying40 (by kernel_rfl) V) ?_
  have e3:=raw1 l 0
  have hs:Vu l=true:=decide_eq_true ⟨by omega,by omega,by omega,by omega,by omega,by omega,by omega⟩
  obtain⟨d8,e0,d4,c9,d9⟩:=Nj hs
  unfold Zt at d8 d9
  have e8:=Nat.mul_comm (Zl l 2 2) (Xm l)
  have c6:Lp l=(Qv ((l.drop (12+8*Zl l 2 2)).take ((12+8*Xp l)-(12+8*Zl l 2 2)))&&Qv ((l.drop (12+8*Xp l+Xm l*Zl l 2 2)).take (244-(12+8*Xp l+Xm l*Zl l 2 2)))):=by unfold Lp Ee Zan Er Zt;rw[show 12+Zl l 2 2*8=12+8*Zl l 2 2 by omega,show 12+Xp l*8=12+8*Xp l by omega,Nat.mul_comm (Zl l 2 2) (Xm l)]
  have b1:=bln (bln (bln n2.below a6) a5) a4
  refine xr 0 (args:=#[.slice (Qu a (12+(8*(Zl l 2 2))) c 1) ((12+(8*(Xp l)))-(12+(8*(Zl l 2 2)))) (c-(12+(8*(Zl l 2 2))))]) (Ug (Qu a (12+(8*(Zl l 2 2))) c 1) ((12+(8*(Xp l)))-(12+(8*(Zl l 2 2)))) (c-(12+(8*(Zl l 2 2)))) _ _ (by simp;omega) (by omega) ((Bys.cut h hl (12+8*Zl l 2 2) (12+8*Xp l) (by omega) (by omega)).below b1)) fun f2 a9=>?_
  refine xg 1 [86,87] (Qv ((l.drop (12+8*Zl l 2 2)).take ((12+8*Xp l)-(12+8*Zl l 2 2)))) (fun b0=>?_) (fun b0=>?_)
  ·refine xwm 2 (8*(↑(Xp l):Int)) (↑(8*(Xp l)):Int) ?_
   refine xwm 0 (12+(↑(8*(Xp l)):Int)) (↑(12+(8*(Xp l))):Int) ?_
   have b8:=Zb a0 a9
   refine xx 2 _ 6 2 1 (Zr (l:=Yg l) (Zh b8) rfl (k:=2) (by decide)).1 ?_
   refine xl 0 ((Zr (l:=Yg l) (Zh b8) rfl (k:=2) (by decide)).2) ?_
   refine xwm 0 ((↑(Xm l):Int)*(↑(Zl l 2 2):Int)) (↑((Xm l)*(Zl l 2 2)):Int) ?_
   refine xwm 0 ((↑(12+(8*(Xp l))):Int)+(↑((Xm l)*(Zl l 2 2)):Int)) (↑((12+(8*(Xp l)))+((Xm l)*(Zl l 2 2))):Int) ?_
   refine xsL 0 (fun _ _ _ _ zo zx zy V=>Qi (k:=((12+(8*(Xp l)))+((Xm l)*(Zl l 2 2)))) (b:=a) (n:=244) (c:=c) (i:=(↑((12+(8*(Xp l)))+((Xm l)*(Zl l 2 2))):Int)) (ki:=.i64) 1 zo zx zy rfl (by omega) Tryz.underlying40 (by kernel_rfl) V) ?_
   have c7:=bln b1 a9
   refine xr 0 (args:=#[.slice (Qu a ((12+(8*(Xp l)))+((Xm l)*(Zl l 2 2))) c 1) (244-((12+(8*(Xp l)))+((Xm l)*(Zl l 2 2)))) (c-((12+(8*(Xp l)))+((Xm l)*(Zl l 2 2))))]) (Ug (Qu a ((12+(8*(Xp l)))+((Xm l)*(Zl l 2 2))) c 1) (244-((12+(8*(Xp l)))+((Xm l)*(Zl l 2 2)))) (c-((12+(8*(Xp l)))+((Xm l)*(Zl l 2 2)))) _ _ (by simp;omega) (by omega) ((Bys.cut h hl (12+8*Xp l+Xm l*Zl l 2 2) 244 (by omega) (by omega)).below c7)) fun f1 d0=>?_
   have e2:=bln c7 d0
   refine xe 5 (.bool (Qv ((l.drop (12+8*Xp l+Xm l*Zl l 2 2)).take (244-(12+8*Xp l+Xm l*Zl l 2 2))))) ?_
   rw[hs,c6,b0];exact⟨rfl,e2⟩
  have c2:=bln b1 a9
  refine xe 17 (.bool false) ?_
  rw[hs,c6,b0];exact⟨rfl,c2⟩
 have e5:Zl l 0 1=1:=by have q:((Zl l 0 1:Int)=1):=(by simpa using b3);omega
 refine xx 15 _ 6 2 1 (Zr (l:=Yg l) (Zh a0) rfl (k:=2) (by decide)).1 ?_
 refine xl 0 ((Zr (l:=Yg l) (Zh a0) rfl (k:=2) (by decide)).2) ?_
 refine xwm 0 (8*(↑(Zl l 2 2):Int)) (↑(8*(Zl l 2 2)):Int) ?_
 refine xwm 0 (12+(↑(8*(Zl l 2 2)):Int)) (↑(12+(8*(Zl l 2 2))):Int) ?_
 refine xwm 1 (8*(↑(Xp l):Int)) (↑(8*(Xp l)):Int) ?_
 refine xwm 0 (12+(↑(8*(Xp l)):Int)) (↑(12+(8*(Xp l))):Int) ?_
 refine xsB 0 (fun _ _ _ _ _ zo zx zy zz V=>Qg (k:=(12+(8*(Zl l 2 2)))) (h:=(12+(8*(Xp l)))) (b:=a) (n:=244) (c:=c) (i:=(↑(12+(8*(Zl l 2 2))):Int)) (ki:=.i64) (j:=(↑(12+(8*(Xp l))):Int)) (kj:=.i64) 1 zo zx zy rfl zz rfl (by omega) (by omega) Tryz.underlying40 (by kernel_rfl) V) ?_
 have e3:=raw1 l 0
 have hs:Vu l=true:=decide_eq_true ⟨by omega,by omega,by omega,by omega,by omega,by omega,by omega⟩
 obtain⟨d8,e0,d4,c9,d9⟩:=Nj hs
 unfold Zt at d8 d9
 have e8:=Nat.mul_comm (Zl l 2 2) (Xm l)
 have c6:Lp l=(Qv ((l.drop (12+8*Zl l 2 2)).take ((12+8*Xp l)-(12+8*Zl l 2 2)))&&Qv ((l.drop (12+8*Xp l+Xm l*Zl l 2 2)).take (244-(12+8*Xp l+Xm l*Zl l 2 2)))):=by unfold Lp Ee Zan Er Zt;rw[show 12+Zl l 2 2*8=12+8*Zl l 2 2 by omega,show 12+Xp l*8=12+8*Xp l by omega,Nat.mul_comm (Zl l 2 2) (Xm l)]
 have a2:=bln (bln (bln n2.below a6) a5) a4
 refine xr 0 (args:=#[.slice (Qu a (12+(8*(Zl l 2 2))) c 1) ((12+(8*(Xp l)))-(12+(8*(Zl l 2 2)))) (c-(12+(8*(Zl l 2 2))))]) (Ug (Qu a (12+(8*(Zl l 2 2))) c 1) ((12+(8*(Xp l)))-(12+(8*(Zl l 2 2)))) (c-(12+(8*(Zl l 2 2)))) _ _ (by simp;omega) (by omega) ((Bys.cut h hl (12+8*Zl l 2 2) (12+8*Xp l) (by omega) (by omega)).below a2)) fun f3 a8=>?_
 refine xg 1 [86,87] (Qv ((l.drop (12+8*Zl l 2 2)).take ((12+8*Xp l)-(12+8*Zl l 2 2)))) (fun b5=>?_) (fun b5=>?_)
 ·refine xwm 2 (8*(↑(Xp l):Int)) (↑(8*(Xp l)):Int) ?_
  refine xwm 0 (12+(↑(8*(Xp l)):Int)) (↑(12+(8*(Xp l))):Int) ?_
  have c4:=Zb a0 a8
  refine xx 2 _ 6 2 1 (Zr (l:=Yg l) (Zh c4) rfl (k:=2) (by decide)).1 ?_
  refine xl 0 ((Zr (l:=Yg l) (Zh c4) rfl (k:=2) (by decide)).2) ?_
  refine xwm 0 ((↑(Xm l):Int)*(↑(Zl l 2 2):Int)) (↑((Xm l)*(Zl l 2 2)):Int) ?_
  refine xwm 0 ((↑(12+(8*(Xp l))):Int)+(↑((Xm l)*(Zl l 2 2)):Int)) (↑((12+(8*(Xp l)))+((Xm l)*(Zl l 2 2))):Int) ?_
  refine xsL 0 (fun _ _ _ _ zo zx zy V=>Qi (k:=((12+(8*(Xp l)))+((Xm l)*(Zl l 2 2)))) (b:=a) (n:=244) (c:=c) (i:=(↑((12+(8*(Xp l)))+((Xm l)*(Zl l 2 2))):Int)) (ki:=.i64) 1 zo zx zy rfl (by omega) Tryz.underlying40 (by kernel_rfl) V) ?_
  have a7:=bln a2 a8
  refine xr 0 (args:=#[.slice (Qu a ((12+(8*(Xp l)))+((Xm l)*(Zl l 2 2))) c 1) (244-((12+(8*(Xp l)))+((Xm l)*(Zl l 2 2)))) (c-((12+(8*(Xp l)))+((Xm l)*(Zl l 2 2))))]) (Ug (Qu a ((12+(8*(Xp l)))+((Xm l)*(Zl l 2 2))) c 1) (244-((12+(8*(Xp l)))+((Xm l)*(Zl l 2 2)))) (c-((12+(8*(Xp l)))+((Xm l)*(Zl l 2 2)))) _ _ (by simp;omega) (by omega) ((Bys.cut h hl (12+8*Xp l+Xm l*Zl l 2 2) 244 (by omega) (by omega)).below a7)) fun f0 d7=>?_
  have b7:=bln a7 d7
  refine xe 5 (.bool (Qv ((l.drop (12+8*Xp l+Xm l*Zl l 2 2)).take (244-(12+8*Xp l+Xm l*Zl l 2 2))))) ?_
  rw[hs,c6,b5];exact⟨rfl,b7⟩
 have c3:=bln a2 a8
 refine xe 17 (.bool false) ?_
 rw[hs,c6,b5];exact⟨rfl,c3⟩
def RGetP(l:Bl)(k w:Nat)(W:World)(e:Ending)(w':World):Prop :=
 (Zl l k w<9223372036854775808∧e=.returned (.tuple #[V0 (Zl l k w:Int),V0 0])∧B0 W w')∨(¬ Zl l k w<9223372036854775808∧e=.returned (.tuple #[V0 0,V0 2])∧B0 W w')
theorem ref_GetP(a:O0)(n c k w:Nat)(l:Bl)(W:World)(hn:l.length=n)(hw:w=1∨w=2∨w=4∨w=8)(hk:k+w≤n)(hl:n≤100000000)(h:Bys W (.slice a n c) l)(ki wi:Int)(hki:ki=(k:Int))(hwi:wi=(w:Int)) :
 C0 213 #[.slice a n c,V0 ki,V0 wi] W (RGetP l k w W):=by
 subst hn hwi hki
 by_cases hq:Zl l k w<9223372036854775808
 ·refine(Uv a c k w l W hw hk hl h hq).mono ?_
  rintro e V ⟨rfl,hb⟩;exact .inl ⟨hq,rfl,hb⟩
 ·refine(Wv a c k w l W hw hk hl h hq).mono ?_
  rintro e V ⟨rfl,hb⟩;exact .inr ⟨hq,rfl,hb⟩
theorem Zbj{l:Bl}{i:Nat}(h:281474976710655<Zl l (12+i*8) 8):Pb l i=2:=by unfold Pb Cl;rw[if_pos h]
theorem keyE_low{l:Bl}{i:Nat}(h:¬ 281474976710655<Zl l (12+i*8) 8)(h0:0<i)(h1:(Zl l (12+i*8) 8:Int)≤(Yx l i).getD (i-1) 0):Pb l i=8:=by
 rw[Cp l (by omega)] at h1
 change ¬ 281474976710655<Cl l i at h
 change (Cl l i:Int)≤_ at h1
 unfold Pb
 rw[if_neg h,if_pos ⟨h0,by omega⟩]
theorem keyE_ok{l:Bl}{i:Nat}(h:¬ 281474976710655<Zl l (12+i*8) 8)(h0:¬ 0<i):Pb l i=0:=by
 change ¬ 281474976710655<Cl l i at h
 unfold Pb;rw[if_neg h,if_neg fun q=>h0 q.1]
theorem Zcf{l:Bl}{i:Nat}(h:¬ 281474976710655<Zl l (12+i*8) 8)(h0:0<i)(h1:¬ (Zl l (12+i*8) 8:Int)≤(Yx l i).getD (i-1) 0):Pb l i=0:=by
 rw[Cp l (by omega)] at h1
 change ¬ 281474976710655<Cl l i at h
 change ¬ (Cl l i:Int)≤_ at h1
 unfold Pb
 rw[if_neg h,if_neg fun q=>h1 (by have:=q.2;omega)]
theorem Zct{a:O0}{c i:Nat}{l:Bl}{w:World}(h:Bys w (.slice a 244 c) l)(hl:l.length=244)(hb:12+8*Xp l+Xm l*i+Xm l≤244) :
 Bys w (.slice (Qu a (12+8*Xp l+Xm l*i) c 1) (12+8*Xp l+Xm l*i+Xm l-(12+8*Xp l+Xm l*i)) (c-(12+8*Xp l+Xm l*i))) (Dr l i):=by
 have:=Bys.cut h hl (12+8*Xp l+Xm l*i) (12+8*Xp l+Xm l*i+Xm l) (by omega) hb
 unfold Dr
 rw[show 12+Xp l*8+i*Xm l=12+8*Xp l+Xm l*i by rw[Nat.mul_comm i];omega]
 rw[show(l.drop (12+8*Xp l+Xm l*i)).take (Xm l)=(l.drop (12+8*Xp l+Xm l*i)).take (12+8*Xp l+Xm l*i+Xm l-(12+8*Xp l+Xm l*i)) by rw[Nat.add_sub_cancel_left]]
 exact this
theorem Ch{i:Nat}{l:Bl}(hl:l.length=244)(hb:12+8*Xp l+Xm l*i+Xm l≤244):(Dr l i).length=12+8*Xp l+Xm l*i+Xm l-(12+8*Xp l+Xm l*i):=by
 unfold Dr;simp only[List.length_take,List.length_drop];rw[Nat.mul_comm i];omega
theorem rawC{l:Bl}(h:Zt l≤18):(l.getD 2 0).toNat=Zt l:=by
 have e:Zl l 2 2=(l.getD 2 0).toNat+256*(l.getD 3 0).toNat:=raw2 l 2
 unfold Zt at h ⊢
 omega
def RNodeP(l:Bl)(w:World)(e:Ending)(w':World):Prop :=
 (Yz l≠0∧e=.returned (.tuple #[.agg #[V0 0,.bool false,S0,S0],V0 (Yz l)])∧B0 w w') ∨
 (Yz l=0∧∃ kp kc vp vc,e=.returned (.tuple #[.agg #[V0 (Xv l),.bool (Xr l),.slice kp (Zt l) kc,.slice vp (Zt l) vc],V0 0])∧B0 w w' ∧
  w'.ownsRow w.heap.size 3 1 (.slice kp (Zt l) kc) (Zt l) ((Yx l (Zt l)).map V0)∧w'.ownsRow w.heap.size 9 1 (.slice vp (Zt l) vc) (Zt l) ((Vw l (Zt l)).map sv))
theorem Zeh(a:O0)(c:Nat)(l:Bl)(w:World)(hl:l.length=244)(h:Bys w (.slice a 244 c) l) :
 C0 263 #[.slice a 244 c] w (RNodeP l w):=by
 have p3:=Bys.cap h hl
 refine zin 94 Tryz.func263 ?_
 refine xa 2 [V0 0,.bool false,S0,S0] 173 fun b1 W1 n1=>?_
 refine xr 7 (args:=#[.slice a 244 c]) (Zd8 a c l _ hl (h.below n1.below)) fun W2 j9=>?_
 refine xi 3 (!(Vu l&&Lp l)) (fun n9=>?_) (fun n9=>?_)
 ·have he:Yz l=7:=by unfold Yz;by_cases q:Vu l=true<;>simp_all
  have k1:=n1.blk.below j9
  refine xsv 3 k1 [V0 0,.bool false,S0,S0] fun W4 u4 k4=>?_
  have g1:=n1.ge (B1 w)
  have m8:=u4.below (bln n1.below j9) g1
  exact xec 5 k4 (.tuple #[.agg #[V0 0,.bool false,S0,S0],V0 7]) (.inl ⟨by rw[he];decide,by rw[he],m8⟩)
 have o0:Vu l=true∧Lp l=true:=by simpa using n9
 have hs:=o0.1
 have k0:=o0.2
 obtain⟨s4,q4,o6,p6,s8⟩:=Nj hs
 refine xd 3 (.t w.heap.size [173]) ?_
 refine xx (.e [0] 1) _ 244 1 1 (BysM.elem h hl (k:=1) (by omega)).1 ?_
 have d4:=bln (bln n1.below j9) (Za W2)
 refine xlt (.e [] 2) (.t w.heap.size [173]) (fun V hV=>(BysM.elem (h.below (Kb d4 hV (Nat.le_refl _))) hl (k:=1) (by omega)).2) ?_
 refine xq (.e [] 3) (congrArg V0 (show(IntKind.i64.wrap (↑(l.getD 1 0).toNat:Int):Int)=(Xv l) from by unfold Xv;rw[raw1];exact Jb (by have:=(l.getD 1 0).toNat_lt;omega))) ?_
 refine xx (.e [4] 5) _ 244 0 1 (BysM.elem h hl (k:=0) (by omega)).1 ?_
 refine xlt (.e [] 6) (.t w.heap.size [173]) (fun V hV=>(BysM.elem (h.below (Kb d4 hV (Nat.le_refl _))) hl (k:=0) (by omega)).2) ?_
 refine xa (.o [7,8] 9) [V0 0,.bool false,S0,S0] 173 fun b5 W5 n5=>?_
 have k1:=(n1.blk.below j9).below (Za W2)
 have a2:=n5.ne k1
 have g5:=n5.ge d4
 refine ysv (.o [] 10) n5.blk [V0 (Xv l),.bool ((↑(l.getD 0 0).toNat:Int)==(1:Int)),S0,S0] (.t w.heap.size [173]) fun W6 u6 k6=>⟨(Zp u6 n5.blk g5 (by decide)),?_⟩
 refine xb 5 0 k6 ?_
 refine xb 1 1 k6 ?_
 refine xr 0 (args:=#[V0 (Xv l),.bool ((↑(l.getD 0 0).toNat:Int)==(1:Int))]) (Mr (Xv l) (Xr l) _) fun W7 k2=>?_
 have l5:=bln (u6.below (bln d4 n5.below) g5) k2
 have m2:=(u6.blk (k1.below n5.below) (Ne.symm (Ne.symm a2))).below k2
 have l6:=k6.below k2
 refine zl 10 94 (fun zm o3 V=>∃ (i:Nat) (kp:O0) (kc:Nat) (vp:O0) (vc:Nat),o3=[(0,.slice a 244 c),(2,P0 b1),(4,P0 b5),(5,V0 (↑(Xm l):Int)),(6,V0 (i:Int))]∧zm=Zt l-((i:Int)).toNat∧B0 w V∧Blk V b1 ([V0 0,.bool false,S0,S0]) 173∧Blk V b5 ([V0 (Xv l),.bool ((↑(l.getD 0 0).toNat:Int)==(1:Int)),.slice kp i kc,.slice vp i vc]) 173∧V.ownsRow w.heap.size 3 1 (.slice kp i kc) i ((Yx l i).map V0)∧V.ownsRow w.heap.size 9 1 (.slice vp i vc) i ((Vw l i).map sv)∧i≤Zt l∧Yi l i=0) ⟨0,none,0,none,0,rfl,rfl,l5,m2,l6,World.ownsRow_nil _ _ _ _,World.ownsRow_nil _ _ _ _,Nat.zero_le _,rfl⟩ ?_
 rintro _ _ W8 ⟨i,kp,kc,vp,vc,rfl,rfl,a7,a1,c5,hK,hV,hi,hz⟩ J8 j8 r8
 have s1:(i+1)*Xm l=i*Xm l+Xm l:=Nat.succ_mul i (Xm l)
 have o5:i<Zt l→(i+1)*Xm l≤Xp l*Xm l:=fun hh=>Nat.mul_le_mul_right _ (by omega)
 have p7:=Nat.mul_comm i (Xm l)
 refine xx 5 _ 244 2 1 (BysM.elem h hl (k:=2) (by omega)).1 ?_
 refine xl 0 ((BysM.elem (h.below a7) hl (k:=2) (by omega)).2) ?_
 refine xq 0 (congrArg V0 (show(IntKind.i64.wrap (↑(l.getD 2 0).toNat:Int):Int)=(↑(Zt l):Int) from by rw[rawC (by omega)];exact Jb (by omega))) ?_
 refine xid 3 ((i:Int)<(↑(Zt l):Int)) (fun o4=>?_) (fun o4=>?_)
 ·refine xwm 8 (8*(i:Int)) (↑(8*i):Int) ?_
  refine xwm 0 (12+(↑(8*i):Int)) (↑(12+(8*i)):Int) ?_
  refine xc 0 (args:=#[.slice a 244 c,V0 (↑(12+(8*i)):Int),V0 8]) (ref_GetP a 244 c (12+i*8) 8 l _ hl (by decide) (by omega) (by decide) (h.below a7) _ 8 (by omega) rfl) ?_
  rintro e u3 l1
  rcases l1 with ⟨o7,rfl,a0⟩|⟨o7,rfl,a0⟩
  ·refine xid 18 ((↑(Zl l (12+i*8) 8):Int)>(281474976710655:Int)) (fun l8=>?_) (fun l8=>?_)
   ·have e4:=a1.below a0
    refine xsv 3 e4 [V0 0,.bool false,S0,S0] fun r6 o8 q1=>?_
    have g1:=n1.ge (B1 w)
    have n2:=o8.below (bln a7 a0) g1
    refine xec 10 q1 (.tuple #[.agg #[V0 0,.bool false,S0,S0],V0 2]) ?_
    have g2:Pb l i=2:=Zbj (by omega)
    have he:Yz l=2:=by unfold Yz;rw[if_pos hs,if_pos k0,Hh hz (by rw[g2];decide) (by omega),g2]
    exact .inl ⟨by rw[he];decide,by rw[he],n2⟩
   refine xg 8 [52,53] (decide ((i:Int)>(0:Int))) (fun c1=>?_) (fun c1=>?_)
   ·have c1:=of_decide_eq_true c1
    have a3:=c5.below a0
    refine xb 2 2 a3 ?_
    refine xwm 1 ((i:Int)-1) (↑(i-1):Int) ?_
    have g7:=Zb hK a0
    refine xx 0 _ i (i-1) 1 (IntsN.elem (Zh g7) (Qe l i) (k:=(i-1)) (by omega)).1 ?_
    refine xl 0 ((IntsN.elem (Zh g7) (Qe l i) (k:=(i-1)) (by omega)).2) ?_
    refine xid 4 ((↑(Zl l (12+i*8) 8):Int)≤((Yx l i).getD (i-1) 0)) (fun k5=>?_) (fun k5=>?_)
    ·have e3:=a1.below a0
     refine xsv 3 e3 [V0 0,.bool false,S0,S0] fun t6 q0 p9=>?_
     have g1:=n1.ge (B1 w)
     have k9:=q0.below (bln a7 a0) g1
     refine xec 10 p9 (.tuple #[.agg #[V0 0,.bool false,S0,S0],V0 8]) ?_
     have g2:Pb l i=8:=keyE_low (by omega) (by omega) (by omega)
     have he:Yz l=8:=by unfold Yz;rw[if_pos hs,if_pos k0,Hh hz (by rw[g2];decide) (by omega),g2]
     exact .inl ⟨by rw[he];decide,by rw[he],k9⟩
    refine xb 5 0 a3 ?_
    refine xb 1 1 a3 ?_
    refine xr 0 (args:=#[V0 (Xv l),.bool ((↑(l.getD 0 0).toNat:Int)==(1:Int))]) (Ni (Xv l) (Xr l) _) fun q9 b8=>?_
    refine xwm 0 (8*(↑(Xp l):Int)) (↑(8*(Xp l)):Int) ?_
    refine xwm 0 (12+(↑(8*(Xp l)):Int)) (↑(12+(8*(Xp l))):Int) ?_
    refine xwm 2 ((↑(Xm l):Int)*(i:Int)) (↑((Xm l)*i):Int) ?_
    refine xwm 0 ((↑(12+(8*(Xp l))):Int)+(↑((Xm l)*i):Int)) (↑((12+(8*(Xp l)))+((Xm l)*i)):Int) ?_
    have a9:=a3.below b8
    refine xb 6 2 a9 ?_
    refine xbs 1 1 [V0 (↑(Zl l (12+i*8) 8):Int)] 3 fun u2 s9 e5=>?_
    have i7:=bln (bln a7 a0) b8
    have s0:=e5.ge i7
    have h8:=Zb g7 b8
    have l9:=Zx h8 e5
    have c4:=Zb h8 e5.below
    have h5:=bln i7 e5.below
    refine xbi 0 fun _ _ _ _ zJ zQ zo zx zy zK=>Zw (m:=1) (news:=[V0 (↑(Zl l (12+i*8) 8):Int)]) (V0 0) 1 8 (i+1) ((Yx l (i+1)).map V0) zo Tryz.underlying33 (by kernel_rfl) rfl (by decide) zx c4 zy (e5.blk.sl 1 1 (by decide) (by decide)) rfl (by simp[Value.oneCell']) (by unfold maxLen;omega) (by omega) h5.size (by rfl) (by rw[Nz,List.map_append];rfl) fun g4 g6 t4 n6 d9 m4=>?_
    refine zK _ _ ?_
    have a5:=(a9.below e5.below).grown d9 c4 (by decide)
    refine xs 1 a5 [V0 (Xv l),.bool ((↑(l.getD 0 0).toNat:Int)==(1:Int)),.slice g4 (i+1) g6,.slice vp i vc] fun g0 h0 n4=>?_
    refine xd 2 (.t w.heap.size [9,173]) ?_
    refine xwm (.e [0,2,3,4,5] 6) ((↑((12+(8*(Xp l)))+((Xm l)*i)):Int)+(↑(Xm l):Int)) (↑(((12+(8*(Xp l)))+((Xm l)*i))+(Xm l)):Int) ?_
    refine xsB (.e [] 7) (fun _ _ _ _ _ zo zx zy zz V=>Qg (k:=((12+(8*(Xp l)))+((Xm l)*i))) (h:=(((12+(8*(Xp l)))+((Xm l)*i))+(Xm l))) (b:=a) (n:=244) (c:=c) (i:=(↑((12+(8*(Xp l)))+((Xm l)*i)):Int)) (ki:=.i64) (j:=(↑(((12+(8*(Xp l)))+((Xm l)*i))+(Xm l)):Int)) (kj:=.i64) 1 zo zx zy rfl zz rfl (by omega) (by omega) Tryz.underlying40 (by kernel_rfl) V) ?_
    have b9:=Zb (h0.own2 (Zf (Zb (Zb (Zb hV a0) b8) e5.below) d9 c4 (by decide)) a5 (by decide)) (Za g0)
    have c7:=bln (h0.below (h5.trans m4) g5) (Za g0)
    refine xcvt (.e [] 8) (.t w.heap.size [9,173]) (fun _ _ _ zo zx V b9=>Kc zo zx ((Zct (i:=i) h hl (by omega)).below (Kb c7 b9 (Nat.le_refl _))) (Ch (i:=i) hl (by omega)) Tryz.underlying40 Tryz.underlying5 Tryz.underlying9) ?_
    refine xm2 0 1 9 ?_ ?_
    ·have f4:=n4.below (Za g0)
     refine xb 0 3 f4 ?_
     refine xbs (.o [] 9) 1 [.string ⟨(Dr l i).toArray⟩] 9 fun s2 t9 e6=>?_
     have r2:=e6.ge c7
     have n0:=Zx b9 e6
     have c2:=Zb b9 e6.below
     have i0:=bln c7 e6.below
     refine ybi (.o [] 10) (.t w.heap.size [9,173]) fun _ _ _ _ zJ zQ zo zx zy zK=>Zw (m:=1) (news:=[.string ⟨(Dr l i).toArray⟩]) (.string ⟨#[]⟩) 1 16 (i+1) ((Vw l (i+1)).map sv) zo Tryz.underlying96 (by kernel_rfl) rfl (by decide) zx c2 zy (e6.blk.sl 1 1 (by decide) (by decide)) rfl (by simp[Value.oneCell']) (by unfold maxLen;omega) (by omega) i0.size (by rfl) (by rw[Kw,List.map_append];rfl) fun m3 m1 q5 p0 d6 j1=>?_
     refine zK _ _ (Zu j1 d6 c2 (by decide)) ?_
     have b6:=(f4.below e6.below).grown d6 c2 (by decide)
     refine ys (.o [11] 12) b6 [V0 (Xv l),.bool ((↑(l.getD 0 0).toNat:Int)==(1:Int)),.slice g4 (i+1) g6,.slice m3 (i+1) m1] (.t w.heap.size [9,173]) fun t7 i4 p5=>⟨(Zp i4 b6 g5 (by decide)),?_⟩
     refine xwm 5 ((i:Int)+1) (↑(i+1):Int) ?_
     have h6:=i4.below (i0.trans j1) g5
     have e2:=i4.blk ((((h0.blk ((((a1.below a0).below b8).below e5.below).grown d9 c4 (by decide)) (Ne.symm (Ne.symm a2))).below (Za g0)).below e6.below).grown d6 c2 (by decide)) (Ne.symm (Ne.symm a2))
     have h9:=i4.own2 (Zf (Zb (Zb (h0.own2 n6 a5 (by decide)) (Za g0)) e6.below) d6 c2 (by decide)) b6 (by decide)
     have h4:=i4.own2 p0 b6 (by decide)
     exact ze 2 (j8 _ _ _ ⟨i+1,_,_,_,_,rfl,rfl,h6,e2,p5,h9,h4,by omega,Vh hz (Zcf (by omega) (by omega) (by omega))⟩ (by omega))
    refine xbs 0 1 [.string ⟨(Dr l i).toArray⟩] 9 fun r5 t2 f3=>?_
    have q8:=f3.ge c7
    have l4:=Zx b9 f3
    have e8:=(n4.below (Za g0)).below f3.below
    refine xb (.o [] 1) 3 e8 ?_
    have c6:=Zb b9 f3.below
    have f0:=bln c7 f3.below
    refine ybi (.o [] 10) (.t w.heap.size [9,173]) fun _ _ _ _ zJ zQ zo zx zy zK=>Zw (m:=1) (news:=[.string ⟨(Dr l i).toArray⟩]) (.string ⟨#[]⟩) 1 16 (i+1) ((Vw l (i+1)).map sv) zo Tryz.underlying96 (by kernel_rfl) rfl (by decide) zx c6 zy (f3.blk.sl 1 1 (by decide) (by decide)) rfl (by simp[Value.oneCell']) (by unfold maxLen;omega) (by omega) f0.size (by rfl) (by rw[Kw,List.map_append];rfl) fun m7 l0 r3 p4 d2 i9=>?_
    refine zK _ _ (Zu i9 d2 c6 (by decide)) ?_
    have b0:=e8.grown d2 c6 (by decide)
    refine ys (.o [11] 12) b0 [V0 (Xv l),.bool ((↑(l.getD 0 0).toNat:Int)==(1:Int)),.slice g4 (i+1) g6,.slice m7 (i+1) l0] (.t w.heap.size [9,173]) fun s6 h2 p1=>⟨(Zp h2 b0 g5 (by decide)),?_⟩
    refine xwm 5 ((i:Int)+1) (↑(i+1):Int) ?_
    have j5:=h2.below (f0.trans i9) g5
    have e0:=h2.blk ((((h0.blk ((((a1.below a0).below b8).below e5.below).grown d9 c4 (by decide)) (Ne.symm (Ne.symm a2))).below (Za g0)).below f3.below).grown d2 c6 (by decide)) (Ne.symm (Ne.symm a2))
    have h3:=h2.own2 (Zf (Zb (Zb (h0.own2 n6 a5 (by decide)) (Za g0)) f3.below) d2 c6 (by decide)) b0 (by decide)
    have h1:=h2.own2 p4 b0 (by decide)
    exact ze 2 (j8 _ _ _ ⟨i+1,_,_,_,_,rfl,rfl,j5,e0,p1,h3,h1,by omega,Vh hz (Zcf (by omega) (by omega) (by omega))⟩ (by omega))
   have c1:=of_decide_eq_false c1
   have a6:=c5.below a0
   refine xb 17 0 a6 ?_
   refine xb 1 1 a6 ?_
   refine xr 0 (args:=#[V0 (Xv l),.bool ((↑(l.getD 0 0).toNat:Int)==(1:Int))]) (Ni (Xv l) (Xr l) _) fun u1 c0=>?_
   refine xwm 0 (8*(↑(Xp l):Int)) (↑(8*(Xp l)):Int) ?_
   refine xwm 0 (12+(↑(8*(Xp l)):Int)) (↑(12+(8*(Xp l))):Int) ?_
   refine xwm 2 ((↑(Xm l):Int)*(i:Int)) (↑((Xm l)*i):Int) ?_
   refine xwm 0 ((↑(12+(8*(Xp l))):Int)+(↑((Xm l)*i):Int)) (↑((12+(8*(Xp l)))+((Xm l)*i)):Int) ?_
   have b2:=a6.below c0
   refine xb 6 2 b2 ?_
   refine xbs 1 1 [V0 (↑(Zl l (12+i*8) 8):Int)] 3 fun t0 r9 d7=>?_
   have e7:=bln (bln a7 a0) c0
   have t8:=d7.ge e7
   have j6:=Zb (Zb hK a0) c0
   have l3:=Zx j6 d7
   have c8:=Zb j6 d7.below
   have f6:=bln e7 d7.below
   refine xbi 0 fun _ _ _ _ zJ zQ zo zx zy zK=>Zw (m:=1) (news:=[V0 (↑(Zl l (12+i*8) 8):Int)]) (V0 0) 1 8 (i+1) ((Yx l (i+1)).map V0) zo Tryz.underlying33 (by kernel_rfl) rfl (by decide) zx c8 zy (d7.blk.sl 1 1 (by decide) (by decide)) rfl (by simp[Value.oneCell']) (by unfold maxLen;omega) (by omega) f6.size (by rfl) (by rw[Nz,List.map_append];rfl) fun g3 g8 q7 n7 d1 l7=>?_
   refine zK _ _ ?_
   have a4:=(b2.below d7.below).grown d1 c8 (by decide)
   refine xs 1 a4 [V0 (Xv l),.bool ((↑(l.getD 0 0).toNat:Int)==(1:Int)),.slice g3 (i+1) g8,.slice vp i vc] fun f2 g9 n8=>?_
   refine xd 2 (.t w.heap.size [9,173]) ?_
   refine xwm (.e [0,2,3,4,5] 6) ((↑((12+(8*(Xp l)))+((Xm l)*i)):Int)+(↑(Xm l):Int)) (↑(((12+(8*(Xp l)))+((Xm l)*i))+(Xm l)):Int) ?_
   refine xsB (.e [] 7) (fun _ _ _ _ _ zo zx zy zz V=>Qg (k:=((12+(8*(Xp l)))+((Xm l)*i))) (h:=(((12+(8*(Xp l)))+((Xm l)*i))+(Xm l))) (b:=a) (n:=244) (c:=c) (i:=(↑((12+(8*(Xp l)))+((Xm l)*i)):Int)) (ki:=.i64) (j:=(↑(((12+(8*(Xp l)))+((Xm l)*i))+(Xm l)):Int)) (kj:=.i64) 1 zo zx zy rfl zz rfl (by omega) (by omega) Tryz.underlying40 (by kernel_rfl) V) ?_
   have b7:=Zb (g9.own2 (Zf (Zb (Zb (Zb hV a0) c0) d7.below) d1 c8 (by decide)) a4 (by decide)) (Za f2)
   have a8:=bln (g9.below (f6.trans l7) g5) (Za f2)
   refine xcvt (.e [] 8) (.t w.heap.size [9,173]) (fun _ _ _ zo zx V b7=>Kc zo zx ((Zct (i:=i) h hl (by omega)).below (Kb a8 b7 (Nat.le_refl _))) (Ch (i:=i) hl (by omega)) Tryz.underlying40 Tryz.underlying5 Tryz.underlying9) ?_
   refine xm2 0 1 9 ?_ ?_
   ·have f1:=n8.below (Za f2)
    refine xb 0 3 f1 ?_
    refine xbs (.o [] 9) 1 [.string ⟨(Dr l i).toArray⟩] 9 fun s7 r7 f9=>?_
    have t5:=f9.ge a8
    have m9:=Zx b7 f9
    have c9:=Zb b7 f9.below
    have f8:=bln a8 f9.below
    refine ybi (.o [] 10) (.t w.heap.size [9,173]) fun _ _ _ _ zJ zQ zo zx zy zK=>Zw (m:=1) (news:=[.string ⟨(Dr l i).toArray⟩]) (.string ⟨#[]⟩) 1 16 (i+1) ((Vw l (i+1)).map sv) zo Tryz.underlying96 (by kernel_rfl) rfl (by decide) zx c9 zy (f9.blk.sl 1 1 (by decide) (by decide)) rfl (by simp[Value.oneCell']) (by unfold maxLen;omega) (by omega) f8.size (by rfl) (by rw[Kw,List.map_append];rfl) fun k8 n3 r4 q2 e1 i2=>?_
    refine zK _ _ (Zu i2 e1 c9 (by decide)) ?_
    have b3:=(f1.below f9.below).grown e1 c9 (by decide)
    refine ys (.o [11] 12) b3 [V0 (Xv l),.bool ((↑(l.getD 0 0).toNat:Int)==(1:Int)),.slice g3 (i+1) g8,.slice k8 (i+1) n3] (.t w.heap.size [9,173]) fun q6 j3 p2=>⟨(Zp j3 b3 g5 (by decide)),?_⟩
    refine xwm 5 ((i:Int)+1) (↑(i+1):Int) ?_
    have h7:=j3.below (f8.trans i2) g5
    have d5:=j3.blk ((((g9.blk ((((a1.below a0).below c0).below d7.below).grown d1 c8 (by decide)) (Ne.symm (Ne.symm a2))).below (Za f2)).below f9.below).grown e1 c9 (by decide)) (Ne.symm (Ne.symm a2))
    have i8:=j3.own2 (Zf (Zb (Zb (g9.own2 n7 a4 (by decide)) (Za f2)) f9.below) e1 c9 (by decide)) b3 (by decide)
    have j7:=j3.own2 q2 b3 (by decide)
    exact ze 2 (j8 _ _ _ ⟨i+1,_,_,_,_,rfl,rfl,h7,d5,p2,i8,j7,by omega,Vh hz (keyE_ok (by omega) (by omega))⟩ (by omega))
   refine xbs 0 1 [.string ⟨(Dr l i).toArray⟩] 9 fun s3 r1 f5=>?_
   have r0:=f5.ge a8
   have l2:=Zx b7 f5
   have f7:=(n8.below (Za f2)).below f5.below
   refine xb (.o [] 1) 3 f7 ?_
   have c3:=Zb b7 f5.below
   have e9:=bln a8 f5.below
   refine ybi (.o [] 10) (.t w.heap.size [9,173]) fun _ _ _ _ zJ zQ zo zx zy zK=>Zw (m:=1) (news:=[.string ⟨(Dr l i).toArray⟩]) (.string ⟨#[]⟩) 1 16 (i+1) ((Vw l (i+1)).map sv) zo Tryz.underlying96 (by kernel_rfl) rfl (by decide) zx c3 zy (f5.blk.sl 1 1 (by decide) (by decide)) rfl (by simp[Value.oneCell']) (by unfold maxLen;omega) (by omega) e9.size (by rfl) (by rw[Kw,List.map_append];rfl) fun m6 m5 u0 p8 d8 i3=>?_
   refine zK _ _ (Zu i3 d8 c3 (by decide)) ?_
   have b4:=f7.grown d8 c3 (by decide)
   refine ys (.o [11] 12) b4 [V0 (Xv l),.bool ((↑(l.getD 0 0).toNat:Int)==(1:Int)),.slice g3 (i+1) g8,.slice m6 (i+1) m5] (.t w.heap.size [9,173]) fun s5 i6 o2=>⟨(Zp i6 b4 g5 (by decide)),?_⟩
   refine xwm 5 ((i:Int)+1) (↑(i+1):Int) ?_
   have i5:=i6.below (e9.trans i3) g5
   have d0:=i6.blk ((((g9.blk ((((a1.below a0).below c0).below d7.below).grown d1 c8 (by decide)) (Ne.symm (Ne.symm a2))).below (Za f2)).below f5.below).grown d8 c3 (by decide)) (Ne.symm (Ne.symm a2))
   have i1:=i6.own2 (Zf (Zb (Zb (g9.own2 n7 a4 (by decide)) (Za f2)) f5.below) d8 c3 (by decide)) b4 (by decide)
   have j0:=i6.own2 p8 b4 (by decide)
   exact ze 2 (j8 _ _ _ ⟨i+1,_,_,_,_,rfl,rfl,i5,d0,o2,i1,j0,by omega,Vh hz (keyE_ok (by omega) (by omega))⟩ (by omega))
  have d3:=a1.below a0
  refine xsv 22 d3 [V0 0,.bool false,S0,S0] fun t3 o9 q3=>?_
  have g1:=n1.ge (B1 w)
  have j4:=o9.below (bln a7 a0) g1
  refine xec 10 q3 (.tuple #[.agg #[V0 0,.bool false,S0,S0],V0 2]) ?_
  have g2:Pb l i=2:=Zbj (by omega)
  have he:Yz l=2:=by unfold Yz;rw[if_pos hs,if_pos k0,Hh hz (by rw[g2];decide) (by omega),g2]
  exact .inl ⟨by rw[he];decide,by rw[he],j4⟩
 refine xlv 7 c5.rp ?_
 refine xsv 0 a1 [V0 (Xv l),.bool ((↑(l.getD 0 0).toNat:Int)==(1:Int)),.slice kp i kc,.slice vp i vc] fun t1 k7 o1=>?_
 have g1:=n1.ge (B1 w)
 have j2:=k7.below a7 g1
 have k3:=k7.own2 hK a1 (by decide)
 have m0:=k7.own2 hV a1 (by decide)
 refine xec 4 o1 (.tuple #[.agg #[V0 (Xv l),.bool ((↑(l.getD 0 0).toNat:Int)==(1:Int)),.slice kp i kc,.slice vp i vc],V0 0]) ?_
 obtain rfl:i=Zt l:=by omega
 exact .inr ⟨by unfold Yz;rw[if_pos hs,if_pos k0,hz],_,_,_,_,rfl,j2,k3,m0⟩
end Go.Proofs.YtegcamkgeacjfaaGreatDoor
namespace Go.Proofs.YtegcamkgeacjfaaGreatDoor
set_option maxHeartbeats 8000000
set_option maxRecDepth 100000
open Go.RowKit
set_option linter.unusedVariables false
def Dy(lo hi k:Int):Bool:=decide (lo≤k∧k<hi)
def Qw(lo hi:Int):Bool:=decide (0≤lo∧lo≤hi∧hi≤281474976710656)
def Vv(l:List Int):Prop:=∀ k,k<l.length→1≤k→l[k-1]?.getD 0<l[k]?.getD 0
instance (l:List Int):Decidable (Vv l):=by unfold Vv;infer_instance
def Yw(lo hi:Int)(l:List Int):Int :=
 if Qw lo hi then if Vv l then if ∀ k∈l,lo≤k∧k<hi then 0 else 9 else 8 else 1
@[go_sem] def spanV (lo hi:Int):Value:=.agg #[V0 lo,V0 hi]
theorem Vv.lt{l:List Int}(h:Vv l):∀ (j i:Nat),i<j→j<l.length→l[i]?.getD 0<l[j]?.getD 0:=by
 intro j
 induction j with
 | zero=>intro i h1;omega
 | succ j ih =>
  intro i h1 h2
  have h3:=h (j+1) h2 (by omega)
  simp only[Nat.add_sub_cancel] at h3
  by_cases hij:i=j
  ·subst hij;exact h3
  ·exact Int.lt_trans (ih i (by omega) (by omega)) h3
theorem Vv.one(l:List Int):Vv (l.take 1):=by
 intro k h1 h2;simp at h1;omega
theorem Vv.succ{l:List Int}{k:Nat}{x y:Int}(h:Vv (l.take k))(hx:l[k-1]? = some x)(hy:l[k]? = some y)(hxy:x<y):Vv (l.take (k+1)):=by
 intro j h1 h2
 have a0:j<k+1:=by simp at h1;omega
 rw[List.getElem?_take,List.getElem?_take,if_pos (by omega),if_pos a0]
 by_cases hj:j=k
 ·subst hj;rw[hx,hy];exact hxy
 ·have:=h j (by simp at h1 ⊢;omega) h2
  rw[List.getElem?_take,List.getElem?_take,if_pos (by omega),if_pos (by omega)] at this
  exact this
theorem Rd{lo hi:Int}{l:List Int}(h:Qw lo hi=false):Yw lo hi l=1:=by simp[Yw,h]
theorem Fk{lo hi:Int}{l:List Int}{k:Nat}{x y:Int}(h:Qw lo hi=true)(hk:1≤k)(hx:l[k-1]? = some x)(hy:l[k]? = some y)(hxy:y≤x):Yw lo hi l=8:=by
 have hn:¬ Vv l:=fun hs=>by
  have a0:k<l.length:=by rcases List.getElem?_eq_some_iff.1 hy with ⟨h,_⟩;exact h
  have:=hs k a0 hk
  rw[hx,hy] at this
  simp at this;omega
 simp[Yw,h,hn]
theorem Zcs{lo hi:Int}(h:Qw lo hi=true):Yw lo hi []=0:=by
 have hs:Vv []:=fun k h1=>by simp at h1
 simp[Yw,h,hs]
theorem Vv.all{l:List Int}{k:Nat}(h:Vv (l.take k))(hk:l.length≤k):Vv l:=by rwa [List.take_of_length_le hk] at h
theorem Pm{lo hi k:Int}:Dy lo hi k=true↔lo≤k∧k<hi:=by simp[Dy]
theorem fits_in{lo hi:Int}{l:List Int}{x y:Int}(h:Qw lo hi=true)(hs:Vv l)(hx:l[0]? = some x)(hy:l[l.length-1]? = some y)(ha:Dy lo hi x=true)(hb:Dy lo hi y=true):Yw lo hi l=0:=by
 have a0:∀ k∈l,lo≤k∧k<hi:=by
  intro k hk
  obtain⟨i,a1,rfl⟩:=List.mem_iff_getElem.1 hk
  rw[Pm] at ha hb
  have e:l[i]? = some l[i]:=by simp
  have h1:x≤l[i]:=by
   by_cases h0:i=0
   ·subst h0;rw[hx] at e;injection e with e;omega
   ·have:=hs.lt i 0 (by omega) a1
    rw[hx,e] at this;simp at this;omega
  have h2:l[i]≤y:=by
   by_cases h0:i=l.length-1
   ·subst h0;rw[hy] at e;injection e with e;omega
   ·have:=hs.lt (l.length-1) i (by omega) (by omega)
    rw[hy,e] at this;simp at this;omega
  omega
 simp only[Yw,h,if_true,hs]
 rw[if_pos a0]
theorem Rz{lo hi:Int}{l:List Int}{i:Nat}{x:Int}(h:Qw lo hi=true)(hs:Vv l)(hx:l[i]? = some x)(ha:Dy lo hi x=false):Yw lo hi l=9:=by
 have hn:¬ ∀ k∈l,lo≤k∧k<hi:=fun a0=>by
  have:=Pm.2 (a0 x (List.mem_of_getElem? hx))
  rw[ha] at this;cases this
 simp only[Yw,h,if_true,hs]
 rw[if_neg hn]
theorem Zbp(w:World):C0 201 #[] w (Ret (spanV 0 281474976710656) w):=by
 go_enter Tryz.func201,Tryz.ntmps201
 go_wp2
 exact bodyPost_ret (v:=spanV 0 281474976710656) (by simp[results,Tryz.results201,go_sem,spanV]) rfl ⟨rfl,blx _ _⟩
theorem Rs(lo hi k:Int)(w:World):C0 306 #[spanV lo hi,V0 k] w (Ret (.bool (Dy lo hi k)) w):=by
 unfold spanV
 go_enter Tryz.func306,Tryz.ntmps306
 go_wp2
 all_goals go_ret
 all_goals refine⟨?_,blx _ _⟩
 all_goals (unfold Dy;congr 2;simp;omega)
theorem Nu(lo hi:Int)(w:World):C0 305 #[spanV lo hi] w (Ret (.bool (Qw lo hi)) w):=by
 unfold spanV
 go_enter Tryz.func305,Tryz.ntmps305
 go_wp2_with fail
 refine(Zbp _).mono ?_
 rintro e w' ⟨rfl,hb⟩
 have hz:w.heap.size<w'.heap.size:=ltB hb (by simp)
 have h0:=Nb hb (p:=⟨w.heap.size,0,none⟩) (v:=V0 lo) (by simp[go_sem])
 have h1:=Nb hb (p:=⟨w.heap.size,1,none⟩) (v:=V0 hi) (by simp[go_sem])
 unfold spanV
 go_wp2_with fail
 all_goals go_ret
 all_goals refine⟨?_,bln (bln (blx w _) hb) (blx _ _)⟩
 all_goals (unfold Qw;congr 2;simp[*];try omega)
theorem Ck(lo hi:Int)(v:Value)(l:List Int)(w:World)(hl:Ints w v l) :
 C0 281 #[spanV lo hi,v] w (Ret (V0 (Yw lo hi l)) w):=by
 by_cases hr:Qw lo hi=true
 case neg =>
  have b1:Qw lo hi=false:=by simpa using hr
  unfold spanV
  rcases hl with ⟨a0,c0,rfl,a7,hl⟩|⟨b,a6,b0,rfl,a5,a2,hc⟩
  all_goals
   go_enter Tryz.func281,Tryz.ntmps281
   go_wp2_with fail
   refine(Nu _ _ _).mono ?_
   rintro e w' ⟨rfl,hb⟩
   go_wp2_with fail
   go_ret
   exact⟨by rw[Rd b1];rfl,bln (blx w _) hb⟩
 rcases hl with ⟨a0,c0,rfl,a7,hl⟩|⟨b,a6,b0,rfl,a5,a2,hc⟩
 ·obtain rfl:l=[]:=by simpa using hl
  unfold spanV
  go_enter Tryz.func281,Tryz.ntmps281
  go_wp2_with fail
  refine(Nu _ _ _).mono ?_
  rintro e w' ⟨rfl,hb⟩
  go_wp2_with fail
  go_loop [5] (fun i=>i=V0 1) (fun _=>0)
  case atStart=>exact rfl
  case round =>
   obtain rfl:=hrel
   go_wp2_with fail
   refine Va (by kernel_rfl) (by kernel_rfl) ?_
   repeat (go_big_quiet_step (fail))
   refine wpQuiet_nil ?_
   intro wx
   go_wp2_with fail
   go_ret
   exact⟨by rw[Zcs hr];rfl,bln (bln (blx w _) hb) wx.below⟩
 ·unfold maxLen at a2
  unfold spanV
  go_enter Tryz.func281,Tryz.ntmps281
  go_wp2_with fail
  refine(Nu _ _ _).mono ?_
  rintro e w' ⟨rfl,hb⟩
  have hz:w.heap.size<w'.heap.size:=ltB hb (by simp)
  have h0:=Nb hb (p:=⟨w.heap.size,0,none⟩) (v:=V0 lo) (by simp[go_sem])
  have h1:=Nb hb (p:=⟨w.heap.size,1,none⟩) (v:=V0 hi) (by simp[go_sem])
  have hB:=bln (blx w _) hb
  have HC:=Lib.hid (fun j x (hj:l[j]? = some x)=>Nb hb (getA _ (hc j (V0 x) (by simp[hj]))))
  clear hc hb
  go_wp2_with fail
  go_loopw [5] (fun i wr=>∃ k:Nat,1≤k∧i=V0 k∧Vv (l.take k)∧Below w'.heap.size w' wr) (fun i _=>l.length-(intOf i).toNat)
  case atStart=>exact⟨1,by omega,rfl,Vv.one l,Below.refl _ _⟩
  case round =>
   obtain⟨k,a9,rfl,hs,a1⟩:=hrel
   have HS:=Lib.hid hs;clear hs
   by_cases hlt:k<l.length
   ·obtain⟨x,hx⟩:∃ x,l[k-1]? = some x:=⟨l[k-1],by simp⟩
    obtain⟨y,hy⟩:∃ y,l[k]? = some y:=⟨l[k],by simp⟩
    have b2:=Nb a1 (HC.out _ _ hx)
    have b3:=Nb a1 (HC.out _ _ hy)
    have HX:=Lib.hid hx;clear hx
    have HY:=Lib.hid hy;clear hy
    go_wp2_with fail
    go_quiet (fail)
    go_wp2_with fail
    ·go_ret
     exact⟨by rw[Fk hr a9 HX.out HY.out (by assumption)];rfl,bln hB (blD a1 _)⟩
    ·go_roundw
     case rel=>exact⟨k+1,by omega,by go_num,HS.out.succ HX.out HY.out (by assumption),blD a1 _⟩
     case measure=>simp[intOf];omega
   ·have a4:l.length≤k:=by omega
    by_cases h0l:l.length=0
    ·obtain rfl:l=[]:=List.length_eq_zero_iff.mp h0l
     clear h0l
     go_wp2_with fail
     go_quiet (fail)
     go_wp2_with fail
     go_ret
     exact⟨by rw[Zcs hr];rfl,bln hB (blD a1 _)⟩
    ·obtain⟨x,hx⟩:∃ x,l[0]? = some x:=⟨l[0],by simp⟩
     obtain⟨y,hy⟩:∃ y,l[l.length-1]? = some y:=⟨l[l.length-1],by simp⟩
     have a8:0<l.length:=by omega
     have e0:∀ z:Ext wr,z.val.cell? ⟨w.heap.size,0,none⟩=some (V0 lo):=fun z=>z.get (Nb a1 h0)
     have e1:∀ z:Ext wr,z.val.cell? ⟨w.heap.size,1,none⟩=some (V0 hi):=fun z=>z.get (Nb a1 h1)
     have e2:∀ z:Ext wr,z.val.cell? ⟨b,a6,none⟩=some (V0 x):=fun z=>z.get (Nb a1 (HC.out 0 _ hx))
     have e3:∀ z:Ext wr,z.val.cell? ⟨b,a6+(l.length-1),none⟩=some (V0 y):=fun z=>z.get (Nb a1 (HC.out _ _ hy))
     have HX:=Lib.hid hx;clear hx
     have HY:=Lib.hid hy;clear hy
     by_cases ha:Dy lo hi x=true
     ·by_cases a3:Dy lo hi y=true
      ·go_wp2_with fail
       refine Va (by kernel_rfl) (by kernel_rfl) ?_
       repeat (go_big_quiet_step (exact Ret.ext (Rs _ _ _ _)))
       refine wpQuiet_nil ?_
       intro wx
       go_wp2_with fail
       go_ret
       exact⟨by rw[fits_in hr (HS.out.all a4) HX.out HY.out ha a3];rfl,bln (bln hB a1) wx.below⟩
      ·have a3:Dy lo hi y=false:=by simpa using a3
       go_wp2_with fail
       refine Va (by kernel_rfl) (by kernel_rfl) ?_
       repeat (go_big_quiet_step (exact Ret.ext (Rs _ _ _ _)))
       refine wpQuiet_nil ?_
       intro wx
       go_wp2_with fail
       go_ret
       exact⟨by rw[Rz hr (HS.out.all a4) HY.out a3];rfl,bln (bln hB a1) wx.below⟩
     ·have ha:Dy lo hi x=false:=by simpa using ha
      go_wp2_with fail
      refine Va (by kernel_rfl) (by kernel_rfl) ?_
      repeat (go_big_quiet_step (exact Ret.ext (Rs _ _ _ _)))
      refine wpQuiet_nil ?_
      intro wx
      go_wp2_with fail
      go_ret
      exact⟨by rw[Rz hr (HS.out.all a4) HX.out ha];rfl,bln (bln hB a1) wx.below⟩
end Go.Proofs.YtegcamkgeacjfaaGreatDoor
namespace Go.Proofs.YtegcamkgeacjfaaGreatDoor
set_option maxHeartbeats 8000000
set_option maxRecDepth 100000
open Go.RowKit
set_option linter.unusedVariables false
attribute [local go_sem] Oper.semAt_some
def Xg(hi:Int)(l:List Int)(i:Nat):Int×Int:=(l[i]?.getD 0,l[i+1]?.getD hi)
def qOf {n:Nat}(j:Fin n):Nat:=n-1-j.val
def encE(hi:Int)(l:List Int)(j:Fin l.length):Array Value:=#[V0 (qOf j:Int),spanV (Xg hi l (qOf j)).1 (Xg hi l (qOf j)).2]
theorem Ku{n k:Nat}(h:k<n):(List.finRange n).take (k+1)=(List.finRange n).take k++[⟨k,h⟩]:=by
 rw[List.take_succ_eq_append_getElem (by simpa using h)];simp
theorem Mf(n:Nat):(List.finRange n).take n=List.finRange n:=List.take_of_length_le (by simp)
theorem Uq{n k:Nat}(h:k≤n):((List.finRange n).take k).length=k:=by simp[h]
theorem each1_in(l Bs Bk:Nat)(p:Nat→Prop)(hi:Int)(b off cap:Nat)(zs:List Int)(hlen:zs.length≤9223372036854775807)(hb':zs.length=0∨p b)(hBk:p Bk)(J Jx:List (Fin zs.length)→World→Prop)
  (hY:∀ pre x W,J pre W→pre.length<zs.length→YieldAt Fence.wide 2 Tryz.prog l (encE hi zs x) W fun e W' =>
   (e=.returned (.bool true)∧J (pre++[x]) W'∧Keeps p W W')∨(e=.returned (.bool false)∧Jx (pre++[x]) W'))
  (W:World) (hc1:W.cell? ⟨Bs,1,none⟩=some (V0 hi)) (hck:W.cell? ⟨Bk,0,none⟩=some (.slice (some ⟨b,off,none⟩) zs.length cap))
  (hc:∀ j x,zs[j]? = some x→W.cell? ⟨b,off+j,none⟩=some (V0 x)) (h0:J [] W) :
  CallsIn Fence.wide 3 Tryz.prog 307 #[.func (.yield l) #[] #[],P0 Bs,P0 Bk] W fun e W'=>(∃ v,e=.returned v) ∧
   ((∃ ys,ys=List.finRange zs.length∧J ys W')∨(∃ pre,(∃ k,k≤zs.length∧pre=(List.finRange zs.length).take k)∧Jx pre W')):=by
 refine callsIn_of_wp Tryz.func307 rfl trivial ?_ rfl
 simp only[Tryz.ntmps307,List.size_toArray,List.length_cons,List.length_nil,Nat.reduceAdd,Nat.reduceSub,Array.replicate_succ,Array.replicate_zero,List.push_toArray,List.append_toArray,List.nil_append,List.cons_append]
 gi_wp2
 gi_loopw [4,5] (fun h i wr=>∃ k:Nat,k≤zs.length∧i=V0 ((zs.length:Int)-1-k)∧h=V0 (zs[zs.length-k]?.getD hi)∧J ((List.finRange zs.length).take k) wr∧Keeps p W wr)
  (fun _ i _=>((intOf i)+1).toNat)
 case atStart=>exact⟨0,Nat.zero_le _,by simp,by simp,h0,Keeps.refl _ _⟩
 case round =>
  obtain⟨k,hk,rfl,rfl,a1,a3⟩:=hrel
  generalize hhv:zs[zs.length-k]?.getD hi=hv
  by_cases hlt:k<zs.length
  ·have hb:p b:=hb'.resolve_left (by omega)
   obtain⟨x,hx⟩:∃ x,zs[zs.length-1-k]? = some x:=⟨zs[zs.length-1-k],by simp⟩
   have a7:=(a3.cell (a:=⟨Bk,0,none⟩) hBk).trans hck
   have a8:=(a3.cell (a:=⟨b,off+(zs.length-1-k),none⟩) hb).trans (hc _ _ hx)
   obtain⟨q,hq⟩:∃ q:Nat,q=zs.length-1-k:=⟨_,rfl⟩
   have a4:((zs.length:Int)-1-k)=(q:Int):=by omega
   have b4:q<zs.length:=by omega
   obtain⟨fn,a9,a6,b0,hy,hR⟩:=hY _ ⟨k,hlt⟩ wr a1 (by rw[Uq hk];exact hlt)
   have hE:encE hi zs ⟨k,hlt⟩=#[V0 (q:Int),.agg #[V0 x,V0 hv]]:=by
    have e0:zs[q]? = some x:=by rw[hq];exact hx
    have e1:q+1=zs.length-k:=by omega
    have e2:qOf (⟨k,hlt⟩:Fin zs.length)=q:=hq.symm
    simp only[encE,Xg,spanV,e2,e0,e1,hhv,Option.getD_some]
   rw[hE] at hy
   rw[←hq] at a8
   rw[a4]
   have HQ:=Lib.hid hq;clear hq
   have HI:=Lib.hid a4;clear a4
   have HX:=Lib.hid hx;clear hx
   have HV:=Lib.hid hhv;clear hhv
   have HE:=Lib.hid hE;clear hE
   gi_wp2
   refine hR.mono ?_
   rintro e W3 (⟨rfl,b1,a2⟩|⟨rfl,a5⟩)
   ·have b3:=(a2.cell (a:=⟨Bk,0,none⟩) hBk).trans a7
    have b2:=(a2.cell (a:=⟨b,off+q,none⟩) hb).trans a8
    gi_wp2
    go_roundw
    case rel =>
     refine⟨k+1,by omega,?_,?_,by rw[Ku hlt];exact b1,a3.trans a2⟩
     ·exact congrArg V0 (by have:=HI.out;omega)
     ·have h1:zs.length-(k+1)=q:=by have:=HQ.out;omega
      have:=HX.out
      rw[←HQ.out] at this
      rw[h1,this];rfl
    case measure=>simp[intOf]
   ·gi_wp2
    refine bodyPost_ret (results_none rfl _ _ _) rfl ?_
    exact⟨⟨_,rfl⟩,.inr ⟨_,⟨k+1,by omega,by rw[Ku hlt]⟩,a5⟩⟩
  ·obtain rfl:k=zs.length:=by omega
   have a0:((zs.length:Int)-1-zs.length) = -1:=by omega
   rw[a0]
   clear a0 hhv
   rw[Mf] at a1
   have HJ:=Lib.hid a1;clear a1
   gi_wp2
   go_end0
   exact⟨⟨_,rfl⟩,.inl ⟨_,rfl,HJ.out⟩⟩
theorem Tb{α:Type}(l Bs Bk:Nat)(hi:Int)(J:List α→World→Prop)(W:World)(hc1:W.cell? ⟨Bs,1,none⟩=some (V0 hi)){a0:O0}{c0:Nat}(hck:W.cell? ⟨Bk,0,none⟩=some (.slice a0 0 c0))(h0:J [] W) :
 CallsIn Fence.wide 3 Tryz.prog 307 #[.func (.yield l) #[] #[],P0 Bs,P0 Bk] W fun e W'=>(∃ v,e=.returned v)∧J [] W':=by
 refine callsIn_of_wp Tryz.func307 rfl trivial ?_ rfl
 simp only[Tryz.ntmps307,List.size_toArray,List.length_cons,List.length_nil,Nat.reduceAdd,Nat.reduceSub,Array.replicate_succ,Array.replicate_zero,List.push_toArray,List.append_toArray,List.nil_append,List.cons_append]
 gi_wp2
 gi_loopw [4,5] (fun _ i wr=>i=V0 (-1)∧J [] wr) (fun _ _ _=>0)
 case atStart=>exact⟨rfl,h0⟩
 case round =>
  obtain⟨rfl,a1⟩:=hrel
  gi_wp2
  go_end0
  exact⟨⟨_,rfl⟩,a1⟩
theorem Zdi(Bs Bk:Nat)(p:Nat→Prop)(hi:Int)(v:Value)(zs:List Int)(w:World)(hp:∀ b,p b→b<w.heap.size)(hk:p Bk)(hs:p Bs)(hlen:zs.length≤9223372036854775807)(hv:Ints w v zs)
  (hvp:zs.length≠0→∀ b off n cap,v=.slice (some ⟨b,off,none⟩) n cap→p b)
  (hc1:w.cell? ⟨Bs,1,none⟩=some (V0 hi)) (hck:w.cell? ⟨Bk,0,none⟩=some v) :
  SeqStopsK Fence.wide 3 Tryz.prog 307 #[P0 Bs,P0 Bk] (encE hi zs) (Keeps p)
   (fun ys=>ys=List.finRange zs.length) (fun pre=>∃ k,k≤zs.length∧pre=(List.finRange zs.length).take k) zs.length w:=fun l J Jx W hW _ _ hY h0=>by
 have a1:=Nb hW hc1
 have a2:=Nb hW hck
 rcases hv with ⟨a0,c0,rfl,h1,h2⟩|⟨b,off,cap,rfl,a4,a3,a5⟩
 ·obtain rfl:zs=[]:=by simpa using h2
  exact(Tb l Bs Bk hi J W a1 a2 h0).mono fun e W' ⟨he,hj⟩=>⟨he,.inl ⟨_,rfl,hj⟩⟩
 ·refine each1_in l Bs Bk p hi b off cap zs hlen ?_ hk J Jx hY W a1 a2 (fun j x hj=>Nb hW (a5 j _ (by simp[hj]))) h0
  by_cases h:zs.length=0
  ·exact .inl h
  ·exact .inr (hvp h _ _ _ _ rfl)
theorem Zgu(lo hi:Int)(a:O0)(n c:Nat)(w:World):C0 282 #[spanV lo hi,.slice a n c] w fun e w' =>
 e=.returned (.func (.func 307) #[] #[.pointer (some ⟨w.heap.size,0,none⟩),.pointer (some ⟨w.heap.size+1,0,none⟩)]) ∧
 w'=(w.alloc (.cells #[V0 lo,V0 hi] 214)).alloc (.cells #[.slice a n c] 33):=by
 unfold spanV
 go_enter Tryz.func282,Tryz.ntmps282
 go_wp2
 go_ret
 exact⟨rfl,rfl⟩
def encB(l:List Int)(j:Fin l.length):Array Value:=#[V0 (qOf j:Int),V0 (l[qOf j]?.getD 0)]
theorem back1_in(l Bk:Nat)(p:Nat→Prop)(b off cap:Nat)(zs:List Int)(hlen:zs.length≤9223372036854775807)(hb':zs.length=0∨p b)(hBk:p Bk)(J Jx:List (Fin zs.length)→World→Prop)
  (hY:∀ pre x W,J pre W→pre.length<zs.length→YieldAt Fence.wide 2 Tryz.prog l (encB zs x) W fun e W' =>
   (e=.returned (.bool true)∧J (pre++[x]) W'∧Keeps p W W')∨(e=.returned (.bool false)∧Jx (pre++[x]) W'))
  (W:World) (hck:W.cell? ⟨Bk,0,none⟩=some (.slice (some ⟨b,off,none⟩) zs.length cap))
  (hc:∀ j x,zs[j]? = some x→W.cell? ⟨b,off+j,none⟩=some (V0 x)) (h0:J [] W) :
  CallsIn Fence.wide 3 Tryz.prog 300 #[.func (.yield l) #[] #[],P0 Bk] W fun e W'=>(∃ v,e=.returned v) ∧
   ((∃ ys,ys=List.finRange zs.length∧J ys W')∨(∃ pre,(∃ k,k≤zs.length∧pre=(List.finRange zs.length).take k)∧Jx pre W')):=by
 refine callsIn_of_wp Tryz.func300 rfl trivial ?_ rfl
 simp only[Tryz.ntmps300,List.size_toArray,List.length_cons,List.length_nil,Nat.reduceAdd,Nat.reduceSub,Array.replicate_succ,Array.replicate_zero,List.push_toArray,List.append_toArray,List.nil_append,List.cons_append]
 gi_wp2
 gi_loopw [3] (fun i wr=>∃ k:Nat,k≤zs.length∧i=V0 ((zs.length:Int)-1-k)∧J ((List.finRange zs.length).take k) wr∧Keeps p W wr)
  (fun i _=>((intOf i)+1).toNat)
 case atStart=>exact⟨0,Nat.zero_le _,by simp,h0,Keeps.refl _ _⟩
 case round =>
  obtain⟨k,hk,rfl,a1,a2⟩:=hrel
  by_cases hlt:k<zs.length
  ·have hb:p b:=hb'.resolve_left (by omega)
   obtain⟨x,hx⟩:∃ x,zs[zs.length-1-k]? = some x:=⟨zs[zs.length-1-k],by simp⟩
   have a8:=(a2.cell (a:=⟨Bk,0,none⟩) hBk).trans hck
   have a9:=(a2.cell (a:=⟨b,off+(zs.length-1-k),none⟩) hb).trans (hc _ _ hx)
   obtain⟨q,hq⟩:∃ q:Nat,q=zs.length-1-k:=⟨_,rfl⟩
   have a3:((zs.length:Int)-1-k)=(q:Int):=by omega
   have b2:q<zs.length:=by omega
   obtain⟨fn,a6,a5,b0,hy,hR⟩:=hY _ ⟨k,hlt⟩ wr a1 (by rw[Uq hk];exact hlt)
   have hE:encB zs ⟨k,hlt⟩=#[V0 (q:Int),V0 x]:=by
    have e0:zs[q]? = some x:=by rw[hq];exact hx
    have e2:qOf (⟨k,hlt⟩:Fin zs.length)=q:=hq.symm
    simp only[encB,e2,e0,Option.getD_some]
   rw[hE] at hy
   rw[←hq] at a9
   rw[a3]
   have HQ:=Lib.hid hq;clear hq
   have HI:=Lib.hid a3;clear a3
   have HX:=Lib.hid hx;clear hx
   have HE:=Lib.hid hE;clear hE
   gi_wp2
   refine hR.mono ?_
   rintro e W3 (⟨rfl,b1,a7⟩|⟨rfl,a4⟩)
   ·gi_wp2
    go_roundw
    case rel =>
     refine⟨k+1,by omega,?_,by rw[Ku hlt];exact b1,a2.trans a7⟩
     exact congrArg V0 (by have:=HI.out;omega)
    case measure=>simp[intOf]
   ·gi_wp2
    refine bodyPost_ret (results_none rfl _ _ _) rfl ?_
    exact⟨⟨_,rfl⟩,.inr ⟨_,⟨k+1,by omega,by rw[Ku hlt]⟩,a4⟩⟩
  ·obtain rfl:k=zs.length:=by omega
   have a0:((zs.length:Int)-1-zs.length) = -1:=by omega
   rw[a0]
   clear a0
   rw[Mf] at a1
   have HJ:=Lib.hid a1;clear a1
   gi_wp2
   go_end0
   exact⟨⟨_,rfl⟩,.inl ⟨_,rfl,HJ.out⟩⟩
theorem Th{α:Type}(l Bk:Nat)(J:List α→World→Prop)(W:World){a0:O0}{c0:Nat}(hck:W.cell? ⟨Bk,0,none⟩=some (.slice a0 0 c0))(h0:J [] W) :
 CallsIn Fence.wide 3 Tryz.prog 300 #[.func (.yield l) #[] #[],P0 Bk] W fun e W'=>(∃ v,e=.returned v)∧J [] W':=by
 refine callsIn_of_wp Tryz.func300 rfl trivial ?_ rfl
 simp only[Tryz.ntmps300,List.size_toArray,List.length_cons,List.length_nil,Nat.reduceAdd,Nat.reduceSub,Array.replicate_succ,Array.replicate_zero,List.push_toArray,List.append_toArray,List.nil_append,List.cons_append]
 gi_wp2
 gi_loopw [3] (fun i wr=>i=V0 (-1)∧J [] wr) (fun _ _=>0)
 case atStart=>exact⟨rfl,h0⟩
 case round =>
  obtain⟨rfl,a1⟩:=hrel
  gi_wp2
  go_end0
  exact⟨⟨_,rfl⟩,a1⟩
theorem Zc6(Bk:Nat)(p:Nat→Prop)(v:Value)(zs:List Int)(w:World)(hp:∀ b,p b→b<w.heap.size)(hk:p Bk)(hlen:zs.length≤9223372036854775807)(hv:Ints w v zs)
  (hvp:zs.length≠0→∀ b off n cap,v=.slice (some ⟨b,off,none⟩) n cap→p b) (hck:w.cell? ⟨Bk,0,none⟩=some v) :
  SeqStopsK Fence.wide 3 Tryz.prog 300 #[P0 Bk] (encB zs) (Keeps p)
   (fun ys=>ys=List.finRange zs.length) (fun pre=>∃ k,k≤zs.length∧pre=(List.finRange zs.length).take k) zs.length w:=fun l J Jx W hW _ _ hY h0=>by
 have a1:=Nb hW hck
 rcases hv with ⟨a0,c0,rfl,h1,h2⟩|⟨b,off,cap,rfl,a4,a3,a2⟩
 ·obtain rfl:zs=[]:=by simpa using h2
  exact(Th l Bk J W a1 h0).mono fun e W' ⟨he,hj⟩=>⟨he,.inl ⟨_,rfl,hj⟩⟩
 ·refine back1_in l Bk p b off cap zs hlen ?_ hk J Jx hY W a1 (fun j x hj=>Nb hW (a2 j _ (by simp[hj]))) h0
  by_cases h:zs.length=0
  ·exact .inl h
  ·exact .inr (hvp h _ _ _ _ rfl)
end Go.Proofs.YtegcamkgeacjfaaGreatDoor
namespace Go.Proofs.YtegcamkgeacjfaaGreatDoor
set_option maxHeartbeats 8000000
set_option maxRecDepth 100000
open Go.RowKit Go.Extern.Stop Go.Stop Go.Extern
set_option linter.unusedVariables false
attribute [local irreducible] wpList wpAnyH Code.wp Oper.wp Go
theorem Rb(kind no:Int)(a:O0)(n c:Nat)(l:Bl)(w:World)(hn:l.length=n)(h:Bys w (.slice a n c) l):C0 67 #[.slice a n c,V0 kind,V0 no] w (Zhf kind no l w):=by
 subst hn;exact seal_Open kind no a c l w h
def Qj(l:Bl)(tree:Int):Int:=if Yz l=0 then(if tree=0∨Xv l=tree then 0 else 6) else Yz l
def Xe(l:Bl)(no tree:Int):Int:=if inE l 2 no=0 then Qj (inB l no) tree else inE l 2 no
def Node1P(l:Bl)(tree:Int)(w:World)(e:Ending)(w':World):Prop :=
 (Qj l tree≠0∧∃ a b kp n1 kc vp n2 vc,e=.returned (.tuple #[.agg #[V0 a,.bool b,.slice kp n1 kc,.slice vp n2 vc],V0 (Qj l tree)])∧B0 w w') ∨
 (Qj l tree=0∧∃ kp kc vp vc,e=.returned (.tuple #[.agg #[V0 (Xv l),.bool (Xr l),.slice kp (Zt l) kc,.slice vp (Zt l) vc],V0 0])∧B0 w w' ∧
  w'.ownsRow w.heap.size 3 1 (.slice kp (Zt l) kc) (Zt l) ((Yx l (Zt l)).map V0)∧w'.ownsRow w.heap.size 9 1 (.slice vp (Zt l) vc) (Zt l) ((Vw l (Zt l)).map sv))
def Zb7(l:Bl)(no tree:Int)(w:World)(e:Ending)(w':World):Prop :=
 (Xe l no tree≠0∧∃ b,e=.returned (.tuple #[.agg #[V0 0,.bool false,S0,S0],.iface 185 (P0 b)])∧B0 w w'∧Kl w' [some no] (some (Xe l no tree)) (.iface 185 (P0 b))) ∨
 (Xe l no tree=0∧∃ kp kc vp vc,e=.returned (.tuple #[.agg #[V0 (Xv (inB l no)),.bool (Xr (inB l no)),.slice kp (Zt (inB l no)) kc,.slice vp (Zt (inB l no)) vc],.nilIface])∧B0 w w' ∧
  w'.ownsRow w.heap.size 3 1 (.slice kp (Zt (inB l no)) kc) (Zt (inB l no)) ((Yx (inB l no) (Zt (inB l no))).map V0)∧w'.ownsRow w.heap.size 9 1 (.slice vp (Zt (inB l no)) vc) (Zt (inB l no)) ((Vw (inB l no) (Zt (inB l no))).map sv))
theorem node_1(tree:Int)(bt:Nat)(a:O0)(c:Nat)(l:Bl)(w:World)(kt:Blk w bt [V0 tree] 3)(hl:l.length=244)(h:Bys w (.slice a 244 c) l) :
 C0 303 #[.slice a 244 c,P0 bt] w (Node1P l tree w):=by
 refine zin 27 Tryz.func303 ?_
 refine xa 2 [V0 0,.bool false,S0,S0] 173 fun b1 W1 n1=>?_
 refine xc 6 (args:=#[.slice a 244 c]) (node_Read a c l _ hl (h.below n1.below)) ?_
 rintro e W2 c8
 rcases c8 with ⟨hz,rfl,a4⟩|⟨hz,kp,kc,vp,vc,rfl,a4,hk,c5⟩
 ·refine xa 3 [V0 0,.bool false,S0,S0] 173 fun b3 W3 n3=>?_
  have k1:=n1.blk.below a4
  have a5:=n3.ne k1
  have a8:=bln n1.below a4
  have g3:=n3.ge a8
  refine xsv 0 n3.blk [V0 0,.bool false,S0,S0] fun W4 u4 k4=>?_
  refine xgk 9 [13,14] (show(((Yz l)==(0:Int)):Bool)=false from beq_false_of_ne hz) ?_
  refine xlv 16 k4.rp ?_
  have b8:=u4.blk (k1.below n3.below) (Ne.symm (Ne.symm a5))
  refine xsv 1 b8 [V0 0,.bool false,S0,S0] fun W6 u6 k6=>?_
  have g1:=n1.ge (B1 w)
  have b9:=u6.below (u4.below (bln a8 n3.below) g3) g1
  exact xec 4 k6 (.tuple #[.agg #[V0 0,.bool false,S0,S0],V0 (Yz l)]) (.inl ⟨by unfold Qj;rw[if_neg hz];exact hz,_,_,_,_,_,_,_,_,by unfold Qj;rw[if_neg hz],b9⟩)
 refine xa 3 [V0 0,.bool false,S0,S0] 173 fun b7 W7 n7=>?_
 have k1:=n1.blk.below a4
 have a0:=n7.ne k1
 have a1:=bln n1.below a4
 have g7:=n7.ge a1
 refine xsv 0 n7.blk [V0 (Xv l),.bool (Xr l),.slice kp (Zt l) kc,.slice vp (Zt l) vc] fun W8 u8 k8=>?_
 have a9:=u8.blkT (((kt.below n1.below).below a4).below n7.below) n7.blk (by decide)
 refine xb 9 0 a9 ?_
 refine xg 3 [16,17,18] (tree != (0:Int)) (fun a6=>?_) (fun a6=>?_)
 ·have a6:=Qk a6
  refine xb 1 0 k8 ?_
  refine xb 0 0 a9 ?_
  refine xin 4 (Xv l) tree (fun b4=>?_) (fun b4=>?_)
  ·refine xlv 2 k8.rp ?_
   have c1:=u8.blk (k1.below n7.below) (Ne.symm (Ne.symm a0))
   refine xsv 0 c1 [V0 (Xv l),.bool (Xr l),.slice kp (Zt l) kc,.slice vp (Zt l) vc] fun d1 c9 c6=>?_
   have g1:=n1.ge (B1 w)
   have b6:=c9.below (u8.below (bln a1 n7.below) g7) g1
   exact xec 5 c6 (.tuple #[.agg #[V0 (Xv l),.bool (Xr l),.slice kp (Zt l) kc,.slice vp (Zt l) vc],V0 6]) (.inl ⟨by unfold Qj;rw[if_pos hz,if_neg (by omega)];decide,_,_,_,_,_,_,_,_,by unfold Qj;rw[if_pos hz,if_neg (by omega)],b6⟩)
  refine xlv 4 k8.rp ?_
  have a2:=u8.blk (k1.below n7.below) (Ne.symm (Ne.symm a0))
  refine xsv 1 a2 [V0 (Xv l),.bool (Xr l),.slice kp (Zt l) kc,.slice vp (Zt l) vc] fun d3 c2 c7=>?_
  have g1:=n1.ge (B1 w)
  have c4:=c2.below (u8.below (bln a1 n7.below) g7) g1
  have c3:=c2.own2 (u8.own2 (Zb (Zg hk n1.below.size) n7.below) n7.blk (by decide)) a2 (by decide)
  have a7:=c2.own2 (u8.own2 (Zb (Zg c5 n1.below.size) n7.below) n7.blk (by decide)) a2 (by decide)
  exact xec 4 c7 (.tuple #[.agg #[V0 (Xv l),.bool (Xr l),.slice kp (Zt l) kc,.slice vp (Zt l) vc],V0 0]) (.inr ⟨by unfold Qj;rw[if_pos hz,if_pos (by omega)],_,_,_,_,rfl,c4,c3,a7⟩)
 have a6:=Xn a6
 refine xlv 12 k8.rp ?_
 have a3:=u8.blk (k1.below n7.below) (Ne.symm (Ne.symm a0))
 refine xsv 1 a3 [V0 (Xv l),.bool (Xr l),.slice kp (Zt l) kc,.slice vp (Zt l) vc] fun d2 b2 d0=>?_
 have g1:=n1.ge (B1 w)
 have c0:=b2.below (u8.below (bln a1 n7.below) g7) g1
 have b5:=b2.own2 (u8.own2 (Zb (Zg hk n1.below.size) n7.below) n7.blk (by decide)) a3 (by decide)
 have b0:=b2.own2 (u8.own2 (Zb (Zg c5 n1.below.size) n7.below) n7.blk (by decide)) a3 (by decide)
 exact xec 4 d0 (.tuple #[.agg #[V0 (Xv l),.bool (Xr l),.slice kp (Zt l) kc,.slice vp (Zt l) vc],V0 0]) (.inr ⟨by unfold Qj;rw[if_pos hz,if_pos (by omega)],_,_,_,_,rfl,c0,b5,b0⟩)
theorem readNode(B b:Nat)(p:O0)(n c:Nat)(l:Bl)(no tree:Int)(w:World)(hI:ImgR B b p n c l w)(bt:Nat)(kt:Blk w bt [V0 tree] 3) :
 C0 302 #[P0 b,V0 no,V0 2,.func (.func 303) #[] #[P0 bt]] w (Zb7 l no tree w):=by
 refine zin 56 Tryz.func302 ?_
 refine xa 2 [V0 0,.bool false,S0,S0] 173 fun b1 W1 n1=>?_
 refine xa 5 [V0 0,.bool false,S0,S0] 173 fun b2 W2 n2=>?_
 have h7:=n2.ne n1.blk
 have hB:=bln n1.below n2.below
 refine xc 6 (args:=#[P0 b,V0 no]) (Ff B b p n c l no _ (hI.below hB)) ?_
 rintro e W3 j0
 rcases j0 with ⟨ho,vr,rfl,a0⟩|⟨j,hk,hj,p2,c2,rfl,a0,ho⟩
 ·refine xd 16 (.t w.heap.size [173]) ?_
  refine xm2 (.b [1,2,3]) 0 4 ?_ ?_
  ·have k2:=(n2.blk.below a0).below (Za W3)
   refine xlv 0 k2.rp ?_
   refine yc (.o [] 4) (args:=#[V0 no,.iface 63 (V0 3)]) (.t w.heap.size [173]) (Yr no 3 _) ?_
   rintro _ W4 ⟨_,rfl,f7,f2⟩
   refine⟨(SF.of_below _ f7),?_⟩
   rw[if_neg (by decide),if_neg (by decide)] at f2
   have j8:=f2
   obtain⟨j5,k9,rfl,_,_⟩:=j8
   have c9:=(((n1.blk.below n2.below).below a0).below (Za W3)).below f7
   have g1:=n1.ge (B1 w)
   refine ysv (.o [] 5) c9 [V0 0,.bool false,S0,S0] (.t w.heap.size [173]) fun W5 u5 k5=>⟨(Zp u5 c9 g1 (by decide)),?_⟩
   have h4:=u5.below (bln (bln (bln hB a0) (Za W3)) f7) g1
   have e0:=f2.upd u5 c9 (by decide)
   refine xec (.r [6] 4) k5 (.tuple #[.agg #[V0 0,.bool false,S0,S0],.iface 185 (P0 j5)]) ?_
   have he:Xe l no tree=3:=by unfold Xe;rw[Db hI.len ho];rfl
   exact .inl ⟨by rw[he];decide,_,rfl,h4,by rw[he];exact e0⟩
  refine yc 0 (args:=#[V0 no,.iface 63 (V0 3)]) (.t w.heap.size [173]) (Yr no 3 _) ?_
  rintro _ W6 ⟨_,rfl,e6,g0⟩
  refine⟨(SF.of_below _ e6),?_⟩
  rw[if_neg (by decide),if_neg (by decide)] at g0
  have i6:=g0
  obtain⟨k4,l9,rfl,_,_⟩:=i6
  have k2:=((n2.blk.below a0).below (Za W3)).below e6
  refine xlv (.o [] 0) k2.rp ?_
  have d2:=(((n1.blk.below n2.below).below a0).below (Za W3)).below e6
  have g1:=n1.ge (B1 w)
  refine ysv (.o [] 5) d2 [V0 0,.bool false,S0,S0] (.t w.heap.size [173]) fun W7 u7 k7=>⟨(Zp u7 d2 g1 (by decide)),?_⟩
  have f1:=u7.below (bln (bln (bln hB a0) (Za W3)) e6) g1
  have d6:=g0.upd u7 d2 (by decide)
  refine xec (.r [6] 4) k7 (.tuple #[.agg #[V0 0,.bool false,S0,S0],.iface 185 (P0 k4)]) ?_
  have he:Xe l no tree=3:=by unfold Xe;rw[Db hI.len ho];rfl
  exact .inl ⟨by rw[he];decide,_,rfl,f1,by rw[he];exact d6⟩
 have j4:=(bln n1.below n2.below).size
 have j7:j<l.length/256:=by rw[hI.len];exact hj
 have h8:=Gf j7
 have e2:=inE_in (l:=l) (kind:=2) hI.len hk hj
 have g6:=Zg ho j4
 refine xc 22 (args:=#[.slice p2 256 c2,V0 2,V0 no]) (Rb 2 no p2 256 c2 (Jw l j) _ h8 (Gp (Zh g6) h8)) ?_
 rintro e W8 j2
 rcases j2 with ⟨hs,rfl,a2⟩|⟨hs,p3,c3,rfl,a2,h3⟩
 ·refine xk 14 (show(((Yk 2 no (Jw l j)) != (0:Int)):Bool)=true from bne_iff_ne.2 hs) ?_
  refine xd 1 (.t w.heap.size [173]) ?_
  refine xm2 (.b [1,2,3]) 0 4 ?_ ?_
  ·have k2:=((n2.blk.below a0).below a2).below (Za W8)
   refine xlv 0 k2.rp ?_
   refine yc (.o [] 4) (args:=#[V0 no,.iface 63 (V0 (Yk 2 no (Jw l j)))]) (.t w.heap.size [173]) (Yr no (Yk 2 no (Jw l j)) _) ?_
   rintro _ W9 ⟨_,rfl,f3,e8⟩
   refine⟨(SF.of_below _ f3),?_⟩
   rw[if_neg hs,if_neg hs] at e8
   have j1:=e8
   obtain⟨i1,l5,rfl,_,_⟩:=j1
   have d1:=((((n1.blk.below n2.below).below a0).below a2).below (Za W8)).below f3
   have g1:=n1.ge (B1 w)
   refine ysv (.o [] 5) d1 [V0 0,.bool false,S0,S0] (.t w.heap.size [173]) fun m6 f6 k3=>⟨(Zp f6 d1 g1 (by decide)),?_⟩
   have g2:=f6.below (bln (bln (bln (bln hB a0) a2) (Za W8)) f3) g1
   have e1:=e8.upd f6 d1 (by decide)
   refine xec (.r [6] 4) k3 (.tuple #[.agg #[V0 0,.bool false,S0,S0],.iface 185 (P0 i1)]) ?_
   have he:Xe l no tree=Yk 2 no (Jw l j):=by unfold Xe;rw[e2,if_neg hs]
   exact .inl ⟨by rw[he];exact hs,_,rfl,g2,by rw[he];exact e1⟩
  refine yc 0 (args:=#[V0 no,.iface 63 (V0 (Yk 2 no (Jw l j)))]) (.t w.heap.size [173]) (Yr no (Yk 2 no (Jw l j)) _) ?_
  rintro _ l4 ⟨_,rfl,a8,b6⟩
  refine⟨(SF.of_below _ a8),?_⟩
  rw[if_neg hs,if_neg hs] at b6
  have e7:=b6
  obtain⟨g7,i3,rfl,_,_⟩:=e7
  have k2:=(((n2.blk.below a0).below a2).below (Za W8)).below a8
  refine xlv (.o [] 0) k2.rp ?_
  have b9:=((((n1.blk.below n2.below).below a0).below a2).below (Za W8)).below a8
  have g1:=n1.ge (B1 w)
  refine ysv (.o [] 5) b9 [V0 0,.bool false,S0,S0] (.t w.heap.size [173]) fun l2 g4 k1=>⟨(Zp g4 b9 g1 (by decide)),?_⟩
  have h6:=g4.below (bln (bln (bln (bln hB a0) a2) (Za W8)) a8) g1
  have b3:=b6.upd g4 b9 (by decide)
  refine xec (.r [6] 4) k1 (.tuple #[.agg #[V0 0,.bool false,S0,S0],.iface 185 (P0 g7)]) ?_
  have he:Xe l no tree=Yk 2 no (Jw l j):=by unfold Xe;rw[e2,if_neg hs]
  exact .inl ⟨by rw[he];exact hs,_,rfl,h6,by rw[he];exact b3⟩
 have i9:=(bln hB a0).size
 have e4:=Zg h3 i9
 have i5:((Jw l j).drop 8).take 244=inB l no:=(Zf6 hk).symm
 have h9:=Zho hI.len hk hj
 rw[i5] at e4
 have b7:=bln (bln hB a0) a2
 refine xc 21 (args:=#[.slice p3 244 c3,P0 bt]) (node_1 tree bt p3 c3 (inB l no) _ (kt.below b7) h9 (Gp (Zh e4) h9)) ?_
 rintro e l6 h5
 rcases h5 with ⟨hz,a5,b5,kp,m1,kc,vp,m2,vc,rfl,a1⟩|⟨hz,kp,kc,vp,vc,rfl,a1,hk,i7⟩
 ·refine xa 3 [V0 0,.bool false,S0,S0] 173 fun l0 k8 a7=>?_
  have c7:=(((n1.blk.below n2.below).below a0).below a2).below a1
  have a3:=a7.ne c7
  have k2:=((n2.blk.below a0).below a2).below a1
  have a4:=a7.ne k2
  have d0:=bln b7 a1
  have i0:=a7.ge d0
  refine xsv 0 a7.blk [V0 a5,.bool b5,.slice kp m1 kc,.slice vp m2 vc] fun d3 d4 m0=>?_
  refine xk 10 (show(((Qj (inB l no) tree) != (0:Int)):Bool)=true from bne_iff_ne.2 hz) ?_
  refine xd 1 (.t w.heap.size [173]) ?_
  refine xm2 (.b [1,2,3]) 0 4 ?_ ?_
  ·have f0:=(d4.blk (k2.below a7.below) (Ne.symm (Ne.symm a4))).below (Za d3)
   refine xlv 0 f0.rp ?_
   refine yc (.o [] 4) (args:=#[V0 no,.iface 63 (V0 (Qj (inB l no) tree))]) (.t w.heap.size [173]) (Yr no (Qj (inB l no) tree) _) ?_
   rintro _ l1 ⟨_,rfl,c6,c0⟩
   refine⟨(SF.of_below _ c6),?_⟩
   rw[if_neg hz,if_neg hz] at c0
   have g8:=c0
   obtain⟨f8,j3,rfl,_,_⟩:=g8
   have c8:=((d4.blk (c7.below a7.below) (Ne.symm (Ne.symm a3))).below (Za d3)).below c6
   have g1:=n1.ge (B1 w)
   refine ysv (.o [] 5) c8 [V0 0,.bool false,S0,S0] (.t w.heap.size [173]) fun l7 h0 k0=>⟨(Zp h0 c8 g1 (by decide)),?_⟩
   have e9:=h0.below (bln (bln (d4.below (bln d0 a7.below) i0) (Za d3)) c6) g1
   have b4:=c0.upd h0 c8 (by decide)
   refine xec (.r [6] 4) k0 (.tuple #[.agg #[V0 0,.bool false,S0,S0],.iface 185 (P0 f8)]) ?_
   have he:Xe l no tree=Qj (inB l no) tree:=by unfold Xe;rw[e2,if_pos hs]
   exact .inl ⟨by rw[he];exact hz,_,rfl,e9,by rw[he];exact b4⟩
  refine yc 0 (args:=#[V0 no,.iface 63 (V0 (Qj (inB l no) tree))]) (.t w.heap.size [173]) (Yr no (Qj (inB l no) tree) _) ?_
  rintro _ l8 ⟨_,rfl,a9,c1⟩
  refine⟨(SF.of_below _ a9),?_⟩
  rw[if_neg hz,if_neg hz] at c1
  have h1:=c1
  obtain⟨g9,j9,rfl,_,_⟩:=h1
  have f4:=((d4.blk (k2.below a7.below) (Ne.symm (Ne.symm a4))).below (Za d3)).below a9
  refine xlv (.o [] 0) f4.rp ?_
  have c5:=((d4.blk (c7.below a7.below) (Ne.symm (Ne.symm a3))).below (Za d3)).below a9
  have g1:=n1.ge (B1 w)
  refine ysv (.o [] 5) c5 [V0 0,.bool false,S0,S0] (.t w.heap.size [173]) fun m5 h2 i2=>⟨(Zp h2 c5 g1 (by decide)),?_⟩
  have f5:=h2.below (bln (bln (d4.below (bln d0 a7.below) i0) (Za d3)) a9) g1
  have b0:=c1.upd h2 c5 (by decide)
  refine xec (.r [6] 4) i2 (.tuple #[.agg #[V0 0,.bool false,S0,S0],.iface 185 (P0 g9)]) ?_
  have he:Xe l no tree=Qj (inB l no) tree:=by unfold Xe;rw[e2,if_pos hs]
  exact .inl ⟨by rw[he];exact hz,_,rfl,f5,by rw[he];exact b0⟩
 have e3:=(bln (bln hB a0) a2).size
 refine xa 3 [V0 0,.bool false,S0,S0] 173 fun l3 m4 a6=>?_
 have d9:=(((n1.blk.below n2.below).below a0).below a2).below a1
 have b8:=a6.ne d9
 have k2:=((n2.blk.below a0).below a2).below a1
 have f9:=a6.ne k2
 have d8:=bln b7 a1
 have i4:=a6.ge d8
 refine xsv 0 a6.blk [V0 (Xv (inB l no)),.bool (Xr (inB l no)),.slice kp (Zt (inB l no)) kc,.slice vp (Zt (inB l no)) vc] fun k6 e5 i8=>?_
 refine xlv 15 i8.rp ?_
 have c4:=e5.blk (d9.below a6.below) (Ne.symm (Ne.symm b8))
 refine xsv 0 c4 [V0 (Xv (inB l no)),.bool (Xr (inB l no)),.slice kp (Zt (inB l no)) kc,.slice vp (Zt (inB l no)) vc] fun m3 g3 j6=>?_
 have g1:=n1.ge (B1 w)
 have d7:=g3.below (e5.below (bln d8 a6.below) i4) g1
 have g5:=g3.own2 (e5.own2 (Zb (Zg hk e3) a6.below) a6.blk (by decide)) c4 (by decide)
 have d5:=g3.own2 (e5.own2 (Zb (Zg i7 e3) a6.below) a6.blk (by decide)) c4 (by decide)
 exact xec 4 j6 (.tuple #[.agg #[V0 (Xv (inB l no)),.bool (Xr (inB l no)),.slice kp (Zt (inB l no)) kc,.slice vp (Zt (inB l no)) vc],.nilIface]) (.inr ⟨by unfold Xe;rw[e2,if_pos hs,hz],_,_,_,_,rfl,d7,g5,d5⟩)
theorem Fb(B b:Nat)(p:O0)(n c:Nat)(l:Bl)(no tree:Int)(w:World)(hI:ImgR B b p n c l w) :
 C0 280 #[P0 b,V0 no,V0 tree] w (Zb7 l no tree w):=by
 refine zin 14 Tryz.func280 ?_
 refine xa 2 [V0 tree] 3 fun b1 W1 n1=>?_
 refine xa 0 [V0 0,.bool false,S0,S0] 173 fun b2 W2 n2=>?_
 have hB:=bln n1.below n2.below
 have k1:=n1.blk.below n2.below
 refine xc 8 (args:=#[P0 b,V0 no,V0 2,.func (.func 303) #[] #[P0 b1]]) (readNode B b p n c l no tree _ (hI.below hB) b1 k1) ?_
 rintro e W3 a7
 rcases a7 with ⟨he,bf,rfl,a0,hv⟩|⟨he,kp,kc,vp,vc,rfl,a0,hk,a8⟩
 ·have k2:=n2.blk.below a0
  refine xsv 2 k2 [V0 0,.bool false,S0,S0] fun W4 u4 k4=>?_
  have g2:=n2.ge n1.below
  have a2:=u4.below (bln hB a0) g2
  have a3:=hv.upd u4 k2 (by decide)
  exact xec 4 k4 (.tuple #[.agg #[V0 0,.bool false,S0,S0],.iface 185 (P0 bf)]) (.inl ⟨he,_,rfl,a2,a3⟩)
 have a6:=(bln n1.below n2.below).size
 have k2:=n2.blk.below a0
 refine xsv 2 k2 [V0 (Xv (inB l no)),.bool (Xr (inB l no)),.slice kp (Zt (inB l no)) kc,.slice vp (Zt (inB l no)) vc] fun W5 u5 k5=>?_
 have g2:=n2.ge n1.below
 have a4:=u5.below (bln hB a0) g2
 have a5:=u5.own2 (Zg hk a6) k2 (by decide)
 have a1:=u5.own2 (Zg a8 a6) k2 (by decide)
 exact xec 4 k5 (.tuple #[.agg #[V0 (Xv (inB l no)),.bool (Xr (inB l no)),.slice kp (Zt (inB l no)) kc,.slice vp (Zt (inB l no)) vc],.nilIface]) (.inr ⟨he,_,_,_,_,rfl,a4,a5,a1⟩)
abbrev Ent:=Int×Bl×Int
def Zj:Ent:=(0,[],0)
def Vt(x:Ent):List Value:=[V0 x.1,.string ⟨x.2.1.toArray⟩,V0 x.2.2]
theorem Zy(x:Ent):(Vt x).length=3:=rfl
theorem Di(p:O0)(n c:Nat)(w:World) :
 C0 278 #[.slice p n c] w (fun e w'=>∃ b,e=.returned (.func (.func 300) #[] #[P0 b])∧B0 w w'∧w.heap.size≤b∧Blk w' b [.slice p n c] 33):=by
 refine zin 4 Tryz.func278 ?_
 refine xa 2 [.slice p n c] 33 fun b1 W1 n1=>?_
 have g1:=n1.ge (B1 w)
 exact xe 10 (.func (.func 300) #[] #[P0 b1]) ⟨_,rfl,n1.below,g1,n1.blk⟩
end Go.Proofs.YtegcamkgeacjfaaGreatDoor
namespace Go.Proofs.YtegcamkgeacjfaaGreatDoor
set_option maxHeartbeats 8000000
set_option maxRecDepth 100000
open Go.RowKit Go.Extern.Stop Go.Stop Go.Extern
set_option linter.unusedVariables false
attribute [local irreducible] wpList wpAnyH Code.wp Oper.wp Go
attribute [local go_sem] Oper.semAt_some
theorem Upd.of_put(w:World)(D:Nat)(o:Obj):Upd w D (w.putObj D o):=⟨rfl,rfl,rfl,by simp[World.putObj],fun k hk=>World.putObj_heap_other hk⟩
def Dfr (D:Nat)(w:World):Prop:=w.heap[D]? = some (.deferred (some []))
theorem Dfr.below{D:Nat}{w W:World}(h:Dfr D w)(hb:B0 w W):Dfr D W:=(hb.block D (Array.getElem?_eq_some_iff.1 h).1).trans h
theorem Dfr.ne{D b:Nat}{w:World}{cs:List Value}{t:TypeId}(h:Dfr D w)(k:Blk w b cs t):b≠D:=by
 rintro rfl
 have h':w.heap[b]? = _:=h
 rw[show w.heap[b]? = _ from k] at h'
 cases h'
theorem Dfr.upd{D b:Nat}{w W:World}{cs:List Value}{t:TypeId}(h:Dfr D w)(u:Upd w b W)(k:Blk w b cs t):Dfr D W:=(u.block D fun e=>h.ne k e.symm).trans h
theorem Dfr.row{D:Nat}{w:World}{base e size n:Nat}{v:Value}{xs:List Value}(h:Dfr D w)(k:w.ownsRow base e size v n xs):∀ g,v.ownBlock=some g→g≠D:=by
 rintro g hg rfl
 rcases k.2 with ⟨rfl,_⟩|⟨g',a0,a1,rfl,_,hh,_⟩
 ·cases hg
 ·simp only[Value.ownBlock,Option.some.injEq] at hg
  subst hg
  rw[show w.heap[g']? = _ from h] at hh
  cases hh
theorem Dfr.grown{D:Nat}{w W:World}{base e size n:Nat}{v:Value}{xs:List Value}(h:Dfr D w)(hg:w.grownBy W v.ownBlock)(k:w.ownsRow base e size v n xs):Dfr D W :=
 (hg.block D (Array.getElem?_eq_some_iff.1 h).1 fun q=>h.row k D q.symm rfl).trans h
theorem Zg8{P:Program}{fn:Func}{R:Ending→World→Prop}{a:Act}{w:World}{D:Nat}(hK:Dfr D w)(v:Value)(hd:a.defers=[{ target:=.collected D,args:=#[] }])(hr:(results fn a.tmps).run P (w.putObj D (.deferred none))=.ok v (w.putObj D (.deferred none)))(h:R (.returned v) (w.putObj D (.deferred none))):bodyPostM Fence.wide 4 P fn R .normal a w :=
 by
 show LeavesInM _ _ _ _ a.tmps R a.defers .returning w
 rw[hd]
 exact⟨by simp,.inl ⟨_,_,rfl,run_takeDeferred hK,_,hr,h⟩⟩
def noPan(Q:Exit→Act→World→Prop):Exit→Act→World→Prop
 | .normal,a,w=>Q .normal a w
 | .ret,a,w=>Q .ret a w
 | _,_,_=>False
theorem g_nopan{P:Program}{c:Code}{Q:Exit→Act→World→Prop}{a:Act}{w:World}(h:c.wp P (noPan Q) a w):c.wp P Q a w:=wp_mono h fun e a w q=>by cases e<;>first|exact q|exact q.elim
theorem Zg9{w:World}{base size n b:Nat}{e t:TypeId}{v:Value}{xs cs:List Value}(k:w.ownsRow base e size v n xs)(q:Blk w b cs t)(hne:e≠t):∀ g,v.ownBlock=some g→g≠b:=by
 rintro g hg rfl
 rcases k.2 with ⟨rfl,_⟩|⟨g',a0,a1,rfl,_,hh,_⟩
 ·cases hg
 ·simp only[Value.ownBlock,Option.some.injEq] at hg
  subst hg
  rw[show w.heap[g']? = _ from q] at hh
  simp only[Option.some.injEq,Obj.cells.injEq] at hh
  exact hne hh.2.1.symm
theorem Ih{w W:World}(h:B0 w W):KeepsOthers w W:=⟨h.size,fun b o hb _=>(h.block b (Array.getElem?_eq_some_iff.1 hb).1).trans hb⟩
theorem Dfr.only_new{T:List TypeId}{a w W:World}{b:Nat}(h:Ze T a w)(hbb:BelowBut w b W)(hb:a.heap.size≤b):Ze T a W:=fun k cs t fr hk ht=>by
 have h0:=(Array.getElem?_eq_some_iff.1 hk).1
 have h1:=h k cs t fr hk ht
 rw[hbb.block k (Array.getElem?_eq_some_iff.1 h1).1 (by omega)];exact h1
theorem BelowBut.own3{w W:World}{b base size n:Nat}{e:TypeId}{v:Value}{xs:List Value}(h:BelowBut w b W)(k:w.ownsRow base e size v n xs)(hs:∀ j,v.ownBlock=some j→j≠b):W.ownsRow base e size v n xs:=by
 obtain⟨h1,h2⟩:=k
 refine⟨h1,?_⟩
 rcases h2 with h2|⟨g,a0,a1,rfl,hg,hh,r⟩
 ·exact Or.inl h2
 ·exact Or.inr ⟨g,a0,a1,rfl,hg,by rw[h.block g (Array.getElem?_eq_some_iff.1 hh).1 (hs g rfl)];exact hh,r⟩
theorem Zam{β:Type}{w:World}{b B:Nat}(hB:w.heap.size≤B):OwnFrom B (fun(_:β) W=>BelowBut w b W):=fun _ W W' a1 hs hg hr =>
 ⟨hg.os.trans hs.os,hg.tape.trans hs.tape,hg.output.trans hs.output,Nat.le_trans hs.size hg.size,fun k hk a0=>(hg.block k (Nat.lt_of_lt_of_le hk hs.size) (fun e=>by have:=(hr k e.symm).1;omega)).trans (hs.block k hk a0)⟩
theorem Kl.turn{A B:World}{row:Option Nat}{l:List (Option Int)}{c:Option Int}{v:Value}(h:Kl A l c v)(hg:A.grownBy B row)(hr:∀ r,row=some r→∃ o:Obj,A.heap[r]? = some o∧o.isCells=false):Kl B l c v:=h.kept fun _ _ k=>k.turn hg hr
def atW (way:List Int)(pre:List (Fin way.length))(bs:List Int):List Int:=(pre.map fun j=>way[qOf j]?.getD 0).reverse++bs
theorem atW_snoc(way:List Int)(pre:List (Fin way.length))(x:Fin way.length)(bs:List Int):atW way (pre++[x]) bs=(way[qOf x]?.getD 0)::atW way pre bs:=by simp[atW]
theorem atW_all(way bs:List Int):atW way (List.finRange way.length) bs=way++bs:=by
 unfold atW
 congr 1
 apply List.ext_getElem
 ·simp
 ·intro i h1 h2
  simp only[List.length_reverse,List.length_map,List.length_finRange] at h1
  rw[List.getElem_reverse,List.getElem_map]
  simp only[List.length_map,List.length_finRange,List.getElem_finRange,qOf]
  have e:way.length-1-(way.length-1-i)=i:=by omega
  simp[e,h2]
theorem Kl.one{w:World}{l:List (Option Int)}{c:Option Int}{v:Value}(h:Kl w l c v):v.oneCell'=true:=by
 rcases h.nil_or with ⟨_,rfl⟩|⟨_,t,x,rfl⟩<;>rfl
theorem Kl.iface{w:World}{l:List (Option Int)}{c:Int}{v:Value}(h:Kl w l (some c) v):∃ t x,v=.iface t x:=by
 rcases h.nil_or with ⟨q,_⟩|⟨_,q⟩
 ·simp[Nl] at q
 ·exact q
theorem Vb{b c:Int}{l:List (Option Int)}:atL b l (some c)=some b::l:=by simp[atL,Nl]
theorem Za3{v:Value}(h:v.oneCell'=true):∀ u∈[v],u.oneCell'=true:=by simpa using h
def NoteP(B bw:Nat)(c0 c1 c2 c3 c5 c6 c7 c8 c9:Value)(nf:Nat)(fs:List Value)(l:List Int)(ec:Int)(w:World)(e:Ending)(w':World):Prop :=
 ∃ u p c ty x,e=.returned u∧Below B w w'∧Ze [315,29] w w'∧Blk w' bw [c0,c1,c2,c3,.slice p (nf+1) c,c5,c6,c7,c8,c9] 315∧w'.ownsRow B 29 1 (.slice p (nf+1) c) (nf+1) (fs++[.iface ty x])∧Kl w' (l.map some) (some ec) (.iface ty x)
theorem Wx(B bw:Nat)(c0 c1 c2 c3 c5 c6 c7 c9:Value)(pf:O0)(nf cf:Nat)(fs:List Value)(pw:O0)(cw:Nat)(way bs:List Int)(ec:Int)(ty:TypeId)(ev:Value)(w:World)(hBb:B≤bw)(hBw:B≤w.heap.size)(kW:Blk w bw [c0,c1,c2,c3,.slice pf nf cf,c5,c6,c7,.slice pw way.length cw,c9] 315)(hF:w.ownsRow B 29 1 (.slice pf nf cf) nf fs)(hway:w.ownsRow B 3 1 (.slice pw way.length cw) way.length (way.map V0))(hE:Kl w (bs.map some) (some ec) (.iface ty ev))(hwl:way.length≤1000000)(hnf:nf≤1000000) :
 C0 254 #[P0 bw,.iface ty ev] w (NoteP B bw c0 c1 c2 c3 c5 c6 c7 (.slice pw way.length cw) c9 nf fs (way++bs) ec w):=by
 refine Wm Tryz.func254 rfl ?_
 refine g_fr ⟨#[P0 bw,.iface ty ev,undef,undef,undef,undef,undef,undef,undef,undef,undef,undef,undef,undef,undef,undef,undef,undef,undef,undef,undef,undef,undef,undef,undef,undef,undef,undef],[]⟩ (by kernel_rfl) ?_
 refine wp_seq ?_
 refine wp_region_lit ?_
 refine Lk (by kernel_rfl) (Zf1 [.iface ty ev] rfl (by kernel_rfl) ?_)
 intro b1 W1 n1
 have d1_bw:=n1.ne kW
 have g1:=n1.ge0 (Below.refl B _)
 have r1_hF:=Zx hF n1
 have hO:Ze [315,29] w _:=(Ze.of_below n1.below)
 have hB:=blB (Below.refl B w) hBw n1.below
 replace kW:=kW.below n1.below
 replace hF:=Zb hF n1.below
 replace hway:=Zb hway n1.below
 replace hE:=hE.below n1.below
 have k1:=n1.blk
 refine wpList_nil ?_
 refine wp_seq ?_
 refine wp_seq ?_
 refine wp_region_lit ?_
 refine g_pv 3 [(6,P0 bw),(7,P0 bw),(8,.pointer (some ⟨bw,8,none⟩))] (by kernel_rfl) ?_
 refine Lk (by kernel_rfl) (Pa ⟨bw,8,none⟩ (.slice pw way.length cw) rfl (by kernel_rfl) (by kernel_rfl) (kW.cell (i:=8) rfl) ?_)
 have lt2_bw:=kW.lt
 have lt2_b1:=k1.lt
 have hs2:w.heap.size≤(W1).heap.size:=hB.size
 refine Lk (by kernel_rfl) (Ht (lb:=#[]) 278 #[.slice pw way.length cw] rfl (by kernel_rfl) (fun _ _=>by kernel_rfl) (by kernel_rfl) ((Di pw way.length cw _).mono ?_))
 rintro e W2 ⟨bk2,rfl,hb2,hg2,kk2⟩
 refine⟨_,rfl,?_⟩
 replace hO:=hO.trans (Ze.of_below hb2)
 replace hB:=blB hB hBw hb2
 replace kW:=kW.below hb2
 replace k1:=k1.below hb2
 replace hF:=Zb hF hb2
 replace hway:=Zb hway hb2
 replace hE:=hE.below hb2
 have gb2:w.heap.size≤bk2:=Nat.le_trans hs2 hg2
 have nb2_bw:bk2≠bw:=by omega
 have nb2_b1:bk2≠b1:=by omega
 refine wpList_nil ?_
 refine wp_block ?_
 have hzk:=kk2.lt
 have hz3:=k1.lt
 have hst:=Zc6 bk2 (fun b=>b<W2.heap.size∧b≠b1) (.slice pw way.length cw) way W2 (fun b h=>h.1) ⟨hzk,nb2_b1⟩ (by omega) (Zh hway) (fun _ b off n cap q=>by cases q;exact⟨(hway.lt b rfl).2,Zg9 hway k1 (by decide) b rfl⟩) (kk2.cell (i:=0) rfl)
 refine g_fr ⟨#[P0 bw,.iface ty ev,undef,P0 b1,undef,undef,P0 bw,P0 bw,.pointer (some ⟨bw,8,none⟩),.slice pw way.length cw,.func (.func 300) #[] #[P0 bk2],undef,undef,undef,undef,undef,undef,undef,undef,undef,undef,undef,undef,undef,undef,undef,undef,undef],[]⟩ (by kernel_rfl) ?_
 refine Zb0 (g:=.tmp 10) (gf:=300) (lb:=#[P0 bk2]) rfl (enters_of Tryz.func300 (by kernel_rfl) rfl) _ (fun b h=>h.1) hst (fun _=>rfl)
  (fun pre W=>(∃ v',Blk W b1 [v'] 29∧Kl W ((atW way pre bs).map some) (some ec) v')∧BelowBut W2 b1 W)
  (fun _ _ _=>False) ?own (fun _ _ _ _ _ h _ _=>h) ⟨⟨_,k1,hE⟩,(Below.refl _ _).but _⟩
  (fun x a' _=>a'={ tmps:=#[P0 bw,.iface ty ev,undef,P0 b1,undef,V0 (way[qOf x]?.getD 0),P0 bw,P0 bw,.pointer (some ⟨bw,8,none⟩),.slice pw way.length cw,.func (.func 300) #[] #[P0 bk2],V0 (qOf x:Int),V0 (way[qOf x]?.getD 0),undef,undef,undef,undef,undef,undef,undef,undef,undef,undef,undef,undef,undef,undef,undef],defers:=[] }) (fun _ _ _ _ _ _ h _ _=>h) ?assign ?body ?done (fun _ _ _ _ _ _ h _=>h.elim)
 case own=>exact OwnFrom.and (Own.from (fun s A B row hs hg hr=>by obtain⟨v',h1,h2⟩:=hs;exact⟨v',h1.turn hg hr,h2.turn hg hr⟩) _) (Zam (Nat.le_refl _))
 case assign =>
  rintro lr pre x W K hI hK
  unfold encB
  gi_wp2
  exact hK _ _ (KeepsFrom.refl _ _) (Keeps.refl _ _) hI rfl
 case body =>
  rintro lr pre x a' W hlr ⟨⟨v',m3,hv'⟩,hbb⟩ rfl hlt
  have mc:=m3.cell (i:=0) rfl
  gi_wp2_with (refine⟨trivial,?_⟩;gi_at_call 127;refine(CallsIn.inRound lr (callsIn_wide.2 (Qs _ _ _ _ _ hv'))).mono ?_;rintro e w2 ⟨r2,rfl,hb2,hE2⟩;obtain⟨t2,x2,rfl⟩:=hE2.iface;have m4:=m3.below hb2;have mg:=m4.frozen 0;have md:=m4.cell (i:=0) rfl)
  have hb2s:=hb2.size
  have u2:=Upd.setCell w2 b1 0 (.iface t2 x2)
  exact⟨((Ih hb2).trans (KeepsOthers.setCell _ _ _)).from _,Keeps.setCell (Keeps.of_below hb2 (fun b hb=>by have:=hbb.size;have:=hb.1;omega)) (fun hb=>hb.2 rfl) _,⟨_,m4.set 0 _,by rw[atW_snoc,List.map_cons,←Vb (c:=ec)];exact(hE2.upd u2 m4 (by decide))⟩,(hbb.next hb2).upd u2⟩
 case done =>
 rintro D xs W hD rfl ⟨⟨v',m3,hv'⟩,hbb⟩ hK0
 rw[atW_all] at hv'
 have hK:Dfr D W:=hK0;clear hK0
 refine g_nopan ?_
 refine g_fr ⟨#[P0 bw,.iface ty ev,undef,P0 b1,undef,undef,P0 bw,P0 bw,.pointer (some ⟨bw,8,none⟩),.slice pw way.length cw,.func (.func 300) #[] #[P0 bk2],undef,undef,undef,undef,undef,undef,undef,undef,undef,undef,undef,undef,undef,undef,undef,undef,undef],[{ target:=.collected D,args:=#[] }]⟩ (by kernel_rfl) ?_
 have hv1:=hv'.one
 obtain⟨ty',x',rfl⟩:=hv'.iface
 have hDB:w.heap.size≤D:=Nat.le_trans (Nat.le_trans (by have:=hz3;have:=g1;omega) (Nat.le_refl _)) hD
 replace kW:=hbb.blk kW (Ne.symm (Ne.symm d1_bw))
 replace kk2:=hbb.blk kk2 nb2_b1
 replace hF:=hbb.own3 hF r1_hF
 replace hway:=hbb.own2 hway k1 (by decide)
 have hB0:=hB
 replace hB:=hbb.below hB (Nat.le_trans hBw g1) (Nat.le_trans hBw hB0.size)
 replace hO:=Dfr.only_new hO hbb g1
 replace k1:=m3
 replace hO:=hO.trans (Ze.of_below (Za W))
 replace hB:=blB hB hBw (Za W)
 replace kW:=kW.below (Za W)
 replace k1:=k1.below (Za W)
 replace kk2:=kk2.below (Za W)
 replace hF:=Zb hF (Za W)
 replace hway:=Zb hway (Za W)
 replace hv':=hv'.below (Za W)
 replace hK:=hK.below (Za W)
 refine h_reg (Below B (W.drew)) 13 rfl #[false,false,false,false,false,false,false,false,false,false,false,false,false] rfl (by kernel_rfl) (Below.refl _ _) ?_
 intro hS3
 have hBd5:=hB
 have kd5_bw:=kW
 have kd5_b1:=k1
 have kd5_bk2:=kk2
 have hOd5:=hO
 refine h_pv [0,1,2,3,4] 8 rfl #[true,true,true,true,true,false,false,false,false,false,false,false,false] [(16,P0 bw),(17,P0 bw),(18,P0 bw),(19,P0 bw),(20,.pointer (some ⟨bw,4,none⟩))] (by kernel_rfl) (fun _ _ _ _ _ h=>h) (by kernel_rfl) hS3 ?_
 refine h_two 5 6 7 rfl (by kernel_rfl) rfl rfl (by kernel_rfl) (by kernel_rfl) ?_ ?_
 ·refine Pa ⟨bw,4,none⟩ (.slice pf nf cf) rfl (by kernel_rfl) (by kernel_rfl) (kW.cell (i:=4) rfl) ?_
  have hS6:Below B (W.drew) (W.drew):=hS3
  refine⟨hS6,?_⟩
  refine Ln 6 6 rfl (by kernel_rfl) rfl (by kernel_rfl) (Pa ⟨b1,0,none⟩ (.iface ty' x') rfl (by kernel_rfl) (by kernel_rfl) (k1.cell (i:=0) rfl) ?_)
  have hS7:Below B (W.drew) (W.drew):=hS6
  refine⟨hS7,?_⟩
  refine Ln 7 5 rfl (by kernel_rfl) rfl (by kernel_rfl) (Vp 29 [.iface ty' x'] rfl (by kernel_rfl) ?_)
  intro b8 W8 n8
  have d8_bw:=n8.ne kW
  have d8_b1:=n8.ne k1
  have d8_bk2:=n8.ne kk2
  have g8:=n8.ge0 hB
  have r8_hF:=Zx hF n8
  replace hO:=hO.trans (Ze.of_below n8.below)
  replace hB:=blB hB hBw n8.below
  replace kW:=kW.below n8.below
  replace k1:=k1.below n8.below
  replace kk2:=kk2.below n8.below
  replace hF:=Zb hF n8.below
  replace hway:=Zb hway n8.below
  replace hv':=hv'.below n8.below
  replace hK:=hK.below n8.below
  have k8:=n8.blk
  have hS9:Below B (W.drew) (W8):=blB hS7 (Nat.le_trans hBw hBd5.size) n8.below
  refine⟨hS9,?_⟩
  refine Ln 8 4 rfl (by kernel_rfl) rfl (by kernel_rfl) (Zw (e:=29) (n:=nf) (xs:=fs) (m:=1) (news:=[.iface ty' x']) (.nilIface) 1 16 (nf+1) (fs++[.iface ty' x']) rfl Tryz.underlying128 (by kernel_rfl) rfl (by decide) (by kernel_rfl) hF (by kernel_rfl) (k8.sl 1 1 (by decide) (by decide)) rfl (Za3 hv1) (by unfold maxLen;omega) (by omega) (Nat.le_trans hBw hB.size) (by simp) (by simp) ?_)
  intro p10 c10 W10 o10 hg10 hb10
  replace hO:=hO.trans (Ze.of_grown hg10 hF (by decide))
  replace kW:=kW.grown hg10 hF (by decide)
  replace k1:=k1.grown3 hg10 r1_hF
  replace kk2:=kk2.grown hg10 hF (by decide)
  replace hway:=Zf hway hg10 hF (by decide)
  replace hv':=hv'.grown hg10 hF (by decide)
  replace hK:=hK.grown hg10 hF
  replace hB:=hB.trans hb10
  have hS11:Below B (W.drew) (W10):=hS9.trans hb10
  refine⟨hS11,?_⟩
  refine h_pv [9,10,11] 1 rfl #[true,true,true,true,true,true,true,true,true,true,true,true,false] [(25,P0 bw),(26,P0 bw),(27,.pointer (some ⟨bw,4,none⟩))] (by kernel_rfl) (fun _ _ _ _ _ h=>h) (by kernel_rfl) hS11 ?_
  refine Ln 12 0 rfl (by kernel_rfl) rfl (by kernel_rfl) (Ly (v:=.slice p10 (nf+1) c10) (b:=bw) (off:=4) rfl (by kernel_rfl) (by kernel_rfl) (by kernel_rfl) rfl kW (by first|decide|simp) ?_)
  intro W12 u12 k12
  change Blk _ _ [c0,c1,c2,c3,.slice p10 (nf+1) c10,c5,c6,c7,.slice pw way.length cw,c9] _ at k12
  replace hO:=hO.trans (Ze.of_upd u12 kW (by decide))
  replace hB:=u12.below hB hBb
  replace k1:=u12.blk k1 (Ne.symm d1_bw)
  replace kk2:=u12.blk kk2 nb2_bw
  replace hway:=u12.own2 hway kW (by decide)
  replace hv':=hv'.upd u12 kW (by decide)
  replace hK:=hK.upd u12 kW
  replace o10:=u12.own2 o10 kW (by decide)
  have hS13:Below B (W.drew) (W12):=u12.below hS11 hBb
  refine⟨hS13,?_⟩
  refine Az _ (by kernel_rfl) ?_
  exact Zg8 hK (.tuple #[]) (by kernel_rfl) (by kernel_rfl) ⟨_,_,_,_,_,rfl,(Upd.of_put _ _ _).below hB (Nat.le_trans hBw hDB),Ze.upd_new hO (Upd.of_put _ _ _) hDB,(Upd.of_put _ _ _).blk k12 (hK.ne k12),(Upd.of_put _ _ _).own3 o10 (hK.row o10),hv'.kept fun _ _ q=>(Upd.of_put _ _ _).blk q (hK.ne q)⟩
 ·refine Pa ⟨b1,0,none⟩ (.iface ty' x') rfl (by kernel_rfl) (by kernel_rfl) (k1.cell (i:=0) rfl) ?_
  have hS14:Below B (W.drew) (W.drew):=hS3
  refine⟨hS14,?_⟩
  refine h_two 5 7 6 rfl (by kernel_rfl) rfl rfl (by kernel_rfl) (by kernel_rfl) ?_ ?_
  ·refine Pa ⟨bw,4,none⟩ (.slice pf nf cf) rfl (by kernel_rfl) (by kernel_rfl) (kW.cell (i:=4) rfl) ?_
   have hS15:Below B (W.drew) (W.drew):=hS14
   refine⟨hS15,?_⟩
   refine Ln 7 5 rfl (by kernel_rfl) rfl (by kernel_rfl) (Vp 29 [.iface ty' x'] rfl (by kernel_rfl) ?_)
   intro b16 W16 n16
   have d16_bw:=n16.ne kW
   have d16_b1:=n16.ne k1
   have d16_bk2:=n16.ne kk2
   have g16:=n16.ge0 hB
   have r16_hF:=Zx hF n16
   replace hO:=hO.trans (Ze.of_below n16.below)
   replace hB:=blB hB hBw n16.below
   replace kW:=kW.below n16.below
   replace k1:=k1.below n16.below
   replace kk2:=kk2.below n16.below
   replace hF:=Zb hF n16.below
   replace hway:=Zb hway n16.below
   replace hv':=hv'.below n16.below
   replace hK:=hK.below n16.below
   have k16:=n16.blk
   have hS17:Below B (W.drew) (W16):=blB hS15 (Nat.le_trans hBw hBd5.size) n16.below
   refine⟨hS17,?_⟩
   refine Ln 8 4 rfl (by kernel_rfl) rfl (by kernel_rfl) (Zw (e:=29) (n:=nf) (xs:=fs) (m:=1) (news:=[.iface ty' x']) (.nilIface) 1 16 (nf+1) (fs++[.iface ty' x']) rfl Tryz.underlying128 (by kernel_rfl) rfl (by decide) (by kernel_rfl) hF (by kernel_rfl) (k16.sl 1 1 (by decide) (by decide)) rfl (Za3 hv1) (by unfold maxLen;omega) (by omega) (Nat.le_trans hBw hB.size) (by simp) (by simp) ?_)
   intro p18 c18 W18 o18 hg18 hb18
   replace hO:=hO.trans (Ze.of_grown hg18 hF (by decide))
   replace kW:=kW.grown hg18 hF (by decide)
   replace k1:=k1.grown3 hg18 r1_hF
   replace kk2:=kk2.grown hg18 hF (by decide)
   replace hway:=Zf hway hg18 hF (by decide)
   replace hv':=hv'.grown hg18 hF (by decide)
   replace hK:=hK.grown hg18 hF
   replace hB:=hB.trans hb18
   have hS19:Below B (W.drew) (W18):=hS17.trans hb18
   refine⟨hS19,?_⟩
   refine h_pv [9,10,11] 1 rfl #[true,true,true,true,true,true,true,true,true,true,true,true,false] [(25,P0 bw),(26,P0 bw),(27,.pointer (some ⟨bw,4,none⟩))] (by kernel_rfl) (fun _ _ _ _ _ h=>h) (by kernel_rfl) hS19 ?_
   refine Ln 12 0 rfl (by kernel_rfl) rfl (by kernel_rfl) (Ly (v:=.slice p18 (nf+1) c18) (b:=bw) (off:=4) rfl (by kernel_rfl) (by kernel_rfl) (by kernel_rfl) rfl kW (by first|decide|simp) ?_)
   intro W20 u20 k20
   change Blk _ _ [c0,c1,c2,c3,.slice p18 (nf+1) c18,c5,c6,c7,.slice pw way.length cw,c9] _ at k20
   replace hO:=hO.trans (Ze.of_upd u20 kW (by decide))
   replace hB:=u20.below hB hBb
   replace k1:=u20.blk k1 (Ne.symm d1_bw)
   replace kk2:=u20.blk kk2 nb2_bw
   replace hway:=u20.own2 hway kW (by decide)
   replace hv':=hv'.upd u20 kW (by decide)
   replace hK:=hK.upd u20 kW
   replace o18:=u20.own2 o18 kW (by decide)
   have hS21:Below B (W.drew) (W20):=u20.below hS19 hBb
   refine⟨hS21,?_⟩
   refine Az _ (by kernel_rfl) ?_
   exact Zg8 hK (.tuple #[]) (by kernel_rfl) (by kernel_rfl) ⟨_,_,_,_,_,rfl,(Upd.of_put _ _ _).below hB (Nat.le_trans hBw hDB),Ze.upd_new hO (Upd.of_put _ _ _) hDB,(Upd.of_put _ _ _).blk k20 (hK.ne k20),(Upd.of_put _ _ _).own3 o18 (hK.row o18),hv'.kept fun _ _ q=>(Upd.of_put _ _ _).blk q (hK.ne q)⟩
  ·refine Vp 29 [.iface ty' x'] rfl (by kernel_rfl) ?_
   intro b22 W22 n22
   have d22_bw:=n22.ne kW
   have d22_b1:=n22.ne k1
   have d22_bk2:=n22.ne kk2
   have g22:=n22.ge0 hB
   have r22_hF:=Zx hF n22
   replace hO:=hO.trans (Ze.of_below n22.below)
   replace hB:=blB hB hBw n22.below
   replace kW:=kW.below n22.below
   replace k1:=k1.below n22.below
   replace kk2:=kk2.below n22.below
   replace hF:=Zb hF n22.below
   replace hway:=Zb hway n22.below
   replace hv':=hv'.below n22.below
   replace hK:=hK.below n22.below
   have k22:=n22.blk
   have hS23:Below B (W.drew) (W22):=blB hS14 (Nat.le_trans hBw hBd5.size) n22.below
   refine⟨hS23,?_⟩
   refine Ln 5 5 rfl (by kernel_rfl) rfl (by kernel_rfl) (Pa ⟨bw,4,none⟩ (.slice pf nf cf) rfl (by kernel_rfl) (by kernel_rfl) (kW.cell (i:=4) rfl) ?_)
   have hS24:Below B (W.drew) (W22):=hS23
   refine⟨hS24,?_⟩
   refine Ln 8 4 rfl (by kernel_rfl) rfl (by kernel_rfl) (Zw (e:=29) (n:=nf) (xs:=fs) (m:=1) (news:=[.iface ty' x']) (.nilIface) 1 16 (nf+1) (fs++[.iface ty' x']) rfl Tryz.underlying128 (by kernel_rfl) rfl (by decide) (by kernel_rfl) hF (by kernel_rfl) (k22.sl 1 1 (by decide) (by decide)) rfl (Za3 hv1) (by unfold maxLen;omega) (by omega) (Nat.le_trans hBw hB.size) (by simp) (by simp) ?_)
   intro p25 c25 W25 o25 hg25 hb25
   replace hO:=hO.trans (Ze.of_grown hg25 hF (by decide))
   replace kW:=kW.grown hg25 hF (by decide)
   replace k1:=k1.grown3 hg25 r1_hF
   replace kk2:=kk2.grown hg25 hF (by decide)
   replace hway:=Zf hway hg25 hF (by decide)
   replace hv':=hv'.grown hg25 hF (by decide)
   replace hK:=hK.grown hg25 hF
   replace hB:=hB.trans hb25
   have hS26:Below B (W.drew) (W25):=hS24.trans hb25
   refine⟨hS26,?_⟩
   refine h_pv [9,10,11] 1 rfl #[true,true,true,true,true,true,true,true,true,true,true,true,false] [(25,P0 bw),(26,P0 bw),(27,.pointer (some ⟨bw,4,none⟩))] (by kernel_rfl) (fun _ _ _ _ _ h=>h) (by kernel_rfl) hS26 ?_
   refine Ln 12 0 rfl (by kernel_rfl) rfl (by kernel_rfl) (Ly (v:=.slice p25 (nf+1) c25) (b:=bw) (off:=4) rfl (by kernel_rfl) (by kernel_rfl) (by kernel_rfl) rfl kW (by first|decide|simp) ?_)
   intro W27 u27 k27
   change Blk _ _ [c0,c1,c2,c3,.slice p25 (nf+1) c25,c5,c6,c7,.slice pw way.length cw,c9] _ at k27
   replace hO:=hO.trans (Ze.of_upd u27 kW (by decide))
   replace hB:=u27.below hB hBb
   replace k1:=u27.blk k1 (Ne.symm d1_bw)
   replace kk2:=u27.blk kk2 nb2_bw
   replace hway:=u27.own2 hway kW (by decide)
   replace hv':=hv'.upd u27 kW (by decide)
   replace hK:=hK.upd u27 kW
   replace o25:=u27.own2 o25 kW (by decide)
   have hS28:Below B (W.drew) (W27):=u27.below hS26 hBb
   refine⟨hS28,?_⟩
   refine Az _ (by kernel_rfl) ?_
   exact Zg8 hK (.tuple #[]) (by kernel_rfl) (by kernel_rfl) ⟨_,_,_,_,_,rfl,(Upd.of_put _ _ _).below hB (Nat.le_trans hBw hDB),Ze.upd_new hO (Upd.of_put _ _ _) hDB,(Upd.of_put _ _ _).blk k27 (hK.ne k27),(Upd.of_put _ _ _).own3 o25 (hK.row o25),hv'.kept fun _ _ q=>(Upd.of_put _ _ _).blk q (hK.ne q)⟩
end Go.Proofs.YtegcamkgeacjfaaGreatDoor
namespace Go.Proofs.YtegcamkgeacjfaaGreatDoor
set_option maxHeartbeats 8000000
set_option maxRecDepth 100000
open Go.RowKit Go.Extern.Stop Go.Stop Go.Extern
set_option linter.unusedVariables false
attribute [local irreducible] wpList wpAnyH Code.wp Oper.wp Go
def Qt(l:List Int)(x:Int):Bool:=l.any fun y=>decide (x=y)
theorem Ai{l:List Int}{x:Int}{i:Nat}(hi:i<l.length)(h:x=l.getD i 0):Qt l x=true:=by
 unfold Qt
 rw[List.any_eq_true]
 exact⟨l[i],List.getElem_mem _,by rw[decide_eq_true_iff,h];simp[hi]⟩
theorem Fp{l:List Int}{x:Int}(h:∀ j,j<l.length→x≠l.getD j 0):Qt l x=false:=by
 unfold Qt
 rw[List.any_eq_false]
 intro y hy
 obtain⟨j,hj,rfl⟩:=List.getElem_of_mem hy
 have:=h j hj
 simpa [hj] using this
theorem indexI(a:O0)(c:Nat)(l:List Int)(x:Int)(w:World)(h:Ints w (.slice a l.length c) l)(hln:l.length≤1000000) :
 C0 301 #[.slice a l.length c,V0 x] w (fun e w'=>(Qt l x=false∧e=.returned (V0 (-1))∧B0 w w')∨(Qt l x=true∧∃ i:Nat,e=.returned (V0 (i:Int))∧B0 w w')):=by
 refine zin 19 Tryz.func301 ?_
 have hB:=Below.refl w.heap.size w
 refine zl 14 19 (fun zm a1 V=>∃ (i:Nat),a1=[(0,.slice a l.length c),(1,V0 x),(7,V0 (l.length:Int)),(8,V0 (i:Int))]∧zm=l.length-((i:Int)).toNat∧B0 w V∧i≤l.length∧(∀ j,j<i→x≠l.getD j 0)) ⟨0,rfl,rfl,hB,Nat.zero_le _,?_⟩ ?_
 ·exact fun j hj=>absurd hj (by omega)
 rintro _ _ W1 ⟨i,rfl,rfl,a0,hi,hz⟩ J1 a4 r1
 refine xid 6 ((i:Int)<(l.length:Int)) (fun a3=>?_) (fun a3=>?_)
 ·refine xx 15 _ l.length i 1 (Ints.elem h (k:=i) (by omega)).1 ?_
  refine xl 0 ((Ints.elem (h.below a0) (k:=i) (by omega)).2) ?_
  refine xie 3 x (l.getD i 0) (fun a2=>?_) (fun a2=>?_)
  ·exact xe 12 (V0 (i:Int)) (.inr ⟨Ai (i:=i) (by omega) (by omega),_,rfl,a0⟩)
  refine xwm 4 ((i:Int)+1) (↑(i+1):Int) ?_
  exact ze 2 (a4 _ _ _ ⟨i+1,rfl,rfl,a0,by omega,fun j hj=>(Nat.lt_or_ge j i).elim (hz j) (fun q=>by obtain rfl:j=i:=(by omega);omega)⟩ (by omega))
 exact xe 11 (V0 (-1)) (.inl ⟨Fp (fun j hj=>hz j (by omega)),rfl,a0⟩)
theorem Zgo(a:O0)(c:Nat)(l:List Int)(x:Int)(w:World)(h:Ints w (.slice a l.length c) l)(hln:l.length≤1000000) :
 C0 279 #[.slice a l.length c,V0 x] w (Ret (.bool (Qt l x)) w):=by
 refine zin 9 Tryz.func279 ?_
 refine xc 9 (args:=#[.slice a l.length c,V0 x]) (indexI a c l x _ (h.below (B1 w)) hln) ?_
 rintro e W1 a1
 rcases a1 with ⟨hz,rfl,a0⟩|⟨hz,i0,rfl,a0⟩
 ·refine xe 5 (.bool false) ?_
  rw[hz];exact⟨rfl,a0⟩
 refine xe 5 (.bool (decide ((i0:Int)≥(0:Int)))) ?_
 rw[hz,show decide ((i0:Int)≥(0:Int))=true from decide_eq_true (by omega)];exact⟨rfl,a0⟩
end Go.Proofs.YtegcamkgeacjfaaGreatDoor
namespace Go.Proofs.YtegcamkgeacjfaaGreatDoor
set_option maxHeartbeats 8000000
set_option maxRecDepth 100000
open Go.RowKit
set_option linter.unusedVariables false
attribute [local go_sem] Oper.semAt_some
def Qq(hi:Int)(l:List Int):List (Int×Int):=(List.range l.length).map (Xg hi l)
def Pp(lo hi:Int)(l:List Int)(i:Int):(Int×Int)×Int :=
 if Yw lo hi l=0 then if 0≤i∧i<l.length then(Xg hi l i.toNat,0) else((0,0),3) else((0,0),Yw lo hi l)
theorem child_bad{lo hi i:Int}{l:List Int}(h:Yw lo hi l≠0):Pp lo hi l i=((0,0),Yw lo hi l):=by simp[Pp,h]
theorem Zgb{lo hi i:Int}{l:List Int}(h:Yw lo hi l=0)(hi':¬ (0≤i∧i<l.length)):Pp lo hi l i=((0,0),3):=by simp only[Pp,h,if_true];rw[if_neg hi']
theorem Bm{lo hi:Int}{l:List Int}{i:Nat}(h:Yw lo hi l=0)(hi':i<l.length):Pp lo hi l i=(Xg hi l i,0):=by
 simp only[Pp,h,if_true];rw[if_pos ⟨by omega,by omega⟩];simp
def Jf(hi:Int)(l:List Int)(cs:List Value)(x:Fin l.length):List Value :=
 (cs.set (qOf x*2) (V0 (Xg hi l (qOf x)).1)).set (qOf x*2+1) (V0 (Xg hi l (qOf x)).2)
def outC(hi:Int)(l:List Int)(pre:List (Fin l.length)):List Value:=pre.foldl (Jf hi l) (Hf [V0 0,V0 0] l.length)
theorem Zgq(hi:Int)(l:List Int)(pre:List (Fin l.length))(x:Fin l.length):outC hi l (pre++[x])=Jf hi l (outC hi l pre) x:=by simp[outC]
theorem Wp(hi:Int)(l:List Int):∀ (pre:List (Fin l.length)) (cs:List Value),(pre.foldl (Jf hi l) cs).length=cs.length
 | [],_=>rfl
 | x::pre,cs=>by rw[List.foldl_cons,Wp hi l pre];simp[Jf]
theorem Bt(hi:Int)(l:List Int)(pre:List (Fin l.length)):(outC hi l pre).length=l.length*2:=by
 rw[outC,Wp,Lh];rfl
theorem Cw(hi:Int)(l:List Int)(q:Nat)(hq:q<l.length):∀ (pre:List (Fin l.length)) (cs:List Value),cs.length=l.length*2 →
  ((∃ x∈pre,qOf x=q)∨(cs[q*2]? = some (V0 (Xg hi l q).1)∧cs[q*2+1]? = some (V0 (Xg hi l q).2))) →
  (pre.foldl (Jf hi l) cs)[q*2]? = some (V0 (Xg hi l q).1)∧(pre.foldl (Jf hi l) cs)[q*2+1]? = some (V0 (Xg hi l q).2)
 | [],cs,hl,h=>by
  rcases h with ⟨x,hx,_⟩|h
  ·cases hx
  ·exact h
 | x::pre,cs,hl,h=>by
  rw[List.foldl_cons]
  refine Cw hi l q hq pre _ (by simp[Jf,hl]) ?_
  by_cases hx:qOf x=q
  ·subst hx
   refine .inr ⟨?_,?_⟩
   ·simp only[Jf];rw[List.getElem?_set_ne (by omega),List.getElem?_set_self (by omega)]
   ·simp only[Jf];rw[List.getElem?_set_self (by simp;omega)]
  ·rcases h with ⟨y,hy,a0⟩|h
   ·rcases List.mem_cons.1 hy with rfl|hy
    ·exact absurd a0 hx
    ·exact .inl ⟨y,hy,a0⟩
   ·refine .inr ⟨?_,?_⟩
    ·simp only[Jf];rw[List.getElem?_set_ne (by omega),List.getElem?_set_ne (by omega)];exact h.1
    ·simp only[Jf];rw[List.getElem?_set_ne (by omega),List.getElem?_set_ne (by omega)];exact h.2
theorem outC_all(hi:Int)(l:List Int):outC hi l (List.finRange l.length)=Ul (Qq hi l):=by
 have hs:(Qq hi l).length=l.length:=by simp[Qq]
 have hg:∀ q,q<l.length→(Qq hi l)[q]? = some (Xg hi l q):=fun q hq=>by simp[Qq,hq]
 apply List.ext_getElem?
 intro j
 by_cases hj:j<l.length*2
 ·have hq:j/2<l.length:=by omega
  have h:=Cw hi l (j/2) hq (List.finRange l.length) (Hf [V0 0,V0 0] l.length) (by rw[Lh];rfl)
   (.inl ⟨⟨l.length-1-j/2,by omega⟩,by simp,by simp only[qOf];omega⟩)
  by_cases h2:j%2=0
  ·have e:j=j/2*2:=by omega
   rw[e,Nf,hg _ hq];exact h.1
  ·have e:j=j/2*2+1:=by omega
   rw[e,Af,hg _ hq];exact h.2
 ·rw[List.getElem?_eq_none (by rw[Bt];omega),List.getElem?_eq_none (by rw[Mv,hs];omega)]
def Ao(lo hi:Int)(l:List Int):List (Int×Int):=if Yw lo hi l=0 then Qq hi l else []
theorem Tryz.info214:(Tryz.prog.info? 214).map (fun i=>(i.zero,i.size,i.bytes))=some (some (.agg #[V0 0,V0 0]),2,16):=by kernel_rfl
theorem Zao(lo hi:Int)(v:Value)(l:List Int)(w:World)(hlen:l.length≤1000000)(hl:Ints w v l) :
 C0 257 #[spanV lo hi,v] w (Ko (fun w' r=>Pairs w' r (Ao lo hi l)∧(Yw lo hi l=0→∃ g,r=.slice (S1 g) l.length l.length∧w.heap.size≤g∧Blk w' g (Ul (Qq hi l)) 214)) w):=by
 obtain⟨i0,a7,b0,b3,b1⟩:=info_parts Tryz.info214
 have c1:=fun w=>Fd (P:=Tryz.prog) (t:=373) (e:=214) (i:=i0) [V0 0,V0 0] Tryz.underlying373 a7 b0 rfl b3 b1 l.length (by omega) (by omega) w
 clear a7 b0 b3 b1
 unfold spanV
 refine Wm Tryz.func257 rfl ?_
 simp only[Tryz.ntmps257,List.size_toArray,List.length_cons,List.length_nil,Nat.reduceAdd,Nat.reduceSub,Array.replicate_succ,Array.replicate_zero,List.push_toArray,List.append_toArray,List.nil_append,List.cons_append]
 go_wp2_with fail
 refine(Ck lo hi v l _ (hl.below (blx _ _))).mono ?_
 rintro e w' ⟨rfl,hb⟩
 have k0:=Blk.below (Blk.new w [V0 lo,V0 hi] 214) hb
 have hB:B0 w w':=bln (blx _ _) hb
 have a5:=hl.below hB
 have HB:l.length≠0→∀ {b a8 n b4:Nat},v=.slice (some ⟨b,a8,none⟩) n b4→b<w.heap.size:=fun h _ _ _ _ e=>hl.blk h e
 clear hb hl
 obtain⟨a,c,rfl⟩:=a5.slice
 have z0:=k0.lt
 have c7:=k0.cell (i:=0) rfl
 have c9:=k0.cell (i:=1) rfl
 by_cases hf:Yw lo hi l=0
 case neg =>
  have c0:(Yw lo hi l != 0)=true:=by simpa using hf
  have HF:=Lib.hid hf;clear hf
  go_wp2_with fail
  refine⟨_,results_tmp rfl _ _ _,?_⟩
  have e:Ao lo hi l=[]:=by simp[Ao,HF.out]
  rw[e]
  exact⟨_,rfl,hB,.inl ⟨_,_,rfl,rfl,rfl⟩,fun q=>absurd q HF.out⟩
 have c0:(Yw lo hi l != 0)=false:=by simpa using hf
 have HF:=Lib.hid hf;clear hf
 go_wp2_with fail
 refine(Zgu lo hi a l.length c _).mono ?_
 rintro e W1 ⟨rfl,a0⟩
 have hz:w'.heap.size+4=W1.heap.size:=by rw[a0];simp
 have a6:Below w'.heap.size w' W1:=by rw[a0];exact bln (bln (bln (blx _ _) (blx _ _)) (blx _ _)) (blx _ _)
 have s1:W1.cell? ⟨w'.heap.size+1+1,1,none⟩=some (V0 hi):=by rw[a0];simp[go_sem]
 have s2:W1.cell? ⟨w'.heap.size+1+1+1,0,none⟩=some (.slice a l.length c):=by rw[a0];simp[go_sem]
 have m1:Blk W1 w'.heap.size (Hf [V0 0,V0 0] l.length) 214:=by rw[a0];exact(((Blk.new w' _ _).alloc _).alloc _).alloc _
 have m2:Blk W1 (w'.heap.size+1) [.slice (some ⟨w'.heap.size,0,none⟩) l.length l.length] 373:=by
  rw[a0];have:=((Blk.new (w'.alloc (.cells (Hf [V0 0,V0 0] l.length).toArray 214)) [.slice (some ⟨w'.heap.size,0,none⟩) l.length l.length] 373).alloc (.cells #[V0 lo,V0 hi] 214)).alloc (.cells #[.slice a l.length c] 33)
  simpa using this
 have a3:=bln hB a6
 have b7:=a5.below a6
 have c3:=Zdi (w'.heap.size+1+1) (w'.heap.size+1+1+1) (fun b=>b<W1.heap.size∧b≠w'.heap.size) hi (.slice a l.length c) l W1 (fun b h=>h.1) (by omega) (by omega) (by omega) b7 ?hvp s1 s2
 case hvp=>exact fun h b a8 n' b4 e=>by have:=HB h e;have:=a3.size;exact⟨by omega,by omega⟩
 clear a0 s1 s2 c1
 go_wp2_with fail
 refine Zb0 (g:=.tmp 17) (gf:=307) (lb:=#[.pointer (some ⟨w'.heap.size+1+1,0,none⟩),.pointer (some ⟨w'.heap.size+1+1+1,0,none⟩)]) rfl (enters_of Tryz.func307 (by kernel_rfl) rfl) _ (fun b h=>h.1) c3 (fun _=>rfl)
  (fun a1 W=>(Blk W w'.heap.size (outC hi l a1) 214∧Blk W (w'.heap.size+1) [.slice (some ⟨w'.heap.size,0,none⟩) l.length l.length] 373)∧(B0 w W∧W1.heap.size≤W.heap.size))
  (fun _ _ _=>False) ?own (fun _ _ _ _ _ h _ _=>h) ⟨⟨m1,m2⟩,a3,Nat.le_refl _⟩
  (fun x a' W=>∃ Bx,W1.heap.size≤Bx∧Blk W Bx [V0 (Xg hi l (qOf x)).1,V0 (Xg hi l (qOf x)).2] 214 ∧
   a'={ tmps:=#[.agg #[V0 lo,V0 hi],.slice a l.length c,.pointer (some ⟨w.heap.size,0,none⟩),undef,S0,.pointer (some ⟨w'.heap.size+1,0,none⟩),V0 (qOf x:Int),P0 Bx,.agg #[V0 lo,V0 hi],.slice a l.length c,V0 (Yw lo hi l),.bool false,.slice a l.length c,V0 l.length,.slice (some ⟨w'.heap.size,0,none⟩) l.length l.length,.agg #[V0 lo,V0 hi],.slice a l.length c,.func (.func 307) #[] #[.pointer (some ⟨w'.heap.size+1+1,0,none⟩),.pointer (some ⟨w'.heap.size+1+1+1,0,none⟩)],V0 (qOf x:Int),spanV (Xg hi l (qOf x)).1 (Xg hi l (qOf x)).2,undef,undef,undef,undef,undef],defers:=[] }) ?ownax ?assign ?body ?done ?stop
 case own=>exact OwnFrom.and (Own.from (fun s A B c2 hs hg hr=>⟨hs.1.turn hg hr,hs.2.turn hg hr⟩) _) (OwnFrom.and (ownFrom_below (Nat.le_refl _) a3.size) Aj)
 case ownax=>exact fun x a'=>Own.from (fun s A B c2 hs hg hr=>by obtain⟨Bx,h1,h2,h3⟩:=hs;exact⟨Bx,h1,h2.turn hg hr,h3⟩) _
 case assign =>
  rintro lr a1 x W K ⟨⟨h1,h2⟩,a2,a4⟩ hK
  unfold encE
  gi_wp2
  exact hK _ _ ((KeepsOthers.alloc _ _).from _) (Keeps.of_below (blx W _) (fun b hb=>by have:=hb.1;omega)) ⟨⟨h1.alloc _,h2.alloc _⟩,bln a2 (blx _ _),by simp;omega⟩ ⟨W.heap.size,a4,Blk.new W _ _,rfl⟩
 case body =>
  rintro lr a1 x a' W c5 ⟨⟨h1,h2⟩,a2,a4⟩ ⟨Bx,c6,hx,rfl⟩ a9
  have c4:=hx.cell (i:=0) rfl
  have d1:=hx.cell (i:=1) rfl
  have ci:=h2.cell (i:=0) rfl
  have hq:qOf x<l.length:=by have:=x.2;simp only[qOf];omega
  have b8:=Bt hi l a1
  obtain⟨u0,b5⟩:∃ u0,(outC hi l a1)[qOf x*2]? = some u0:=⟨_,List.getElem?_eq_getElem (by omega)⟩
  obtain⟨u1,b2⟩:∃ u1,(outC hi l a1)[qOf x*2+1]? = some u1:=⟨_,List.getElem?_eq_getElem (by omega)⟩
  have d0:=h1.cell b5
  have c8:=h1.cell b2
  have d2:=h1.frozen (qOf x*2)
  have d3:=h1.frozen (qOf x*2+1)
  clear b5 b2 b8
  gi_wp2
  refine⟨((KeepsOthers.setCell _ _ _).trans (KeepsOthers.setCell _ _ _)).from _,((Keeps.refl _ W).setCell (by simp) _).setCell (by simp) _,⟨by rw[Zgq];exact(h1.set _ _).set _ _,(h2.other (by simp) _).other (by simp) _⟩,(a2.setCell (Nat.le_of_lt z0) _).setCell (Nat.le_of_lt z0) _,by simpa [World.setCell] using a4⟩
 case done =>
  rintro D xs W hD rfl ⟨⟨h1,h2⟩,a2,a4⟩ hK
  have ci:=h2.cell (i:=0) rfl
  have a9:D<W.heap.size:=(Array.getElem?_eq_some_iff.1 hK).1
  rw[outC_all] at h1
  have hs:(Qq hi l).length=l.length:=by simp[Qq]
  have hR:Pairs (W.putObj D (.deferred none)) (.slice (some ⟨w'.heap.size,0,none⟩) l.length l.length) (Qq hi l):=by
   have b9:=h1.put hK rfl (.deferred none)
   exact .inr ⟨_,0,l.length,by rw[hs],by omega,by unfold maxLen;omega,fun j x hj=>by rw[Nat.zero_add];exact b9.cell hj⟩
  have HR:=Lib.hid hR
  have b6:=Lib.hid (h1.put hK rfl (.deferred none))
  clear hR h1 hs
  go_wp2_with fail
  refine⟨by simp,.inl ⟨_,_,rfl,run_takeDeferred hK,_,results_tmp rfl _ _ _,?_⟩⟩
  have e:Ao lo hi l=Qq hi l:=by simp[Ao,HF.out]
  rw[e]
  exact⟨_,rfl,Zf5 a2 (by have:=a3.size;omega) a9 _,HR.out,fun _=>⟨_,rfl,hB.size,b6.out⟩⟩
 case stop=>exact fun _ _ _ _ _ _ h _=>h.elim
end Go.Proofs.YtegcamkgeacjfaaGreatDoor
namespace Go.Proofs.YtegcamkgeacjfaaGreatDoor
set_option maxHeartbeats 8000000
set_option maxRecDepth 100000
open Go.RowKit Go.Extern.Stop Go.Stop Go.Extern
set_option linter.unusedVariables false
attribute [local irreducible] wpList wpAnyH Code.wp Oper.wp Go
def Xa(l:Bl)(way:List Int)(no tree lo hi deep:Int):Int :=
 if Qt way no=true then 11 else if 16≤way.length then 10 else if Xe l no tree≠0 then Xe l no tree else if Yw lo hi (Yx (inB l no) (Zt (inB l no)))≠0 then 9 else
  if Xr (inB l no)=true∧deep≠0∧deep≠((way.length+1:Nat):Int) then 10 else 0
def LookP(B bw:Nat)(cs:List Value)(l:Bl)(way:List Int)(no tree lo hi deep:Int)(w:World)(e:Ending)(w':World):Prop :=
 Below B w w'∧Ze [315] w w'∧Blk w' bw cs 315 ∧
 ((Xa l way no tree lo hi deep≠0∧∃ a4 b4 k4 n4 c4 v4 m4 d4 ty x,e=.returned (.tuple #[.agg #[V0 a4,.bool b4,.slice k4 n4 c4,.slice v4 m4 d4],.iface ty x])∧Kl w' [some no] (some (Xa l way no tree lo hi deep)) (.iface ty x)) ∨
  (Xa l way no tree lo hi deep=0∧Xe l no tree=0∧∃ kp kc vp vc,e=.returned (.tuple #[.agg #[V0 (Xv (inB l no)),.bool (Xr (inB l no)),.slice kp (Zt (inB l no)) kc,.slice vp (Zt (inB l no)) vc],.nilIface]) ∧
   w'.ownsRow w.heap.size 3 1 (.slice kp (Zt (inB l no)) kc) (Zt (inB l no)) ((Yx (inB l no) (Zt (inB l no))).map V0)∧w'.ownsRow w.heap.size 9 1 (.slice vp (Zt (inB l no)) vc) (Zt (inB l no)) ((Vw (inB l no) (Zt (inB l no))).map sv)))
theorem Uz{w:World}{v:Value}{n:Nat}{l:List Int}(h:Sl w v n (l.map V0))(hl:l.length=n):Ints w v l:=by subst hl;exact h
theorem Oh(B Bi b bw:Nat)(p:O0)(n c:Nat)(l:Bl)(c0 c1 c4 c7 c9:Value)(pw:O0)(cw:Nat)(way:List Int)(no tree lo hi deep looked:Int)(w:World)(hBb:B≤bw)(hBw:B≤w.heap.size)(kW:Blk w bw [c0,c1,V0 deep,V0 looked,c4,P0 b,V0 tree,c7,.slice pw way.length cw,c9] 315)(hway:w.ownsRow B 3 1 (.slice pw way.length cw) way.length (way.map V0))(hI:ImgR Bi b p n c l w)(hwl:way.length≤1000000)(hl0:0≤looked)(hl1:looked<9223372036854775807) :
 C0 255 #[P0 bw,V0 no,.agg #[V0 lo,V0 hi]] w (LookP B bw [c0,c1,V0 deep,V0 (looked+1),c4,P0 b,V0 tree,c7,.slice pw way.length cw,c9] l way no tree lo hi deep w):=by
 refine zin 97 Tryz.func255 ?_
 refine xa 2 [V0 lo,V0 hi] 214 fun b1 W1 n1=>?_
 refine xa 0 [V0 0,.bool false,S0,S0] 173 fun b2 W2 n2=>?_
 have a3:=(kW.below n1.below).below n2.below
 refine xb 9 3 a3 ?_
 refine xw 0 (looked+1) ?_
 refine xs 3 a3 [c0,c1,V0 deep,V0 (looked+1),c4,P0 b,V0 tree,c7,.slice pw way.length cw,c9] fun W3 u3 k3=>?_
 refine xb 8 8 k3 ?_
 have g6:=u3.own2 (Zb (Zb hway n1.below) n2.below) a3 (by decide)
 refine xr 1 (args:=#[.slice pw way.length cw,V0 no]) (Zgo pw cw way no _ (Zh g6) hwl) fun W4 b0=>?_
 refine xi 2 (Qt way no) (fun t5=>?_) (fun t5=>?_)
 ·refine xc 5 (args:=#[V0 no,.iface 63 (V0 11)]) (Qs no (some 11) [] _ _ rfl) ?_
  rintro _ W6 ⟨r6,rfl,o2,q0⟩
  rw[Vb] at q0
  obtain⟨t6,x6,rfl⟩:=q0.iface
  have k2:=((u3.blkT n2.blk a3 (by decide)).below b0).below o2
  refine xsv 0 k2 [V0 0,.bool false,S0,S0] fun W7 u7 k7=>?_
  have g2:=n2.ge0 (blB (Below.refl B w) hBw n1.below)
  have hB:=u7.below (blB (blB (u3.below (blB (blB (Below.refl B w) hBw n1.below) hBw n2.below) hBb) hBw b0) hBw o2) (Nat.le_trans hBw g2)
  have hO:=(Ze.upd_new (((((show Ze [315] w _ from(Ze.of_below n1.below)).trans (Ze.of_below n2.below)).trans (Ze.of_upd u3 a3 (by decide))).trans (Ze.of_below b0)).trans (Ze.of_below o2)) u7 g2)
  have p7:=u7.blkT ((k3.below b0).below o2) k2 (by decide)
  have i6:=q0.upd u7 k2 (by decide)
  exact xec 5 k7 (.tuple #[.agg #[V0 0,.bool false,S0,S0],.iface t6 (x6)]) ⟨hB,hO,p7,.inl ⟨by(unfold Xa;(repeat' split)<;>first|rfl|assumption|decide|omega|exact absurd (Eq.trans (Eq.symm ‹Qt _ _=true›) ‹Qt _ _=false›) (by decide)|(rename_i q;exact absurd ⟨by assumption,by assumption,by assumption⟩ q)|(rename_i q;obtain⟨q1,q2,q3⟩:=q;exact absurd (Eq.trans (Eq.symm q1) ‹Xr _=false›) (by decide))|(rename_i q;obtain⟨q1,q2,q3⟩:=q;omega)),_,_,_,_,_,_,_,_,_,_,rfl,by(unfold Xa;(repeat' split)<;>first|exact i6|(exfalso;omega)|contradiction|exact absurd (Eq.trans (Eq.symm ‹Qt _ _=true›) ‹Qt _ _=false›) (by decide)|(rename_i q;exact absurd ⟨by assumption,by assumption,by assumption⟩ q)|(rename_i q;obtain⟨q1,q2,q3⟩:=q;exact absurd (Eq.trans (Eq.symm q1) ‹Xr _=false›) (by decide))|(rename_i q;obtain⟨q1,q2,q3⟩:=q;omega))⟩⟩
 have h7:=k3.below b0
 refine xb 8 8 h7 ?_
 refine xid 4 ((way.length:Int)≥(16:Int)) (fun t0=>?_) (fun t0=>?_)
 ·refine xc 5 (args:=#[V0 no,.iface 63 (V0 10)]) (Qs no (some 10) [] _ _ rfl) ?_
  rintro _ W9 ⟨r9,rfl,n9,o7⟩
  rw[Vb] at o7
  obtain⟨t9,x9,rfl⟩:=o7.iface
  have k2:=((u3.blkT n2.blk a3 (by decide)).below b0).below n9
  refine xsv 0 k2 [V0 0,.bool false,S0,S0] fun ao o0 w2=>?_
  have g2:=n2.ge0 (blB (Below.refl B w) hBw n1.below)
  have hB:=o0.below (blB (blB (u3.below (blB (blB (Below.refl B w) hBw n1.below) hBw n2.below) hBb) hBw b0) hBw n9) (Nat.le_trans hBw g2)
  have hO:=(Ze.upd_new (((((show Ze [315] w _ from(Ze.of_below n1.below)).trans (Ze.of_below n2.below)).trans (Ze.of_upd u3 a3 (by decide))).trans (Ze.of_below b0)).trans (Ze.of_below n9)) o0 g2)
  have p6:=o0.blkT (h7.below n9) k2 (by decide)
  have m0:=o7.upd o0 k2 (by decide)
  exact xec 5 w2 (.tuple #[.agg #[V0 0,.bool false,S0,S0],.iface t9 (x9)]) ⟨hB,hO,p6,.inl ⟨by(unfold Xa;(repeat' split)<;>first|rfl|assumption|decide|omega|exact absurd (Eq.trans (Eq.symm ‹Qt _ _=true›) ‹Qt _ _=false›) (by decide)|(rename_i q;exact absurd ⟨by assumption,by assumption,by assumption⟩ q)|(rename_i q;obtain⟨q1,q2,q3⟩:=q;exact absurd (Eq.trans (Eq.symm q1) ‹Xr _=false›) (by decide))|(rename_i q;obtain⟨q1,q2,q3⟩:=q;omega)),_,_,_,_,_,_,_,_,_,_,rfl,by(unfold Xa;(repeat' split)<;>first|exact m0|(exfalso;omega)|contradiction|exact absurd (Eq.trans (Eq.symm ‹Qt _ _=true›) ‹Qt _ _=false›) (by decide)|(rename_i q;exact absurd ⟨by assumption,by assumption,by assumption⟩ q)|(rename_i q;obtain⟨q1,q2,q3⟩:=q;exact absurd (Eq.trans (Eq.symm q1) ‹Xr _=false›) (by decide))|(rename_i q;obtain⟨q1,q2,q3⟩:=q;omega))⟩⟩
 refine xd 3 (.t B [173]) ?_
 have b6:=h7.below (Za W4)
 refine xbt (.e [0,1,2] 3) 5 B [173] b6 ?_
 refine xbt (.e [4,5,6,7] 8) 6 B [173] b6 ?_
 refine xm2 0 9 13 ?_ ?_
 ·have q8:=((((hI.below n1.below).below n2.below).only (Ze.of_upd (T:=[315]) u3 a3 (by decide)) (by decide)).below b0).below (Za W4)
  refine yc 0 (args:=#[P0 b,V0 no,V0 tree]) (.t B [173]) (Fb Bi b p n c l no tree _ q8) ?_
  rintro e z5 o8
  rcases o8 with ⟨he,bf,rfl,a7,hv⟩|⟨he,kp,kc,vp,vc,rfl,a7,hk,h0⟩
  ·refine⟨(SF.of_below _ a7),?_⟩
   refine xa (.o [10,11,12] 13) [V0 0,.bool false,S0,S0] 173 fun z8 x8 e1=>?_
   have k2:=(((u3.blkT n2.blk a3 (by decide)).below b0).below (Za W4)).below a7
   have g1:=e1.ne k2
   have hB:=blB (blB (blB (u3.below (blB (blB (Below.refl B w) hBw n1.below) hBw n2.below) hBb) hBw b0) hBw (Za W4)) hBw a7
   have r2:=e1.ge0 hB
   refine ysv (.o [] 14) e1.blk [V0 0,.bool false,S0,S0] (.t B [173]) fun z6 i2 u1=>⟨(Zp i2 e1.blk (Nat.le_trans hBw r2) (by decide)),?_⟩
   refine xlv (.r [15] 14) u1.rp ?_
   have g4:=i2.blk (k2.below e1.below) (Ne.symm (Ne.symm g1))
   refine xsv 1 g4 [V0 0,.bool false,S0,S0] fun w9 o4 w6=>?_
   have g2:=n2.ge0 (blB (Below.refl B w) hBw n1.below)
   have s1:=o4.below (i2.below (blB hB hBw e1.below) (Nat.le_trans hBw r2)) (Nat.le_trans hBw g2)
   have hO:=(Ze.upd_new (Ze.upd_new (((((((show Ze [315] w _ from(Ze.of_below n1.below)).trans (Ze.of_below n2.below)).trans (Ze.of_upd u3 a3 (by decide))).trans (Ze.of_below b0)).trans (Ze.of_below (Za W4))).trans (Ze.of_below a7)).trans (Ze.of_below e1.below)) i2 r2) o4 g2)
   have o6:=o4.blkT (i2.blkT ((b6.below a7).below e1.below) e1.blk (by decide)) g4 (by decide)
   have p1:=((hv.below e1.below).upd i2 e1.blk (by decide)).upd o4 g4 (by decide)
   exact xec 6 w6 (.tuple #[.agg #[V0 0,.bool false,S0,S0],.iface 185 (P0 bf)]) ⟨s1,hO,o6,.inl ⟨by(unfold Xa;(repeat' split)<;>first|rfl|assumption|decide|omega|exact absurd (Eq.trans (Eq.symm ‹Qt _ _=true›) ‹Qt _ _=false›) (by decide)|(rename_i q;exact absurd ⟨by assumption,by assumption,by assumption⟩ q)|(rename_i q;obtain⟨q1,q2,q3⟩:=q;exact absurd (Eq.trans (Eq.symm q1) ‹Xr _=false›) (by decide))|(rename_i q;obtain⟨q1,q2,q3⟩:=q;omega)),_,_,_,_,_,_,_,_,_,_,rfl,by(unfold Xa;(repeat' split)<;>first|exact p1|(exfalso;omega)|contradiction|exact absurd (Eq.trans (Eq.symm ‹Qt _ _=true›) ‹Qt _ _=false›) (by decide)|(rename_i q;exact absurd ⟨by assumption,by assumption,by assumption⟩ q)|(rename_i q;obtain⟨q1,q2,q3⟩:=q;exact absurd (Eq.trans (Eq.symm q1) ‹Xr _=false›) (by decide))|(rename_i q;obtain⟨q1,q2,q3⟩:=q;omega))⟩⟩
  have e7:=(blB (blB (u3.below (blB (blB (Below.refl B w) hBw n1.below) hBw n2.below) hBb) hBw b0) hBw (Za W4)).size
  refine⟨(SF.of_below _ a7),?_⟩
  refine xa (.o [10,11,12] 13) [V0 0,.bool false,S0,S0] 173 fun y2 af a6=>?_
  have k2:=(((u3.blkT n2.blk a3 (by decide)).below b0).below (Za W4)).below a7
  have b5:=a6.ne k2
  have hB:=blB (blB (blB (u3.below (blB (blB (Below.refl B w) hBw n1.below) hBw n2.below) hBb) hBw b0) hBw (Za W4)) hBw a7
  have c6:=a6.ge0 hB
  refine ysv (.o [] 14) a6.blk [V0 (Xv (inB l no)),.bool (Xr (inB l no)),.slice kp (Zt (inB l no)) kc,.slice vp (Zt (inB l no)) vc] (.t B [173]) fun x3 b3 o1=>⟨(Zp b3 a6.blk (Nat.le_trans hBw c6) (by decide)),?_⟩
  have k1:=b3.blkT (((((u3.blkT (n1.blk.below n2.below) a3 (by decide)).below b0).below (Za W4)).below a7).below a6.below) a6.blk (by decide)
  refine xlv (.r [15] 14) k1.rp ?_
  refine xb 1 2 o1 ?_
  have f2:=b3.own2 (Zb (Zg hk e7) a6.below) a6.blk (by decide)
  refine xr 0 (args:=#[.agg #[V0 lo,V0 hi],.slice kp (Zt (inB l no)) kc]) (Ck lo hi _ (Yx (inB l no) (Zt (inB l no))) _ (Uz (Zh f2) (Qe _ _))) fun a4 a2=>?_
  refine xin 4 (Yw lo hi (Yx (inB l no) (Zt (inB l no)))) (0:Int) (fun r3=>?_) (fun r3=>?_)
  ·refine xd 1 (.t B [173]) ?_
   refine xm2 (.b [1,2]) 0 3 ?_ ?_
   ·have k5:=(o1.below a2).below (Za a4)
    refine xlv 0 k5.rp ?_
    refine yc (.o [] 3) (args:=#[V0 no,.iface 63 (V0 9)]) (.t B [173]) (Qs no (some 9) [] _ _ rfl) ?_
    rintro _ ai ⟨z3,rfl,e3,f9⟩
    refine⟨(SF.of_below _ e3),?_⟩
    rw[Vb] at f9
    obtain⟨s6,w1,rfl⟩:=f9.iface
    have f0:=(((b3.blk (k2.below a6.below) (Ne.symm (Ne.symm b5))).below a2).below (Za a4)).below e3
    have g2:=n2.ge0 (blB (Below.refl B w) hBw n1.below)
    refine ysv (.o [] 4) f0 [V0 (Xv (inB l no)),.bool (Xr (inB l no)),.slice kp (Zt (inB l no)) kc,.slice vp (Zt (inB l no)) vc] (.t B [173]) fun ah l5 u9=>⟨(Zp l5 f0 (Nat.le_trans hBw g2) (by decide)),?_⟩
    have p0:=l5.below (blB (blB (blB (b3.below (blB hB hBw a6.below) (Nat.le_trans hBw c6)) hBw a2) hBw (Za a4)) hBw e3) (Nat.le_trans hBw g2)
    have hO:=(Ze.upd_new ((((Ze.upd_new (((((((show Ze [315] w _ from(Ze.of_below n1.below)).trans (Ze.of_below n2.below)).trans (Ze.of_upd u3 a3 (by decide))).trans (Ze.of_below b0)).trans (Ze.of_below (Za W4))).trans (Ze.of_below a7)).trans (Ze.of_below a6.below)) b3 c6).trans (Ze.of_below a2)).trans (Ze.of_below (Za a4))).trans (Ze.of_below e3)) l5 g2)
    have p8:=l5.blkT ((((b3.blkT ((b6.below a7).below a6.below) a6.blk (by decide)).below a2).below (Za a4)).below e3) f0 (by decide)
    have h9:=f9.upd l5 f0 (by decide)
    exact xec (.r [5] 5) u9 (.tuple #[.agg #[V0 (Xv (inB l no)),.bool (Xr (inB l no)),.slice kp (Zt (inB l no)) kc,.slice vp (Zt (inB l no)) vc],.iface s6 (w1)]) ⟨p0,hO,p8,.inl ⟨by(unfold Xa;(repeat' split)<;>first|rfl|assumption|decide|omega|exact absurd (Eq.trans (Eq.symm ‹Qt _ _=true›) ‹Qt _ _=false›) (by decide)|(rename_i q;exact absurd ⟨by assumption,by assumption,by assumption⟩ q)|(rename_i q;obtain⟨q1,q2,q3⟩:=q;exact absurd (Eq.trans (Eq.symm q1) ‹Xr _=false›) (by decide))|(rename_i q;obtain⟨q1,q2,q3⟩:=q;omega)),_,_,_,_,_,_,_,_,_,_,rfl,by(unfold Xa;(repeat' split)<;>first|exact h9|(exfalso;omega)|contradiction|exact absurd (Eq.trans (Eq.symm ‹Qt _ _=true›) ‹Qt _ _=false›) (by decide)|(rename_i q;exact absurd ⟨by assumption,by assumption,by assumption⟩ q)|(rename_i q;obtain⟨q1,q2,q3⟩:=q;exact absurd (Eq.trans (Eq.symm q1) ‹Xr _=false›) (by decide))|(rename_i q;obtain⟨q1,q2,q3⟩:=q;omega))⟩⟩
   refine yc 0 (args:=#[V0 no,.iface 63 (V0 9)]) (.t B [173]) (Qs no (some 9) [] _ _ rfl) ?_
   rintro _ w7 ⟨al,rfl,d9,i0⟩
   refine⟨(SF.of_below _ d9),?_⟩
   rw[Vb] at i0
   obtain⟨w0,v5,rfl⟩:=i0.iface
   have n3:=((o1.below a2).below (Za a4)).below d9
   refine xlv (.o [] 0) n3.rp ?_
   have f5:=(((b3.blk (k2.below a6.below) (Ne.symm (Ne.symm b5))).below a2).below (Za a4)).below d9
   have g2:=n2.ge0 (blB (Below.refl B w) hBw n1.below)
   refine ysv (.o [] 4) f5 [V0 (Xv (inB l no)),.bool (Xr (inB l no)),.slice kp (Zt (inB l no)) kc,.slice vp (Zt (inB l no)) vc] (.t B [173]) fun ag k8 v3=>⟨(Zp k8 f5 (Nat.le_trans hBw g2) (by decide)),?_⟩
   have q4:=k8.below (blB (blB (blB (b3.below (blB hB hBw a6.below) (Nat.le_trans hBw c6)) hBw a2) hBw (Za a4)) hBw d9) (Nat.le_trans hBw g2)
   have hO:=(Ze.upd_new ((((Ze.upd_new (((((((show Ze [315] w _ from(Ze.of_below n1.below)).trans (Ze.of_below n2.below)).trans (Ze.of_upd u3 a3 (by decide))).trans (Ze.of_below b0)).trans (Ze.of_below (Za W4))).trans (Ze.of_below a7)).trans (Ze.of_below a6.below)) b3 c6).trans (Ze.of_below a2)).trans (Ze.of_below (Za a4))).trans (Ze.of_below d9)) k8 g2)
   have p5:=k8.blkT ((((b3.blkT ((b6.below a7).below a6.below) a6.blk (by decide)).below a2).below (Za a4)).below d9) f5 (by decide)
   have h3:=i0.upd k8 f5 (by decide)
   exact xec (.r [5] 5) v3 (.tuple #[.agg #[V0 (Xv (inB l no)),.bool (Xr (inB l no)),.slice kp (Zt (inB l no)) kc,.slice vp (Zt (inB l no)) vc],.iface w0 (v5)]) ⟨q4,hO,p5,.inl ⟨by(unfold Xa;(repeat' split)<;>first|rfl|assumption|decide|omega|exact absurd (Eq.trans (Eq.symm ‹Qt _ _=true›) ‹Qt _ _=false›) (by decide)|(rename_i q;exact absurd ⟨by assumption,by assumption,by assumption⟩ q)|(rename_i q;obtain⟨q1,q2,q3⟩:=q;exact absurd (Eq.trans (Eq.symm q1) ‹Xr _=false›) (by decide))|(rename_i q;obtain⟨q1,q2,q3⟩:=q;omega)),_,_,_,_,_,_,_,_,_,_,rfl,by(unfold Xa;(repeat' split)<;>first|exact h3|(exfalso;omega)|contradiction|exact absurd (Eq.trans (Eq.symm ‹Qt _ _=true›) ‹Qt _ _=false›) (by decide)|(rename_i q;exact absurd ⟨by assumption,by assumption,by assumption⟩ q)|(rename_i q;obtain⟨q1,q2,q3⟩:=q;exact absurd (Eq.trans (Eq.symm q1) ‹Xr _=false›) (by decide))|(rename_i q;obtain⟨q1,q2,q3⟩:=q;omega))⟩⟩
  refine xd 1 .z ?_
  have b8:=(o1.below a2).below (Za a4)
  refine xb (.e [0] 1) 1 b8 ?_
  refine xg (.b [2]) [69,70] (Xr (inB l no)) (fun r1=>?_) (fun r1=>?_)
  ·have c5:=((b3.blkT ((b6.below a7).below a6.below) a6.blk (by decide)).below a2).below (Za a4)
   refine xb (.e [3,4,5,6] 7) 2 c5 ?_
   refine xg (.b [8,9,10]) [76,77,78] (deep != (0:Int)) (fun e2=>?_) (fun e2=>?_)
   ·have e2:=Qk e2
    refine xb (.e [11,12,13,14] 15) 2 c5 ?_
    refine xb (.e [16,17,18] 19) 8 c5 ?_
    refine xwm (.e [20] 21) ((way.length:Int)+1) (↑(way.length+1):Int) ?_
    refine xin (.r [22,23,24] 2) deep (↑(way.length+1):Int) (fun q7=>?_) (fun q7=>?_)
    ·refine xd 1 (.t B [173]) ?_
     refine xm2 (.b [1,2]) 0 3 ?_ ?_
     ·have j2:=b8.below (Za a4.drew)
      refine xlv 0 j2.rp ?_
      refine yc (.o [] 3) (args:=#[V0 no,.iface 63 (V0 10)]) (.t B [173]) (Qs no (some 10) [] _ _ rfl) ?_
      rintro _ ak ⟨z2,rfl,e6,g5⟩
      refine⟨(SF.of_below _ e6),?_⟩
      rw[Vb] at g5
      obtain⟨v0,t4,rfl⟩:=g5.iface
      have f6:=((((b3.blk (k2.below a6.below) (Ne.symm (Ne.symm b5))).below a2).below (Za a4)).below (Za a4.drew)).below e6
      have g2:=n2.ge0 (blB (Below.refl B w) hBw n1.below)
      refine ysv (.o [] 4) f6 [V0 (Xv (inB l no)),.bool (Xr (inB l no)),.slice kp (Zt (inB l no)) kc,.slice vp (Zt (inB l no)) vc] (.t B [173]) fun y4 i9 u4=>⟨(Zp i9 f6 (Nat.le_trans hBw g2) (by decide)),?_⟩
      have s4:=i9.below (blB (blB (blB (blB (b3.below (blB hB hBw a6.below) (Nat.le_trans hBw c6)) hBw a2) hBw (Za a4)) hBw (Za a4.drew)) hBw e6) (Nat.le_trans hBw g2)
      have hO:=(Ze.upd_new (((((Ze.upd_new (((((((show Ze [315] w _ from(Ze.of_below n1.below)).trans (Ze.of_below n2.below)).trans (Ze.of_upd u3 a3 (by decide))).trans (Ze.of_below b0)).trans (Ze.of_below (Za W4))).trans (Ze.of_below a7)).trans (Ze.of_below a6.below)) b3 c6).trans (Ze.of_below a2)).trans (Ze.of_below (Za a4))).trans (Ze.of_below (Za a4.drew))).trans (Ze.of_below e6)) i9 g2)
      have s2:=i9.blkT ((c5.below (Za a4.drew)).below e6) f6 (by decide)
      have g8:=g5.upd i9 f6 (by decide)
      exact xec (.r [5] 5) u4 (.tuple #[.agg #[V0 (Xv (inB l no)),.bool (Xr (inB l no)),.slice kp (Zt (inB l no)) kc,.slice vp (Zt (inB l no)) vc],.iface v0 (t4)]) ⟨s4,hO,s2,.inl ⟨by(unfold Xa;(repeat' split)<;>first|rfl|assumption|decide|omega|exact absurd (Eq.trans (Eq.symm ‹Qt _ _=true›) ‹Qt _ _=false›) (by decide)|(rename_i q;exact absurd ⟨by assumption,by assumption,by assumption⟩ q)|(rename_i q;obtain⟨q1,q2,q3⟩:=q;exact absurd (Eq.trans (Eq.symm q1) ‹Xr _=false›) (by decide))|(rename_i q;obtain⟨q1,q2,q3⟩:=q;omega)),_,_,_,_,_,_,_,_,_,_,rfl,by(unfold Xa;(repeat' split)<;>first|exact g8|(exfalso;omega)|contradiction|exact absurd (Eq.trans (Eq.symm ‹Qt _ _=true›) ‹Qt _ _=false›) (by decide)|(rename_i q;exact absurd ⟨by assumption,by assumption,by assumption⟩ q)|(rename_i q;obtain⟨q1,q2,q3⟩:=q;exact absurd (Eq.trans (Eq.symm q1) ‹Xr _=false›) (by decide))|(rename_i q;obtain⟨q1,q2,q3⟩:=q;omega))⟩⟩
     refine yc 0 (args:=#[V0 no,.iface 63 (V0 10)]) (.t B [173]) (Qs no (some 10) [] _ _ rfl) ?_
     rintro _ x2 ⟨y6,rfl,d7,f8⟩
     refine⟨(SF.of_below _ d7),?_⟩
     rw[Vb] at f8
     obtain⟨u2,t2,rfl⟩:=f8.iface
     have n0:=(b8.below (Za a4.drew)).below d7
     refine xlv (.o [] 0) n0.rp ?_
     have f4:=((((b3.blk (k2.below a6.below) (Ne.symm (Ne.symm b5))).below a2).below (Za a4)).below (Za a4.drew)).below d7
     have g2:=n2.ge0 (blB (Below.refl B w) hBw n1.below)
     refine ysv (.o [] 4) f4 [V0 (Xv (inB l no)),.bool (Xr (inB l no)),.slice kp (Zt (inB l no)) kc,.slice vp (Zt (inB l no)) vc] (.t B [173]) fun y9 j6 u5=>⟨(Zp j6 f4 (Nat.le_trans hBw g2) (by decide)),?_⟩
     have p4:=j6.below (blB (blB (blB (blB (b3.below (blB hB hBw a6.below) (Nat.le_trans hBw c6)) hBw a2) hBw (Za a4)) hBw (Za a4.drew)) hBw d7) (Nat.le_trans hBw g2)
     have hO:=(Ze.upd_new (((((Ze.upd_new (((((((show Ze [315] w _ from(Ze.of_below n1.below)).trans (Ze.of_below n2.below)).trans (Ze.of_upd u3 a3 (by decide))).trans (Ze.of_below b0)).trans (Ze.of_below (Za W4))).trans (Ze.of_below a7)).trans (Ze.of_below a6.below)) b3 c6).trans (Ze.of_below a2)).trans (Ze.of_below (Za a4))).trans (Ze.of_below (Za a4.drew))).trans (Ze.of_below d7)) j6 g2)
     have m9:=j6.blkT ((c5.below (Za a4.drew)).below d7) f4 (by decide)
     have h2:=f8.upd j6 f4 (by decide)
     exact xec (.r [5] 5) u5 (.tuple #[.agg #[V0 (Xv (inB l no)),.bool (Xr (inB l no)),.slice kp (Zt (inB l no)) kc,.slice vp (Zt (inB l no)) vc],.iface u2 (t2)]) ⟨p4,hO,m9,.inl ⟨by(unfold Xa;(repeat' split)<;>first|rfl|assumption|decide|omega|exact absurd (Eq.trans (Eq.symm ‹Qt _ _=true›) ‹Qt _ _=false›) (by decide)|(rename_i q;exact absurd ⟨by assumption,by assumption,by assumption⟩ q)|(rename_i q;obtain⟨q1,q2,q3⟩:=q;exact absurd (Eq.trans (Eq.symm q1) ‹Xr _=false›) (by decide))|(rename_i q;obtain⟨q1,q2,q3⟩:=q;omega)),_,_,_,_,_,_,_,_,_,_,rfl,by(unfold Xa;(repeat' split)<;>first|exact h2|(exfalso;omega)|contradiction|exact absurd (Eq.trans (Eq.symm ‹Qt _ _=true›) ‹Qt _ _=false›) (by decide)|(rename_i q;exact absurd ⟨by assumption,by assumption,by assumption⟩ q)|(rename_i q;obtain⟨q1,q2,q3⟩:=q;exact absurd (Eq.trans (Eq.symm q1) ‹Xr _=false›) (by decide))|(rename_i q;obtain⟨q1,q2,q3⟩:=q;omega))⟩⟩
    refine xlv 5 b8.rp ?_
    have e8:=((b3.blk (k2.below a6.below) (Ne.symm (Ne.symm b5))).below a2).below (Za a4)
    refine xsv 0 e8 [V0 (Xv (inB l no)),.bool (Xr (inB l no)),.slice kp (Zt (inB l no)) kc,.slice vp (Zt (inB l no)) vc] fun y0 l2 w3=>?_
    have g2:=n2.ge0 (blB (Below.refl B w) hBw n1.below)
    have r4:=l2.below (blB (blB (b3.below (blB hB hBw a6.below) (Nat.le_trans hBw c6)) hBw a2) hBw (Za a4)) (Nat.le_trans hBw g2)
    have hO:=(Ze.upd_new (((Ze.upd_new (((((((show Ze [315] w _ from(Ze.of_below n1.below)).trans (Ze.of_below n2.below)).trans (Ze.of_upd u3 a3 (by decide))).trans (Ze.of_below b0)).trans (Ze.of_below (Za W4))).trans (Ze.of_below a7)).trans (Ze.of_below a6.below)) b3 c6).trans (Ze.of_below a2)).trans (Ze.of_below (Za a4))) l2 g2)
    have j4:=l2.blkT c5 e8 (by decide)
    have s3:=l2.own2 (Zb (Zb f2 a2) (Za a4)) e8 (by decide)
    have i4:=l2.own2 (Zb (Zb (b3.own2 (Zb (Zg h0 e7) a6.below) a6.blk (by decide)) a2) (Za a4)) e8 (by decide)
    exact xec 4 w3 (.tuple #[.agg #[V0 (Xv (inB l no)),.bool (Xr (inB l no)),.slice kp (Zt (inB l no)) kc,.slice vp (Zt (inB l no)) vc],.nilIface]) ⟨r4,hO,j4,.inr ⟨by(unfold Xa;(repeat' split)<;>first|rfl|assumption|decide|omega|exact absurd (Eq.trans (Eq.symm ‹Qt _ _=true›) ‹Qt _ _=false›) (by decide)|(rename_i q;exact absurd ⟨by assumption,by assumption,by assumption⟩ q)|(rename_i q;obtain⟨q1,q2,q3⟩:=q;exact absurd (Eq.trans (Eq.symm q1) ‹Xr _=false›) (by decide))|(rename_i q;obtain⟨q1,q2,q3⟩:=q;omega)),by assumption,_,_,_,_,rfl,s3,i4⟩⟩
   have e2:=Xn e2
   refine xlv (.r [11,12,13,14,15,16,17,18,19,20,21,22,23,24] 8) b8.rp ?_
   have f7:=((b3.blk (k2.below a6.below) (Ne.symm (Ne.symm b5))).below a2).below (Za a4)
   refine xsv 0 f7 [V0 (Xv (inB l no)),.bool (Xr (inB l no)),.slice kp (Zt (inB l no)) kc,.slice vp (Zt (inB l no)) vc] fun x5 n5 v8=>?_
   have g2:=n2.ge0 (blB (Below.refl B w) hBw n1.below)
   have o9:=n5.below (blB (blB (b3.below (blB hB hBw a6.below) (Nat.le_trans hBw c6)) hBw a2) hBw (Za a4)) (Nat.le_trans hBw g2)
   have hO:=(Ze.upd_new (((Ze.upd_new (((((((show Ze [315] w _ from(Ze.of_below n1.below)).trans (Ze.of_below n2.below)).trans (Ze.of_upd u3 a3 (by decide))).trans (Ze.of_below b0)).trans (Ze.of_below (Za W4))).trans (Ze.of_below a7)).trans (Ze.of_below a6.below)) b3 c6).trans (Ze.of_below a2)).trans (Ze.of_below (Za a4))) n5 g2)
   have l1:=n5.blkT c5 f7 (by decide)
   have r8:=n5.own2 (Zb (Zb f2 a2) (Za a4)) f7 (by decide)
   have k9:=n5.own2 (Zb (Zb (b3.own2 (Zb (Zg h0 e7) a6.below) a6.blk (by decide)) a2) (Za a4)) f7 (by decide)
   exact xec 4 v8 (.tuple #[.agg #[V0 (Xv (inB l no)),.bool (Xr (inB l no)),.slice kp (Zt (inB l no)) kc,.slice vp (Zt (inB l no)) vc],.nilIface]) ⟨o9,hO,l1,.inr ⟨by(unfold Xa;(repeat' split)<;>first|rfl|assumption|decide|omega|exact absurd (Eq.trans (Eq.symm ‹Qt _ _=true›) ‹Qt _ _=false›) (by decide)|(rename_i q;exact absurd ⟨by assumption,by assumption,by assumption⟩ q)|(rename_i q;obtain⟨q1,q2,q3⟩:=q;exact absurd (Eq.trans (Eq.symm q1) ‹Xr _=false›) (by decide))|(rename_i q;obtain⟨q1,q2,q3⟩:=q;omega)),by assumption,_,_,_,_,rfl,r8,k9⟩⟩
  refine xlv (.r [3,4,5,6,7,8,9,10,11,12,13,14,15,16,17,18,19,20,21,22,23,24] 8) b8.rp ?_
  have f3:=((b3.blk (k2.below a6.below) (Ne.symm (Ne.symm b5))).below a2).below (Za a4)
  refine xsv 0 f3 [V0 (Xv (inB l no)),.bool (Xr (inB l no)),.slice kp (Zt (inB l no)) kc,.slice vp (Zt (inB l no)) vc] fun x0 n4 v1=>?_
  have g2:=n2.ge0 (blB (Below.refl B w) hBw n1.below)
  have p2:=n4.below (blB (blB (b3.below (blB hB hBw a6.below) (Nat.le_trans hBw c6)) hBw a2) hBw (Za a4)) (Nat.le_trans hBw g2)
  have hO:=(Ze.upd_new (((Ze.upd_new (((((((show Ze [315] w _ from(Ze.of_below n1.below)).trans (Ze.of_below n2.below)).trans (Ze.of_upd u3 a3 (by decide))).trans (Ze.of_below b0)).trans (Ze.of_below (Za W4))).trans (Ze.of_below a7)).trans (Ze.of_below a6.below)) b3 c6).trans (Ze.of_below a2)).trans (Ze.of_below (Za a4))) n4 g2)
  have l4:=n4.blkT (((b3.blkT ((b6.below a7).below a6.below) a6.blk (by decide)).below a2).below (Za a4)) f3 (by decide)
  have q9:=n4.own2 (Zb (Zb f2 a2) (Za a4)) f3 (by decide)
  have i8:=n4.own2 (Zb (Zb (b3.own2 (Zb (Zg h0 e7) a6.below) a6.blk (by decide)) a2) (Za a4)) f3 (by decide)
  exact xec 4 v1 (.tuple #[.agg #[V0 (Xv (inB l no)),.bool (Xr (inB l no)),.slice kp (Zt (inB l no)) kc,.slice vp (Zt (inB l no)) vc],.nilIface]) ⟨p2,hO,l4,.inr ⟨by(unfold Xa;(repeat' split)<;>first|rfl|assumption|decide|omega|exact absurd (Eq.trans (Eq.symm ‹Qt _ _=true›) ‹Qt _ _=false›) (by decide)|(rename_i q;exact absurd ⟨by assumption,by assumption,by assumption⟩ q)|(rename_i q;obtain⟨q1,q2,q3⟩:=q;exact absurd (Eq.trans (Eq.symm q1) ‹Xr _=false›) (by decide))|(rename_i q;obtain⟨q1,q2,q3⟩:=q;omega)),by assumption,_,_,_,_,rfl,q9,i8⟩⟩
 refine xa 0 [V0 0,.bool false,S0,S0] 173 fun y7 x4 a8=>?_
 have k2:=((u3.blkT n2.blk a3 (by decide)).below b0).below (Za W4)
 have a9:=a8.ne k2
 have hB:=blB (blB (u3.below (blB (blB (Below.refl B w) hBw n1.below) hBw n2.below) hBb) hBw b0) hBw (Za W4)
 have c2:=a8.ge0 hB
 have s5:=(((((hI.below n1.below).below n2.below).only (Ze.of_upd (T:=[315]) u3 a3 (by decide)) (by decide)).below b0).below (Za W4)).below a8.below
 refine yc (.o [] 9) (args:=#[P0 b,V0 no,V0 tree]) (.t B [173]) (Fb Bi b p n c l no tree _ s5) ?_
 rintro e aj q6
 rcases q6 with ⟨he,bf,rfl,a0,hv⟩|⟨he,kp,kc,vp,vc,rfl,a0,hk,h0⟩
 ·refine⟨(SF.of_below _ a0),?_⟩
  have c3:=a8.blk.below a0
  refine ysv (.o [10,11,12] 14) c3 [V0 0,.bool false,S0,S0] (.t B [173]) fun z1 i1 t1=>⟨(Zp i1 c3 (Nat.le_trans hBw c2) (by decide)),?_⟩
  refine xlv (.r [15] 14) t1.rp ?_
  have g0:=i1.blk ((k2.below a8.below).below a0) (Ne.symm (Ne.symm a9))
  refine xsv 1 g0 [V0 0,.bool false,S0,S0] fun aa o3 w4=>?_
  have g2:=n2.ge0 (blB (Below.refl B w) hBw n1.below)
  have p3:=o3.below (i1.below (blB (blB hB hBw a8.below) hBw a0) (Nat.le_trans hBw c2)) (Nat.le_trans hBw g2)
  have hO:=(Ze.upd_new (Ze.upd_new (((((((show Ze [315] w _ from(Ze.of_below n1.below)).trans (Ze.of_below n2.below)).trans (Ze.of_upd u3 a3 (by decide))).trans (Ze.of_below b0)).trans (Ze.of_below (Za W4))).trans (Ze.of_below a8.below)).trans (Ze.of_below a0)) i1 c2) o3 g2)
  have m2:=o3.blkT (i1.blkT ((b6.below a8.below).below a0) c3 (by decide)) g0 (by decide)
  have p9:=(hv.upd i1 c3 (by decide)).upd o3 g0 (by decide)
  exact xec 6 w4 (.tuple #[.agg #[V0 0,.bool false,S0,S0],.iface 185 (P0 bf)]) ⟨p3,hO,m2,.inl ⟨by(unfold Xa;(repeat' split)<;>first|rfl|assumption|decide|omega|exact absurd (Eq.trans (Eq.symm ‹Qt _ _=true›) ‹Qt _ _=false›) (by decide)|(rename_i q;exact absurd ⟨by assumption,by assumption,by assumption⟩ q)|(rename_i q;obtain⟨q1,q2,q3⟩:=q;exact absurd (Eq.trans (Eq.symm q1) ‹Xr _=false›) (by decide))|(rename_i q;obtain⟨q1,q2,q3⟩:=q;omega)),_,_,_,_,_,_,_,_,_,_,rfl,by(unfold Xa;(repeat' split)<;>first|exact p9|(exfalso;omega)|contradiction|exact absurd (Eq.trans (Eq.symm ‹Qt _ _=true›) ‹Qt _ _=false›) (by decide)|(rename_i q;exact absurd ⟨by assumption,by assumption,by assumption⟩ q)|(rename_i q;obtain⟨q1,q2,q3⟩:=q;exact absurd (Eq.trans (Eq.symm q1) ‹Xr _=false›) (by decide))|(rename_i q;obtain⟨q1,q2,q3⟩:=q;omega))⟩⟩
 have f1:=(blB hB hBw a8.below).size
 refine⟨(SF.of_below _ a0),?_⟩
 have c3:=a8.blk.below a0
 refine ysv (.o [10,11,12] 14) c3 [V0 (Xv (inB l no)),.bool (Xr (inB l no)),.slice kp (Zt (inB l no)) kc,.slice vp (Zt (inB l no)) vc] (.t B [173]) fun z9 b4 n8=>⟨(Zp b4 c3 (Nat.le_trans hBw c2) (by decide)),?_⟩
 have k1:=b4.blkT (((((u3.blkT (n1.blk.below n2.below) a3 (by decide)).below b0).below (Za W4)).below a8.below).below a0) c3 (by decide)
 refine xlv (.r [15] 14) k1.rp ?_
 refine xb 1 2 n8 ?_
 have e9:=b4.own2 (Zg hk f1) c3 (by decide)
 refine xr 0 (args:=#[.agg #[V0 lo,V0 hi],.slice kp (Zt (inB l no)) kc]) (Ck lo hi _ (Yx (inB l no) (Zt (inB l no))) _ (Uz (Zh e9) (Qe _ _))) fun a5 a1=>?_
 refine xin 4 (Yw lo hi (Yx (inB l no) (Zt (inB l no)))) (0:Int) (fun r0=>?_) (fun r0=>?_)
 ·refine xd 1 (.t B [173]) ?_
  refine xm2 (.b [1,2]) 0 3 ?_ ?_
  ·have j9:=(n8.below a1).below (Za a5)
   refine xlv 0 j9.rp ?_
   refine yc (.o [] 3) (args:=#[V0 no,.iface 63 (V0 9)]) (.t B [173]) (Qs no (some 9) [] _ _ rfl) ?_
   rintro _ ae ⟨w8,rfl,e4,g9⟩
   refine⟨(SF.of_below _ e4),?_⟩
   rw[Vb] at g9
   obtain⟨u6,s7,rfl⟩:=g9.iface
   have d1:=(((b4.blk ((k2.below a8.below).below a0) (Ne.symm (Ne.symm a9))).below a1).below (Za a5)).below e4
   have g2:=n2.ge0 (blB (Below.refl B w) hBw n1.below)
   refine ysv (.o [] 4) d1 [V0 (Xv (inB l no)),.bool (Xr (inB l no)),.slice kp (Zt (inB l no)) kc,.slice vp (Zt (inB l no)) vc] (.t B [173]) fun z7 m8 v7=>⟨(Zp m8 d1 (Nat.le_trans hBw g2) (by decide)),?_⟩
   have j0:=m8.below (blB (blB (blB (b4.below (blB (blB hB hBw a8.below) hBw a0) (Nat.le_trans hBw c2)) hBw a1) hBw (Za a5)) hBw e4) (Nat.le_trans hBw g2)
   have hO:=(Ze.upd_new ((((Ze.upd_new (((((((show Ze [315] w _ from(Ze.of_below n1.below)).trans (Ze.of_below n2.below)).trans (Ze.of_upd u3 a3 (by decide))).trans (Ze.of_below b0)).trans (Ze.of_below (Za W4))).trans (Ze.of_below a8.below)).trans (Ze.of_below a0)) b4 c2).trans (Ze.of_below a1)).trans (Ze.of_below (Za a5))).trans (Ze.of_below e4)) m8 g2)
   have l9:=m8.blkT ((((b4.blkT ((b6.below a8.below).below a0) c3 (by decide)).below a1).below (Za a5)).below e4) d1 (by decide)
   have g3:=g9.upd m8 d1 (by decide)
   exact xec (.r [5] 5) v7 (.tuple #[.agg #[V0 (Xv (inB l no)),.bool (Xr (inB l no)),.slice kp (Zt (inB l no)) kc,.slice vp (Zt (inB l no)) vc],.iface u6 (s7)]) ⟨j0,hO,l9,.inl ⟨by(unfold Xa;(repeat' split)<;>first|rfl|assumption|decide|omega|exact absurd (Eq.trans (Eq.symm ‹Qt _ _=true›) ‹Qt _ _=false›) (by decide)|(rename_i q;exact absurd ⟨by assumption,by assumption,by assumption⟩ q)|(rename_i q;obtain⟨q1,q2,q3⟩:=q;exact absurd (Eq.trans (Eq.symm q1) ‹Xr _=false›) (by decide))|(rename_i q;obtain⟨q1,q2,q3⟩:=q;omega)),_,_,_,_,_,_,_,_,_,_,rfl,by(unfold Xa;(repeat' split)<;>first|exact g3|(exfalso;omega)|contradiction|exact absurd (Eq.trans (Eq.symm ‹Qt _ _=true›) ‹Qt _ _=false›) (by decide)|(rename_i q;exact absurd ⟨by assumption,by assumption,by assumption⟩ q)|(rename_i q;obtain⟨q1,q2,q3⟩:=q;exact absurd (Eq.trans (Eq.symm q1) ‹Xr _=false›) (by decide))|(rename_i q;obtain⟨q1,q2,q3⟩:=q;omega))⟩⟩
  refine yc 0 (args:=#[V0 no,.iface 63 (V0 9)]) (.t B [173]) (Qs no (some 9) [] _ _ rfl) ?_
  rintro _ x7 ⟨z4,rfl,d8,h8⟩
  refine⟨(SF.of_below _ d8),?_⟩
  rw[Vb] at h8
  obtain⟨v2,u0,rfl⟩:=h8.iface
  have i3:=((n8.below a1).below (Za a5)).below d8
  refine xlv (.o [] 0) i3.rp ?_
  have d3:=(((b4.blk ((k2.below a8.below).below a0) (Ne.symm (Ne.symm a9))).below a1).below (Za a5)).below d8
  have g2:=n2.ge0 (blB (Below.refl B w) hBw n1.below)
  refine ysv (.o [] 4) d3 [V0 (Xv (inB l no)),.bool (Xr (inB l no)),.slice kp (Zt (inB l no)) kc,.slice vp (Zt (inB l no)) vc] (.t B [173]) fun y8 k0 t3=>⟨(Zp k0 d3 (Nat.le_trans hBw g2) (by decide)),?_⟩
  have j8:=k0.below (blB (blB (blB (b4.below (blB (blB hB hBw a8.below) hBw a0) (Nat.le_trans hBw c2)) hBw a1) hBw (Za a5)) hBw d8) (Nat.le_trans hBw g2)
  have hO:=(Ze.upd_new ((((Ze.upd_new (((((((show Ze [315] w _ from(Ze.of_below n1.below)).trans (Ze.of_below n2.below)).trans (Ze.of_upd u3 a3 (by decide))).trans (Ze.of_below b0)).trans (Ze.of_below (Za W4))).trans (Ze.of_below a8.below)).trans (Ze.of_below a0)) b4 c2).trans (Ze.of_below a1)).trans (Ze.of_below (Za a5))).trans (Ze.of_below d8)) k0 g2)
  have m7:=k0.blkT ((((b4.blkT ((b6.below a8.below).below a0) c3 (by decide)).below a1).below (Za a5)).below d8) d3 (by decide)
  have h5:=h8.upd k0 d3 (by decide)
  exact xec (.r [5] 5) t3 (.tuple #[.agg #[V0 (Xv (inB l no)),.bool (Xr (inB l no)),.slice kp (Zt (inB l no)) kc,.slice vp (Zt (inB l no)) vc],.iface v2 (u0)]) ⟨j8,hO,m7,.inl ⟨by(unfold Xa;(repeat' split)<;>first|rfl|assumption|decide|omega|exact absurd (Eq.trans (Eq.symm ‹Qt _ _=true›) ‹Qt _ _=false›) (by decide)|(rename_i q;exact absurd ⟨by assumption,by assumption,by assumption⟩ q)|(rename_i q;obtain⟨q1,q2,q3⟩:=q;exact absurd (Eq.trans (Eq.symm q1) ‹Xr _=false›) (by decide))|(rename_i q;obtain⟨q1,q2,q3⟩:=q;omega)),_,_,_,_,_,_,_,_,_,_,rfl,by(unfold Xa;(repeat' split)<;>first|exact h5|(exfalso;omega)|contradiction|exact absurd (Eq.trans (Eq.symm ‹Qt _ _=true›) ‹Qt _ _=false›) (by decide)|(rename_i q;exact absurd ⟨by assumption,by assumption,by assumption⟩ q)|(rename_i q;obtain⟨q1,q2,q3⟩:=q;exact absurd (Eq.trans (Eq.symm q1) ‹Xr _=false›) (by decide))|(rename_i q;obtain⟨q1,q2,q3⟩:=q;omega))⟩⟩
 refine xd 1 .z ?_
 have b9:=(n8.below a1).below (Za a5)
 refine xb (.e [0] 1) 1 b9 ?_
 refine xg (.b [2]) [69,70] (Xr (inB l no)) (fun s0=>?_) (fun s0=>?_)
 ·have b7:=((b4.blkT ((b6.below a8.below).below a0) c3 (by decide)).below a1).below (Za a5)
  refine xb (.e [3,4,5,6] 7) 2 b7 ?_
  refine xg (.b [8,9,10]) [76,77,78] (deep != (0:Int)) (fun e5=>?_) (fun e5=>?_)
  ·have e5:=Qk e5
   refine xb (.e [11,12,13,14] 15) 2 b7 ?_
   refine xb (.e [16,17,18] 19) 8 b7 ?_
   refine xwm (.e [20] 21) ((way.length:Int)+1) (↑(way.length+1):Int) ?_
   refine xin (.r [22,23,24] 2) deep (↑(way.length+1):Int) (fun q5=>?_) (fun q5=>?_)
   ·refine xd 1 (.t B [173]) ?_
    refine xm2 (.b [1,2]) 0 3 ?_ ?_
    ·have m1:=b9.below (Za a5.drew)
     refine xlv 0 m1.rp ?_
     refine yc (.o [] 3) (args:=#[V0 no,.iface 63 (V0 10)]) (.t B [173]) (Qs no (some 10) [] _ _ rfl) ?_
     rintro _ y1 ⟨z0,rfl,e0,h1⟩
     refine⟨(SF.of_below _ e0),?_⟩
     rw[Vb] at h1
     obtain⟨s9,v6,rfl⟩:=h1.iface
     have d5:=((((b4.blk ((k2.below a8.below).below a0) (Ne.symm (Ne.symm a9))).below a1).below (Za a5)).below (Za a5.drew)).below e0
     have g2:=n2.ge0 (blB (Below.refl B w) hBw n1.below)
     refine ysv (.o [] 4) d5 [V0 (Xv (inB l no)),.bool (Xr (inB l no)),.slice kp (Zt (inB l no)) kc,.slice vp (Zt (inB l no)) vc] (.t B [173]) fun y3 l0 t8=>⟨(Zp l0 d5 (Nat.le_trans hBw g2) (by decide)),?_⟩
     have n6:=l0.below (blB (blB (blB (blB (b4.below (blB (blB hB hBw a8.below) hBw a0) (Nat.le_trans hBw c2)) hBw a1) hBw (Za a5)) hBw (Za a5.drew)) hBw e0) (Nat.le_trans hBw g2)
     have hO:=(Ze.upd_new (((((Ze.upd_new (((((((show Ze [315] w _ from(Ze.of_below n1.below)).trans (Ze.of_below n2.below)).trans (Ze.of_upd u3 a3 (by decide))).trans (Ze.of_below b0)).trans (Ze.of_below (Za W4))).trans (Ze.of_below a8.below)).trans (Ze.of_below a0)) b4 c2).trans (Ze.of_below a1)).trans (Ze.of_below (Za a5))).trans (Ze.of_below (Za a5.drew))).trans (Ze.of_below e0)) l0 g2)
     have l6:=l0.blkT ((b7.below (Za a5.drew)).below e0) d5 (by decide)
     have h4:=h1.upd l0 d5 (by decide)
     exact xec (.r [5] 5) t8 (.tuple #[.agg #[V0 (Xv (inB l no)),.bool (Xr (inB l no)),.slice kp (Zt (inB l no)) kc,.slice vp (Zt (inB l no)) vc],.iface s9 (v6)]) ⟨n6,hO,l6,.inl ⟨by(unfold Xa;(repeat' split)<;>first|rfl|assumption|decide|omega|exact absurd (Eq.trans (Eq.symm ‹Qt _ _=true›) ‹Qt _ _=false›) (by decide)|(rename_i q;exact absurd ⟨by assumption,by assumption,by assumption⟩ q)|(rename_i q;obtain⟨q1,q2,q3⟩:=q;exact absurd (Eq.trans (Eq.symm q1) ‹Xr _=false›) (by decide))|(rename_i q;obtain⟨q1,q2,q3⟩:=q;omega)),_,_,_,_,_,_,_,_,_,_,rfl,by(unfold Xa;(repeat' split)<;>first|exact h4|(exfalso;omega)|contradiction|exact absurd (Eq.trans (Eq.symm ‹Qt _ _=true›) ‹Qt _ _=false›) (by decide)|(rename_i q;exact absurd ⟨by assumption,by assumption,by assumption⟩ q)|(rename_i q;obtain⟨q1,q2,q3⟩:=q;exact absurd (Eq.trans (Eq.symm q1) ‹Xr _=false›) (by decide))|(rename_i q;obtain⟨q1,q2,q3⟩:=q;omega))⟩⟩
    refine yc 0 (args:=#[V0 no,.iface 63 (V0 10)]) (.t B [173]) (Qs no (some 10) [] _ _ rfl) ?_
    rintro _ ab ⟨ad,rfl,d6,g7⟩
    refine⟨(SF.of_below _ d6),?_⟩
    rw[Vb] at g7
    obtain⟨t7,s8,rfl⟩:=g7.iface
    have j7:=(b9.below (Za a5.drew)).below d6
    refine xlv (.o [] 0) j7.rp ?_
    have d4:=((((b4.blk ((k2.below a8.below).below a0) (Ne.symm (Ne.symm a9))).below a1).below (Za a5)).below (Za a5.drew)).below d6
    have g2:=n2.ge0 (blB (Below.refl B w) hBw n1.below)
    refine ysv (.o [] 4) d4 [V0 (Xv (inB l no)),.bool (Xr (inB l no)),.slice kp (Zt (inB l no)) kc,.slice vp (Zt (inB l no)) vc] (.t B [173]) fun ac i7 v4=>⟨(Zp i7 d4 (Nat.le_trans hBw g2) (by decide)),?_⟩
    have i5:=i7.below (blB (blB (blB (blB (b4.below (blB (blB hB hBw a8.below) hBw a0) (Nat.le_trans hBw c2)) hBw a1) hBw (Za a5)) hBw (Za a5.drew)) hBw d6) (Nat.le_trans hBw g2)
    have hO:=(Ze.upd_new (((((Ze.upd_new (((((((show Ze [315] w _ from(Ze.of_below n1.below)).trans (Ze.of_below n2.below)).trans (Ze.of_upd u3 a3 (by decide))).trans (Ze.of_below b0)).trans (Ze.of_below (Za W4))).trans (Ze.of_below a8.below)).trans (Ze.of_below a0)) b4 c2).trans (Ze.of_below a1)).trans (Ze.of_below (Za a5))).trans (Ze.of_below (Za a5.drew))).trans (Ze.of_below d6)) i7 g2)
    have m4:=i7.blkT ((b7.below (Za a5.drew)).below d6) d4 (by decide)
    have h6:=g7.upd i7 d4 (by decide)
    exact xec (.r [5] 5) v4 (.tuple #[.agg #[V0 (Xv (inB l no)),.bool (Xr (inB l no)),.slice kp (Zt (inB l no)) kc,.slice vp (Zt (inB l no)) vc],.iface t7 (s8)]) ⟨i5,hO,m4,.inl ⟨by(unfold Xa;(repeat' split)<;>first|rfl|assumption|decide|omega|exact absurd (Eq.trans (Eq.symm ‹Qt _ _=true›) ‹Qt _ _=false›) (by decide)|(rename_i q;exact absurd ⟨by assumption,by assumption,by assumption⟩ q)|(rename_i q;obtain⟨q1,q2,q3⟩:=q;exact absurd (Eq.trans (Eq.symm q1) ‹Xr _=false›) (by decide))|(rename_i q;obtain⟨q1,q2,q3⟩:=q;omega)),_,_,_,_,_,_,_,_,_,_,rfl,by(unfold Xa;(repeat' split)<;>first|exact h6|(exfalso;omega)|contradiction|exact absurd (Eq.trans (Eq.symm ‹Qt _ _=true›) ‹Qt _ _=false›) (by decide)|(rename_i q;exact absurd ⟨by assumption,by assumption,by assumption⟩ q)|(rename_i q;obtain⟨q1,q2,q3⟩:=q;exact absurd (Eq.trans (Eq.symm q1) ‹Xr _=false›) (by decide))|(rename_i q;obtain⟨q1,q2,q3⟩:=q;omega))⟩⟩
   refine xlv 5 b9.rp ?_
   have d2:=((b4.blk ((k2.below a8.below).below a0) (Ne.symm (Ne.symm a9))).below a1).below (Za a5)
   refine xsv 0 d2 [V0 (Xv (inB l no)),.bool (Xr (inB l no)),.slice kp (Zt (inB l no)) kc,.slice vp (Zt (inB l no)) vc] fun ap m5 v9=>?_
   have g2:=n2.ge0 (blB (Below.refl B w) hBw n1.below)
   have l7:=m5.below (blB (blB (b4.below (blB (blB hB hBw a8.below) hBw a0) (Nat.le_trans hBw c2)) hBw a1) hBw (Za a5)) (Nat.le_trans hBw g2)
   have hO:=(Ze.upd_new (((Ze.upd_new (((((((show Ze [315] w _ from(Ze.of_below n1.below)).trans (Ze.of_below n2.below)).trans (Ze.of_upd u3 a3 (by decide))).trans (Ze.of_below b0)).trans (Ze.of_below (Za W4))).trans (Ze.of_below a8.below)).trans (Ze.of_below a0)) b4 c2).trans (Ze.of_below a1)).trans (Ze.of_below (Za a5))) m5 g2)
   have m6:=m5.blkT b7 d2 (by decide)
   have o5:=m5.own2 (Zb (Zb e9 a1) (Za a5)) d2 (by decide)
   have k4:=m5.own2 (Zb (Zb (b4.own2 (Zg h0 f1) c3 (by decide)) a1) (Za a5)) d2 (by decide)
   exact xec 4 v9 (.tuple #[.agg #[V0 (Xv (inB l no)),.bool (Xr (inB l no)),.slice kp (Zt (inB l no)) kc,.slice vp (Zt (inB l no)) vc],.nilIface]) ⟨l7,hO,m6,.inr ⟨by(unfold Xa;(repeat' split)<;>first|rfl|assumption|decide|omega|exact absurd (Eq.trans (Eq.symm ‹Qt _ _=true›) ‹Qt _ _=false›) (by decide)|(rename_i q;exact absurd ⟨by assumption,by assumption,by assumption⟩ q)|(rename_i q;obtain⟨q1,q2,q3⟩:=q;exact absurd (Eq.trans (Eq.symm q1) ‹Xr _=false›) (by decide))|(rename_i q;obtain⟨q1,q2,q3⟩:=q;omega)),by assumption,_,_,_,_,rfl,o5,k4⟩⟩
  have e5:=Xn e5
  refine xlv (.r [11,12,13,14,15,16,17,18,19,20,21,22,23,24] 8) b9.rp ?_
  have c8:=((b4.blk ((k2.below a8.below).below a0) (Ne.symm (Ne.symm a9))).below a1).below (Za a5)
  refine xsv 0 c8 [V0 (Xv (inB l no)),.bool (Xr (inB l no)),.slice kp (Zt (inB l no)) kc,.slice vp (Zt (inB l no)) vc] fun y5 l8 u8=>?_
  have g2:=n2.ge0 (blB (Below.refl B w) hBw n1.below)
  have j3:=l8.below (blB (blB (b4.below (blB (blB hB hBw a8.below) hBw a0) (Nat.le_trans hBw c2)) hBw a1) hBw (Za a5)) (Nat.le_trans hBw g2)
  have hO:=(Ze.upd_new (((Ze.upd_new (((((((show Ze [315] w _ from(Ze.of_below n1.below)).trans (Ze.of_below n2.below)).trans (Ze.of_upd u3 a3 (by decide))).trans (Ze.of_below b0)).trans (Ze.of_below (Za W4))).trans (Ze.of_below a8.below)).trans (Ze.of_below a0)) b4 c2).trans (Ze.of_below a1)).trans (Ze.of_below (Za a5))) l8 g2)
  have n7:=l8.blkT b7 c8 (by decide)
  have r5:=l8.own2 (Zb (Zb e9 a1) (Za a5)) c8 (by decide)
  have j1:=l8.own2 (Zb (Zb (b4.own2 (Zg h0 f1) c3 (by decide)) a1) (Za a5)) c8 (by decide)
  exact xec 4 u8 (.tuple #[.agg #[V0 (Xv (inB l no)),.bool (Xr (inB l no)),.slice kp (Zt (inB l no)) kc,.slice vp (Zt (inB l no)) vc],.nilIface]) ⟨j3,hO,n7,.inr ⟨by(unfold Xa;(repeat' split)<;>first|rfl|assumption|decide|omega|exact absurd (Eq.trans (Eq.symm ‹Qt _ _=true›) ‹Qt _ _=false›) (by decide)|(rename_i q;exact absurd ⟨by assumption,by assumption,by assumption⟩ q)|(rename_i q;obtain⟨q1,q2,q3⟩:=q;exact absurd (Eq.trans (Eq.symm q1) ‹Xr _=false›) (by decide))|(rename_i q;obtain⟨q1,q2,q3⟩:=q;omega)),by assumption,_,_,_,_,rfl,r5,j1⟩⟩
 refine xlv (.r [3,4,5,6,7,8,9,10,11,12,13,14,15,16,17,18,19,20,21,22,23,24] 8) b9.rp ?_
 have d0:=((b4.blk ((k2.below a8.below).below a0) (Ne.symm (Ne.symm a9))).below a1).below (Za a5)
 refine xsv 0 d0 [V0 (Xv (inB l no)),.bool (Xr (inB l no)),.slice kp (Zt (inB l no)) kc,.slice vp (Zt (inB l no)) vc] fun x1 k6 w5=>?_
 have g2:=n2.ge0 (blB (Below.refl B w) hBw n1.below)
 have m3:=k6.below (blB (blB (b4.below (blB (blB hB hBw a8.below) hBw a0) (Nat.le_trans hBw c2)) hBw a1) hBw (Za a5)) (Nat.le_trans hBw g2)
 have hO:=(Ze.upd_new (((Ze.upd_new (((((((show Ze [315] w _ from(Ze.of_below n1.below)).trans (Ze.of_below n2.below)).trans (Ze.of_upd u3 a3 (by decide))).trans (Ze.of_below b0)).trans (Ze.of_below (Za W4))).trans (Ze.of_below a8.below)).trans (Ze.of_below a0)) b4 c2).trans (Ze.of_below a1)).trans (Ze.of_below (Za a5))) k6 g2)
 have l3:=k6.blkT (((b4.blkT ((b6.below a8.below).below a0) c3 (by decide)).below a1).below (Za a5)) d0 (by decide)
 have r7:=k6.own2 (Zb (Zb e9 a1) (Za a5)) d0 (by decide)
 have j5:=k6.own2 (Zb (Zb (b4.own2 (Zg h0 f1) c3 (by decide)) a1) (Za a5)) d0 (by decide)
 exact xec 4 w5 (.tuple #[.agg #[V0 (Xv (inB l no)),.bool (Xr (inB l no)),.slice kp (Zt (inB l no)) kc,.slice vp (Zt (inB l no)) vc],.nilIface]) ⟨m3,hO,l3,.inr ⟨by(unfold Xa;(repeat' split)<;>first|rfl|assumption|decide|omega|exact absurd (Eq.trans (Eq.symm ‹Qt _ _=true›) ‹Qt _ _=false›) (by decide)|(rename_i q;exact absurd ⟨by assumption,by assumption,by assumption⟩ q)|(rename_i q;obtain⟨q1,q2,q3⟩:=q;exact absurd (Eq.trans (Eq.symm q1) ‹Xr _=false›) (by decide))|(rename_i q;obtain⟨q1,q2,q3⟩:=q;omega)),by assumption,_,_,_,_,rfl,r7,j5⟩⟩
def Vy(K:List Int)(Vs:List Bl)(no:Int)(k:Nat):List Ent:=(List.range k).map fun j=>(K.getD j 0,Vs.getD j [],no)
theorem Jh(K:List Int)(Vs:List Bl)(no:Int)(k:Nat):(Vy K Vs no k).length=k:=by simp[Vy]
theorem Zdj(K:List Int)(Vs:List Bl)(no:Int)(k:Nat):Vy K Vs no (k+1)=Vy K Vs no k++[(K.getD k 0,Vs.getD k [],no)]:=by simp[Vy,List.range_succ]
theorem Ba(es:List Ent)(K:List Int)(Vs:List Bl)(no:Int)(k:Nat):(es++Vy K Vs no k).flatMap Vt++[V0 (K.getD k 0),.string ⟨(Vs.getD k []).toArray⟩,V0 no]=(es++Vy K Vs no (k+1)).flatMap Vt:=by
 rw[Zdj,←List.append_assoc,List.flatMap_append (xs:=es++Vy K Vs no k)]
 rfl
def LeafP(B bw:Nat)(c1 c3 c4 c5 c6 c7:Value)(pw:O0)(cw:Nat)(way:List Int)(c9:Value)(es:List Ent)(K:List Int)(Vs:List Bl)(no:Int)(n:Nat)(w:World)(e:Ending)(w':World):Prop :=
 ∃ u pe ce,e=.returned u∧Below B w w'∧Ze [315,123] w w'∧Blk w' bw [.slice pe (es.length+n) ce,c1,V0 (↑(way.length+1):Int),c3,c4,c5,c6,c7,.slice pw way.length cw,c9] 315∧w'.ownsRow B 123 3 (.slice pe (es.length+n) ce) (es.length+n) ((es++Vy K Vs no n).flatMap Vt)
theorem Oj(B bw:Nat)(c1 c2 c3 c4 c5 c6 c7 c9:Value)(pe:O0)(ce:Nat)(es:List Ent)(pw:O0)(cw:Nat)(way:List Int)(no:Int)(nt:Int)(nl:Bool)(kp vp:O0)(n kc vc:Nat)(K:List Int)(Vs:List Bl)(w:World)(hBb:B≤bw)(hBw:B≤w.heap.size)(kW:Blk w bw [.slice pe es.length ce,c1,c2,c3,c4,c5,c6,c7,.slice pw way.length cw,c9] 315)(hE:w.ownsRow B 123 3 (.slice pe es.length ce) es.length (es.flatMap Vt))(hKs:∀ W,Below B w W→Ze [315,123] w W→Sl W (.slice kp n kc) n (K.map V0))(hVs:∀ W,Below B w W→Ze [315,123] w W→Sl W (.slice vp n vc) n (Vs.map sv))(hKl:K.length=n)(hVl:Vs.length=n)(hwl:way.length≤1000000)(hn:es.length+n≤1000000) :
 C0 256 #[P0 bw,V0 no,.agg #[V0 nt,.bool nl,.slice kp n kc,.slice vp n vc]] w (LeafP B bw c1 c3 c4 c5 c6 c7 pw cw way c9 es K Vs no n w):=by
 refine zin 46 Tryz.func256 ?_
 refine xa 2 [V0 nt,.bool nl,.slice kp n kc,.slice vp n vc] 173 fun b1 W1 n1=>?_
 have a8:=kW.below n1.below
 refine xb 8 8 a8 ?_
 refine xwm 1 ((way.length:Int)+1) (↑(way.length+1):Int) ?_
 refine xs 3 a8 [.slice pe es.length ce,c1,V0 (↑(way.length+1):Int),c3,c4,c5,c6,c7,.slice pw way.length cw,c9] fun W2 u2 k2=>?_
 have k1:=u2.blkT n1.blk a8 (by decide)
 refine xb 5 2 k1 ?_
 have d9:=u2.own2 (Zb hE n1.below) a8 (by decide)
 have hB:=u2.below (blB (Below.refl B w) hBw n1.below) hBb
 have hO:=(show Ze [315,123] w _ from(Ze.of_below n1.below)).trans (Ze.of_upd u2 a8 (by decide))
 refine zl 5 46 (fun zm e6 V=>∃ (i:Nat) (pe:O0) (ce:Nat),e6=[(0,P0 bw),(1,V0 no),(5,P0 b1),(19,.slice kp n kc),(20,V0 (n:Int)),(21,V0 (i:Int))]∧zm=n-((i:Int)).toNat∧Below B w V∧Ze [315,123] w V∧Blk V bw ([.slice pe (es.length+i) ce,c1,V0 (↑(way.length+1):Int),c3,c4,c5,c6,c7,.slice pw way.length cw,c9]) 315∧Blk V b1 ([V0 nt,.bool nl,.slice kp n kc,.slice vp n vc]) 173∧V.ownsRow B 123 3 (.slice pe (es.length+i) ce) (es.length+i) ((es++Vy K Vs no i).flatMap Vt)∧i≤n) ⟨0,_,_,rfl,rfl,hB,hO,k2,k1,(by simpa [Vy] using d9),Nat.zero_le _⟩ ?_
 rintro _ _ W3 ⟨i,pe,ce,rfl,rfl,b0,b4,a9,c0,hE,hi⟩ J3 e2 r3
 refine xid 6 ((i:Int)<(n:Int)) (fun e8=>?_) (fun e8=>?_)
 ·refine xx 7 _ n i 1 (IntsN.elem (hKs _ b0 b4) hKl (k:=i) (by omega)).1 ?_
  refine xl 0 ((IntsN.elem (hKs _ b0 b4) hKl (k:=i) (by omega)).2) ?_
  refine xd 4 (.t B [315,123]) ?_
  have a2:=c0.below (Za W3)
  refine xbt (.e [0,1,2,3,4,6,7] 8) 3 B [315,123] a2 ?_
  have a5:=blB b0 hBw (Za W3)
  have b3:=b4.trans (Ze.of_below (Za W3))
  refine xx (.e [9] 10) _ n i 1 (Strs.elem (hVs _ a5 b3) hVl (k:=i) (by omega)).1 ?_
  refine xlt (.e [] 11) (.t B [315,123]) (fun V hV=>(Strs.elem (hVs _ (Kb a5 hV hBw) (b3.trans hV.2)) hVl (k:=i) (by omega)).2) ?_
  refine xm2 (.b [12,13]) 5 14 ?_ ?_
  ·have a3:=a9.below (Za W3)
   refine xb 0 0 a3 ?_
   refine xbs (.o [] 14) 1 [V0 (K.getD i 0),.string ⟨(Vs.getD i []).toArray⟩,V0 no] 123 fun b5 W5 n5=>?_
   have g5:=n5.ge0 a5
   have d0:=Zb hE (Za W3)
   have e4:=Zx d0 n5
   have a7:=Zb d0 n5.below
   have c8:=blB a5 hBw n5.below
   refine ybi (.o [] 15) (.t B [315,123]) fun _ _ _ _ zJ zQ zo zx zy zK=>Zw (m:=1) (news:=[V0 (K.getD i 0),.string ⟨(Vs.getD i []).toArray⟩,V0 no]) (.agg #[V0 0,.string ⟨#[]⟩,V0 0]) 3 32 ((es.length+(i+1))) (((es++Vy K Vs no (i+1)).flatMap Vt)) zo Tryz.underlying88 (by kernel_rfl) rfl (by decide) zx a7 zy (n5.blk.sl 1 1 (by decide) (by decide)) rfl (by simp[Value.oneCell']) (by unfold maxLen;omega) (by omega) (Nat.le_trans hBw c8.size) (by omega) (Ba _ _ _ _ _) fun f1 e7 W6 o6 d2 e1=>?_
   refine zK _ _ (Zu e1 d2 a7 (by decide)) ?_
   have a1:=(a3.below n5.below).grown d2 a7 (by decide)
   refine ys (.o [16,17,18] 19) a1 [.slice f1 (es.length+(i+1)) e7,c1,V0 (↑(way.length+1):Int),c3,c4,c5,c6,c7,.slice pw way.length cw,c9] (.t B [315,123]) fun W7 u7 k7=>⟨(Zp u7 a1 hBb (by decide)),?_⟩
   refine xwm 4 ((i:Int)+1) (↑(i+1):Int) ?_
   have d5:=u7.below (c8.trans e1) hBb
   have d4:=((b3.trans (Ze.of_below n5.below)).trans (Ze.of_grown d2 a7 (by decide))).trans (Ze.of_upd u7 a1 (by decide))
   have b6:=u7.blkT ((a2.below n5.below).grown d2 a7 (by decide)) a1 (by decide)
   have d6:=u7.own2 o6 a1 (by decide)
   exact ze 2 (e2 _ _ _ ⟨i+1,_,_,rfl,rfl,d5,d4,k7,b6,d6,by omega⟩ (by omega))
  refine xbs 0 1 [V0 (K.getD i 0),.string ⟨(Vs.getD i []).toArray⟩,V0 no] 123 fun b8 W8 n8=>?_
  have g8:=n8.ge0 a5
  have b7:=Zb hE (Za W3)
  have e3:=Zx b7 n8
  have a4:=(a9.below (Za W3)).below n8.below
  refine xb (.o [] 5) 0 a4 ?_
  have a6:=Zb b7 n8.below
  have b9:=blB a5 hBw n8.below
  refine ybi (.o [] 15) (.t B [315,123]) fun _ _ _ _ zJ zQ zo zx zy zK=>Zw (m:=1) (news:=[V0 (K.getD i 0),.string ⟨(Vs.getD i []).toArray⟩,V0 no]) (.agg #[V0 0,.string ⟨#[]⟩,V0 0]) 3 32 ((es.length+(i+1))) (((es++Vy K Vs no (i+1)).flatMap Vt)) zo Tryz.underlying88 (by kernel_rfl) rfl (by decide) zx a6 zy (n8.blk.sl 1 1 (by decide) (by decide)) rfl (by simp[Value.oneCell']) (by unfold maxLen;omega) (by omega) (Nat.le_trans hBw b9.size) (by omega) (Ba _ _ _ _ _) fun e9 f0 W9 o9 d3 e5=>?_
  refine zK _ _ (Zu e5 d3 a6 (by decide)) ?_
  have a0:=a4.grown d3 a6 (by decide)
  refine ys (.o [16,17,18] 19) a0 [.slice e9 (es.length+(i+1)) f0,c1,V0 (↑(way.length+1):Int),c3,c4,c5,c6,c7,.slice pw way.length cw,c9] (.t B [315,123]) fun f3 d1 f2=>⟨(Zp d1 a0 hBb (by decide)),?_⟩
  refine xwm 4 ((i:Int)+1) (↑(i+1):Int) ?_
  have e0:=d1.below (b9.trans e5) hBb
  have d8:=((b3.trans (Ze.of_below n8.below)).trans (Ze.of_grown d3 a6 (by decide))).trans (Ze.of_upd d1 a0 (by decide))
  have b2:=d1.blkT ((a2.below n8.below).grown d3 a6 (by decide)) a0 (by decide)
  have d7:=d1.own2 o9 a0 (by decide)
  exact ze 2 (e2 _ _ _ ⟨i+1,_,_,rfl,rfl,e0,d8,f2,b2,d7,by omega⟩ (by omega))
 refine xe 4 (.tuple #[]) ?_
 obtain rfl:i=n:=by omega
 exact⟨_,_,_,rfl,b0,b4,a9,hE⟩
end Go.Proofs.YtegcamkgeacjfaaGreatDoor
namespace Go.Proofs.YtegcamkgeacjfaaGreatDoor
set_option maxHeartbeats 8000000
set_option maxRecDepth 100000
open Go.RowKit Go.Extern.Stop Go.Stop Go.Extern
set_option linter.unusedVariables false
def Vg(u v:Value):Prop:=∀ j,u.ownBlock=some j→v.ownBlock≠some j
theorem Vg.symm{u v:Value}(h:Vg u v):Vg v u:=fun j h1 h2=>h j h2 h1
theorem Vg.grow{w:World}{u v u':Value}{base e size n:Nat}{xs:List Value}(h:Vg u v)(k:w.ownsRow base e size v n xs)(hl:u'.ownBlock=u.ownBlock∨u'.ownBlock=some w.heap.size):Vg u' v:=by
 rintro j h1 h2
 rcases hl with hl|hl
 ·exact h j (hl▸h1) h2
 ·rw[hl,Option.some.injEq] at h1
  subst h1
  have:=(k.lt _ h2).2
  omega
theorem Vg.row{w W:World}{u v:Value}{base e size n:Nat}{xs:List Value}(h:Vg u v)(k:w.ownsRow base e size v n xs)(hg:w.grownBy W u.ownBlock):W.ownsRow base e size v n xs:=by
 obtain⟨h1,h2⟩:=k
 refine⟨h1,?_⟩
 rcases h2 with h2|⟨g,a0,a1,rfl,hb,hh,r⟩
 ·exact Or.inl h2
 ·exact Or.inr ⟨g,a0,a1,rfl,hb,(hg.block g (Array.getElem?_eq_some_iff.1 hh).1 (fun q=>h g q.symm rfl)).trans hh,r⟩
theorem Vg.of_lt{w W:World}{u v:Value}{base base2 e e2 size size2 n n2:Nat}{xs ys:List Value}(k:w.ownsRow base e size u n xs)(q:W.ownsRow base2 e2 size2 v n2 ys)(h:w.heap.size≤base2):Vg u v:=fun j h1 h2=>by
 have:=(k.lt j h1).2
 have:=(q.lt j h2).1
 omega
theorem Vg.nil(v:Value):Vg (S0) v:=fun j h=>by cases h
theorem own_cut{w:World}{base e n m c:Nat}{p:O0}{xs:List Value}(k:w.ownsRow base e 1 (.slice p n c) n xs)(hm:m≤n)(hp:p.isSome=true):w.ownsRow base e 1 (.slice p m c) m (xs.take m):=by
 obtain⟨h1,h2⟩:=k
 refine⟨by rw[List.length_take];omega,?_⟩
 rcases h2 with ⟨h2,_⟩|⟨g,a4,a1,hv,hb,hh,hc,a2,a0,a3⟩
 ·cases h2;cases hp
 ·simp only[Value.slice.injEq] at hv
  obtain⟨rfl,_,rfl⟩:=hv
  refine Or.inr ⟨g,c,a1,rfl,hb,hh,by omega,a2,a0,?_⟩
  rw[←a3,List.take_take]
  congr 1
  omega
theorem Cg{P:Program}{a:Act}{w:World}{K:Act→World→Prop}{Q:Exit→Act→World→Prop}{o:Oper}{s x:Operand}{t e te:TypeId}{base:Nat}{v:Value}{n:Nat}{xs:List Value}{b m c:Nat}{news:List Value}(z:Value)(size bytes n':Nat)(xs':List Value)
 (ho:o.op=.call { callee:=.builtin .append,args:=#[s,x],argTypes:=#[t,t] }) (ht:P.underlying t=some (.slice e)) (hi:(P.info? e).map (fun i=>(i.zero,i.size,i.bytes))=some (some z,size,bytes)) (hzs:z.cells.size=size) (hsz:0<size) (hs:a.eval s=v)
 (hown:w.ownsRow base e size v n xs) (hx:a.eval x=.slice (S1 b) m c) (hnew:Blk w b news te) (hl:news.length=m*size) (h1:∀ u∈news,u.oneCell'=true) (h63:n+m≤maxLen) (hbytes:(n+m)*bytes≤140737488355328) (hbase:base≤w.heap.size) (hn:n+m=n') (hxs:xs++news=xs')
 (h:∀ p c W,W.ownsRow base e size (.slice p n' c) n' xs'→w.grownBy W v.ownBlock→Below base w W→((Value.slice p n' c).ownBlock=v.ownBlock∨(Value.slice p n' c).ownBlock=some w.heap.size)→K (a.put o.dst (.slice p n' c)) W):o.wp P a w K Q:=by
 cases hq:P.info? e with
 | none=>simp[hq] at hi
 | some i =>
  simp only[hq,Option.map_some,Option.some.injEq,Prod.mk.injEq] at hi
  have hc:∀ j u,news[j]? = some u→w.cell? ((⟨b,0,none⟩:Addr).add j)=some u:=fun j u hj=>by
   have hc:=hnew.cell hj
   by_cases h0:j=0
   ·subst h0;simpa [Addr.add] using hc
   ·simpa [Addr.add,h0] using hc
  obtain⟨v',W,hr,h2,h3,_,h5⟩:=run_append_own_at (P:=P) w base t o.type e i z size bytes ht hq hi.1 hi.2.1 hi.2.2 hzs hsz v n xs hown ⟨b,0,none⟩ m c news hl hc h1 h63 hbytes hbase
  subst hn hxs
  obtain⟨p,c2,rfl⟩:=(Zh h2).slice
  unfold Oper.wp execOp
  simp only[ho,resolve,invoke,builtin,Sem.run_bind,Sem.run_pure,Result.andThen_ok,List.map_toArray,List.map_cons,List.map_nil,hs,hx,hr]
  exact h p c2 W h2 h3 (Jj h3 hown (Nat.le_refl _) hbase) h5
structure WS where
 es:List Ent
 bs:List Int
 deep:Int
 looked:Nat
 fs:List (List Int×Int)
 dry:Bool
def Yn(way bs:List Int)(c:Int)(s:WS):WS:={ s with fs:=s.fs++[(way++bs,c)] }
def Kd(V:List Int→Int→Int→Int→WS→WS)(way:List Int)(no:Int)(val:Bl)(p:Int×Int)(s:WS):WS :=
 if Xo val=0 then V (way++[no]) (Zo val:Int) p.1 p.2 s else Yn way [no] (Xo val) s
def Ya(l:Bl)(no:Int):List Int:=Yx (inB l no) (Zt (inB l no))
def Qy(l:Bl)(no:Int):List Bl:=Vw (inB l no) (Zt (inB l no))
def Pc(V:List Int→Int→Int→Int→WS→WS)(l:Bl)(way:List Int)(no hi:Int)(s:WS)(i:Nat):WS :=
 if s.dry=true then s else Kd V way no ((Qy l no).getD i []) (Xg hi (Ya l no) i) s
def Ys(V:List Int→Int→Int→Int→WS→WS)(l:Bl)(way:List Int)(no hi:Int)(k:Nat)(s:WS):WS:=(List.range k).foldl (Pc V l way no hi) s
def Xb(l:Bl)(tree fuel:Int):Nat→List Int→Int→Int→Int→WS→WS
 | 0,_,_,_,_,s=>s
 | d+1,way,no,lo,hi,s =>
  if fuel≤s.looked then { Yn way [no] 12 s with dry:=true }
  else if Xa l way no tree lo hi s.deep≠0 then Yn way [no] (Xa l way no tree lo hi s.deep) { s with looked:=s.looked+1 }
  else if Xr (inB l no)=true then { s with looked:=s.looked+1,bs:=s.bs++[no],deep:=((way.length+1:Nat):Int),es:=s.es++Vy (Ya l no) (Qy l no) no (Zt (inB l no)) }
  else Ys (Xb l tree fuel d) l way no hi (Zt (inB l no)) { s with looked:=s.looked+1,bs:=s.bs++[no] }
theorem Uu(V:List Int→Int→Int→Int→WS→WS)(l:Bl)(way:List Int)(no hi:Int)(k:Nat)(s:WS):Ys V l way no hi (k+1) s=Pc V l way no hi (Ys V l way no hi k s) k:=by
 simp[Ys,List.range_succ]
theorem Ze2(V:List Int→Int→Int→Int→WS→WS)(l:Bl)(way:List Int)(no hi:Int)(s:WS)(i:Nat)(h:s.dry=true):Pc V l way no hi s i=s:=by simp[Pc,h]
theorem Zfo(V:List Int→Int→Int→Int→WS→WS)(l:Bl)(way:List Int)(no hi:Int)(s:WS){k n:Nat}(hk:k≤n)(h:(Ys V l way no hi k s).dry=true):Ys V l way no hi n s=Ys V l way no hi k s:=by
 induction n with
 | zero =>
  obtain rfl:k=0:=by omega
  rfl
 | succ n ih =>
   rcases Nat.lt_or_ge n k with q|q
   ·obtain rfl:k=n+1:=by omega
    rfl
   ·rw[Uu,ih q,Ze2 _ _ _ _ _ _ _ h]
def Kh(w:World):List (List Int×Int)→List Value→Prop
 | [],[]=>True
 | f::r,v::q=>Kl w (f.1.map some) (some f.2) v∧Kh w r q
 | _,_=>False
theorem Kh.kept{w W:World}(hb:∀ blk cs,Blk w blk cs 188→Blk W blk cs 188):∀ {fs:List (List Int×Int)} {vs:List Value},Kh w fs vs→Kh W fs vs
 | [],[],h=>h
 | _::_,_::_,h=>⟨h.1.kept hb,Kh.kept hb h.2⟩
 | [],_::_,h=>h.elim
 | _::_,[],h=>h.elim
theorem Kh.only{T:List TypeId}{w W:World}{fs:List (List Int×Int)}{vs:List Value}(h:Kh w fs vs)(k:Ze T w W)(hT:T.contains 188=false):Kh W fs vs:=h.kept fun _ _ q=>q.only k hT
theorem Kh.below{w W:World}{fs:List (List Int×Int)}{vs:List Value}(h:Kh w fs vs)(hb:B0 w W):Kh W fs vs:=h.kept fun _ _ q=>q.below hb
theorem Kh.snoc{w:World}{f:List Int×Int}{v:Value}(hv:Kl w (f.1.map some) (some f.2) v):∀ {fs:List (List Int×Int)} {vs:List Value},Kh w fs vs→Kh w (fs++[f]) (vs++[v])
 | [],[],_=>⟨hv,trivial⟩
 | _::_,_::_,h=>⟨h.1,Kh.snoc hv h.2⟩
 | [],_::_,h=>h.elim
 | _::_,[],h=>h.elim
structure WalkR(B bw Bi b:Nat)(pi:Option Addr)(ni ci:Nat)(l:List UInt8)(tree fuel:Int)(way:List Int)(s:WS)(pe pb pf pw:Option Addr)(ce cb cf cw:Nat)(fv:List Value)(w:World):Prop where
 blk:Blk w bw [.slice pe s.es.length ce,.slice pb s.bs.length cb,.int .i64 s.deep,.int .i64 (s.looked:Int),.slice pf s.fs.length cf,.pointer (some ⟨b,0,none⟩),.int .i64 tree,.int .i64 fuel,.slice pw way.length cw,.bool s.dry] 315
 ents:w.ownsRow B 123 3 (.slice pe s.es.length ce) s.es.length (s.es.flatMap Vt)
 blks:w.ownsRow B 3 1 (.slice pb s.bs.length cb) s.bs.length (s.bs.map (Value.int .i64))
 flts:w.ownsRow B 29 1 (.slice pf s.fs.length cf) s.fs.length fv
 fltv:Kh w s.fs fv
 ways:w.ownsRow B 3 1 (.slice pw way.length cw) way.length (way.map (Value.int .i64))
 apart:Vg (.slice pb s.bs.length cb) (.slice pw way.length cw)
 img:ImgR Bi b pi ni ci l w
def Zgv(B bw Bi b:Nat)(pi:O0)(ni ci:Nat)(l:Bl)(tree fuel:Int)(way:List Int)(t:WS)(w:World)(e:Ending)(w':World):Prop :=
 ∃ u pe pb pf pw ce cb cf cw fv,e=.returned u∧Below B w w'∧Ze [315,123,3,29] w w'∧WalkR B bw Bi b pi ni ci l tree fuel way t pe pb pf pw ce cb cf cw fv w'
end Go.Proofs.YtegcamkgeacjfaaGreatDoor
namespace Go.Proofs.YtegcamkgeacjfaaGreatDoor
set_option maxHeartbeats 8000000
set_option maxRecDepth 100000
open Go.RowKit Go.Extern.Stop Go.Stop Go.Extern
set_option linter.unusedVariables false
attribute [local irreducible] wpList wpAnyH Code.wp Oper.wp Go
theorem Bo{w:World}{base e n c:Nat}{p:O0}{xs:List Value}(k:w.ownsRow base e 1 (.slice p n c) n xs)(hn:0<n):p.isSome=true∧n≤c:=by
 rcases k.2 with ⟨h,_⟩|⟨g,a0,a1,hv,_,_,hc,_⟩
 ·simp only[Value.slice.injEq] at h;omega
 ·simp only[Value.slice.injEq] at hv
  obtain⟨rfl,_,rfl⟩:=hv
  exact⟨rfl,hc⟩
theorem Df{w:World}{base e c:Nat}{p:O0}{way:List Int}{no:Int}(k:w.ownsRow base e 1 (.slice p (way++[no]).length c) (way++[no]).length ((way++[no]).map V0)):w.ownsRow base e 1 (.slice p way.length c) way.length (way.map V0):=by
 have h:=own_cut (m:=way.length) k (by simp) (Bo k (by simp)).1
 rwa [List.map_append,List.take_left' (by simp)] at h
theorem Zaw{w w':World}(h:Ze [315,29] w w'):Ze [315,123,3,29] w w':=h.mono fun t ht=>by
 simp only[List.contains_cons,List.contains_nil,Bool.or_eq_false_iff] at ht ⊢
 exact⟨ht.1,ht.2.2.2⟩
def Zf0(B bw Bi b:Nat)(pi:O0)(ni ci:Nat)(l:Bl)(tree fuel:Int)(d:Nat):Prop :=
 ∀ (way:List Int) (no lo hi:Int) (s:WS) (pe pb pf pw:O0) (ce cb cf cw:Nat) (fv:List Value) (w:World),way.length+d=17→B≤w.heap.size→s.dry=false→WalkR B bw Bi b pi ni ci l tree fuel way s pe pb pf pw ce cb cf cw fv w →
  (Xb l tree fuel d way no lo hi s).es.length≤1000000→(Xb l tree fuel d way no lo hi s).bs.length≤1000000→(Xb l tree fuel d way no lo hi s).fs.length≤1000000 →
  C0 200 #[P0 bw,V0 no,.agg #[V0 lo,V0 hi]] w (Zgv B bw Bi b pi ni ci l tree fuel way (Xb l tree fuel d way no lo hi s) w)
theorem Ta(B bw Bi b:Nat)(pi:O0)(ni ci:Nat)(l:Bl)(tree fuel:Int)(d:Nat)(hV:Zf0 B bw Bi b pi ni ci l tree fuel d)(way:List Int)(no lo hi:Int)(val:Bl)(s:WS)(pe pb pf pw:O0)(ce cb cf cw:Nat)(fv:List Value)(w:World)(hBb:B≤bw)(hBw:B≤w.heap.size)(hwd:way.length+1+d=17)(hdry:s.dry=false)(hvl:val.length≤1000)(hR:WalkR B bw Bi b pi ni ci l tree fuel (way++[no]) s pe pb pf pw ce cb cf cw fv w)(he:(Kd (Xb l tree fuel d) way no val (lo,hi) s).es.length≤1000000)(hb_:(Kd (Xb l tree fuel d) way no val (lo,hi) s).bs.length≤1000000)(hf:(Kd (Xb l tree fuel d) way no val (lo,hi) s).fs.length≤1000000) :
 C0 258 #[P0 bw,V0 no,.string ⟨val.toArray⟩,.agg #[V0 lo,V0 hi]] w (Zgv B bw Bi b pi ni ci l tree fuel (way++[no]) (Kd (Xb l tree fuel d) way no val (lo,hi) s) w):=by
 obtain⟨kW,d2,d1,d3,d4,c5,d0,hI⟩:=hR
 have e6:=(Bo c5 (by simp)).2
 have e3:(way++[no]).length=way.length+1:=by simp
 refine zin 44 Tryz.func258 ?_
 refine xa 2 [V0 lo,V0 hi] 214 fun b1 W1 n1=>?_
 refine xr 5 (args:=#[.string ⟨val.toArray⟩]) (Jv val _ hvl) fun W2 a0=>?_
 refine xie 14 (Xo val) (0:Int) (fun d8=>?_) (fun d8=>?_)
 ·have k1:=n1.blk.below a0
  refine xlv 4 k1.rp ?_
  have a5:Kd (Xb l tree fuel d) way no val (lo,hi) s=Xb l tree fuel d (way++[no]) (Zo val:Int) lo hi s:=by unfold Kd;rw[if_pos (by assumption)]
  have hB:=blB (blB (Below.refl B w) hBw n1.below) hBw a0
  have c2:=(kW.below n1.below).below a0
  have b7:=Zb (Zb d2 n1.below) a0
  have b3:=Zb (Zb d1 n1.below) a0
  have b0:=Zb (Zb d3 n1.below) a0
  have b5:=(d4.below n1.below).below a0
  have b2:=Zb (Zb c5 n1.below) a0
  have c8:=(hI.below n1.below).below a0
  refine xc 0 (args:=#[P0 bw,V0 (↑(Zo val):Int),.agg #[V0 lo,V0 hi]]) (hV (way++[no]) (Zo val:Int) lo hi s pe pb pf pw ce cb cf cw fv _ (by simp;omega) (Nat.le_trans hBw hB.size) hdry ⟨c2,b7,b3,b0,b5,b2,d0,c8⟩ (by have q:=he;rw[a5] at q;exact q) (by have q:=hb_;rw[a5] at q;exact q) (by have q:=hf;rw[a5] at q;exact q)) ?_
  rintro _ W4 ⟨u4,e4,e9,c0,e5,e2,e1,c7,e8,e7,rfl,e0,d7,d5⟩
  have c1:=hB.trans e0
  have hO:=((show Ze [315,123,3,29] w _ from(Ze.of_below n1.below)).trans (Ze.of_below a0)).trans d7
  refine xe 4 (.tuple #[]) ?_
  rw[a5]
  exact⟨_,_,_,_,_,_,_,_,_,_,rfl,c1,hO,d5⟩
 have a1:=(kW.below n1.below).below a0
 refine xb 7 8 a1 ?_
 refine xwm 9 ((↑((way++[no]).length):Int)-1) (↑(((way++[no]).length)-1):Int) ?_
 refine xsH 0 (fun _ _ _ _ zo zx zy V=>Qo (k:=(((way++[no]).length)-1)) (b:=pw) (n:=(way++[no]).length) (c:=cw) (i:=(↑(((way++[no]).length)-1):Int)) (ki:=.i64) zo zx zy rfl (by omega) Tryz.underlying33 (by kernel_rfl) V) ?_
 refine xs 2 a1 [.slice pe s.es.length ce,.slice pb s.bs.length cb,V0 s.deep,V0 (s.looked:Int),.slice pf s.fs.length cf,P0 b,V0 tree,V0 fuel,.slice pw (((way++[no]).length)-1) cw,.bool s.dry] fun W5 u5 k5=>?_
 refine xc 8 (args:=#[V0 no,.iface 63 (V0 (Xo val))]) (Qs no (some (Xo val)) [] _ _ rfl) ?_
 rintro _ W6 ⟨r6,rfl,a2,c3⟩
 rw[Vb] at c3
 obtain⟨t6,x6,rfl⟩:=c3.iface
 have b4:=k5.below a2
 have a5:Kd (Xb l tree fuel d) way no val (lo,hi) s=Yn way [no] (Xo val) s:=by unfold Kd;rw[if_neg (by assumption)]
 rw[show(way++[no]).length-1=way.length by omega] at b4
 have hB:=blB (u5.below (blB (blB (Below.refl B w) hBw n1.below) hBw a0) hBb) hBw a2
 have b8:=Zb (u5.own2 (Zb (Zb d3 n1.below) a0) a1 (by decide)) a2
 have a3:=Zb (u5.own2 (Zb (Zb c5 n1.below) a0) a1 (by decide)) a2
 refine xc 0 (args:=#[P0 bw,.iface t6 (x6)]) (Wx B bw _ _ _ _ _ _ _ _ pf _ cf fv pw cw way [no] (Xo val) _ _ _ hBb (Nat.le_trans hBw hB.size) b4 b8 (Df a3) c3 (by omega) (by have:=hf;rw[a5] at this;simp[Yn] at this;omega)) ?_
 rintro _ W7 ⟨u7,c0,c7,t2,x2,rfl,d6,a6,kN,c9,d9⟩
 refine xs 7 kN [.slice pe s.es.length ce,.slice pb s.bs.length cb,V0 s.deep,V0 (s.looked:Int),.slice c0 (s.fs.length+1) c7,P0 b,V0 tree,V0 fuel,.slice pw ((way++[no]).length) cw,.bool s.dry] fun W8 u8 k8=>?_
 have c6:=u8.below (hB.trans d6) hBb
 have hO:=(((((show Ze [315,123,3,29] w _ from(Ze.of_below n1.below)).trans (Ze.of_below a0)).trans (Ze.of_upd u5 a1 (by decide))).trans (Ze.of_below a2)).trans (Zaw a6)).trans (Ze.of_upd u8 kN (by decide))
 have b6:=u8.own2 (Zn (Zb (u5.own2 (Zb (Zb d2 n1.below) a0) a1 (by decide)) a2) a6 (by decide)) kN (by decide)
 have a9:=u8.own2 (Zn (Zb (u5.own2 (Zb (Zb d1 n1.below) a0) a1 (by decide)) a2) a6 (by decide)) kN (by decide)
 have a4:=u8.own2 c9 kN (by decide)
 have a8:=d9.upd u8 kN (by decide)
 have a7:=(((((d4.below n1.below).below a0).only (Ze.of_upd (T:=[315]) u5 a1 (by decide)) (by decide)).below a2).only a6 (by decide)).only (Ze.of_upd (T:=[315]) u8 kN (by decide)) (by decide)
 have b9:=u8.own2 (Zn a3 a6 (by decide)) kN (by decide)
 have c4:=(((((hI.below n1.below).below a0).only (Ze.of_upd (T:=[315]) u5 a1 (by decide)) (by decide)).below a2).only a6 (by decide)).only (Ze.of_upd (T:=[315]) u8 kN (by decide)) (by decide)
 refine xe 1 (.tuple #[]) ?_
 rw[a5]
 exact⟨_,pe,pb,c0,pw,ce,cb,c7,cw,_,rfl,c6,hO,by simpa [Yn] using k8,b6,a9,by simpa [Yn] using a4,Kh.snoc a8 a7,b9,d0,c4⟩
end Go.Proofs.YtegcamkgeacjfaaGreatDoor
namespace Go.Proofs.YtegcamkgeacjfaaGreatDoor
set_option maxHeartbeats 8000000
set_option maxRecDepth 100000
open Go.RowKit Go.Extern.Stop Go.Stop Go.Extern
set_option linter.unusedVariables false
def Be(s t:WS):Prop:=s.es.length≤t.es.length∧s.bs.length≤t.bs.length∧s.fs.length≤t.fs.length
theorem Be.refl(s:WS):Be s s:=⟨Nat.le_refl _,Nat.le_refl _,Nat.le_refl _⟩
theorem Be.trans{s t u:WS}(h:Be s t)(k:Be t u):Be s u:=⟨Nat.le_trans h.1 k.1,Nat.le_trans h.2.1 k.2.1,Nat.le_trans h.2.2 k.2.2⟩
theorem Ez(way bs:List Int)(c:Int)(s:WS):Be s (Yn way bs c s):=⟨Nat.le_refl _,Nat.le_refl _,by simp[Yn]⟩
theorem On{V:List Int→Int→Int→Int→WS→WS}(hV:∀ way no lo hi s,Be s (V way no lo hi s))(way:List Int)(no:Int)(val:Bl)(p:Int×Int)(s:WS):Be s (Kd V way no val p s):=by
 unfold Kd
 split
 ·exact hV _ _ _ _ _
 ·exact Ez _ _ _ _
theorem Od{V:List Int→Int→Int→Int→WS→WS}(hV:∀ way no lo hi s,Be s (V way no lo hi s))(l:Bl)(way:List Int)(no hi:Int)(s:WS)(i:Nat):Be s (Pc V l way no hi s i):=by
 unfold Pc
 split
 ·exact Be.refl _
 ·exact On hV _ _ _ _ _
theorem Ri{V:List Int→Int→Int→Int→WS→WS}(hV:∀ way no lo hi s,Be s (V way no lo hi s))(l:Bl)(way:List Int)(no hi:Int)(s:WS){k n:Nat}(hk:k≤n):Be (Ys V l way no hi k s) (Ys V l way no hi n s):=by
 induction n with
 | zero =>
  obtain rfl:k=0:=by omega
  exact Be.refl _
 | succ n ih =>
   rcases Nat.lt_or_ge n k with q|q
   ·obtain rfl:k=n+1:=by omega
    exact Be.refl _
   ·rw[Uu]
    exact(ih q).trans (Od hV _ _ _ _ _ _)
theorem Zev(V:List Int→Int→Int→Int→WS→WS)(l:Bl)(way:List Int)(no hi:Int)(s:WS):Ys V l way no hi 0 s=s:=rfl
theorem Hv(l:Bl)(tree fuel:Int):∀ (d:Nat) (way:List Int) (no lo hi:Int) (s:WS),Be s (Xb l tree fuel d way no lo hi s)
 | 0,_,_,_,_,s=>Be.refl s
 | d+1,way,no,lo,hi,s=>by
  unfold Xb
  split
  ·exact⟨Nat.le_refl _,Nat.le_refl _,by simp[Yn]⟩
  ·split
   ·exact⟨Nat.le_refl _,Nat.le_refl _,by simp[Yn]⟩
   ·split
    ·exact⟨by simp,by simp,Nat.le_refl _⟩
    ·refine Be.trans ⟨?_,?_,?_⟩ (Ri (Hv l tree fuel d) l way no hi _ (Nat.zero_le _))
     ·exact Nat.le_refl _
     ·simp[Zev]
     ·exact Nat.le_refl _
section
variable {B bw Bi b:Nat} {pi:Option Addr} {ni ci:Nat} {l:List UInt8} {tree fuel:Int} {way:List Int} {s:WS} {pe pb pf pw:Option Addr} {ce cb cf cw:Nat} {fv:List Value} {w W:World}
theorem WalkR.below(h:WalkR B bw Bi b pi ni ci l tree fuel way s pe pb pf pw ce cb cf cw fv w)(hb:B0 w W):WalkR B bw Bi b pi ni ci l tree fuel way s pe pb pf pw ce cb cf cw fv W :=
 ⟨h.blk.below hb,Zb h.ents hb,Zb h.blks hb,Zb h.flts hb,h.fltv.below hb,Zb h.ways hb,h.apart,h.img.below hb⟩
theorem WalkR.only{T:List TypeId}(h:WalkR B bw Bi b pi ni ci l tree fuel way s pe pb pf pw ce cb cf cw fv w)(hO:Ze T w W)
 (hT:T.contains 315=false∧T.contains 123=false∧T.contains 3=false∧T.contains 29=false∧T.contains 188=false∧T.contains 95=false∧T.contains 5=false):WalkR B bw Bi b pi ni ci l tree fuel way s pe pb pf pw ce cb cf cw fv W :=
 ⟨h.blk.only hO hT.1,Zn h.ents hO hT.2.1,Zn h.blks hO hT.2.2.1,Zn h.flts hO hT.2.2.2.1,h.fltv.only hO hT.2.2.2.2.1,Zn h.ways hO hT.2.2.1,h.apart,h.img.only hO ⟨hT.2.2.2.2.2.1,hT.2.2.2.2.2.2⟩⟩
end
end Go.Proofs.YtegcamkgeacjfaaGreatDoor
