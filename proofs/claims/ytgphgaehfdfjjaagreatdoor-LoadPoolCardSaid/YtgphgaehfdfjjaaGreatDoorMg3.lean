/- The document's answer for layer 1, read: width, room, Get, Unpack, Zero. -/
import Derived.Test.YtgphgaehfdfjjaaGreatDoorRows
import Derived.RangeFuncNested
import Derived.RangeFuncBound
import Derived.RangeFuncCalls
import Derived.RangeFuncLeaves
import Derived.Shelf.Abstract
import Derived.Shelf.RegionOpen
import Derived.OwnWalkIn
import Derived.TacticsInMore
import Derived.LoopNIn
import Derived.LoopIn
import Derived.Test.YtgphgaehfdfjjaaGreatDoorMg2
namespace Go.Proofs.YtgphgaehfdfjjaaGreatDoor
set_option maxHeartbeats 8000000
set_option maxRecDepth 100000
open Go.RowKit Go.Extern.Stop Go.Stop Go.Extern
set_option linter.unusedVariables false
attribute [local irreducible] wpList wpAnyH Code.wp Oper.wp Go
theorem rawN_hi(l:Bl):∀ (j k r:Nat),Zi l (k+j) r≤Zi l k (j+r)
 | 0,k,r=>by simp
 | j+1,k,r=>by
  have ih:=rawN_hi l j (k+1) r
  rw[show j+1+r=(j+r)+1 by omega,Zi,show k+(j+1)=k+1+j by omega]
  omega
theorem raw8(l:Bl)(k:Nat):Zi l k 8<9223372036854775808↔(l.getD (k+7) 0).toNat<128:=by
 have h:∀ i,(l.getD i 0).toNat<256:=fun i=>(l.getD i 0).toNat_lt
 have h0:=h k
 have h1:=h (k+1)
 have h2:=h (k+2)
 have h3:=h (k+3)
 have h4:=h (k+4)
 have h5:=h (k+5)
 have h6:=h (k+6)
 have h7:=h (k+7)
 simp only[Zi,Nat.add_assoc,Nat.reduceAdd]
 omega
theorem Za8{l:Bl}{k w j r:Nat}(h:Zi l k w<9223372036854775808)(hj:0<j)(e:j+r=w):(l.getD (k+(j-1)) 0).toNat+256*Zi l (k+j) r<9223372036854775808∧Zi l (k+(j-1)) (r+1)=Zi l (k+j) r*256+(l.getD (k+(j-1)) 0).toNat:=by
 have h1:=rawN_hi l (j-1) k (r+1)
 rw[show j-1+(r+1)=w by omega,Zi,show k+(j-1)+1=k+j by omega] at h1
 refine⟨by omega,?_⟩
 rw[Zi,show k+(j-1)+1=k+j by omega];omega
theorem Zgf(w:World) :
 C0 214 #[V0 1] w (Ret (.bool true) w):=by
 refine zin 17 Tryz.func214 ?_
 exact xe 25 (.bool true) ⟨rfl,(B3 w)⟩
theorem Zgu(w:World) :
 C0 214 #[V0 2] w (Ret (.bool true) w):=by
 refine zin 17 Tryz.func214 ?_
 exact xe 25 (.bool true) ⟨rfl,(B3 w)⟩
theorem Zgm(w:World) :
 C0 214 #[V0 4] w (Ret (.bool true) w):=by
 refine zin 17 Tryz.func214 ?_
 exact xe 25 (.bool true) ⟨rfl,(B3 w)⟩
theorem Zg5(w:World) :
 C0 214 #[V0 8] w (Ret (.bool true) w):=by
 refine zin 17 Tryz.func214 ?_
 exact xe 25 (.bool true) ⟨rfl,(B3 w)⟩
theorem ref_width(k:Nat)(hw:k=1∨k=2∨k=4∨k=8)(w:World):C0 214 #[V0 (k:Int)] w (Ret (.bool true) w):=by
 rcases hw with rfl|rfl|rfl|rfl
 ·exact Zgf w
 ·exact Zgu w
 ·exact Zgm w
 ·exact Zg5 w
theorem Ze2(a:O0)(m c k w:Nat)(W:World)(hw:w=1∨w=2∨w=4∨w=8)(hk:k+w≤m)(hm:m≤100000000) :
 C0 203 #[.slice a m c,V0 (k:Int),V0 (w:Int)] W (Ret (V0 0) W):=by
 refine zin 26 Tryz.func203 ?_
 refine xr 9 (args:=#[V0 (w:Int)]) (ref_width w hw _) fun W1 a0=>?_
 refine xgk 12 [11,12] (show(decide ((k:Int)<(0:Int)):Bool)=false from decide_eq_false (by omega)) ?_
 refine xgk 6 [16,17,18] (show(decide ((k:Int)>(m:Int)):Bool)=false from decide_eq_false (by omega)) ?_
 refine xwm 3 ((m:Int)-(k:Int)) (↑(m-k):Int) ?_
 refine xk 5 (show(decide ((↑(m-k):Int)<(w:Int)):Bool)=false from decide_eq_false (by omega)) ?_
 exact xe 8 (V0 0) ⟨rfl,a0⟩
theorem Nm(a:O0)(c k w:Nat)(l:Bl)(W:World)(hw:w=1∨w=2∨w=4∨w=8)(hk:k+w≤l.length)(hl:l.length≤100000000)(h:Bys W (.slice a l.length c) l)(hq:¬ Zi l k w<9223372036854775808) :
 C0 186 #[.slice a l.length c,V0 (k:Int),V0 (w:Int)] W (Ret (.tuple #[V0 0,V0 2]) W):=by
 have a1:w=8:=by
  rcases hw with h1|h1|h1|h1
  ·have:=Ym l k w (by omega);omega
  ·have:=Ym l k w (by omega);omega
  ·have:=Ym l k w (by omega);omega
  ·exact h1
 have a2:=(not_congr (raw8 l k)).1 (by rw[←a1];exact hq)
 refine zin 45 Tryz.func186 ?_
 refine xr 11 (args:=#[.slice a l.length c,V0 (k:Int),V0 (w:Int)]) (Ze2 a l.length c k w _ hw hk hl) fun W1 a0=>?_
 refine xgk 19 [19,20] (show(((w:Int)==(8:Int)):Bool)=true from by rw[a1];rfl) ?_
 refine xwm 2 ((k:Int)+7) (↑(k+7):Int) ?_
 refine xx 0 _ l.length (k+7) 1 (Bys.elem h (k:=(k+7)) (by omega)).1 ?_
 refine xl 0 ((Bys.elem (h.below a0) (k:=(k+7)) (by omega)).2) ?_
 refine xk 4 (show(decide ((↑(l.getD (k+7) 0).toNat:Int)≥(128:Int)):Bool)=true from decide_eq_true (by omega)) ?_
 exact xe 8 (.tuple #[V0 0,V0 2]) ⟨rfl,a0⟩
theorem Ph(a:O0)(c k w:Nat)(l:Bl)(W:World)(hw:w=1∨w=2∨w=4∨w=8)(hk:k+w≤l.length)(hl:l.length≤100000000)(h:Bys W (.slice a l.length c) l)(hq:Zi l k w<9223372036854775808) :
 C0 186 #[.slice a l.length c,V0 (k:Int),V0 (w:Int)] W (Ret (.tuple #[V0 (Zi l k w:Int),V0 0]) W):=by
 refine zin 45 Tryz.func186 ?_
 refine xr 11 (args:=#[.slice a l.length c,V0 (k:Int),V0 (w:Int)]) (Ze2 a l.length c k w _ hw hk hl) fun W1 a3=>?_
 refine xg 19 [19,20] ((w:Int)==(8:Int)) (fun a2=>?_) (fun a2=>?_)
 ·have a2:=eq_of_beq a2
  refine xwm 2 ((k:Int)+7) (↑(k+7):Int) ?_
  refine xx 0 _ l.length (k+7) 1 (Bys.elem h (k:=(k+7)) (by omega)).1 ?_
  refine xl 0 ((Bys.elem (h.below a3) (k:=(k+7)) (by omega)).2) ?_
  refine xk 4 (show(decide ((↑(l.getD (k+7) 0).toNat:Int)≥(128:Int)):Bool)=false from decide_eq_false (by have:=(raw8 l k).1 (by rw[←show w=8 by omega];exact hq);omega)) ?_
  refine xwm 11 ((w:Int)-1) (↑(w-1):Int) ?_
  refine xv1 4 10 (show(V0 (↑(w-1):Int):Value)=V0 ((w:Int)-1) from congrArg V0 (by omega)) ?_
  refine zl 0 45 (fun zm a4 V=>∃ (j r:Nat),a4=[(0,.slice a l.length c),(1,V0 (k:Int)),(6,V0 0),(7,V0 0),(9,V0 (↑(Zi l (k+j) r):Int)),(10,V0 ((j:Int)-1))]∧zm=(((j:Int)-1)+1).toNat∧B0 W V∧j+r=w) ⟨w,0,rfl,rfl,a3,by omega⟩ ?_
  rintro _ _ W3 ⟨j,r,rfl,rfl,a0,a5⟩ J3 b0 r3
  have a6:0<j→_:=fun hj=>Za8 hq hj a5
  refine xid 7 ((j:Int)-1≥(0:Int)) (fun a8=>?_) (fun a8=>?_)
  ·refine xwm 6 ((↑(Zi l (k+j) r):Int)*256) (↑((Zi l (k+j) r)*256):Int) ?_
   refine xq 3 (congrArg V0 (show IntKind.i64.wrap ((k:Int)+((j:Int)-1))=(↑(k+(j-1)):Int) from(show IntKind.i64.wrap ((k:Int)+((j:Int)-1))=((k:Int)+((j:Int)-1)) from by first|exact IntWalk.i64_in _ (by omega)|(simp only[IntKind.wrap];omega)).trans (by omega))) ?_
   refine xx 0 _ l.length (k+(j-1)) 1 (Bys.elem h (k:=(k+(j-1))) (by omega)).1 ?_
   refine xl 0 ((Bys.elem (h.below a0) (k:=(k+(j-1))) (by omega)).2) ?_
   refine xq 0 (congrArg V0 (show(IntKind.i64.wrap (↑(l.getD (k+(j-1)) 0).toNat:Int):Int)=(↑(l.getD (k+(j-1)) 0).toNat:Int) from Hs (by have:=(l.getD (k+(j-1)) 0).toNat_lt;omega))) ?_
   refine xw 0 ((↑((Zi l (k+j) r)*256):Int)+(↑(l.getD (k+(j-1)) 0).toNat:Int)) ?_
   refine xq 6 (congrArg V0 (show IntKind.i64.wrap ((j:Int)-1-1)=((↑(j-1:Nat):Int)-1) from(show IntKind.i64.wrap ((j:Int)-1-1)=((j:Int)-1-1) from by first|exact IntWalk.i64_in _ (by omega)|(simp only[IntKind.wrap];omega)).trans (by omega))) ?_
   refine xv1 2 9 (show(V0 ((↑((Zi l (k+j) r)*256):Int)+(↑(l.getD (k+(j-1)) 0).toNat:Int)):Value)=V0 (↑(Zi l (k+(j-1)) (r+1)):Int) from by rw[(a6 (by omega)).2];rfl) ?_
   exact ze 0 (b0 _ _ _ ⟨j-1,r+1,rfl,rfl,a0,by omega⟩ (by omega))
  refine xe 13 (.tuple #[V0 (↑(Zi l (k+j) r):Int),V0 0]) ?_
  rw[show Zi l (k+j) r=Zi l k w from by rw[show j=0 by omega,show r=w by omega];rfl];exact⟨rfl,a0⟩
 have a2:=Yd a2
 refine xwm 21 ((w:Int)-1) (↑(w-1):Int) ?_
 refine xv1 4 10 (show(V0 (↑(w-1):Int):Value)=V0 ((w:Int)-1) from congrArg V0 (by omega)) ?_
 refine zl 0 45 (fun zm a4 V=>∃ (j r:Nat),a4=[(0,.slice a l.length c),(1,V0 (k:Int)),(6,V0 0),(7,V0 0),(9,V0 (↑(Zi l (k+j) r):Int)),(10,V0 ((j:Int)-1))]∧zm=(((j:Int)-1)+1).toNat∧B0 W V∧j+r=w) ⟨w,0,rfl,rfl,a3,by omega⟩ ?_
 rintro _ _ W5 ⟨j,r,rfl,rfl,a1,a5⟩ J5 a9 r5
 have a6:0<j→_:=fun hj=>Za8 hq hj a5
 refine xid 7 ((j:Int)-1≥(0:Int)) (fun a7=>?_) (fun a7=>?_)
 ·refine xwm 6 ((↑(Zi l (k+j) r):Int)*256) (↑((Zi l (k+j) r)*256):Int) ?_
  refine xq 3 (congrArg V0 (show IntKind.i64.wrap ((k:Int)+((j:Int)-1))=(↑(k+(j-1)):Int) from(show IntKind.i64.wrap ((k:Int)+((j:Int)-1))=((k:Int)+((j:Int)-1)) from by first|exact IntWalk.i64_in _ (by omega)|(simp only[IntKind.wrap];omega)).trans (by omega))) ?_
  refine xx 0 _ l.length (k+(j-1)) 1 (Bys.elem h (k:=(k+(j-1))) (by omega)).1 ?_
  refine xl 0 ((Bys.elem (h.below a1) (k:=(k+(j-1))) (by omega)).2) ?_
  refine xq 0 (congrArg V0 (show(IntKind.i64.wrap (↑(l.getD (k+(j-1)) 0).toNat:Int):Int)=(↑(l.getD (k+(j-1)) 0).toNat:Int) from Hs (by have:=(l.getD (k+(j-1)) 0).toNat_lt;omega))) ?_
  refine xw 0 ((↑((Zi l (k+j) r)*256):Int)+(↑(l.getD (k+(j-1)) 0).toNat:Int)) ?_
  refine xq 6 (congrArg V0 (show IntKind.i64.wrap ((j:Int)-1-1)=((↑(j-1:Nat):Int)-1) from(show IntKind.i64.wrap ((j:Int)-1-1)=((j:Int)-1-1) from by first|exact IntWalk.i64_in _ (by omega)|(simp only[IntKind.wrap];omega)).trans (by omega))) ?_
  refine xv1 2 9 (show(V0 ((↑((Zi l (k+j) r)*256):Int)+(↑(l.getD (k+(j-1)) 0).toNat:Int)):Value)=V0 (↑(Zi l (k+(j-1)) (r+1)):Int) from by rw[(a6 (by omega)).2];rfl) ?_
  exact ze 0 (a9 _ _ _ ⟨j-1,r+1,rfl,rfl,a1,by omega⟩ (by omega))
 refine xe 13 (.tuple #[V0 (↑(Zi l (k+j) r):Int),V0 0]) ?_
 rw[show Zi l (k+j) r=Zi l k w from by rw[show j=0 by omega,show r=w by omega];rfl];exact⟨rfl,a1⟩
theorem ref_Get(a:O0)(c k w:Nat)(l:Bl)(W:World)(hw:w=1∨w=2∨w=4∨w=8)(hk:k+w≤l.length)(hl:l.length≤100000000)(h:Bys W (.slice a l.length c) l) :
 C0 186 #[.slice a l.length c,V0 (k:Int),V0 (w:Int)] W (Ret (.tuple #[V0 (Zhf l k w),V0 (Zbs l k w)]) W):=by
 by_cases hq:Zi l k w<9223372036854775808
 ·rw[Li hq,Av hq];exact Ph a c k w l W hw hk hl h hq
 ·rw[Zhf,Zbs,if_neg hq,if_neg hq];exact Nm a c k w l W hw hk hl h hq
theorem Io(a:O0)(n c k w:Nat)(ki wi:Int)(l:Bl)(W:World)(hn:l.length=n)(hki:ki=(k:Int))(hwi:wi=(w:Int))(hw:w=1∨w=2∨w=4)(hk:k+w≤n)(hl:n≤100000000)(h:Bys W (.slice a n c) l) :
 C0 186 #[.slice a n c,V0 ki,V0 wi] W (Ret (.tuple #[V0 (Zi l k w:Int),V0 0]) W):=by
 subst hn hki hwi;exact Ph a c k w l W (by omega) hk hl h (by have:=Ym l k w (by omega);omega)
theorem Lf(a:O0)(c:Nat)(l:Bl)(aw:O0)(cw:Nat)(ws:List Nat)(W:World)(hk:∀ i,i<ws.length→ws.getD i 0=1∨ws.getD i 0=2∨ws.getD i 0=4∨ws.getD i 0=8)(hs:ws.sum≤l.length)(hl:l.length≤100000000)(hw:ws.length≤1000)(h:Bys W (.slice a l.length c) l)(hws:Sl W (.slice aw ws.length cw) ws.length (ws.map nv))(hq:∀ i,i<ws.length→(Hf l 0 ws).getD i 0<9223372036854775808) :
 C0 151 #[.slice a l.length c,.slice aw ws.length cw] W (Vy (fun w' r=>∃ p c,r=.tuple #[.slice p ws.length c,V0 0]∧w'.ownsRow W.heap.size 3 1 (.slice p ws.length c) ws.length ((Hf l 0 ws).map nv)) W):=by
 refine zin 41 Tryz.func151 ?_
 have hB:=Below.refl W.heap.size W
 refine zl 23 41 (fun zm b0 V=>∃ (i:Nat) (p:O0) (c2:Nat),b0=[(0,.slice a l.length c),(1,.slice aw ws.length cw),(6,.slice p i c2),(7,V0 (↑(ws.take i).sum:Int)),(8,V0 (i:Int))]∧zm=ws.length-((i:Int)).toNat∧B0 W V∧V.ownsRow W.heap.size 3 1 (.slice p i c2) i ((Hf l 0 (ws.take i)).map nv)∧i≤ws.length) ⟨0,_,_,rfl,rfl,hB,World.ownsRow_nil _ _ _ _,Nat.zero_le _⟩ ?_
 rintro _ _ W1 ⟨i,p,c2,rfl,rfl,a0,ho,hi⟩ J1 a9 r1
 have b5:i<ws.length→(ws.take i).sum+ws.getD i 0≤ws.sum:=Up
 have a7:i<ws.length→(Hf l 0 ws).getD i 0=Zi l (ws.take i).sum (ws.getD i 0):=fun h=>by rw[Po l ws 0 i h,Nat.zero_add]
 refine xid 9 ((i:Int)<(ws.length:Int)) (fun b1=>?_) (fun b1=>?_)
 ·refine xx 10 _ ws.length i 1 (Zm hws rfl (k:=i) (by omega)).1 ?_
  refine xl 0 ((Zm (hws.below a0) rfl (k:=i) (by omega)).2) ?_
  refine xr 0 (args:=#[.slice a l.length c,V0 (↑(ws.take i).sum:Int),V0 (↑(ws.getD i 0):Int)]) (ref_Get a c (ws.take i).sum (ws.getD i 0) l _ (hk i (by omega)) (by omega) hl (h.below a0)) fun W3 a8=>?_
  refine xk 14 (show(((Zbs l (ws.take i).sum (ws.getD i 0)) != (0:Int)):Bool)=false from by rw[Av (by rw[←a7 (by omega)];exact hq i (by omega))];rfl) ?_
  refine xbs 6 1 [V0 (Zhf l (ws.take i).sum (ws.getD i 0))] 3 fun b4 W4 n4=>?_
  have a3:=bln a0 a8
  have g4:=n4.ge a3
  have a2:=Zb ho a8
  have a6:=Zw a2 n4
  have a5:=Zb a2 n4.below
  have a1:=bln a3 n4.below
  refine xbi 0 fun _ _ _ _ zJ zQ zo zx zy zK=>Zu (m:=1) (news:=[V0 (Zhf l (ws.take i).sum (ws.getD i 0))]) (V0 0) 1 8 (i+1) ((Hf l 0 (ws.take (i+1))).map nv) zo Tryz.underlying28 (by kernel_rfl) rfl (by decide) zx a5 zy (n4.blk.sl 1 1 (by decide) (by decide)) rfl (by simp[Value.oneCell']) (by unfold maxLen;omega) (by omega) a1.size (by rfl) (by rw[Ju (by omega),Wi,Nat.zero_add,List.map_append];simp only[List.map_cons,List.map_nil,nv];rw[Li (by rw[←a7 (by omega)];exact hq i (by omega))]) fun b3 b6 W5 o5 b7 b2=>?_
  refine zK _ _ ?_
  refine xx 7 _ ws.length i 1 (Zm hws rfl (k:=i) (by omega)).1 ?_
  have a4:=a1.trans b2
  refine xl 0 ((Zm (hws.below a4) rfl (k:=i) (by omega)).2) ?_
  refine xwm 0 ((↑(ws.take i).sum:Int)+(↑(ws.getD i 0):Int)) (↑((ws.take i).sum+(ws.getD i 0)):Int) ?_
  refine xwm 6 ((i:Int)+1) (↑(i+1):Int) ?_
  refine xv1 2 7 (show(V0 (↑((ws.take i).sum+(ws.getD i 0)):Int):Value)=V0 (↑(ws.take (i+1)).sum:Int) from by rw[Ju (by omega),List.sum_append];simp) ?_
  exact ze 0 (a9 _ _ _ ⟨i+1,_,_,rfl,rfl,a4,o5,by omega⟩ (by omega))
 refine xe 13 (.tuple #[.slice p i c2,V0 0]) ?_
 obtain rfl:i=ws.length:=by omega
 rw[List.take_length] at ho
 exact⟨_,rfl,a0,_,_,rfl,ho⟩
theorem Sb(a:O0)(c:Nat)(l:Bl)(aw:O0)(cw:Nat)(ws:List Nat)(W:World)(hk:∀ i,i<ws.length→ws.getD i 0=1∨ws.getD i 0=2∨ws.getD i 0=4∨ws.getD i 0=8)(hs:ws.sum≤l.length)(hl:l.length≤100000000)(hw:ws.length≤1000)(h:Bys W (.slice a l.length c) l)(hws:Sl W (.slice aw ws.length cw) ws.length (ws.map nv))(hq:¬ ∀ i,i<ws.length→(Hf l 0 ws).getD i 0<9223372036854775808) :
 C0 151 #[.slice a l.length c,.slice aw ws.length cw] W (Ret (.tuple #[S0,V0 2]) W):=by
 refine zin 41 Tryz.func151 ?_
 have hB:=Below.refl W.heap.size W
 refine zl 23 41 (fun zm b6 V=>∃ (i:Nat) (p:O0) (c2:Nat),b6=[(0,.slice a l.length c),(1,.slice aw ws.length cw),(6,.slice p i c2),(7,V0 (↑(ws.take i).sum:Int)),(8,V0 (i:Int))]∧zm=ws.length-((i:Int)).toNat∧B0 W V∧V.ownsRow W.heap.size 3 1 (.slice p i c2) i ((Hf l 0 (ws.take i)).map nv)∧i≤ws.length∧(∀ j,j<i→(Hf l 0 ws).getD j 0<9223372036854775808)) ⟨0,_,_,rfl,rfl,hB,World.ownsRow_nil _ _ _ _,Nat.zero_le _,?_⟩ ?_
 ·exact fun j hj=>absurd hj (by omega)
 rintro _ _ W1 ⟨i,p,c2,rfl,rfl,a0,ho,hi,a5⟩ J1 b4 r1
 have c1:i<ws.length→(ws.take i).sum+ws.getD i 0≤ws.sum:=Up
 have b7:i<ws.length→(Hf l 0 ws).getD i 0=Zi l (ws.take i).sum (ws.getD i 0):=fun h=>by rw[Po l ws 0 i h,Nat.zero_add]
 refine xid 9 ((i:Int)<(ws.length:Int)) (fun b2=>?_) (fun b2=>?_)
 ·refine xx 10 _ ws.length i 1 (Zm hws rfl (k:=i) (by omega)).1 ?_
  refine xl 0 ((Zm (hws.below a0) rfl (k:=i) (by omega)).2) ?_
  refine xr 0 (args:=#[.slice a l.length c,V0 (↑(ws.take i).sum:Int),V0 (↑(ws.getD i 0):Int)]) (ref_Get a c (ws.take i).sum (ws.getD i 0) l _ (hk i (by omega)) (by omega) hl (h.below a0)) fun W3 a7=>?_
  refine xin 14 (Zbs l (ws.take i).sum (ws.getD i 0)) (0:Int) (fun b0=>?_) (fun b0=>?_)
  ·have a6:=Zdl b0
   have a9:=bln a0 a7
   refine xe 14 (.tuple #[S0,V0 (Zbs l (ws.take i).sum (ws.getD i 0))]) ?_
   rw[a6.2];exact⟨rfl,a9⟩
  have a6:=Zbe b0
  refine xbs 6 1 [V0 (Zhf l (ws.take i).sum (ws.getD i 0))] 3 fun b5 W5 n5=>?_
  have a3:=bln a0 a7
  have g5:=n5.ge a3
  have a1:=Zb ho a7
  have b1:=Zw a1 n5
  have a8:=Zb a1 n5.below
  have a2:=bln a3 n5.below
  refine xbi 0 fun _ _ _ _ zJ zQ zo zx zy zK=>Zu (m:=1) (news:=[V0 (Zhf l (ws.take i).sum (ws.getD i 0))]) (V0 0) 1 8 (i+1) ((Hf l 0 (ws.take (i+1))).map nv) zo Tryz.underlying28 (by kernel_rfl) rfl (by decide) zx a8 zy (n5.blk.sl 1 1 (by decide) (by decide)) rfl (by simp[Value.oneCell']) (by unfold maxLen;omega) (by omega) a2.size (by rfl) (by rw[Ju (by omega),Wi,Nat.zero_add,List.map_append];simp only[List.map_cons,List.map_nil,nv];rw[Li a6]) fun c0 b8 W6 o6 b9 b3=>?_
  refine zK _ _ ?_
  refine xx 7 _ ws.length i 1 (Zm hws rfl (k:=i) (by omega)).1 ?_
  have a4:=a2.trans b3
  refine xl 0 ((Zm (hws.below a4) rfl (k:=i) (by omega)).2) ?_
  refine xwm 0 ((↑(ws.take i).sum:Int)+(↑(ws.getD i 0):Int)) (↑((ws.take i).sum+(ws.getD i 0)):Int) ?_
  refine xwm 6 ((i:Int)+1) (↑(i+1):Int) ?_
  refine xv1 2 7 (show(V0 (↑((ws.take i).sum+(ws.getD i 0)):Int):Value)=V0 (↑(ws.take (i+1)).sum:Int) from by rw[Ju (by omega),List.sum_append];simp) ?_
  exact ze 0 (b4 _ _ _ ⟨i+1,_,_,rfl,rfl,a4,o6,by omega,fun j hj=>(Nat.lt_or_ge j i).elim (fun q=>a5 j q) (fun q=>by obtain rfl:j=i:=(by omega);rw[b7 (by omega)];exact a6)⟩ (by omega))
 refine xe 13 (.tuple #[.slice p i c2,V0 0]) ?_
 exact absurd (fun j hj=>a5 j (by omega)) hq
theorem Rl(a:O0)(n c:Nat)(l:Bl)(aw:O0)(cw m:Nat)(ws:List Nat)(xs:List Nat)(W:World)(hn:l.length=n)(hm:ws.length=m)(hx:Hf l 0 ws=xs)(hk:∀ i,i<ws.length→ws.getD i 0=1∨ws.getD i 0=2∨ws.getD i 0=4∨ws.getD i 0=8)(hs:ws.sum≤n)(hl:n≤100000000)(hw:ws.length≤1000)(h:Bys W (.slice a n c) l)(hws:Sl W (.slice aw m cw) m (ws.map nv))(hq:∀ i,i<ws.length→(Hf l 0 ws).getD i 0<9223372036854775808) :
 C0 151 #[.slice a n c,.slice aw m cw] W (Vy (fun w' r=>∃ p c,r=.tuple #[.slice p m c,V0 0]∧w'.ownsRow W.heap.size 3 1 (.slice p m c) m (xs.map nv)) W):=by
 subst hn hm hx;exact Lf a c l aw cw ws W hk hs hl hw h hws hq
theorem ref_Zero(a:O0)(c:Nat)(l:Bl)(w:World)(hl:l.length≤100000000)(h:Bys w (.slice a l.length c) l) :
 C0 152 #[.slice a l.length c] w (Ret (.bool (Vg l)) w):=by
 refine zin 15 Tryz.func152 ?_
 have hB:=Below.refl w.heap.size w
 refine zl 12 15 (fun zm a3 V=>∃ (i:Nat),a3=[(0,.slice a l.length c),(3,V0 (i:Int))]∧zm=l.length-((i:Int)).toNat∧B0 w V∧i≤l.length∧(∀ j,j<i→l.getD j 0=0)) ⟨0,rfl,rfl,hB,Nat.zero_le _,?_⟩ ?_
 ·exact fun j hj=>absurd hj (by omega)
 rintro _ _ W1 ⟨i,rfl,rfl,a0,hi,hz⟩ J1 a1 r1
 refine xid 9 ((i:Int)<(l.length:Int)) (fun a4=>?_) (fun a4=>?_)
 ·refine xx 8 _ l.length i 1 (Bys.elem h (k:=i) (by omega)).1 ?_
  refine xl 0 ((Bys.elem (h.below a0) (k:=i) (by omega)).2) ?_
  refine xin 3 (↑(l.getD i 0).toNat:Int) (0:Int) (fun a2=>?_) (fun a2=>?_)
  ·refine xe 11 (.bool false) ?_
   rw[Dx (j:=i) (by omega) (by assumption)];exact⟨rfl,a0⟩
  refine xwm 5 ((i:Int)+1) (↑(i+1):Int) ?_
  exact ze 2 (a1 _ _ _ ⟨i+1,rfl,rfl,a0,by omega,fun j hj=>(Nat.lt_or_ge j i).elim (hz j) (fun q=>by obtain rfl:j=i:=(by omega);exact Zbd (by assumption))⟩ (by omega))
 refine xe 11 (.bool true) ?_
 rw[Sr (fun j hj=>hz j (by omega))];exact⟨rfl,a0⟩
theorem We(a:O0)(n c:Nat)(l:Bl)(w:World)(hn:l.length=n)(hl:n≤100000000)(h:Bys w (.slice a n c) l):C0 152 #[.slice a n c] w (Ret (.bool (Vg l)) w):=by
 subst hn;exact ref_Zero a c l w hl h
end Go.Proofs.YtgphgaehfdfjjaaGreatDoor
namespace Go.Proofs.YtgphgaehfdfjjaaGreatDoor
set_option maxHeartbeats 8000000
set_option maxRecDepth 100000
open Go.RowKit Go.Extern.Stop Go.Stop Go.Extern
set_option linter.unusedVariables false
def FltV(w:World)(v:Value)(l:List Int)(c:Int):Prop:=∃ s,v=.agg #[s,V0 c]∧Ints w s l
theorem FltV.below{w w':World}{v:Value}{l:List Int}{c:Int}(h:FltV w v l c)(hb:B0 w w'):FltV w' v l c:=by
 obtain⟨s,rfl,hs⟩:=h
 exact⟨s,rfl,hs.below hb⟩
theorem Zdh{w:World}{B:Nat}{s:Value}{c:Int}{t:TypeId}(h:Blk w B [s,V0 c] t)(hs:∃ a n m,s=.slice a n m){tmps:Array Value}(e:tmps.getD 2 undef=P0 B) :
 (results Tryz.f19 tmps).run Tryz.prog w=.ok (.agg #[s,V0 c]) w:=by
 obtain⟨a,n,m,rfl⟩:=hs
 have c0:=h.cell (i:=0) rfl
 have c1:=h.cell (i:=1) rfl
 have e':tmps[2]?.getD undef=P0 B:=by simpa using e
 simp[results,Tryz.results19,go_sem,c0,c1,e']
theorem Tp(t:Option Int)(l:List (Option Int))(v:Value)(w:World)(hlen:l.length≤1000000)(hg:ErrT w)(hv:Vw w l t v) :
 C0 19 #[v] w (Vy (fun w' r=>FltV w' r (Vr l) (Bq l t)) w):=by
 have hB:=blx w (.cells #[S0,V0 0] 52)
 have k0:=Blk.new w [S0,V0 0] 52
 rcases hv.nil_or with ⟨hz,rfl⟩|⟨hz,ty,x,rfl⟩
 ·obtain⟨rfl,rfl⟩:=Tv hz
  go_enter Tryz.func19,Tryz.ntmps19
  go_wp2_with fail
  exact bodyPost_ret (Zdh k0 ⟨_,_,_,rfl⟩ rfl) rfl ⟨_,rfl,hB,_,rfl,.inl ⟨_,_,rfl,rfl,rfl⟩⟩
 ·go_enter Tryz.func19,Tryz.ntmps19
  have a4:=hv.below hB
  go_wp2_with fail
  refine(Ot t l _ _ hlen a4).mono ?_
  rintro e w1 ⟨r,rfl,a2,h1⟩
  have a1:=bln hB a2
  go_wp2_with fail
  refine(Zg8 t l _ w1 (hg.below a1) (hv.below a1)).mono ?_
  rintro e w2 ⟨rfl,a0⟩
  have k2:=(k0.below a2).below a0
  obtain⟨a,m,rfl⟩:=(Zh h1).slice
  have d0:=k2.cell (i:=0) rfl
  have d1:=k2.cell (i:=1) rfl
  have f0:=k2.frozen 0
  have f1:=k2.frozen 1
  have a5:=bln a1 a0
  have a3:B0 w ((w2.setCell ⟨w.heap.size,0,none⟩ (.slice a (Vr l).length m)).setCell ⟨w.heap.size,1,none⟩ (V0 (Bq l t))):=(a5.setCell (Nat.le_refl _) _).setCell (Nat.le_refl _) _
  have h3:=ownsRow_setCell_below (ownsRow_setCell_below (Zb h1 a0) (a:=⟨w.heap.size,0,none⟩) (by simp) (.slice a (Vr l).length m)) (a:=⟨w.heap.size,1,none⟩) (by simp) (V0 (Bq l t))
  go_wp2_with fail
  exact bodyPost_ret (Zdh ((k2.set 0 _).set 1 _) ⟨_,_,_,rfl⟩ rfl) rfl ⟨_,rfl,a3,_,rfl,Zh h3⟩
theorem Sg(l:List Int)(c:Int)(v1 v2:Value)(w:World)(h1:FltV w v1 l c)(h2:FltV w v2 l c) :
 C0 18 #[v1,v2] w (Ret (.bool true) w):=by
 obtain⟨s1,rfl,k1⟩:=h1
 obtain⟨s2,rfl,k2⟩:=h2
 obtain⟨a1,p1,rfl⟩:=k1.slice
 obtain⟨a2,p2,rfl⟩:=k2.slice
 have a5:=k1.len
 have hB:B0 w ((w.alloc (.cells #[.slice a1 l.length p1,V0 c] 52)).alloc (.cells #[.slice a2 l.length p2,V0 c] 52)):=bln (blx _ _) (blx _ _)
 have b1:Blk ((w.alloc (.cells #[.slice a1 l.length p1,V0 c] 52)).alloc (.cells #[.slice a2 l.length p2,V0 c] 52)) w.heap.size [.slice a1 l.length p1,V0 c] 52:=(Blk.new _ _ _).alloc _
 have b2:=Blk.new (w.alloc (.cells #[.slice a1 l.length p1,V0 c] 52)) [.slice a2 l.length p2,V0 c] 52
 simp only[World.size_alloc] at b2
 go_enter Tryz.func18,Tryz.ntmps18
 go_wp2_with fail
 obtain⟨W,hW⟩:∃ W,(w.alloc (.cells #[.slice a1 l.length p1,V0 c] 52)).alloc (.cells #[.slice a2 l.length p2,V0 c] 52)=W:=⟨_,rfl⟩
 change Blk ((w.alloc (.cells #[.slice a1 l.length p1,V0 c] 52)).alloc (.cells #[.slice a2 l.length p2,V0 c] 52)) _ _ _ at b2
 rw[hW] at hB b1 b2 ⊢
 have k1:=k1.below hB
 have k2:=k2.below hB
 clear hW
 go_loopw [5] (fun i wr=>∃ k:Nat,k≤l.length∧i=V0 k∧B0 W wr) (fun i _=>l.length-(intOf i).toNat)
 case atStart=>exact⟨0,by omega,rfl,Below.refl _ _⟩
 case round =>
  obtain⟨k,hk,rfl,a0⟩:=hrel
  have q1:=b1.below a0
  have q2:=b2.below a0
  have c1:=q1.cell (i:=0) rfl
  have c2:=q2.cell (i:=0) rfl
  by_cases hlt:k<l.length
  ·rcases Sl.at (k1.below a0) with h0|⟨g1,o1,rfl,a3⟩
   ·rw[List.map_eq_nil_iff] at h0;subst h0;exact absurd hlt (by simp)
   rcases Sl.at (k2.below a0) with h0|⟨g2,o2,rfl,a4⟩
   ·rw[List.map_eq_nil_iff] at h0;subst h0;exact absurd hlt (by simp)
   have e1:∀ z:Ext wr,z.val.cell? ⟨w.heap.size,0,none⟩=some (.slice (some ⟨g1,o1,none⟩) l.length p1):=fun z=>z.get c1
   have e2:∀ z:Ext wr,z.val.cell? ⟨w.heap.size+1,0,none⟩=some (.slice (some ⟨g2,o2,none⟩) l.length p2):=fun z=>z.get c2
   have e3:∀ z:Ext wr,z.val.cell? ⟨g1,o1+k,none⟩=some (V0 l[k]):=fun z=>z.get (a3 k _ (by simp[hlt]))
   have e4:∀ z:Ext wr,z.val.cell? ⟨g2,o2+k,none⟩=some (V0 l[k]):=fun z=>z.get (a4 k _ (by simp[hlt]))
   have i1:(0:Int)≤(k:Int):=by omega
   have i2:(k:Int)<(l.length:Int):=by omega
   clear a3 a4
   go_wp2_with fail
   refine Qv (by kernel_rfl) (by kernel_rfl) ?_
   repeat (go_big_quiet_step (fail))
   refine wpQuiet_nil ?_
   intro wx
   go_wp2_with fail
   exact⟨⟨k+1,by omega,by go_num,bln a0 wx.below⟩,by simp[intOf];omega⟩
  ·go_wp2_with fail
   go_ret
   exact⟨rfl,bln hB a0⟩
end Go.Proofs.YtgphgaehfdfjjaaGreatDoor
namespace Go.Proofs.YtgphgaehfdfjjaaGreatDoor
set_option maxHeartbeats 8000000
set_option maxRecDepth 100000
open Go.RowKit Go.Extern.Stop Go.Stop Go.Extern
set_option linter.unusedVariables false
attribute [local irreducible] wpList wpAnyH Code.wp Oper.wp Go
def Wv(l:Bl)(k:Nat):List Bl:=(List.range k).map (Kz l)
theorem Zba(l:Bl)(k:Nat):(Wv l k).length=k:=by simp[Wv]
theorem Tb(l:Bl)(k:Nat):Wv l (k+1)=Wv l k++[Kz l k]:=by simp[Wv,List.range_succ]
theorem blksL_get(l:Bl){k i:Nat}(h:i<k):(Wv l k).getD i []=Kz l i:=by simp[Wv,List.getD,List.getElem?_range h]
theorem blkB_take{l:Bl}{i m:Nat}(h:i<m):Kz (l.take (m*256)) i=Kz l i:=by
 unfold Kz
 rw[List.drop_take,List.take_take,Nat.min_eq_left (by omega)]
theorem Sk{l:Bl}{k:Nat}:Wv (l.take (k*256)) k=Wv l k:=List.map_congr_left fun i hi=>blkB_take (List.mem_range.1 hi)
structure RefI(B bm:Nat)(p:Option Addr)(k c:Nat)(l:List UInt8)(w:World):Prop where
 blk:Blk w bm [.slice p k c] 118
 row:w.ownsRow B 9 1 (.slice p k c) k ((Wv l k).map sv)
 hk:k≤14400
 hl:l.length=k*256
theorem RefI.below{B bm:Nat}{p:O0}{k c:Nat}{l:Bl}{w W:World}(h:RefI B bm p k c l w)(hb:B0 w W):RefI B bm p k c l W:=⟨h.blk.below hb,Zb h.row hb,h.hk,h.hl⟩
theorem RefI.only{B bm:Nat}{p:O0}{k c:Nat}{l:Bl}{w W:World}{T:List TypeId}(h:RefI B bm p k c l w)(hO:Zf T w W)(hT:T.contains 118=false∧T.contains 9=false):RefI B bm p k c l W:=⟨h.blk.only hO hT.1,Zl h.row hO hT.2,h.hk,h.hl⟩
theorem RefI.mono{B B' bm:Nat}{p:O0}{k c:Nat}{l:Bl}{w:World}(h:RefI B bm p k c l w)(hB:B'≤B):RefI B' bm p k c l w:=⟨h.blk,Zg h.row hB,h.hk,h.hl⟩
theorem RefI.base{B bm:Nat}{p:O0}{k c:Nat}{l:Bl}{w:World}(h:RefI B bm p k c l w)(hn:0<k):∃ g,p=some ⟨g,0,none⟩:=by
 rcases h.row.2 with ⟨_,h0⟩|⟨g,a0,a1,hv,_,_,hc,_⟩
 ·omega
 ·simp only[Value.slice.injEq] at hv
  obtain⟨rfl,_,rfl⟩:=hv
  exact⟨g,rfl⟩
theorem ref_Of(a:O0)(c:Nat)(l:Bl)(w:World)(h:Bys w (.slice a l.length c) l)(hl:l.length≤100000000) :
 C0 16 #[.slice a l.length c] w (Vy (fun w' r=>∃ bm p c2,r=P0 bm∧w.heap.size≤bm∧RefI w.heap.size bm p (min (l.length/256) 14400) c2 (l.take (min (l.length/256) 14400*256)) w') w):=by
 refine zin 32 Tryz.func16 ?_
 refine xa 8 [S0] 118 fun b1 W1 n1=>?_
 refine zl 5 32 (fun zm e0 V=>∃ (k:Nat) (p:O0) (cp:Nat) (a2:O0) (c2:Nat) (l2:Bl),e0=[(0,.slice a2 l2.length c2),(2,.pointer none),(3,P0 b1)]∧zm=l2.length∧B0 w V∧Blk V b1 ([.slice p k cp]) 118∧V.ownsRow w.heap.size 9 1 (.slice p k cp) k ((Wv l k).map sv)∧Bys w (.slice a2 l2.length c2) l2∧l2=l.drop (k*256)∧k*256≤l.length∧k≤14400) ⟨0,none,0,a,c,l,rfl,rfl,n1.below,n1.blk,World.ownsRow_nil _ _ _ _,h,by simp,by omega,by decide⟩ ?_
 rintro _ _ W2 ⟨k,p,cp,a2,c2,l2,rfl,rfl,a8,a3,ho,b9,b4,e4,e3⟩ J2 d1 r2
 have d3:=b9.cap rfl
 have d8:l2.length=l.length-k*256:=by rw[b4];simp
 refine xg 7 [8,9] (decide ((l2.length:Int)≥(256:Int))) (fun b2=>?_) (fun b2=>?_)
 ·have b2:=of_decide_eq_true b2
  refine xb 3 0 a3 ?_
  refine xid 5 ((k:Int)<(14400:Int)) (fun d7=>?_) (fun d7=>?_)
  ·refine xd 4 (.t w.heap.size [9,118]) ?_
   refine xsH (.e [0,1,2,3,5] 6) (fun _ _ _ _ zo zx zy V=>Ys (k:=256) (b:=a2) (n:=l2.length) (c:=c2) (i:=256) (ki:=.i64) zo zx zy rfl (by omega) Tryz.underlying22 (by kernel_rfl) V) ?_
   have a6:=bln a8 (Za W2)
   refine xcvt (.e [] 7) (.t w.heap.size [9,118]) (fun _ _ _ zo zx V hV=>Jf zo zx ((Bys.take b9 rfl 256 (by omega)).below (Kv a6 hV (Nat.le_refl _))) (by simp;omega) Tryz.underlying22 Tryz.underlying5 Tryz.underlying9) ?_
   refine xm2 0 4 8 ?_ ?_
   ·have a4:=a3.below (Za W2)
    refine xb 0 0 a4 ?_
    refine xbs (.o [] 8) 1 [.string ⟨(l2.take 256).toArray⟩] 9 fun b5 W5 n5=>?_
    have g5:=n5.ge a6
    have b0:=Zb ho (Za W2)
    have c7:=Zw b0 n5
    have a9:=Zb b0 n5.below
    have b3:=bln a6 n5.below
    refine ybi (.o [] 9) (.t w.heap.size [9,118]) fun _ _ _ _ zJ zQ zo zx zy zK=>Zu (m:=1) (news:=[.string ⟨(l2.take 256).toArray⟩]) (.string ⟨#[]⟩) 1 16 (k+1) ((Wv l (k+1)).map sv) zo Tryz.underlying36 (by kernel_rfl) rfl (by decide) zx a9 zy (n5.blk.sl 1 1 (by decide) (by decide)) rfl (by simp[Value.oneCell']) (by unfold maxLen;omega) (by omega) b3.size (by rfl) (by rw[Tb,List.map_append,show Kz l k=l2.take 256 from by rw[b4];rfl];rfl) fun d9 d5 W6 o6 c9 d0=>?_
    refine zK _ _ (Zr d0 c9 a9 (by decide)) ?_
    have a0:=(a4.below n5.below).grown c9 a9 (by decide)
    have g1:=n1.ge (B3 w)
    refine ys (.o [10,11] 12) a0 [.slice d9 (k+1) d5] (.t w.heap.size [9,118]) fun W7 u7 k7=>⟨(Zo u7 a0 g1 (by decide)),?_⟩
    refine xsL 4 (fun _ _ _ _ zo zx zy V=>Yu (k:=256) (b:=a2) (n:=l2.length) (c:=c2) (i:=256) (ki:=.i64) 1 zo zx zy rfl (by omega) Tryz.underlying22 (by kernel_rfl) V) ?_
    refine xv1 3 0 (show(.slice (Qz a2 256 c2 1) (l2.length-256) (c2-256):Value)=.slice (Qz a2 256 c2 1) ((l2.drop 256).length) (c2-256) from by rw[List.length_drop]) ?_
    have c3:=u7.below (b3.trans d0) g1
    have c4:=u7.own2 o6 a0 (by decide)
    refine ze 0 (d1 _ _ _ ⟨k+1,_,_,_,_,(l2.drop 256),rfl,rfl,c3,k7,c4,(by have:=Bys.cut b9 rfl 256 l2.length (by omega) (Nat.le_refl _);rw[List.take_of_length_le (by simp)] at this;rwa [show(l2.drop 256).length=l2.length-256 by simp]),by rw[b4,List.drop_drop,Nat.add_mul,Nat.one_mul],by omega,by omega⟩ ?_)
    show((l2.drop 256).length)<l2.length
    rw[List.length_drop];omega
   refine xbs 0 1 [.string ⟨(l2.take 256).toArray⟩] 9 fun b8 W8 n8=>?_
   have g8:=n8.ge a6
   have b6:=Zb ho (Za W2)
   have c8:=Zw b6 n8
   have a5:=(a3.below (Za W2)).below n8.below
   refine xb (.o [] 4) 0 a5 ?_
   have a7:=Zb b6 n8.below
   have b7:=bln a6 n8.below
   refine ybi (.o [] 9) (.t w.heap.size [9,118]) fun _ _ _ _ zJ zQ zo zx zy zK=>Zu (m:=1) (news:=[.string ⟨(l2.take 256).toArray⟩]) (.string ⟨#[]⟩) 1 16 (k+1) ((Wv l (k+1)).map sv) zo Tryz.underlying36 (by kernel_rfl) rfl (by decide) zx a7 zy (n8.blk.sl 1 1 (by decide) (by decide)) rfl (by simp[Value.oneCell']) (by unfold maxLen;omega) (by omega) b7.size (by rfl) (by rw[Tb,List.map_append,show Kz l k=l2.take 256 from by rw[b4];rfl];rfl) fun e1 d6 W9 o9 c6 d2=>?_
   refine zK _ _ (Zr d2 c6 a7 (by decide)) ?_
   have a1:=a5.grown c6 a7 (by decide)
   have g1:=n1.ge (B3 w)
   refine ys (.o [10,11] 12) a1 [.slice e1 (k+1) d6] (.t w.heap.size [9,118]) fun e2 c5 d4=>⟨(Zo c5 a1 g1 (by decide)),?_⟩
   refine xsL 4 (fun _ _ _ _ zo zx zy V=>Yu (k:=256) (b:=a2) (n:=l2.length) (c:=c2) (i:=256) (ki:=.i64) 1 zo zx zy rfl (by omega) Tryz.underlying22 (by kernel_rfl) V) ?_
   refine xv1 3 0 (show(.slice (Qz a2 256 c2 1) (l2.length-256) (c2-256):Value)=.slice (Qz a2 256 c2 1) ((l2.drop 256).length) (c2-256) from by rw[List.length_drop]) ?_
   have c0:=c5.below (b7.trans d2) g1
   have c1:=c5.own2 o9 a1 (by decide)
   refine ze 0 (d1 _ _ _ ⟨k+1,_,_,_,_,(l2.drop 256),rfl,rfl,c0,d4,c1,(by have:=Bys.cut b9 rfl 256 l2.length (by omega) (Nat.le_refl _);rw[List.take_of_length_le (by simp)] at this;rwa [show(l2.drop 256).length=l2.length-256 by simp]),by rw[b4,List.drop_drop,Nat.add_mul,Nat.one_mul],by omega,by omega⟩ ?_)
   show((l2.drop 256).length)<l2.length
   rw[List.length_drop];omega
  have g1:=n1.ge (B3 w)
  refine xe 12 (P0 b1) ?_
  obtain rfl:k=min (l.length/256) 14400:=by omega
  exact⟨_,rfl,a8,_,_,_,rfl,g1,a3,by rw[Sk];exact ho,by omega,by simp;omega⟩
 have b2:=of_decide_eq_false b2
 have g1:=n1.ge (B3 w)
 refine xe 22 (P0 b1) ?_
 obtain rfl:k=min (l.length/256) 14400:=by omega
 exact⟨_,rfl,a8,_,_,_,rfl,g1,a3,by rw[Sk];exact ho,by omega,by simp;omega⟩
def fltL(no er:Int):List Int:=if er=0 then [] else [no]
theorem fltL_nz{no er:Int}(h:er≠0):fltL no er=[no]:=if_neg h
theorem Zfy(no:Int)(w:World) :
 C0 102 #[V0 no,.agg #[S0,V0 0]] w (Ret (.agg #[S0,V0 0]) w):=by
 refine zin 17 Tryz.func102 ?_
 refine xa 2 [S0,V0 0] 52 fun b1 W1 n1=>?_
 refine xa 0 [S0,V0 0] 52 fun b2 W2 n2=>?_
 have a1:=n2.ne n1.blk
 have a0:=n1.blk.below n2.below
 refine xb 6 1 a0 ?_
 refine xsv 7 n2.blk [S0,V0 0] fun W3 u3 k3=>?_
 have g2:=n2.ge n1.below
 have hB:=u3.below (bln n1.below n2.below) g2
 exact xec 4 k3 (.agg #[S0,V0 0]) ⟨rfl,hB⟩
theorem ref05_At_n(no er:Int)(w:World)(he:er≠0) :
 C0 102 #[V0 no,.agg #[S0,V0 er]] w (Vy (fun w' r=>∃ a c,r=.agg #[.slice a 1 c,V0 er]∧w'.ownsRow w.heap.size 3 1 (.slice a 1 c) 1 [V0 no]) w):=by
 refine zin 17 Tryz.func102 ?_
 refine xa 2 [S0,V0 er] 52 fun b1 W1 n1=>?_
 refine xa 0 [S0,V0 0] 52 fun b2 W2 n2=>?_
 have h8:=n2.ne n1.blk
 have a0:=n1.blk.below n2.below
 refine xb 6 1 a0 ?_
 refine xk 3 (show((er==(0:Int)):Bool)=false from beq_false_of_ne he) ?_
 refine xd 3 (.t w.heap.size [3,52]) ?_
 refine xm3 (.b [0,2,5]) 1 3 6 ?_ ?_ ?_
 ·refine xbs 0 1 [V0 no] 3 fun b3 W3 n3=>?_
  refine xm2 0 3 6 ?_ ?_
  ·have a4:=(a0.below (Za W2)).below n3.below
   refine xb 0 0 a4 ?_
   refine xm2 0 4 6 ?_ ?_
   ·have g3:=n3.ge (bln (bln n1.below n2.below) (Za W2))
    have o4:=Xa (size:=1) (n:=1) n3.blk g3 rfl (by decide)
    have hB:=bln (bln (bln n1.below n2.below) (Za W2)) n3.below
    refine ybi 0 (.t w.heap.size [3,52]) fun _ _ _ _ zJ zQ zo zx zy zK=>Zu (m:=0) (news:=[]) (V0 0) 1 8 (1) ([V0 no]) zo Tryz.underlying28 (by kernel_rfl) rfl (by decide) zx o4 zy (.inl ⟨none,0,rfl,rfl,rfl⟩) rfl (by simp) (by unfold maxLen;omega) (by omega) hB.size (by rfl) (by rfl) fun h3 h7 W5 o5 g8 h5=>?_
    refine zK _ _ (Zr h5 g8 o4 (by decide)) ?_
    have e4:=a4.grown g8 o4 (by decide)
    refine xb (.o [] 6) 1 e4 ?_
    have k2:=((n2.blk.below (Za W2)).below n3.below).grown g8 o4 (by decide)
    have g2:=n2.ge n1.below
    refine ysv (.o [7] 8) k2 [.slice h3 1 h7,V0 er] (.t w.heap.size [3,52]) fun W6 u6 k6=>⟨(Zo u6 k2 g2 (by decide)),?_⟩
    have g7:=u6.below (hB.trans h5) g2
    have f0:=u6.own2 o5 k2 (by decide)
    exact xec 3 k6 (.agg #[.slice h3 1 h7,V0 er]) ⟨_,rfl,g7,_,_,rfl,f0⟩
   refine xb 0 1 a4 ?_
   have g3:=n3.ge (bln (bln n1.below n2.below) (Za W2))
   have o7:=Xa (size:=1) (n:=1) n3.blk g3 rfl (by decide)
   have hB:=bln (bln (bln n1.below n2.below) (Za W2)) n3.below
   refine ybi (.o [] 4) (.t w.heap.size [3,52]) fun _ _ _ _ zJ zQ zo zx zy zK=>Zu (m:=0) (news:=[]) (V0 0) 1 8 (1) ([V0 no]) zo Tryz.underlying28 (by kernel_rfl) rfl (by decide) zx o7 zy (.inl ⟨none,0,rfl,rfl,rfl⟩) rfl (by simp) (by unfold maxLen;omega) (by omega) hB.size (by rfl) (by rfl) fun h6 h2 W8 o8 h4 h9=>?_
   refine zK _ _ (Zr h9 h4 o7 (by decide)) ?_
   have k2:=((n2.blk.below (Za W2)).below n3.below).grown h4 o7 (by decide)
   have g2:=n2.ge n1.below
   refine ysv (.o [7] 8) k2 [.slice h6 1 h2,V0 er] (.t w.heap.size [3,52]) fun W9 u9 k9=>⟨(Zo u9 k2 g2 (by decide)),?_⟩
   have f4:=u9.below (hB.trans h9) g2
   have f9:=u9.own2 o8 k2 (by decide)
   exact xec 3 k9 (.agg #[.slice h6 1 h2,V0 er]) ⟨_,rfl,f4,_,_,rfl,f9⟩
  have d3:=(a0.below (Za W2)).below n3.below
  refine xb 0 1 d3 ?_
  refine xb (.o [] 3) 0 d3 ?_
  have g3:=n3.ge (bln (bln n1.below n2.below) (Za W2))
  have g1:=Xa (size:=1) (n:=1) n3.blk g3 rfl (by decide)
  have hB:=bln (bln (bln n1.below n2.below) (Za W2)) n3.below
  refine ybi (.o [] 4) (.t w.heap.size [3,52]) fun _ _ _ _ zJ zQ zo zx zy zK=>Zu (m:=0) (news:=[]) (V0 0) 1 8 (1) ([V0 no]) zo Tryz.underlying28 (by kernel_rfl) rfl (by decide) zx g1 zy (.inl ⟨none,0,rfl,rfl,rfl⟩) rfl (by simp) (by unfold maxLen;omega) (by omega) hB.size (by rfl) (by rfl) fun c9 d4 l7 i0 c4 a9=>?_
  refine zK _ _ (Zr a9 c4 g1 (by decide)) ?_
  have k2:=((n2.blk.below (Za W2)).below n3.below).grown c4 g1 (by decide)
  have g2:=n2.ge n1.below
  refine ysv (.o [7] 8) k2 [.slice c9 1 d4,V0 er] (.t w.heap.size [3,52]) fun j7 f2 i1=>⟨(Zo f2 k2 g2 (by decide)),?_⟩
  have e9:=f2.below (hB.trans a9) g2
  have c1:=f2.own2 i0 k2 (by decide)
  exact xec 3 i1 (.agg #[.slice c9 1 d4,V0 er]) ⟨_,rfl,e9,_,_,rfl,c1⟩
 ·have a2:=a0.below (Za W2)
  refine xb 0 0 a2 ?_
  refine xm2 0 1 6 ?_ ?_
  ·refine xbs 0 1 [V0 no] 3 fun l5 l4 a1=>?_
   refine xm2 0 4 6 ?_ ?_
   ·have g6:=a1.ge (bln (bln n1.below n2.below) (Za W2))
    have e2:=Xa (size:=1) (n:=1) a1.blk g6 rfl (by decide)
    have hB:=bln (bln (bln n1.below n2.below) (Za W2)) a1.below
    refine ybi 0 (.t w.heap.size [3,52]) fun _ _ _ _ zJ zQ zo zx zy zK=>Zu (m:=0) (news:=[]) (V0 0) 1 8 (1) ([V0 no]) zo Tryz.underlying28 (by kernel_rfl) rfl (by decide) zx e2 zy (.inl ⟨none,0,rfl,rfl,rfl⟩) rfl (by simp) (by unfold maxLen;omega) (by omega) hB.size (by rfl) (by rfl) fun b4 b8 l1 j4 a3 c0=>?_
    refine zK _ _ (Zr c0 a3 e2 (by decide)) ?_
    have e7:=(a2.below a1.below).grown a3 e2 (by decide)
    refine xb (.o [] 6) 1 e7 ?_
    have k2:=((n2.blk.below (Za W2)).below a1.below).grown a3 e2 (by decide)
    have g2:=n2.ge n1.below
    refine ysv (.o [7] 8) k2 [.slice b4 1 b8,V0 er] (.t w.heap.size [3,52]) fun k4 f7 i4=>⟨(Zo f7 k2 g2 (by decide)),?_⟩
    have h1:=f7.below (hB.trans c0) g2
    have d6:=f7.own2 j4 k2 (by decide)
    exact xec 3 i4 (.agg #[.slice b4 1 b8,V0 er]) ⟨_,rfl,h1,_,_,rfl,d6⟩
   have f3:=a2.below a1.below
   refine xb 0 1 f3 ?_
   have g6:=a1.ge (bln (bln n1.below n2.below) (Za W2))
   have h0:=Xa (size:=1) (n:=1) a1.blk g6 rfl (by decide)
   have hB:=bln (bln (bln n1.below n2.below) (Za W2)) a1.below
   refine ybi (.o [] 4) (.t w.heap.size [3,52]) fun _ _ _ _ zJ zQ zo zx zy zK=>Zu (m:=0) (news:=[]) (V0 0) 1 8 (1) ([V0 no]) zo Tryz.underlying28 (by kernel_rfl) rfl (by decide) zx h0 zy (.inl ⟨none,0,rfl,rfl,rfl⟩) rfl (by simp) (by unfold maxLen;omega) (by omega) hB.size (by rfl) (by rfl) fun b7 c7 k8 i5 b9 d0=>?_
   refine zK _ _ (Zr d0 b9 h0 (by decide)) ?_
   have k2:=((n2.blk.below (Za W2)).below a1.below).grown b9 h0 (by decide)
   have g2:=n2.ge n1.below
   refine ysv (.o [7] 8) k2 [.slice b7 1 c7,V0 er] (.t w.heap.size [3,52]) fun k5 f8 j2=>⟨(Zo f8 k2 g2 (by decide)),?_⟩
   have g0:=f8.below (hB.trans d0) g2
   have b0:=f8.own2 i5 k2 (by decide)
   exact xec 3 j2 (.agg #[.slice b7 1 c7,V0 er]) ⟨_,rfl,g0,_,_,rfl,b0⟩
  refine xb 0 1 a2 ?_
  refine xbs (.o [] 1) 1 [V0 no] 3 fun l6 l0 e1=>?_
  have i9:=e1.ge (bln (bln n1.below n2.below) (Za W2))
  have e8:=Xa (size:=1) (n:=1) e1.blk i9 rfl (by decide)
  have hB:=bln (bln (bln n1.below n2.below) (Za W2)) e1.below
  refine ybi (.o [] 4) (.t w.heap.size [3,52]) fun _ _ _ _ zJ zQ zo zx zy zK=>Zu (m:=0) (news:=[]) (V0 0) 1 8 (1) ([V0 no]) zo Tryz.underlying28 (by kernel_rfl) rfl (by decide) zx e8 zy (.inl ⟨none,0,rfl,rfl,rfl⟩) rfl (by simp) (by unfold maxLen;omega) (by omega) hB.size (by rfl) (by rfl) fun d7 a7 l2 j0 c8 c6=>?_
  refine zK _ _ (Zr c6 c8 e8 (by decide)) ?_
  have k2:=((n2.blk.below (Za W2)).below e1.below).grown c8 e8 (by decide)
  have g2:=n2.ge n1.below
  refine ysv (.o [7] 8) k2 [.slice d7 1 a7,V0 er] (.t w.heap.size [3,52]) fun k3 f6 i2=>⟨(Zo f6 k2 g2 (by decide)),?_⟩
  have g5:=f6.below (hB.trans c6) g2
  have b5:=f6.own2 j0 k2 (by decide)
  exact xec 3 i2 (.agg #[.slice d7 1 a7,V0 er]) ⟨_,rfl,g5,_,_,rfl,b5⟩
 have a5:=a0.below (Za W2)
 refine xb 0 1 a5 ?_
 refine xm2 0 1 3 ?_ ?_
 ·refine xbs 0 1 [V0 no] 3 fun j6 k1 c5=>?_
  have f1:=a5.below c5.below
  refine xb (.o [] 3) 0 f1 ?_
  have i3:=c5.ge (bln (bln n1.below n2.below) (Za W2))
  have f5:=Xa (size:=1) (n:=1) c5.blk i3 rfl (by decide)
  have hB:=bln (bln (bln n1.below n2.below) (Za W2)) c5.below
  refine ybi (.o [] 4) (.t w.heap.size [3,52]) fun _ _ _ _ zJ zQ zo zx zy zK=>Zu (m:=0) (news:=[]) (V0 0) 1 8 (1) ([V0 no]) zo Tryz.underlying28 (by kernel_rfl) rfl (by decide) zx f5 zy (.inl ⟨none,0,rfl,rfl,rfl⟩) rfl (by simp) (by unfold maxLen;omega) (by omega) hB.size (by rfl) (by rfl) fun a8 d8 l3 j3 c3 b6=>?_
  refine zK _ _ (Zr b6 c3 f5 (by decide)) ?_
  have k2:=((n2.blk.below (Za W2)).below c5.below).grown c3 f5 (by decide)
  have g2:=n2.ge n1.below
  refine ysv (.o [7] 8) k2 [.slice a8 1 d8,V0 er] (.t w.heap.size [3,52]) fun j9 e5 i6=>⟨(Zo e5 k2 g2 (by decide)),?_⟩
  have e6:=e5.below (hB.trans b6) g2
  have d1:=e5.own2 j3 k2 (by decide)
  exact xec 3 i6 (.agg #[.slice a8 1 d8,V0 er]) ⟨_,rfl,e6,_,_,rfl,d1⟩
 refine xb 0 0 a5 ?_
 refine xbs (.o [] 1) 1 [V0 no] 3 fun j8 j5 e0=>?_
 have j1:=e0.ge (bln (bln n1.below n2.below) (Za W2))
 have g9:=Xa (size:=1) (n:=1) e0.blk j1 rfl (by decide)
 have hB:=bln (bln (bln n1.below n2.below) (Za W2)) e0.below
 refine ybi (.o [] 4) (.t w.heap.size [3,52]) fun _ _ _ _ zJ zQ zo zx zy zK=>Zu (m:=0) (news:=[]) (V0 0) 1 8 (1) ([V0 no]) zo Tryz.underlying28 (by kernel_rfl) rfl (by decide) zx g9 zy (.inl ⟨none,0,rfl,rfl,rfl⟩) rfl (by simp) (by unfold maxLen;omega) (by omega) hB.size (by rfl) (by rfl) fun c2 d5 k0 i7 d2 a6=>?_
 refine zK _ _ (Zr a6 d2 g9 (by decide)) ?_
 have k2:=((n2.blk.below (Za W2)).below e0.below).grown d2 g9 (by decide)
 have g2:=n2.ge n1.below
 refine ysv (.o [7] 8) k2 [.slice c2 1 d5,V0 er] (.t w.heap.size [3,52]) fun k7 g4 i8=>⟨(Zo g4 k2 g2 (by decide)),?_⟩
 have e3:=g4.below (hB.trans a6) g2
 have d9:=g4.own2 i7 k2 (by decide)
 exact xec 3 i8 (.agg #[.slice c2 1 d5,V0 er]) ⟨_,rfl,e3,_,_,rfl,d9⟩
def FltO(no er:Int)(w:World)(e:Ending)(w':World):Prop:=∃ a c,e=.returned (.agg #[.slice a (fltL no er).length c,V0 er])∧B0 w w'∧w'.ownsRow w.heap.size 3 1 (.slice a (fltL no er).length c) (fltL no er).length ((fltL no er).map V0)
theorem ref05_AtP(no er:Int)(w:World):C0 102 #[V0 no,.agg #[S0,V0 er]] w (FltO no er w):=by
 by_cases he:er=0
 ·subst he
  refine(Zfy no w).mono ?_
  rintro e W ⟨rfl,hb⟩
  exact⟨none,0,rfl,hb,World.ownsRow_nil _ _ _ _⟩
 ·refine(ref05_At_n no er w he).mono ?_
  rintro e W ⟨_,rfl,hb,a,c,rfl,ho⟩
  rw[FltO,fltL_nz he]
  exact⟨a,c,rfl,hb,ho⟩
theorem ref11_At(no er:Int)(w:World) :
 C0 95 #[V0 no,V0 er] w (FltO no er w):=by
 refine zin 9 Tryz.func95 ?_
 refine xa 2 [S0,V0 0] 52 fun b1 W1 n1=>?_
 refine xc 7 (args:=#[V0 no,.agg #[S0,V0 er]]) (ref05_AtP no er _) ?_
 rintro _ W2 ⟨a5,c5,rfl,a1,a2⟩
 have k1:=n1.blk.below a1
 refine xsv 0 k1 [.slice a5 ((fltL no er).length) c5,V0 er] fun W3 u3 k3=>?_
 have g1:=n1.ge (B3 w)
 have hB:=u3.below (bln n1.below a1) g1
 have a0:=u3.own2 (Zg a2 n1.below.size) k1 (by decide)
 exact xec 3 k3 (.agg #[.slice a5 ((fltL no er).length) c5,V0 er]) ⟨_,_,rfl,hB,a0⟩
theorem raw1(l:Bl)(k:Nat):Zi l k 1=(l.getD k 0).toNat:=by simp[Zi]
theorem raw2(l:Bl)(k:Nat):Zi l k 2=(l.getD k 0).toNat+256*(l.getD (k+1) 0).toNat:=by simp[Zi]
theorem BysM.elem{w:World}{a:O0}{n c:Nat}{l:Bl}(h:Bys w (.slice a n c) l)(hl:l.length=n){k:Nat}(hk:k<n):a.isSome=true∧w.cell? (Xj a (k*1))=some (.int .u8 (↑(l.getD k 0).toNat:Int)):=by
 subst hl;exact Bys.elem h hk
theorem slN_of{w:World}{v:Value}{n:Nat}{l:Bl}(h:Bys w v l)(hl:l.length=n):Sl w v n (l.map bv):=by subst hl;exact h
theorem Aw{l:Bl}{k m n:Nat}(h:l.length=n)(hk:k≤m)(hm:m≤n):((l.drop k).take (m-k)).length=m-k:=by simp;omega
theorem ask_sum{kind no:Int}{l:Bl}(hl:l.length=256):(!(((l.drop 252).take 4)==leB ((Ll l kind:Nat):Int) 4))=Ht kind no l 2:=by
 have h1:=leB_raw (l:=l) (k:=252) (w:=4) (by omega)
 have hs:Ll l kind<256 ^ 4:=by
  have:=Nat.xor_lt_two_pow (n:=32) (Ui (l.take 252)) (Ml kind)
  unfold Ll;exact this
 have hr:=Ba l 4 252
 show _=((Zi l 252 4:Int) != (Ll l kind:Int))
 rw[←h1]
 by_cases e:Zi l 252 4=Ll l kind
 ·rw[e];simp
 ·have e2:leB (Zi l 252 4:Int) 4≠leB (Ll l kind:Int) 4:=fun h=>e (leB_inj hr hs h)
  rw[beq_false_of_ne e2,bne_iff_ne.2 (by omega)];rfl
theorem Zcr(kind no:Int)(a:O0)(c:Nat)(l:Bl)(w:World)(hl:l.length≠256)(h:Bys w (.slice a l.length c) l) :
 C0 150 #[.slice a l.length c,V0 kind,V0 no] w (OpenP kind no l w):=by
 refine zin 61 Tryz.func150 ?_
 refine xr 11 (args:=#[V0 kind,V0 no]) (Oq kind no _) fun W1 a2=>?_
 refine xi 3 (!(Jk kind no)) (fun a0=>?_) (fun a0=>?_)
 ·have a1:Ht kind no l 0=true:=a0
  refine xe 8 (.tuple #[S0,V0 1]) ?_
  have he:Yi kind no l=1:=by simp[Yi,a1]
  exact .inl ⟨by rw[he];decide,by rw[he],a2⟩
 have a1:Ht kind no l 0=false:=a0
 have a4:Jk kind no=true:=by simpa using a0
 refine xk 10 (show(((l.length:Int) != (256:Int)):Bool)=true from bne_iff_ne.2 (by omega)) ?_
 refine xe 8 (.tuple #[S0,V0 7]) ?_
 have a3:Ht kind no l 1=true:=bne_iff_ne.2 (by omega)
 have he:Yi kind no l=7:=by simp[Yi,a1,a3]
 exact .inl ⟨by rw[he];decide,by rw[he],a2⟩
theorem Zaf(kind no:Int)(a:O0)(c:Nat)(l:Bl)(w:World)(hl256:l.length=256)(h:Bys w (.slice a 256 c) l) :
 C0 150 #[.slice a 256 c,V0 kind,V0 no] w (OpenP kind no l w):=by
 have d6:=h.cap hl256
 have a9:Ht kind no l 1=false:=bne_eq_false_iff_eq.2 (by rw[hl256];rfl)
 refine zin 61 Tryz.func150 ?_
 refine xr 11 (args:=#[V0 kind,V0 no]) (Oq kind no _) fun W1 d5=>?_
 refine xi 3 (!(Jk kind no)) (fun b4=>?_) (fun b4=>?_)
 ·have a2:Ht kind no l 0=true:=b4
  refine xe 8 (.tuple #[S0,V0 1]) ?_
  have he:Yi kind no l=1:=by simp[Yi,a2]
  exact .inl ⟨by rw[he];decide,by rw[he],d5⟩
 have a2:Ht kind no l 0=false:=b4
 have d4:Jk kind no=true:=by simpa using b4
 refine xd 15 .z ?_
 refine xsL (.e [0] 1) (fun _ _ _ _ zo zx zy V=>Yu (k:=252) (b:=a) (n:=256) (c:=c) (i:=252) (ki:=.i64) 1 zo zx zy rfl (by omega) Tryz.underlying22 (by kernel_rfl) V) ?_
 have hB:=bln d5 (Za W1)
 refine xcv (.e [] 2) (fun _ _ _ zo zx V hV=>Jf zo zx ((Bys.cut h hl256 252 256 (by decide) (Nat.le_refl _)).below (bln hB hV)) (Aw (m:=256) hl256 (by decide) (by decide)) Tryz.underlying22 Tryz.underlying5 Tryz.underlying9) ?_
 refine xsH (.e [3] 4) (fun _ _ _ _ zo zx zy V=>Ys (k:=252) (b:=a) (n:=256) (c:=c) (i:=252) (ki:=.i64) zo zx zy rfl (by omega) Tryz.underlying22 (by kernel_rfl) V) ?_
 refine xr (.o [6] 5) (args:=#[.slice a 252 c]) (ref_SumN a 252 c (l.take 252) _ (by simp;omega) (by decide) ((Bys.take h hl256 252 (by omega)).below hB)) fun W3 c3=>?_
 refine xr (.o [] 7) (args:=#[V0 kind]) (ref_Salt kind (Th d4).1 (Th d4).2.1 _) fun W4 b7=>?_
 refine xq (.e [] 8) (congrArg V0 (show(IntKind.i64.wrap (↑(BitVec.ofInt 64 (↑(Gl (l.take 252)):Int) ^^^ BitVec.ofInt 64 (↑(Pv kind):Int)).toNat:Int):Int)=(↑(Ll l kind):Int) from Fk (Ui (l.take 252)) (Ml kind))) ?_
 refine yc (.o [] 9) (args:=#[V0 (↑(Ll l kind):Int),V0 4]) .z (Tq (↑(Ll l kind):Int) 4 4 _ (Int.natCast_nonneg _) (by have:=Nat.xor_lt_two_pow (n:=32) (Ui (l.take 252)) (Ml kind);unfold Ll;omega) rfl (by decide)) ?_
 rintro _ W5 ⟨_,rfl,c0,p4,c4,rfl,h4⟩
 have d9:=(bln (bln hB c3) b7).size
 refine⟨c0,?_⟩
 have b2:=Zg h4 d9
 refine xcv (.e [] 10) (fun _ _ _ zo zx V hV=>Jf zo zx (Ko (Zh (Zb b2 hV)) (Zt _ _)) (Zt _ _) Tryz.underlying22 Tryz.underlying5 Tryz.underlying9) ?_
 refine xi (.r [11] 2) (!((⟨((l.drop 252).take 4).toArray⟩:ByteArray).toList==(⟨(leB (↑(Ll l kind):Int) 4).toArray⟩:ByteArray).toList)) (fun b5=>?_) (fun b5=>?_)
 ·have a3:Ht kind no l 2=true:=by rw[←ask_sum hl256,←Lk];exact b5
  have c6:=bln (bln (bln hB c3) b7) c0
  refine xe 8 (.tuple #[S0,V0 4]) ?_
  have he:Yi kind no l=4:=by simp[Yi,a2,a9,a3]
  exact .inl ⟨by rw[he];decide,by rw[he],c6⟩
 have a3:Ht kind no l 2=false:=by rw[←ask_sum hl256,←Lk];exact b5
 have a5:=bln (bln (bln hB c3) b7) c0
 refine xr 5 (args:=#[.slice a 256 c,V0 0,V0 4]) (Io a 256 c 0 4 0 4 l _ hl256 rfl rfl (by decide) (by decide) (by decide) (h.below a5)) fun W7 c7=>?_
 refine xin 15 (↑(Zi l 0 4):Int) no (fun c8=>?_) (fun c8=>?_)
 ·have a8:Ht kind no l 3=true:=bne_iff_ne.2 c8
  have c1:=bln a5 c7
  refine xe 8 (.tuple #[S0,V0 5]) ?_
  have he:Yi kind no l=5:=by simp[Yi,a2,a9,a3,a8]
  exact .inl ⟨by rw[he];decide,by rw[he],c1⟩
 have a8:Ht kind no l 3=false:=bne_eq_false_iff_eq.2 c8
 have a7:=bln a5 c7
 refine xr 5 (args:=#[.slice a 256 c,V0 4,V0 2]) (Io a 256 c 4 2 4 2 l _ hl256 rfl rfl (by decide) (by decide) (by decide) (h.below a7)) fun W9 d2=>?_
 refine xin 15 (↑(Zi l 4 2):Int) kind (fun a6=>?_) (fun a6=>?_)
 ·have b0:Ht kind no l 4=true:=bne_iff_ne.2 a6
  have b6:=bln a7 d2
  refine xe 8 (.tuple #[S0,V0 6]) ?_
  have he:Yi kind no l=6:=by simp[Yi,a2,a9,a3,a8,b0]
  exact .inl ⟨by rw[he];decide,by rw[he],b6⟩
 have b0:Ht kind no l 4=false:=bne_eq_false_iff_eq.2 a6
 refine xx 6 _ 256 6 1 (BysM.elem h hl256 (k:=6) (by omega)).1 ?_
 have a0:=bln a7 d2
 refine xl 0 ((BysM.elem (h.below a0) hl256 (k:=6) (by omega)).2) ?_
 refine xg 2 [50,51] ((↑(l.getD 6 0).toNat:Int) != (0:Int)) (fun a1=>?_) (fun a1=>?_)
 ·have a1:=Vl a1
  refine xe 16 (.tuple #[S0,V0 7]) ?_
  have b1:Ht kind no l 5=true:=bne_iff_ne.2 (by have d3:Zi l 6 2=(l.getD 6 0).toNat+256*(l.getD 7 0).toNat:=raw2 l 6;omega)
  have he:Yi kind no l=7:=by simp[Yi,a2,a9,a3,a8,b0,b1]
  exact .inl ⟨by rw[he];decide,by rw[he],a0⟩
 have a1:=Xp a1
 refine xx 1 _ 256 7 1 (BysM.elem h hl256 (k:=7) (by omega)).1 ?_
 refine xl 0 ((BysM.elem (h.below a0) hl256 (k:=7) (by omega)).2) ?_
 refine xin 4 (↑(l.getD 7 0).toNat:Int) (0:Int) (fun b9=>?_) (fun b9=>?_)
 ·refine xe 8 (.tuple #[S0,V0 7]) ?_
  have b1:Ht kind no l 5=true:=bne_iff_ne.2 (by have d3:Zi l 6 2=(l.getD 6 0).toNat+256*(l.getD 7 0).toNat:=raw2 l 6;omega)
  have he:Yi kind no l=7:=by simp[Yi,a2,a9,a3,a8,b0,b1]
  exact .inl ⟨by rw[he];decide,by rw[he],a0⟩
 refine xb0 4 5 fun e3 e2 b3=>?_
 have d8:=b3.ge a0
 have c9:=Zb (Zb b2 c7) d2
 have d0:=Zw c9 b3
 refine xsB 1 (fun _ _ _ _ _ zo zx zy zz V=>Qt (k:=8) (h:=252) (b:=a) (n:=256) (c:=c) (i:=8) (ki:=.i64) (j:=252) (kj:=.i64) 1 zo zx zy rfl zz rfl (by omega) (by omega) Tryz.underlying22 (by kernel_rfl) V) ?_
 have d7:=Xa (size:=1) (n:=0) b3.blk d8 rfl (by decide)
 have a4:=bln a0 b3.below
 refine xbi 0 fun _ _ _ _ zJ zQ zo zx zy zK=>Zu (m:=(252-8)) (news:=(((l.drop 8).take (252-8)).map bv)) (.int .u8 0) 1 1 (244) ((((l.drop 8).take 244).map bv)) zo Tryz.underlying22 (by kernel_rfl) rfl (by decide) zx d7 zy (slN_of ((Bys.cut h hl256 8 252 (by decide) (by decide)).below a4) (by simp;omega)) (by simp;omega) (Kf _) (by unfold maxLen;omega) (by omega) a4.size (by rfl) (by rfl) fun b8 d1 e4 e1 e0 c2=>?_
 refine zK _ _ ?_
 have c5:=a4.trans c2
 refine xe 5 (.tuple #[.slice b8 244 d1,V0 0]) ?_
 have b1:Ht kind no l 5=false:=by have d3:Zi l 6 2=(l.getD 6 0).toNat+256*(l.getD 7 0).toNat:=raw2 l 6;exact bne_eq_false_iff_eq.2 (by omega)
 exact .inr ⟨by simp[Yi,a2,a9,a3,a8,b0,b1],_,_,rfl,c5,e1⟩
theorem ref_Open(kind no:Int)(a:O0)(n c:Nat)(l:Bl)(w:World)(hn:l.length=n)(h:Bys w (.slice a n c) l):C0 150 #[.slice a n c,V0 kind,V0 no] w (OpenP kind no l w):=by
 by_cases hl:l.length=256
 ·obtain rfl:n=256:=by omega
  exact Zaf kind no a c l w hl h
 ·subst hn;exact Zcr kind no a c l w hl h
theorem Eu(B bm:Nat)(p:O0)(k c:Nat)(l:Bl)(w:World)(hI:RefI B bm p k c l w)(no:Int)(ho:¬ (0≤no∧no<(k:Int))) :
 C0 149 #[P0 bm,V0 no] w (Ret (.tuple #[S0,V0 3]) w):=by
 have hk:=hI.blk
 have a2:=hI.hk
 have a1:=hI.hl
 refine zin 25 Tryz.func149 ?_
 refine xg 12 [7,8] (decide (no<(0:Int))) (fun a0=>?_) (fun a0=>?_)
 ·have a0:=of_decide_eq_true a0
  exact xe 19 (.tuple #[S0,V0 3]) ⟨rfl,(B3 w)⟩
 have a0:=of_decide_eq_false a0
 refine xb 4 0 hk ?_
 refine xk 5 (show(decide (no≥(k:Int)):Bool)=true from decide_eq_true (by omega)) ?_
 exact xe 8 (.tuple #[S0,V0 3]) ⟨rfl,(B3 w)⟩
theorem Rz(B bm:Nat)(p:O0)(k c:Nat)(l:Bl)(w:World)(hI:RefI B bm p k c l w)(j:Nat)(hj:j<k) :
 C0 149 #[P0 bm,V0 (j:Int)] w (Vy (fun w' r=>∃ b c2,r=.tuple #[.slice (S1 b) 256 c2,V0 0]∧Bys w' (.slice (S1 b) 256 c2) (Kz l j)) w):=by
 have hk:=hI.blk
 have a5:=hI.hk
 have a4:=hI.hl
 have hr:=Zh hI.row
 have a2:(Wv l k).getD j []=Kz l j:=blksL_get l hj
 have a1:((Wv l k).getD j []).length=256:=by rw[a2];exact Kg (by omega)
 refine zin 25 Tryz.func149 ?_
 refine xgk 12 [7,8] (show(decide ((j:Int)<(0:Int)):Bool)=false from decide_eq_false (by omega)) ?_
 refine xb 4 0 hk ?_
 refine xk 5 (show(decide ((j:Int)≥(k:Int)):Bool)=false from decide_eq_false (by omega)) ?_
 refine xb 7 0 hk ?_
 refine xx 1 _ k j 1 (Strs.elem hr (Zba l k) (k:=j) (by omega)).1 ?_
 refine xl 0 ((Strs.elem hr (Zba l k) (k:=j) (by omega)).2) ?_
 refine xcf 0 fun _ _ _ zJ zQ zo zx zK=>Kl ((Wv l k).getD j []) zo zx Tryz.underlying9 Tryz.underlying22 Tryz.underlying5 (by omega) ?_
 intro bz cz W2 a3 a0
 refine zK _ _ ?_
 refine xe 5 (.tuple #[.slice (S1 bz) (((Wv l k).getD j []).length) cz,V0 0]) ?_
 rw[a1]
 rw[a1,a2] at a0
 exact⟨_,rfl,a3,_,_,rfl,a0⟩
def RReadP(k:Nat)(l:Bl)(no:Int)(w:World)(e:Ending)(w':World):Prop :=
 (¬ (0≤no∧no<(k:Int))∧e=.returned (.tuple #[S0,V0 3])∧B0 w w') ∨
 (∃ j:Nat,no=(j:Int)∧j<k∧∃ b c,e=.returned (.tuple #[.slice (S1 b) 256 c,V0 0])∧B0 w w'∧Bys w' (.slice (S1 b) 256 c) (Kz l j))
theorem Zct(B bm:Nat)(p:O0)(k c:Nat)(l:Bl)(w:World)(hI:RefI B bm p k c l w)(no:Int) :
 C0 149 #[P0 bm,V0 no] w (RReadP k l no w):=by
 by_cases h:0≤no∧no<(k:Int)
 ·obtain⟨j,rfl⟩:∃ j:Nat,no=j:=⟨no.toNat,by omega⟩
  refine(Rz B bm p k c l w hI j (by omega)).mono ?_
  rintro e W ⟨_,rfl,hb,b,c2,rfl,ho⟩
  exact .inr ⟨j,rfl,by omega,_,_,rfl,hb,ho⟩
 ·refine(Eu B bm p k c l w hI no h).mono ?_
  rintro e W ⟨rfl,hb⟩
  exact .inl ⟨h,rfl,hb⟩
def RInP(l:Bl)(kind no:Int)(w:World)(e:Ending)(w':World):Prop :=
 (inE l kind no≠0∧e=.returned (.tuple #[S0,V0 (inE l kind no)])∧B0 w w') ∨
 (inE l kind no=0∧(inB l no).length=244∧∃ p c,e=.returned (.tuple #[.slice p 244 c,V0 0])∧B0 w w'∧w'.ownsRow w.heap.size 5 1 (.slice p 244 c) 244 ((inB l no).map bv))
theorem Zd0(B bm:Nat)(p:O0)(k c:Nat)(l:Bl)(w:World)(hI:RefI B bm p k c l w)(no:Int)(kind:Int) :
 C0 94 #[P0 bm,V0 no,V0 kind] w (RInP l kind no w):=by
 have a9:=hI.hl
 refine zin 25 Tryz.func94 ?_
 refine xc 10 (args:=#[P0 bm,V0 no]) (Zct B bm p k c l _ (hI.below (B3 w)) no) ?_
 rintro e W1 a7
 rcases a7 with ⟨ho,rfl,a0⟩|⟨j,a4,hj,b3,c3,rfl,a0,a6⟩
 ·refine xe 24 (.tuple #[S0,V0 3]) ?_
  have he:inE l kind no=3:=Fs (n:=k*256) hI.hl (by omega)
  exact .inl ⟨by rw[he];decide,by rw[he],a0⟩
 have a1:inE l kind no=Yi kind no (Kz l j):=Zee (n:=k*256) hI.hl a4 (by omega)
 have a5:inB l no=((Kz l j).drop 8).take 244:=Zeg a4
 refine xc 22 (args:=#[.slice (S1 b3) 256 c3,V0 kind,V0 no]) (ref_Open kind no _ 256 c3 (Kz l j) _ (Kg (by omega)) a6) ?_
 rintro e W2 a8
 rcases a8 with ⟨hs,rfl,a2⟩|⟨hs,p2,c2,rfl,a2,h2⟩
 ·have hB:=bln a0 a2
  exact xe 7 (.tuple #[S0,V0 (Yi kind no (Kz l j))]) (.inl ⟨by rw[a1];exact hs,by rw[a1],hB⟩)
 have hB:=bln a0 a2
 have a3:=Zg h2 a0.size
 exact xe 7 (.tuple #[.slice p2 244 c2,V0 0]) (.inr ⟨by rw[a1,hs],by rw[a5];simp[Kg (show j<l.length/256 by omega)],_,_,rfl,hB,by rw[a5];exact a3⟩)
def Jj(t:Int)(leaf:Bool)(n m v:Nat):Bl:=leB (Uw leaf) 1++leB t 1++leB (n:Int) 2++leB (v:Int) 2++leB (m:Int) 2++leB 0 4
theorem Je(t:Int)(leaf:Bool)(n m v:Nat):(Jj t leaf n m v).length=12:=by simp[Jj,Zt]
def Gh(m v:Nat)(H:Bl)(K:List Int)(Vs:List Bl):Nat→Bl
 | 0=>Jd (List.replicate 244 0) 0 H
 | i+1=>Jd (Jd (Gh m v H K Vs i) (12+i*8) (leB (K.getD i 0) 8)) (12+m*8+i*v) (Vs.getD i [])
theorem Ed{m v:Nat}{H:Bl}{K:List Int}{Vs:List Bl}(hH:H.length=12)(hf:12+m*8+m*v≤244):∀ {i:Nat},i≤m→(∀ j,j<i→(Vs.getD j []).length=v)→(Gh m v H K Vs i).length=244
 | 0,_,_=>by rw[Gh,Qu (by rw[List.length_replicate];omega),List.length_replicate]
 | i+1,hi,hV=>by
  have ih:=Ed (K:=K) hH hf (i:=i) (by omega) (fun j hj=>hV j (by omega))
  have h1:=hV i (by omega)
  have h2:(i+1)*v≤m*v:=Nat.mul_le_mul_right v hi
  rw[Nat.add_mul,Nat.one_mul] at h2
  have h3:(Jd (Gh m v H K Vs i) (12+i*8) (leB (K.getD i 0) 8)).length=244:=by rw[Qu (by rw[Zt,ih];omega),ih]
  rw[Gh,Qu (by rw[h1,h3];omega),h3]
theorem node_Put(t:Int)(leaf:Bool)(n m v:Nat)(K:List Int)(Vs:List Bl)(ak av:O0)(ck cv:Nat)(w:World)(N:NodeOk t leaf n m v K Vs)(hKs:Sl w (.slice ak n ck) n (K.map V0))(hVs:Sl w (.slice av n cv) n (Vs.map sv)) :
 C0 108 #[.agg #[V0 t,.bool leaf,.slice ak n ck,.slice av n cv]] w (Vy (fun w' r=>∃ p c,r=.tuple #[.slice p 244 c,V0 0]∧w'.ownsRow w.heap.size 5 1 (.slice p 244 c) 244 ((Gh m v (Jj t leaf n m v) K Vs n).map bv)) w):=by
 have e7:=N.ht1
 have e9:=N.ht2
 have g1:=N.hn
 have f6:=Ek t leaf
 rw[N.hv] at f6
 have f2:=Qb t leaf
 rw[N.hm] at f2
 have d1:=fitN t leaf
 rw[N.hm,N.hv] at d1
 have f0:=Sl.cap hKs
 refine zin 90 Tryz.func108 ?_
 refine xa 2 [V0 t,.bool leaf,.slice ak n ck,.slice av n cv] 38 fun b1 W1 n1=>?_
 refine xlv 7 n1.blk.rp ?_
 refine xr 0 (args:=#[.agg #[V0 t,.bool leaf,.slice ak n ck,.slice av n cv]]) (Zf0 t leaf n m v K Vs ak av ck cv _ N (hKs.below n1.below) (hVs.below n1.below)) fun W2 e1=>?_
 refine xd 7 .z ?_
 have a6:=(n1.blk.below e1).below (Za W2)
 refine xb (.e [0] 1) 0 a6 ?_
 refine xb (.e [2] 3) 1 a6 ?_
 refine xb (.e [5] 6) 0 a6 ?_
 refine xb (.e [7] 8) 1 a6 ?_
 refine xr (.o [] 4) (args:=#[V0 t,.bool leaf]) (Nn t leaf v N.hv e7 e9 _) fun W3 e5=>?_
 refine xr (.o [] 9) (args:=#[V0 t,.bool leaf]) (Eo t leaf m N.hm e7 e9 _) fun W4 e0=>?_
 refine xd (.r [10,11] 3) .z ?_
 have a7:=((a6.below e5).below e0).below (Za W4)
 refine xb (.e [0] 1) 1 a7 ?_
 refine xb (.e [4] 5) 0 a7 ?_
 refine xb (.e [6,7] 8) 2 a7 ?_
 refine xr (.o [9,10,11,12,13,14,15] 2) (args:=#[.bool leaf]) (node_flag leaf _) fun W5 e4=>?_
 refine xbs (.o [3] 16) 6 [V0 1,V0 (Uw leaf),V0 1,V0 t,V0 2,V0 (n:Int),V0 2,V0 (v:Int),V0 2,V0 (m:Int),V0 4,V0 0] 229 fun b6 W6 n6=>?_
 have b4:=bln (bln (bln (bln (bln (bln n1.below e1) (Za W2)) e5) e0) (Za W4)) e4
 have g6:=n6.ge b4
 refine yc (.o [] 17) (args:=#[.slice (S1 b6) 6 6]) .z (Pack_node b6 (Uw leaf) t (n:Int) (v:Int) (m:Int) (Au leaf).1 (Au leaf).2 (by omega) (by omega) (by omega) (by omega) (by omega) (by omega) (by omega) (by omega) _ n6.blk) ?_
 rintro _ W7 ⟨_,rfl,c7,p2,c2,rfl,h2⟩
 have f3:=(bln b4 n6.below).size
 refine⟨c7,?_⟩
 refine xmk (.r [18,19,20,21,22] 4) fun _ _ _ _ zJ zQ zo zx zy zK=>Gn 244 (.int .u8 0) 1 1 ((List.replicate 244 (0:UInt8)).map bv) zo zx zy Tryz.underlying22 (by kernel_rfl) rfl (by omega) (by omega) (Zer 244) fun b8 W8 n8=>?_
 have c6:=bln (bln b4 n6.below) c7
 have g8:=n8.ge c6
 have b9:=Zg h2 f3
 have e3:=Zw b9 n8
 refine zK _ _ ?_
 have o8:=Xa (size:=1) (n:=244) n8.blk g8 (by rw[List.length_map,List.length_replicate]) (by unfold maxLen;omega)
 have d4:=Zb b9 n8.below
 have c1:=bln c6 n8.below
 refine xbi 7 (t2:=22) fun _ _ _ _ zJ zQ zo zx zy zK=>Nv (dLen:=244) (dCap:=244) (off:=0) 12 ((Jj t leaf n m v).map bv) ((Gh m v (Jj t leaf n m v) K Vs 0).map bv) zo Tryz.underlying22 (by kernel_rfl) zx zy (Zh d4) o8 (by simp[Je]) (by omega) (by omega) (Kf _) c1.size (by simp[Gh,Jd,Je]) fun W9 o9 e2 e8=>?_
 refine zK _ _ ?_
 have c4:=((((a7.below e4).below n6.below).below c7).below n8.below).grown e2 o8 (by decide)
 refine xb 6 2 c4 ?_
 have d9:=c1.trans e8
 have d8:=((n6.blk.below c7).below n8.below).grown e2 o8 (by decide)
 refine zl 5 90 (fun zm f4 V=>∃ (i:Nat),f4=[(1,P0 b1),(2,S0),(3,V0 0),(4,V0 (v:Int)),(5,V0 (m:Int)),(8,.slice (S1 b8) 244 244),(52,.slice ak n ck),(53,V0 (n:Int)),(54,V0 (i:Int))]∧zm=n-((i:Int)).toNat∧B0 w V∧Blk V b1 ([V0 t,.bool leaf,.slice ak n ck,.slice av n cv]) 38∧Blk V b6 ([V0 1,V0 (Uw leaf),V0 1,V0 t,V0 2,V0 (n:Int),V0 2,V0 (v:Int),V0 2,V0 (m:Int),V0 4,V0 0]) 229∧V.ownsRow w.heap.size 5 1 (.slice (S1 b8) 244 244) 244 ((Gh m v (Jj t leaf n m v) K Vs i).map bv)∧i≤n) ⟨0,rfl,rfl,d9,c4,d8,o9,Nat.zero_le _⟩ ?_
 rintro _ _ g2 ⟨i,rfl,rfl,a0,b5,a3,ho,hi⟩ g0 d7 g4
 have e8:i<n→i*v+v≤m*v:=fun h=>by have h9:(i+1)*v≤m*v:=Nat.mul_le_mul_right v (by omega);rw[Nat.add_mul,Nat.one_mul] at h9;exact h9
 refine xid 6 ((i:Int)<(n:Int)) (fun d0=>?_) (fun d0=>?_)
 ·refine xx 7 _ n i 1 (IntsN.elem hKs N.hK (k:=i) (by omega)).1 ?_
  refine xl 0 ((IntsN.elem (hKs.below a0) N.hK (k:=i) (by omega)).2) ?_
  refine xbs 8 1 [V0 8,V0 (K.getD i 0)] 229 fun e6 f8 a9=>?_
  have d3:=a9.ne a3
  have f9:=a9.ge a0
  refine xc 0 (args:=#[.slice (S1 e6) 1 1]) (Pack_8 e6 (K.getD i 0) (N.hk0 i (by omega)).1 _ a9.blk) ?_
  rintro _ f7 ⟨_,rfl,a8,p3,c3,rfl,h3⟩
  have d5:=(bln a0 a9.below).size
  refine xwm 11 ((i:Int)*8) (↑(i*8):Int) ?_
  refine xwm 0 (12+(↑(i*8):Int)) (↑(12+(i*8)):Int) ?_
  refine xsL 0 (fun _ _ _ _ zo zx zy V=>Pn (k:=(12+(i*8))) (b:=b8) (off:=0) (n:=244) (c:=244) (i:=(↑(12+(i*8)):Int)) (ki:=.i64) 1 zo zx zy rfl (by omega) (by omega) Tryz.underlying22 (by kernel_rfl) V) ?_
  have b0:=Zb (Zb ho a9.below) a8
  have c9:=Zg h3 d5
  have b7:=bln (bln a0 a9.below) a8
  refine xbi 1 (t2:=22) fun _ _ _ _ zJ zQ zo zx zy zK=>Nv (dLen:=(244-(12+(i*8)))) (dCap:=(244-(12+(i*8)))) (off:=(0+(12+(i*8))*1)) 8 ((leB (K.getD i 0) 8).map bv) ((Jd (Gh m v (Jj t leaf n m v) K Vs i) (12+i*8) (leB (K.getD i 0) 8)).map bv) zo Tryz.underlying22 (by kernel_rfl) zx zy (Zh c9) b0 (by simp[Zt]) (by omega) (by omega) (Kf _) b7.size (by simp[Jd,Zt,List.map_take,List.map_drop]) fun c8 f5 c5 d2=>?_
  refine zK _ _ ?_
  refine xd 2 (.t w.heap.size [5]) ?_
  refine xwm (.e [0,1] 2) ((m:Int)*8) (↑(m*8):Int) ?_
  refine xwm (.e [] 3) (12+(↑(m*8):Int)) (↑(12+(m*8)):Int) ?_
  refine xwm (.e [4,5] 6) ((i:Int)*(v:Int)) (↑(i*v):Int) ?_
  refine xwm (.e [] 7) ((↑(12+(m*8)):Int)+(↑(i*v):Int)) (↑((12+(m*8))+(i*v)):Int) ?_
  refine xsL (.e [] 8) (fun _ _ _ _ zo zx zy V=>Pn (k:=((12+(m*8))+(i*v))) (b:=b8) (off:=0) (n:=244) (c:=244) (i:=(↑((12+(m*8))+(i*v)):Int)) (ki:=.i64) 1 zo zx zy rfl (by omega) (by omega) Tryz.underlying22 (by kernel_rfl) V) ?_
  have a1:=(((b5.below a9.below).below a8).grown c5 b0 (by decide)).below (Za c8)
  refine xbt (.e [9] 10) 3 w.heap.size [5] a1 ?_
  refine xx (.e [11] 12) _ n i 1 (Strs.elem hVs N.hV (k:=i) (by omega)).1 ?_
  have b2:=bln (b7.trans d2) (Za c8)
  refine xlt (.e [] 13) (.t w.heap.size [5]) (fun V hV=>(Strs.elem (hVs.below (Kv b2 hV (Nat.le_refl _))) N.hV (k:=i) (by omega)).2) ?_
  have a2:=Zb f5 (Za c8)
  refine ybi (.o [] 14) (t2:=9) (.t w.heap.size [5]) fun _ _ _ _ zJ zQ zo zx zy zK=>Zel (dLen:=(244-((12+(m*8))+(i*v)))) (dCap:=(244-((12+(m*8))+(i*v)))) (off:=(0+((12+(m*8))+(i*v))*1)) (Vs.getD i []) ((Gh m v (Jj t leaf n m v) K Vs (i+1)).map bv) zo Tryz.underlying22 (by kernel_rfl) zx zy a2 (by rw[N.hw i (by omega)];omega) (by rw[N.hw i (by omega)];omega) b2.size (by simp[Gh,Jd,List.map_take,List.map_drop]) fun g3 f1 b3 c0=>?_
  refine zK _ _ (Zr c0 b3 a2 (by decide)) ?_
  refine xwm 4 ((i:Int)+1) (↑(i+1):Int) ?_
  have d6:=b2.trans c0
  have a5:=a1.grown b3 a2 (by decide)
  have a4:=((((a3.below a9.below).below a8).grown c5 b0 (by decide)).below (Za c8)).grown b3 a2 (by decide)
  exact ze 2 (d7 _ _ _ ⟨i+1,rfl,rfl,d6,a5,a4,f1,by omega⟩ (by omega))
 refine xe 13 (.tuple #[.slice (S1 b8) 244 244,V0 0]) ?_
 have e:i=n:=by omega
 subst e
 exact⟨_,rfl,a0,_,_,rfl,ho⟩
def Qs(K:List Int)(n:Nat)(i:Nat):Bl:=(List.range i).flatMap fun j=>if j<n then leB (K.getD j 0) 8 else List.replicate 8 0
theorem Km(K:List Int)(n i:Nat):Qs K n (i+1)=Qs K n i++(if i<n then leB (K.getD i 0) 8 else List.replicate 8 0):=by
 unfold Qs;rw[List.range_succ,List.flatMap_append];simp
theorem Hl(K:List Int)(n i:Nat):(Qs K n i).length=i*8:=by
 induction i with
 | zero=>rfl
 | succ i ih=>rw[Km,List.length_append,ih];split<;>simp[Zt]<;>omega
def Vx(Vs:List Bl)(i:Nat):Bl:=(List.range i).flatMap fun j=>Vs.getD j []
theorem Ux(Vs:List Bl)(i:Nat):Vx Vs (i+1)=Vx Vs i++Vs.getD i []:=by
 unfold Vx;rw[List.range_succ,List.flatMap_append];simp
theorem Pi{Vs:List Bl}{v:Nat}:∀ {i:Nat},(∀ j,j<i→(Vs.getD j []).length=v)→(Vx Vs i).length=i*v
 | 0,_=>by simp[Vx]
 | i+1,h=>by rw[Ux,List.length_append,Pi fun j hj=>h j (by omega),h i (by omega),Nat.add_mul,Nat.one_mul]
theorem Ob{P z Q x:Bl}{k:Nat}(hk:P.length=k)(hz:z.length=x.length):Jd (P++z++Q) k x=P++x++Q:=by
 unfold Jd
 subst hk
 rw[List.append_assoc P z Q,List.take_left' rfl,←hz]
 have e:P++(z++Q)=(P++z)++Q:=(List.append_assoc _ _ _).symm
 rw[e,List.drop_left' (by simp)]
theorem Hq(K:List Int)(i:Nat):∀ d,Qs K i (i+d)=Qs K i i++List.replicate (d*8) 0
 | 0=>by simp
 | d+1=>by
  rw[←Nat.add_assoc,Km,Hq K i d,if_neg (by omega),List.append_assoc,List.replicate_append_replicate,Nat.add_mul,Nat.one_mul]
theorem Lp(K:List Int)(n:Nat):∀ i,i≤n→Qs K n i=Qs K i i
 | 0,_=>rfl
 | i+1,h=>by
  rw[Km,Km,if_pos (by omega),if_pos (by omega),Lp K n i (by omega),Lp K (i+1) i (by omega)]
theorem Iz(a b:Nat):List.replicate (a+b) (0:UInt8)=List.replicate a 0++List.replicate b 0:=List.replicate_append_replicate.symm
theorem Tg{m v:Nat}{H:Bl}{K:List Int}{Vs:List Bl}(hH:H.length=12)(hf:12+m*8+m*v≤244):∀ {i:Nat},i≤m→(∀ j,j<i→(Vs.getD j []).length=v) →
  Gh m v H K Vs i=H++Qs K i m++Vx Vs i++List.replicate (232-m*8-i*v) 0
 | 0,_,_=>by
  have e1:=Hq K 0 m
  rw[Nat.zero_add] at e1
  rw[Gh,e1]
  have h1:(232-m*8-0*v)=232-m*8:=by omega
  rw[h1,show(244:Nat)=12+(m*8+(232-m*8)) by omega,Iz,Iz]
  have:=Ob (P:=[]) (z:=List.replicate 12 (0:UInt8)) (Q:=List.replicate (m*8) 0++List.replicate (232-m*8) 0) (x:=H) (k:=0) rfl (by simp[hH])
  rw[List.nil_append,List.nil_append] at this
  rw[this]
  simp[Qs,Vx]
 | i+1,hi,hV=>by
  have ih:=Tg (K:=K) hH hf (i:=i) (by omega) (fun j hj=>hV j (by omega))
  have a0:=hV i (by omega)
  have h2:(i+1)*v≤m*v:=Nat.mul_le_mul_right v hi
  rw[Nat.add_mul,Nat.one_mul] at h2
  obtain⟨d,hd⟩:∃ d,m=i+(d+1):=⟨m-i-1,by omega⟩
  have ek:Qs K i m=Qs K i i++List.replicate 8 0++List.replicate (d*8) 0:=by
   rw[hd,Hq,show(d+1)*8=8+d*8 by omega,Iz,List.append_assoc]
  have a3:Qs K (i+1) m=Qs K i i++leB (K.getD i 0) 8++List.replicate (d*8) 0:=by
   rw[show m=(i+1)+d by omega,Hq,Km,if_pos (by omega),Lp K (i+1) i (by omega)]
  have er:List.replicate (232-m*8-i*v) (0:UInt8)=List.replicate v 0++List.replicate (232-m*8-(i*v+v)) 0:=by
   rw[←Iz];congr 1;omega
  have a4:(Vx Vs i).length=i*v:=Pi fun j hj=>hV j (by omega)
  rw[Gh,ih,ek,er]
  have s1:=Ob (P:=H++Qs K i i) (z:=List.replicate 8 (0:UInt8)) (Q:=List.replicate (d*8) 0++(Vx Vs i++(List.replicate v 0++List.replicate (232-m*8-(i*v+v)) 0))) (x:=leB (K.getD i 0) 8) (k:=12+i*8) (by rw[List.length_append,hH,Hl]) (by simp[Zt])
  have a1:H++(Qs K i i++List.replicate 8 0++List.replicate (d*8) 0)++Vx Vs i++(List.replicate v 0++List.replicate (232-m*8-(i*v+v)) 0)=H++Qs K i i++List.replicate 8 0++(List.replicate (d*8) 0++(Vx Vs i++(List.replicate v 0++List.replicate (232-m*8-(i*v+v)) 0))):=by simp only[List.append_assoc]
  rw[a1,s1]
  have s2:=Ob (P:=H++Qs K (i+1) m++Vx Vs i) (z:=List.replicate v (0:UInt8)) (Q:=List.replicate (232-m*8-(i*v+v)) 0) (x:=Vs.getD i []) (k:=12+m*8+i*v) (by rw[List.length_append,List.length_append,hH,Hl,a4]) (by rw[List.length_replicate,a0])
  have a2:H++Qs K i i++leB (K.getD i 0) 8++(List.replicate (d*8) 0++(Vx Vs i++(List.replicate v 0++List.replicate (232-m*8-(i*v+v)) 0)))=H++Qs K (i+1) m++Vx Vs i++List.replicate v 0++List.replicate (232-m*8-(i*v+v)) 0:=by rw[a3];simp only[List.append_assoc]
  rw[a2,s2,Ux,Nat.add_mul,Nat.one_mul]
  simp only[List.append_assoc]
theorem Be(w:World) :
 C0 223 #[V0 1,.bool true] w (Ret (V0 4) w):=by
 refine zin 19 Tryz.func223 ?_
 refine xbs 7 6 [V0 0,V0 4,V0 8,V0 24,V0 16,V0 4] 3 fun b1 W1 n1=>?_
 refine xb 32 1 n1.blk ?_
 exact xe 4 (V0 4) ⟨rfl,n1.below⟩
theorem ref07_Max1(w:World) :
 C0 224 #[V0 1,.bool true] w (Ret (V0 18) w):=by
 refine zin 16 Tryz.func224 ?_
 refine xr 10 (args:=#[V0 1,.bool true]) (Be _) fun W1 a0=>?_
 exact xe 18 (V0 18) ⟨rfl,a0⟩
theorem Ce(w:World) :
 C0 223 #[V0 2,.bool true] w (Ret (V0 8) w):=by
 refine zin 19 Tryz.func223 ?_
 refine xbs 7 6 [V0 0,V0 4,V0 8,V0 24,V0 16,V0 4] 3 fun b1 W1 n1=>?_
 refine xb 32 2 n1.blk ?_
 exact xe 4 (V0 8) ⟨rfl,n1.below⟩
theorem Zhc(w:World) :
 C0 224 #[V0 2,.bool true] w (Ret (V0 12) w):=by
 refine zin 16 Tryz.func224 ?_
 refine xr 10 (args:=#[V0 2,.bool true]) (Ce _) fun W1 a0=>?_
 exact xe 25 (V0 12) ⟨rfl,a0⟩
theorem Co(w:World) :
 C0 223 #[V0 3,.bool true] w (Ret (V0 24) w):=by
 refine zin 19 Tryz.func223 ?_
 refine xbs 7 6 [V0 0,V0 4,V0 8,V0 24,V0 16,V0 4] 3 fun b1 W1 n1=>?_
 refine xb 32 3 n1.blk ?_
 exact xe 4 (V0 24) ⟨rfl,n1.below⟩
theorem Zgb(w:World) :
 C0 224 #[V0 3,.bool true] w (Ret (V0 6) w):=by
 refine zin 16 Tryz.func224 ?_
 refine xr 10 (args:=#[V0 3,.bool true]) (Co _) fun W1 a0=>?_
 exact xe 39 (V0 6) ⟨rfl,a0⟩
theorem Bp(w:World) :
 C0 223 #[V0 4,.bool true] w (Ret (V0 16) w):=by
 refine zin 19 Tryz.func223 ?_
 refine xbs 7 6 [V0 0,V0 4,V0 8,V0 24,V0 16,V0 4] 3 fun b1 W1 n1=>?_
 refine xb 32 4 n1.blk ?_
 exact xe 4 (V0 16) ⟨rfl,n1.below⟩
theorem Zg0(w:World) :
 C0 224 #[V0 4,.bool true] w (Ret (V0 9) w):=by
 refine zin 16 Tryz.func224 ?_
 refine xr 10 (args:=#[V0 4,.bool true]) (Bp _) fun W1 a0=>?_
 exact xe 32 (V0 9) ⟨rfl,a0⟩
theorem Cg(w:World) :
 C0 223 #[V0 5,.bool true] w (Ret (V0 4) w):=by
 refine zin 19 Tryz.func223 ?_
 refine xbs 7 6 [V0 0,V0 4,V0 8,V0 24,V0 16,V0 4] 3 fun b1 W1 n1=>?_
 refine xb 32 5 n1.blk ?_
 exact xe 4 (V0 4) ⟨rfl,n1.below⟩
theorem Zhn(w:World) :
 C0 224 #[V0 5,.bool true] w (Ret (V0 18) w):=by
 refine zin 16 Tryz.func224 ?_
 refine xr 10 (args:=#[V0 5,.bool true]) (Cg _) fun W1 a0=>?_
 exact xe 18 (V0 18) ⟨rfl,a0⟩
theorem Mu(t:Int)(w:World)(h1:1≤t)(h2:t≤5) :
 C0 223 #[V0 t,.bool false] w (Ret (V0 4) w):=by
 refine zin 19 Tryz.func223 ?_
 refine xbs 7 6 [V0 0,V0 4,V0 8,V0 24,V0 16,V0 4] 3 fun b1 W1 n1=>?_
 refine xgk 9 [8,9] (show(decide (t<(1:Int)):Bool)=false from decide_eq_false (by omega)) ?_
 refine xk 5 (show(decide (t>(5:Int)):Bool)=false from decide_eq_false (by omega)) ?_
 exact xe 17 (V0 4) ⟨rfl,n1.below⟩
theorem Zc4(t:Int)(w:World)(h1:1≤t)(h2:t≤5) :
 C0 224 #[V0 t,.bool false] w (Ret (V0 18) w):=by
 refine zin 16 Tryz.func224 ?_
 refine xr 10 (args:=#[V0 t,.bool false]) (Mu t _ h1 h2) fun W1 a0=>?_
 exact xe 18 (V0 18) ⟨rfl,a0⟩
theorem Ld(t:Int)(leaf:Bool)(w:World)(h:¬ (1≤t∧t≤5)) :
 C0 223 #[V0 t,.bool leaf] w (Ret (V0 0) w):=by
 refine zin 19 Tryz.func223 ?_
 refine xbs 7 6 [V0 0,V0 4,V0 8,V0 24,V0 16,V0 4] 3 fun b1 W1 n1=>?_
 refine xg 9 [8,9] (decide (t<(1:Int))) (fun a0=>?_) (fun a0=>?_)
 ·have a0:=of_decide_eq_true a0
  exact xe 13 (V0 0) ⟨rfl,n1.below⟩
 have a0:=of_decide_eq_false a0
 refine xk 5 (show(decide (t>(5:Int)):Bool)=true from decide_eq_true (by omega)) ?_
 exact xe 7 (V0 0) ⟨rfl,n1.below⟩
theorem Zco(t:Int)(leaf:Bool)(w:World)(h:¬ (1≤t∧t≤5)) :
 C0 224 #[V0 t,.bool leaf] w (Ret (V0 0) w):=by
 refine zin 16 Tryz.func224 ?_
 refine xr 10 (args:=#[V0 t,.bool leaf]) (Ld t leaf _ h) fun W1 a0=>?_
 exact xe 40 (V0 0) ⟨rfl,a0⟩
theorem Zb1(t:Int)(leaf:Bool)(v:Nat)(hv:Uh t leaf=v)(h1:1≤t)(h2:t≤5)(w:World):C0 223 #[V0 t,.bool leaf] w (Ret (V0 (v:Int)) w):=by
 subst hv
 cases leaf
 ·exact Mu t w h1 h2
 obtain rfl|rfl|rfl|rfl|rfl:t=1∨t=2∨t=3∨t=4∨t=5:=by omega
 ·exact Be w
 ·exact Ce w
 ·exact Co w
 ·exact Bp w
 ·exact Cg w
theorem ref07_Max(t:Int)(leaf:Bool)(m:Nat)(hm:Kj t leaf=m)(h1:1≤t)(h2:t≤5)(w:World):C0 224 #[V0 t,.bool leaf] w (Ret (V0 (m:Int)) w):=by
 subst hm
 cases leaf
 ·exact Zc4 t w h1 h2
 obtain rfl|rfl|rfl|rfl|rfl:t=1∨t=2∨t=3∨t=4∨t=5:=by omega
 ·exact ref07_Max1 w
 ·exact Zhc w
 ·exact Zgb w
 ·exact Zg0 w
 ·exact Zhn w
theorem By(t:Int)(leaf:Bool)(w:World):C0 223 #[V0 t,.bool leaf] w (Ret (V0 (widG t leaf:Int)) w):=by
 unfold widG
 by_cases h:1≤t∧t≤5
 ·rw[if_pos h];exact Zb1 t leaf _ rfl h.1 h.2 w
 ·rw[if_neg h];exact Ld t leaf w h
theorem Lq(t:Int)(leaf:Bool)(w:World):C0 224 #[V0 t,.bool leaf] w (Ret (V0 (Zf9 t leaf:Int)) w):=by
 unfold Zf9
 by_cases h:1≤t∧t≤5
 ·rw[if_pos h];exact ref07_Max t leaf _ rfl h.1 h.2 w
 ·rw[if_neg h];exact Zco t leaf w h
theorem Bd{l:Bl}(h:Ka l=true):Zp l≤Xl l∧12+Xl l*8+Xl l*Xk l≤244∧Xl l≤18∧Xk l≤24∧Zp l*Xk l≤Xl l*Xk l :=
 ⟨Hv h,fitG (Xw l) (Xm l),Zbv (Xw l) (Xm l),Zb5 (Xw l) (Xm l),Nat.mul_le_mul_right _ (Hv h)⟩
theorem Zfr(a:O0)(c:Nat)(l:Bl)(w:World)(hl:l.length=244)(h:Bys w (.slice a 244 c) l) :
 C0 222 #[.slice a 244 c] w (Ret (.bool (Ka l&&Mk l)) w):=by
 have e4:=Bys.cap h hl
 have e3:=raw1 l 0
 have f3:=Ba l 2 2
 have e8:=Zbv (Xw l) (Xm l)
 have e9:=Zb5 (Xw l) (Xm l)
 change Xl l≤18 at e8
 change Xk l≤24 at e9
 refine zin 101 Tryz.func222 ?_
 refine xx 13 _ 244 0 1 (BysM.elem h hl (k:=0) (by omega)).1 ?_
 refine xl 0 ((BysM.elem h hl (k:=0) (by omega)).2) ?_
 refine xid 4 ((↑(l.getD 0 0).toNat:Int)>(1:Int)) (fun e7=>?_) (fun e7=>?_)
 ·refine xe 7 (.bool false) ?_
  rw[show Ka l=false from decide_eq_false (by omega)];exact⟨rfl,(B3 w)⟩
 refine xbs 5 6 [V0 1,V0 1,V0 2,V0 2,V0 2,V0 4] 3 fun b2 W2 n2=>?_
 refine xc 0 (args:=#[.slice a 244 c,.slice (S1 b2) 6 6]) (Rl a 244 c l (S1 b2) 6 6 [1,1,2,2,2,4] (Yj l) _ hl rfl rfl (by decide) (by decide) (by decide) (by decide) (h.below n2.below) (n2.blk.sl 6 6 (by decide) (by decide)) (Zfb l)) ?_
 rintro _ W3 ⟨_,rfl,a7,p5,c5,rfl,h5⟩
 have a2:=Zg h5 n2.below.size
 refine xx 10 _ 6 0 1 (Zm (l:=Yj l) (Zh a2) rfl (k:=0) (by decide)).1 ?_
 refine xl 0 ((Zm (l:=Yj l) (Zh a2) rfl (k:=0) (by decide)).2) ?_
 refine xx 7 _ 6 1 1 (Zm (l:=Yj l) (Zh a2) rfl (k:=1) (by decide)).1 ?_
 refine xl 0 ((Zm (l:=Yj l) (Zh a2) rfl (k:=1) (by decide)).2) ?_
 refine xr 1 (args:=#[V0 (↑(Zi l 1 1):Int),.bool ((↑(Zi l 0 1):Int)==(1:Int))]) (By (Xw l) (Xm l) _) fun W4 a4=>?_
 have b3:=Zb a2 a4
 refine xx 6 _ 6 1 1 (Zm (l:=Yj l) (Zh b3) rfl (k:=1) (by decide)).1 ?_
 refine xl 0 ((Zm (l:=Yj l) (Zh b3) rfl (k:=1) (by decide)).2) ?_
 refine xr 1 (args:=#[V0 (↑(Zi l 1 1):Int),.bool ((↑(Zi l 0 1):Int)==(1:Int))]) (Lq (Xw l) (Xm l) _) fun W5 a5=>?_
 refine xg 9 [38,39] ((↑(Xk l):Int)==(0:Int)) (fun b6=>?_) (fun b6=>?_)
 ·have b6:=eq_of_beq b6
  have d5:=bln (bln (bln n2.below a7) a4) a5
  refine xe 46 (.bool false) ?_
  rw[show Ka l=false from decide_eq_false (by omega)];exact⟨rfl,d5⟩
 have b6:=Yd b6
 have a0:=Zb b3 a5
 refine xx 1 _ 6 3 1 (Zm (l:=Yj l) (Zh a0) rfl (k:=3) (by decide)).1 ?_
 refine xl 0 ((Zm (l:=Yj l) (Zh a0) rfl (k:=3) (by decide)).2) ?_
 refine xg 4 [44,45,46] ((↑(Zi l 4 2):Int) != (↑(Xk l):Int)) (fun b7=>?_) (fun b7=>?_)
 ·have b7:=Vl b7
  have d9:=bln (bln (bln n2.below a7) a4) a5
  refine xe 39 (.bool false) ?_
  rw[show Ka l=false from decide_eq_false (by omega)];exact⟨rfl,d9⟩
 have b7:=Xp b7
 refine xx 1 _ 6 4 1 (Zm (l:=Yj l) (Zh a0) rfl (k:=4) (by decide)).1 ?_
 refine xl 0 ((Zm (l:=Yj l) (Zh a0) rfl (k:=4) (by decide)).2) ?_
 refine xg 4 [51,52,53] ((↑(Zi l 6 2):Int) != (↑(Xl l):Int)) (fun c2=>?_) (fun c2=>?_)
 ·have c2:=Vl c2
  have d3:=bln (bln (bln n2.below a7) a4) a5
  refine xe 32 (.bool false) ?_
  rw[show Ka l=false from decide_eq_false (by omega)];exact⟨rfl,d3⟩
 have c2:=Xp c2
 refine xx 1 _ 6 5 1 (Zm (l:=Yj l) (Zh a0) rfl (k:=5) (by decide)).1 ?_
 refine xl 0 ((Zm (l:=Yj l) (Zh a0) rfl (k:=5) (by decide)).2) ?_
 refine xg 3 [57,58,59] ((↑(Zi l 8 4):Int) != (0:Int)) (fun b9=>?_) (fun b9=>?_)
 ·have b9:=Vl b9
  have e1:=bln (bln (bln n2.below a7) a4) a5
  refine xe 26 (.bool false) ?_
  rw[show Ka l=false from decide_eq_false (by omega)];exact⟨rfl,e1⟩
 have b9:=Xp b9
 refine xx 1 _ 6 2 1 (Zm (l:=Yj l) (Zh a0) rfl (k:=2) (by decide)).1 ?_
 refine xl 0 ((Zm (l:=Yj l) (Zh a0) rfl (k:=2) (by decide)).2) ?_
 refine xg 4 [64,65,66] (decide ((↑(Zi l 2 2):Int)>(↑(Xl l):Int))) (fun a3=>?_) (fun a3=>?_)
 ·have a3:=of_decide_eq_true a3
  have c8:=bln (bln (bln n2.below a7) a4) a5
  refine xe 19 (.bool false) ?_
  rw[show Ka l=false from decide_eq_false (by omega)];exact⟨rfl,c8⟩
 have a3:=of_decide_eq_false a3
 refine xg 3 [68,69] (!((↑(Zi l 0 1):Int)==(1:Int))) (fun a8=>?_) (fun a8=>?_)
 ·have e5:Zi l 0 1≠1:=by have q:¬ ((Zi l 0 1:Int)=1):=(by simpa using a8);omega
  refine xx 1 _ 6 2 1 (Zm (l:=Yj l) (Zh a0) rfl (k:=2) (by decide)).1 ?_
  refine xl 0 ((Zm (l:=Yj l) (Zh a0) rfl (k:=2) (by decide)).2) ?_
  refine xie 5 (↑(Zi l 2 2):Int) (0:Int) (fun c9=>?_) (fun c9=>?_)
  ·have d1:=bln (bln (bln n2.below a7) a4) a5
   refine xe 7 (.bool false) ?_
   rw[show Ka l=false from decide_eq_false (by omega)];exact⟨rfl,d1⟩
  refine xx 6 _ 6 2 1 (Zm (l:=Yj l) (Zh a0) rfl (k:=2) (by decide)).1 ?_
  refine xl 0 ((Zm (l:=Yj l) (Zh a0) rfl (k:=2) (by decide)).2) ?_
  refine xwm 0 (8*(↑(Zi l 2 2):Int)) (↑(8*(Zi l 2 2)):Int) ?_
  refine xwm 0 (12+(↑(8*(Zi l 2 2)):Int)) (↑(12+(8*(Zi l 2 2))):Int) ?_
  refine xwm 1 (8*(↑(Xl l):Int)) (↑(8*(Xl l)):Int) ?_
  refine xwm 0 (12+(↑(8*(Xl l)):Int)) (↑(12+(8*(Xl l))):Int) ?_
  refine xsB 0 (fun _ _ _ _ _ zo zx zy zz V=>Qt (k:=(12+(8*(Zi l 2 2)))) (h:=(12+(8*(Xl l)))) (b:=a) (n:=244) (c:=c) (i:=(↑(12+(8*(Zi l 2 2))):Int)) (ki:=.i64) (j:=(↑(12+(8*(Xl l))):Int)) (kj:=.i64) 1 zo zx zy rfl zz rfl (by omega) (by omega) Tryz.underlying22 (by kernel_rfl) V) ?_
  have e3:=raw1 l 0
  have hs:Ka l=true:=decide_eq_true ⟨by omega,by omega,by omega,by omega,by omega,by omega,by omega⟩
  obtain⟨d8,d0,d4,d6,e0⟩:=Bd hs
  unfold Zp at d8 e0
  have e6:=Nat.mul_comm (Zi l 2 2) (Xk l)
  have c0:Mk l=(Vg ((l.drop (12+8*Zi l 2 2)).take ((12+8*Xl l)-(12+8*Zi l 2 2)))&&Vg ((l.drop (12+8*Xl l+Xk l*Zi l 2 2)).take (244-(12+8*Xl l+Xk l*Zi l 2 2)))):=by unfold Mk Ev Zbj Fm Zp;rw[show 12+Zi l 2 2*8=12+8*Zi l 2 2 by omega,show 12+Xl l*8=12+8*Xl l by omega,Nat.mul_comm (Zi l 2 2) (Xk l)]
  have b1:=bln (bln (bln n2.below a7) a4) a5
  refine xr 0 (args:=#[.slice (Qz a (12+(8*(Zi l 2 2))) c 1) ((12+(8*(Xl l)))-(12+(8*(Zi l 2 2)))) (c-(12+(8*(Zi l 2 2))))]) (We (Qz a (12+(8*(Zi l 2 2))) c 1) ((12+(8*(Xl l)))-(12+(8*(Zi l 2 2)))) (c-(12+(8*(Zi l 2 2)))) _ _ (by simp;omega) (by omega) ((Bys.cut h hl (12+8*Zi l 2 2) (12+8*Xl l) (by omega) (by omega)).below b1)) fun f0 a9=>?_
  refine xg 1 [86,87] (Vg ((l.drop (12+8*Zi l 2 2)).take ((12+8*Xl l)-(12+8*Zi l 2 2)))) (fun b5=>?_) (fun b5=>?_)
  ·refine xwm 2 (8*(↑(Xl l):Int)) (↑(8*(Xl l)):Int) ?_
   refine xwm 0 (12+(↑(8*(Xl l)):Int)) (↑(12+(8*(Xl l))):Int) ?_
   have c4:=Zb a0 a9
   refine xx 2 _ 6 2 1 (Zm (l:=Yj l) (Zh c4) rfl (k:=2) (by decide)).1 ?_
   refine xl 0 ((Zm (l:=Yj l) (Zh c4) rfl (k:=2) (by decide)).2) ?_
   refine xwm 0 ((↑(Xk l):Int)*(↑(Zi l 2 2):Int)) (↑((Xk l)*(Zi l 2 2)):Int) ?_
   refine xwm 0 ((↑(12+(8*(Xl l))):Int)+(↑((Xk l)*(Zi l 2 2)):Int)) (↑((12+(8*(Xl l)))+((Xk l)*(Zi l 2 2))):Int) ?_
   refine xsL 0 (fun _ _ _ _ zo zx zy V=>Yu (k:=((12+(8*(Xl l)))+((Xk l)*(Zi l 2 2)))) (b:=a) (n:=244) (c:=c) (i:=(↑((12+(8*(Xl l)))+((Xk l)*(Zi l 2 2))):Int)) (ki:=.i64) 1 zo zx zy rfl (by omega) Tryz.underlying22 (by kernel_rfl) V) ?_
   have b8:=bln b1 a9
   refine xr 0 (args:=#[.slice (Qz a ((12+(8*(Xl l)))+((Xk l)*(Zi l 2 2))) c 1) (244-((12+(8*(Xl l)))+((Xk l)*(Zi l 2 2)))) (c-((12+(8*(Xl l)))+((Xk l)*(Zi l 2 2))))]) (We (Qz a ((12+(8*(Xl l)))+((Xk l)*(Zi l 2 2))) c 1) (244-((12+(8*(Xl l)))+((Xk l)*(Zi l 2 2)))) (c-((12+(8*(Xl l)))+((Xk l)*(Zi l 2 2)))) _ _ (by simp;omega) (by omega) ((Bys.cut h hl (12+8*Xl l+Xk l*Zi l 2 2) 244 (by omega) (by omega)).below b8)) fun f4 d2=>?_
   have e2:=bln b8 d2
   refine xe 5 (.bool (Vg ((l.drop (12+8*Xl l+Xk l*Zi l 2 2)).take (244-(12+8*Xl l+Xk l*Zi l 2 2))))) ?_
   rw[hs,c0,b5];exact⟨rfl,e2⟩
  have c7:=bln b1 a9
  refine xe 17 (.bool false) ?_
  rw[hs,c0,b5];exact⟨rfl,c7⟩
 have e5:Zi l 0 1=1:=by have q:((Zi l 0 1:Int)=1):=(by simpa using a8);omega
 refine xx 15 _ 6 2 1 (Zm (l:=Yj l) (Zh a0) rfl (k:=2) (by decide)).1 ?_
 refine xl 0 ((Zm (l:=Yj l) (Zh a0) rfl (k:=2) (by decide)).2) ?_
 refine xwm 0 (8*(↑(Zi l 2 2):Int)) (↑(8*(Zi l 2 2)):Int) ?_
 refine xwm 0 (12+(↑(8*(Zi l 2 2)):Int)) (↑(12+(8*(Zi l 2 2))):Int) ?_
 refine xwm 1 (8*(↑(Xl l):Int)) (↑(8*(Xl l)):Int) ?_
 refine xwm 0 (12+(↑(8*(Xl l)):Int)) (↑(12+(8*(Xl l))):Int) ?_
 refine xsB 0 (fun _ _ _ _ _ zo zx zy zz V=>Qt (k:=(12+(8*(Zi l 2 2)))) (h:=(12+(8*(Xl l)))) (b:=a) (n:=244) (c:=c) (i:=(↑(12+(8*(Zi l 2 2))):Int)) (ki:=.i64) (j:=(↑(12+(8*(Xl l))):Int)) (kj:=.i64) 1 zo zx zy rfl zz rfl (by omega) (by omega) Tryz.underlying22 (by kernel_rfl) V) ?_
 have e3:=raw1 l 0
 have hs:Ka l=true:=decide_eq_true ⟨by omega,by omega,by omega,by omega,by omega,by omega,by omega⟩
 obtain⟨d8,d0,d4,d6,e0⟩:=Bd hs
 unfold Zp at d8 e0
 have e6:=Nat.mul_comm (Zi l 2 2) (Xk l)
 have c0:Mk l=(Vg ((l.drop (12+8*Zi l 2 2)).take ((12+8*Xl l)-(12+8*Zi l 2 2)))&&Vg ((l.drop (12+8*Xl l+Xk l*Zi l 2 2)).take (244-(12+8*Xl l+Xk l*Zi l 2 2)))):=by unfold Mk Ev Zbj Fm Zp;rw[show 12+Zi l 2 2*8=12+8*Zi l 2 2 by omega,show 12+Xl l*8=12+8*Xl l by omega,Nat.mul_comm (Zi l 2 2) (Xk l)]
 have a1:=bln (bln (bln n2.below a7) a4) a5
 refine xr 0 (args:=#[.slice (Qz a (12+(8*(Zi l 2 2))) c 1) ((12+(8*(Xl l)))-(12+(8*(Zi l 2 2)))) (c-(12+(8*(Zi l 2 2))))]) (We (Qz a (12+(8*(Zi l 2 2))) c 1) ((12+(8*(Xl l)))-(12+(8*(Zi l 2 2)))) (c-(12+(8*(Zi l 2 2)))) _ _ (by simp;omega) (by omega) ((Bys.cut h hl (12+8*Zi l 2 2) (12+8*Xl l) (by omega) (by omega)).below a1)) fun f1 b4=>?_
 refine xg 1 [86,87] (Vg ((l.drop (12+8*Zi l 2 2)).take ((12+8*Xl l)-(12+8*Zi l 2 2)))) (fun b0=>?_) (fun b0=>?_)
 ·refine xwm 2 (8*(↑(Xl l):Int)) (↑(8*(Xl l)):Int) ?_
  refine xwm 0 (12+(↑(8*(Xl l)):Int)) (↑(12+(8*(Xl l))):Int) ?_
  have c3:=Zb a0 b4
  refine xx 2 _ 6 2 1 (Zm (l:=Yj l) (Zh c3) rfl (k:=2) (by decide)).1 ?_
  refine xl 0 ((Zm (l:=Yj l) (Zh c3) rfl (k:=2) (by decide)).2) ?_
  refine xwm 0 ((↑(Xk l):Int)*(↑(Zi l 2 2):Int)) (↑((Xk l)*(Zi l 2 2)):Int) ?_
  refine xwm 0 ((↑(12+(8*(Xl l))):Int)+(↑((Xk l)*(Zi l 2 2)):Int)) (↑((12+(8*(Xl l)))+((Xk l)*(Zi l 2 2))):Int) ?_
  refine xsL 0 (fun _ _ _ _ zo zx zy V=>Yu (k:=((12+(8*(Xl l)))+((Xk l)*(Zi l 2 2)))) (b:=a) (n:=244) (c:=c) (i:=(↑((12+(8*(Xl l)))+((Xk l)*(Zi l 2 2))):Int)) (ki:=.i64) 1 zo zx zy rfl (by omega) Tryz.underlying22 (by kernel_rfl) V) ?_
  have a6:=bln a1 b4
  refine xr 0 (args:=#[.slice (Qz a ((12+(8*(Xl l)))+((Xk l)*(Zi l 2 2))) c 1) (244-((12+(8*(Xl l)))+((Xk l)*(Zi l 2 2)))) (c-((12+(8*(Xl l)))+((Xk l)*(Zi l 2 2))))]) (We (Qz a ((12+(8*(Xl l)))+((Xk l)*(Zi l 2 2))) c 1) (244-((12+(8*(Xl l)))+((Xk l)*(Zi l 2 2)))) (c-((12+(8*(Xl l)))+((Xk l)*(Zi l 2 2)))) _ _ (by simp;omega) (by omega) ((Bys.cut h hl (12+8*Xl l+Xk l*Zi l 2 2) 244 (by omega) (by omega)).below a6)) fun f2 d7=>?_
  have c6:=bln a6 d7
  refine xe 5 (.bool (Vg ((l.drop (12+8*Xl l+Xk l*Zi l 2 2)).take (244-(12+8*Xl l+Xk l*Zi l 2 2))))) ?_
  rw[hs,c0,b0];exact⟨rfl,c6⟩
 have c1:=bln a1 b4
 refine xe 17 (.bool false) ?_
 rw[hs,c0,b0];exact⟨rfl,c1⟩
def RGetP(l:Bl)(k w:Nat)(W:World)(e:Ending)(w':World):Prop :=
 (Zi l k w<9223372036854775808∧e=.returned (.tuple #[V0 (Zi l k w:Int),V0 0])∧B0 W w')∨(¬ Zi l k w<9223372036854775808∧e=.returned (.tuple #[V0 0,V0 2])∧B0 W w')
theorem ref_GetP(a:O0)(n c k w:Nat)(l:Bl)(W:World)(hn:l.length=n)(hw:w=1∨w=2∨w=4∨w=8)(hk:k+w≤n)(hl:n≤100000000)(h:Bys W (.slice a n c) l)(ki wi:Int)(hki:ki=(k:Int))(hwi:wi=(w:Int)) :
 C0 186 #[.slice a n c,V0 ki,V0 wi] W (RGetP l k w W):=by
 subst hn hwi hki
 by_cases hq:Zi l k w<9223372036854775808
 ·refine(Ph a c k w l W hw hk hl h hq).mono ?_
  rintro e V ⟨rfl,hb⟩;exact .inl ⟨hq,rfl,hb⟩
 ·refine(Nm a c k w l W hw hk hl h hq).mono ?_
  rintro e V ⟨rfl,hb⟩;exact .inr ⟨hq,rfl,hb⟩
theorem Zec{l:Bl}{i:Nat}(h:281474976710655<Zi l (12+i*8) 8):Py l i=2:=by unfold Py Cs;rw[if_pos h]
theorem keyE_low{l:Bl}{i:Nat}(h:¬ 281474976710655<Zi l (12+i*8) 8)(h0:0<i)(h1:(Zi l (12+i*8) 8:Int)≤(Yx l i).getD (i-1) 0):Py l i=8:=by
 rw[La l (by omega)] at h1
 change ¬ 281474976710655<Cs l i at h
 change (Cs l i:Int)≤_ at h1
 unfold Py
 rw[if_neg h,if_pos ⟨h0,by omega⟩]
theorem keyE_ok{l:Bl}{i:Nat}(h:¬ 281474976710655<Zi l (12+i*8) 8)(h0:¬ 0<i):Py l i=0:=by
 change ¬ 281474976710655<Cs l i at h
 unfold Py;rw[if_neg h,if_neg fun q=>h0 q.1]
theorem Ze0{l:Bl}{i:Nat}(h:¬ 281474976710655<Zi l (12+i*8) 8)(h0:0<i)(h1:¬ (Zi l (12+i*8) 8:Int)≤(Yx l i).getD (i-1) 0):Py l i=0:=by
 rw[La l (by omega)] at h1
 change ¬ 281474976710655<Cs l i at h
 change ¬ (Cs l i:Int)≤_ at h1
 unfold Py
 rw[if_neg h,if_neg fun q=>h1 (by have:=q.2;omega)]
theorem Zdz{a:O0}{c i:Nat}{l:Bl}{w:World}(h:Bys w (.slice a 244 c) l)(hl:l.length=244)(hb:12+8*Xl l+Xk l*i+Xk l≤244) :
 Bys w (.slice (Qz a (12+8*Xl l+Xk l*i) c 1) (12+8*Xl l+Xk l*i+Xk l-(12+8*Xl l+Xk l*i)) (c-(12+8*Xl l+Xk l*i))) (Cv l i):=by
 have:=Bys.cut h hl (12+8*Xl l+Xk l*i) (12+8*Xl l+Xk l*i+Xk l) (by omega) hb
 unfold Cv
 rw[show 12+Xl l*8+i*Xk l=12+8*Xl l+Xk l*i by rw[Nat.mul_comm i];omega]
 rw[show(l.drop (12+8*Xl l+Xk l*i)).take (Xk l)=(l.drop (12+8*Xl l+Xk l*i)).take (12+8*Xl l+Xk l*i+Xk l-(12+8*Xl l+Xk l*i)) by rw[Nat.add_sub_cancel_left]]
 exact this
theorem Ds{i:Nat}{l:Bl}(hl:l.length=244)(hb:12+8*Xl l+Xk l*i+Xk l≤244):(Cv l i).length=12+8*Xl l+Xk l*i+Xk l-(12+8*Xl l+Xk l*i):=by
 unfold Cv;simp only[List.length_take,List.length_drop];rw[Nat.mul_comm i];omega
theorem rawC{l:Bl}(h:Zp l≤18):(l.getD 2 0).toNat=Zp l:=by
 have e:Zi l 2 2=(l.getD 2 0).toNat+256*(l.getD 3 0).toNat:=raw2 l 2
 unfold Zp at h ⊢
 omega
def RNodeP(l:Bl)(w:World)(e:Ending)(w':World):Prop :=
 (Yz l≠0∧e=.returned (.tuple #[.agg #[V0 0,.bool false,S0,S0],V0 (Yz l)])∧B0 w w') ∨
 (Yz l=0∧∃ kp kc vp vc,e=.returned (.tuple #[.agg #[V0 (Xw l),.bool (Xm l),.slice kp (Zp l) kc,.slice vp (Zp l) vc],V0 0])∧B0 w w' ∧
  w'.ownsRow w.heap.size 3 1 (.slice kp (Zp l) kc) (Zp l) ((Yx l (Zp l)).map V0)∧w'.ownsRow w.heap.size 9 1 (.slice vp (Zp l) vc) (Zp l) ((Ky l (Zp l)).map sv))
theorem Zgr(a:O0)(c:Nat)(l:Bl)(w:World)(hl:l.length=244)(h:Bys w (.slice a 244 c) l) :
 C0 215 #[.slice a 244 c] w (RNodeP l w):=by
 have p1:=Bys.cap h hl
 refine zin 94 Tryz.func215 ?_
 refine xa 2 [V0 0,.bool false,S0,S0] 38 fun b1 W1 n1=>?_
 refine xr 7 (args:=#[.slice a 244 c]) (Zfr a c l _ hl (h.below n1.below)) fun W2 j8=>?_
 refine xi 3 (!(Ka l&&Mk l)) (fun n9=>?_) (fun n9=>?_)
 ·have he:Yz l=7:=by unfold Yz;by_cases q:Ka l=true<;>simp_all
  have k1:=n1.blk.below j8
  refine xsv 3 k1 [V0 0,.bool false,S0,S0] fun W4 u4 k4=>?_
  have g1:=n1.ge (B3 w)
  have m8:=u4.below (bln n1.below j8) g1
  exact xec 5 k4 (.tuple #[.agg #[V0 0,.bool false,S0,S0],V0 7]) (.inl ⟨by rw[he];decide,by rw[he],m8⟩)
 have o0:Ka l=true∧Mk l=true:=by simpa using n9
 have hs:=o0.1
 have k0:=o0.2
 obtain⟨s8,p2,q1,o3,s0⟩:=Bd hs
 refine xd 3 (.t w.heap.size [38]) ?_
 refine xx (.e [0] 1) _ 244 1 1 (BysM.elem h hl (k:=1) (by omega)).1 ?_
 have d6:=bln (bln n1.below j8) (Za W2)
 refine xlt (.e [] 2) (.t w.heap.size [38]) (fun V hV=>(BysM.elem (h.below (Kv d6 hV (Nat.le_refl _))) hl (k:=1) (by omega)).2) ?_
 refine xq (.e [] 3) (congrArg V0 (show(IntKind.i64.wrap (↑(l.getD 1 0).toNat:Int):Int)=(Xw l) from by unfold Xw;rw[raw1];exact Hs (by have:=(l.getD 1 0).toNat_lt;omega))) ?_
 refine xx (.e [4] 5) _ 244 0 1 (BysM.elem h hl (k:=0) (by omega)).1 ?_
 refine xlt (.e [] 6) (.t w.heap.size [38]) (fun V hV=>(BysM.elem (h.below (Kv d6 hV (Nat.le_refl _))) hl (k:=0) (by omega)).2) ?_
 refine xa (.o [7,8] 9) [V0 0,.bool false,S0,S0] 38 fun b5 W5 n5=>?_
 have k1:=(n1.blk.below j8).below (Za W2)
 have a2:=n5.ne k1
 have g5:=n5.ge d6
 refine ysv (.o [] 10) n5.blk [V0 (Xw l),.bool ((↑(l.getD 0 0).toNat:Int)==(1:Int)),S0,S0] (.t w.heap.size [38]) fun W6 u6 k6=>⟨(Zo u6 n5.blk g5 (by decide)),?_⟩
 refine xb 5 0 k6 ?_
 refine xb 1 1 k6 ?_
 refine xr 0 (args:=#[V0 (Xw l),.bool ((↑(l.getD 0 0).toNat:Int)==(1:Int))]) (By (Xw l) (Xm l) _) fun W7 k8=>?_
 have l6:=bln (u6.below (bln d6 n5.below) g5) k8
 have m3:=(u6.blk (k1.below n5.below) (Ne.symm (Ne.symm a2))).below k8
 have l2:=k6.below k8
 refine zl 10 94 (fun zm p9 V=>∃ (i:Nat) (kp:O0) (kc:Nat) (vp:O0) (vc:Nat),p9=[(0,.slice a 244 c),(2,P0 b1),(4,P0 b5),(5,V0 (↑(Xk l):Int)),(6,V0 (i:Int))]∧zm=Zp l-((i:Int)).toNat∧B0 w V∧Blk V b1 ([V0 0,.bool false,S0,S0]) 38∧Blk V b5 ([V0 (Xw l),.bool ((↑(l.getD 0 0).toNat:Int)==(1:Int)),.slice kp i kc,.slice vp i vc]) 38∧V.ownsRow w.heap.size 3 1 (.slice kp i kc) i ((Yx l i).map V0)∧V.ownsRow w.heap.size 9 1 (.slice vp i vc) i ((Ky l i).map sv)∧i≤Zp l∧Yh l i=0) ⟨0,none,0,none,0,rfl,rfl,l6,m3,l2,World.ownsRow_nil _ _ _ _,World.ownsRow_nil _ _ _ _,Nat.zero_le _,rfl⟩ ?_
 rintro _ _ W8 ⟨i,kp,kc,vp,vc,rfl,rfl,a8,a1,c9,hK,hV,hi,hz⟩ J8 j9 r8
 have t9:(i+1)*Xk l=i*Xk l+Xk l:=Nat.succ_mul i (Xk l)
 have q3:i<Zp l→(i+1)*Xk l≤Xl l*Xk l:=fun hh=>Nat.mul_le_mul_right _ (by omega)
 have p8:=Nat.mul_comm i (Xk l)
 refine xx 5 _ 244 2 1 (BysM.elem h hl (k:=2) (by omega)).1 ?_
 refine xl 0 ((BysM.elem (h.below a8) hl (k:=2) (by omega)).2) ?_
 refine xq 0 (congrArg V0 (show(IntKind.i64.wrap (↑(l.getD 2 0).toNat:Int):Int)=(↑(Zp l):Int) from by rw[rawC (by omega)];exact Hs (by omega))) ?_
 refine xid 3 ((i:Int)<(↑(Zp l):Int)) (fun o8=>?_) (fun o8=>?_)
 ·refine xwm 8 (8*(i:Int)) (↑(8*i):Int) ?_
  refine xwm 0 (12+(↑(8*i):Int)) (↑(12+(8*i)):Int) ?_
  refine xc 0 (args:=#[.slice a 244 c,V0 (↑(12+(8*i)):Int),V0 8]) (ref_GetP a 244 c (12+i*8) 8 l _ hl (by decide) (by omega) (by decide) (h.below a8) _ 8 (by omega) rfl) ?_
  rintro e r0 k3
  rcases k3 with ⟨p5,rfl,a0⟩|⟨p5,rfl,a0⟩
  ·refine xid 18 ((↑(Zi l (12+i*8) 8):Int)>(281474976710655:Int)) (fun k5=>?_) (fun k5=>?_)
   ·have d2:=a1.below a0
    refine xsv 3 d2 [V0 0,.bool false,S0,S0] fun r3 o7 o2=>?_
    have g1:=n1.ge (B3 w)
    have n2:=o7.below (bln a8 a0) g1
    refine xec 10 o2 (.tuple #[.agg #[V0 0,.bool false,S0,S0],V0 2]) ?_
    have e7:Py l i=2:=Zec (by omega)
    have he:Yz l=2:=by unfold Yz;rw[if_pos hs,if_pos k0,Ud hz (by rw[e7];decide) (by omega),e7]
    exact .inl ⟨by rw[he];decide,by rw[he],n2⟩
   refine xg 8 [52,53] (decide ((i:Int)>(0:Int))) (fun c2=>?_) (fun c2=>?_)
   ·have c2:=of_decide_eq_true c2
    have a5:=c9.below a0
    refine xb 2 2 a5 ?_
    refine xwm 1 ((i:Int)-1) (↑(i-1):Int) ?_
    have g7:=Zb hK a0
    refine xx 0 _ i (i-1) 1 (IntsN.elem (Zh g7) (Yv l i) (k:=(i-1)) (by omega)).1 ?_
    refine xl 0 ((IntsN.elem (Zh g7) (Yv l i) (k:=(i-1)) (by omega)).2) ?_
    refine xid 4 ((↑(Zi l (12+i*8) 8):Int)≤((Yx l i).getD (i-1) 0)) (fun m1=>?_) (fun m1=>?_)
    ·have d4:=a1.below a0
     refine xsv 3 d4 [V0 0,.bool false,S0,S0] fun t4 p7 p6=>?_
     have g1:=n1.ge (B3 w)
     have m7:=p7.below (bln a8 a0) g1
     refine xec 10 p6 (.tuple #[.agg #[V0 0,.bool false,S0,S0],V0 8]) ?_
     have e7:Py l i=8:=keyE_low (by omega) (by omega) (by omega)
     have he:Yz l=8:=by unfold Yz;rw[if_pos hs,if_pos k0,Ud hz (by rw[e7];decide) (by omega),e7]
     exact .inl ⟨by rw[he];decide,by rw[he],m7⟩
    refine xb 5 0 a5 ?_
    refine xb 1 1 a5 ?_
    refine xr 0 (args:=#[V0 (Xw l),.bool ((↑(l.getD 0 0).toNat:Int)==(1:Int))]) (Lq (Xw l) (Xm l) _) fun s2 b7=>?_
    refine xwm 0 (8*(↑(Xl l):Int)) (↑(8*(Xl l)):Int) ?_
    refine xwm 0 (12+(↑(8*(Xl l)):Int)) (↑(12+(8*(Xl l))):Int) ?_
    refine xwm 2 ((↑(Xk l):Int)*(i:Int)) (↑((Xk l)*i):Int) ?_
    refine xwm 0 ((↑(12+(8*(Xl l))):Int)+(↑((Xk l)*i):Int)) (↑((12+(8*(Xl l)))+((Xk l)*i)):Int) ?_
    have a9:=a5.below b7
    refine xb 6 2 a9 ?_
    refine xbs 1 1 [V0 (↑(Zi l (12+i*8) 8):Int)] 3 fun t1 s9 e0=>?_
    have j2:=bln (bln a8 a0) b7
    have t5:=e0.ge j2
    have i4:=Zb g7 b7
    have l9:=Zw i4 e0
    have c6:=Zb i4 e0.below
    have h4:=bln j2 e0.below
    refine xbi 0 fun _ _ _ _ zJ zQ zo zx zy zK=>Zu (m:=1) (news:=[V0 (↑(Zi l (12+i*8) 8):Int)]) (V0 0) 1 8 (i+1) ((Yx l (i+1)).map V0) zo Tryz.underlying28 (by kernel_rfl) rfl (by decide) zx c6 zy (e0.blk.sl 1 1 (by decide) (by decide)) rfl (by simp[Value.oneCell']) (by unfold maxLen;omega) (by omega) h4.size (by rfl) (by rw[Ln,List.map_append];rfl) fun g4 g6 s6 n4 d7 m5=>?_
    refine zK _ _ ?_
    have a4:=(a9.below e0.below).grown d7 c6 (by decide)
    refine xs 1 a4 [V0 (Xw l),.bool ((↑(l.getD 0 0).toNat:Int)==(1:Int)),.slice g4 (i+1) g6,.slice vp i vc] fun f3 g9 n8=>?_
    refine xd 2 (.t w.heap.size [9,38]) ?_
    refine xwm (.e [0,2,3,4,5] 6) ((↑((12+(8*(Xl l)))+((Xk l)*i)):Int)+(↑(Xk l):Int)) (↑(((12+(8*(Xl l)))+((Xk l)*i))+(Xk l)):Int) ?_
    refine xsB (.e [] 7) (fun _ _ _ _ _ zo zx zy zz V=>Qt (k:=((12+(8*(Xl l)))+((Xk l)*i))) (h:=(((12+(8*(Xl l)))+((Xk l)*i))+(Xk l))) (b:=a) (n:=244) (c:=c) (i:=(↑((12+(8*(Xl l)))+((Xk l)*i)):Int)) (ki:=.i64) (j:=(↑(((12+(8*(Xl l)))+((Xk l)*i))+(Xk l)):Int)) (kj:=.i64) 1 zo zx zy rfl zz rfl (by omega) (by omega) Tryz.underlying22 (by kernel_rfl) V) ?_
    have c0:=Zb (g9.own2 (Zj (Zb (Zb (Zb hV a0) b7) e0.below) d7 c6 (by decide)) a4 (by decide)) (Za f3)
    have c1:=bln (g9.below (h4.trans m5) g5) (Za f3)
    refine xcvt (.e [] 8) (.t w.heap.size [9,38]) (fun _ _ _ zo zx V c0=>Jf zo zx ((Zdz (i:=i) h hl (by omega)).below (Kv c1 c0 (Nat.le_refl _))) (Ds (i:=i) hl (by omega)) Tryz.underlying22 Tryz.underlying5 Tryz.underlying9) ?_
    refine xm2 0 1 9 ?_ ?_
    ·have f2:=n8.below (Za f3)
     refine xb 0 3 f2 ?_
     refine xbs (.o [] 9) 1 [.string ⟨(Cv l i).toArray⟩] 9 fun u3 t2 f1=>?_
     have s5:=f1.ge c1
     have n0:=Zw c0 f1
     have c4:=Zb c0 f1.below
     have h6:=bln c1 f1.below
     refine ybi (.o [] 10) (.t w.heap.size [9,38]) fun _ _ _ _ zJ zQ zo zx zy zK=>Zu (m:=1) (news:=[.string ⟨(Cv l i).toArray⟩]) (.string ⟨#[]⟩) 1 16 (i+1) ((Ky l (i+1)).map sv) zo Tryz.underlying36 (by kernel_rfl) rfl (by decide) zx c4 zy (f1.blk.sl 1 1 (by decide) (by decide)) rfl (by simp[Value.oneCell']) (by unfold maxLen;omega) (by omega) h6.size (by rfl) (by rw[Hp,List.map_append];rfl) fun m4 n3 u1 o6 d3 h1=>?_
     refine zK _ _ (Zr h1 d3 c4 (by decide)) ?_
     have b0:=(f2.below f1.below).grown d3 c4 (by decide)
     refine ys (.o [11] 12) b0 [V0 (Xw l),.bool ((↑(l.getD 0 0).toNat:Int)==(1:Int)),.slice g4 (i+1) g6,.slice m4 (i+1) n3] (.t w.heap.size [9,38]) fun t6 h2 o5=>⟨(Zo h2 b0 g5 (by decide)),?_⟩
     refine xwm 5 ((i:Int)+1) (↑(i+1):Int) ?_
     have i3:=h2.below (h6.trans h1) g5
     have e4:=h2.blk ((((g9.blk ((((a1.below a0).below b7).below e0.below).grown d7 c6 (by decide)) (Ne.symm (Ne.symm a2))).below (Za f3)).below f1.below).grown d3 c4 (by decide)) (Ne.symm (Ne.symm a2))
     have h7:=h2.own2 (Zj (Zb (Zb (g9.own2 n4 a4 (by decide)) (Za f3)) f1.below) d3 c4 (by decide)) b0 (by decide)
     have i9:=h2.own2 o6 b0 (by decide)
     exact ze 2 (j9 _ _ _ ⟨i+1,_,_,_,_,rfl,rfl,i3,e4,o5,h7,i9,by omega,Vq hz (Ze0 (by omega) (by omega) (by omega))⟩ (by omega))
    refine xbs 0 1 [.string ⟨(Cv l i).toArray⟩] 9 fun s4 s1 f5=>?_
    have q7:=f5.ge c1
    have l1:=Zw c0 f5
    have e6:=(n8.below (Za f3)).below f5.below
    refine xb (.o [] 1) 3 e6 ?_
    have c7:=Zb c0 f5.below
    have f9:=bln c1 f5.below
    refine ybi (.o [] 10) (.t w.heap.size [9,38]) fun _ _ _ _ zJ zQ zo zx zy zK=>Zu (m:=1) (news:=[.string ⟨(Cv l i).toArray⟩]) (.string ⟨#[]⟩) 1 16 (i+1) ((Ky l (i+1)).map sv) zo Tryz.underlying36 (by kernel_rfl) rfl (by decide) zx c7 zy (f5.blk.sl 1 1 (by decide) (by decide)) rfl (by simp[Value.oneCell']) (by unfold maxLen;omega) (by omega) f9.size (by rfl) (by rw[Hp,List.map_append];rfl) fun m9 l3 r7 q4 e3 i1=>?_
    refine zK _ _ (Zr i1 e3 c7 (by decide)) ?_
    have b6:=e6.grown e3 c7 (by decide)
    refine ys (.o [11] 12) b6 [V0 (Xw l),.bool ((↑(l.getD 0 0).toNat:Int)==(1:Int)),.slice g4 (i+1) g6,.slice m9 (i+1) l3] (.t w.heap.size [9,38]) fun r1 i8 q2=>⟨(Zo i8 b6 g5 (by decide)),?_⟩
    refine xwm 5 ((i:Int)+1) (↑(i+1):Int) ?_
    have i6:=i8.below (f9.trans i1) g5
    have e5:=i8.blk ((((g9.blk ((((a1.below a0).below b7).below e0.below).grown d7 c6 (by decide)) (Ne.symm (Ne.symm a2))).below (Za f3)).below f5.below).grown e3 c7 (by decide)) (Ne.symm (Ne.symm a2))
    have h8:=i8.own2 (Zj (Zb (Zb (g9.own2 n4 a4 (by decide)) (Za f3)) f5.below) e3 c7 (by decide)) b6 (by decide)
    have j1:=i8.own2 q4 b6 (by decide)
    exact ze 2 (j9 _ _ _ ⟨i+1,_,_,_,_,rfl,rfl,i6,e5,q2,h8,j1,by omega,Vq hz (Ze0 (by omega) (by omega) (by omega))⟩ (by omega))
   have c2:=of_decide_eq_false c2
   have a6:=c9.below a0
   refine xb 17 0 a6 ?_
   refine xb 1 1 a6 ?_
   refine xr 0 (args:=#[V0 (Xw l),.bool ((↑(l.getD 0 0).toNat:Int)==(1:Int))]) (Lq (Xw l) (Xm l) _) fun t7 b9=>?_
   refine xwm 0 (8*(↑(Xl l):Int)) (↑(8*(Xl l)):Int) ?_
   refine xwm 0 (12+(↑(8*(Xl l)):Int)) (↑(12+(8*(Xl l))):Int) ?_
   refine xwm 2 ((↑(Xk l):Int)*(i:Int)) (↑((Xk l)*i):Int) ?_
   refine xwm 0 ((↑(12+(8*(Xl l))):Int)+(↑((Xk l)*i):Int)) (↑((12+(8*(Xl l)))+((Xk l)*i)):Int) ?_
   have b3:=a6.below b9
   refine xb 6 2 b3 ?_
   refine xbs 1 1 [V0 (↑(Zi l (12+i*8) 8):Int)] 3 fun r2 r5 d8=>?_
   have g0:=bln (bln a8 a0) b9
   have q9:=d8.ge g0
   have i0:=Zb (Zb hK a0) b9
   have m2:=Zw i0 d8
   have c8:=Zb i0 d8.below
   have f4:=bln g0 d8.below
   refine xbi 0 fun _ _ _ _ zJ zQ zo zx zy zK=>Zu (m:=1) (news:=[V0 (↑(Zi l (12+i*8) 8):Int)]) (V0 0) 1 8 (i+1) ((Yx l (i+1)).map V0) zo Tryz.underlying28 (by kernel_rfl) rfl (by decide) zx c8 zy (d8.blk.sl 1 1 (by decide) (by decide)) rfl (by simp[Value.oneCell']) (by unfold maxLen;omega) (by omega) f4.size (by rfl) (by rw[Ln,List.map_append];rfl) fun g8 g3 q5 n7 d1 k2=>?_
   refine zK _ _ ?_
   have a3:=(b3.below d8.below).grown d1 c8 (by decide)
   refine xs 1 a3 [V0 (Xw l),.bool ((↑(l.getD 0 0).toNat:Int)==(1:Int)),.slice g8 (i+1) g3,.slice vp i vc] fun f6 h0 n6=>?_
   refine xd 2 (.t w.heap.size [9,38]) ?_
   refine xwm (.e [0,2,3,4,5] 6) ((↑((12+(8*(Xl l)))+((Xk l)*i)):Int)+(↑(Xk l):Int)) (↑(((12+(8*(Xl l)))+((Xk l)*i))+(Xk l)):Int) ?_
   refine xsB (.e [] 7) (fun _ _ _ _ _ zo zx zy zz V=>Qt (k:=((12+(8*(Xl l)))+((Xk l)*i))) (h:=(((12+(8*(Xl l)))+((Xk l)*i))+(Xk l))) (b:=a) (n:=244) (c:=c) (i:=(↑((12+(8*(Xl l)))+((Xk l)*i)):Int)) (ki:=.i64) (j:=(↑(((12+(8*(Xl l)))+((Xk l)*i))+(Xk l)):Int)) (kj:=.i64) 1 zo zx zy rfl zz rfl (by omega) (by omega) Tryz.underlying22 (by kernel_rfl) V) ?_
   have b8:=Zb (h0.own2 (Zj (Zb (Zb (Zb hV a0) b9) d8.below) d1 c8 (by decide)) a3 (by decide)) (Za f6)
   have a7:=bln (h0.below (f4.trans k2) g5) (Za f6)
   refine xcvt (.e [] 8) (.t w.heap.size [9,38]) (fun _ _ _ zo zx V b8=>Jf zo zx ((Zdz (i:=i) h hl (by omega)).below (Kv a7 b8 (Nat.le_refl _))) (Ds (i:=i) hl (by omega)) Tryz.underlying22 Tryz.underlying5 Tryz.underlying9) ?_
   refine xm2 0 1 9 ?_ ?_
   ·have e8:=n6.below (Za f6)
    refine xb 0 3 e8 ?_
    refine xbs (.o [] 9) 1 [.string ⟨(Cv l i).toArray⟩] 9 fun q8 r6 e9=>?_
    have q6:=e9.ge a7
    have l5:=Zw b8 e9
    have c3:=Zb b8 e9.below
    have f8:=bln a7 e9.below
    refine ybi (.o [] 10) (.t w.heap.size [9,38]) fun _ _ _ _ zJ zQ zo zx zy zK=>Zu (m:=1) (news:=[.string ⟨(Cv l i).toArray⟩]) (.string ⟨#[]⟩) 1 16 (i+1) ((Ky l (i+1)).map sv) zo Tryz.underlying36 (by kernel_rfl) rfl (by decide) zx c3 zy (e9.blk.sl 1 1 (by decide) (by decide)) rfl (by simp[Value.oneCell']) (by unfold maxLen;omega) (by omega) f8.size (by rfl) (by rw[Hp,List.map_append];rfl) fun l0 k9 s3 p3 e2 j5=>?_
    refine zK _ _ (Zr j5 e2 c3 (by decide)) ?_
    have b4:=(e8.below e9.below).grown e2 c3 (by decide)
    refine ys (.o [11] 12) b4 [V0 (Xw l),.bool ((↑(l.getD 0 0).toNat:Int)==(1:Int)),.slice g8 (i+1) g3,.slice l0 (i+1) k9] (.t w.heap.size [9,38]) fun t3 h3 o4=>⟨(Zo h3 b4 g5 (by decide)),?_⟩
    refine xwm 5 ((i:Int)+1) (↑(i+1):Int) ?_
    have j7:=h3.below (f8.trans j5) g5
    have d0:=h3.blk ((((h0.blk ((((a1.below a0).below b9).below d8.below).grown d1 c8 (by decide)) (Ne.symm (Ne.symm a2))).below (Za f6)).below e9.below).grown e2 c3 (by decide)) (Ne.symm (Ne.symm a2))
    have h5:=h3.own2 (Zj (Zb (Zb (h0.own2 n7 a3 (by decide)) (Za f6)) e9.below) e2 c3 (by decide)) b4 (by decide)
    have i5:=h3.own2 p3 b4 (by decide)
    exact ze 2 (j9 _ _ _ ⟨i+1,_,_,_,_,rfl,rfl,j7,d0,o4,h5,i5,by omega,Vq hz (keyE_ok (by omega) (by omega))⟩ (by omega))
   refine xbs 0 1 [.string ⟨(Cv l i).toArray⟩] 9 fun t0 s7 g2=>?_
   have u0:=g2.ge a7
   have m0:=Zw b8 g2
   have f7:=(n6.below (Za f6)).below g2.below
   refine xb (.o [] 1) 3 f7 ?_
   have c5:=Zb b8 g2.below
   have f0:=bln a7 g2.below
   refine ybi (.o [] 10) (.t w.heap.size [9,38]) fun _ _ _ _ zJ zQ zo zx zy zK=>Zu (m:=1) (news:=[.string ⟨(Cv l i).toArray⟩]) (.string ⟨#[]⟩) 1 16 (i+1) ((Ky l (i+1)).map sv) zo Tryz.underlying36 (by kernel_rfl) rfl (by decide) zx c5 zy (g2.blk.sl 1 1 (by decide) (by decide)) rfl (by simp[Value.oneCell']) (by unfold maxLen;omega) (by omega) f0.size (by rfl) (by rw[Hp,List.map_append];rfl) fun l8 l4 u2 p4 d5 j0=>?_
   refine zK _ _ (Zr j0 d5 c5 (by decide)) ?_
   have b2:=f7.grown d5 c5 (by decide)
   refine ys (.o [11] 12) b2 [V0 (Xw l),.bool ((↑(l.getD 0 0).toNat:Int)==(1:Int)),.slice g8 (i+1) g3,.slice l8 (i+1) l4] (.t w.heap.size [9,38]) fun t8 j3 o1=>⟨(Zo j3 b2 g5 (by decide)),?_⟩
   refine xwm 5 ((i:Int)+1) (↑(i+1):Int) ?_
   have i7:=j3.below (f0.trans j0) g5
   have e1:=j3.blk ((((h0.blk ((((a1.below a0).below b9).below d8.below).grown d1 c8 (by decide)) (Ne.symm (Ne.symm a2))).below (Za f6)).below g2.below).grown d5 c5 (by decide)) (Ne.symm (Ne.symm a2))
   have h9:=j3.own2 (Zj (Zb (Zb (h0.own2 n7 a3 (by decide)) (Za f6)) g2.below) d5 c5 (by decide)) b2 (by decide)
   have j6:=j3.own2 p4 b2 (by decide)
   exact ze 2 (j9 _ _ _ ⟨i+1,_,_,_,_,rfl,rfl,i7,e1,o1,h9,j6,by omega,Vq hz (keyE_ok (by omega) (by omega))⟩ (by omega))
  have d9:=a1.below a0
  refine xsv 22 d9 [V0 0,.bool false,S0,S0] fun r9 p0 q0=>?_
  have g1:=n1.ge (B3 w)
  have i2:=p0.below (bln a8 a0) g1
  refine xec 10 q0 (.tuple #[.agg #[V0 0,.bool false,S0,S0],V0 2]) ?_
  have e7:Py l i=2:=Zec (by omega)
  have he:Yz l=2:=by unfold Yz;rw[if_pos hs,if_pos k0,Ud hz (by rw[e7];decide) (by omega),e7]
  exact .inl ⟨by rw[he];decide,by rw[he],i2⟩
 refine xlv 7 c9.rp ?_
 refine xsv 0 a1 [V0 (Xw l),.bool ((↑(l.getD 0 0).toNat:Int)==(1:Int)),.slice kp i kc,.slice vp i vc] fun r4 m6 o9=>?_
 have g1:=n1.ge (B3 w)
 have j4:=m6.below a8 g1
 have l7:=m6.own2 hK a1 (by decide)
 have k7:=m6.own2 hV a1 (by decide)
 refine xec 4 o9 (.tuple #[.agg #[V0 (Xw l),.bool ((↑(l.getD 0 0).toNat:Int)==(1:Int)),.slice kp i kc,.slice vp i vc],V0 0]) ?_
 obtain rfl:i=Zp l:=by omega
 exact .inr ⟨by unfold Yz;rw[if_pos hs,if_pos k0,hz],_,_,_,_,rfl,j4,l7,k7⟩
end Go.Proofs.YtgphgaehfdfjjaaGreatDoor
namespace Go.Proofs.YtgphgaehfdfjjaaGreatDoor
set_option maxHeartbeats 8000000
set_option maxRecDepth 100000
open Go.RowKit
set_option linter.unusedVariables false
def Et(lo hi k:Int):Bool:=decide (lo≤k∧k<hi)
def Qq(lo hi:Int):Bool:=decide (0≤lo∧lo≤hi∧hi≤281474976710656)
def Kt(l:List Int):Prop:=∀ k,k<l.length→1≤k→l[k-1]?.getD 0<l[k]?.getD 0
instance (l:List Int):Decidable (Kt l):=by unfold Kt;infer_instance
def Yt(lo hi:Int)(l:List Int):Int :=
 if Qq lo hi then if Kt l then if ∀ k∈l,lo≤k∧k<hi then 0 else 9 else 8 else 1
@[go_sem] def spanV (lo hi:Int):Value:=.agg #[V0 lo,V0 hi]
theorem Kt.lt{l:List Int}(h:Kt l):∀ (j i:Nat),i<j→j<l.length→l[i]?.getD 0<l[j]?.getD 0:=by
 intro j
 induction j with
 | zero=>intro i h1;omega
 | succ j ih =>
  intro i h1 h2
  have h3:=h (j+1) h2 (by omega)
  simp only[Nat.add_sub_cancel] at h3
  by_cases hij:i=j
  ·subst hij;exact h3
  ·exact Int.lt_trans (ih i (by omega) (by omega)) h3
theorem Kt.one(l:List Int):Kt (l.take 1):=by
 intro k h1 h2;simp at h1;omega
theorem Kt.succ{l:List Int}{k:Nat}{x y:Int}(h:Kt (l.take k))(hx:l[k-1]? = some x)(hy:l[k]? = some y)(hxy:x<y):Kt (l.take (k+1)):=by
 intro j h1 h2
 have a0:j<k+1:=by simp at h1;omega
 rw[List.getElem?_take,List.getElem?_take,if_pos (by omega),if_pos a0]
 by_cases hj:j=k
 ·subst hj;rw[hx,hy];exact hxy
 ·have:=h j (by simp at h1 ⊢;omega) h2
  rw[List.getElem?_take,List.getElem?_take,if_pos (by omega),if_pos (by omega)] at this
  exact this
theorem Ab{lo hi:Int}{l:List Int}(h:Qq lo hi=false):Yt lo hi l=1:=by simp[Yt,h]
theorem Td{lo hi:Int}{l:List Int}{k:Nat}{x y:Int}(h:Qq lo hi=true)(hk:1≤k)(hx:l[k-1]? = some x)(hy:l[k]? = some y)(hxy:y≤x):Yt lo hi l=8:=by
 have hn:¬ Kt l:=fun hs=>by
  have a0:k<l.length:=by rcases List.getElem?_eq_some_iff.1 hy with ⟨h,_⟩;exact h
  have:=hs k a0 hk
  rw[hx,hy] at this
  simp at this;omega
 simp[Yt,h,hn]
theorem Zdx{lo hi:Int}(h:Qq lo hi=true):Yt lo hi []=0:=by
 have hs:Kt []:=fun k h1=>by simp at h1
 simp[Yt,h,hs]
theorem Kt.all{l:List Int}{k:Nat}(h:Kt (l.take k))(hk:l.length≤k):Kt l:=by rwa [List.take_of_length_le hk] at h
theorem Lc{lo hi k:Int}:Et lo hi k=true↔lo≤k∧k<hi:=by simp[Et]
theorem fits_in{lo hi:Int}{l:List Int}{x y:Int}(h:Qq lo hi=true)(hs:Kt l)(hx:l[0]? = some x)(hy:l[l.length-1]? = some y)(ha:Et lo hi x=true)(hb:Et lo hi y=true):Yt lo hi l=0:=by
 have a0:∀ k∈l,lo≤k∧k<hi:=by
  intro k hk
  obtain⟨i,a1,rfl⟩:=List.mem_iff_getElem.1 hk
  rw[Lc] at ha hb
  have e:l[i]? = some l[i]:=by simp
  have h1:x≤l[i]:=by
   by_cases h0:i=0
   ·subst h0;rw[hx] at e;injection e with e;omega
   ·have:=hs.lt i 0 (by omega) a1
    rw[hx,e] at this;simp at this;omega
  have h2:l[i]≤y:=by
   by_cases h0:i=l.length-1
   ·subst h0;rw[hy] at e;injection e with e;omega
   ·have:=hs.lt (l.length-1) i (by omega) (by omega)
    rw[hy,e] at this;simp at this;omega
  omega
 simp only[Yt,h,if_true,hs]
 rw[if_pos a0]
theorem It{lo hi:Int}{l:List Int}{i:Nat}{x:Int}(h:Qq lo hi=true)(hs:Kt l)(hx:l[i]? = some x)(ha:Et lo hi x=false):Yt lo hi l=9:=by
 have hn:¬ ∀ k∈l,lo≤k∧k<hi:=fun a0=>by
  have:=Lc.2 (a0 x (List.mem_of_getElem? hx))
  rw[ha] at this;cases this
 simp only[Yt,h,if_true,hs]
 rw[if_neg hn]
theorem Zdj(w:World):C0 179 #[] w (Ret (spanV 0 281474976710656) w):=by
 go_enter Tryz.func179,Tryz.ntmps179
 go_wp2
 exact bodyPost_ret (v:=spanV 0 281474976710656) (by simp[results,Tryz.results179,go_sem,spanV]) rfl ⟨rfl,blx _ _⟩
theorem Ig(lo hi k:Int)(w:World):C0 220 #[spanV lo hi,V0 k] w (Ret (.bool (Et lo hi k)) w):=by
 unfold spanV
 go_enter Tryz.func220,Tryz.ntmps220
 go_wp2
 all_goals go_ret
 all_goals refine⟨?_,blx _ _⟩
 all_goals (unfold Et;congr 2;simp;omega)
theorem Ly(lo hi:Int)(w:World):C0 219 #[spanV lo hi] w (Ret (.bool (Qq lo hi)) w):=by
 unfold spanV
 go_enter Tryz.func219,Tryz.ntmps219
 go_wp2_with fail
 refine(Zdj _).mono ?_
 rintro e w' ⟨rfl,hb⟩
 have hz:w.heap.size<w'.heap.size:=ltB hb (by simp)
 have h0:=Nx hb (p:=⟨w.heap.size,0,none⟩) (v:=V0 lo) (by simp[go_sem])
 have h1:=Nx hb (p:=⟨w.heap.size,1,none⟩) (v:=V0 hi) (by simp[go_sem])
 unfold spanV
 go_wp2_with fail
 all_goals go_ret
 all_goals refine⟨?_,bln (bln (blx w _) hb) (blx _ _)⟩
 all_goals (unfold Qq;congr 2;simp[*];try omega)
theorem Fe(lo hi:Int)(v:Value)(l:List Int)(w:World)(hl:Ints w v l) :
 C0 211 #[spanV lo hi,v] w (Ret (V0 (Yt lo hi l)) w):=by
 by_cases hr:Qq lo hi=true
 case neg =>
  have b1:Qq lo hi=false:=by simpa using hr
  unfold spanV
  rcases hl with ⟨a0,c0,rfl,a9,hl⟩|⟨b,a6,a7,rfl,a5,a2,hc⟩
  all_goals
   go_enter Tryz.func211,Tryz.ntmps211
   go_wp2_with fail
   refine(Ly _ _ _).mono ?_
   rintro e w' ⟨rfl,hb⟩
   go_wp2_with fail
   go_ret
   exact⟨by rw[Ab b1];rfl,bln (blx w _) hb⟩
 rcases hl with ⟨a0,c0,rfl,a9,hl⟩|⟨b,a6,a7,rfl,a5,a2,hc⟩
 ·obtain rfl:l=[]:=by simpa using hl
  unfold spanV
  go_enter Tryz.func211,Tryz.ntmps211
  go_wp2_with fail
  refine(Ly _ _ _).mono ?_
  rintro e w' ⟨rfl,hb⟩
  go_wp2_with fail
  go_loop [5] (fun i=>i=V0 1) (fun _=>0)
  case atStart=>exact rfl
  case round =>
   obtain rfl:=hrel
   go_wp2_with fail
   refine Qv (by kernel_rfl) (by kernel_rfl) ?_
   repeat (go_big_quiet_step (fail))
   refine wpQuiet_nil ?_
   intro wx
   go_wp2_with fail
   go_ret
   exact⟨by rw[Zdx hr];rfl,bln (bln (blx w _) hb) wx.below⟩
 ·unfold maxLen at a2
  unfold spanV
  go_enter Tryz.func211,Tryz.ntmps211
  go_wp2_with fail
  refine(Ly _ _ _).mono ?_
  rintro e w' ⟨rfl,hb⟩
  have hz:w.heap.size<w'.heap.size:=ltB hb (by simp)
  have h0:=Nx hb (p:=⟨w.heap.size,0,none⟩) (v:=V0 lo) (by simp[go_sem])
  have h1:=Nx hb (p:=⟨w.heap.size,1,none⟩) (v:=V0 hi) (by simp[go_sem])
  have hB:=bln (blx w _) hb
  have HC:=Lib.hid (fun j x (hj:l[j]? = some x)=>Nx hb (getA _ (hc j (V0 x) (by simp[hj]))))
  clear hc hb
  go_wp2_with fail
  go_loopw [5] (fun i wr=>∃ k:Nat,1≤k∧i=V0 k∧Kt (l.take k)∧Below w'.heap.size w' wr) (fun i _=>l.length-(intOf i).toNat)
  case atStart=>exact⟨1,by omega,rfl,Kt.one l,Below.refl _ _⟩
  case round =>
   obtain⟨k,a8,rfl,hs,a1⟩:=hrel
   have HS:=Lib.hid hs;clear hs
   by_cases hlt:k<l.length
   ·obtain⟨x,hx⟩:∃ x,l[k-1]? = some x:=⟨l[k-1],by simp⟩
    obtain⟨y,hy⟩:∃ y,l[k]? = some y:=⟨l[k],by simp⟩
    have b2:=Nx a1 (HC.out _ _ hx)
    have b3:=Nx a1 (HC.out _ _ hy)
    have HX:=Lib.hid hx;clear hx
    have HY:=Lib.hid hy;clear hy
    go_wp2_with fail
    go_quiet (fail)
    go_wp2_with fail
    ·go_ret
     exact⟨by rw[Td hr a8 HX.out HY.out (by assumption)];rfl,bln hB (blD a1 _)⟩
    ·go_roundw
     case rel=>exact⟨k+1,by omega,by go_num,HS.out.succ HX.out HY.out (by assumption),blD a1 _⟩
     case measure=>simp[intOf];omega
   ·have a4:l.length≤k:=by omega
    by_cases h0l:l.length=0
    ·obtain rfl:l=[]:=List.length_eq_zero_iff.mp h0l
     clear h0l
     go_wp2_with fail
     go_quiet (fail)
     go_wp2_with fail
     go_ret
     exact⟨by rw[Zdx hr];rfl,bln hB (blD a1 _)⟩
    ·obtain⟨x,hx⟩:∃ x,l[0]? = some x:=⟨l[0],by simp⟩
     obtain⟨y,hy⟩:∃ y,l[l.length-1]? = some y:=⟨l[l.length-1],by simp⟩
     have b0:0<l.length:=by omega
     have e0:∀ z:Ext wr,z.val.cell? ⟨w.heap.size,0,none⟩=some (V0 lo):=fun z=>z.get (Nx a1 h0)
     have e1:∀ z:Ext wr,z.val.cell? ⟨w.heap.size,1,none⟩=some (V0 hi):=fun z=>z.get (Nx a1 h1)
     have e2:∀ z:Ext wr,z.val.cell? ⟨b,a6,none⟩=some (V0 x):=fun z=>z.get (Nx a1 (HC.out 0 _ hx))
     have e3:∀ z:Ext wr,z.val.cell? ⟨b,a6+(l.length-1),none⟩=some (V0 y):=fun z=>z.get (Nx a1 (HC.out _ _ hy))
     have HX:=Lib.hid hx;clear hx
     have HY:=Lib.hid hy;clear hy
     by_cases ha:Et lo hi x=true
     ·by_cases a3:Et lo hi y=true
      ·go_wp2_with fail
       refine Qv (by kernel_rfl) (by kernel_rfl) ?_
       repeat (go_big_quiet_step (exact Ret.ext (Ig _ _ _ _)))
       refine wpQuiet_nil ?_
       intro wx
       go_wp2_with fail
       go_ret
       exact⟨by rw[fits_in hr (HS.out.all a4) HX.out HY.out ha a3];rfl,bln (bln hB a1) wx.below⟩
      ·have a3:Et lo hi y=false:=by simpa using a3
       go_wp2_with fail
       refine Qv (by kernel_rfl) (by kernel_rfl) ?_
       repeat (go_big_quiet_step (exact Ret.ext (Ig _ _ _ _)))
       refine wpQuiet_nil ?_
       intro wx
       go_wp2_with fail
       go_ret
       exact⟨by rw[It hr (HS.out.all a4) HY.out a3];rfl,bln (bln hB a1) wx.below⟩
     ·have ha:Et lo hi x=false:=by simpa using ha
      go_wp2_with fail
      refine Qv (by kernel_rfl) (by kernel_rfl) ?_
      repeat (go_big_quiet_step (exact Ret.ext (Ig _ _ _ _)))
      refine wpQuiet_nil ?_
      intro wx
      go_wp2_with fail
      go_ret
      exact⟨by rw[It hr (HS.out.all a4) HX.out ha];rfl,bln (bln hB a1) wx.below⟩
end Go.Proofs.YtgphgaehfdfjjaaGreatDoor
namespace Go.Proofs.YtgphgaehfdfjjaaGreatDoor
set_option maxHeartbeats 8000000
set_option maxRecDepth 100000
open Go.RowKit
set_option linter.unusedVariables false
attribute [local go_sem] Oper.semAt_some
def Xb(hi:Int)(l:List Int)(i:Nat):Int×Int:=(l[i]?.getD 0,l[i+1]?.getD hi)
def qOf {n:Nat}(j:Fin n):Nat:=n-1-j.val
def encE(hi:Int)(l:List Int)(j:Fin l.length):Array Value:=#[V0 (qOf j:Int),spanV (Xb hi l (qOf j)).1 (Xb hi l (qOf j)).2]
theorem Hk{n k:Nat}(h:k<n):(List.finRange n).take (k+1)=(List.finRange n).take k++[⟨k,h⟩]:=by
 rw[List.take_succ_eq_append_getElem (by simpa using h)];simp
theorem Bg(n:Nat):(List.finRange n).take n=List.finRange n:=List.take_of_length_le (by simp)
theorem Wq{n k:Nat}(h:k≤n):((List.finRange n).take k).length=k:=by simp[h]
theorem each1_in(l Bs Bk:Nat)(p:Nat→Prop)(hi:Int)(b off cap:Nat)(zs:List Int)(hlen:zs.length≤9223372036854775807)(hb':zs.length=0∨p b)(hBk:p Bk)(J Jx:List (Fin zs.length)→World→Prop)
  (hY:∀ pre x W,J pre W→pre.length<zs.length→YieldAt Fence.wide 2 Tryz.prog l (encE hi zs x) W fun e W' =>
   (e=.returned (.bool true)∧J (pre++[x]) W'∧Keeps p W W')∨(e=.returned (.bool false)∧Jx (pre++[x]) W'))
  (W:World) (hc1:W.cell? ⟨Bs,1,none⟩=some (V0 hi)) (hck:W.cell? ⟨Bk,0,none⟩=some (.slice (some ⟨b,off,none⟩) zs.length cap))
  (hc:∀ j x,zs[j]? = some x→W.cell? ⟨b,off+j,none⟩=some (V0 x)) (h0:J [] W) :
  CallsIn Fence.wide 3 Tryz.prog 221 #[.func (.yield l) #[] #[],P0 Bs,P0 Bk] W fun e W'=>(∃ v,e=.returned v) ∧
   ((∃ ys,ys=List.finRange zs.length∧J ys W')∨(∃ pre,(∃ k,k≤zs.length∧pre=(List.finRange zs.length).take k)∧Jx pre W')):=by
 refine callsIn_of_wp Tryz.func221 rfl trivial ?_ rfl
 simp only[Tryz.ntmps221,List.size_toArray,List.length_cons,List.length_nil,Nat.reduceAdd,Nat.reduceSub,Array.replicate_succ,Array.replicate_zero,List.push_toArray,List.append_toArray,List.nil_append,List.cons_append]
 gi_wp2
 gi_loopw [4,5] (fun h i wr=>∃ k:Nat,k≤zs.length∧i=V0 ((zs.length:Int)-1-k)∧h=V0 (zs[zs.length-k]?.getD hi)∧J ((List.finRange zs.length).take k) wr∧Keeps p W wr)
  (fun _ i _=>((intOf i)+1).toNat)
 case atStart=>exact⟨0,Nat.zero_le _,by simp,by simp,h0,Keeps.refl _ _⟩
 case round =>
  obtain⟨k,hk,rfl,rfl,a1,a5⟩:=hrel
  generalize hhv:zs[zs.length-k]?.getD hi=hv
  by_cases hlt:k<zs.length
  ·have hb:p b:=hb'.resolve_left (by omega)
   obtain⟨x,hx⟩:∃ x,zs[zs.length-1-k]? = some x:=⟨zs[zs.length-1-k],by simp⟩
   have a2:=(a5.cell (a:=⟨Bk,0,none⟩) hBk).trans hck
   have a8:=(a5.cell (a:=⟨b,off+(zs.length-1-k),none⟩) hb).trans (hc _ _ hx)
   obtain⟨q,hq⟩:∃ q:Nat,q=zs.length-1-k:=⟨_,rfl⟩
   have a4:((zs.length:Int)-1-k)=(q:Int):=by omega
   have b4:q<zs.length:=by omega
   obtain⟨fn,a9,a3,b1,hy,hR⟩:=hY _ ⟨k,hlt⟩ wr a1 (by rw[Wq hk];exact hlt)
   have hE:encE hi zs ⟨k,hlt⟩=#[V0 (q:Int),.agg #[V0 x,V0 hv]]:=by
    have e0:zs[q]? = some x:=by rw[hq];exact hx
    have e1:q+1=zs.length-k:=by omega
    have e2:qOf (⟨k,hlt⟩:Fin zs.length)=q:=hq.symm
    simp only[encE,Xb,spanV,e2,e0,e1,hhv,Option.getD_some]
   rw[hE] at hy
   rw[←hq] at a8
   rw[a4]
   have HQ:=Lib.hid hq;clear hq
   have HI:=Lib.hid a4;clear a4
   have HX:=Lib.hid hx;clear hx
   have HV:=Lib.hid hhv;clear hhv
   have HE:=Lib.hid hE;clear hE
   gi_wp2
   refine hR.mono ?_
   rintro e W3 (⟨rfl,b3,a6⟩|⟨rfl,a7⟩)
   ·have b0:=(a6.cell (a:=⟨Bk,0,none⟩) hBk).trans a2
    have b2:=(a6.cell (a:=⟨b,off+q,none⟩) hb).trans a8
    gi_wp2
    go_roundw
    case rel =>
     refine⟨k+1,by omega,?_,?_,by rw[Hk hlt];exact b3,a5.trans a6⟩
     ·exact congrArg V0 (by have:=HI.out;omega)
     ·have h1:zs.length-(k+1)=q:=by have:=HQ.out;omega
      have:=HX.out
      rw[←HQ.out] at this
      rw[h1,this];rfl
    case measure=>simp[intOf]
   ·gi_wp2
    refine bodyPost_ret (results_none rfl _ _ _) rfl ?_
    exact⟨⟨_,rfl⟩,.inr ⟨_,⟨k+1,by omega,by rw[Hk hlt]⟩,a7⟩⟩
  ·obtain rfl:k=zs.length:=by omega
   have a0:((zs.length:Int)-1-zs.length) = -1:=by omega
   rw[a0]
   clear a0 hhv
   rw[Bg] at a1
   have HJ:=Lib.hid a1;clear a1
   gi_wp2
   go_end0
   exact⟨⟨_,rfl⟩,.inl ⟨_,rfl,HJ.out⟩⟩
theorem Zbo{α:Type}(l Bs Bk:Nat)(hi:Int)(J:List α→World→Prop)(W:World)(hc1:W.cell? ⟨Bs,1,none⟩=some (V0 hi)){a0:O0}{c0:Nat}(hck:W.cell? ⟨Bk,0,none⟩=some (.slice a0 0 c0))(h0:J [] W) :
 CallsIn Fence.wide 3 Tryz.prog 221 #[.func (.yield l) #[] #[],P0 Bs,P0 Bk] W fun e W'=>(∃ v,e=.returned v)∧J [] W':=by
 refine callsIn_of_wp Tryz.func221 rfl trivial ?_ rfl
 simp only[Tryz.ntmps221,List.size_toArray,List.length_cons,List.length_nil,Nat.reduceAdd,Nat.reduceSub,Array.replicate_succ,Array.replicate_zero,List.push_toArray,List.append_toArray,List.nil_append,List.cons_append]
 gi_wp2
 gi_loopw [4,5] (fun _ i wr=>i=V0 (-1)∧J [] wr) (fun _ _ _=>0)
 case atStart=>exact⟨rfl,h0⟩
 case round =>
  obtain⟨rfl,a1⟩:=hrel
  gi_wp2
  go_end0
  exact⟨⟨_,rfl⟩,a1⟩
theorem Zfq(Bs Bk:Nat)(p:Nat→Prop)(hi:Int)(v:Value)(zs:List Int)(w:World)(hp:∀ b,p b→b<w.heap.size)(hk:p Bk)(hs:p Bs)(hlen:zs.length≤9223372036854775807)(hv:Ints w v zs)
  (hvp:zs.length≠0→∀ b off n cap,v=.slice (some ⟨b,off,none⟩) n cap→p b)
  (hc1:w.cell? ⟨Bs,1,none⟩=some (V0 hi)) (hck:w.cell? ⟨Bk,0,none⟩=some v) :
  SeqStopsK Fence.wide 3 Tryz.prog 221 #[P0 Bs,P0 Bk] (encE hi zs) (Keeps p)
   (fun ys=>ys=List.finRange zs.length) (fun pre=>∃ k,k≤zs.length∧pre=(List.finRange zs.length).take k) zs.length w:=fun l J Jx W hW _ _ hY h0=>by
 have a2:=Nx hW hc1
 have a1:=Nx hW hck
 rcases hv with ⟨a0,c0,rfl,h1,h2⟩|⟨b,off,cap,rfl,a4,a5,a3⟩
 ·obtain rfl:zs=[]:=by simpa using h2
  exact(Zbo l Bs Bk hi J W a2 a1 h0).mono fun e W' ⟨he,hj⟩=>⟨he,.inl ⟨_,rfl,hj⟩⟩
 ·refine each1_in l Bs Bk p hi b off cap zs hlen ?_ hk J Jx hY W a2 a1 (fun j x hj=>Nx hW (a3 j _ (by simp[hj]))) h0
  by_cases h:zs.length=0
  ·exact .inl h
  ·exact .inr (hvp h _ _ _ _ rfl)
theorem span_each(lo hi:Int)(a:O0)(n c:Nat)(w:World):C0 212 #[spanV lo hi,.slice a n c] w fun e w' =>
 e=.returned (.func (.func 221) #[] #[.pointer (some ⟨w.heap.size,0,none⟩),.pointer (some ⟨w.heap.size+1,0,none⟩)]) ∧
 w'=(w.alloc (.cells #[V0 lo,V0 hi] 304)).alloc (.cells #[.slice a n c] 28):=by
 unfold spanV
 go_enter Tryz.func212,Tryz.ntmps212
 go_wp2
 go_ret
 exact⟨rfl,rfl⟩
def encB(l:List Int)(j:Fin l.length):Array Value:=#[V0 (qOf j:Int),V0 (l[qOf j]?.getD 0)]
theorem back1_in(l Bk:Nat)(p:Nat→Prop)(b off cap:Nat)(zs:List Int)(hlen:zs.length≤9223372036854775807)(hb':zs.length=0∨p b)(hBk:p Bk)(J Jx:List (Fin zs.length)→World→Prop)
  (hY:∀ pre x W,J pre W→pre.length<zs.length→YieldAt Fence.wide 2 Tryz.prog l (encB zs x) W fun e W' =>
   (e=.returned (.bool true)∧J (pre++[x]) W'∧Keeps p W W')∨(e=.returned (.bool false)∧Jx (pre++[x]) W'))
  (W:World) (hck:W.cell? ⟨Bk,0,none⟩=some (.slice (some ⟨b,off,none⟩) zs.length cap))
  (hc:∀ j x,zs[j]? = some x→W.cell? ⟨b,off+j,none⟩=some (V0 x)) (h0:J [] W) :
  CallsIn Fence.wide 3 Tryz.prog 217 #[.func (.yield l) #[] #[],P0 Bk] W fun e W'=>(∃ v,e=.returned v) ∧
   ((∃ ys,ys=List.finRange zs.length∧J ys W')∨(∃ pre,(∃ k,k≤zs.length∧pre=(List.finRange zs.length).take k)∧Jx pre W')):=by
 refine callsIn_of_wp Tryz.func217 rfl trivial ?_ rfl
 simp only[Tryz.ntmps217,List.size_toArray,List.length_cons,List.length_nil,Nat.reduceAdd,Nat.reduceSub,Array.replicate_succ,Array.replicate_zero,List.push_toArray,List.append_toArray,List.nil_append,List.cons_append]
 gi_wp2
 gi_loopw [3] (fun i wr=>∃ k:Nat,k≤zs.length∧i=V0 ((zs.length:Int)-1-k)∧J ((List.finRange zs.length).take k) wr∧Keeps p W wr)
  (fun i _=>((intOf i)+1).toNat)
 case atStart=>exact⟨0,Nat.zero_le _,by simp,h0,Keeps.refl _ _⟩
 case round =>
  obtain⟨k,hk,rfl,a1,a4⟩:=hrel
  by_cases hlt:k<zs.length
  ·have hb:p b:=hb'.resolve_left (by omega)
   obtain⟨x,hx⟩:∃ x,zs[zs.length-1-k]? = some x:=⟨zs[zs.length-1-k],by simp⟩
   have a6:=(a4.cell (a:=⟨Bk,0,none⟩) hBk).trans hck
   have a8:=(a4.cell (a:=⟨b,off+(zs.length-1-k),none⟩) hb).trans (hc _ _ hx)
   obtain⟨q,hq⟩:∃ q:Nat,q=zs.length-1-k:=⟨_,rfl⟩
   have a3:((zs.length:Int)-1-k)=(q:Int):=by omega
   have b2:q<zs.length:=by omega
   obtain⟨fn,a7,a5,a9,hy,hR⟩:=hY _ ⟨k,hlt⟩ wr a1 (by rw[Wq hk];exact hlt)
   have hE:encB zs ⟨k,hlt⟩=#[V0 (q:Int),V0 x]:=by
    have e0:zs[q]? = some x:=by rw[hq];exact hx
    have e2:qOf (⟨k,hlt⟩:Fin zs.length)=q:=hq.symm
    simp only[encB,e2,e0,Option.getD_some]
   rw[hE] at hy
   rw[←hq] at a8
   rw[a3]
   have HQ:=Lib.hid hq;clear hq
   have HI:=Lib.hid a3;clear a3
   have HX:=Lib.hid hx;clear hx
   have HE:=Lib.hid hE;clear hE
   gi_wp2
   refine hR.mono ?_
   rintro e W3 (⟨rfl,b1,b0⟩|⟨rfl,a2⟩)
   ·gi_wp2
    go_roundw
    case rel =>
     refine⟨k+1,by omega,?_,by rw[Hk hlt];exact b1,a4.trans b0⟩
     exact congrArg V0 (by have:=HI.out;omega)
    case measure=>simp[intOf]
   ·gi_wp2
    refine bodyPost_ret (results_none rfl _ _ _) rfl ?_
    exact⟨⟨_,rfl⟩,.inr ⟨_,⟨k+1,by omega,by rw[Hk hlt]⟩,a2⟩⟩
  ·obtain rfl:k=zs.length:=by omega
   have a0:((zs.length:Int)-1-zs.length) = -1:=by omega
   rw[a0]
   clear a0
   rw[Bg] at a1
   have HJ:=Lib.hid a1;clear a1
   gi_wp2
   go_end0
   exact⟨⟨_,rfl⟩,.inl ⟨_,rfl,HJ.out⟩⟩
theorem Zaq{α:Type}(l Bk:Nat)(J:List α→World→Prop)(W:World){a0:O0}{c0:Nat}(hck:W.cell? ⟨Bk,0,none⟩=some (.slice a0 0 c0))(h0:J [] W) :
 CallsIn Fence.wide 3 Tryz.prog 217 #[.func (.yield l) #[] #[],P0 Bk] W fun e W'=>(∃ v,e=.returned v)∧J [] W':=by
 refine callsIn_of_wp Tryz.func217 rfl trivial ?_ rfl
 simp only[Tryz.ntmps217,List.size_toArray,List.length_cons,List.length_nil,Nat.reduceAdd,Nat.reduceSub,Array.replicate_succ,Array.replicate_zero,List.push_toArray,List.append_toArray,List.nil_append,List.cons_append]
 gi_wp2
 gi_loopw [3] (fun i wr=>i=V0 (-1)∧J [] wr) (fun _ _=>0)
 case atStart=>exact⟨rfl,h0⟩
 case round =>
  obtain⟨rfl,a1⟩:=hrel
  gi_wp2
  go_end0
  exact⟨⟨_,rfl⟩,a1⟩
theorem Zhe(Bk:Nat)(p:Nat→Prop)(v:Value)(zs:List Int)(w:World)(hp:∀ b,p b→b<w.heap.size)(hk:p Bk)(hlen:zs.length≤9223372036854775807)(hv:Ints w v zs)
  (hvp:zs.length≠0→∀ b off n cap,v=.slice (some ⟨b,off,none⟩) n cap→p b) (hck:w.cell? ⟨Bk,0,none⟩=some v) :
  SeqStopsK Fence.wide 3 Tryz.prog 217 #[P0 Bk] (encB zs) (Keeps p)
   (fun ys=>ys=List.finRange zs.length) (fun pre=>∃ k,k≤zs.length∧pre=(List.finRange zs.length).take k) zs.length w:=fun l J Jx W hW _ _ hY h0=>by
 have a1:=Nx hW hck
 rcases hv with ⟨a0,c0,rfl,h1,h2⟩|⟨b,off,cap,rfl,a3,a4,a2⟩
 ·obtain rfl:zs=[]:=by simpa using h2
  exact(Zaq l Bk J W a1 h0).mono fun e W' ⟨he,hj⟩=>⟨he,.inl ⟨_,rfl,hj⟩⟩
 ·refine back1_in l Bk p b off cap zs hlen ?_ hk J Jx hY W a1 (fun j x hj=>Nx hW (a2 j _ (by simp[hj]))) h0
  by_cases h:zs.length=0
  ·exact .inl h
  ·exact .inr (hvp h _ _ _ _ rfl)
end Go.Proofs.YtgphgaehfdfjjaaGreatDoor
namespace Go.Proofs.YtgphgaehfdfjjaaGreatDoor
set_option maxHeartbeats 8000000
set_option maxRecDepth 100000
open Go.RowKit Go.Extern.Stop Go.Stop Go.Extern
set_option linter.unusedVariables false
attribute [local irreducible] wpList wpAnyH Code.wp Oper.wp Go
theorem Tx(kind no:Int)(a:O0)(n c:Nat)(l:Bl)(w:World)(hn:l.length=n)(h:Bys w (.slice a n c) l):C0 74 #[.slice a n c,V0 kind,V0 no] w (OpenP kind no l w):=by
 subst hn;exact seal_Open kind no a c l w h
def Qr(l:Bl)(tree:Int):Int:=if Yz l=0 then(if tree=0∨Xw l=tree then 0 else 6) else Yz l
def Xd(l:Bl)(no tree:Int):Int:=if inE l 2 no=0 then Qr (inB l no) tree else inE l 2 no
def Node1P(l:Bl)(tree:Int)(w:World)(e:Ending)(w':World):Prop :=
 (Qr l tree≠0∧∃ a b kp n1 kc vp n2 vc,e=.returned (.tuple #[.agg #[V0 a,.bool b,.slice kp n1 kc,.slice vp n2 vc],V0 (Qr l tree)])∧B0 w w') ∨
 (Qr l tree=0∧∃ kp kc vp vc,e=.returned (.tuple #[.agg #[V0 (Xw l),.bool (Xm l),.slice kp (Zp l) kc,.slice vp (Zp l) vc],V0 0])∧B0 w w' ∧
  w'.ownsRow w.heap.size 3 1 (.slice kp (Zp l) kc) (Zp l) ((Yx l (Zp l)).map V0)∧w'.ownsRow w.heap.size 9 1 (.slice vp (Zp l) vc) (Zp l) ((Ky l (Zp l)).map sv))
def Zdv(l:Bl)(no tree:Int)(w:World)(e:Ending)(w':World):Prop :=
 (Xd l no tree≠0∧∃ b,e=.returned (.tuple #[.agg #[V0 0,.bool false,S0,S0],.iface 215 (P0 b)])∧B0 w w'∧Vw w' [some no] (some (Xd l no tree)) (.iface 215 (P0 b))) ∨
 (Xd l no tree=0∧∃ kp kc vp vc,e=.returned (.tuple #[.agg #[V0 (Xw (inB l no)),.bool (Xm (inB l no)),.slice kp (Zp (inB l no)) kc,.slice vp (Zp (inB l no)) vc],.nilIface])∧B0 w w' ∧
  w'.ownsRow w.heap.size 3 1 (.slice kp (Zp (inB l no)) kc) (Zp (inB l no)) ((Yx (inB l no) (Zp (inB l no))).map V0)∧w'.ownsRow w.heap.size 9 1 (.slice vp (Zp (inB l no)) vc) (Zp (inB l no)) ((Ky (inB l no) (Zp (inB l no))).map sv))
theorem node_1(tree:Int)(bt:Nat)(a:O0)(c:Nat)(l:Bl)(w:World)(kt:Blk w bt [V0 tree] 3)(hl:l.length=244)(h:Bys w (.slice a 244 c) l) :
 C0 35 #[.slice a 244 c,P0 bt] w (Node1P l tree w):=by
 refine zin 27 Tryz.func35 ?_
 refine xa 2 [V0 0,.bool false,S0,S0] 38 fun b1 W1 n1=>?_
 refine xc 6 (args:=#[.slice a 244 c]) (node_Read a c l _ hl (h.below n1.below)) ?_
 rintro e W2 d0
 rcases d0 with ⟨hz,rfl,a4⟩|⟨hz,kp,kc,vp,vc,rfl,a4,hk,c5⟩
 ·refine xa 3 [V0 0,.bool false,S0,S0] 38 fun b3 W3 n3=>?_
  have k1:=n1.blk.below a4
  have b0:=n3.ne k1
  have a8:=bln n1.below a4
  have g3:=n3.ge a8
  refine xsv 0 n3.blk [V0 0,.bool false,S0,S0] fun W4 u4 k4=>?_
  refine xgk 9 [13,14] (show(((Yz l)==(0:Int)):Bool)=false from beq_false_of_ne hz) ?_
  refine xlv 16 k4.rp ?_
  have c4:=u4.blk (k1.below n3.below) (Ne.symm (Ne.symm b0))
  refine xsv 1 c4 [V0 0,.bool false,S0,S0] fun W6 u6 k6=>?_
  have g1:=n1.ge (B3 w)
  have b9:=u6.below (u4.below (bln a8 n3.below) g3) g1
  exact xec 4 k6 (.tuple #[.agg #[V0 0,.bool false,S0,S0],V0 (Yz l)]) (.inl ⟨by unfold Qr;rw[if_neg hz];exact hz,_,_,_,_,_,_,_,_,by unfold Qr;rw[if_neg hz],b9⟩)
 refine xa 3 [V0 0,.bool false,S0,S0] 38 fun b7 W7 n7=>?_
 have k1:=n1.blk.below a4
 have a0:=n7.ne k1
 have a1:=bln n1.below a4
 have g7:=n7.ge a1
 refine xsv 0 n7.blk [V0 (Xw l),.bool (Xm l),.slice kp (Zp l) kc,.slice vp (Zp l) vc] fun W8 u8 k8=>?_
 have a5:=u8.blkT (((kt.below n1.below).below a4).below n7.below) n7.blk (by decide)
 refine xb 9 0 a5 ?_
 refine xg 3 [16,17,18] (tree != (0:Int)) (fun a7=>?_) (fun a7=>?_)
 ·have a7:=Vl a7
  refine xb 1 0 k8 ?_
  refine xb 0 0 a5 ?_
  refine xin 4 (Xw l) tree (fun c2=>?_) (fun c2=>?_)
  ·refine xlv 2 k8.rp ?_
   have b4:=u8.blk (k1.below n7.below) (Ne.symm (Ne.symm a0))
   refine xsv 0 b4 [V0 (Xw l),.bool (Xm l),.slice kp (Zp l) kc,.slice vp (Zp l) vc] fun d3 c6 c9=>?_
   have g1:=n1.ge (B3 w)
   have c3:=c6.below (u8.below (bln a1 n7.below) g7) g1
   exact xec 5 c9 (.tuple #[.agg #[V0 (Xw l),.bool (Xm l),.slice kp (Zp l) kc,.slice vp (Zp l) vc],V0 6]) (.inl ⟨by unfold Qr;rw[if_pos hz,if_neg (by omega)];decide,_,_,_,_,_,_,_,_,by unfold Qr;rw[if_pos hz,if_neg (by omega)],c3⟩)
  refine xlv 4 k8.rp ?_
  have a3:=u8.blk (k1.below n7.below) (Ne.symm (Ne.symm a0))
  refine xsv 1 a3 [V0 (Xw l),.bool (Xm l),.slice kp (Zp l) kc,.slice vp (Zp l) vc] fun d1 b8 c7=>?_
  have g1:=n1.ge (B3 w)
  have b2:=b8.below (u8.below (bln a1 n7.below) g7) g1
  have c0:=b8.own2 (u8.own2 (Zb (Zg hk n1.below.size) n7.below) n7.blk (by decide)) a3 (by decide)
  have a9:=b8.own2 (u8.own2 (Zb (Zg c5 n1.below.size) n7.below) n7.blk (by decide)) a3 (by decide)
  exact xec 4 c7 (.tuple #[.agg #[V0 (Xw l),.bool (Xm l),.slice kp (Zp l) kc,.slice vp (Zp l) vc],V0 0]) (.inr ⟨by unfold Qr;rw[if_pos hz,if_pos (by omega)],_,_,_,_,rfl,b2,c0,a9⟩)
 have a7:=Xp a7
 refine xlv 12 k8.rp ?_
 have a2:=u8.blk (k1.below n7.below) (Ne.symm (Ne.symm a0))
 refine xsv 1 a2 [V0 (Xw l),.bool (Xm l),.slice kp (Zp l) kc,.slice vp (Zp l) vc] fun d2 b5 c8=>?_
 have g1:=n1.ge (B3 w)
 have b6:=b5.below (u8.below (bln a1 n7.below) g7) g1
 have c1:=b5.own2 (u8.own2 (Zb (Zg hk n1.below.size) n7.below) n7.blk (by decide)) a2 (by decide)
 have a6:=b5.own2 (u8.own2 (Zb (Zg c5 n1.below.size) n7.below) n7.blk (by decide)) a2 (by decide)
 exact xec 4 c8 (.tuple #[.agg #[V0 (Xw l),.bool (Xm l),.slice kp (Zp l) kc,.slice vp (Zp l) vc],V0 0]) (.inr ⟨by unfold Qr;rw[if_pos hz,if_pos (by omega)],_,_,_,_,rfl,b6,c1,a6⟩)
theorem readNode(B b:Nat)(p:O0)(n c:Nat)(l:Bl)(no tree:Int)(w:World)(hI:ImgR B b p n c l w)(bt:Nat)(kt:Blk w bt [V0 tree] 3) :
 C0 34 #[P0 b,V0 no,V0 2,.func (.func 35) #[] #[P0 bt]] w (Zdv l no tree w):=by
 refine zin 56 Tryz.func34 ?_
 refine xa 2 [V0 0,.bool false,S0,S0] 38 fun b1 W1 n1=>?_
 refine xa 5 [V0 0,.bool false,S0,S0] 38 fun b2 W2 n2=>?_
 have h9:=n2.ne n1.blk
 have hB:=bln n1.below n2.below
 refine xc 6 (args:=#[P0 b,V0 no]) (Sn B b p n c l no _ (hI.below hB)) ?_
 rintro e W3 k0
 rcases k0 with ⟨ho,vr,rfl,a0⟩|⟨j,hk,hj,p2,c2,rfl,a0,ho⟩
 ·refine xd 16 (.t w.heap.size [38]) ?_
  refine xm2 (.b [1,2,3]) 0 4 ?_ ?_
  ·have k2:=(n2.blk.below a0).below (Za W3)
   refine xlv 0 k2.rp ?_
   refine yc (.o [] 4) (args:=#[V0 no,.iface 33 (V0 3)]) (.t w.heap.size [38]) (Yr no 3 _) ?_
   rintro _ W4 ⟨_,rfl,g8,g3⟩
   refine⟨(SF.of_below _ g8),?_⟩
   rw[if_neg (by decide),if_neg (by decide)] at g3
   have i8:=g3
   obtain⟨j2,l8,rfl,_,_⟩:=i8
   have c1:=(((n1.blk.below n2.below).below a0).below (Za W3)).below g8
   have g1:=n1.ge (B3 w)
   refine ysv (.o [] 5) c1 [V0 0,.bool false,S0,S0] (.t w.heap.size [38]) fun W5 u5 k5=>⟨(Zo u5 c1 g1 (by decide)),?_⟩
   have h2:=u5.below (bln (bln (bln hB a0) (Za W3)) g8) g1
   have d5:=g3.upd u5 c1 (by decide)
   refine xec (.r [6] 4) k5 (.tuple #[.agg #[V0 0,.bool false,S0,S0],.iface 215 (P0 j2)]) ?_
   have he:Xd l no tree=3:=by unfold Xd;rw[Fs hI.len ho];rfl
   exact .inl ⟨by rw[he];decide,_,rfl,h2,by rw[he];exact d5⟩
  refine yc 0 (args:=#[V0 no,.iface 33 (V0 3)]) (.t w.heap.size [38]) (Yr no 3 _) ?_
  rintro _ W6 ⟨_,rfl,e6,g0⟩
  refine⟨(SF.of_below _ e6),?_⟩
  rw[if_neg (by decide),if_neg (by decide)] at g0
  have j3:=g0
  obtain⟨i5,m6,rfl,_,_⟩:=j3
  have k2:=((n2.blk.below a0).below (Za W3)).below e6
  refine xlv (.o [] 0) k2.rp ?_
  have c4:=(((n1.blk.below n2.below).below a0).below (Za W3)).below e6
  have g1:=n1.ge (B3 w)
  refine ysv (.o [] 5) c4 [V0 0,.bool false,S0,S0] (.t w.heap.size [38]) fun W7 u7 k7=>⟨(Zo u7 c4 g1 (by decide)),?_⟩
  have g2:=u7.below (bln (bln (bln hB a0) (Za W3)) e6) g1
  have e3:=g0.upd u7 c4 (by decide)
  refine xec (.r [6] 4) k7 (.tuple #[.agg #[V0 0,.bool false,S0,S0],.iface 215 (P0 i5)]) ?_
  have he:Xd l no tree=3:=by unfold Xd;rw[Fs hI.len ho];rfl
  exact .inl ⟨by rw[he];decide,_,rfl,g2,by rw[he];exact e3⟩
 have j0:=(bln n1.below n2.below).size
 have i7:j<l.length/256:=by rw[hI.len];exact hj
 have h8:=Kg i7
 have d6:=Zee (l:=l) (kind:=2) hI.len hk hj
 have g9:=Zg ho j0
 refine xc 22 (args:=#[.slice p2 256 c2,V0 2,V0 no]) (Tx 2 no p2 256 c2 (Kz l j) _ h8 (Ko (Zh g9) h8)) ?_
 rintro e W8 i9
 rcases i9 with ⟨hs,rfl,a2⟩|⟨hs,p3,c3,rfl,a2,h3⟩
 ·refine xk 14 (show(((Yi 2 no (Kz l j)) != (0:Int)):Bool)=true from bne_iff_ne.2 hs) ?_
  refine xd 1 (.t w.heap.size [38]) ?_
  refine xm2 (.b [1,2,3]) 0 4 ?_ ?_
  ·have k2:=((n2.blk.below a0).below a2).below (Za W8)
   refine xlv 0 k2.rp ?_
   refine yc (.o [] 4) (args:=#[V0 no,.iface 33 (V0 (Yi 2 no (Kz l j)))]) (.t w.heap.size [38]) (Yr no (Yi 2 no (Kz l j)) _) ?_
   rintro _ W9 ⟨_,rfl,g7,g5⟩
   refine⟨(SF.of_below _ g7),?_⟩
   rw[if_neg hs,if_neg hs] at g5
   have i1:=g5
   obtain⟨j5,k9,rfl,_,_⟩:=i1
   have b0:=((((n1.blk.below n2.below).below a0).below a2).below (Za W8)).below g7
   have g1:=n1.ge (B3 w)
   refine ysv (.o [] 5) b0 [V0 0,.bool false,S0,S0] (.t w.heap.size [38]) fun k6 h6 j9=>⟨(Zo h6 b0 g1 (by decide)),?_⟩
   have f8:=h6.below (bln (bln (bln (bln hB a0) a2) (Za W8)) g7) g1
   have e0:=g5.upd h6 b0 (by decide)
   refine xec (.r [6] 4) j9 (.tuple #[.agg #[V0 0,.bool false,S0,S0],.iface 215 (P0 j5)]) ?_
   have he:Xd l no tree=Yi 2 no (Kz l j):=by unfold Xd;rw[d6,if_neg hs]
   exact .inl ⟨by rw[he];exact hs,_,rfl,f8,by rw[he];exact e0⟩
  refine yc 0 (args:=#[V0 no,.iface 33 (V0 (Yi 2 no (Kz l j)))]) (.t w.heap.size [38]) (Yr no (Yi 2 no (Kz l j)) _) ?_
  rintro _ m5 ⟨_,rfl,a8,b4⟩
  refine⟨(SF.of_below _ a8),?_⟩
  rw[if_neg hs,if_neg hs] at b4
  have f1:=b4
  obtain⟨f6,k3,rfl,_,_⟩:=f1
  have k2:=(((n2.blk.below a0).below a2).below (Za W8)).below a8
  refine xlv (.o [] 0) k2.rp ?_
  have c8:=((((n1.blk.below n2.below).below a0).below a2).below (Za W8)).below a8
  have g1:=n1.ge (B3 w)
  refine ysv (.o [] 5) c8 [V0 0,.bool false,S0,S0] (.t w.heap.size [38]) fun l1 f9 i4=>⟨(Zo f9 c8 g1 (by decide)),?_⟩
  have h5:=f9.below (bln (bln (bln (bln hB a0) a2) (Za W8)) a8) g1
  have c0:=b4.upd f9 c8 (by decide)
  refine xec (.r [6] 4) i4 (.tuple #[.agg #[V0 0,.bool false,S0,S0],.iface 215 (P0 f6)]) ?_
  have he:Xd l no tree=Yi 2 no (Kz l j):=by unfold Xd;rw[d6,if_neg hs]
  exact .inl ⟨by rw[he];exact hs,_,rfl,h5,by rw[he];exact c0⟩
 have j4:=(bln hB a0).size
 have d8:=Zg h3 j4
 have k1:((Kz l j).drop 8).take 244=inB l no:=(Zeg hk).symm
 have h7:=inB_len hI.len hk hj
 rw[k1] at d8
 have c7:=bln (bln hB a0) a2
 refine xc 21 (args:=#[.slice p3 244 c3,P0 bt]) (node_1 tree bt p3 c3 (inB l no) _ (kt.below c7) h7 (Ko (Zh d8) h7)) ?_
 rintro e m0 h4
 rcases h4 with ⟨hz,a5,b5,kp,m1,kc,vp,m2,vc,rfl,a1⟩|⟨hz,kp,kc,vp,vc,rfl,a1,hk,j8⟩
 ·refine xa 3 [V0 0,.bool false,S0,S0] 38 fun k8 l0 a6=>?_
  have b3:=(((n1.blk.below n2.below).below a0).below a2).below a1
  have a4:=a6.ne b3
  have k2:=((n2.blk.below a0).below a2).below a1
  have a3:=a6.ne k2
  have d0:=bln c7 a1
  have i0:=a6.ge d0
  refine xsv 0 a6.blk [V0 a5,.bool b5,.slice kp m1 kc,.slice vp m2 vc] fun d4 d3 l4=>?_
  refine xk 10 (show(((Qr (inB l no) tree) != (0:Int)):Bool)=true from bne_iff_ne.2 hz) ?_
  refine xd 1 (.t w.heap.size [38]) ?_
  refine xm2 (.b [1,2,3]) 0 4 ?_ ?_
  ·have h1:=(d3.blk (k2.below a6.below) (Ne.symm (Ne.symm a3))).below (Za d4)
   refine xlv 0 h1.rp ?_
   refine yc (.o [] 4) (args:=#[V0 no,.iface 33 (V0 (Qr (inB l no) tree))]) (.t w.heap.size [38]) (Yr no (Qr (inB l no) tree) _) ?_
   rintro _ l2 ⟨_,rfl,b6,c9⟩
   refine⟨(SF.of_below _ b6),?_⟩
   rw[if_neg hz,if_neg hz] at c9
   have e9:=c9
   obtain⟨e7,i3,rfl,_,_⟩:=e9
   have b7:=((d3.blk (b3.below a6.below) (Ne.symm (Ne.symm a4))).below (Za d4)).below b6
   have g1:=n1.ge (B3 w)
   refine ysv (.o [] 5) b7 [V0 0,.bool false,S0,S0] (.t w.heap.size [38]) fun l6 f4 i2=>⟨(Zo f4 b7 g1 (by decide)),?_⟩
   have f3:=f4.below (bln (bln (d3.below (bln d0 a6.below) i0) (Za d4)) b6) g1
   have d2:=c9.upd f4 b7 (by decide)
   refine xec (.r [6] 4) i2 (.tuple #[.agg #[V0 0,.bool false,S0,S0],.iface 215 (P0 e7)]) ?_
   have he:Xd l no tree=Qr (inB l no) tree:=by unfold Xd;rw[d6,if_pos hs]
   exact .inl ⟨by rw[he];exact hz,_,rfl,f3,by rw[he];exact d2⟩
  refine yc 0 (args:=#[V0 no,.iface 33 (V0 (Qr (inB l no) tree))]) (.t w.heap.size [38]) (Yr no (Qr (inB l no) tree) _) ?_
  rintro _ l5 ⟨_,rfl,a9,c5⟩
  refine⟨(SF.of_below _ a9),?_⟩
  rw[if_neg hz,if_neg hz] at c5
  have f7:=c5
  obtain⟨f2,i6,rfl,_,_⟩:=f7
  have h0:=((d3.blk (k2.below a6.below) (Ne.symm (Ne.symm a3))).below (Za d4)).below a9
  refine xlv (.o [] 0) h0.rp ?_
  have b9:=((d3.blk (b3.below a6.below) (Ne.symm (Ne.symm a4))).below (Za d4)).below a9
  have g1:=n1.ge (B3 w)
  refine ysv (.o [] 5) b9 [V0 0,.bool false,S0,S0] (.t w.heap.size [38]) fun l3 g4 j7=>⟨(Zo g4 b9 g1 (by decide)),?_⟩
  have f0:=g4.below (bln (bln (d3.below (bln d0 a6.below) i0) (Za d4)) a9) g1
  have c6:=c5.upd g4 b9 (by decide)
  refine xec (.r [6] 4) j7 (.tuple #[.agg #[V0 0,.bool false,S0,S0],.iface 215 (P0 f2)]) ?_
  have he:Xd l no tree=Qr (inB l no) tree:=by unfold Xd;rw[d6,if_pos hs]
  exact .inl ⟨by rw[he];exact hz,_,rfl,f0,by rw[he];exact c6⟩
 have e1:=(bln (bln hB a0) a2).size
 refine xa 3 [V0 0,.bool false,S0,S0] 38 fun m4 l7 a7=>?_
 have e2:=(((n1.blk.below n2.below).below a0).below a2).below a1
 have d1:=a7.ne e2
 have k2:=((n2.blk.below a0).below a2).below a1
 have f5:=a7.ne k2
 have d7:=bln c7 a1
 have j6:=a7.ge d7
 refine xsv 0 a7.blk [V0 (Xw (inB l no)),.bool (Xm (inB l no)),.slice kp (Zp (inB l no)) kc,.slice vp (Zp (inB l no)) vc] fun m3 e5 j1=>?_
 refine xlv 15 j1.rp ?_
 have b8:=e5.blk (e2.below a7.below) (Ne.symm (Ne.symm d1))
 refine xsv 0 b8 [V0 (Xw (inB l no)),.bool (Xm (inB l no)),.slice kp (Zp (inB l no)) kc,.slice vp (Zp (inB l no)) vc] fun l9 e8 k4=>?_
 have g1:=n1.ge (B3 w)
 have d9:=e8.below (e5.below (bln d7 a7.below) j6) g1
 have g6:=e8.own2 (e5.own2 (Zb (Zg hk e1) a7.below) a7.blk (by decide)) b8 (by decide)
 have e4:=e8.own2 (e5.own2 (Zb (Zg j8 e1) a7.below) a7.blk (by decide)) b8 (by decide)
 exact xec 4 k4 (.tuple #[.agg #[V0 (Xw (inB l no)),.bool (Xm (inB l no)),.slice kp (Zp (inB l no)) kc,.slice vp (Zp (inB l no)) vc],.nilIface]) (.inr ⟨by unfold Xd;rw[d6,if_pos hs,hz],_,_,_,_,rfl,d9,g6,e4⟩)
theorem Su(B b:Nat)(p:O0)(n c:Nat)(l:Bl)(no tree:Int)(w:World)(hI:ImgR B b p n c l w) :
 C0 10 #[P0 b,V0 no,V0 tree] w (Zdv l no tree w):=by
 refine zin 14 Tryz.func10 ?_
 refine xa 2 [V0 tree] 3 fun b1 W1 n1=>?_
 refine xa 0 [V0 0,.bool false,S0,S0] 38 fun b2 W2 n2=>?_
 have hB:=bln n1.below n2.below
 have k1:=n1.blk.below n2.below
 refine xc 8 (args:=#[P0 b,V0 no,V0 2,.func (.func 35) #[] #[P0 b1]]) (readNode B b p n c l no tree _ (hI.below hB) b1 k1) ?_
 rintro e W3 a7
 rcases a7 with ⟨he,bf,rfl,a1,hv⟩|⟨he,kp,kc,vp,vc,rfl,a1,hk,a8⟩
 ·have k2:=n2.blk.below a1
  refine xsv 2 k2 [V0 0,.bool false,S0,S0] fun W4 u4 k4=>?_
  have g2:=n2.ge n1.below
  have a5:=u4.below (bln hB a1) g2
  have a4:=hv.upd u4 k2 (by decide)
  exact xec 4 k4 (.tuple #[.agg #[V0 0,.bool false,S0,S0],.iface 215 (P0 bf)]) (.inl ⟨he,_,rfl,a5,a4⟩)
 have a6:=(bln n1.below n2.below).size
 have k2:=n2.blk.below a1
 refine xsv 2 k2 [V0 (Xw (inB l no)),.bool (Xm (inB l no)),.slice kp (Zp (inB l no)) kc,.slice vp (Zp (inB l no)) vc] fun W5 u5 k5=>?_
 have g2:=n2.ge n1.below
 have a2:=u5.below (bln hB a1) g2
 have a3:=u5.own2 (Zg hk a6) k2 (by decide)
 have a0:=u5.own2 (Zg a8 a6) k2 (by decide)
 exact xec 4 k5 (.tuple #[.agg #[V0 (Xw (inB l no)),.bool (Xm (inB l no)),.slice kp (Zp (inB l no)) kc,.slice vp (Zp (inB l no)) vc],.nilIface]) (.inr ⟨he,_,_,_,_,rfl,a2,a3,a0⟩)
theorem Nk(ba b:Nat)(v x:Value)(w:World)(hk:Blk w ba [v,x,P0 b] 125) :
 C0 24 #[P0 ba] w (Ret (P0 b) w):=by
 refine zin 9 Tryz.func24 ?_
 refine xr 9 (args:=#[P0 ba]) (Wg ba b _ _ _ hk) fun W1 a1=>?_
 have a0:=hk.below a1
 refine xb 10 2 a0 ?_
 exact xe 4 (P0 b) ⟨rfl,a1⟩
abbrev Ent:=Int×Bl×Int
def Zn:Ent:=(0,[],0)
def Ji(x:Ent):List Value:=[V0 x.1,.string ⟨x.2.1.toArray⟩,V0 x.2.2]
theorem Xo(x:Ent):(Ji x).length=3:=rfl
def lastK(l:List Ent):Nat→Int
 | 0=>-1
 | i+1=>(l.getD i Zn).1
structure EntsOk(v:Nat)(l:List Ent):Prop where
 hk:∀ i,i<l.length→0≤(l.getD i Zn).1∧(l.getD i Zn).1≤281474976710655
 hs:∀ j,j+1<l.length→(l.getD j Zn).1<(l.getD (j+1) Zn).1
 hw:∀ i,i<l.length→(l.getD i Zn).2.1.length=v
theorem EntsOk.last{v:Nat}{l:List Ent}(E:EntsOk v l){i:Nat}(h:i<l.length):lastK l i<(l.getD i Zn).1:=by
 cases i with
 | zero=>have:=(E.hk 0 h).1;simp only[lastK];omega
 | succ j=>exact E.hs j h
theorem Jn(x:Nat):x≤(Gf x).sum:=by
 by_cases h:x≤1
 ·rw[Jr h];simp
 ·rw[Vo h];simp
theorem Zek(t:Int)(n:Nat):1≤Gg t n:=by
 have h1:=Jn (ovN n (Kj t true));have h2:=Qn n (Kj t true);unfold Gg Hw;omega
theorem Zcm(t:Int)(v:Nat)(a:O0)(c:Nat)(l:List Ent)(w:World)(ht1:1≤t)(ht2:t≤5)(hv:Uh t true=v)(E:EntsOk v l)(h:Sts Ji w (.slice a l.length c) l)(hn:l.length≤32768) :
 C0 49 #[V0 t,.slice a l.length c] w (Ret (.bool true) w):=by
 have a6:=Ek t true
 rw[hv] at a6
 have a8:=Zek t l.length
 refine zin 45 Tryz.func49 ?_
 refine xr 8 (args:=#[V0 t,.bool true]) (Nn t true v hv ht1 ht2 _) fun W1 a2=>?_
 refine xgk 9 [12,13] (show(((v:Int)==(0:Int)):Bool)=false from by simp;omega) ?_
 refine xr 3 (args:=#[V0 t,V0 (l.length:Int)]) (Aa t l.length _ ht1 ht2 hn) fun W3 a7=>?_
 refine xk 4 (show(((↑(Gg t l.length):Int)==(0:Int)):Bool)=false from by simp;omega) ?_
 have hB:=bln a2 a7
 refine zl 16 45 (fun zm a3 V=>∃ (i:Nat),a3=[(5,V0 (v:Int)),(6,V0 (lastK l i)),(20,.slice a l.length c),(21,V0 (l.length:Int)),(22,V0 (i:Int))]∧zm=l.length-((i:Int)).toNat∧B0 w V∧i≤l.length) ⟨0,rfl,rfl,hB,Nat.zero_le _⟩ ?_
 rintro _ _ W4 ⟨i,rfl,rfl,a0,hi⟩ J4 a4 r4
 refine xid 6 ((i:Int)<(l.length:Int)) (fun a5=>?_) (fun a5=>?_)
 ·refine xx 6 _ l.length i 3 (Sts.cell h Xo Zn (k:=i) (i:=0) (by omega) rfl).1 ?_
  refine xlv 0 (Sts.rp (k:=i) (h.below a0) Xo Zn (by omega) (by decide)) ?_
  refine xa 0 [V0 0,.string ⟨#[]⟩,V0 0] 100 fun b6 W6 n6=>?_
  have g6:=n6.ge a0
  refine xsv 0 n6.blk [V0 ((l.getD i Zn).1),.string ⟨((l.getD i Zn).2.1).toArray⟩,V0 ((l.getD i Zn).2.2)] fun W7 u7 k7=>?_
  refine xb 6 0 k7 ?_
  refine xgk 3 [29,30] (show(decide ((l.getD i Zn).1≤(lastK l i)):Bool)=false from decide_eq_false (by have:=E.last (i:=i) (by omega);omega)) ?_
  refine xb 1 0 k7 ?_
  refine xgk 3 [33,34,35] (show(decide ((l.getD i Zn).1>(281474976710655:Int)):Bool)=false from decide_eq_false (by have:=(E.hk i (by omega)).2;omega)) ?_
  refine xb 1 1 k7 ?_
  refine xk 6 (show(((↑((l.getD i Zn).2.1).length:Int) != (v:Int)):Bool)=false from by rw[E.hw i (by omega)];simp) ?_
  refine xb 4 0 k7 ?_
  refine xw 5 ((i:Int)+1) ?_
  have a1:=u7.below (bln a0 n6.below) g6
  exact ze 2 (a4 _ _ _ ⟨i+1,rfl,rfl,a1,by omega⟩ (by omega))
 exact xe 11 (.bool true) ⟨rfl,a0⟩
theorem Dz(p:O0)(n c:Nat)(w:World) :
 C0 209 #[.slice p n c] w (fun e w'=>∃ b,e=.returned (.func (.func 217) #[] #[P0 b])∧B0 w w'∧w.heap.size≤b∧Blk w' b [.slice p n c] 28):=by
 refine zin 4 Tryz.func209 ?_
 refine xa 2 [.slice p n c] 28 fun b1 W1 n1=>?_
 have g1:=n1.ge (B3 w)
 exact xe 10 (.func (.func 217) #[] #[P0 b1]) ⟨_,rfl,n1.below,g1,n1.blk⟩
end Go.Proofs.YtgphgaehfdfjjaaGreatDoor
namespace Go.Proofs.YtgphgaehfdfjjaaGreatDoor
set_option maxHeartbeats 8000000
set_option maxRecDepth 100000
open Go.RowKit Go.Extern.Stop Go.Stop Go.Extern
set_option linter.unusedVariables false
attribute [local irreducible] wpList wpAnyH Code.wp Oper.wp Go
attribute [local go_sem] Oper.semAt_some
theorem Upd.of_put(w:World)(D:Nat)(o:Obj):Upd w D (w.putObj D o):=⟨rfl,rfl,rfl,by simp[World.putObj],fun k hk=>World.putObj_heap_other hk⟩
def Dfr (D:Nat)(w:World):Prop:=w.heap[D]? = some (.deferred (some []))
theorem Dfr.below{D:Nat}{w W:World}(h:Dfr D w)(hb:B0 w W):Dfr D W:=(hb.block D (Array.getElem?_eq_some_iff.1 h).1).trans h
theorem Dfr.ne{D b:Nat}{w:World}{cs:List Value}{t:TypeId}(h:Dfr D w)(k:Blk w b cs t):b≠D:=by
 rintro rfl
 have h':w.heap[b]? = _:=h
 rw[show w.heap[b]? = _ from k] at h'
 cases h'
theorem Dfr.upd{D b:Nat}{w W:World}{cs:List Value}{t:TypeId}(h:Dfr D w)(u:Upd w b W)(k:Blk w b cs t):Dfr D W:=(u.block D fun e=>h.ne k e.symm).trans h
theorem Dfr.row{D:Nat}{w:World}{base e size n:Nat}{v:Value}{xs:List Value}(h:Dfr D w)(k:w.ownsRow base e size v n xs):∀ g,v.ownBlock=some g→g≠D:=by
 rintro g hg rfl
 rcases k.2 with ⟨rfl,_⟩|⟨g',a0,a1,rfl,_,hh,_⟩
 ·cases hg
 ·simp only[Value.ownBlock,Option.some.injEq] at hg
  subst hg
  rw[show w.heap[g']? = _ from h] at hh
  cases hh
theorem Dfr.grown{D:Nat}{w W:World}{base e size n:Nat}{v:Value}{xs:List Value}(h:Dfr D w)(hg:w.grownBy W v.ownBlock)(k:w.ownsRow base e size v n xs):Dfr D W :=
 (hg.block D (Array.getElem?_eq_some_iff.1 h).1 fun q=>h.row k D q.symm rfl).trans h
theorem g_endM{P:Program}{fn:Func}{R:Ending→World→Prop}{a:Act}{w:World}{D:Nat}(hK:Dfr D w)(v:Value)(hd:a.defers=[{ target:=.collected D,args:=#[] }])(hr:(results fn a.tmps).run P (w.putObj D (.deferred none))=.ok v (w.putObj D (.deferred none)))(h:R (.returned v) (w.putObj D (.deferred none))):bodyPostM Fence.wide 4 P fn R .normal a w :=
 by
 show LeavesInM _ _ _ _ a.tmps R a.defers .returning w
 rw[hd]
 exact⟨by simp,.inl ⟨_,_,rfl,run_takeDeferred hK,_,hr,h⟩⟩
def noPan(Q:Exit→Act→World→Prop):Exit→Act→World→Prop
 | .normal,a,w=>Q .normal a w
 | .ret,a,w=>Q .ret a w
 | _,_,_=>False
theorem g_nopan{P:Program}{c:Code}{Q:Exit→Act→World→Prop}{a:Act}{w:World}(h:c.wp P (noPan Q) a w):c.wp P Q a w:=wp_mono h fun e a w q=>by cases e<;>first|exact q|exact q.elim
theorem Xq{w:World}{base size n b:Nat}{e t:TypeId}{v:Value}{xs cs:List Value}(k:w.ownsRow base e size v n xs)(q:Blk w b cs t)(hne:e≠t):∀ g,v.ownBlock=some g→g≠b:=by
 rintro g hg rfl
 rcases k.2 with ⟨rfl,_⟩|⟨g',a0,a1,rfl,_,hh,_⟩
 ·cases hg
 ·simp only[Value.ownBlock,Option.some.injEq] at hg
  subst hg
  rw[show w.heap[g']? = _ from q] at hh
  simp only[Option.some.injEq,Obj.cells.injEq] at hh
  exact hne hh.2.1.symm
theorem Ci{w W:World}(h:B0 w W):KeepsOthers w W:=⟨h.size,fun b o hb _=>(h.block b (Array.getElem?_eq_some_iff.1 hb).1).trans hb⟩
theorem Zhj{w W:World}{b:Nat}{cs:List Value}{t:TypeId}(u:Upd w b W)(k:Blk w b cs t):KeepsOthers w W:=⟨Nat.le_of_eq u.size.symm,fun d o hd ho=>(u.block d (by rintro rfl;rw[show w.heap[d]? = _ from k] at hd;cases hd;cases ho)).trans hd⟩
theorem Dfr.only_new{T:List TypeId}{a w W:World}{b:Nat}(h:Zf T a w)(hbb:BelowBut w b W)(hb:a.heap.size≤b):Zf T a W:=fun k cs t fr hk ht=>by
 have h0:=(Array.getElem?_eq_some_iff.1 hk).1
 have h1:=h k cs t fr hk ht
 rw[hbb.block k (Array.getElem?_eq_some_iff.1 h1).1 (by omega)];exact h1
theorem BelowBut.own3{w W:World}{b base size n:Nat}{e:TypeId}{v:Value}{xs:List Value}(h:BelowBut w b W)(k:w.ownsRow base e size v n xs)(hs:∀ j,v.ownBlock=some j→j≠b):W.ownsRow base e size v n xs:=by
 obtain⟨h1,h2⟩:=k
 refine⟨h1,?_⟩
 rcases h2 with h2|⟨g,a0,a1,rfl,hg,hh,r⟩
 ·exact Or.inl h2
 ·exact Or.inr ⟨g,a0,a1,rfl,hg,by rw[h.block g (Array.getElem?_eq_some_iff.1 hh).1 (hs g rfl)];exact hh,r⟩
theorem Zb6{β:Type}{w:World}{b B:Nat}(hB:w.heap.size≤B):OwnFrom B (fun(_:β) W=>BelowBut w b W):=fun _ W W' a1 hs hg hr =>
 ⟨hg.os.trans hs.os,hg.tape.trans hs.tape,hg.output.trans hs.output,Nat.le_trans hs.size hg.size,fun k hk a0=>(hg.block k (Nat.lt_of_lt_of_le hk hs.size) (fun e=>by have:=(hr k e.symm).1;omega)).trans (hs.block k hk a0)⟩
theorem Vw.turn{A B:World}{row:Option Nat}{l:List (Option Int)}{c:Option Int}{v:Value}(h:Vw A l c v)(hg:A.grownBy B row)(hr:∀ r,row=some r→∃ o:Obj,A.heap[r]? = some o∧o.isCells=false):Vw B l c v:=h.kept fun _ _ k=>k.turn hg hr
def atW (way:List Int)(pre:List (Fin way.length))(bs:List Int):List Int:=(pre.map fun j=>way[qOf j]?.getD 0).reverse++bs
theorem atW_snoc(way:List Int)(pre:List (Fin way.length))(x:Fin way.length)(bs:List Int):atW way (pre++[x]) bs=(way[qOf x]?.getD 0)::atW way pre bs:=by simp[atW]
theorem atW_all(way bs:List Int):atW way (List.finRange way.length) bs=way++bs:=by
 unfold atW
 congr 1
 apply List.ext_getElem
 ·simp
 ·intro i h1 h2
  simp only[List.length_reverse,List.length_map,List.length_finRange] at h1
  rw[List.getElem_reverse,List.getElem_map]
  simp only[List.length_map,List.length_finRange,List.getElem_finRange,qOf]
  have e:way.length-1-(way.length-1-i)=i:=by omega
  simp[e,h2]
theorem Vw.one{w:World}{l:List (Option Int)}{c:Option Int}{v:Value}(h:Vw w l c v):v.oneCell'=true:=by
 rcases h.nil_or with ⟨_,rfl⟩|⟨_,t,x,rfl⟩<;>rfl
theorem Vw.iface{w:World}{l:List (Option Int)}{c:Int}{v:Value}(h:Vw w l (some c) v):∃ t x,v=.iface t x:=by
 rcases h.nil_or with ⟨q,_⟩|⟨_,q⟩
 ·simp[Ny] at q
 ·exact q
theorem Vt{b c:Int}{l:List (Option Int)}:atL b l (some c)=some b::l:=by simp[atL,Ny]
theorem Zc0{v:Value}(h:v.oneCell'=true):∀ u∈[v],u.oneCell'=true:=by simpa using h
def NoteP(B bw:Nat)(c0 c1 c2 c3 c5 c6 c7 c8 c9:Value)(nf:Nat)(fs:List Value)(l:List Int)(ec:Int)(w:World)(e:Ending)(w':World):Prop :=
 ∃ u p c ty x,e=.returned u∧Below B w w'∧Zf [301,30] w w'∧Blk w' bw [c0,c1,c2,c3,.slice p (nf+1) c,c5,c6,c7,c8,c9] 301∧w'.ownsRow B 30 1 (.slice p (nf+1) c) (nf+1) (fs++[.iface ty x])∧Vw w' (l.map some) (some ec) (.iface ty x)
theorem Nu(B bw:Nat)(c0 c1 c2 c3 c5 c6 c7 c9:Value)(pf:O0)(nf cf:Nat)(fs:List Value)(pw:O0)(cw:Nat)(way bs:List Int)(ec:Int)(ty:TypeId)(ev:Value)(w:World)(hBb:B≤bw)(hBw:B≤w.heap.size)(kW:Blk w bw [c0,c1,c2,c3,.slice pf nf cf,c5,c6,c7,.slice pw way.length cw,c9] 301)(hF:w.ownsRow B 30 1 (.slice pf nf cf) nf fs)(hway:w.ownsRow B 3 1 (.slice pw way.length cw) way.length (way.map V0))(hE:Vw w (bs.map some) (some ec) (.iface ty ev))(hwl:way.length≤1000000)(hnf:nf≤1000000) :
 C0 196 #[P0 bw,.iface ty ev] w (NoteP B bw c0 c1 c2 c3 c5 c6 c7 (.slice pw way.length cw) c9 nf fs (way++bs) ec w):=by
 refine Gp Tryz.func196 rfl ?_
 refine g_fr ⟨#[P0 bw,.iface ty ev,undef,undef,undef,undef,undef,undef,undef,undef,undef,undef,undef,undef,undef,undef,undef,undef,undef,undef,undef,undef,undef,undef,undef,undef,undef,undef],[]⟩ (by kernel_rfl) ?_
 refine wp_seq ?_
 refine wp_region_lit ?_
 refine Vv (by kernel_rfl) (Zbh [.iface ty ev] rfl (by kernel_rfl) ?_)
 intro b1 W1 n1
 have d1_bw:=n1.ne kW
 have g1:=n1.ge0 (Below.refl B _)
 have r1_hF:=Zw hF n1
 have hO:Zf [301,30] w _:=(Zf.of_below n1.below)
 have hB:=blB (Below.refl B w) hBw n1.below
 replace kW:=kW.below n1.below
 replace hF:=Zb hF n1.below
 replace hway:=Zb hway n1.below
 replace hE:=hE.below n1.below
 have k1:=n1.blk
 refine wpList_nil ?_
 refine wp_seq ?_
 refine wp_seq ?_
 refine wp_region_lit ?_
 refine Gx 3 [(6,P0 bw),(7,P0 bw),(8,.pointer (some ⟨bw,8,none⟩))] (by kernel_rfl) ?_
 refine Vv (by kernel_rfl) (Qm ⟨bw,8,none⟩ (.slice pw way.length cw) rfl (by kernel_rfl) (by kernel_rfl) (kW.cell (i:=8) rfl) ?_)
 have lt2_bw:=kW.lt
 have lt2_b1:=k1.lt
 have hs2:w.heap.size≤(W1).heap.size:=hB.size
 refine Vv (by kernel_rfl) (He (lb:=#[]) 209 #[.slice pw way.length cw] rfl (by kernel_rfl) (fun _ _=>by kernel_rfl) (by kernel_rfl) ((Dz pw way.length cw _).mono ?_))
 rintro e W2 ⟨bk2,rfl,hb2,hg2,kk2⟩
 refine⟨_,rfl,?_⟩
 replace hO:=hO.trans (Zf.of_below hb2)
 replace hB:=blB hB hBw hb2
 replace kW:=kW.below hb2
 replace k1:=k1.below hb2
 replace hF:=Zb hF hb2
 replace hway:=Zb hway hb2
 replace hE:=hE.below hb2
 have gb2:w.heap.size≤bk2:=Nat.le_trans hs2 hg2
 have nb2_bw:bk2≠bw:=by omega
 have nb2_b1:bk2≠b1:=by omega
 refine wpList_nil ?_
 refine wp_block ?_
 have hzk:=kk2.lt
 have hz3:=k1.lt
 have hst:=Zhe bk2 (fun b=>b<W2.heap.size∧b≠b1) (.slice pw way.length cw) way W2 (fun b h=>h.1) ⟨hzk,nb2_b1⟩ (by omega) (Zh hway) (fun _ b off n cap q=>by cases q;exact⟨(hway.lt b rfl).2,Xq hway k1 (by decide) b rfl⟩) (kk2.cell (i:=0) rfl)
 refine g_fr ⟨#[P0 bw,.iface ty ev,undef,P0 b1,undef,undef,P0 bw,P0 bw,.pointer (some ⟨bw,8,none⟩),.slice pw way.length cw,.func (.func 217) #[] #[P0 bk2],undef,undef,undef,undef,undef,undef,undef,undef,undef,undef,undef,undef,undef,undef,undef,undef,undef],[]⟩ (by kernel_rfl) ?_
 refine Zex (g:=.tmp 10) (gf:=217) (lb:=#[P0 bk2]) rfl (enters_of Tryz.func217 (by kernel_rfl) rfl) _ (fun b h=>h.1) hst (fun _=>rfl)
  (fun pre W=>(∃ v',Blk W b1 [v'] 30∧Vw W ((atW way pre bs).map some) (some ec) v')∧BelowBut W2 b1 W)
  (fun _ _ _=>False) ?own (fun _ _ _ _ _ h _ _=>h) ⟨⟨_,k1,hE⟩,(Below.refl _ _).but _⟩
  (fun x a' _=>a'={ tmps:=#[P0 bw,.iface ty ev,undef,P0 b1,undef,V0 (way[qOf x]?.getD 0),P0 bw,P0 bw,.pointer (some ⟨bw,8,none⟩),.slice pw way.length cw,.func (.func 217) #[] #[P0 bk2],V0 (qOf x:Int),V0 (way[qOf x]?.getD 0),undef,undef,undef,undef,undef,undef,undef,undef,undef,undef,undef,undef,undef,undef,undef],defers:=[] }) (fun _ _ _ _ _ _ h _ _=>h) ?assign ?body ?done (fun _ _ _ _ _ _ h _=>h.elim)
 case own=>exact OwnFrom.and (Own.from (fun s A B row hs hg hr=>by obtain⟨v',h1,h2⟩:=hs;exact⟨v',h1.turn hg hr,h2.turn hg hr⟩) _) (Zb6 (Nat.le_refl _))
 case assign =>
  rintro lr pre x W K hI hK
  unfold encB
  gi_wp2
  exact hK _ _ (KeepsFrom.refl _ _) (Keeps.refl _ _) hI rfl
 case body =>
  rintro lr pre x a' W hlr ⟨⟨v',m3,hv'⟩,hbb⟩ rfl hlt
  have mc:=m3.cell (i:=0) rfl
  gi_wp2_with (refine⟨trivial,?_⟩;gi_at_call 65;refine(CallsIn.inRound lr (callsIn_wide.2 (Qx _ _ _ _ _ hv'))).mono ?_;rintro e w2 ⟨r2,rfl,hb2,hE2⟩;obtain⟨t2,x2,rfl⟩:=hE2.iface;have m4:=m3.below hb2;have mg:=m4.frozen 0;have md:=m4.cell (i:=0) rfl)
  have hb2s:=hb2.size
  have u2:=Upd.setCell w2 b1 0 (.iface t2 x2)
  exact⟨((Ci hb2).trans (KeepsOthers.setCell _ _ _)).from _,Keeps.setCell (Keeps.of_below hb2 (fun b hb=>by have:=hbb.size;have:=hb.1;omega)) (fun hb=>hb.2 rfl) _,⟨_,m4.set 0 _,by rw[atW_snoc,List.map_cons,←Vt (c:=ec)];exact(hE2.upd u2 m4 (by decide))⟩,(hbb.next hb2).upd u2⟩
 case done =>
 rintro D xs W hD rfl ⟨⟨v',m3,hv'⟩,hbb⟩ hK0
 rw[atW_all] at hv'
 have hK:Dfr D W:=hK0;clear hK0
 refine g_nopan ?_
 refine g_fr ⟨#[P0 bw,.iface ty ev,undef,P0 b1,undef,undef,P0 bw,P0 bw,.pointer (some ⟨bw,8,none⟩),.slice pw way.length cw,.func (.func 217) #[] #[P0 bk2],undef,undef,undef,undef,undef,undef,undef,undef,undef,undef,undef,undef,undef,undef,undef,undef,undef],[{ target:=.collected D,args:=#[] }]⟩ (by kernel_rfl) ?_
 have hv1:=hv'.one
 obtain⟨ty',x',rfl⟩:=hv'.iface
 have hDB:w.heap.size≤D:=Nat.le_trans (Nat.le_trans (by have:=hz3;have:=g1;omega) (Nat.le_refl _)) hD
 replace kW:=hbb.blk kW (Ne.symm (Ne.symm d1_bw))
 replace kk2:=hbb.blk kk2 nb2_b1
 replace hF:=hbb.own3 hF r1_hF
 replace hway:=hbb.own2 hway k1 (by decide)
 have hB0:=hB
 replace hB:=hbb.below hB (Nat.le_trans hBw g1) (Nat.le_trans hBw hB0.size)
 replace hO:=Dfr.only_new hO hbb g1
 replace k1:=m3
 replace hO:=hO.trans (Zf.of_below (Za W))
 replace hB:=blB hB hBw (Za W)
 replace kW:=kW.below (Za W)
 replace k1:=k1.below (Za W)
 replace kk2:=kk2.below (Za W)
 replace hF:=Zb hF (Za W)
 replace hway:=Zb hway (Za W)
 replace hv':=hv'.below (Za W)
 replace hK:=hK.below (Za W)
 refine h_reg (Below B (W.drew)) 13 rfl #[false,false,false,false,false,false,false,false,false,false,false,false,false] rfl (by kernel_rfl) (Below.refl _ _) ?_
 intro hS3
 have hBd5:=hB
 have kd5_bw:=kW
 have kd5_b1:=k1
 have kd5_bk2:=kk2
 have hOd5:=hO
 refine Zdr [0,1,2,3,4] 8 rfl #[true,true,true,true,true,false,false,false,false,false,false,false,false] [(16,P0 bw),(17,P0 bw),(18,P0 bw),(19,P0 bw),(20,.pointer (some ⟨bw,4,none⟩))] (by kernel_rfl) (fun _ _ _ _ _ h=>h) (by kernel_rfl) hS3 ?_
 refine h_two 5 6 7 rfl (by kernel_rfl) rfl rfl (by kernel_rfl) (by kernel_rfl) ?_ ?_
 ·refine Qm ⟨bw,4,none⟩ (.slice pf nf cf) rfl (by kernel_rfl) (by kernel_rfl) (kW.cell (i:=4) rfl) ?_
  have hS6:Below B (W.drew) (W.drew):=hS3
  refine⟨hS6,?_⟩
  refine Wy 6 6 rfl (by kernel_rfl) rfl (by kernel_rfl) (Qm ⟨b1,0,none⟩ (.iface ty' x') rfl (by kernel_rfl) (by kernel_rfl) (k1.cell (i:=0) rfl) ?_)
  have hS7:Below B (W.drew) (W.drew):=hS6
  refine⟨hS7,?_⟩
  refine Wy 7 5 rfl (by kernel_rfl) rfl (by kernel_rfl) (Vu 30 [.iface ty' x'] rfl (by kernel_rfl) ?_)
  intro b8 W8 n8
  have d8_bw:=n8.ne kW
  have d8_b1:=n8.ne k1
  have d8_bk2:=n8.ne kk2
  have g8:=n8.ge0 hB
  have r8_hF:=Zw hF n8
  replace hO:=hO.trans (Zf.of_below n8.below)
  replace hB:=blB hB hBw n8.below
  replace kW:=kW.below n8.below
  replace k1:=k1.below n8.below
  replace kk2:=kk2.below n8.below
  replace hF:=Zb hF n8.below
  replace hway:=Zb hway n8.below
  replace hv':=hv'.below n8.below
  replace hK:=hK.below n8.below
  have k8:=n8.blk
  have hS9:Below B (W.drew) (W8):=blB hS7 (Nat.le_trans hBw hBd5.size) n8.below
  refine⟨hS9,?_⟩
  refine Wy 8 4 rfl (by kernel_rfl) rfl (by kernel_rfl) (Zu (e:=30) (n:=nf) (xs:=fs) (m:=1) (news:=[.iface ty' x']) (.nilIface) 1 16 (nf+1) (fs++[.iface ty' x']) rfl Tryz.underlying173 (by kernel_rfl) rfl (by decide) (by kernel_rfl) hF (by kernel_rfl) (k8.sl 1 1 (by decide) (by decide)) rfl (Zc0 hv1) (by unfold maxLen;omega) (by omega) (Nat.le_trans hBw hB.size) (by simp) (by simp) ?_)
  intro p10 c10 W10 o10 hg10 hb10
  replace hO:=hO.trans (Zf.of_grown hg10 hF (by decide))
  replace kW:=kW.grown hg10 hF (by decide)
  replace k1:=k1.grown3 hg10 r1_hF
  replace kk2:=kk2.grown hg10 hF (by decide)
  replace hway:=Zj hway hg10 hF (by decide)
  replace hv':=hv'.grown hg10 hF (by decide)
  replace hK:=hK.grown hg10 hF
  replace hB:=hB.trans hb10
  have hS11:Below B (W.drew) (W10):=hS9.trans hb10
  refine⟨hS11,?_⟩
  refine Zdr [9,10,11] 1 rfl #[true,true,true,true,true,true,true,true,true,true,true,true,false] [(25,P0 bw),(26,P0 bw),(27,.pointer (some ⟨bw,4,none⟩))] (by kernel_rfl) (fun _ _ _ _ _ h=>h) (by kernel_rfl) hS11 ?_
  refine Wy 12 0 rfl (by kernel_rfl) rfl (by kernel_rfl) (Ya (v:=.slice p10 (nf+1) c10) (b:=bw) (off:=4) rfl (by kernel_rfl) (by kernel_rfl) (by kernel_rfl) rfl kW (by first|decide|simp) ?_)
  intro W12 u12 k12
  change Blk _ _ [c0,c1,c2,c3,.slice p10 (nf+1) c10,c5,c6,c7,.slice pw way.length cw,c9] _ at k12
  replace hO:=hO.trans (Zf.of_upd u12 kW (by decide))
  replace hB:=u12.below hB hBb
  replace k1:=u12.blk k1 (Ne.symm d1_bw)
  replace kk2:=u12.blk kk2 nb2_bw
  replace hway:=u12.own2 hway kW (by decide)
  replace hv':=hv'.upd u12 kW (by decide)
  replace hK:=hK.upd u12 kW
  replace o10:=u12.own2 o10 kW (by decide)
  have hS13:Below B (W.drew) (W12):=u12.below hS11 hBb
  refine⟨hS13,?_⟩
  refine Ew _ (by kernel_rfl) ?_
  exact g_endM hK (.tuple #[]) (by kernel_rfl) (by kernel_rfl) ⟨_,_,_,_,_,rfl,(Upd.of_put _ _ _).below hB (Nat.le_trans hBw hDB),Zf.upd_new hO (Upd.of_put _ _ _) hDB,(Upd.of_put _ _ _).blk k12 (hK.ne k12),(Upd.of_put _ _ _).own3 o10 (hK.row o10),hv'.kept fun _ _ q=>(Upd.of_put _ _ _).blk q (hK.ne q)⟩
 ·refine Qm ⟨b1,0,none⟩ (.iface ty' x') rfl (by kernel_rfl) (by kernel_rfl) (k1.cell (i:=0) rfl) ?_
  have hS14:Below B (W.drew) (W.drew):=hS3
  refine⟨hS14,?_⟩
  refine h_two 5 7 6 rfl (by kernel_rfl) rfl rfl (by kernel_rfl) (by kernel_rfl) ?_ ?_
  ·refine Qm ⟨bw,4,none⟩ (.slice pf nf cf) rfl (by kernel_rfl) (by kernel_rfl) (kW.cell (i:=4) rfl) ?_
   have hS15:Below B (W.drew) (W.drew):=hS14
   refine⟨hS15,?_⟩
   refine Wy 7 5 rfl (by kernel_rfl) rfl (by kernel_rfl) (Vu 30 [.iface ty' x'] rfl (by kernel_rfl) ?_)
   intro b16 W16 n16
   have d16_bw:=n16.ne kW
   have d16_b1:=n16.ne k1
   have d16_bk2:=n16.ne kk2
   have g16:=n16.ge0 hB
   have r16_hF:=Zw hF n16
   replace hO:=hO.trans (Zf.of_below n16.below)
   replace hB:=blB hB hBw n16.below
   replace kW:=kW.below n16.below
   replace k1:=k1.below n16.below
   replace kk2:=kk2.below n16.below
   replace hF:=Zb hF n16.below
   replace hway:=Zb hway n16.below
   replace hv':=hv'.below n16.below
   replace hK:=hK.below n16.below
   have k16:=n16.blk
   have hS17:Below B (W.drew) (W16):=blB hS15 (Nat.le_trans hBw hBd5.size) n16.below
   refine⟨hS17,?_⟩
   refine Wy 8 4 rfl (by kernel_rfl) rfl (by kernel_rfl) (Zu (e:=30) (n:=nf) (xs:=fs) (m:=1) (news:=[.iface ty' x']) (.nilIface) 1 16 (nf+1) (fs++[.iface ty' x']) rfl Tryz.underlying173 (by kernel_rfl) rfl (by decide) (by kernel_rfl) hF (by kernel_rfl) (k16.sl 1 1 (by decide) (by decide)) rfl (Zc0 hv1) (by unfold maxLen;omega) (by omega) (Nat.le_trans hBw hB.size) (by simp) (by simp) ?_)
   intro p18 c18 W18 o18 hg18 hb18
   replace hO:=hO.trans (Zf.of_grown hg18 hF (by decide))
   replace kW:=kW.grown hg18 hF (by decide)
   replace k1:=k1.grown3 hg18 r1_hF
   replace kk2:=kk2.grown hg18 hF (by decide)
   replace hway:=Zj hway hg18 hF (by decide)
   replace hv':=hv'.grown hg18 hF (by decide)
   replace hK:=hK.grown hg18 hF
   replace hB:=hB.trans hb18
   have hS19:Below B (W.drew) (W18):=hS17.trans hb18
   refine⟨hS19,?_⟩
   refine Zdr [9,10,11] 1 rfl #[true,true,true,true,true,true,true,true,true,true,true,true,false] [(25,P0 bw),(26,P0 bw),(27,.pointer (some ⟨bw,4,none⟩))] (by kernel_rfl) (fun _ _ _ _ _ h=>h) (by kernel_rfl) hS19 ?_
   refine Wy 12 0 rfl (by kernel_rfl) rfl (by kernel_rfl) (Ya (v:=.slice p18 (nf+1) c18) (b:=bw) (off:=4) rfl (by kernel_rfl) (by kernel_rfl) (by kernel_rfl) rfl kW (by first|decide|simp) ?_)
   intro W20 u20 k20
   change Blk _ _ [c0,c1,c2,c3,.slice p18 (nf+1) c18,c5,c6,c7,.slice pw way.length cw,c9] _ at k20
   replace hO:=hO.trans (Zf.of_upd u20 kW (by decide))
   replace hB:=u20.below hB hBb
   replace k1:=u20.blk k1 (Ne.symm d1_bw)
   replace kk2:=u20.blk kk2 nb2_bw
   replace hway:=u20.own2 hway kW (by decide)
   replace hv':=hv'.upd u20 kW (by decide)
   replace hK:=hK.upd u20 kW
   replace o18:=u20.own2 o18 kW (by decide)
   have hS21:Below B (W.drew) (W20):=u20.below hS19 hBb
   refine⟨hS21,?_⟩
   refine Ew _ (by kernel_rfl) ?_
   exact g_endM hK (.tuple #[]) (by kernel_rfl) (by kernel_rfl) ⟨_,_,_,_,_,rfl,(Upd.of_put _ _ _).below hB (Nat.le_trans hBw hDB),Zf.upd_new hO (Upd.of_put _ _ _) hDB,(Upd.of_put _ _ _).blk k20 (hK.ne k20),(Upd.of_put _ _ _).own3 o18 (hK.row o18),hv'.kept fun _ _ q=>(Upd.of_put _ _ _).blk q (hK.ne q)⟩
  ·refine Vu 30 [.iface ty' x'] rfl (by kernel_rfl) ?_
   intro b22 W22 n22
   have d22_bw:=n22.ne kW
   have d22_b1:=n22.ne k1
   have d22_bk2:=n22.ne kk2
   have g22:=n22.ge0 hB
   have r22_hF:=Zw hF n22
   replace hO:=hO.trans (Zf.of_below n22.below)
   replace hB:=blB hB hBw n22.below
   replace kW:=kW.below n22.below
   replace k1:=k1.below n22.below
   replace kk2:=kk2.below n22.below
   replace hF:=Zb hF n22.below
   replace hway:=Zb hway n22.below
   replace hv':=hv'.below n22.below
   replace hK:=hK.below n22.below
   have k22:=n22.blk
   have hS23:Below B (W.drew) (W22):=blB hS14 (Nat.le_trans hBw hBd5.size) n22.below
   refine⟨hS23,?_⟩
   refine Wy 5 5 rfl (by kernel_rfl) rfl (by kernel_rfl) (Qm ⟨bw,4,none⟩ (.slice pf nf cf) rfl (by kernel_rfl) (by kernel_rfl) (kW.cell (i:=4) rfl) ?_)
   have hS24:Below B (W.drew) (W22):=hS23
   refine⟨hS24,?_⟩
   refine Wy 8 4 rfl (by kernel_rfl) rfl (by kernel_rfl) (Zu (e:=30) (n:=nf) (xs:=fs) (m:=1) (news:=[.iface ty' x']) (.nilIface) 1 16 (nf+1) (fs++[.iface ty' x']) rfl Tryz.underlying173 (by kernel_rfl) rfl (by decide) (by kernel_rfl) hF (by kernel_rfl) (k22.sl 1 1 (by decide) (by decide)) rfl (Zc0 hv1) (by unfold maxLen;omega) (by omega) (Nat.le_trans hBw hB.size) (by simp) (by simp) ?_)
   intro p25 c25 W25 o25 hg25 hb25
   replace hO:=hO.trans (Zf.of_grown hg25 hF (by decide))
   replace kW:=kW.grown hg25 hF (by decide)
   replace k1:=k1.grown3 hg25 r1_hF
   replace kk2:=kk2.grown hg25 hF (by decide)
   replace hway:=Zj hway hg25 hF (by decide)
   replace hv':=hv'.grown hg25 hF (by decide)
   replace hK:=hK.grown hg25 hF
   replace hB:=hB.trans hb25
   have hS26:Below B (W.drew) (W25):=hS24.trans hb25
   refine⟨hS26,?_⟩
   refine Zdr [9,10,11] 1 rfl #[true,true,true,true,true,true,true,true,true,true,true,true,false] [(25,P0 bw),(26,P0 bw),(27,.pointer (some ⟨bw,4,none⟩))] (by kernel_rfl) (fun _ _ _ _ _ h=>h) (by kernel_rfl) hS26 ?_
   refine Wy 12 0 rfl (by kernel_rfl) rfl (by kernel_rfl) (Ya (v:=.slice p25 (nf+1) c25) (b:=bw) (off:=4) rfl (by kernel_rfl) (by kernel_rfl) (by kernel_rfl) rfl kW (by first|decide|simp) ?_)
   intro W27 u27 k27
   change Blk _ _ [c0,c1,c2,c3,.slice p25 (nf+1) c25,c5,c6,c7,.slice pw way.length cw,c9] _ at k27
   replace hO:=hO.trans (Zf.of_upd u27 kW (by decide))
   replace hB:=u27.below hB hBb
   replace k1:=u27.blk k1 (Ne.symm d1_bw)
   replace kk2:=u27.blk kk2 nb2_bw
   replace hway:=u27.own2 hway kW (by decide)
   replace hv':=hv'.upd u27 kW (by decide)
   replace hK:=hK.upd u27 kW
   replace o25:=u27.own2 o25 kW (by decide)
   have hS28:Below B (W.drew) (W27):=u27.below hS26 hBb
   refine⟨hS28,?_⟩
   refine Ew _ (by kernel_rfl) ?_
   exact g_endM hK (.tuple #[]) (by kernel_rfl) (by kernel_rfl) ⟨_,_,_,_,_,rfl,(Upd.of_put _ _ _).below hB (Nat.le_trans hBw hDB),Zf.upd_new hO (Upd.of_put _ _ _) hDB,(Upd.of_put _ _ _).blk k27 (hK.ne k27),(Upd.of_put _ _ _).own3 o25 (hK.row o25),hv'.kept fun _ _ q=>(Upd.of_put _ _ _).blk q (hK.ne q)⟩
end Go.Proofs.YtgphgaehfdfjjaaGreatDoor
namespace Go.Proofs.YtgphgaehfdfjjaaGreatDoor
set_option maxHeartbeats 8000000
set_option maxRecDepth 100000
open Go.RowKit Go.Extern.Stop Go.Stop Go.Extern
set_option linter.unusedVariables false
attribute [local irreducible] wpList wpAnyH Code.wp Oper.wp Go
def Vf(l:List Int)(x:Int):Bool:=l.any fun y=>decide (x=y)
theorem Zaz{l:List Int}{x:Int}{i:Nat}(hi:i<l.length)(h:x=l.getD i 0):Vf l x=true:=by
 unfold Vf
 rw[List.any_eq_true]
 exact⟨l[i],List.getElem_mem _,by rw[decide_eq_true_iff,h];simp[hi]⟩
theorem Ty{l:List Int}{x:Int}(h:∀ j,j<l.length→x≠l.getD j 0):Vf l x=false:=by
 unfold Vf
 rw[List.any_eq_false]
 intro y hy
 obtain⟨j,hj,rfl⟩:=List.getElem_of_mem hy
 have:=h j hj
 simpa [hj] using this
theorem indexI(a:O0)(c:Nat)(l:List Int)(x:Int)(w:World)(h:Ints w (.slice a l.length c) l)(hln:l.length≤1000000) :
 C0 218 #[.slice a l.length c,V0 x] w (fun e w'=>(Vf l x=false∧e=.returned (V0 (-1))∧B0 w w')∨(Vf l x=true∧∃ i:Nat,e=.returned (V0 (i:Int))∧B0 w w')):=by
 refine zin 19 Tryz.func218 ?_
 have hB:=Below.refl w.heap.size w
 refine zl 14 19 (fun zm a3 V=>∃ (i:Nat),a3=[(0,.slice a l.length c),(1,V0 x),(7,V0 (l.length:Int)),(8,V0 (i:Int))]∧zm=l.length-((i:Int)).toNat∧B0 w V∧i≤l.length∧(∀ j,j<i→x≠l.getD j 0)) ⟨0,rfl,rfl,hB,Nat.zero_le _,?_⟩ ?_
 ·exact fun j hj=>absurd hj (by omega)
 rintro _ _ W1 ⟨i,rfl,rfl,a0,hi,hz⟩ J1 a1 r1
 refine xid 6 ((i:Int)<(l.length:Int)) (fun a4=>?_) (fun a4=>?_)
 ·refine xx 15 _ l.length i 1 (Ints.elem h (k:=i) (by omega)).1 ?_
  refine xl 0 ((Ints.elem (h.below a0) (k:=i) (by omega)).2) ?_
  refine xie 3 x (l.getD i 0) (fun a2=>?_) (fun a2=>?_)
  ·exact xe 12 (V0 (i:Int)) (.inr ⟨Zaz (i:=i) (by omega) (by omega),_,rfl,a0⟩)
  refine xwm 4 ((i:Int)+1) (↑(i+1):Int) ?_
  exact ze 2 (a1 _ _ _ ⟨i+1,rfl,rfl,a0,by omega,fun j hj=>(Nat.lt_or_ge j i).elim (hz j) (fun q=>by obtain rfl:j=i:=(by omega);omega)⟩ (by omega))
 exact xe 11 (V0 (-1)) (.inl ⟨Ty (fun j hj=>hz j (by omega)),rfl,a0⟩)
theorem containsI(a:O0)(c:Nat)(l:List Int)(x:Int)(w:World)(h:Ints w (.slice a l.length c) l)(hln:l.length≤1000000) :
 C0 210 #[.slice a l.length c,V0 x] w (Ret (.bool (Vf l x)) w):=by
 refine zin 9 Tryz.func210 ?_
 refine xc 9 (args:=#[.slice a l.length c,V0 x]) (indexI a c l x _ (h.below (B3 w)) hln) ?_
 rintro e W1 a1
 rcases a1 with ⟨hz,rfl,a0⟩|⟨hz,i0,rfl,a0⟩
 ·refine xe 5 (.bool false) ?_
  rw[hz];exact⟨rfl,a0⟩
 refine xe 5 (.bool (decide ((i0:Int)≥(0:Int)))) ?_
 rw[hz,show decide ((i0:Int)≥(0:Int))=true from decide_eq_true (by omega)];exact⟨rfl,a0⟩
end Go.Proofs.YtgphgaehfdfjjaaGreatDoor
namespace Go.Proofs.YtgphgaehfdfjjaaGreatDoor
set_option maxHeartbeats 8000000
set_option maxRecDepth 100000
open Go.RowKit
set_option linter.unusedVariables false
attribute [local go_sem] Oper.semAt_some
def Vj(hi:Int)(l:List Int):List (Int×Int):=(List.range l.length).map (Xb hi l)
def Mc(lo hi:Int)(l:List Int)(i:Int):(Int×Int)×Int :=
 if Yt lo hi l=0 then if 0≤i∧i<l.length then(Xb hi l i.toNat,0) else((0,0),3) else((0,0),Yt lo hi l)
theorem child_bad{lo hi i:Int}{l:List Int}(h:Yt lo hi l≠0):Mc lo hi l i=((0,0),Yt lo hi l):=by simp[Mc,h]
theorem child_out{lo hi i:Int}{l:List Int}(h:Yt lo hi l=0)(hi':¬ (0≤i∧i<l.length)):Mc lo hi l i=((0,0),3):=by simp only[Mc,h,if_true];rw[if_neg hi']
theorem Dd{lo hi:Int}{l:List Int}{i:Nat}(h:Yt lo hi l=0)(hi':i<l.length):Mc lo hi l i=(Xb hi l i,0):=by
 simp only[Mc,h,if_true];rw[if_pos ⟨by omega,by omega⟩];simp
def Hz(hi:Int)(l:List Int)(cs:List Value)(x:Fin l.length):List Value :=
 (cs.set (qOf x*2) (V0 (Xb hi l (qOf x)).1)).set (qOf x*2+1) (V0 (Xb hi l (qOf x)).2)
def outC(hi:Int)(l:List Int)(pre:List (Fin l.length)):List Value:=pre.foldl (Hz hi l) (Gi [V0 0,V0 0] l.length)
theorem outC_snoc(hi:Int)(l:List Int)(pre:List (Fin l.length))(x:Fin l.length):outC hi l (pre++[x])=Hz hi l (outC hi l pre) x:=by simp[outC]
theorem Nh(hi:Int)(l:List Int):∀ (pre:List (Fin l.length)) (cs:List Value),(pre.foldl (Hz hi l) cs).length=cs.length
 | [],_=>rfl
 | x::pre,cs=>by rw[List.foldl_cons,Nh hi l pre];simp[Hz]
theorem Ez(hi:Int)(l:List Int)(pre:List (Fin l.length)):(outC hi l pre).length=l.length*2:=by
 rw[outC,Nh,Ca];rfl
theorem Rb(hi:Int)(l:List Int)(q:Nat)(hq:q<l.length):∀ (pre:List (Fin l.length)) (cs:List Value),cs.length=l.length*2 →
  ((∃ x∈pre,qOf x=q)∨(cs[q*2]? = some (V0 (Xb hi l q).1)∧cs[q*2+1]? = some (V0 (Xb hi l q).2))) →
  (pre.foldl (Hz hi l) cs)[q*2]? = some (V0 (Xb hi l q).1)∧(pre.foldl (Hz hi l) cs)[q*2+1]? = some (V0 (Xb hi l q).2)
 | [],cs,hl,h=>by
  rcases h with ⟨x,hx,_⟩|h
  ·cases hx
  ·exact h
 | x::pre,cs,hl,h=>by
  rw[List.foldl_cons]
  refine Rb hi l q hq pre _ (by simp[Hz,hl]) ?_
  by_cases hx:qOf x=q
  ·subst hx
   refine .inr ⟨?_,?_⟩
   ·simp only[Hz];rw[List.getElem?_set_ne (by omega),List.getElem?_set_self (by omega)]
   ·simp only[Hz];rw[List.getElem?_set_self (by simp;omega)]
  ·rcases h with ⟨y,hy,a0⟩|h
   ·rcases List.mem_cons.1 hy with rfl|hy
    ·exact absurd a0 hx
    ·exact .inl ⟨y,hy,a0⟩
   ·refine .inr ⟨?_,?_⟩
    ·simp only[Hz];rw[List.getElem?_set_ne (by omega),List.getElem?_set_ne (by omega)];exact h.1
    ·simp only[Hz];rw[List.getElem?_set_ne (by omega),List.getElem?_set_ne (by omega)];exact h.2
theorem outC_all(hi:Int)(l:List Int):outC hi l (List.finRange l.length)=Wn (Vj hi l):=by
 have hs:(Vj hi l).length=l.length:=by simp[Vj]
 have hg:∀ q,q<l.length→(Vj hi l)[q]? = some (Xb hi l q):=fun q hq=>by simp[Vj,hq]
 apply List.ext_getElem?
 intro j
 by_cases hj:j<l.length*2
 ·have hq:j/2<l.length:=by omega
  have h:=Rb hi l (j/2) hq (List.finRange l.length) (Gi [V0 0,V0 0] l.length) (by rw[Ca];rfl)
   (.inl ⟨⟨l.length-1-j/2,by omega⟩,by simp,by simp only[qOf];omega⟩)
  by_cases h2:j%2=0
  ·have e:j=j/2*2:=by omega
   rw[e,Lj,hg _ hq];exact h.1
  ·have e:j=j/2*2+1:=by omega
   rw[e,Ou,hg _ hq];exact h.2
 ·rw[List.getElem?_eq_none (by rw[Ez];omega),List.getElem?_eq_none (by rw[Cn,hs];omega)]
def Zam(lo hi:Int)(l:List Int):List (Int×Int):=if Yt lo hi l=0 then Vj hi l else []
theorem Tryz.info304:(Tryz.prog.info? 304).map (fun i=>(i.zero,i.size,i.bytes))=some (some (.agg #[V0 0,V0 0]),2,16):=by kernel_rfl
theorem Zbu(lo hi:Int)(v:Value)(l:List Int)(w:World)(hlen:l.length≤1000000)(hl:Ints w v l) :
 C0 199 #[spanV lo hi,v] w (Vy (fun w' r=>Pairs w' r (Zam lo hi l)∧(Yt lo hi l=0→∃ g,r=.slice (S1 g) l.length l.length∧w.heap.size≤g∧Blk w' g (Wn (Vj hi l)) 304)) w):=by
 obtain⟨i0,a5,b4,a6,a7⟩:=info_parts Tryz.info304
 have c0:=fun w=>Ta (P:=Tryz.prog) (t:=334) (e:=304) (i:=i0) [V0 0,V0 0] Tryz.underlying334 a5 b4 rfl a6 a7 l.length (by omega) (by omega) w
 clear a5 b4 a6 a7
 unfold spanV
 refine Gp Tryz.func199 rfl ?_
 simp only[Tryz.ntmps199,List.size_toArray,List.length_cons,List.length_nil,Nat.reduceAdd,Nat.reduceSub,Array.replicate_succ,Array.replicate_zero,List.push_toArray,List.append_toArray,List.nil_append,List.cons_append]
 go_wp2_with fail
 refine(Fe lo hi v l _ (hl.below (blx _ _))).mono ?_
 rintro e w' ⟨rfl,hb⟩
 have k0:=Blk.below (Blk.new w [V0 lo,V0 hi] 304) hb
 have hB:B0 w w':=bln (blx _ _) hb
 have b2:=hl.below hB
 have HB:l.length≠0→∀ {b a9 n a8:Nat},v=.slice (some ⟨b,a9,none⟩) n a8→b<w.heap.size:=fun h _ _ _ _ e=>hl.blk h e
 clear hb hl
 obtain⟨a,c,rfl⟩:=b2.slice
 have z0:=k0.lt
 have c7:=k0.cell (i:=0) rfl
 have c4:=k0.cell (i:=1) rfl
 by_cases hf:Yt lo hi l=0
 case neg =>
  have c3:(Yt lo hi l != 0)=true:=by simpa using hf
  have HF:=Lib.hid hf;clear hf
  go_wp2_with fail
  refine⟨_,results_tmp rfl _ _ _,?_⟩
  have e:Zam lo hi l=[]:=by simp[Zam,HF.out]
  rw[e]
  exact⟨_,rfl,hB,.inl ⟨_,_,rfl,rfl,rfl⟩,fun q=>absurd q HF.out⟩
 have c3:(Yt lo hi l != 0)=false:=by simpa using hf
 have HF:=Lib.hid hf;clear hf
 go_wp2_with fail
 refine(span_each lo hi a l.length c _).mono ?_
 rintro e W1 ⟨rfl,a0⟩
 have hz:w'.heap.size+4=W1.heap.size:=by rw[a0];simp
 have b1:Below w'.heap.size w' W1:=by rw[a0];exact bln (bln (bln (blx _ _) (blx _ _)) (blx _ _)) (blx _ _)
 have s1:W1.cell? ⟨w'.heap.size+1+1,1,none⟩=some (V0 hi):=by rw[a0];simp[go_sem]
 have s2:W1.cell? ⟨w'.heap.size+1+1+1,0,none⟩=some (.slice a l.length c):=by rw[a0];simp[go_sem]
 have m1:Blk W1 w'.heap.size (Gi [V0 0,V0 0] l.length) 304:=by rw[a0];exact(((Blk.new w' _ _).alloc _).alloc _).alloc _
 have m2:Blk W1 (w'.heap.size+1) [.slice (some ⟨w'.heap.size,0,none⟩) l.length l.length] 334:=by
  rw[a0];have:=((Blk.new (w'.alloc (.cells (Gi [V0 0,V0 0] l.length).toArray 304)) [.slice (some ⟨w'.heap.size,0,none⟩) l.length l.length] 334).alloc (.cells #[V0 lo,V0 hi] 304)).alloc (.cells #[.slice a l.length c] 28)
  simpa using this
 have a3:=bln hB b1
 have c2:=b2.below b1
 have b6:=Zfq (w'.heap.size+1+1) (w'.heap.size+1+1+1) (fun b=>b<W1.heap.size∧b≠w'.heap.size) hi (.slice a l.length c) l W1 (fun b h=>h.1) (by omega) (by omega) (by omega) c2 ?hvp s1 s2
 case hvp=>exact fun h b a9 n' a8 e=>by have:=HB h e;have:=a3.size;exact⟨by omega,by omega⟩
 clear a0 s1 s2 c0
 go_wp2_with fail
 refine Zex (g:=.tmp 17) (gf:=221) (lb:=#[.pointer (some ⟨w'.heap.size+1+1,0,none⟩),.pointer (some ⟨w'.heap.size+1+1+1,0,none⟩)]) rfl (enters_of Tryz.func221 (by kernel_rfl) rfl) _ (fun b h=>h.1) b6 (fun _=>rfl)
  (fun a1 W=>(Blk W w'.heap.size (outC hi l a1) 304∧Blk W (w'.heap.size+1) [.slice (some ⟨w'.heap.size,0,none⟩) l.length l.length] 334)∧(B0 w W∧W1.heap.size≤W.heap.size))
  (fun _ _ _=>False) ?own (fun _ _ _ _ _ h _ _=>h) ⟨⟨m1,m2⟩,a3,Nat.le_refl _⟩
  (fun x a' W=>∃ Bx,W1.heap.size≤Bx∧Blk W Bx [V0 (Xb hi l (qOf x)).1,V0 (Xb hi l (qOf x)).2] 304 ∧
   a'={ tmps:=#[.agg #[V0 lo,V0 hi],.slice a l.length c,.pointer (some ⟨w.heap.size,0,none⟩),undef,S0,.pointer (some ⟨w'.heap.size+1,0,none⟩),V0 (qOf x:Int),P0 Bx,.agg #[V0 lo,V0 hi],.slice a l.length c,V0 (Yt lo hi l),.bool false,.slice a l.length c,V0 l.length,.slice (some ⟨w'.heap.size,0,none⟩) l.length l.length,.agg #[V0 lo,V0 hi],.slice a l.length c,.func (.func 221) #[] #[.pointer (some ⟨w'.heap.size+1+1,0,none⟩),.pointer (some ⟨w'.heap.size+1+1+1,0,none⟩)],V0 (qOf x:Int),spanV (Xb hi l (qOf x)).1 (Xb hi l (qOf x)).2,undef,undef,undef,undef,undef],defers:=[] }) ?ownax ?assign ?body ?done ?stop
 case own=>exact OwnFrom.and (Own.from (fun s A B c1 hs hg hr=>⟨hs.1.turn hg hr,hs.2.turn hg hr⟩) _) (OwnFrom.and (ownFrom_below (Nat.le_refl _) a3.size) Zan)
 case ownax=>exact fun x a'=>Own.from (fun s A B c1 hs hg hr=>by obtain⟨Bx,h1,h2,h3⟩:=hs;exact⟨Bx,h1,h2.turn hg hr,h3⟩) _
 case assign =>
  rintro lr a1 x W K ⟨⟨h1,h2⟩,a2,a4⟩ hK
  unfold encE
  gi_wp2
  exact hK _ _ ((KeepsOthers.alloc _ _).from _) (Keeps.of_below (blx W _) (fun b hb=>by have:=hb.1;omega)) ⟨⟨h1.alloc _,h2.alloc _⟩,bln a2 (blx _ _),by simp;omega⟩ ⟨W.heap.size,a4,Blk.new W _ _,rfl⟩
 case body =>
  rintro lr a1 x a' W c5 ⟨⟨h1,h2⟩,a2,a4⟩ ⟨Bx,d0,hx,rfl⟩ b5
  have d1:=hx.cell (i:=0) rfl
  have d3:=hx.cell (i:=1) rfl
  have ci:=h2.cell (i:=0) rfl
  have hq:qOf x<l.length:=by have:=x.2;simp only[qOf];omega
  have b7:=Ez hi l a1
  obtain⟨u0,b3⟩:∃ u0,(outC hi l a1)[qOf x*2]? = some u0:=⟨_,List.getElem?_eq_getElem (by omega)⟩
  obtain⟨u1,b0⟩:∃ u1,(outC hi l a1)[qOf x*2+1]? = some u1:=⟨_,List.getElem?_eq_getElem (by omega)⟩
  have d2:=h1.cell b3
  have c6:=h1.cell b0
  have c8:=h1.frozen (qOf x*2)
  have c9:=h1.frozen (qOf x*2+1)
  clear b3 b0 b7
  gi_wp2
  refine⟨((KeepsOthers.setCell _ _ _).trans (KeepsOthers.setCell _ _ _)).from _,((Keeps.refl _ W).setCell (by simp) _).setCell (by simp) _,⟨by rw[outC_snoc];exact(h1.set _ _).set _ _,(h2.other (by simp) _).other (by simp) _⟩,(a2.setCell (Nat.le_of_lt z0) _).setCell (Nat.le_of_lt z0) _,by simpa [World.setCell] using a4⟩
 case done =>
  rintro D xs W hD rfl ⟨⟨h1,h2⟩,a2,a4⟩ hK
  have ci:=h2.cell (i:=0) rfl
  have b5:D<W.heap.size:=(Array.getElem?_eq_some_iff.1 hK).1
  rw[outC_all] at h1
  have hs:(Vj hi l).length=l.length:=by simp[Vj]
  have hR:Pairs (W.putObj D (.deferred none)) (.slice (some ⟨w'.heap.size,0,none⟩) l.length l.length) (Vj hi l):=by
   have b9:=h1.put hK rfl (.deferred none)
   exact .inr ⟨_,0,l.length,by rw[hs],by omega,by unfold maxLen;omega,fun j x hj=>by rw[Nat.zero_add];exact b9.cell hj⟩
  have HR:=Lib.hid hR
  have b8:=Lib.hid (h1.put hK rfl (.deferred none))
  clear hR h1 hs
  go_wp2_with fail
  refine⟨by simp,.inl ⟨_,_,rfl,run_takeDeferred hK,_,results_tmp rfl _ _ _,?_⟩⟩
  have e:Zam lo hi l=Vj hi l:=by simp[Zam,HF.out]
  rw[e]
  exact⟨_,rfl,below_put a2 (by have:=a3.size;omega) b5 _,HR.out,fun _=>⟨_,rfl,hB.size,b8.out⟩⟩
 case stop=>exact fun _ _ _ _ _ _ h _=>h.elim
end Go.Proofs.YtgphgaehfdfjjaaGreatDoor
