/- The document's answer for layer 1, read: width, room, Get, Unpack, Zero. -/
import Derived.Test.YtlmaglneeaecdaaGreatDoorRows
import Derived.RangeFuncNested
import Derived.RangeFuncBound
import Derived.RangeFuncCalls
import Derived.RangeFuncLeaves
import Derived.Shelf.Abstract
import Derived.Shelf.RegionOpen
import Derived.OwnWalkIn
import Derived.TacticsInMore
import Derived.LoopNIn
import Derived.LoopIn
import Derived.Test.YtlmaglneeaecdaaGreatDoorMg2
namespace Go.Proofs.YtlmaglneeaecdaaGreatDoor
set_option maxHeartbeats 8000000
set_option maxRecDepth 100000
open Go.RowKit Go.Extern.Stop Go.Stop Go.Extern
set_option linter.unusedVariables false
attribute [local irreducible] wpList wpAnyH Code.wp Oper.wp Go
theorem Zgw(l:List UInt8):∀ (j k r:Nat),Zj l (k+j) r≤Zj l k (j+r)
 | 0,k,r=>by simp
 | j+1,k,r=>by
  have ih:=Zgw l j (k+1) r
  rw[show j+1+r=(j+r)+1 by omega,Zj,show k+(j+1)=k+1+j by omega]
  omega
theorem raw8(l:List UInt8)(k:Nat):Zj l k 8<9223372036854775808↔(l.getD (k+7) 0).toNat<128:=by
 have h:∀ i,(l.getD i 0).toNat<256:=fun i=>(l.getD i 0).toNat_lt
 have h0:=h k
 have h1:=h (k+1)
 have h2:=h (k+2)
 have h3:=h (k+3)
 have h4:=h (k+4)
 have h5:=h (k+5)
 have h6:=h (k+6)
 have h7:=h (k+7)
 simp only[Zj,Nat.add_assoc,Nat.reduceAdd]
 omega
theorem Zak{l:List UInt8}{k w j r:Nat}(h:Zj l k w<9223372036854775808)(hj:0<j)(e:j+r=w):(l.getD (k+(j-1)) 0).toNat+256*Zj l (k+j) r<9223372036854775808∧Zj l (k+(j-1)) (r+1)=Zj l (k+j) r*256+(l.getD (k+(j-1)) 0).toNat:=by
 have h1:=Zgw l (j-1) k (r+1)
 rw[show j-1+(r+1)=w by omega,Zj,show k+(j-1)+1=k+j by omega] at h1
 refine⟨by omega,?_⟩
 rw[Zj,show k+(j-1)+1=k+j by omega];omega
theorem Zew(w:World) :
 Calls Tryz.prog 215 #[.int .i64 1] w (Ret (.bool true) w):=by
 refine zin 17 Tryz.func215 ?_
 exact xe 25 (.bool true) ⟨rfl,(Below.refl w.heap.size _)⟩
theorem Zfg(w:World) :
 Calls Tryz.prog 215 #[.int .i64 2] w (Ret (.bool true) w):=by
 refine zin 17 Tryz.func215 ?_
 exact xe 25 (.bool true) ⟨rfl,(Below.refl w.heap.size _)⟩
theorem Zfh(w:World) :
 Calls Tryz.prog 215 #[.int .i64 4] w (Ret (.bool true) w):=by
 refine zin 17 Tryz.func215 ?_
 exact xe 25 (.bool true) ⟨rfl,(Below.refl w.heap.size _)⟩
theorem Zeq(w:World) :
 Calls Tryz.prog 215 #[.int .i64 8] w (Ret (.bool true) w):=by
 refine zin 17 Tryz.func215 ?_
 exact xe 25 (.bool true) ⟨rfl,(Below.refl w.heap.size _)⟩
theorem ref_width(k:Nat)(hw:k=1∨k=2∨k=4∨k=8)(w:World):Calls Tryz.prog 215 #[.int .i64 (↑k:Int)] w (Ret (.bool true) w):=by
 rcases hw with rfl|rfl|rfl|rfl
 ·exact Zew w
 ·exact Zfg w
 ·exact Zfh w
 ·exact Zeq w
theorem Zdg(a:Option Addr)(m c k w:Nat)(W:World)(hw:w=1∨w=2∨w=4∨w=8)(hk:k+w≤m)(hm:m≤100000000) :
 Calls Tryz.prog 169 #[.slice a m c,.int .i64 (↑k:Int),.int .i64 (↑w:Int)] W (Ret (.int .i64 0) W):=by
 refine zin 26 Tryz.func169 ?_
 refine xr 9 (args:=#[.int .i64 (↑w:Int)]) (ref_width w hw _) fun W1 hb1=>?_
 refine xgk 12 [11,12] (show(decide ((↑k:Int)<(0:Int)):Bool)=false from decide_eq_false (by omega)) ?_
 refine xgk 6 [16,17,18] (show(decide ((↑k:Int)>(↑m:Int)):Bool)=false from decide_eq_false (by omega)) ?_
 refine xwm 3 ((↑m:Int)-(↑k:Int)) (↑(m-k):Int) ?_
 refine xk 5 (show(decide ((↑(m-k):Int)<(↑w:Int)):Bool)=false from decide_eq_false (by omega)) ?_
 exact xe 8 (.int .i64 0) ⟨rfl,hb1⟩
theorem Px(a:Option Addr)(c k w:Nat)(l:List UInt8)(W:World)(hw:w=1∨w=2∨w=4∨w=8)(hk:k+w≤l.length)(hl:l.length≤100000000)(h:Bys W (.slice a l.length c) l)(hq:¬ Zj l k w<9223372036854775808) :
 Calls Tryz.prog 118 #[.slice a l.length c,.int .i64 (↑k:Int),.int .i64 (↑w:Int)] W (Ret (.tuple #[.int .i64 0,.int .i64 2]) W):=by
 have hw8:w=8:=by
  rcases hw with h1|h1|h1|h1
  ·have:=Qm l k w (by omega);omega
  ·have:=Qm l k w (by omega);omega
  ·have:=Qm l k w (by omega);omega
  ·exact h1
 have hb7:=(not_congr (raw8 l k)).1 (by rw[←hw8];exact hq)
 refine zin 45 Tryz.func118 ?_
 refine xr 11 (args:=#[.slice a l.length c,.int .i64 (↑k:Int),.int .i64 (↑w:Int)]) (Zdg a l.length c k w _ hw hk hl) fun W1 hb1=>?_
 refine xgk 19 [19,20] (show(((↑w:Int)==(8:Int)):Bool)=true from by rw[hw8];rfl) ?_
 refine xwm 2 ((↑k:Int)+7) (↑(k+7):Int) ?_
 refine xx 0 _ l.length (k+7) 1 (Bys.elem h (k:=(k+7)) (by omega)).1 ?_
 refine xl 0 ((Bys.elem (h.below hb1) (k:=(k+7)) (by omega)).2) ?_
 refine xk 4 (show(decide ((↑(l.getD (k+7) 0).toNat:Int)≥(128:Int)):Bool)=true from decide_eq_true (by omega)) ?_
 exact xe 8 (.tuple #[.int .i64 0,.int .i64 2]) ⟨rfl,hb1⟩
theorem Wx(a:Option Addr)(c k w:Nat)(l:List UInt8)(W:World)(hw:w=1∨w=2∨w=4∨w=8)(hk:k+w≤l.length)(hl:l.length≤100000000)(h:Bys W (.slice a l.length c) l)(hq:Zj l k w<9223372036854775808) :
 Calls Tryz.prog 118 #[.slice a l.length c,.int .i64 (↑k:Int),.int .i64 (↑w:Int)] W (Ret (.tuple #[.int .i64 (Zj l k w:Int),.int .i64 0]) W):=by
 refine zin 45 Tryz.func118 ?_
 refine xr 11 (args:=#[.slice a l.length c,.int .i64 (↑k:Int),.int .i64 (↑w:Int)]) (Zdg a l.length c k w _ hw hk hl) fun W1 hb1=>?_
 refine xg 19 [19,20] ((↑w:Int)==(8:Int)) (fun hc2=>?_) (fun hc2=>?_)
 ·have hc2:=eq_of_beq hc2
  refine xwm 2 ((↑k:Int)+7) (↑(k+7):Int) ?_
  refine xx 0 _ l.length (k+7) 1 (Bys.elem h (k:=(k+7)) (by omega)).1 ?_
  refine xl 0 ((Bys.elem (h.below hb1) (k:=(k+7)) (by omega)).2) ?_
  refine xk 4 (show(decide ((↑(l.getD (k+7) 0).toNat:Int)≥(128:Int)):Bool)=false from decide_eq_false (by have:=(raw8 l k).1 (by rw[←show w=8 by omega];exact hq);omega)) ?_
  refine xwm 11 ((↑w:Int)-1) (↑(w-1):Int) ?_
  refine xv1 4 10 (show(.int .i64 (↑(w-1):Int):Value)=.int .i64 ((↑w:Int)-1) from congrArg (Value.int .i64) (by omega)) ?_
  refine zl 0 45 (fun zm zkv V=>∃ (j r:Nat),zkv=[(0,.slice a l.length c),(1,.int .i64 (↑k:Int)),(6,.int .i64 0),(7,.int .i64 0),(9,.int .i64 (↑(Zj l (k+j) r):Int)),(10,.int .i64 ((↑j:Int)-1))]∧zm=(((↑j:Int)-1)+1).toNat∧Below W.heap.size W V∧j+r=w) ⟨w,0,rfl,rfl,hb1,by omega⟩ ?_
  rintro _ _ W3 ⟨j,r,rfl,rfl,hB_3,hjr⟩ J3 hJ3 r3
  have hrl:0<j→_:=fun hj=>Zak hq hj hjr
  refine xid 7 ((↑j:Int)-1≥(0:Int)) (fun hc4=>?_) (fun hc4=>?_)
  ·refine xwm 6 ((↑(Zj l (k+j) r):Int)*256) (↑((Zj l (k+j) r)*256):Int) ?_
   refine xq 3 (congrArg (Value.int .i64) (show IntKind.i64.wrap ((↑k:Int)+((↑j:Int)-1))=(↑(k+(j-1)):Int) from(show IntKind.i64.wrap ((↑k:Int)+((↑j:Int)-1))=((↑k:Int)+((↑j:Int)-1)) from by first|exact IntWalk.i64_in _ (by omega)|(simp only[IntKind.wrap];omega)).trans (by omega))) ?_
   refine xx 0 _ l.length (k+(j-1)) 1 (Bys.elem h (k:=(k+(j-1))) (by omega)).1 ?_
   refine xl 0 ((Bys.elem (h.below hB_3) (k:=(k+(j-1))) (by omega)).2) ?_
   refine xq 0 (congrArg (Value.int .i64) (show(IntKind.i64.wrap (↑(l.getD (k+(j-1)) 0).toNat:Int):Int)=(↑(l.getD (k+(j-1)) 0).toNat:Int) from Hi (by have:=(l.getD (k+(j-1)) 0).toNat_lt;omega))) ?_
   refine xw 0 ((↑((Zj l (k+j) r)*256):Int)+(↑(l.getD (k+(j-1)) 0).toNat:Int)) ?_
   refine xq 6 (congrArg (Value.int .i64) (show IntKind.i64.wrap ((↑j:Int)-1-1)=((↑(j-1:Nat):Int)-1) from(show IntKind.i64.wrap ((↑j:Int)-1-1)=((↑j:Int)-1-1) from by first|exact IntWalk.i64_in _ (by omega)|(simp only[IntKind.wrap];omega)).trans (by omega))) ?_
   refine xv1 2 9 (show(.int .i64 ((↑((Zj l (k+j) r)*256):Int)+(↑(l.getD (k+(j-1)) 0).toNat:Int)):Value)=.int .i64 (↑(Zj l (k+(j-1)) (r+1)):Int) from by rw[(hrl (by omega)).2];rfl) ?_
   exact ze 0 (hJ3 _ _ _ ⟨j-1,r+1,rfl,rfl,hB_3,by omega⟩ (by omega))
  refine xe 13 (.tuple #[.int .i64 (↑(Zj l (k+j) r):Int),.int .i64 0]) ?_
  rw[show Zj l (k+j) r=Zj l k w from by rw[show j=0 by omega,show r=w by omega];rfl];exact⟨rfl,hB_3⟩
 have hc2:=Xz hc2
 refine xwm 21 ((↑w:Int)-1) (↑(w-1):Int) ?_
 refine xv1 4 10 (show(.int .i64 (↑(w-1):Int):Value)=.int .i64 ((↑w:Int)-1) from congrArg (Value.int .i64) (by omega)) ?_
 refine zl 0 45 (fun zm zkv V=>∃ (j r:Nat),zkv=[(0,.slice a l.length c),(1,.int .i64 (↑k:Int)),(6,.int .i64 0),(7,.int .i64 0),(9,.int .i64 (↑(Zj l (k+j) r):Int)),(10,.int .i64 ((↑j:Int)-1))]∧zm=(((↑j:Int)-1)+1).toNat∧Below W.heap.size W V∧j+r=w) ⟨w,0,rfl,rfl,hb1,by omega⟩ ?_
 rintro _ _ W5 ⟨j,r,rfl,rfl,hB_5,hjr⟩ J5 hJ5 r5
 have hrl:0<j→_:=fun hj=>Zak hq hj hjr
 refine xid 7 ((↑j:Int)-1≥(0:Int)) (fun hc6=>?_) (fun hc6=>?_)
 ·refine xwm 6 ((↑(Zj l (k+j) r):Int)*256) (↑((Zj l (k+j) r)*256):Int) ?_
  refine xq 3 (congrArg (Value.int .i64) (show IntKind.i64.wrap ((↑k:Int)+((↑j:Int)-1))=(↑(k+(j-1)):Int) from(show IntKind.i64.wrap ((↑k:Int)+((↑j:Int)-1))=((↑k:Int)+((↑j:Int)-1)) from by first|exact IntWalk.i64_in _ (by omega)|(simp only[IntKind.wrap];omega)).trans (by omega))) ?_
  refine xx 0 _ l.length (k+(j-1)) 1 (Bys.elem h (k:=(k+(j-1))) (by omega)).1 ?_
  refine xl 0 ((Bys.elem (h.below hB_5) (k:=(k+(j-1))) (by omega)).2) ?_
  refine xq 0 (congrArg (Value.int .i64) (show(IntKind.i64.wrap (↑(l.getD (k+(j-1)) 0).toNat:Int):Int)=(↑(l.getD (k+(j-1)) 0).toNat:Int) from Hi (by have:=(l.getD (k+(j-1)) 0).toNat_lt;omega))) ?_
  refine xw 0 ((↑((Zj l (k+j) r)*256):Int)+(↑(l.getD (k+(j-1)) 0).toNat:Int)) ?_
  refine xq 6 (congrArg (Value.int .i64) (show IntKind.i64.wrap ((↑j:Int)-1-1)=((↑(j-1:Nat):Int)-1) from(show IntKind.i64.wrap ((↑j:Int)-1-1)=((↑j:Int)-1-1) from by first|exact IntWalk.i64_in _ (by omega)|(simp only[IntKind.wrap];omega)).trans (by omega))) ?_
  refine xv1 2 9 (show(.int .i64 ((↑((Zj l (k+j) r)*256):Int)+(↑(l.getD (k+(j-1)) 0).toNat:Int)):Value)=.int .i64 (↑(Zj l (k+(j-1)) (r+1)):Int) from by rw[(hrl (by omega)).2];rfl) ?_
  exact ze 0 (hJ5 _ _ _ ⟨j-1,r+1,rfl,rfl,hB_5,by omega⟩ (by omega))
 refine xe 13 (.tuple #[.int .i64 (↑(Zj l (k+j) r):Int),.int .i64 0]) ?_
 rw[show Zj l (k+j) r=Zj l k w from by rw[show j=0 by omega,show r=w by omega];rfl];exact⟨rfl,hB_5⟩
theorem ref_Get(a:Option Addr)(c k w:Nat)(l:List UInt8)(W:World)(hw:w=1∨w=2∨w=4∨w=8)(hk:k+w≤l.length)(hl:l.length≤100000000)(h:Bys W (.slice a l.length c) l) :
 Calls Tryz.prog 118 #[.slice a l.length c,.int .i64 (↑k:Int),.int .i64 (↑w:Int)] W (Ret (.tuple #[.int .i64 (Zfu l k w),.int .i64 (Zam l k w)]) W):=by
 by_cases hq:Zj l k w<9223372036854775808
 ·rw[Mv hq,Ao hq];exact Wx a c k w l W hw hk hl h hq
 ·rw[Zfu,Zam,if_neg hq,if_neg hq];exact Px a c k w l W hw hk hl h hq
theorem Tz(a:Option Addr)(n c k w:Nat)(ki wi:Int)(l:List UInt8)(W:World)(hn:l.length=n)(hki:ki=(k:Int))(hwi:wi=(w:Int))(hw:w=1∨w=2∨w=4)(hk:k+w≤n)(hl:n≤100000000)(h:Bys W (.slice a n c) l) :
 Calls Tryz.prog 118 #[.slice a n c,.int .i64 ki,.int .i64 wi] W (Ret (.tuple #[.int .i64 (Zj l k w:Int),.int .i64 0]) W):=by
 subst hn hki hwi;exact Wx a c k w l W (by omega) hk hl h (by have:=Qm l k w (by omega);omega)
theorem Ml(a:Option Addr)(c:Nat)(l:List UInt8)(aw:Option Addr)(cw:Nat)(ws:List Nat)(W:World)(hk:∀ i,i<ws.length→ws.getD i 0=1∨ws.getD i 0=2∨ws.getD i 0=4∨ws.getD i 0=8)(hs:ws.sum≤l.length)(hl:l.length≤100000000)(hw:ws.length≤1000)(h:Bys W (.slice a l.length c) l)(hws:Sl W (.slice aw ws.length cw) ws.length (ws.map nv))(hq:∀ i,i<ws.length→(He l 0 ws).getD i 0<9223372036854775808) :
 Calls Tryz.prog 77 #[.slice a l.length c,.slice aw ws.length cw] W (Vx (fun w' r=>∃ p c,r=.tuple #[.slice p ws.length c,.int .i64 0]∧w'.ownsRow W.heap.size 3 1 (.slice p ws.length c) ws.length ((He l 0 ws).map nv)) W):=by
 refine zin 41 Tryz.func77 ?_
 have hB:=Below.refl W.heap.size W
 refine zl 23 41 (fun zm zkv V=>∃ (i:Nat) (p:Option Addr) (c2:Nat),zkv=[(0,.slice a l.length c),(1,.slice aw ws.length cw),(6,.slice p i c2),(7,.int .i64 (↑(ws.take i).sum:Int)),(8,.int .i64 (↑i:Int))]∧zm=ws.length-((↑i:Int)).toNat∧Below W.heap.size W V∧V.ownsRow W.heap.size 3 1 (.slice p i c2) i ((He l 0 (ws.take i)).map nv)∧i≤ws.length) ⟨0,_,_,rfl,rfl,hB,World.ownsRow_nil _ _ _ _,Nat.zero_le _⟩ ?_
 rintro _ _ W1 ⟨i,p,c2,rfl,rfl,hB_1,ho,hi⟩ J1 hJ1 r1
 have hts:i<ws.length→(ws.take i).sum+ws.getD i 0≤ws.sum:=Ui
 have hui:i<ws.length→(He l 0 ws).getD i 0=Zj l (ws.take i).sum (ws.getD i 0):=fun h=>by rw[Mb l ws 0 i h,Nat.zero_add]
 refine xid 9 ((↑i:Int)<(↑ws.length:Int)) (fun hc2=>?_) (fun hc2=>?_)
 ·refine xx 10 _ ws.length i 1 (Zo hws rfl (k:=i) (by omega)).1 ?_
  refine xl 0 ((Zo (hws.below hB_1) rfl (k:=i) (by omega)).2) ?_
  refine xr 0 (args:=#[.slice a l.length c,.int .i64 (↑(ws.take i).sum:Int),.int .i64 (↑(ws.getD i 0):Int)]) (ref_Get a c (ws.take i).sum (ws.getD i 0) l _ (hk i (by omega)) (by omega) hl (h.below hB_1)) fun W3 hb3=>?_
  refine xk 14 (show(((Zam l (ws.take i).sum (ws.getD i 0)) != (0:Int)):Bool)=false from by rw[Ao (by rw[←hui (by omega)];exact hq i (by omega))];rfl) ?_
  refine xbs 6 1 [.int .i64 (Zfu l (ws.take i).sum (ws.getD i 0))] 3 fun b4 W4 n4=>?_
  have hB'1:=bln hB_1 hb3
  have g4:=n4.ge hB'1
  have ho'1:=Za ho hb3
  have r4_ho:=Zp ho'1 n4
  have ho'2:=Za ho'1 n4.below
  have hB'2:=bln hB'1 n4.below
  refine xbi 0 fun _ _ _ _ zJ zQ zo zx zy zK=>Zt (m:=1) (news:=[.int .i64 (Zfu l (ws.take i).sum (ws.getD i 0))]) (.int .i64 0) 1 8 (i+1) ((He l 0 (ws.take (i+1))).map nv) zo Tryz.underlying31 (by kernel_rfl) rfl (by decide) zx ho'2 zy (n4.blk.sl 1 1 (by decide) (by decide)) rfl (by simp[Value.oneCell']) (by unfold maxLen;omega) (by omega) hB'2.size (by rfl) (by rw[Jp (by omega),Wh,Nat.zero_add,List.map_append];simp only[List.map_cons,List.map_nil,nv];rw[Mv (by rw[←hui (by omega)];exact hq i (by omega))]) fun px5 cx5 W5 o5 hg5 hb5=>?_
  refine zK _ _ ?_
  refine xx 7 _ ws.length i 1 (Zo hws rfl (k:=i) (by omega)).1 ?_
  have hB'3:=hB'2.trans hb5
  refine xl 0 ((Zo (hws.below hB'3) rfl (k:=i) (by omega)).2) ?_
  refine xwm 0 ((↑(ws.take i).sum:Int)+(↑(ws.getD i 0):Int)) (↑((ws.take i).sum+(ws.getD i 0)):Int) ?_
  refine xwm 6 ((↑i:Int)+1) (↑(i+1):Int) ?_
  refine xv1 2 7 (show(.int .i64 (↑((ws.take i).sum+(ws.getD i 0)):Int):Value)=.int .i64 (↑(ws.take (i+1)).sum:Int) from by rw[Jp (by omega),List.sum_append];simp) ?_
  exact ze 0 (hJ1 _ _ _ ⟨i+1,_,_,rfl,rfl,hB'3,o5,by omega⟩ (by omega))
 refine xe 13 (.tuple #[.slice p i c2,.int .i64 0]) ?_
 obtain rfl:i=ws.length:=by omega
 rw[List.take_length] at ho
 exact⟨_,rfl,hB_1,_,_,rfl,ho⟩
theorem Fy(a:Option Addr)(c:Nat)(l:List UInt8)(aw:Option Addr)(cw:Nat)(ws:List Nat)(W:World)(hk:∀ i,i<ws.length→ws.getD i 0=1∨ws.getD i 0=2∨ws.getD i 0=4∨ws.getD i 0=8)(hs:ws.sum≤l.length)(hl:l.length≤100000000)(hw:ws.length≤1000)(h:Bys W (.slice a l.length c) l)(hws:Sl W (.slice aw ws.length cw) ws.length (ws.map nv))(hq:¬ ∀ i,i<ws.length→(He l 0 ws).getD i 0<9223372036854775808) :
 Calls Tryz.prog 77 #[.slice a l.length c,.slice aw ws.length cw] W (Ret (.tuple #[.slice none 0 0,.int .i64 2]) W):=by
 refine zin 41 Tryz.func77 ?_
 have hB:=Below.refl W.heap.size W
 refine zl 23 41 (fun zm zkv V=>∃ (i:Nat) (p:Option Addr) (c2:Nat),zkv=[(0,.slice a l.length c),(1,.slice aw ws.length cw),(6,.slice p i c2),(7,.int .i64 (↑(ws.take i).sum:Int)),(8,.int .i64 (↑i:Int))]∧zm=ws.length-((↑i:Int)).toNat∧Below W.heap.size W V∧V.ownsRow W.heap.size 3 1 (.slice p i c2) i ((He l 0 (ws.take i)).map nv)∧i≤ws.length∧(∀ j,j<i→(He l 0 ws).getD j 0<9223372036854775808)) ⟨0,_,_,rfl,rfl,hB,World.ownsRow_nil _ _ _ _,Nat.zero_le _,?_⟩ ?_
 ·exact fun j hj=>absurd hj (by omega)
 rintro _ _ W1 ⟨i,p,c2,rfl,rfl,hB_1,ho,hi,hall⟩ J1 hJ1 r1
 have hts:i<ws.length→(ws.take i).sum+ws.getD i 0≤ws.sum:=Ui
 have hui:i<ws.length→(He l 0 ws).getD i 0=Zj l (ws.take i).sum (ws.getD i 0):=fun h=>by rw[Mb l ws 0 i h,Nat.zero_add]
 refine xid 9 ((↑i:Int)<(↑ws.length:Int)) (fun hc2=>?_) (fun hc2=>?_)
 ·refine xx 10 _ ws.length i 1 (Zo hws rfl (k:=i) (by omega)).1 ?_
  refine xl 0 ((Zo (hws.below hB_1) rfl (k:=i) (by omega)).2) ?_
  refine xr 0 (args:=#[.slice a l.length c,.int .i64 (↑(ws.take i).sum:Int),.int .i64 (↑(ws.getD i 0):Int)]) (ref_Get a c (ws.take i).sum (ws.getD i 0) l _ (hk i (by omega)) (by omega) hl (h.below hB_1)) fun W3 hb3=>?_
  refine xin 14 (Zam l (ws.take i).sum (ws.getD i 0)) (0:Int) (fun hc4=>?_) (fun hc4=>?_)
  ·have hgr:=Zds hc4
   have hB'1:=bln hB_1 hb3
   refine xe 14 (.tuple #[.slice none 0 0,.int .i64 (Zam l (ws.take i).sum (ws.getD i 0))]) ?_
   rw[hgr.2];exact⟨rfl,hB'1⟩
  have hgr:=Oo hc4
  refine xbs 6 1 [.int .i64 (Zfu l (ws.take i).sum (ws.getD i 0))] 3 fun b5 W5 n5=>?_
  have hB'2:=bln hB_1 hb3
  have g5:=n5.ge hB'2
  have ho'1:=Za ho hb3
  have r5_ho:=Zp ho'1 n5
  have ho'2:=Za ho'1 n5.below
  have hB'3:=bln hB'2 n5.below
  refine xbi 0 fun _ _ _ _ zJ zQ zo zx zy zK=>Zt (m:=1) (news:=[.int .i64 (Zfu l (ws.take i).sum (ws.getD i 0))]) (.int .i64 0) 1 8 (i+1) ((He l 0 (ws.take (i+1))).map nv) zo Tryz.underlying31 (by kernel_rfl) rfl (by decide) zx ho'2 zy (n5.blk.sl 1 1 (by decide) (by decide)) rfl (by simp[Value.oneCell']) (by unfold maxLen;omega) (by omega) hB'3.size (by rfl) (by rw[Jp (by omega),Wh,Nat.zero_add,List.map_append];simp only[List.map_cons,List.map_nil,nv];rw[Mv hgr]) fun px6 cx6 W6 o6 hg6 hb6=>?_
  refine zK _ _ ?_
  refine xx 7 _ ws.length i 1 (Zo hws rfl (k:=i) (by omega)).1 ?_
  have hB'4:=hB'3.trans hb6
  refine xl 0 ((Zo (hws.below hB'4) rfl (k:=i) (by omega)).2) ?_
  refine xwm 0 ((↑(ws.take i).sum:Int)+(↑(ws.getD i 0):Int)) (↑((ws.take i).sum+(ws.getD i 0)):Int) ?_
  refine xwm 6 ((↑i:Int)+1) (↑(i+1):Int) ?_
  refine xv1 2 7 (show(.int .i64 (↑((ws.take i).sum+(ws.getD i 0)):Int):Value)=.int .i64 (↑(ws.take (i+1)).sum:Int) from by rw[Jp (by omega),List.sum_append];simp) ?_
  exact ze 0 (hJ1 _ _ _ ⟨i+1,_,_,rfl,rfl,hB'4,o6,by omega,fun j hj=>(Nat.lt_or_ge j i).elim (fun q=>hall j q) (fun q=>by obtain rfl:j=i:=(by omega);rw[hui (by omega)];exact hgr)⟩ (by omega))
 refine xe 13 (.tuple #[.slice p i c2,.int .i64 0]) ?_
 exact absurd (fun j hj=>hall j (by omega)) hq
theorem Zaq(a:Option Addr)(n c:Nat)(l:List UInt8)(aw:Option Addr)(cw m:Nat)(ws:List Nat)(xs:List Nat)(W:World)(hn:l.length=n)(hm:ws.length=m)(hx:He l 0 ws=xs)(hk:∀ i,i<ws.length→ws.getD i 0=1∨ws.getD i 0=2∨ws.getD i 0=4∨ws.getD i 0=8)(hs:ws.sum≤n)(hl:n≤100000000)(hw:ws.length≤1000)(h:Bys W (.slice a n c) l)(hws:Sl W (.slice aw m cw) m (ws.map nv))(hq:∀ i,i<ws.length→(He l 0 ws).getD i 0<9223372036854775808) :
 Calls Tryz.prog 77 #[.slice a n c,.slice aw m cw] W (Vx (fun w' r=>∃ p c,r=.tuple #[.slice p m c,.int .i64 0]∧w'.ownsRow W.heap.size 3 1 (.slice p m c) m (xs.map nv)) W):=by
 subst hn hm hx;exact Ml a c l aw cw ws W hk hs hl hw h hws hq
theorem ref_Zero(a:Option Addr)(c:Nat)(l:List UInt8)(w:World)(hl:l.length≤100000000)(h:Bys w (.slice a l.length c) l) :
 Calls Tryz.prog 152 #[.slice a l.length c] w (Ret (.bool (Kh l)) w):=by
 refine zin 15 Tryz.func152 ?_
 have hB:=Below.refl w.heap.size w
 refine zl 12 15 (fun zm zkv V=>∃ (i:Nat),zkv=[(0,.slice a l.length c),(3,.int .i64 (↑i:Int))]∧zm=l.length-((↑i:Int)).toNat∧Below w.heap.size w V∧i≤l.length∧(∀ j,j<i→l.getD j 0=0)) ⟨0,rfl,rfl,hB,Nat.zero_le _,?_⟩ ?_
 ·exact fun j hj=>absurd hj (by omega)
 rintro _ _ W1 ⟨i,rfl,rfl,hB_1,hi,hz⟩ J1 hJ1 r1
 refine xid 9 ((↑i:Int)<(↑l.length:Int)) (fun hc2=>?_) (fun hc2=>?_)
 ·refine xx 8 _ l.length i 1 (Bys.elem h (k:=i) (by omega)).1 ?_
  refine xl 0 ((Bys.elem (h.below hB_1) (k:=i) (by omega)).2) ?_
  refine xin 3 (↑(l.getD i 0).toNat:Int) (0:Int) (fun hc3=>?_) (fun hc3=>?_)
  ·refine xe 11 (.bool false) ?_
   rw[Dq (j:=i) (by omega) (by assumption)];exact⟨rfl,hB_1⟩
  refine xwm 5 ((↑i:Int)+1) (↑(i+1):Int) ?_
  exact ze 2 (hJ1 _ _ _ ⟨i+1,rfl,rfl,hB_1,by omega,fun j hj=>(Nat.lt_or_ge j i).elim (hz j) (fun q=>by obtain rfl:j=i:=(by omega);exact Oe (by assumption))⟩ (by omega))
 refine xe 11 (.bool true) ?_
 rw[Sf (fun j hj=>hz j (by omega))];exact⟨rfl,hB_1⟩
theorem Ma(a:Option Addr)(n c:Nat)(l:List UInt8)(w:World)(hn:l.length=n)(hl:n≤100000000)(h:Bys w (.slice a n c) l):Calls Tryz.prog 152 #[.slice a n c] w (Ret (.bool (Kh l)) w):=by
 subst hn;exact ref_Zero a c l w hl h
end Go.Proofs.YtlmaglneeaecdaaGreatDoor
namespace Go.Proofs.YtlmaglneeaecdaaGreatDoor
set_option maxHeartbeats 8000000
set_option maxRecDepth 100000
open Go.RowKit Go.Extern.Stop Go.Stop Go.Extern
set_option linter.unusedVariables false
def FltV(w:World)(v:Value)(l:List Int)(c:Int):Prop:=∃ s,v=.agg #[s,.int .i64 c]∧Ints w s l
theorem FltV.below{w w':World}{v:Value}{l:List Int}{c:Int}(h:FltV w v l c)(hb:Below w.heap.size w w'):FltV w' v l c:=by
 obtain⟨s,rfl,hs⟩:=h
 exact⟨s,rfl,hs.below hb⟩
theorem Zcd{w:World}{B:Nat}{s:Value}{c:Int}{t:TypeId}(h:Blk w B [s,.int .i64 c] t)(hs:∃ a n m,s=.slice a n m){tmps:Array Value}(e:tmps.getD 2 undef=.pointer (some ⟨B,0,none⟩)) :
 (results Tryz.f14 tmps).run Tryz.prog w=.ok (.agg #[s,.int .i64 c]) w:=by
 obtain⟨a,n,m,rfl⟩:=hs
 have c0:=h.cell (i:=0) rfl
 have c1:=h.cell (i:=1) rfl
 have e':tmps[2]?.getD undef=.pointer (some ⟨B,0,none⟩):=by simpa using e
 simp[results,Tryz.results14,go_sem,c0,c1,e']
theorem Sc(t:Option Int)(l:List (Option Int))(v:Value)(w:World)(hlen:l.length≤1000000)(hg:Zgi w)(hv:Vu w l t v) :
 Calls Tryz.prog 14 #[v] w (Vx (fun w' r=>FltV w' r (Vi l) (Lr l t)) w):=by
 have hB:=blx w (.cells #[.slice none 0 0,.int .i64 0] 33)
 have k0:=Blk.new w [.slice none 0 0,.int .i64 0] 33
 rcases hv.nil_or with ⟨hz,rfl⟩|⟨hz,ty,x,rfl⟩
 ·obtain⟨rfl,rfl⟩:=So hz
  go_enter Tryz.func14,Tryz.ntmps14
  go_wp2_with fail
  exact bodyPost_ret (Zcd k0 ⟨_,_,_,rfl⟩ rfl) rfl ⟨_,rfl,hB,_,rfl,.inl ⟨_,_,rfl,rfl,rfl⟩⟩
 ·go_enter Tryz.func14,Tryz.ntmps14
  have hv1:=hv.below hB
  go_wp2_with fail
  refine(Iq t l _ _ hlen hv1).mono ?_
  rintro e w1 ⟨r,rfl,hb1,h1⟩
  have hB1:=bln hB hb1
  go_wp2_with fail
  refine(Zen t l _ w1 (hg.below hB1) (hv.below hB1)).mono ?_
  rintro e w2 ⟨rfl,hb2⟩
  have k2:=(k0.below hb1).below hb2
  obtain⟨a,m,rfl⟩:=(Zg h1).slice
  have d0:=k2.cell (i:=0) rfl
  have d1:=k2.cell (i:=1) rfl
  have f0:=k2.frozen 0
  have f1:=k2.frozen 1
  have hB2:=bln hB1 hb2
  have hB3:Below w.heap.size w ((w2.setCell ⟨w.heap.size,0,none⟩ (.slice a (Vi l).length m)).setCell ⟨w.heap.size,1,none⟩ (.int .i64 (Lr l t))):=(hB2.setCell (Nat.le_refl _) _).setCell (Nat.le_refl _) _
  have h3:=ownsRow_setCell_below (ownsRow_setCell_below (Za h1 hb2) (a:=⟨w.heap.size,0,none⟩) (by simp) (.slice a (Vi l).length m)) (a:=⟨w.heap.size,1,none⟩) (by simp) (.int .i64 (Lr l t))
  go_wp2_with fail
  exact bodyPost_ret (Zcd ((k2.set 0 _).set 1 _) ⟨_,_,_,rfl⟩ rfl) rfl ⟨_,rfl,hB3,_,rfl,Zg h3⟩
theorem Rr(l:List Int)(c:Int)(v1 v2:Value)(w:World)(h1:FltV w v1 l c)(h2:FltV w v2 l c) :
 Calls Tryz.prog 13 #[v1,v2] w (Ret (.bool true) w):=by
 obtain⟨s1,rfl,k1⟩:=h1
 obtain⟨s2,rfl,k2⟩:=h2
 obtain⟨a1,p1,rfl⟩:=k1.slice
 obtain⟨a2,p2,rfl⟩:=k2.slice
 have hmax:=k1.len
 have hB:Below w.heap.size w ((w.alloc (.cells #[.slice a1 l.length p1,.int .i64 c] 33)).alloc (.cells #[.slice a2 l.length p2,.int .i64 c] 33)):=bln (blx _ _) (blx _ _)
 have b1:Blk ((w.alloc (.cells #[.slice a1 l.length p1,.int .i64 c] 33)).alloc (.cells #[.slice a2 l.length p2,.int .i64 c] 33)) w.heap.size [.slice a1 l.length p1,.int .i64 c] 33:=(Blk.new _ _ _).alloc _
 have b2:=Blk.new (w.alloc (.cells #[.slice a1 l.length p1,.int .i64 c] 33)) [.slice a2 l.length p2,.int .i64 c] 33
 simp only[World.size_alloc] at b2
 go_enter Tryz.func13,Tryz.ntmps13
 go_wp2_with fail
 obtain⟨W,hW⟩:∃ W,(w.alloc (.cells #[.slice a1 l.length p1,.int .i64 c] 33)).alloc (.cells #[.slice a2 l.length p2,.int .i64 c] 33)=W:=⟨_,rfl⟩
 change Blk ((w.alloc (.cells #[.slice a1 l.length p1,.int .i64 c] 33)).alloc (.cells #[.slice a2 l.length p2,.int .i64 c] 33)) _ _ _ at b2
 rw[hW] at hB b1 b2 ⊢
 have k1:=k1.below hB
 have k2:=k2.below hB
 clear hW
 go_loopw [5] (fun i wr=>∃ k:Nat,k≤l.length∧i=.int .i64 k∧Below W.heap.size W wr) (fun i _=>l.length-(intOf i).toNat)
 case atStart=>exact⟨0,by omega,rfl,Below.refl _ _⟩
 case round =>
  obtain⟨k,hk,rfl,hbr⟩:=hrel
  have q1:=b1.below hbr
  have q2:=b2.below hbr
  have c1:=q1.cell (i:=0) rfl
  have c2:=q2.cell (i:=0) rfl
  by_cases hlt:k<l.length
  ·rcases Sl.at (k1.below hbr) with h0|⟨g1,o1,rfl,hc1⟩
   ·rw[List.map_eq_nil_iff] at h0;subst h0;exact absurd hlt (by simp)
   rcases Sl.at (k2.below hbr) with h0|⟨g2,o2,rfl,hc2⟩
   ·rw[List.map_eq_nil_iff] at h0;subst h0;exact absurd hlt (by simp)
   have e1:∀ z:Ext wr,z.val.cell? ⟨w.heap.size,0,none⟩=some (.slice (some ⟨g1,o1,none⟩) l.length p1):=fun z=>z.get c1
   have e2:∀ z:Ext wr,z.val.cell? ⟨w.heap.size+1,0,none⟩=some (.slice (some ⟨g2,o2,none⟩) l.length p2):=fun z=>z.get c2
   have e3:∀ z:Ext wr,z.val.cell? ⟨g1,o1+k,none⟩=some (.int .i64 l[k]):=fun z=>z.get (hc1 k _ (by simp[hlt]))
   have e4:∀ z:Ext wr,z.val.cell? ⟨g2,o2+k,none⟩=some (.int .i64 l[k]):=fun z=>z.get (hc2 k _ (by simp[hlt]))
   have i1:(0:Int)≤(k:Int):=by omega
   have i2:(k:Int)<(l.length:Int):=by omega
   clear hc1 hc2
   go_wp2_with fail
   refine Qo (by kernel_rfl) (by kernel_rfl) ?_
   repeat (go_big_quiet_step (fail))
   refine wpQuiet_nil ?_
   intro wx
   go_wp2_with fail
   exact⟨⟨k+1,by omega,by go_num,bln hbr wx.below⟩,by simp[intOf];omega⟩
  ·go_wp2_with fail
   go_ret
   exact⟨rfl,bln hB hbr⟩
end Go.Proofs.YtlmaglneeaecdaaGreatDoor
namespace Go.Proofs.YtlmaglneeaecdaaGreatDoor
set_option maxHeartbeats 8000000
set_option maxRecDepth 100000
open Go.RowKit Go.Extern.Stop Go.Stop Go.Extern
set_option linter.unusedVariables false
attribute [local irreducible] wpList wpAnyH Code.wp Oper.wp Go
def Wa(l:List UInt8)(k:Nat):List (List UInt8):=(List.range k).map (Ju l)
theorem Om(l:List UInt8)(k:Nat):(Wa l k).length=k:=by simp[Wa]
theorem Sw(l:List UInt8)(k:Nat):Wa l (k+1)=Wa l k++[Ju l k]:=by simp[Wa,List.range_succ]
theorem blksL_get(l:List UInt8){k i:Nat}(h:i<k):(Wa l k).getD i []=Ju l i:=by simp[Wa,List.getD,List.getElem?_range h]
theorem blkB_take{l:List UInt8}{i m:Nat}(h:i<m):Ju (l.take (m*256)) i=Ju l i:=by
 unfold Ju
 rw[List.drop_take,List.take_take,Nat.min_eq_left (by omega)]
theorem Rs{l:List UInt8}{k:Nat}:Wa (l.take (k*256)) k=Wa l k:=List.map_congr_left fun i hi=>blkB_take (List.mem_range.1 hi)
structure RefI(B bm:Nat)(p:Option Addr)(k c:Nat)(l:List UInt8)(w:World):Prop where
 blk:Blk w bm [.slice p k c] 121
 row:w.ownsRow B 9 1 (.slice p k c) k ((Wa l k).map sv)
 hk:k≤14400
 hl:l.length=k*256
theorem RefI.below{B bm:Nat}{p:Option Addr}{k c:Nat}{l:List UInt8}{w W:World}(h:RefI B bm p k c l w)(hb:Below w.heap.size w W):RefI B bm p k c l W:=⟨h.blk.below hb,Za h.row hb,h.hk,h.hl⟩
theorem RefI.only{B bm:Nat}{p:Option Addr}{k c:Nat}{l:List UInt8}{w W:World}{T:List TypeId}(h:RefI B bm p k c l w)(hO:Ze T w W)(hT:T.contains 121=false∧T.contains 9=false):RefI B bm p k c l W:=⟨h.blk.only hO hT.1,Zl h.row hO hT.2,h.hk,h.hl⟩
theorem RefI.mono{B B' bm:Nat}{p:Option Addr}{k c:Nat}{l:List UInt8}{w:World}(h:RefI B bm p k c l w)(hB:B'≤B):RefI B' bm p k c l w:=⟨h.blk,Zf h.row hB,h.hk,h.hl⟩
theorem RefI.base{B bm:Nat}{p:Option Addr}{k c:Nat}{l:List UInt8}{w:World}(h:RefI B bm p k c l w)(hn:0<k):∃ g,p=some ⟨g,0,none⟩:=by
 rcases h.row.2 with ⟨_,h0⟩|⟨g,cap,cur,hv,_,_,hc,_⟩
 ·omega
 ·simp only[Value.slice.injEq] at hv
  obtain⟨rfl,_,rfl⟩:=hv
  exact⟨g,rfl⟩
theorem ref_Of(a:Option Addr)(c:Nat)(l:List UInt8)(w:World)(h:Bys w (.slice a l.length c) l)(hl:l.length≤100000000) :
 Calls Tryz.prog 11 #[.slice a l.length c] w (Vx (fun w' r=>∃ bm p c2,r=.pointer (some ⟨bm,0,none⟩)∧w.heap.size≤bm∧RefI w.heap.size bm p (min (l.length/256) 14400) c2 (l.take (min (l.length/256) 14400*256)) w') w):=by
 refine zin 32 Tryz.func11 ?_
 refine xa 8 [.slice none 0 0] 121 fun b1 W1 n1=>?_
 refine zl 5 32 (fun zm zkv V=>∃ (k:Nat) (p:Option Addr) (cp:Nat) (a2:Option Addr) (c2:Nat) (l2:List UInt8),zkv=[(0,.slice a2 l2.length c2),(2,.pointer none),(3,.pointer (some ⟨b1,0,none⟩))]∧zm=l2.length∧Below w.heap.size w V∧Blk V b1 ([.slice p k cp]) 121∧V.ownsRow w.heap.size 9 1 (.slice p k cp) k ((Wa l k).map sv)∧Bys w (.slice a2 l2.length c2) l2∧l2=l.drop (k*256)∧k*256≤l.length∧k≤14400) ⟨0,none,0,a,c,l,rfl,rfl,n1.below,n1.blk,World.ownsRow_nil _ _ _ _,h,by simp,by omega,by decide⟩ ?_
 rintro _ _ W2 ⟨k,p,cp,a2,c2,l2,rfl,rfl,hB_2,k2_b1,ho,hen,hl2,hk1,hk2⟩ J2 hJ2 r2
 have hcap:=hen.cap rfl
 have hl2n:l2.length=l.length-k*256:=by rw[hl2];simp
 refine xg 7 [8,9] (decide ((↑l2.length:Int)≥(256:Int))) (fun hc3=>?_) (fun hc3=>?_)
 ·have hc3:=of_decide_eq_true hc3
  refine xb 3 0 k2_b1 ?_
  refine xid 5 ((↑k:Int)<(14400:Int)) (fun hc4=>?_) (fun hc4=>?_)
  ·refine xd 4 (.t w.heap.size [9,121]) ?_
   refine xsH (.e [0,1,2,3,5] 6) (fun _ _ _ _ zo zx zy V=>Yt (k:=256) (b:=a2) (n:=l2.length) (c:=c2) (i:=256) (ki:=.i64) zo zx zy rfl (by omega) Tryz.underlying22 (by kernel_rfl) V) ?_
   have hB'1:=bln hB_2 (Zb W2)
   refine xcvt (.e [] 7) (.t w.heap.size [9,121]) (fun _ _ _ zo zx V hV=>Jh zo zx ((Bys.take hen rfl 256 (by omega)).below (Ku hB'1 hV (Nat.le_refl _))) (by simp;omega) Tryz.underlying22 Tryz.underlying5 Tryz.underlying9) ?_
   refine xm2 0 4 8 ?_ ?_
   ·have k2_b1'1:=k2_b1.below (Zb W2)
    refine xb 0 0 k2_b1'1 ?_
    refine xbs (.o [] 8) 1 [.string ⟨(l2.take 256).toArray⟩] 9 fun b5 W5 n5=>?_
    have g5:=n5.ge hB'1
    have ho'1:=Za ho (Zb W2)
    have r5_ho:=Zp ho'1 n5
    have ho'2:=Za ho'1 n5.below
    have hB'2:=bln hB'1 n5.below
    refine ybi (.o [] 9) (.t w.heap.size [9,121]) fun _ _ _ _ zJ zQ zo zx zy zK=>Zt (m:=1) (news:=[.string ⟨(l2.take 256).toArray⟩]) (.string ⟨#[]⟩) 1 16 (k+1) ((Wa l (k+1)).map sv) zo Tryz.underlying119 (by kernel_rfl) rfl (by decide) zx ho'2 zy (n5.blk.sl 1 1 (by decide) (by decide)) rfl (by simp[Value.oneCell']) (by unfold maxLen;omega) (by omega) hB'2.size (by rfl) (by rw[Sw,List.map_append,show Ju l k=l2.take 256 from by rw[hl2];rfl];rfl) fun px6 cx6 W6 o6 hg6 hb6=>?_
    refine zK _ _ (Zr hb6 hg6 ho'2 (by decide)) ?_
    have k2_b1'2:=(k2_b1'1.below n5.below).grown hg6 ho'2 (by decide)
    have g1:=n1.ge (Below.refl w.heap.size _)
    refine ys (.o [10,11] 12) k2_b1'2 [.slice px6 (k+1) cx6] (.t w.heap.size [9,121]) fun W7 u7 k7=>⟨(Zm u7 k2_b1'2 g1 (by decide)),?_⟩
    refine xsL 4 (fun _ _ _ _ zo zx zy V=>Qs (k:=256) (b:=a2) (n:=l2.length) (c:=c2) (i:=256) (ki:=.i64) 1 zo zx zy rfl (by omega) Tryz.underlying22 (by kernel_rfl) V) ?_
    refine xv1 3 0 (show(.slice (Vd a2 256 c2 1) (l2.length-256) (c2-256):Value)=.slice (Vd a2 256 c2 1) ((l2.drop 256).length) (c2-256) from by rw[List.length_drop]) ?_
    have hB'3:=u7.below (hB'2.trans hb6) g1
    have o6'1:=u7.own2 o6 k2_b1'2 (by decide)
    refine ze 0 (hJ2 _ _ _ ⟨k+1,_,_,_,_,(l2.drop 256),rfl,rfl,hB'3,k7,o6'1,(by have:=Bys.cut hen rfl 256 l2.length (by omega) (Nat.le_refl _);rw[List.take_of_length_le (by simp)] at this;rwa [show(l2.drop 256).length=l2.length-256 by simp]),by rw[hl2,List.drop_drop,Nat.add_mul,Nat.one_mul],by omega,by omega⟩ ?_)
    show((l2.drop 256).length)<l2.length
    rw[List.length_drop];omega
   refine xbs 0 1 [.string ⟨(l2.take 256).toArray⟩] 9 fun b8 W8 n8=>?_
   have g8:=n8.ge hB'1
   have ho'3:=Za ho (Zb W2)
   have r8_ho:=Zp ho'3 n8
   have k2_b1'3:=(k2_b1.below (Zb W2)).below n8.below
   refine xb (.o [] 4) 0 k2_b1'3 ?_
   have ho'4:=Za ho'3 n8.below
   have hB'4:=bln hB'1 n8.below
   refine ybi (.o [] 9) (.t w.heap.size [9,121]) fun _ _ _ _ zJ zQ zo zx zy zK=>Zt (m:=1) (news:=[.string ⟨(l2.take 256).toArray⟩]) (.string ⟨#[]⟩) 1 16 (k+1) ((Wa l (k+1)).map sv) zo Tryz.underlying119 (by kernel_rfl) rfl (by decide) zx ho'4 zy (n8.blk.sl 1 1 (by decide) (by decide)) rfl (by simp[Value.oneCell']) (by unfold maxLen;omega) (by omega) hB'4.size (by rfl) (by rw[Sw,List.map_append,show Ju l k=l2.take 256 from by rw[hl2];rfl];rfl) fun px9 cx9 W9 o9 hg9 hb9=>?_
   refine zK _ _ (Zr hb9 hg9 ho'4 (by decide)) ?_
   have k2_b1'4:=k2_b1'3.grown hg9 ho'4 (by decide)
   have g1:=n1.ge (Below.refl w.heap.size _)
   refine ys (.o [10,11] 12) k2_b1'4 [.slice px9 (k+1) cx9] (.t w.heap.size [9,121]) fun W10 u10 k10=>⟨(Zm u10 k2_b1'4 g1 (by decide)),?_⟩
   refine xsL 4 (fun _ _ _ _ zo zx zy V=>Qs (k:=256) (b:=a2) (n:=l2.length) (c:=c2) (i:=256) (ki:=.i64) 1 zo zx zy rfl (by omega) Tryz.underlying22 (by kernel_rfl) V) ?_
   refine xv1 3 0 (show(.slice (Vd a2 256 c2 1) (l2.length-256) (c2-256):Value)=.slice (Vd a2 256 c2 1) ((l2.drop 256).length) (c2-256) from by rw[List.length_drop]) ?_
   have hB'5:=u10.below (hB'4.trans hb9) g1
   have o9'1:=u10.own2 o9 k2_b1'4 (by decide)
   refine ze 0 (hJ2 _ _ _ ⟨k+1,_,_,_,_,(l2.drop 256),rfl,rfl,hB'5,k10,o9'1,(by have:=Bys.cut hen rfl 256 l2.length (by omega) (Nat.le_refl _);rw[List.take_of_length_le (by simp)] at this;rwa [show(l2.drop 256).length=l2.length-256 by simp]),by rw[hl2,List.drop_drop,Nat.add_mul,Nat.one_mul],by omega,by omega⟩ ?_)
   show((l2.drop 256).length)<l2.length
   rw[List.length_drop];omega
  have g1:=n1.ge (Below.refl w.heap.size _)
  refine xe 12 (.pointer (some ⟨b1,0,none⟩)) ?_
  obtain rfl:k=min (l.length/256) 14400:=by omega
  exact⟨_,rfl,hB_2,_,_,_,rfl,g1,k2_b1,by rw[Rs];exact ho,by omega,by simp;omega⟩
 have hc3:=of_decide_eq_false hc3
 have g1:=n1.ge (Below.refl w.heap.size _)
 refine xe 22 (.pointer (some ⟨b1,0,none⟩)) ?_
 obtain rfl:k=min (l.length/256) 14400:=by omega
 exact⟨_,rfl,hB_2,_,_,_,rfl,g1,k2_b1,by rw[Rs];exact ho,by omega,by simp;omega⟩
def fltL(no er:Int):List Int:=if er=0 then [] else [no]
theorem fltL_nz{no er:Int}(h:er≠0):fltL no er=[no]:=if_neg h
theorem Zef(no:Int)(w:World) :
 Calls Tryz.prog 41 #[.int .i64 no,.agg #[.slice none 0 0,.int .i64 0]] w (Ret (.agg #[.slice none 0 0,.int .i64 0]) w):=by
 refine zin 17 Tryz.func41 ?_
 refine xa 2 [.slice none 0 0,.int .i64 0] 33 fun b1 W1 n1=>?_
 refine xa 0 [.slice none 0 0,.int .i64 0] 33 fun b2 W2 n2=>?_
 have d2_b1:=n2.ne n1.blk
 have k1'1:=n1.blk.below n2.below
 refine xb 6 1 k1'1 ?_
 refine xsv 7 n2.blk [.slice none 0 0,.int .i64 0] fun W3 u3 k3=>?_
 have g2:=n2.ge n1.below
 have hB:=u3.below (bln n1.below n2.below) g2
 exact xec 4 k3 (.agg #[.slice none 0 0,.int .i64 0]) ⟨rfl,hB⟩
theorem Zf7(no er:Int)(w:World)(he:er≠0) :
 Calls Tryz.prog 41 #[.int .i64 no,.agg #[.slice none 0 0,.int .i64 er]] w (Vx (fun w' r=>∃ a c,r=.agg #[.slice a 1 c,.int .i64 er]∧w'.ownsRow w.heap.size 3 1 (.slice a 1 c) 1 [.int .i64 no]) w):=by
 refine zin 17 Tryz.func41 ?_
 refine xa 2 [.slice none 0 0,.int .i64 er] 33 fun b1 W1 n1=>?_
 refine xa 0 [.slice none 0 0,.int .i64 0] 33 fun b2 W2 n2=>?_
 have d2_b1:=n2.ne n1.blk
 have k1'1:=n1.blk.below n2.below
 refine xb 6 1 k1'1 ?_
 refine xk 3 (show((er==(0:Int)):Bool)=false from beq_false_of_ne he) ?_
 refine xd 3 (.t w.heap.size [3,33]) ?_
 refine xm3 (.b [0,2,5]) 1 3 6 ?_ ?_ ?_
 ·refine xbs 0 1 [.int .i64 no] 3 fun b3 W3 n3=>?_
  refine xm2 0 3 6 ?_ ?_
  ·have k1'2:=(k1'1.below (Zb W2)).below n3.below
   refine xb 0 0 k1'2 ?_
   refine xm2 0 4 6 ?_ ?_
   ·have g3:=n3.ge (bln (bln n1.below n2.below) (Zb W2))
    have o4:=Xb (size:=1) (n:=1) n3.blk g3 rfl (by decide)
    have hB:=bln (bln (bln n1.below n2.below) (Zb W2)) n3.below
    refine ybi 0 (.t w.heap.size [3,33]) fun _ _ _ _ zJ zQ zo zx zy zK=>Zt (m:=0) (news:=[]) (.int .i64 0) 1 8 (1) ([.int .i64 no]) zo Tryz.underlying31 (by kernel_rfl) rfl (by decide) zx o4 zy (.inl ⟨none,0,rfl,rfl,rfl⟩) rfl (by simp) (by unfold maxLen;omega) (by omega) hB.size (by rfl) (by rfl) fun px5 cx5 W5 o5 hg5 hb5=>?_
    refine zK _ _ (Zr hb5 hg5 o4 (by decide)) ?_
    have k1'3:=k1'2.grown hg5 o4 (by decide)
    refine xb (.o [] 6) 1 k1'3 ?_
    have k2:=((n2.blk.below (Zb W2)).below n3.below).grown hg5 o4 (by decide)
    have g2:=n2.ge n1.below
    refine ysv (.o [7] 8) k2 [.slice px5 1 cx5,.int .i64 er] (.t w.heap.size [3,33]) fun W6 u6 k6=>⟨(Zm u6 k2 g2 (by decide)),?_⟩
    have hB'1:=u6.below (hB.trans hb5) g2
    have o5'1:=u6.own2 o5 k2 (by decide)
    exact xec 3 k6 (.agg #[.slice px5 1 cx5,.int .i64 er]) ⟨_,rfl,hB'1,_,_,rfl,o5'1⟩
   refine xb 0 1 k1'2 ?_
   have g3:=n3.ge (bln (bln n1.below n2.below) (Zb W2))
   have o7:=Xb (size:=1) (n:=1) n3.blk g3 rfl (by decide)
   have hB:=bln (bln (bln n1.below n2.below) (Zb W2)) n3.below
   refine ybi (.o [] 4) (.t w.heap.size [3,33]) fun _ _ _ _ zJ zQ zo zx zy zK=>Zt (m:=0) (news:=[]) (.int .i64 0) 1 8 (1) ([.int .i64 no]) zo Tryz.underlying31 (by kernel_rfl) rfl (by decide) zx o7 zy (.inl ⟨none,0,rfl,rfl,rfl⟩) rfl (by simp) (by unfold maxLen;omega) (by omega) hB.size (by rfl) (by rfl) fun px8 cx8 W8 o8 hg8 hb8=>?_
   refine zK _ _ (Zr hb8 hg8 o7 (by decide)) ?_
   have k2:=((n2.blk.below (Zb W2)).below n3.below).grown hg8 o7 (by decide)
   have g2:=n2.ge n1.below
   refine ysv (.o [7] 8) k2 [.slice px8 1 cx8,.int .i64 er] (.t w.heap.size [3,33]) fun W9 u9 k9=>⟨(Zm u9 k2 g2 (by decide)),?_⟩
   have hB'2:=u9.below (hB.trans hb8) g2
   have o8'1:=u9.own2 o8 k2 (by decide)
   exact xec 3 k9 (.agg #[.slice px8 1 cx8,.int .i64 er]) ⟨_,rfl,hB'2,_,_,rfl,o8'1⟩
  have k1'4:=(k1'1.below (Zb W2)).below n3.below
  refine xb 0 1 k1'4 ?_
  refine xb (.o [] 3) 0 k1'4 ?_
  have g3:=n3.ge (bln (bln n1.below n2.below) (Zb W2))
  have o10:=Xb (size:=1) (n:=1) n3.blk g3 rfl (by decide)
  have hB:=bln (bln (bln n1.below n2.below) (Zb W2)) n3.below
  refine ybi (.o [] 4) (.t w.heap.size [3,33]) fun _ _ _ _ zJ zQ zo zx zy zK=>Zt (m:=0) (news:=[]) (.int .i64 0) 1 8 (1) ([.int .i64 no]) zo Tryz.underlying31 (by kernel_rfl) rfl (by decide) zx o10 zy (.inl ⟨none,0,rfl,rfl,rfl⟩) rfl (by simp) (by unfold maxLen;omega) (by omega) hB.size (by rfl) (by rfl) fun px11 cx11 W11 o11 hg11 hb11=>?_
  refine zK _ _ (Zr hb11 hg11 o10 (by decide)) ?_
  have k2:=((n2.blk.below (Zb W2)).below n3.below).grown hg11 o10 (by decide)
  have g2:=n2.ge n1.below
  refine ysv (.o [7] 8) k2 [.slice px11 1 cx11,.int .i64 er] (.t w.heap.size [3,33]) fun W12 u12 k12=>⟨(Zm u12 k2 g2 (by decide)),?_⟩
  have hB'3:=u12.below (hB.trans hb11) g2
  have o11'1:=u12.own2 o11 k2 (by decide)
  exact xec 3 k12 (.agg #[.slice px11 1 cx11,.int .i64 er]) ⟨_,rfl,hB'3,_,_,rfl,o11'1⟩
 ·have k1'5:=k1'1.below (Zb W2)
  refine xb 0 0 k1'5 ?_
  refine xm2 0 1 6 ?_ ?_
  ·refine xbs 0 1 [.int .i64 no] 3 fun b13 W13 n13=>?_
   refine xm2 0 4 6 ?_ ?_
   ·have g13:=n13.ge (bln (bln n1.below n2.below) (Zb W2))
    have o14:=Xb (size:=1) (n:=1) n13.blk g13 rfl (by decide)
    have hB:=bln (bln (bln n1.below n2.below) (Zb W2)) n13.below
    refine ybi 0 (.t w.heap.size [3,33]) fun _ _ _ _ zJ zQ zo zx zy zK=>Zt (m:=0) (news:=[]) (.int .i64 0) 1 8 (1) ([.int .i64 no]) zo Tryz.underlying31 (by kernel_rfl) rfl (by decide) zx o14 zy (.inl ⟨none,0,rfl,rfl,rfl⟩) rfl (by simp) (by unfold maxLen;omega) (by omega) hB.size (by rfl) (by rfl) fun px15 cx15 W15 o15 hg15 hb15=>?_
    refine zK _ _ (Zr hb15 hg15 o14 (by decide)) ?_
    have k1'6:=(k1'5.below n13.below).grown hg15 o14 (by decide)
    refine xb (.o [] 6) 1 k1'6 ?_
    have k2:=((n2.blk.below (Zb W2)).below n13.below).grown hg15 o14 (by decide)
    have g2:=n2.ge n1.below
    refine ysv (.o [7] 8) k2 [.slice px15 1 cx15,.int .i64 er] (.t w.heap.size [3,33]) fun W16 u16 k16=>⟨(Zm u16 k2 g2 (by decide)),?_⟩
    have hB'4:=u16.below (hB.trans hb15) g2
    have o15'1:=u16.own2 o15 k2 (by decide)
    exact xec 3 k16 (.agg #[.slice px15 1 cx15,.int .i64 er]) ⟨_,rfl,hB'4,_,_,rfl,o15'1⟩
   have k1'7:=k1'5.below n13.below
   refine xb 0 1 k1'7 ?_
   have g13:=n13.ge (bln (bln n1.below n2.below) (Zb W2))
   have o17:=Xb (size:=1) (n:=1) n13.blk g13 rfl (by decide)
   have hB:=bln (bln (bln n1.below n2.below) (Zb W2)) n13.below
   refine ybi (.o [] 4) (.t w.heap.size [3,33]) fun _ _ _ _ zJ zQ zo zx zy zK=>Zt (m:=0) (news:=[]) (.int .i64 0) 1 8 (1) ([.int .i64 no]) zo Tryz.underlying31 (by kernel_rfl) rfl (by decide) zx o17 zy (.inl ⟨none,0,rfl,rfl,rfl⟩) rfl (by simp) (by unfold maxLen;omega) (by omega) hB.size (by rfl) (by rfl) fun px18 cx18 W18 o18 hg18 hb18=>?_
   refine zK _ _ (Zr hb18 hg18 o17 (by decide)) ?_
   have k2:=((n2.blk.below (Zb W2)).below n13.below).grown hg18 o17 (by decide)
   have g2:=n2.ge n1.below
   refine ysv (.o [7] 8) k2 [.slice px18 1 cx18,.int .i64 er] (.t w.heap.size [3,33]) fun W19 u19 k19=>⟨(Zm u19 k2 g2 (by decide)),?_⟩
   have hB'5:=u19.below (hB.trans hb18) g2
   have o18'1:=u19.own2 o18 k2 (by decide)
   exact xec 3 k19 (.agg #[.slice px18 1 cx18,.int .i64 er]) ⟨_,rfl,hB'5,_,_,rfl,o18'1⟩
  refine xb 0 1 k1'5 ?_
  refine xbs (.o [] 1) 1 [.int .i64 no] 3 fun b20 W20 n20=>?_
  have g20:=n20.ge (bln (bln n1.below n2.below) (Zb W2))
  have o21:=Xb (size:=1) (n:=1) n20.blk g20 rfl (by decide)
  have hB:=bln (bln (bln n1.below n2.below) (Zb W2)) n20.below
  refine ybi (.o [] 4) (.t w.heap.size [3,33]) fun _ _ _ _ zJ zQ zo zx zy zK=>Zt (m:=0) (news:=[]) (.int .i64 0) 1 8 (1) ([.int .i64 no]) zo Tryz.underlying31 (by kernel_rfl) rfl (by decide) zx o21 zy (.inl ⟨none,0,rfl,rfl,rfl⟩) rfl (by simp) (by unfold maxLen;omega) (by omega) hB.size (by rfl) (by rfl) fun px22 cx22 W22 o22 hg22 hb22=>?_
  refine zK _ _ (Zr hb22 hg22 o21 (by decide)) ?_
  have k2:=((n2.blk.below (Zb W2)).below n20.below).grown hg22 o21 (by decide)
  have g2:=n2.ge n1.below
  refine ysv (.o [7] 8) k2 [.slice px22 1 cx22,.int .i64 er] (.t w.heap.size [3,33]) fun W23 u23 k23=>⟨(Zm u23 k2 g2 (by decide)),?_⟩
  have hB'6:=u23.below (hB.trans hb22) g2
  have o22'1:=u23.own2 o22 k2 (by decide)
  exact xec 3 k23 (.agg #[.slice px22 1 cx22,.int .i64 er]) ⟨_,rfl,hB'6,_,_,rfl,o22'1⟩
 have k1'8:=k1'1.below (Zb W2)
 refine xb 0 1 k1'8 ?_
 refine xm2 0 1 3 ?_ ?_
 ·refine xbs 0 1 [.int .i64 no] 3 fun b24 W24 n24=>?_
  have k1'9:=k1'8.below n24.below
  refine xb (.o [] 3) 0 k1'9 ?_
  have g24:=n24.ge (bln (bln n1.below n2.below) (Zb W2))
  have o25:=Xb (size:=1) (n:=1) n24.blk g24 rfl (by decide)
  have hB:=bln (bln (bln n1.below n2.below) (Zb W2)) n24.below
  refine ybi (.o [] 4) (.t w.heap.size [3,33]) fun _ _ _ _ zJ zQ zo zx zy zK=>Zt (m:=0) (news:=[]) (.int .i64 0) 1 8 (1) ([.int .i64 no]) zo Tryz.underlying31 (by kernel_rfl) rfl (by decide) zx o25 zy (.inl ⟨none,0,rfl,rfl,rfl⟩) rfl (by simp) (by unfold maxLen;omega) (by omega) hB.size (by rfl) (by rfl) fun px26 cx26 W26 o26 hg26 hb26=>?_
  refine zK _ _ (Zr hb26 hg26 o25 (by decide)) ?_
  have k2:=((n2.blk.below (Zb W2)).below n24.below).grown hg26 o25 (by decide)
  have g2:=n2.ge n1.below
  refine ysv (.o [7] 8) k2 [.slice px26 1 cx26,.int .i64 er] (.t w.heap.size [3,33]) fun W27 u27 k27=>⟨(Zm u27 k2 g2 (by decide)),?_⟩
  have hB'7:=u27.below (hB.trans hb26) g2
  have o26'1:=u27.own2 o26 k2 (by decide)
  exact xec 3 k27 (.agg #[.slice px26 1 cx26,.int .i64 er]) ⟨_,rfl,hB'7,_,_,rfl,o26'1⟩
 refine xb 0 0 k1'8 ?_
 refine xbs (.o [] 1) 1 [.int .i64 no] 3 fun b28 W28 n28=>?_
 have g28:=n28.ge (bln (bln n1.below n2.below) (Zb W2))
 have o29:=Xb (size:=1) (n:=1) n28.blk g28 rfl (by decide)
 have hB:=bln (bln (bln n1.below n2.below) (Zb W2)) n28.below
 refine ybi (.o [] 4) (.t w.heap.size [3,33]) fun _ _ _ _ zJ zQ zo zx zy zK=>Zt (m:=0) (news:=[]) (.int .i64 0) 1 8 (1) ([.int .i64 no]) zo Tryz.underlying31 (by kernel_rfl) rfl (by decide) zx o29 zy (.inl ⟨none,0,rfl,rfl,rfl⟩) rfl (by simp) (by unfold maxLen;omega) (by omega) hB.size (by rfl) (by rfl) fun px30 cx30 W30 o30 hg30 hb30=>?_
 refine zK _ _ (Zr hb30 hg30 o29 (by decide)) ?_
 have k2:=((n2.blk.below (Zb W2)).below n28.below).grown hg30 o29 (by decide)
 have g2:=n2.ge n1.below
 refine ysv (.o [7] 8) k2 [.slice px30 1 cx30,.int .i64 er] (.t w.heap.size [3,33]) fun W31 u31 k31=>⟨(Zm u31 k2 g2 (by decide)),?_⟩
 have hB'8:=u31.below (hB.trans hb30) g2
 have o30'1:=u31.own2 o30 k2 (by decide)
 exact xec 3 k31 (.agg #[.slice px30 1 cx30,.int .i64 er]) ⟨_,rfl,hB'8,_,_,rfl,o30'1⟩
def FltO(no er:Int)(w:World)(e:Ending)(w':World):Prop:=∃ a c,e=.returned (.agg #[.slice a (fltL no er).length c,.int .i64 er])∧Below w.heap.size w w'∧w'.ownsRow w.heap.size 3 1 (.slice a (fltL no er).length c) (fltL no er).length ((fltL no er).map (Value.int .i64))
theorem ref05_AtP(no er:Int)(w:World):Calls Tryz.prog 41 #[.int .i64 no,.agg #[.slice none 0 0,.int .i64 er]] w (FltO no er w):=by
 by_cases he:er=0
 ·subst he
  refine(Zef no w).mono ?_
  rintro e W ⟨rfl,hb⟩
  exact⟨none,0,rfl,hb,World.ownsRow_nil _ _ _ _⟩
 ·refine(Zf7 no er w he).mono ?_
  rintro e W ⟨_,rfl,hb,a,c,rfl,ho⟩
  rw[FltO,fltL_nz he]
  exact⟨a,c,rfl,hb,ho⟩
theorem ref11_At(no er:Int)(w:World) :
 Calls Tryz.prog 36 #[.int .i64 no,.int .i64 er] w (FltO no er w):=by
 refine zin 9 Tryz.func36 ?_
 refine xa 2 [.slice none 0 0,.int .i64 0] 33 fun b1 W1 n1=>?_
 refine xc 7 (args:=#[.int .i64 no,.agg #[.slice none 0 0,.int .i64 er]]) (ref05_AtP no er _) ?_
 rintro _ W2 ⟨a5,c5,rfl,hb2,hs5⟩
 have k1:=n1.blk.below hb2
 refine xsv 0 k1 [.slice a5 ((fltL no er).length) c5,.int .i64 er] fun W3 u3 k3=>?_
 have g1:=n1.ge (Below.refl w.heap.size _)
 have hB:=u3.below (bln n1.below hb2) g1
 have hs5'1:=u3.own2 (Zf hs5 n1.below.size) k1 (by decide)
 exact xec 3 k3 (.agg #[.slice a5 ((fltL no er).length) c5,.int .i64 er]) ⟨_,_,rfl,hB,hs5'1⟩
theorem raw1(l:List UInt8)(k:Nat):Zj l k 1=(l.getD k 0).toNat:=by simp[Zj]
theorem raw2(l:List UInt8)(k:Nat):Zj l k 2=(l.getD k 0).toNat+256*(l.getD (k+1) 0).toNat:=by simp[Zj]
theorem BysM.elem{w:World}{a:Option Addr}{n c:Nat}{l:List UInt8}(h:Bys w (.slice a n c) l)(hl:l.length=n){k:Nat}(hk:k<n):a.isSome=true∧w.cell? (Xi a (k*1))=some (.int .u8 (↑(l.getD k 0).toNat:Int)):=by
 subst hl;exact Bys.elem h hk
theorem slN_of{w:World}{v:Value}{n:Nat}{l:List UInt8}(h:Bys w v l)(hl:l.length=n):Sl w v n (l.map bv):=by subst hl;exact h
theorem Ts{l:List UInt8}{k m n:Nat}(h:l.length=n)(hk:k≤m)(hm:m≤n):((l.drop k).take (m-k)).length=m-k:=by simp;omega
theorem ask_sum{kind no:Int}{l:List UInt8}(hl:l.length=256):(!(((l.drop 252).take 4)==leB ((Lg l kind:Nat):Int) 4))=Hh kind no l 2:=by
 have h1:=leB_raw (l:=l) (k:=252) (w:=4) (by omega)
 have hs:Lg l kind<256 ^ 4:=by
  have:=Nat.xor_lt_two_pow (n:=32) (Gu (l.take 252)) (Mn kind)
  unfold Lg;exact this
 have hr:=Mq l 4 252
 show _=((Zj l 252 4:Int) != (Lg l kind:Int))
 rw[←h1]
 by_cases e:Zj l 252 4=Lg l kind
 ·rw[e];simp
 ·have e2:leB (Zj l 252 4:Int) 4≠leB (Lg l kind:Int) 4:=fun h=>e (leB_inj hr hs h)
  rw[beq_false_of_ne e2,bne_iff_ne.2 (by omega)];rfl
theorem Zbb(kind no:Int)(a:Option Addr)(c:Nat)(l:List UInt8)(w:World)(hl:l.length≠256)(h:Bys w (.slice a l.length c) l) :
 Calls Tryz.prog 151 #[.slice a l.length c,.int .i64 kind,.int .i64 no] w (OpenP kind no l w):=by
 refine zin 61 Tryz.func151 ?_
 refine xr 11 (args:=#[.int .i64 kind,.int .i64 no]) (Oh kind no _) fun W1 hb1=>?_
 refine xi 3 (!(Kz kind no)) (fun hc2=>?_) (fun hc2=>?_)
 ·have hk1:Hh kind no l 0=true:=hc2
  refine xe 8 (.tuple #[.slice none 0 0,.int .i64 1]) ?_
  have he:Yo kind no l=1:=by simp[Yo,hk1]
  exact .inl ⟨by rw[he];decide,by rw[he],hb1⟩
 have hk1:Hh kind no l 0=false:=hc2
 have hkb:Kz kind no=true:=by simpa using hc2
 refine xk 10 (show(((↑l.length:Int) != (256:Int)):Bool)=true from bne_iff_ne.2 (by omega)) ?_
 refine xe 8 (.tuple #[.slice none 0 0,.int .i64 7]) ?_
 have hk2:Hh kind no l 1=true:=bne_iff_ne.2 (by omega)
 have he:Yo kind no l=7:=by simp[Yo,hk1,hk2]
 exact .inl ⟨by rw[he];decide,by rw[he],hb1⟩
theorem Ib(kind no:Int)(a:Option Addr)(c:Nat)(l:List UInt8)(w:World)(hl256:l.length=256)(h:Bys w (.slice a 256 c) l) :
 Calls Tryz.prog 151 #[.slice a 256 c,.int .i64 kind,.int .i64 no] w (OpenP kind no l w):=by
 have hcap:=h.cap hl256
 have hk2:Hh kind no l 1=false:=bne_eq_false_iff_eq.2 (by rw[hl256];rfl)
 refine zin 61 Tryz.func151 ?_
 refine xr 11 (args:=#[.int .i64 kind,.int .i64 no]) (Oh kind no _) fun W1 hb1=>?_
 refine xi 3 (!(Kz kind no)) (fun hc2=>?_) (fun hc2=>?_)
 ·have hk1:Hh kind no l 0=true:=hc2
  refine xe 8 (.tuple #[.slice none 0 0,.int .i64 1]) ?_
  have he:Yo kind no l=1:=by simp[Yo,hk1]
  exact .inl ⟨by rw[he];decide,by rw[he],hb1⟩
 have hk1:Hh kind no l 0=false:=hc2
 have hkb:Kz kind no=true:=by simpa using hc2
 refine xd 15 .z ?_
 refine xsL (.e [0] 1) (fun _ _ _ _ zo zx zy V=>Qs (k:=252) (b:=a) (n:=256) (c:=c) (i:=252) (ki:=.i64) 1 zo zx zy rfl (by omega) Tryz.underlying22 (by kernel_rfl) V) ?_
 have hB:=bln hb1 (Zb W1)
 refine xcv (.e [] 2) (fun _ _ _ zo zx V hV=>Jh zo zx ((Bys.cut h hl256 252 256 (by decide) (Nat.le_refl _)).below (bln hB hV)) (Ts (m:=256) hl256 (by decide) (by decide)) Tryz.underlying22 Tryz.underlying5 Tryz.underlying9) ?_
 refine xsH (.e [3] 4) (fun _ _ _ _ zo zx zy V=>Yt (k:=252) (b:=a) (n:=256) (c:=c) (i:=252) (ki:=.i64) zo zx zy rfl (by omega) Tryz.underlying22 (by kernel_rfl) V) ?_
 refine xr (.o [6] 5) (args:=#[.slice a 252 c]) (ref_SumN a 252 c (l.take 252) _ (by simp;omega) (by decide) ((Bys.take h hl256 252 (by omega)).below hB)) fun W3 hb3=>?_
 refine xr (.o [] 7) (args:=#[.int .i64 kind]) (ref_Salt kind (Rv hkb).1 (Rv hkb).2.1 _) fun W4 hb4=>?_
 refine xq (.e [] 8) (congrArg (Value.int .i64) (show(IntKind.i64.wrap (↑(BitVec.ofInt 64 (↑(Ga (l.take 252)):Int) ^^^ BitVec.ofInt 64 (↑(Pe kind):Int)).toNat:Int):Int)=(↑(Lg l kind):Int) from Et (Gu (l.take 252)) (Mn kind))) ?_
 refine yc (.o [] 9) (args:=#[.int .i64 (↑(Lg l kind):Int),.int .i64 4]) .z (Sk (↑(Lg l kind):Int) 4 4 _ (Int.natCast_nonneg _) (by have:=Nat.xor_lt_two_pow (n:=32) (Gu (l.take 252)) (Mn kind);unfold Lg;omega) rfl (by decide)) ?_
 rintro _ W5 ⟨_,rfl,hb5,p4,c4,rfl,h4⟩
 have hs5:=(bln (bln hB hb3) hb4).size
 refine⟨hb5,?_⟩
 have h4'1:=Zf h4 hs5
 refine xcv (.e [] 10) (fun _ _ _ zo zx V hV=>Jh zo zx (Jv (Zg (Za h4'1 hV)) (Zu _ _)) (Zu _ _) Tryz.underlying22 Tryz.underlying5 Tryz.underlying9) ?_
 refine xi (.r [11] 2) (!((⟨((l.drop 252).take 4).toArray⟩:ByteArray).toList==(⟨(leB (↑(Lg l kind):Int) 4).toArray⟩:ByteArray).toList)) (fun hc6=>?_) (fun hc6=>?_)
 ·have hk3:Hh kind no l 2=true:=by rw[←ask_sum hl256,←Tk];exact hc6
  have hB'1:=bln (bln (bln hB hb3) hb4) hb5
  refine xe 8 (.tuple #[.slice none 0 0,.int .i64 4]) ?_
  have he:Yo kind no l=4:=by simp[Yo,hk1,hk2,hk3]
  exact .inl ⟨by rw[he];decide,by rw[he],hB'1⟩
 have hk3:Hh kind no l 2=false:=by rw[←ask_sum hl256,←Tk];exact hc6
 have hB'2:=bln (bln (bln hB hb3) hb4) hb5
 refine xr 5 (args:=#[.slice a 256 c,.int .i64 0,.int .i64 4]) (Tz a 256 c 0 4 0 4 l _ hl256 rfl rfl (by decide) (by decide) (by decide) (h.below hB'2)) fun W7 hb7=>?_
 refine xin 15 (↑(Zj l 0 4):Int) no (fun hc8=>?_) (fun hc8=>?_)
 ·have hk4:Hh kind no l 3=true:=bne_iff_ne.2 hc8
  have hB'3:=bln hB'2 hb7
  refine xe 8 (.tuple #[.slice none 0 0,.int .i64 5]) ?_
  have he:Yo kind no l=5:=by simp[Yo,hk1,hk2,hk3,hk4]
  exact .inl ⟨by rw[he];decide,by rw[he],hB'3⟩
 have hk4:Hh kind no l 3=false:=bne_eq_false_iff_eq.2 hc8
 have hB'4:=bln hB'2 hb7
 refine xr 5 (args:=#[.slice a 256 c,.int .i64 4,.int .i64 2]) (Tz a 256 c 4 2 4 2 l _ hl256 rfl rfl (by decide) (by decide) (by decide) (h.below hB'4)) fun W9 hb9=>?_
 refine xin 15 (↑(Zj l 4 2):Int) kind (fun hc10=>?_) (fun hc10=>?_)
 ·have hk5:Hh kind no l 4=true:=bne_iff_ne.2 hc10
  have hB'5:=bln hB'4 hb9
  refine xe 8 (.tuple #[.slice none 0 0,.int .i64 6]) ?_
  have he:Yo kind no l=6:=by simp[Yo,hk1,hk2,hk3,hk4,hk5]
  exact .inl ⟨by rw[he];decide,by rw[he],hB'5⟩
 have hk5:Hh kind no l 4=false:=bne_eq_false_iff_eq.2 hc10
 refine xx 6 _ 256 6 1 (BysM.elem h hl256 (k:=6) (by omega)).1 ?_
 have hB'6:=bln hB'4 hb9
 refine xl 0 ((BysM.elem (h.below hB'6) hl256 (k:=6) (by omega)).2) ?_
 refine xg 2 [50,51] ((↑(l.getD 6 0).toNat:Int) != (0:Int)) (fun hc11=>?_) (fun hc11=>?_)
 ·have hc11:=Vp hc11
  refine xe 16 (.tuple #[.slice none 0 0,.int .i64 7]) ?_
  have hk6:Hh kind no l 5=true:=bne_iff_ne.2 (by have h26:Zj l 6 2=(l.getD 6 0).toNat+256*(l.getD 7 0).toNat:=raw2 l 6;omega)
  have he:Yo kind no l=7:=by simp[Yo,hk1,hk2,hk3,hk4,hk5,hk6]
  exact .inl ⟨by rw[he];decide,by rw[he],hB'6⟩
 have hc11:=Xq hc11
 refine xx 1 _ 256 7 1 (BysM.elem h hl256 (k:=7) (by omega)).1 ?_
 refine xl 0 ((BysM.elem (h.below hB'6) hl256 (k:=7) (by omega)).2) ?_
 refine xin 4 (↑(l.getD 7 0).toNat:Int) (0:Int) (fun hc12=>?_) (fun hc12=>?_)
 ·refine xe 8 (.tuple #[.slice none 0 0,.int .i64 7]) ?_
  have hk6:Hh kind no l 5=true:=bne_iff_ne.2 (by have h26:Zj l 6 2=(l.getD 6 0).toNat+256*(l.getD 7 0).toNat:=raw2 l 6;omega)
  have he:Yo kind no l=7:=by simp[Yo,hk1,hk2,hk3,hk4,hk5,hk6]
  exact .inl ⟨by rw[he];decide,by rw[he],hB'6⟩
 refine xb0 4 5 fun b13 W13 n13=>?_
 have g13:=n13.ge hB'6
 have h4'2:=Za (Za h4'1 hb7) hb9
 have r13_h4:=Zp h4'2 n13
 refine xsB 1 (fun _ _ _ _ _ zo zx zy zz V=>Qk (k:=8) (h:=252) (b:=a) (n:=256) (c:=c) (i:=8) (ki:=.i64) (j:=252) (kj:=.i64) 1 zo zx zy rfl zz rfl (by omega) (by omega) Tryz.underlying22 (by kernel_rfl) V) ?_
 have o13:=Xb (size:=1) (n:=0) n13.blk g13 rfl (by decide)
 have hB'7:=bln hB'6 n13.below
 refine xbi 0 fun _ _ _ _ zJ zQ zo zx zy zK=>Zt (m:=(252-8)) (news:=(((l.drop 8).take (252-8)).map bv)) (.int .u8 0) 1 1 (244) ((((l.drop 8).take 244).map bv)) zo Tryz.underlying22 (by kernel_rfl) rfl (by decide) zx o13 zy (slN_of ((Bys.cut h hl256 8 252 (by decide) (by decide)).below hB'7) (by simp;omega)) (by simp;omega) (Ks _) (by unfold maxLen;omega) (by omega) hB'7.size (by rfl) (by rfl) fun px14 cx14 W14 o14 hg14 hb14=>?_
 refine zK _ _ ?_
 have hB'8:=hB'7.trans hb14
 refine xe 5 (.tuple #[.slice px14 244 cx14,.int .i64 0]) ?_
 have hk6:Hh kind no l 5=false:=by have h26:Zj l 6 2=(l.getD 6 0).toNat+256*(l.getD 7 0).toNat:=raw2 l 6;exact bne_eq_false_iff_eq.2 (by omega)
 exact .inr ⟨by simp[Yo,hk1,hk2,hk3,hk4,hk5,hk6],_,_,rfl,hB'8,o14⟩
theorem ref_Open(kind no:Int)(a:Option Addr)(n c:Nat)(l:List UInt8)(w:World)(hn:l.length=n)(h:Bys w (.slice a n c) l):Calls Tryz.prog 151 #[.slice a n c,.int .i64 kind,.int .i64 no] w (OpenP kind no l w):=by
 by_cases hl:l.length=256
 ·obtain rfl:n=256:=by omega
  exact Ib kind no a c l w hl h
 ·subst hn;exact Zbb kind no a c l w hl h
theorem Ff(B bm:Nat)(p:Option Addr)(k c:Nat)(l:List UInt8)(w:World)(hI:RefI B bm p k c l w)(no:Int)(ho:¬ (0≤no∧no<(k:Int))) :
 Calls Tryz.prog 150 #[.pointer (some ⟨bm,0,none⟩),.int .i64 no] w (Ret (.tuple #[.slice none 0 0,.int .i64 3]) w):=by
 have hk:=hI.blk
 have hkl:=hI.hk
 have hll:=hI.hl
 refine zin 25 Tryz.func150 ?_
 refine xg 12 [7,8] (decide (no<(0:Int))) (fun hc1=>?_) (fun hc1=>?_)
 ·have hc1:=of_decide_eq_true hc1
  exact xe 19 (.tuple #[.slice none 0 0,.int .i64 3]) ⟨rfl,(Below.refl w.heap.size _)⟩
 have hc1:=of_decide_eq_false hc1
 refine xb 4 0 hk ?_
 refine xk 5 (show(decide (no≥(↑k:Int)):Bool)=true from decide_eq_true (by omega)) ?_
 exact xe 8 (.tuple #[.slice none 0 0,.int .i64 3]) ⟨rfl,(Below.refl w.heap.size _)⟩
theorem Re(B bm:Nat)(p:Option Addr)(k c:Nat)(l:List UInt8)(w:World)(hI:RefI B bm p k c l w)(j:Nat)(hj:j<k) :
 Calls Tryz.prog 150 #[.pointer (some ⟨bm,0,none⟩),.int .i64 (↑j:Int)] w (Vx (fun w' r=>∃ b c2,r=.tuple #[.slice (some ⟨b,0,none⟩) 256 c2,.int .i64 0]∧Bys w' (.slice (some ⟨b,0,none⟩) 256 c2) (Ju l j)) w):=by
 have hk:=hI.blk
 have hkl:=hI.hk
 have hll:=hI.hl
 have hr:=Zg hI.row
 have hgj:(Wa l k).getD j []=Ju l j:=blksL_get l hj
 have hgl:((Wa l k).getD j []).length=256:=by rw[hgj];exact Kq (by omega)
 refine zin 25 Tryz.func150 ?_
 refine xgk 12 [7,8] (show(decide ((↑j:Int)<(0:Int)):Bool)=false from decide_eq_false (by omega)) ?_
 refine xb 4 0 hk ?_
 refine xk 5 (show(decide ((↑j:Int)≥(↑k:Int)):Bool)=false from decide_eq_false (by omega)) ?_
 refine xb 7 0 hk ?_
 refine xx 1 _ k j 1 (Strs.elem hr (Om l k) (k:=j) (by omega)).1 ?_
 refine xl 0 ((Strs.elem hr (Om l k) (k:=j) (by omega)).2) ?_
 refine xcf 0 fun _ _ _ zJ zQ zo zx zK=>Kc ((Wa l k).getD j []) zo zx Tryz.underlying9 Tryz.underlying22 Tryz.underlying5 (by omega) ?_
 intro bz cz W2 hb2 hbz
 refine zK _ _ ?_
 refine xe 5 (.tuple #[.slice (some ⟨bz,0,none⟩) (((Wa l k).getD j []).length) cz,.int .i64 0]) ?_
 rw[hgl]
 rw[hgl,hgj] at hbz
 exact⟨_,rfl,hb2,_,_,rfl,hbz⟩
def RReadP(k:Nat)(l:List UInt8)(no:Int)(w:World)(e:Ending)(w':World):Prop :=
 (¬ (0≤no∧no<(k:Int))∧e=.returned (.tuple #[.slice none 0 0,.int .i64 3])∧Below w.heap.size w w') ∨
 (∃ j:Nat,no=(j:Int)∧j<k∧∃ b c,e=.returned (.tuple #[.slice (some ⟨b,0,none⟩) 256 c,.int .i64 0])∧Below w.heap.size w w'∧Bys w' (.slice (some ⟨b,0,none⟩) 256 c) (Ju l j))
theorem Zb7(B bm:Nat)(p:Option Addr)(k c:Nat)(l:List UInt8)(w:World)(hI:RefI B bm p k c l w)(no:Int) :
 Calls Tryz.prog 150 #[.pointer (some ⟨bm,0,none⟩),.int .i64 no] w (RReadP k l no w):=by
 by_cases h:0≤no∧no<(k:Int)
 ·obtain⟨j,rfl⟩:∃ j:Nat,no=j:=⟨no.toNat,by omega⟩
  refine(Re B bm p k c l w hI j (by omega)).mono ?_
  rintro e W ⟨_,rfl,hb,b,c2,rfl,ho⟩
  exact .inr ⟨j,rfl,by omega,_,_,rfl,hb,ho⟩
 ·refine(Ff B bm p k c l w hI no h).mono ?_
  rintro e W ⟨rfl,hb⟩
  exact .inl ⟨h,rfl,hb⟩
def RInP(l:List UInt8)(kind no:Int)(w:World)(e:Ending)(w':World):Prop :=
 (inE l kind no≠0∧e=.returned (.tuple #[.slice none 0 0,.int .i64 (inE l kind no)])∧Below w.heap.size w w') ∨
 (inE l kind no=0∧(inB l no).length=244∧∃ p c,e=.returned (.tuple #[.slice p 244 c,.int .i64 0])∧Below w.heap.size w w'∧w'.ownsRow w.heap.size 5 1 (.slice p 244 c) 244 ((inB l no).map bv))
theorem ref11_in(B bm:Nat)(p:Option Addr)(k c:Nat)(l:List UInt8)(w:World)(hI:RefI B bm p k c l w)(no:Int)(kind:Int) :
 Calls Tryz.prog 102 #[.pointer (some ⟨bm,0,none⟩),.int .i64 no,.int .i64 kind] w (RInP l kind no w):=by
 have hll:=hI.hl
 refine zin 25 Tryz.func102 ?_
 refine xc 10 (args:=#[.pointer (some ⟨bm,0,none⟩),.int .i64 no]) (Zb7 B bm p k c l _ (hI.below (Below.refl w.heap.size _)) no) ?_
 rintro e W1 hq1
 rcases hq1 with ⟨ho,rfl,hb1⟩|⟨j,hnj,hj,b3,c3,rfl,hb1,hbz⟩
 ·refine xe 24 (.tuple #[.slice none 0 0,.int .i64 3]) ?_
  have he:inE l kind no=3:=Zbl (n:=k*256) hI.hl (by omega)
  exact .inl ⟨by rw[he];decide,by rw[he],hb1⟩
 have hin:inE l kind no=Yo kind no (Ju l j):=Zgu (n:=k*256) hI.hl hnj (by omega)
 have hib:inB l no=((Ju l j).drop 8).take 244:=inB_in hnj
 refine xc 22 (args:=#[.slice (some ⟨b3,0,none⟩) 256 c3,.int .i64 kind,.int .i64 no]) (ref_Open kind no _ 256 c3 (Ju l j) _ (Kq (by omega)) hbz) ?_
 rintro e W2 hq2
 rcases hq2 with ⟨hs,rfl,hb2⟩|⟨hs,p2,c2,rfl,hb2,h2⟩
 ·have hB:=bln hb1 hb2
  exact xe 7 (.tuple #[.slice none 0 0,.int .i64 (Yo kind no (Ju l j))]) (.inl ⟨by rw[hin];exact hs,by rw[hin],hB⟩)
 have hB:=bln hb1 hb2
 have h2'1:=Zf h2 hb1.size
 exact xe 7 (.tuple #[.slice p2 244 c2,.int .i64 0]) (.inr ⟨by rw[hin,hs],by rw[hib];simp[Kq (show j<l.length/256 by omega)],_,_,rfl,hB,by rw[hib];exact h2'1⟩)
def Kx(t:Int)(leaf:Bool)(n m v:Nat):List UInt8:=leB (Ul leaf) 1++leB t 1++leB (n:Int) 2++leB (v:Int) 2++leB (m:Int) 2++leB 0 4
theorem Km(t:Int)(leaf:Bool)(n m v:Nat):(Kx t leaf n m v).length=12:=by simp[Kx,Zu]
def Hv(m v:Nat)(H:List UInt8)(K:List Int)(Vs:List (List UInt8)):Nat→List UInt8
 | 0=>Kr (List.replicate 244 0) 0 H
 | i+1=>Kr (Kr (Hv m v H K Vs i) (12+i*8) (leB (K.getD i 0) 8)) (12+m*8+i*v) (Vs.getD i [])
theorem Eh{m v:Nat}{H:List UInt8}{K:List Int}{Vs:List (List UInt8)}(hH:H.length=12)(hf:12+m*8+m*v≤244):∀ {i:Nat},i≤m→(∀ j,j<i→(Vs.getD j []).length=v)→(Hv m v H K Vs i).length=244
 | 0,_,_=>by rw[Hv,Qn (by rw[List.length_replicate];omega),List.length_replicate]
 | i+1,hi,hV=>by
  have ih:=Eh (K:=K) hH hf (i:=i) (by omega) (fun j hj=>hV j (by omega))
  have h1:=hV i (by omega)
  have h2:(i+1)*v≤m*v:=Nat.mul_le_mul_right v hi
  rw[Nat.add_mul,Nat.one_mul] at h2
  have h3:(Kr (Hv m v H K Vs i) (12+i*8) (leB (K.getD i 0) 8)).length=244:=by rw[Qn (by rw[Zu,ih];omega),ih]
  rw[Hv,Qn (by rw[h1,h3];omega),h3]
theorem node_Put(t:Int)(leaf:Bool)(n m v:Nat)(K:List Int)(Vs:List (List UInt8))(ak av:Option Addr)(ck cv:Nat)(w:World)(N:NodeOk t leaf n m v K Vs)(hKs:Sl w (.slice ak n ck) n (K.map (Value.int .i64)))(hVs:Sl w (.slice av n cv) n (Vs.map sv)) :
 Calls Tryz.prog 109 #[.agg #[.int .i64 t,.bool leaf,.slice ak n ck,.slice av n cv]] w (Vx (fun w' r=>∃ p c,r=.tuple #[.slice p 244 c,.int .i64 0]∧w'.ownsRow w.heap.size 5 1 (.slice p 244 c) 244 ((Hv m v (Kx t leaf n m v) K Vs n).map bv)) w):=by
 have ht1:=N.ht1
 have ht2:=N.ht2
 have hnm:=N.hn
 have hwb:=Ee t leaf
 rw[N.hv] at hwb
 have hmb:=Yv t leaf
 rw[N.hm] at hmb
 have hfit:=fitN t leaf
 rw[N.hm,N.hv] at hfit
 have hcap:=Sl.cap hKs
 refine zin 90 Tryz.func109 ?_
 refine xa 2 [.int .i64 t,.bool leaf,.slice ak n ck,.slice av n cv] 220 fun b1 W1 n1=>?_
 refine xlv 7 n1.blk.rp ?_
 refine xr 0 (args:=#[.agg #[.int .i64 t,.bool leaf,.slice ak n ck,.slice av n cv]]) (Zfw t leaf n m v K Vs ak av ck cv _ N (hKs.below n1.below) (hVs.below n1.below)) fun W2 hb2=>?_
 refine xd 7 .z ?_
 have k1'1:=(n1.blk.below hb2).below (Zb W2)
 refine xb (.e [0] 1) 0 k1'1 ?_
 refine xb (.e [2] 3) 1 k1'1 ?_
 refine xb (.e [5] 6) 0 k1'1 ?_
 refine xb (.e [7] 8) 1 k1'1 ?_
 refine xr (.o [] 4) (args:=#[.int .i64 t,.bool leaf]) (Py t leaf v N.hv ht1 ht2 _) fun W3 hb3=>?_
 refine xr (.o [] 9) (args:=#[.int .i64 t,.bool leaf]) (Du t leaf m N.hm ht1 ht2 _) fun W4 hb4=>?_
 refine xd (.r [10,11] 3) .z ?_
 have k1'2:=((k1'1.below hb3).below hb4).below (Zb W4)
 refine xb (.e [0] 1) 1 k1'2 ?_
 refine xb (.e [4] 5) 0 k1'2 ?_
 refine xb (.e [6,7] 8) 2 k1'2 ?_
 refine xr (.o [9,10,11,12,13,14,15] 2) (args:=#[.bool leaf]) (node_flag leaf _) fun W5 hb5=>?_
 refine xbs (.o [3] 16) 6 [.int .i64 1,.int .i64 (Ul leaf),.int .i64 1,.int .i64 t,.int .i64 2,.int .i64 (↑n:Int),.int .i64 2,.int .i64 (↑v:Int),.int .i64 2,.int .i64 (↑m:Int),.int .i64 4,.int .i64 0] 226 fun b6 W6 n6=>?_
 have hB'1:=bln (bln (bln (bln (bln (bln n1.below hb2) (Zb W2)) hb3) hb4) (Zb W4)) hb5
 have g6:=n6.ge hB'1
 refine yc (.o [] 17) (args:=#[.slice (some ⟨b6,0,none⟩) 6 6]) .z (Pack_node b6 (Ul leaf) t (n:Int) (v:Int) (m:Int) (Aa leaf).1 (Aa leaf).2 (by omega) (by omega) (by omega) (by omega) (by omega) (by omega) (by omega) (by omega) _ n6.blk) ?_
 rintro _ W7 ⟨_,rfl,hb7,p2,c2,rfl,h2⟩
 have hs7:=(bln hB'1 n6.below).size
 refine⟨hb7,?_⟩
 refine xmk (.r [18,19,20,21,22] 4) fun _ _ _ _ zJ zQ zo zx zy zK=>Uf 244 (.int .u8 0) 1 1 ((List.replicate 244 (0:UInt8)).map bv) zo zx zy Tryz.underlying22 (by kernel_rfl) rfl (by omega) (by omega) (zerosB 244) fun b8 W8 n8=>?_
 have hB'2:=bln (bln hB'1 n6.below) hb7
 have g8:=n8.ge hB'2
 have h2'1:=Zf h2 hs7
 have r8_h2:=Zp h2'1 n8
 refine zK _ _ ?_
 have o8:=Xb (size:=1) (n:=244) n8.blk g8 (by rw[List.length_map,List.length_replicate]) (by unfold maxLen;omega)
 have h2'2:=Za h2'1 n8.below
 have hB'3:=bln hB'2 n8.below
 refine xbi 7 (t2:=22) fun _ _ _ _ zJ zQ zo zx zy zK=>Ld (dLen:=244) (dCap:=244) (off:=0) 12 ((Kx t leaf n m v).map bv) ((Hv m v (Kx t leaf n m v) K Vs 0).map bv) zo Tryz.underlying22 (by kernel_rfl) zx zy (Zg h2'2) o8 (by simp[Km]) (by omega) (by omega) (Ks _) hB'3.size (by simp[Hv,Kr,Km]) fun W9 o9 hg9 hb9=>?_
 refine zK _ _ ?_
 have k1'3:=((((k1'2.below hb5).below n6.below).below hb7).below n8.below).grown hg9 o8 (by decide)
 refine xb 6 2 k1'3 ?_
 have hB'4:=hB'3.trans hb9
 have k6'1:=((n6.blk.below hb7).below n8.below).grown hg9 o8 (by decide)
 refine zl 5 90 (fun zm zkv V=>∃ (i:Nat),zkv=[(1,.pointer (some ⟨b1,0,none⟩)),(2,.slice none 0 0),(3,.int .i64 0),(4,.int .i64 (↑v:Int)),(5,.int .i64 (↑m:Int)),(8,.slice (some ⟨b8,0,none⟩) 244 244),(52,.slice ak n ck),(53,.int .i64 (↑n:Int)),(54,.int .i64 (↑i:Int))]∧zm=n-((↑i:Int)).toNat∧Below w.heap.size w V∧Blk V b1 ([.int .i64 t,.bool leaf,.slice ak n ck,.slice av n cv]) 220∧Blk V b6 ([.int .i64 1,.int .i64 (Ul leaf),.int .i64 1,.int .i64 t,.int .i64 2,.int .i64 (↑n:Int),.int .i64 2,.int .i64 (↑v:Int),.int .i64 2,.int .i64 (↑m:Int),.int .i64 4,.int .i64 0]) 226∧V.ownsRow w.heap.size 5 1 (.slice (some ⟨b8,0,none⟩) 244 244) 244 ((Hv m v (Kx t leaf n m v) K Vs i).map bv)∧i≤n) ⟨0,rfl,rfl,hB'4,k1'3,k6'1,o9,Nat.zero_le _⟩ ?_
 rintro _ _ W10 ⟨i,rfl,rfl,hB_10,k10_b1,k10_b6,ho,hi⟩ J10 hJ10 r10
 have hb9:i<n→i*v+v≤m*v:=fun h=>by have h9:(i+1)*v≤m*v:=Nat.mul_le_mul_right v (by omega);rw[Nat.add_mul,Nat.one_mul] at h9;exact h9
 refine xid 6 ((↑i:Int)<(↑n:Int)) (fun hc11=>?_) (fun hc11=>?_)
 ·refine xx 7 _ n i 1 (IntsN.elem hKs N.hK (k:=i) (by omega)).1 ?_
  refine xl 0 ((IntsN.elem (hKs.below hB_10) N.hK (k:=i) (by omega)).2) ?_
  refine xbs 8 1 [.int .i64 8,.int .i64 (K.getD i 0)] 226 fun b12 W12 n12=>?_
  have d12_b6:=n12.ne k10_b6
  have g12:=n12.ge hB_10
  refine xc 0 (args:=#[.slice (some ⟨b12,0,none⟩) 1 1]) (Pack_8 b12 (K.getD i 0) (N.hk0 i (by omega)).1 _ n12.blk) ?_
  rintro _ W13 ⟨_,rfl,hb13,p3,c3,rfl,h3⟩
  have hs13:=(bln hB_10 n12.below).size
  refine xwm 11 ((↑i:Int)*8) (↑(i*8):Int) ?_
  refine xwm 0 (12+(↑(i*8):Int)) (↑(12+(i*8)):Int) ?_
  refine xsL 0 (fun _ _ _ _ zo zx zy V=>Wu (k:=(12+(i*8))) (b:=b8) (off:=0) (n:=244) (c:=244) (i:=(↑(12+(i*8)):Int)) (ki:=.i64) 1 zo zx zy rfl (by omega) (by omega) Tryz.underlying22 (by kernel_rfl) V) ?_
  have ho'1:=Za (Za ho n12.below) hb13
  have h3'1:=Zf h3 hs13
  have hB'5:=bln (bln hB_10 n12.below) hb13
  refine xbi 1 (t2:=22) fun _ _ _ _ zJ zQ zo zx zy zK=>Ld (dLen:=(244-(12+(i*8)))) (dCap:=(244-(12+(i*8)))) (off:=(0+(12+(i*8))*1)) 8 ((leB (K.getD i 0) 8).map bv) ((Kr (Hv m v (Kx t leaf n m v) K Vs i) (12+i*8) (leB (K.getD i 0) 8)).map bv) zo Tryz.underlying22 (by kernel_rfl) zx zy (Zg h3'1) ho'1 (by simp[Zu]) (by omega) (by omega) (Ks _) hB'5.size (by simp[Kr,Zu,List.map_take,List.map_drop]) fun W14 o14 hg14 hb14=>?_
  refine zK _ _ ?_
  refine xd 2 (.t w.heap.size [5]) ?_
  refine xwm (.e [0,1] 2) ((↑m:Int)*8) (↑(m*8):Int) ?_
  refine xwm (.e [] 3) (12+(↑(m*8):Int)) (↑(12+(m*8)):Int) ?_
  refine xwm (.e [4,5] 6) ((↑i:Int)*(↑v:Int)) (↑(i*v):Int) ?_
  refine xwm (.e [] 7) ((↑(12+(m*8)):Int)+(↑(i*v):Int)) (↑((12+(m*8))+(i*v)):Int) ?_
  refine xsL (.e [] 8) (fun _ _ _ _ zo zx zy V=>Wu (k:=((12+(m*8))+(i*v))) (b:=b8) (off:=0) (n:=244) (c:=244) (i:=(↑((12+(m*8))+(i*v)):Int)) (ki:=.i64) 1 zo zx zy rfl (by omega) (by omega) Tryz.underlying22 (by kernel_rfl) V) ?_
  have k10_b1'1:=(((k10_b1.below n12.below).below hb13).grown hg14 ho'1 (by decide)).below (Zb W14)
  refine xbt (.e [9] 10) 3 w.heap.size [5] k10_b1'1 ?_
  refine xx (.e [11] 12) _ n i 1 (Strs.elem hVs N.hV (k:=i) (by omega)).1 ?_
  have hB'6:=bln (hB'5.trans hb14) (Zb W14)
  refine xlt (.e [] 13) (.t w.heap.size [5]) (fun V hV=>(Strs.elem (hVs.below (Ku hB'6 hV (Nat.le_refl _))) N.hV (k:=i) (by omega)).2) ?_
  have o14'1:=Za o14 (Zb W14)
  refine ybi (.o [] 14) (t2:=9) (.t w.heap.size [5]) fun _ _ _ _ zJ zQ zo zx zy zK=>op_copyS (dLen:=(244-((12+(m*8))+(i*v)))) (dCap:=(244-((12+(m*8))+(i*v)))) (off:=(0+((12+(m*8))+(i*v))*1)) (Vs.getD i []) ((Hv m v (Kx t leaf n m v) K Vs (i+1)).map bv) zo Tryz.underlying22 (by kernel_rfl) zx zy o14'1 (by rw[N.hw i (by omega)];omega) (by rw[N.hw i (by omega)];omega) hB'6.size (by simp[Hv,Kr,List.map_take,List.map_drop]) fun W15 o15 hg15 hb15=>?_
  refine zK _ _ (Zr hb15 hg15 o14'1 (by decide)) ?_
  refine xwm 4 ((↑i:Int)+1) (↑(i+1):Int) ?_
  have hB'7:=hB'6.trans hb15
  have k10_b1'2:=k10_b1'1.grown hg15 o14'1 (by decide)
  have k10_b6'1:=((((k10_b6.below n12.below).below hb13).grown hg14 ho'1 (by decide)).below (Zb W14)).grown hg15 o14'1 (by decide)
  exact ze 2 (hJ10 _ _ _ ⟨i+1,rfl,rfl,hB'7,k10_b1'2,k10_b6'1,o15,by omega⟩ (by omega))
 refine xe 13 (.tuple #[.slice (some ⟨b8,0,none⟩) 244 244,.int .i64 0]) ?_
 have e:i=n:=by omega
 subst e
 exact⟨_,rfl,hB_10,_,_,rfl,ho⟩
def Qi(K:List Int)(n:Nat)(i:Nat):List UInt8:=(List.range i).flatMap fun j=>if j<n then leB (K.getD j 0) 8 else List.replicate 8 0
theorem Ke(K:List Int)(n i:Nat):Qi K n (i+1)=Qi K n i++(if i<n then leB (K.getD i 0) 8 else List.replicate 8 0):=by
 unfold Qi;rw[List.range_succ,List.flatMap_append];simp
theorem Hf(K:List Int)(n i:Nat):(Qi K n i).length=i*8:=by
 induction i with
 | zero=>rfl
 | succ i ih=>rw[Ke,List.length_append,ih];split<;>simp[Zu]<;>omega
def Vm(Vs:List (List UInt8))(i:Nat):List UInt8:=(List.range i).flatMap fun j=>Vs.getD j []
theorem Uh(Vs:List (List UInt8))(i:Nat):Vm Vs (i+1)=Vm Vs i++Vs.getD i []:=by
 unfold Vm;rw[List.range_succ,List.flatMap_append];simp
theorem Wq{Vs:List (List UInt8)}{v:Nat}:∀ {i:Nat},(∀ j,j<i→(Vs.getD j []).length=v)→(Vm Vs i).length=i*v
 | 0,_=>by simp[Vm]
 | i+1,h=>by rw[Uh,List.length_append,Wq fun j hj=>h j (by omega),h i (by omega),Nat.add_mul,Nat.one_mul]
theorem Ag{P z Q x:List UInt8}{k:Nat}(hk:P.length=k)(hz:z.length=x.length):Kr (P++z++Q) k x=P++x++Q:=by
 unfold Kr
 subst hk
 rw[List.append_assoc P z Q,List.take_left' rfl,←hz]
 have e:P++(z++Q)=(P++z)++Q:=(List.append_assoc _ _ _).symm
 rw[e,List.drop_left' (by simp)]
theorem Hm(K:List Int)(i:Nat):∀ d,Qi K i (i+d)=Qi K i i++List.replicate (d*8) 0
 | 0=>by simp
 | d+1=>by
  rw[←Nat.add_assoc,Ke,Hm K i d,if_neg (by omega),List.append_assoc,List.replicate_append_replicate,Nat.add_mul,Nat.one_mul]
theorem Ln(K:List Int)(n:Nat):∀ i,i≤n→Qi K n i=Qi K i i
 | 0,_=>rfl
 | i+1,h=>by
  rw[Ke,Ke,if_pos (by omega),if_pos (by omega),Ln K n i (by omega),Ln K (i+1) i (by omega)]
theorem Tp(a b:Nat):List.replicate (a+b) (0:UInt8)=List.replicate a 0++List.replicate b 0:=List.replicate_append_replicate.symm
theorem St{m v:Nat}{H:List UInt8}{K:List Int}{Vs:List (List UInt8)}(hH:H.length=12)(hf:12+m*8+m*v≤244):∀ {i:Nat},i≤m→(∀ j,j<i→(Vs.getD j []).length=v) →
  Hv m v H K Vs i=H++Qi K i m++Vm Vs i++List.replicate (232-m*8-i*v) 0
 | 0,_,_=>by
  have e1:=Hm K 0 m
  rw[Nat.zero_add] at e1
  rw[Hv,e1]
  have h1:(232-m*8-0*v)=232-m*8:=by omega
  rw[h1,show(244:Nat)=12+(m*8+(232-m*8)) by omega,Tp,Tp]
  have:=Ag (P:=[]) (z:=List.replicate 12 (0:UInt8)) (Q:=List.replicate (m*8) 0++List.replicate (232-m*8) 0) (x:=H) (k:=0) rfl (by simp[hH])
  rw[List.nil_append,List.nil_append] at this
  rw[this]
  simp[Qi,Vm]
 | i+1,hi,hV=>by
  have ih:=St (K:=K) hH hf (i:=i) (by omega) (fun j hj=>hV j (by omega))
  have hvi:=hV i (by omega)
  have h2:(i+1)*v≤m*v:=Nat.mul_le_mul_right v hi
  rw[Nat.add_mul,Nat.one_mul] at h2
  obtain⟨d,hd⟩:∃ d,m=i+(d+1):=⟨m-i-1,by omega⟩
  have ek:Qi K i m=Qi K i i++List.replicate 8 0++List.replicate (d*8) 0:=by
   rw[hd,Hm,show(d+1)*8=8+d*8 by omega,Tp,List.append_assoc]
  have ek2:Qi K (i+1) m=Qi K i i++leB (K.getD i 0) 8++List.replicate (d*8) 0:=by
   rw[show m=(i+1)+d by omega,Hm,Ke,if_pos (by omega),Ln K (i+1) i (by omega)]
  have er:List.replicate (232-m*8-i*v) (0:UInt8)=List.replicate v 0++List.replicate (232-m*8-(i*v+v)) 0:=by
   rw[←Tp];congr 1;omega
  have hvp:(Vm Vs i).length=i*v:=Wq fun j hj=>hV j (by omega)
  rw[Hv,ih,ek,er]
  have s1:=Ag (P:=H++Qi K i i) (z:=List.replicate 8 (0:UInt8)) (Q:=List.replicate (d*8) 0++(Vm Vs i++(List.replicate v 0++List.replicate (232-m*8-(i*v+v)) 0))) (x:=leB (K.getD i 0) 8) (k:=12+i*8) (by rw[List.length_append,hH,Hf]) (by simp[Zu])
  have a1:H++(Qi K i i++List.replicate 8 0++List.replicate (d*8) 0)++Vm Vs i++(List.replicate v 0++List.replicate (232-m*8-(i*v+v)) 0)=H++Qi K i i++List.replicate 8 0++(List.replicate (d*8) 0++(Vm Vs i++(List.replicate v 0++List.replicate (232-m*8-(i*v+v)) 0))):=by simp only[List.append_assoc]
  rw[a1,s1]
  have s2:=Ag (P:=H++Qi K (i+1) m++Vm Vs i) (z:=List.replicate v (0:UInt8)) (Q:=List.replicate (232-m*8-(i*v+v)) 0) (x:=Vs.getD i []) (k:=12+m*8+i*v) (by rw[List.length_append,List.length_append,hH,Hf,hvp]) (by rw[List.length_replicate,hvi])
  have a2:H++Qi K i i++leB (K.getD i 0) 8++(List.replicate (d*8) 0++(Vm Vs i++(List.replicate v 0++List.replicate (232-m*8-(i*v+v)) 0)))=H++Qi K (i+1) m++Vm Vs i++List.replicate v 0++List.replicate (232-m*8-(i*v+v)) 0:=by rw[ek2];simp only[List.append_assoc]
  rw[a2,s2,Uh,Nat.add_mul,Nat.one_mul]
  simp only[List.append_assoc]
theorem Lz(w:World) :
 Calls Tryz.prog 223 #[.int .i64 1,.bool true] w (Ret (.int .i64 4) w):=by
 refine zin 19 Tryz.func223 ?_
 refine xbs 7 6 [.int .i64 0,.int .i64 4,.int .i64 8,.int .i64 24,.int .i64 16,.int .i64 4] 3 fun b1 W1 n1=>?_
 refine xb 32 1 n1.blk ?_
 exact xe 4 (.int .i64 4) ⟨rfl,n1.below⟩
theorem Zfj(w:World) :
 Calls Tryz.prog 224 #[.int .i64 1,.bool true] w (Ret (.int .i64 18) w):=by
 refine zin 16 Tryz.func224 ?_
 refine xr 10 (args:=#[.int .i64 1,.bool true]) (Lz _) fun W1 hb1=>?_
 exact xe 18 (.int .i64 18) ⟨rfl,hb1⟩
theorem Bg(w:World) :
 Calls Tryz.prog 223 #[.int .i64 2,.bool true] w (Ret (.int .i64 8) w):=by
 refine zin 19 Tryz.func223 ?_
 refine xbs 7 6 [.int .i64 0,.int .i64 4,.int .i64 8,.int .i64 24,.int .i64 16,.int .i64 4] 3 fun b1 W1 n1=>?_
 refine xb 32 2 n1.blk ?_
 exact xe 4 (.int .i64 8) ⟨rfl,n1.below⟩
theorem Zge(w:World) :
 Calls Tryz.prog 224 #[.int .i64 2,.bool true] w (Ret (.int .i64 12) w):=by
 refine zin 16 Tryz.func224 ?_
 refine xr 10 (args:=#[.int .i64 2,.bool true]) (Bg _) fun W1 hb1=>?_
 exact xe 25 (.int .i64 12) ⟨rfl,hb1⟩
theorem Lo(w:World) :
 Calls Tryz.prog 223 #[.int .i64 3,.bool true] w (Ret (.int .i64 24) w):=by
 refine zin 19 Tryz.func223 ?_
 refine xbs 7 6 [.int .i64 0,.int .i64 4,.int .i64 8,.int .i64 24,.int .i64 16,.int .i64 4] 3 fun b1 W1 n1=>?_
 refine xb 32 3 n1.blk ?_
 exact xe 4 (.int .i64 24) ⟨rfl,n1.below⟩
theorem Zd9(w:World) :
 Calls Tryz.prog 224 #[.int .i64 3,.bool true] w (Ret (.int .i64 6) w):=by
 refine zin 16 Tryz.func224 ?_
 refine xr 10 (args:=#[.int .i64 3,.bool true]) (Lo _) fun W1 hb1=>?_
 exact xe 39 (.int .i64 6) ⟨rfl,hb1⟩
theorem Bo(w:World) :
 Calls Tryz.prog 223 #[.int .i64 4,.bool true] w (Ret (.int .i64 16) w):=by
 refine zin 19 Tryz.func223 ?_
 refine xbs 7 6 [.int .i64 0,.int .i64 4,.int .i64 8,.int .i64 24,.int .i64 16,.int .i64 4] 3 fun b1 W1 n1=>?_
 refine xb 32 4 n1.blk ?_
 exact xe 4 (.int .i64 16) ⟨rfl,n1.below⟩
theorem Zej(w:World) :
 Calls Tryz.prog 224 #[.int .i64 4,.bool true] w (Ret (.int .i64 9) w):=by
 refine zin 16 Tryz.func224 ?_
 refine xr 10 (args:=#[.int .i64 4,.bool true]) (Bo _) fun W1 hb1=>?_
 exact xe 32 (.int .i64 9) ⟨rfl,hb1⟩
theorem Bu(w:World) :
 Calls Tryz.prog 223 #[.int .i64 5,.bool true] w (Ret (.int .i64 4) w):=by
 refine zin 19 Tryz.func223 ?_
 refine xbs 7 6 [.int .i64 0,.int .i64 4,.int .i64 8,.int .i64 24,.int .i64 16,.int .i64 4] 3 fun b1 W1 n1=>?_
 refine xb 32 5 n1.blk ?_
 exact xe 4 (.int .i64 4) ⟨rfl,n1.below⟩
theorem Zft(w:World) :
 Calls Tryz.prog 224 #[.int .i64 5,.bool true] w (Ret (.int .i64 18) w):=by
 refine zin 16 Tryz.func224 ?_
 refine xr 10 (args:=#[.int .i64 5,.bool true]) (Bu _) fun W1 hb1=>?_
 exact xe 18 (.int .i64 18) ⟨rfl,hb1⟩
theorem Nj(t:Int)(w:World)(h1:1≤t)(h2:t≤5) :
 Calls Tryz.prog 223 #[.int .i64 t,.bool false] w (Ret (.int .i64 4) w):=by
 refine zin 19 Tryz.func223 ?_
 refine xbs 7 6 [.int .i64 0,.int .i64 4,.int .i64 8,.int .i64 24,.int .i64 16,.int .i64 4] 3 fun b1 W1 n1=>?_
 refine xgk 9 [8,9] (show(decide (t<(1:Int)):Bool)=false from decide_eq_false (by omega)) ?_
 refine xk 5 (show(decide (t>(5:Int)):Bool)=false from decide_eq_false (by omega)) ?_
 exact xe 17 (.int .i64 4) ⟨rfl,n1.below⟩
theorem Zaz(t:Int)(w:World)(h1:1≤t)(h2:t≤5) :
 Calls Tryz.prog 224 #[.int .i64 t,.bool false] w (Ret (.int .i64 18) w):=by
 refine zin 16 Tryz.func224 ?_
 refine xr 10 (args:=#[.int .i64 t,.bool false]) (Nj t _ h1 h2) fun W1 hb1=>?_
 exact xe 18 (.int .i64 18) ⟨rfl,hb1⟩
theorem Nk(t:Int)(leaf:Bool)(w:World)(h:¬ (1≤t∧t≤5)) :
 Calls Tryz.prog 223 #[.int .i64 t,.bool leaf] w (Ret (.int .i64 0) w):=by
 refine zin 19 Tryz.func223 ?_
 refine xbs 7 6 [.int .i64 0,.int .i64 4,.int .i64 8,.int .i64 24,.int .i64 16,.int .i64 4] 3 fun b1 W1 n1=>?_
 refine xg 9 [8,9] (decide (t<(1:Int))) (fun hc2=>?_) (fun hc2=>?_)
 ·have hc2:=of_decide_eq_true hc2
  exact xe 13 (.int .i64 0) ⟨rfl,n1.below⟩
 have hc2:=of_decide_eq_false hc2
 refine xk 5 (show(decide (t>(5:Int)):Bool)=true from decide_eq_true (by omega)) ?_
 exact xe 7 (.int .i64 0) ⟨rfl,n1.below⟩
theorem Zca(t:Int)(leaf:Bool)(w:World)(h:¬ (1≤t∧t≤5)) :
 Calls Tryz.prog 224 #[.int .i64 t,.bool leaf] w (Ret (.int .i64 0) w):=by
 refine zin 16 Tryz.func224 ?_
 refine xr 10 (args:=#[.int .i64 t,.bool leaf]) (Nk t leaf _ h) fun W1 hb1=>?_
 exact xe 40 (.int .i64 0) ⟨rfl,hb1⟩
theorem Zaw(t:Int)(leaf:Bool)(v:Nat)(hv:Gv t leaf=v)(h1:1≤t)(h2:t≤5)(w:World):Calls Tryz.prog 223 #[.int .i64 t,.bool leaf] w (Ret (.int .i64 (v:Int)) w):=by
 subst hv
 cases leaf
 ·exact Nj t w h1 h2
 obtain rfl|rfl|rfl|rfl|rfl:t=1∨t=2∨t=3∨t=4∨t=5:=by omega
 ·exact Lz w
 ·exact Bg w
 ·exact Lo w
 ·exact Bo w
 ·exact Bu w
theorem ref07_Max(t:Int)(leaf:Bool)(m:Nat)(hm:Vy t leaf=m)(h1:1≤t)(h2:t≤5)(w:World):Calls Tryz.prog 224 #[.int .i64 t,.bool leaf] w (Ret (.int .i64 (m:Int)) w):=by
 subst hm
 cases leaf
 ·exact Zaz t w h1 h2
 obtain rfl|rfl|rfl|rfl|rfl:t=1∨t=2∨t=3∨t=4∨t=5:=by omega
 ·exact Zfj w
 ·exact Zge w
 ·exact Zd9 w
 ·exact Zej w
 ·exact Zft w
theorem Bh(t:Int)(leaf:Bool)(w:World):Calls Tryz.prog 223 #[.int .i64 t,.bool leaf] w (Ret (.int .i64 (Zgj t leaf:Int)) w):=by
 unfold Zgj
 by_cases h:1≤t∧t≤5
 ·rw[if_pos h];exact Zaw t leaf _ rfl h.1 h.2 w
 ·rw[if_neg h];exact Nk t leaf w h
theorem Lk(t:Int)(leaf:Bool)(w:World):Calls Tryz.prog 224 #[.int .i64 t,.bool leaf] w (Ret (.int .i64 (Zd7 t leaf:Int)) w):=by
 unfold Zd7
 by_cases h:1≤t∧t≤5
 ·rw[if_pos h];exact ref07_Max t leaf _ rfl h.1 h.2 w
 ·rw[if_neg h];exact Zca t leaf w h
theorem Ms{l:List UInt8}(h:Vw l=true):Zn l≤Xj l∧12+Xj l*8+Xj l*Xh l≤244∧Xj l≤18∧Xh l≤24∧Zn l*Xh l≤Xj l*Xh l :=
 ⟨Hs h,fitG (Xt l) (Xk l),Zb8 (Xt l) (Xk l),Zbv (Xt l) (Xk l),Nat.mul_le_mul_right _ (Hs h)⟩
theorem Zdx(a:Option Addr)(c:Nat)(l:List UInt8)(w:World)(hl:l.length=244)(h:Bys w (.slice a 244 c) l) :
 Calls Tryz.prog 222 #[.slice a 244 c] w (Ret (.bool (Vw l&&Mo l)) w):=by
 have hcap:=Bys.cap h hl
 have hr0:=raw1 l 0
 have hr2:=Mq l 2 2
 have hmg:=Zb8 (Xt l) (Xk l)
 have hwg:=Zbv (Xt l) (Xk l)
 change Xj l≤18 at hmg
 change Xh l≤24 at hwg
 refine zin 101 Tryz.func222 ?_
 refine xx 13 _ 244 0 1 (BysM.elem h hl (k:=0) (by omega)).1 ?_
 refine xl 0 ((BysM.elem h hl (k:=0) (by omega)).2) ?_
 refine xid 4 ((↑(l.getD 0 0).toNat:Int)>(1:Int)) (fun hc1=>?_) (fun hc1=>?_)
 ·refine xe 7 (.bool false) ?_
  rw[show Vw l=false from decide_eq_false (by omega)];exact⟨rfl,(Below.refl w.heap.size _)⟩
 refine xbs 5 6 [.int .i64 1,.int .i64 1,.int .i64 2,.int .i64 2,.int .i64 2,.int .i64 4] 3 fun b2 W2 n2=>?_
 refine xc 0 (args:=#[.slice a 244 c,.slice (some ⟨b2,0,none⟩) 6 6]) (Zaq a 244 c l (some ⟨b2,0,none⟩) 6 6 [1,1,2,2,2,4] (Yf l) _ hl rfl rfl (by decide) (by decide) (by decide) (by decide) (h.below n2.below) (n2.blk.sl 6 6 (by decide) (by decide)) (Zcu l)) ?_
 rintro _ W3 ⟨_,rfl,hb3,p5,c5,rfl,h5⟩
 have h5'1:=Zf h5 n2.below.size
 refine xx 10 _ 6 0 1 (Zo (l:=Yf l) (Zg h5'1) rfl (k:=0) (by decide)).1 ?_
 refine xl 0 ((Zo (l:=Yf l) (Zg h5'1) rfl (k:=0) (by decide)).2) ?_
 refine xx 7 _ 6 1 1 (Zo (l:=Yf l) (Zg h5'1) rfl (k:=1) (by decide)).1 ?_
 refine xl 0 ((Zo (l:=Yf l) (Zg h5'1) rfl (k:=1) (by decide)).2) ?_
 refine xr 1 (args:=#[.int .i64 (↑(Zj l 1 1):Int),.bool ((↑(Zj l 0 1):Int)==(1:Int))]) (Bh (Xt l) (Xk l) _) fun W4 hb4=>?_
 have h5'2:=Za h5'1 hb4
 refine xx 6 _ 6 1 1 (Zo (l:=Yf l) (Zg h5'2) rfl (k:=1) (by decide)).1 ?_
 refine xl 0 ((Zo (l:=Yf l) (Zg h5'2) rfl (k:=1) (by decide)).2) ?_
 refine xr 1 (args:=#[.int .i64 (↑(Zj l 1 1):Int),.bool ((↑(Zj l 0 1):Int)==(1:Int))]) (Lk (Xt l) (Xk l) _) fun W5 hb5=>?_
 refine xg 9 [38,39] ((↑(Xh l):Int)==(0:Int)) (fun hc6=>?_) (fun hc6=>?_)
 ·have hc6:=eq_of_beq hc6
  have hB'1:=bln (bln (bln n2.below hb3) hb4) hb5
  refine xe 46 (.bool false) ?_
  rw[show Vw l=false from decide_eq_false (by omega)];exact⟨rfl,hB'1⟩
 have hc6:=Xz hc6
 have h5'3:=Za h5'2 hb5
 refine xx 1 _ 6 3 1 (Zo (l:=Yf l) (Zg h5'3) rfl (k:=3) (by decide)).1 ?_
 refine xl 0 ((Zo (l:=Yf l) (Zg h5'3) rfl (k:=3) (by decide)).2) ?_
 refine xg 4 [44,45,46] ((↑(Zj l 4 2):Int) != (↑(Xh l):Int)) (fun hc7=>?_) (fun hc7=>?_)
 ·have hc7:=Vp hc7
  have hB'2:=bln (bln (bln n2.below hb3) hb4) hb5
  refine xe 39 (.bool false) ?_
  rw[show Vw l=false from decide_eq_false (by omega)];exact⟨rfl,hB'2⟩
 have hc7:=Xq hc7
 refine xx 1 _ 6 4 1 (Zo (l:=Yf l) (Zg h5'3) rfl (k:=4) (by decide)).1 ?_
 refine xl 0 ((Zo (l:=Yf l) (Zg h5'3) rfl (k:=4) (by decide)).2) ?_
 refine xg 4 [51,52,53] ((↑(Zj l 6 2):Int) != (↑(Xj l):Int)) (fun hc8=>?_) (fun hc8=>?_)
 ·have hc8:=Vp hc8
  have hB'3:=bln (bln (bln n2.below hb3) hb4) hb5
  refine xe 32 (.bool false) ?_
  rw[show Vw l=false from decide_eq_false (by omega)];exact⟨rfl,hB'3⟩
 have hc8:=Xq hc8
 refine xx 1 _ 6 5 1 (Zo (l:=Yf l) (Zg h5'3) rfl (k:=5) (by decide)).1 ?_
 refine xl 0 ((Zo (l:=Yf l) (Zg h5'3) rfl (k:=5) (by decide)).2) ?_
 refine xg 3 [57,58,59] ((↑(Zj l 8 4):Int) != (0:Int)) (fun hc9=>?_) (fun hc9=>?_)
 ·have hc9:=Vp hc9
  have hB'4:=bln (bln (bln n2.below hb3) hb4) hb5
  refine xe 26 (.bool false) ?_
  rw[show Vw l=false from decide_eq_false (by omega)];exact⟨rfl,hB'4⟩
 have hc9:=Xq hc9
 refine xx 1 _ 6 2 1 (Zo (l:=Yf l) (Zg h5'3) rfl (k:=2) (by decide)).1 ?_
 refine xl 0 ((Zo (l:=Yf l) (Zg h5'3) rfl (k:=2) (by decide)).2) ?_
 refine xg 4 [64,65,66] (decide ((↑(Zj l 2 2):Int)>(↑(Xj l):Int))) (fun hc10=>?_) (fun hc10=>?_)
 ·have hc10:=of_decide_eq_true hc10
  have hB'5:=bln (bln (bln n2.below hb3) hb4) hb5
  refine xe 19 (.bool false) ?_
  rw[show Vw l=false from decide_eq_false (by omega)];exact⟨rfl,hB'5⟩
 have hc10:=of_decide_eq_false hc10
 refine xg 3 [68,69] (!((↑(Zj l 0 1):Int)==(1:Int))) (fun hc11=>?_) (fun hc11=>?_)
 ·have hlf:Zj l 0 1≠1:=by have q:¬ ((Zj l 0 1:Int)=1):=(by simpa using hc11);omega
  refine xx 1 _ 6 2 1 (Zo (l:=Yf l) (Zg h5'3) rfl (k:=2) (by decide)).1 ?_
  refine xl 0 ((Zo (l:=Yf l) (Zg h5'3) rfl (k:=2) (by decide)).2) ?_
  refine xie 5 (↑(Zj l 2 2):Int) (0:Int) (fun hc12=>?_) (fun hc12=>?_)
  ·have hB'6:=bln (bln (bln n2.below hb3) hb4) hb5
   refine xe 7 (.bool false) ?_
   rw[show Vw l=false from decide_eq_false (by omega)];exact⟨rfl,hB'6⟩
  refine xx 6 _ 6 2 1 (Zo (l:=Yf l) (Zg h5'3) rfl (k:=2) (by decide)).1 ?_
  refine xl 0 ((Zo (l:=Yf l) (Zg h5'3) rfl (k:=2) (by decide)).2) ?_
  refine xwm 0 (8*(↑(Zj l 2 2):Int)) (↑(8*(Zj l 2 2)):Int) ?_
  refine xwm 0 (12+(↑(8*(Zj l 2 2)):Int)) (↑(12+(8*(Zj l 2 2))):Int) ?_
  refine xwm 1 (8*(↑(Xj l):Int)) (↑(8*(Xj l)):Int) ?_
  refine xwm 0 (12+(↑(8*(Xj l)):Int)) (↑(12+(8*(Xj l))):Int) ?_
  refine xsB 0 (fun _ _ _ _ _ zo zx zy zz V=>Qk (k:=(12+(8*(Zj l 2 2)))) (h:=(12+(8*(Xj l)))) (b:=a) (n:=244) (c:=c) (i:=(↑(12+(8*(Zj l 2 2))):Int)) (ki:=.i64) (j:=(↑(12+(8*(Xj l))):Int)) (kj:=.i64) 1 zo zx zy rfl zz rfl (by omega) (by omega) Tryz.underlying22 (by kernel_rfl) V) ?_
  have hr0:=raw1 l 0
  have hs:Vw l=true:=decide_eq_true ⟨by omega,by omega,by omega,by omega,by omega,by omega,by omega⟩
  obtain⟨hcm,hfit,hmle,hwle,hcw⟩:=Ms hs
  unfold Zn at hcm hcw
  have hwc:=Nat.mul_comm (Zj l 2 2) (Xh l)
  have hz1:Mo l=(Kh ((l.drop (12+8*Zj l 2 2)).take ((12+8*Xj l)-(12+8*Zj l 2 2)))&&Kh ((l.drop (12+8*Xj l+Xh l*Zj l 2 2)).take (244-(12+8*Xj l+Xh l*Zj l 2 2)))):=by unfold Mo Ea Iy El Zn;rw[show 12+Zj l 2 2*8=12+8*Zj l 2 2 by omega,show 12+Xj l*8=12+8*Xj l by omega,Nat.mul_comm (Zj l 2 2) (Xh l)]
  have hB'7:=bln (bln (bln n2.below hb3) hb4) hb5
  refine xr 0 (args:=#[.slice (Vd a (12+(8*(Zj l 2 2))) c 1) ((12+(8*(Xj l)))-(12+(8*(Zj l 2 2)))) (c-(12+(8*(Zj l 2 2))))]) (Ma (Vd a (12+(8*(Zj l 2 2))) c 1) ((12+(8*(Xj l)))-(12+(8*(Zj l 2 2)))) (c-(12+(8*(Zj l 2 2)))) _ _ (by simp;omega) (by omega) ((Bys.cut h hl (12+8*Zj l 2 2) (12+8*Xj l) (by omega) (by omega)).below hB'7)) fun W13 hb13=>?_
  refine xg 1 [86,87] (Kh ((l.drop (12+8*Zj l 2 2)).take ((12+8*Xj l)-(12+8*Zj l 2 2)))) (fun hc14=>?_) (fun hc14=>?_)
  ·refine xwm 2 (8*(↑(Xj l):Int)) (↑(8*(Xj l)):Int) ?_
   refine xwm 0 (12+(↑(8*(Xj l)):Int)) (↑(12+(8*(Xj l))):Int) ?_
   have h5'4:=Za h5'3 hb13
   refine xx 2 _ 6 2 1 (Zo (l:=Yf l) (Zg h5'4) rfl (k:=2) (by decide)).1 ?_
   refine xl 0 ((Zo (l:=Yf l) (Zg h5'4) rfl (k:=2) (by decide)).2) ?_
   refine xwm 0 ((↑(Xh l):Int)*(↑(Zj l 2 2):Int)) (↑((Xh l)*(Zj l 2 2)):Int) ?_
   refine xwm 0 ((↑(12+(8*(Xj l))):Int)+(↑((Xh l)*(Zj l 2 2)):Int)) (↑((12+(8*(Xj l)))+((Xh l)*(Zj l 2 2))):Int) ?_
   refine xsL 0 (fun _ _ _ _ zo zx zy V=>Qs (k:=((12+(8*(Xj l)))+((Xh l)*(Zj l 2 2)))) (b:=a) (n:=244) (c:=c) (i:=(↑((12+(8*(Xj l)))+((Xh l)*(Zj l 2 2))):Int)) (ki:=.i64) 1 zo zx zy rfl (by omega) Tryz.underlying22 (by kernel_rfl) V) ?_
   have hB'8:=bln hB'7 hb13
   refine xr 0 (args:=#[.slice (Vd a ((12+(8*(Xj l)))+((Xh l)*(Zj l 2 2))) c 1) (244-((12+(8*(Xj l)))+((Xh l)*(Zj l 2 2)))) (c-((12+(8*(Xj l)))+((Xh l)*(Zj l 2 2))))]) (Ma (Vd a ((12+(8*(Xj l)))+((Xh l)*(Zj l 2 2))) c 1) (244-((12+(8*(Xj l)))+((Xh l)*(Zj l 2 2)))) (c-((12+(8*(Xj l)))+((Xh l)*(Zj l 2 2)))) _ _ (by simp;omega) (by omega) ((Bys.cut h hl (12+8*Xj l+Xh l*Zj l 2 2) 244 (by omega) (by omega)).below hB'8)) fun W15 hb15=>?_
   have hB'9:=bln hB'8 hb15
   refine xe 5 (.bool (Kh ((l.drop (12+8*Xj l+Xh l*Zj l 2 2)).take (244-(12+8*Xj l+Xh l*Zj l 2 2))))) ?_
   rw[hs,hz1,hc14];exact⟨rfl,hB'9⟩
  have hB'10:=bln hB'7 hb13
  refine xe 17 (.bool false) ?_
  rw[hs,hz1,hc14];exact⟨rfl,hB'10⟩
 have hlf:Zj l 0 1=1:=by have q:((Zj l 0 1:Int)=1):=(by simpa using hc11);omega
 refine xx 15 _ 6 2 1 (Zo (l:=Yf l) (Zg h5'3) rfl (k:=2) (by decide)).1 ?_
 refine xl 0 ((Zo (l:=Yf l) (Zg h5'3) rfl (k:=2) (by decide)).2) ?_
 refine xwm 0 (8*(↑(Zj l 2 2):Int)) (↑(8*(Zj l 2 2)):Int) ?_
 refine xwm 0 (12+(↑(8*(Zj l 2 2)):Int)) (↑(12+(8*(Zj l 2 2))):Int) ?_
 refine xwm 1 (8*(↑(Xj l):Int)) (↑(8*(Xj l)):Int) ?_
 refine xwm 0 (12+(↑(8*(Xj l)):Int)) (↑(12+(8*(Xj l))):Int) ?_
 refine xsB 0 (fun _ _ _ _ _ zo zx zy zz V=>Qk (k:=(12+(8*(Zj l 2 2)))) (h:=(12+(8*(Xj l)))) (b:=a) (n:=244) (c:=c) (i:=(↑(12+(8*(Zj l 2 2))):Int)) (ki:=.i64) (j:=(↑(12+(8*(Xj l))):Int)) (kj:=.i64) 1 zo zx zy rfl zz rfl (by omega) (by omega) Tryz.underlying22 (by kernel_rfl) V) ?_
 have hr0:=raw1 l 0
 have hs:Vw l=true:=decide_eq_true ⟨by omega,by omega,by omega,by omega,by omega,by omega,by omega⟩
 obtain⟨hcm,hfit,hmle,hwle,hcw⟩:=Ms hs
 unfold Zn at hcm hcw
 have hwc:=Nat.mul_comm (Zj l 2 2) (Xh l)
 have hz1:Mo l=(Kh ((l.drop (12+8*Zj l 2 2)).take ((12+8*Xj l)-(12+8*Zj l 2 2)))&&Kh ((l.drop (12+8*Xj l+Xh l*Zj l 2 2)).take (244-(12+8*Xj l+Xh l*Zj l 2 2)))):=by unfold Mo Ea Iy El Zn;rw[show 12+Zj l 2 2*8=12+8*Zj l 2 2 by omega,show 12+Xj l*8=12+8*Xj l by omega,Nat.mul_comm (Zj l 2 2) (Xh l)]
 have hB'11:=bln (bln (bln n2.below hb3) hb4) hb5
 refine xr 0 (args:=#[.slice (Vd a (12+(8*(Zj l 2 2))) c 1) ((12+(8*(Xj l)))-(12+(8*(Zj l 2 2)))) (c-(12+(8*(Zj l 2 2))))]) (Ma (Vd a (12+(8*(Zj l 2 2))) c 1) ((12+(8*(Xj l)))-(12+(8*(Zj l 2 2)))) (c-(12+(8*(Zj l 2 2)))) _ _ (by simp;omega) (by omega) ((Bys.cut h hl (12+8*Zj l 2 2) (12+8*Xj l) (by omega) (by omega)).below hB'11)) fun W16 hb16=>?_
 refine xg 1 [86,87] (Kh ((l.drop (12+8*Zj l 2 2)).take ((12+8*Xj l)-(12+8*Zj l 2 2)))) (fun hc17=>?_) (fun hc17=>?_)
 ·refine xwm 2 (8*(↑(Xj l):Int)) (↑(8*(Xj l)):Int) ?_
  refine xwm 0 (12+(↑(8*(Xj l)):Int)) (↑(12+(8*(Xj l))):Int) ?_
  have h5'5:=Za h5'3 hb16
  refine xx 2 _ 6 2 1 (Zo (l:=Yf l) (Zg h5'5) rfl (k:=2) (by decide)).1 ?_
  refine xl 0 ((Zo (l:=Yf l) (Zg h5'5) rfl (k:=2) (by decide)).2) ?_
  refine xwm 0 ((↑(Xh l):Int)*(↑(Zj l 2 2):Int)) (↑((Xh l)*(Zj l 2 2)):Int) ?_
  refine xwm 0 ((↑(12+(8*(Xj l))):Int)+(↑((Xh l)*(Zj l 2 2)):Int)) (↑((12+(8*(Xj l)))+((Xh l)*(Zj l 2 2))):Int) ?_
  refine xsL 0 (fun _ _ _ _ zo zx zy V=>Qs (k:=((12+(8*(Xj l)))+((Xh l)*(Zj l 2 2)))) (b:=a) (n:=244) (c:=c) (i:=(↑((12+(8*(Xj l)))+((Xh l)*(Zj l 2 2))):Int)) (ki:=.i64) 1 zo zx zy rfl (by omega) Tryz.underlying22 (by kernel_rfl) V) ?_
  have hB'12:=bln hB'11 hb16
  refine xr 0 (args:=#[.slice (Vd a ((12+(8*(Xj l)))+((Xh l)*(Zj l 2 2))) c 1) (244-((12+(8*(Xj l)))+((Xh l)*(Zj l 2 2)))) (c-((12+(8*(Xj l)))+((Xh l)*(Zj l 2 2))))]) (Ma (Vd a ((12+(8*(Xj l)))+((Xh l)*(Zj l 2 2))) c 1) (244-((12+(8*(Xj l)))+((Xh l)*(Zj l 2 2)))) (c-((12+(8*(Xj l)))+((Xh l)*(Zj l 2 2)))) _ _ (by simp;omega) (by omega) ((Bys.cut h hl (12+8*Xj l+Xh l*Zj l 2 2) 244 (by omega) (by omega)).below hB'12)) fun W18 hb18=>?_
  have hB'13:=bln hB'12 hb18
  refine xe 5 (.bool (Kh ((l.drop (12+8*Xj l+Xh l*Zj l 2 2)).take (244-(12+8*Xj l+Xh l*Zj l 2 2))))) ?_
  rw[hs,hz1,hc17];exact⟨rfl,hB'13⟩
 have hB'14:=bln hB'11 hb16
 refine xe 17 (.bool false) ?_
 rw[hs,hz1,hc17];exact⟨rfl,hB'14⟩
def RGetP(l:List UInt8)(k w:Nat)(W:World)(e:Ending)(w':World):Prop :=
 (Zj l k w<9223372036854775808∧e=.returned (.tuple #[.int .i64 (Zj l k w:Int),.int .i64 0])∧Below W.heap.size W w')∨(¬ Zj l k w<9223372036854775808∧e=.returned (.tuple #[.int .i64 0,.int .i64 2])∧Below W.heap.size W w')
theorem ref_GetP(a:Option Addr)(n c k w:Nat)(l:List UInt8)(W:World)(hn:l.length=n)(hw:w=1∨w=2∨w=4∨w=8)(hk:k+w≤n)(hl:n≤100000000)(h:Bys W (.slice a n c) l)(ki wi:Int)(hki:ki=(k:Int))(hwi:wi=(w:Int)) :
 Calls Tryz.prog 118 #[.slice a n c,.int .i64 ki,.int .i64 wi] W (RGetP l k w W):=by
 subst hn hwi hki
 by_cases hq:Zj l k w<9223372036854775808
 ·refine(Wx a c k w l W hw hk hl h hq).mono ?_
  rintro e V ⟨rfl,hb⟩;exact .inl ⟨hq,rfl,hb⟩
 ·refine(Px a c k w l W hw hk hl h hq).mono ?_
  rintro e V ⟨rfl,hb⟩;exact .inr ⟨hq,rfl,hb⟩
theorem Zck{l:List UInt8}{i:Nat}(h:281474976710655<Zj l (12+i*8) 8):Pm l i=2:=by unfold Pm Ca;rw[if_pos h]
theorem keyE_low{l:List UInt8}{i:Nat}(h:¬ 281474976710655<Zj l (12+i*8) 8)(h0:0<i)(h1:(Zj l (12+i*8) 8:Int)≤(Yq l i).getD (i-1) 0):Pm l i=8:=by
 rw[Nn l (by omega)] at h1
 change ¬ 281474976710655<Ca l i at h
 change (Ca l i:Int)≤_ at h1
 unfold Pm
 rw[if_neg h,if_pos ⟨h0,by omega⟩]
theorem keyE_ok{l:List UInt8}{i:Nat}(h:¬ 281474976710655<Zj l (12+i*8) 8)(h0:¬ 0<i):Pm l i=0:=by
 change ¬ 281474976710655<Ca l i at h
 unfold Pm;rw[if_neg h,if_neg fun q=>h0 q.1]
theorem Zdl{l:List UInt8}{i:Nat}(h:¬ 281474976710655<Zj l (12+i*8) 8)(h0:0<i)(h1:¬ (Zj l (12+i*8) 8:Int)≤(Yq l i).getD (i-1) 0):Pm l i=0:=by
 rw[Nn l (by omega)] at h1
 change ¬ 281474976710655<Ca l i at h
 change ¬ (Ca l i:Int)≤_ at h1
 unfold Pm
 rw[if_neg h,if_neg fun q=>h1 (by have:=q.2;omega)]
theorem Zcp{a:Option Addr}{c i:Nat}{l:List UInt8}{w:World}(h:Bys w (.slice a 244 c) l)(hl:l.length=244)(hb:12+8*Xj l+Xh l*i+Xh l≤244) :
 Bys w (.slice (Vd a (12+8*Xj l+Xh l*i) c 1) (12+8*Xj l+Xh l*i+Xh l-(12+8*Xj l+Xh l*i)) (c-(12+8*Xj l+Xh l*i))) (Cg l i):=by
 have:=Bys.cut h hl (12+8*Xj l+Xh l*i) (12+8*Xj l+Xh l*i+Xh l) (by omega) hb
 unfold Cg
 rw[show 12+Xj l*8+i*Xh l=12+8*Xj l+Xh l*i by rw[Nat.mul_comm i];omega]
 rw[show(l.drop (12+8*Xj l+Xh l*i)).take (Xh l)=(l.drop (12+8*Xj l+Xh l*i)).take (12+8*Xj l+Xh l*i+Xh l-(12+8*Xj l+Xh l*i)) by rw[Nat.add_sub_cancel_left]]
 exact this
theorem Ej{i:Nat}{l:List UInt8}(hl:l.length=244)(hb:12+8*Xj l+Xh l*i+Xh l≤244):(Cg l i).length=12+8*Xj l+Xh l*i+Xh l-(12+8*Xj l+Xh l*i):=by
 unfold Cg;simp only[List.length_take,List.length_drop];rw[Nat.mul_comm i];omega
theorem rawC{l:List UInt8}(h:Zn l≤18):(l.getD 2 0).toNat=Zn l:=by
 have e:Zj l 2 2=(l.getD 2 0).toNat+256*(l.getD 3 0).toNat:=raw2 l 2
 unfold Zn at h ⊢
 omega
def RNodeP(l:List UInt8)(w:World)(e:Ending)(w':World):Prop :=
 (Yr l≠0∧e=.returned (.tuple #[.agg #[.int .i64 0,.bool false,.slice none 0 0,.slice none 0 0],.int .i64 (Yr l)])∧Below w.heap.size w w') ∨
 (Yr l=0∧∃ kp kc vp vc,e=.returned (.tuple #[.agg #[.int .i64 (Xt l),.bool (Xk l),.slice kp (Zn l) kc,.slice vp (Zn l) vc],.int .i64 0])∧Below w.heap.size w w' ∧
  w'.ownsRow w.heap.size 3 1 (.slice kp (Zn l) kc) (Zn l) ((Yq l (Zn l)).map (Value.int .i64))∧w'.ownsRow w.heap.size 9 1 (.slice vp (Zn l) vc) (Zn l) ((Kt l (Zn l)).map sv))
theorem Zev(a:Option Addr)(c:Nat)(l:List UInt8)(w:World)(hl:l.length=244)(h:Bys w (.slice a 244 c) l) :
 Calls Tryz.prog 191 #[.slice a 244 c] w (RNodeP l w):=by
 have hcap:=Bys.cap h hl
 refine zin 94 Tryz.func191 ?_
 refine xa 2 [.int .i64 0,.bool false,.slice none 0 0,.slice none 0 0] 220 fun b1 W1 n1=>?_
 refine xr 7 (args:=#[.slice a 244 c]) (Zdx a c l _ hl (h.below n1.below)) fun W2 hb2=>?_
 refine xi 3 (!(Vw l&&Mo l)) (fun hc3=>?_) (fun hc3=>?_)
 ·have he:Yr l=7:=by unfold Yr;by_cases q:Vw l=true<;>simp_all
  have k1:=n1.blk.below hb2
  refine xsv 3 k1 [.int .i64 0,.bool false,.slice none 0 0,.slice none 0 0] fun W4 u4 k4=>?_
  have g1:=n1.ge (Below.refl w.heap.size _)
  have hB'1:=u4.below (bln n1.below hb2) g1
  exact xec 5 k4 (.tuple #[.agg #[.int .i64 0,.bool false,.slice none 0 0,.slice none 0 0],.int .i64 7]) (.inl ⟨by rw[he];decide,by rw[he],hB'1⟩)
 have hsz:Vw l=true∧Mo l=true:=by simpa using hc3
 have hs:=hsz.1
 have hnz:=hsz.2
 obtain⟨hcm,hfit,hmle,hwle,hcw⟩:=Ms hs
 refine xd 3 (.t w.heap.size [220]) ?_
 refine xx (.e [0] 1) _ 244 1 1 (BysM.elem h hl (k:=1) (by omega)).1 ?_
 have hB'2:=bln (bln n1.below hb2) (Zb W2)
 refine xlt (.e [] 2) (.t w.heap.size [220]) (fun V hV=>(BysM.elem (h.below (Ku hB'2 hV (Nat.le_refl _))) hl (k:=1) (by omega)).2) ?_
 refine xq (.e [] 3) (congrArg (Value.int .i64) (show(IntKind.i64.wrap (↑(l.getD 1 0).toNat:Int):Int)=(Xt l) from by unfold Xt;rw[raw1];exact Hi (by have:=(l.getD 1 0).toNat_lt;omega))) ?_
 refine xx (.e [4] 5) _ 244 0 1 (BysM.elem h hl (k:=0) (by omega)).1 ?_
 refine xlt (.e [] 6) (.t w.heap.size [220]) (fun V hV=>(BysM.elem (h.below (Ku hB'2 hV (Nat.le_refl _))) hl (k:=0) (by omega)).2) ?_
 refine xa (.o [7,8] 9) [.int .i64 0,.bool false,.slice none 0 0,.slice none 0 0] 220 fun b5 W5 n5=>?_
 have k1:=(n1.blk.below hb2).below (Zb W2)
 have d5_b1:=n5.ne k1
 have g5:=n5.ge hB'2
 refine ysv (.o [] 10) n5.blk [.int .i64 (Xt l),.bool ((↑(l.getD 0 0).toNat:Int)==(1:Int)),.slice none 0 0,.slice none 0 0] (.t w.heap.size [220]) fun W6 u6 k6=>⟨(Zm u6 n5.blk g5 (by decide)),?_⟩
 refine xb 5 0 k6 ?_
 refine xb 1 1 k6 ?_
 refine xr 0 (args:=#[.int .i64 (Xt l),.bool ((↑(l.getD 0 0).toNat:Int)==(1:Int))]) (Bh (Xt l) (Xk l) _) fun W7 hb7=>?_
 have hB'3:=bln (u6.below (bln hB'2 n5.below) g5) hb7
 have k1'1:=(u6.blk (k1.below n5.below) (Ne.symm (Ne.symm d5_b1))).below hb7
 have k6'1:=k6.below hb7
 refine zl 10 94 (fun zm zkv V=>∃ (i:Nat) (kp:Option Addr) (kc:Nat) (vp:Option Addr) (vc:Nat),zkv=[(0,.slice a 244 c),(2,.pointer (some ⟨b1,0,none⟩)),(4,.pointer (some ⟨b5,0,none⟩)),(5,.int .i64 (↑(Xh l):Int)),(6,.int .i64 (↑i:Int))]∧zm=Zn l-((↑i:Int)).toNat∧Below w.heap.size w V∧Blk V b1 ([.int .i64 0,.bool false,.slice none 0 0,.slice none 0 0]) 220∧Blk V b5 ([.int .i64 (Xt l),.bool ((↑(l.getD 0 0).toNat:Int)==(1:Int)),.slice kp i kc,.slice vp i vc]) 220∧V.ownsRow w.heap.size 3 1 (.slice kp i kc) i ((Yq l i).map (Value.int .i64))∧V.ownsRow w.heap.size 9 1 (.slice vp i vc) i ((Kt l i).map sv)∧i≤Zn l∧Ye l i=0) ⟨0,none,0,none,0,rfl,rfl,hB'3,k1'1,k6'1,World.ownsRow_nil _ _ _ _,World.ownsRow_nil _ _ _ _,Nat.zero_le _,rfl⟩ ?_
 rintro _ _ W8 ⟨i,kp,kc,vp,vc,rfl,rfl,hB_8,k8_b1,k8_b5,hK,hV,hi,hz⟩ J8 hJ8 r8
 have hiw:(i+1)*Xh l=i*Xh l+Xh l:=Nat.succ_mul i (Xh l)
 have hiw2:i<Zn l→(i+1)*Xh l≤Xj l*Xh l:=fun hh=>Nat.mul_le_mul_right _ (by omega)
 have hiw3:=Nat.mul_comm i (Xh l)
 refine xx 5 _ 244 2 1 (BysM.elem h hl (k:=2) (by omega)).1 ?_
 refine xl 0 ((BysM.elem (h.below hB_8) hl (k:=2) (by omega)).2) ?_
 refine xq 0 (congrArg (Value.int .i64) (show(IntKind.i64.wrap (↑(l.getD 2 0).toNat:Int):Int)=(↑(Zn l):Int) from by rw[rawC (by omega)];exact Hi (by omega))) ?_
 refine xid 3 ((↑i:Int)<(↑(Zn l):Int)) (fun hc9=>?_) (fun hc9=>?_)
 ·refine xwm 8 (8*(↑i:Int)) (↑(8*i):Int) ?_
  refine xwm 0 (12+(↑(8*i):Int)) (↑(12+(8*i)):Int) ?_
  refine xc 0 (args:=#[.slice a 244 c,.int .i64 (↑(12+(8*i)):Int),.int .i64 8]) (ref_GetP a 244 c (12+i*8) 8 l _ hl (by decide) (by omega) (by decide) (h.below hB_8) _ 8 (by omega) rfl) ?_
  rintro e W10 hq10
  rcases hq10 with ⟨hgk,rfl,hb10⟩|⟨hgk,rfl,hb10⟩
  ·refine xid 18 ((↑(Zj l (12+i*8) 8):Int)>(281474976710655:Int)) (fun hc11=>?_) (fun hc11=>?_)
   ·have k8_b1'1:=k8_b1.below hb10
    refine xsv 3 k8_b1'1 [.int .i64 0,.bool false,.slice none 0 0,.slice none 0 0] fun W12 u12 k12=>?_
    have g1:=n1.ge (Below.refl w.heap.size _)
    have hB'4:=u12.below (bln hB_8 hb10) g1
    refine xec 10 k12 (.tuple #[.agg #[.int .i64 0,.bool false,.slice none 0 0,.slice none 0 0],.int .i64 2]) ?_
    have hke:Pm l i=2:=Zck (by omega)
    have he:Yr l=2:=by unfold Yr;rw[if_pos hs,if_pos hnz,Gz hz (by rw[hke];decide) (by omega),hke]
    exact .inl ⟨by rw[he];decide,by rw[he],hB'4⟩
   refine xg 8 [52,53] (decide ((↑i:Int)>(0:Int))) (fun hc13=>?_) (fun hc13=>?_)
   ·have hc13:=of_decide_eq_true hc13
    have k8_b5'1:=k8_b5.below hb10
    refine xb 2 2 k8_b5'1 ?_
    refine xwm 1 ((↑i:Int)-1) (↑(i-1):Int) ?_
    have hK'1:=Za hK hb10
    refine xx 0 _ i (i-1) 1 (IntsN.elem (Zg hK'1) (Ym l i) (k:=(i-1)) (by omega)).1 ?_
    refine xl 0 ((IntsN.elem (Zg hK'1) (Ym l i) (k:=(i-1)) (by omega)).2) ?_
    refine xid 4 ((↑(Zj l (12+i*8) 8):Int)≤((Yq l i).getD (i-1) 0)) (fun hc14=>?_) (fun hc14=>?_)
    ·have k8_b1'2:=k8_b1.below hb10
     refine xsv 3 k8_b1'2 [.int .i64 0,.bool false,.slice none 0 0,.slice none 0 0] fun W15 u15 k15=>?_
     have g1:=n1.ge (Below.refl w.heap.size _)
     have hB'5:=u15.below (bln hB_8 hb10) g1
     refine xec 10 k15 (.tuple #[.agg #[.int .i64 0,.bool false,.slice none 0 0,.slice none 0 0],.int .i64 8]) ?_
     have hke:Pm l i=8:=keyE_low (by omega) (by omega) (by omega)
     have he:Yr l=8:=by unfold Yr;rw[if_pos hs,if_pos hnz,Gz hz (by rw[hke];decide) (by omega),hke]
     exact .inl ⟨by rw[he];decide,by rw[he],hB'5⟩
    refine xb 5 0 k8_b5'1 ?_
    refine xb 1 1 k8_b5'1 ?_
    refine xr 0 (args:=#[.int .i64 (Xt l),.bool ((↑(l.getD 0 0).toNat:Int)==(1:Int))]) (Lk (Xt l) (Xk l) _) fun W16 hb16=>?_
    refine xwm 0 (8*(↑(Xj l):Int)) (↑(8*(Xj l)):Int) ?_
    refine xwm 0 (12+(↑(8*(Xj l)):Int)) (↑(12+(8*(Xj l))):Int) ?_
    refine xwm 2 ((↑(Xh l):Int)*(↑i:Int)) (↑((Xh l)*i):Int) ?_
    refine xwm 0 ((↑(12+(8*(Xj l))):Int)+(↑((Xh l)*i):Int)) (↑((12+(8*(Xj l)))+((Xh l)*i)):Int) ?_
    have k8_b5'2:=k8_b5'1.below hb16
    refine xb 6 2 k8_b5'2 ?_
    refine xbs 1 1 [.int .i64 (↑(Zj l (12+i*8) 8):Int)] 3 fun b17 W17 n17=>?_
    have hB'6:=bln (bln hB_8 hb10) hb16
    have g17:=n17.ge hB'6
    have hK'2:=Za hK'1 hb16
    have r17_hK:=Zp hK'2 n17
    have hK'3:=Za hK'2 n17.below
    have hB'7:=bln hB'6 n17.below
    refine xbi 0 fun _ _ _ _ zJ zQ zo zx zy zK=>Zt (m:=1) (news:=[.int .i64 (↑(Zj l (12+i*8) 8):Int)]) (.int .i64 0) 1 8 (i+1) ((Yq l (i+1)).map (Value.int .i64)) zo Tryz.underlying31 (by kernel_rfl) rfl (by decide) zx hK'3 zy (n17.blk.sl 1 1 (by decide) (by decide)) rfl (by simp[Value.oneCell']) (by unfold maxLen;omega) (by omega) hB'7.size (by rfl) (by rw[La,List.map_append];rfl) fun px18 cx18 W18 o18 hg18 hb18=>?_
    refine zK _ _ ?_
    have k8_b5'3:=(k8_b5'2.below n17.below).grown hg18 hK'3 (by decide)
    refine xs 1 k8_b5'3 [.int .i64 (Xt l),.bool ((↑(l.getD 0 0).toNat:Int)==(1:Int)),.slice px18 (i+1) cx18,.slice vp i vc] fun W19 u19 k19=>?_
    refine xd 2 (.t w.heap.size [9,220]) ?_
    refine xwm (.e [0,2,3,4,5] 6) ((↑((12+(8*(Xj l)))+((Xh l)*i)):Int)+(↑(Xh l):Int)) (↑(((12+(8*(Xj l)))+((Xh l)*i))+(Xh l)):Int) ?_
    refine xsB (.e [] 7) (fun _ _ _ _ _ zo zx zy zz V=>Qk (k:=((12+(8*(Xj l)))+((Xh l)*i))) (h:=(((12+(8*(Xj l)))+((Xh l)*i))+(Xh l))) (b:=a) (n:=244) (c:=c) (i:=(↑((12+(8*(Xj l)))+((Xh l)*i)):Int)) (ki:=.i64) (j:=(↑(((12+(8*(Xj l)))+((Xh l)*i))+(Xh l)):Int)) (kj:=.i64) 1 zo zx zy rfl zz rfl (by omega) (by omega) Tryz.underlying22 (by kernel_rfl) V) ?_
    have hV'1:=Za (u19.own2 (Zh (Za (Za (Za hV hb10) hb16) n17.below) hg18 hK'3 (by decide)) k8_b5'3 (by decide)) (Zb W19)
    have hB'8:=bln (u19.below (hB'7.trans hb18) g5) (Zb W19)
    refine xcvt (.e [] 8) (.t w.heap.size [9,220]) (fun _ _ _ zo zx V hV'1=>Jh zo zx ((Zcp (i:=i) h hl (by omega)).below (Ku hB'8 hV'1 (Nat.le_refl _))) (Ej (i:=i) hl (by omega)) Tryz.underlying22 Tryz.underlying5 Tryz.underlying9) ?_
    refine xm2 0 1 9 ?_ ?_
    ·have k19'1:=k19.below (Zb W19)
     refine xb 0 3 k19'1 ?_
     refine xbs (.o [] 9) 1 [.string ⟨(Cg l i).toArray⟩] 9 fun b20 W20 n20=>?_
     have g20:=n20.ge hB'8
     have r20_hV:=Zp hV'1 n20
     have hV'2:=Za hV'1 n20.below
     have hB'9:=bln hB'8 n20.below
     refine ybi (.o [] 10) (.t w.heap.size [9,220]) fun _ _ _ _ zJ zQ zo zx zy zK=>Zt (m:=1) (news:=[.string ⟨(Cg l i).toArray⟩]) (.string ⟨#[]⟩) 1 16 (i+1) ((Kt l (i+1)).map sv) zo Tryz.underlying119 (by kernel_rfl) rfl (by decide) zx hV'2 zy (n20.blk.sl 1 1 (by decide) (by decide)) rfl (by simp[Value.oneCell']) (by unfold maxLen;omega) (by omega) hB'9.size (by rfl) (by rw[Hc,List.map_append];rfl) fun px21 cx21 W21 o21 hg21 hb21=>?_
     refine zK _ _ (Zr hb21 hg21 hV'2 (by decide)) ?_
     have k19'2:=(k19'1.below n20.below).grown hg21 hV'2 (by decide)
     refine ys (.o [11] 12) k19'2 [.int .i64 (Xt l),.bool ((↑(l.getD 0 0).toNat:Int)==(1:Int)),.slice px18 (i+1) cx18,.slice px21 (i+1) cx21] (.t w.heap.size [9,220]) fun W22 u22 k22=>⟨(Zm u22 k19'2 g5 (by decide)),?_⟩
     refine xwm 5 ((↑i:Int)+1) (↑(i+1):Int) ?_
     have hB'10:=u22.below (hB'9.trans hb21) g5
     have k8_b1'3:=u22.blk ((((u19.blk ((((k8_b1.below hb10).below hb16).below n17.below).grown hg18 hK'3 (by decide)) (Ne.symm (Ne.symm d5_b1))).below (Zb W19)).below n20.below).grown hg21 hV'2 (by decide)) (Ne.symm (Ne.symm d5_b1))
     have o18'1:=u22.own2 (Zh (Za (Za (u19.own2 o18 k8_b5'3 (by decide)) (Zb W19)) n20.below) hg21 hV'2 (by decide)) k19'2 (by decide)
     have o21'1:=u22.own2 o21 k19'2 (by decide)
     exact ze 2 (hJ8 _ _ _ ⟨i+1,_,_,_,_,rfl,rfl,hB'10,k8_b1'3,k22,o18'1,o21'1,by omega,Vf hz (Zdl (by omega) (by omega) (by omega))⟩ (by omega))
    refine xbs 0 1 [.string ⟨(Cg l i).toArray⟩] 9 fun b23 W23 n23=>?_
    have g23:=n23.ge hB'8
    have r23_hV:=Zp hV'1 n23
    have k19'3:=(k19.below (Zb W19)).below n23.below
    refine xb (.o [] 1) 3 k19'3 ?_
    have hV'3:=Za hV'1 n23.below
    have hB'11:=bln hB'8 n23.below
    refine ybi (.o [] 10) (.t w.heap.size [9,220]) fun _ _ _ _ zJ zQ zo zx zy zK=>Zt (m:=1) (news:=[.string ⟨(Cg l i).toArray⟩]) (.string ⟨#[]⟩) 1 16 (i+1) ((Kt l (i+1)).map sv) zo Tryz.underlying119 (by kernel_rfl) rfl (by decide) zx hV'3 zy (n23.blk.sl 1 1 (by decide) (by decide)) rfl (by simp[Value.oneCell']) (by unfold maxLen;omega) (by omega) hB'11.size (by rfl) (by rw[Hc,List.map_append];rfl) fun px24 cx24 W24 o24 hg24 hb24=>?_
    refine zK _ _ (Zr hb24 hg24 hV'3 (by decide)) ?_
    have k19'4:=k19'3.grown hg24 hV'3 (by decide)
    refine ys (.o [11] 12) k19'4 [.int .i64 (Xt l),.bool ((↑(l.getD 0 0).toNat:Int)==(1:Int)),.slice px18 (i+1) cx18,.slice px24 (i+1) cx24] (.t w.heap.size [9,220]) fun W25 u25 k25=>⟨(Zm u25 k19'4 g5 (by decide)),?_⟩
    refine xwm 5 ((↑i:Int)+1) (↑(i+1):Int) ?_
    have hB'12:=u25.below (hB'11.trans hb24) g5
    have k8_b1'4:=u25.blk ((((u19.blk ((((k8_b1.below hb10).below hb16).below n17.below).grown hg18 hK'3 (by decide)) (Ne.symm (Ne.symm d5_b1))).below (Zb W19)).below n23.below).grown hg24 hV'3 (by decide)) (Ne.symm (Ne.symm d5_b1))
    have o18'2:=u25.own2 (Zh (Za (Za (u19.own2 o18 k8_b5'3 (by decide)) (Zb W19)) n23.below) hg24 hV'3 (by decide)) k19'4 (by decide)
    have o24'1:=u25.own2 o24 k19'4 (by decide)
    exact ze 2 (hJ8 _ _ _ ⟨i+1,_,_,_,_,rfl,rfl,hB'12,k8_b1'4,k25,o18'2,o24'1,by omega,Vf hz (Zdl (by omega) (by omega) (by omega))⟩ (by omega))
   have hc13:=of_decide_eq_false hc13
   have k8_b5'4:=k8_b5.below hb10
   refine xb 17 0 k8_b5'4 ?_
   refine xb 1 1 k8_b5'4 ?_
   refine xr 0 (args:=#[.int .i64 (Xt l),.bool ((↑(l.getD 0 0).toNat:Int)==(1:Int))]) (Lk (Xt l) (Xk l) _) fun W26 hb26=>?_
   refine xwm 0 (8*(↑(Xj l):Int)) (↑(8*(Xj l)):Int) ?_
   refine xwm 0 (12+(↑(8*(Xj l)):Int)) (↑(12+(8*(Xj l))):Int) ?_
   refine xwm 2 ((↑(Xh l):Int)*(↑i:Int)) (↑((Xh l)*i):Int) ?_
   refine xwm 0 ((↑(12+(8*(Xj l))):Int)+(↑((Xh l)*i):Int)) (↑((12+(8*(Xj l)))+((Xh l)*i)):Int) ?_
   have k8_b5'5:=k8_b5'4.below hb26
   refine xb 6 2 k8_b5'5 ?_
   refine xbs 1 1 [.int .i64 (↑(Zj l (12+i*8) 8):Int)] 3 fun b27 W27 n27=>?_
   have hB'13:=bln (bln hB_8 hb10) hb26
   have g27:=n27.ge hB'13
   have hK'4:=Za (Za hK hb10) hb26
   have r27_hK:=Zp hK'4 n27
   have hK'5:=Za hK'4 n27.below
   have hB'14:=bln hB'13 n27.below
   refine xbi 0 fun _ _ _ _ zJ zQ zo zx zy zK=>Zt (m:=1) (news:=[.int .i64 (↑(Zj l (12+i*8) 8):Int)]) (.int .i64 0) 1 8 (i+1) ((Yq l (i+1)).map (Value.int .i64)) zo Tryz.underlying31 (by kernel_rfl) rfl (by decide) zx hK'5 zy (n27.blk.sl 1 1 (by decide) (by decide)) rfl (by simp[Value.oneCell']) (by unfold maxLen;omega) (by omega) hB'14.size (by rfl) (by rw[La,List.map_append];rfl) fun px28 cx28 W28 o28 hg28 hb28=>?_
   refine zK _ _ ?_
   have k8_b5'6:=(k8_b5'5.below n27.below).grown hg28 hK'5 (by decide)
   refine xs 1 k8_b5'6 [.int .i64 (Xt l),.bool ((↑(l.getD 0 0).toNat:Int)==(1:Int)),.slice px28 (i+1) cx28,.slice vp i vc] fun W29 u29 k29=>?_
   refine xd 2 (.t w.heap.size [9,220]) ?_
   refine xwm (.e [0,2,3,4,5] 6) ((↑((12+(8*(Xj l)))+((Xh l)*i)):Int)+(↑(Xh l):Int)) (↑(((12+(8*(Xj l)))+((Xh l)*i))+(Xh l)):Int) ?_
   refine xsB (.e [] 7) (fun _ _ _ _ _ zo zx zy zz V=>Qk (k:=((12+(8*(Xj l)))+((Xh l)*i))) (h:=(((12+(8*(Xj l)))+((Xh l)*i))+(Xh l))) (b:=a) (n:=244) (c:=c) (i:=(↑((12+(8*(Xj l)))+((Xh l)*i)):Int)) (ki:=.i64) (j:=(↑(((12+(8*(Xj l)))+((Xh l)*i))+(Xh l)):Int)) (kj:=.i64) 1 zo zx zy rfl zz rfl (by omega) (by omega) Tryz.underlying22 (by kernel_rfl) V) ?_
   have hV'4:=Za (u29.own2 (Zh (Za (Za (Za hV hb10) hb26) n27.below) hg28 hK'5 (by decide)) k8_b5'6 (by decide)) (Zb W29)
   have hB'15:=bln (u29.below (hB'14.trans hb28) g5) (Zb W29)
   refine xcvt (.e [] 8) (.t w.heap.size [9,220]) (fun _ _ _ zo zx V hV'4=>Jh zo zx ((Zcp (i:=i) h hl (by omega)).below (Ku hB'15 hV'4 (Nat.le_refl _))) (Ej (i:=i) hl (by omega)) Tryz.underlying22 Tryz.underlying5 Tryz.underlying9) ?_
   refine xm2 0 1 9 ?_ ?_
   ·have k29'1:=k29.below (Zb W29)
    refine xb 0 3 k29'1 ?_
    refine xbs (.o [] 9) 1 [.string ⟨(Cg l i).toArray⟩] 9 fun b30 W30 n30=>?_
    have g30:=n30.ge hB'15
    have r30_hV:=Zp hV'4 n30
    have hV'5:=Za hV'4 n30.below
    have hB'16:=bln hB'15 n30.below
    refine ybi (.o [] 10) (.t w.heap.size [9,220]) fun _ _ _ _ zJ zQ zo zx zy zK=>Zt (m:=1) (news:=[.string ⟨(Cg l i).toArray⟩]) (.string ⟨#[]⟩) 1 16 (i+1) ((Kt l (i+1)).map sv) zo Tryz.underlying119 (by kernel_rfl) rfl (by decide) zx hV'5 zy (n30.blk.sl 1 1 (by decide) (by decide)) rfl (by simp[Value.oneCell']) (by unfold maxLen;omega) (by omega) hB'16.size (by rfl) (by rw[Hc,List.map_append];rfl) fun px31 cx31 W31 o31 hg31 hb31=>?_
    refine zK _ _ (Zr hb31 hg31 hV'5 (by decide)) ?_
    have k29'2:=(k29'1.below n30.below).grown hg31 hV'5 (by decide)
    refine ys (.o [11] 12) k29'2 [.int .i64 (Xt l),.bool ((↑(l.getD 0 0).toNat:Int)==(1:Int)),.slice px28 (i+1) cx28,.slice px31 (i+1) cx31] (.t w.heap.size [9,220]) fun W32 u32 k32=>⟨(Zm u32 k29'2 g5 (by decide)),?_⟩
    refine xwm 5 ((↑i:Int)+1) (↑(i+1):Int) ?_
    have hB'17:=u32.below (hB'16.trans hb31) g5
    have k8_b1'5:=u32.blk ((((u29.blk ((((k8_b1.below hb10).below hb26).below n27.below).grown hg28 hK'5 (by decide)) (Ne.symm (Ne.symm d5_b1))).below (Zb W29)).below n30.below).grown hg31 hV'5 (by decide)) (Ne.symm (Ne.symm d5_b1))
    have o28'1:=u32.own2 (Zh (Za (Za (u29.own2 o28 k8_b5'6 (by decide)) (Zb W29)) n30.below) hg31 hV'5 (by decide)) k29'2 (by decide)
    have o31'1:=u32.own2 o31 k29'2 (by decide)
    exact ze 2 (hJ8 _ _ _ ⟨i+1,_,_,_,_,rfl,rfl,hB'17,k8_b1'5,k32,o28'1,o31'1,by omega,Vf hz (keyE_ok (by omega) (by omega))⟩ (by omega))
   refine xbs 0 1 [.string ⟨(Cg l i).toArray⟩] 9 fun b33 W33 n33=>?_
   have g33:=n33.ge hB'15
   have r33_hV:=Zp hV'4 n33
   have k29'3:=(k29.below (Zb W29)).below n33.below
   refine xb (.o [] 1) 3 k29'3 ?_
   have hV'6:=Za hV'4 n33.below
   have hB'18:=bln hB'15 n33.below
   refine ybi (.o [] 10) (.t w.heap.size [9,220]) fun _ _ _ _ zJ zQ zo zx zy zK=>Zt (m:=1) (news:=[.string ⟨(Cg l i).toArray⟩]) (.string ⟨#[]⟩) 1 16 (i+1) ((Kt l (i+1)).map sv) zo Tryz.underlying119 (by kernel_rfl) rfl (by decide) zx hV'6 zy (n33.blk.sl 1 1 (by decide) (by decide)) rfl (by simp[Value.oneCell']) (by unfold maxLen;omega) (by omega) hB'18.size (by rfl) (by rw[Hc,List.map_append];rfl) fun px34 cx34 W34 o34 hg34 hb34=>?_
   refine zK _ _ (Zr hb34 hg34 hV'6 (by decide)) ?_
   have k29'4:=k29'3.grown hg34 hV'6 (by decide)
   refine ys (.o [11] 12) k29'4 [.int .i64 (Xt l),.bool ((↑(l.getD 0 0).toNat:Int)==(1:Int)),.slice px28 (i+1) cx28,.slice px34 (i+1) cx34] (.t w.heap.size [9,220]) fun W35 u35 k35=>⟨(Zm u35 k29'4 g5 (by decide)),?_⟩
   refine xwm 5 ((↑i:Int)+1) (↑(i+1):Int) ?_
   have hB'19:=u35.below (hB'18.trans hb34) g5
   have k8_b1'6:=u35.blk ((((u29.blk ((((k8_b1.below hb10).below hb26).below n27.below).grown hg28 hK'5 (by decide)) (Ne.symm (Ne.symm d5_b1))).below (Zb W29)).below n33.below).grown hg34 hV'6 (by decide)) (Ne.symm (Ne.symm d5_b1))
   have o28'2:=u35.own2 (Zh (Za (Za (u29.own2 o28 k8_b5'6 (by decide)) (Zb W29)) n33.below) hg34 hV'6 (by decide)) k29'4 (by decide)
   have o34'1:=u35.own2 o34 k29'4 (by decide)
   exact ze 2 (hJ8 _ _ _ ⟨i+1,_,_,_,_,rfl,rfl,hB'19,k8_b1'6,k35,o28'2,o34'1,by omega,Vf hz (keyE_ok (by omega) (by omega))⟩ (by omega))
  have k8_b1'7:=k8_b1.below hb10
  refine xsv 22 k8_b1'7 [.int .i64 0,.bool false,.slice none 0 0,.slice none 0 0] fun W36 u36 k36=>?_
  have g1:=n1.ge (Below.refl w.heap.size _)
  have hB'20:=u36.below (bln hB_8 hb10) g1
  refine xec 10 k36 (.tuple #[.agg #[.int .i64 0,.bool false,.slice none 0 0,.slice none 0 0],.int .i64 2]) ?_
  have hke:Pm l i=2:=Zck (by omega)
  have he:Yr l=2:=by unfold Yr;rw[if_pos hs,if_pos hnz,Gz hz (by rw[hke];decide) (by omega),hke]
  exact .inl ⟨by rw[he];decide,by rw[he],hB'20⟩
 refine xlv 7 k8_b5.rp ?_
 refine xsv 0 k8_b1 [.int .i64 (Xt l),.bool ((↑(l.getD 0 0).toNat:Int)==(1:Int)),.slice kp i kc,.slice vp i vc] fun W37 u37 k37=>?_
 have g1:=n1.ge (Below.refl w.heap.size _)
 have hB'21:=u37.below hB_8 g1
 have hK'6:=u37.own2 hK k8_b1 (by decide)
 have hV'7:=u37.own2 hV k8_b1 (by decide)
 refine xec 4 k37 (.tuple #[.agg #[.int .i64 (Xt l),.bool ((↑(l.getD 0 0).toNat:Int)==(1:Int)),.slice kp i kc,.slice vp i vc],.int .i64 0]) ?_
 obtain rfl:i=Zn l:=by omega
 exact .inr ⟨by unfold Yr;rw[if_pos hs,if_pos hnz,hz],_,_,_,_,rfl,hB'21,hK'6,hV'7⟩
end Go.Proofs.YtlmaglneeaecdaaGreatDoor
namespace Go.Proofs.YtlmaglneeaecdaaGreatDoor
set_option maxHeartbeats 8000000
set_option maxRecDepth 100000
open Go.RowKit
set_option linter.unusedVariables false
def Ez(lo hi k:Int):Bool:=decide (lo≤k∧k<hi)
def Qj(lo hi:Int):Bool:=decide (0≤lo∧lo≤hi∧hi≤281474976710656)
def Kk(l:List Int):Prop:=∀ k,k<l.length→1≤k→l[k-1]?.getD 0<l[k]?.getD 0
instance (l:List Int):Decidable (Kk l):=by unfold Kk;infer_instance
def Yn(lo hi:Int)(l:List Int):Int :=
 if Qj lo hi then if Kk l then if ∀ k∈l,lo≤k∧k<hi then 0 else 9 else 8 else 1
@[go_sem] def spanV (lo hi:Int):Value:=.agg #[.int .i64 lo,.int .i64 hi]
theorem Kk.lt{l:List Int}(h:Kk l):∀ (j i:Nat),i<j→j<l.length→l[i]?.getD 0<l[j]?.getD 0:=by
 intro j
 induction j with
 | zero=>intro i h1;omega
 | succ j ih =>
  intro i h1 h2
  have h3:=h (j+1) h2 (by omega)
  simp only[Nat.add_sub_cancel] at h3
  by_cases hij:i=j
  ·subst hij;exact h3
  ·exact Int.lt_trans (ih i (by omega) (by omega)) h3
theorem Kk.one(l:List Int):Kk (l.take 1):=by
 intro k h1 h2;simp at h1;omega
theorem Kk.succ{l:List Int}{k:Nat}{x y:Int}(h:Kk (l.take k))(hx:l[k-1]? = some x)(hy:l[k]? = some y)(hxy:x<y):Kk (l.take (k+1)):=by
 intro j h1 h2
 have hjk:j<k+1:=by simp at h1;omega
 rw[List.getElem?_take,List.getElem?_take,if_pos (by omega),if_pos hjk]
 by_cases hj:j=k
 ·subst hj;rw[hx,hy];exact hxy
 ·have:=h j (by simp at h1 ⊢;omega) h2
  rw[List.getElem?_take,List.getElem?_take,if_pos (by omega),if_pos (by omega)] at this
  exact this
theorem Sx{lo hi:Int}{l:List Int}(h:Qj lo hi=false):Yn lo hi l=1:=by simp[Yn,h]
theorem Rn{lo hi:Int}{l:List Int}{k:Nat}{x y:Int}(h:Qj lo hi=true)(hk:1≤k)(hx:l[k-1]? = some x)(hy:l[k]? = some y)(hxy:y≤x):Yn lo hi l=8:=by
 have hn:¬ Kk l:=fun hs=>by
  have hlt:k<l.length:=by rcases List.getElem?_eq_some_iff.1 hy with ⟨h,_⟩;exact h
  have:=hs k hlt hk
  rw[hx,hy] at this
  simp at this;omega
 simp[Yn,h,hn]
theorem Zcl{lo hi:Int}(h:Qj lo hi=true):Yn lo hi []=0:=by
 have hs:Kk []:=fun k h1=>by simp at h1
 simp[Yn,h,hs]
theorem Kk.all{l:List Int}{k:Nat}(h:Kk (l.take k))(hk:l.length≤k):Kk l:=by rwa [List.take_of_length_le hk] at h
theorem Nq{lo hi k:Int}:Ez lo hi k=true↔lo≤k∧k<hi:=by simp[Ez]
theorem fits_in{lo hi:Int}{l:List Int}{x y:Int}(h:Qj lo hi=true)(hs:Kk l)(hx:l[0]? = some x)(hy:l[l.length-1]? = some y)(ha:Ez lo hi x=true)(hb:Ez lo hi y=true):Yn lo hi l=0:=by
 have hall:∀ k∈l,lo≤k∧k<hi:=by
  intro k hk
  obtain⟨i,hi',rfl⟩:=List.mem_iff_getElem.1 hk
  rw[Nq] at ha hb
  have e:l[i]? = some l[i]:=by simp
  have h1:x≤l[i]:=by
   by_cases h0:i=0
   ·subst h0;rw[hx] at e;injection e with e;omega
   ·have:=hs.lt i 0 (by omega) hi'
    rw[hx,e] at this;simp at this;omega
  have h2:l[i]≤y:=by
   by_cases h0:i=l.length-1
   ·subst h0;rw[hy] at e;injection e with e;omega
   ·have:=hs.lt (l.length-1) i (by omega) (by omega)
    rw[hy,e] at this;simp at this;omega
  omega
 simp only[Yn,h,if_true,hs]
 rw[if_pos hall]
theorem Tt{lo hi:Int}{l:List Int}{i:Nat}{x:Int}(h:Qj lo hi=true)(hs:Kk l)(hx:l[i]? = some x)(ha:Ez lo hi x=false):Yn lo hi l=9:=by
 have hn:¬ ∀ k∈l,lo≤k∧k<hi:=fun hall=>by
  have:=Nq.2 (hall x (List.mem_of_getElem? hx))
  rw[ha] at this;cases this
 simp only[Yn,h,if_true,hs]
 rw[if_neg hn]
theorem Zcg(w:World):Calls Tryz.prog 112 #[] w (Ret (spanV 0 281474976710656) w):=by
 go_enter Tryz.func112,Tryz.ntmps112
 go_wp2
 exact bodyPost_ret (v:=spanV 0 281474976710656) (by simp[results,Tryz.results112,go_sem,spanV]) rfl ⟨rfl,blx _ _⟩
theorem Td(lo hi k:Int)(w:World):Calls Tryz.prog 232 #[spanV lo hi,.int .i64 k] w (Ret (.bool (Ez lo hi k)) w):=by
 unfold spanV
 go_enter Tryz.func232,Tryz.ntmps232
 go_wp2
 all_goals go_ret
 all_goals refine⟨?_,blx _ _⟩
 all_goals (unfold Ez;congr 2;simp;omega)
theorem Lm(lo hi:Int)(w:World):Calls Tryz.prog 231 #[spanV lo hi] w (Ret (.bool (Qj lo hi)) w):=by
 unfold spanV
 go_enter Tryz.func231,Tryz.ntmps231
 go_wp2_with fail
 refine(Zcg _).mono ?_
 rintro e w' ⟨rfl,hb⟩
 have hz:w.heap.size<w'.heap.size:=ltB hb (by simp)
 have h0:=Pr hb (p:=⟨w.heap.size,0,none⟩) (v:=.int .i64 lo) (by simp[go_sem])
 have h1:=Pr hb (p:=⟨w.heap.size,1,none⟩) (v:=.int .i64 hi) (by simp[go_sem])
 unfold spanV
 go_wp2_with fail
 all_goals go_ret
 all_goals refine⟨?_,bln (bln (blx w _) hb) (blx _ _)⟩
 all_goals (unfold Qj;congr 2;simp[*];try omega)
theorem Dk(lo hi:Int)(v:Value)(l:List Int)(w:World)(hl:Ints w v l) :
 Calls Tryz.prog 212 #[spanV lo hi,v] w (Ret (.int .i64 (Yn lo hi l)) w):=by
 by_cases hr:Qj lo hi=true
 case neg =>
  have hr':Qj lo hi=false:=by simpa using hr
  unfold spanV
  rcases hl with ⟨a0,c0,rfl,hl0,hl⟩|⟨b,off,cap,rfl,hcap,hmax,hc⟩
  all_goals
   go_enter Tryz.func212,Tryz.ntmps212
   go_wp2_with fail
   refine(Lm _ _ _).mono ?_
   rintro e w' ⟨rfl,hb⟩
   go_wp2_with fail
   go_ret
   exact⟨by rw[Sx hr'];rfl,bln (blx w _) hb⟩
 rcases hl with ⟨a0,c0,rfl,hl0,hl⟩|⟨b,off,cap,rfl,hcap,hmax,hc⟩
 ·obtain rfl:l=[]:=by simpa using hl
  unfold spanV
  go_enter Tryz.func212,Tryz.ntmps212
  go_wp2_with fail
  refine(Lm _ _ _).mono ?_
  rintro e w' ⟨rfl,hb⟩
  go_wp2_with fail
  go_loop [5] (fun i=>i=.int .i64 1) (fun _=>0)
  case atStart=>exact rfl
  case round =>
   obtain rfl:=hrel
   go_wp2_with fail
   refine Qo (by kernel_rfl) (by kernel_rfl) ?_
   repeat (go_big_quiet_step (fail))
   refine wpQuiet_nil ?_
   intro wx
   go_wp2_with fail
   go_ret
   exact⟨by rw[Zcl hr];rfl,bln (bln (blx w _) hb) wx.below⟩
 ·unfold maxLen at hmax
  unfold spanV
  go_enter Tryz.func212,Tryz.ntmps212
  go_wp2_with fail
  refine(Lm _ _ _).mono ?_
  rintro e w' ⟨rfl,hb⟩
  have hz:w.heap.size<w'.heap.size:=ltB hb (by simp)
  have h0:=Pr hb (p:=⟨w.heap.size,0,none⟩) (v:=.int .i64 lo) (by simp[go_sem])
  have h1:=Pr hb (p:=⟨w.heap.size,1,none⟩) (v:=.int .i64 hi) (by simp[go_sem])
  have hB:=bln (blx w _) hb
  have HC:=Lib.hid (fun j x (hj:l[j]? = some x)=>Pr hb (getA _ (hc j (.int .i64 x) (by simp[hj]))))
  clear hc hb
  go_wp2_with fail
  go_loopw [5] (fun i wr=>∃ k:Nat,1≤k∧i=.int .i64 k∧Kk (l.take k)∧Below w'.heap.size w' wr) (fun i _=>l.length-(intOf i).toNat)
  case atStart=>exact⟨1,by omega,rfl,Kk.one l,Below.refl _ _⟩
  case round =>
   obtain⟨k,hk1,rfl,hs,hbr⟩:=hrel
   have HS:=Lib.hid hs;clear hs
   by_cases hlt:k<l.length
   ·obtain⟨x,hx⟩:∃ x,l[k-1]? = some x:=⟨l[k-1],by simp⟩
    obtain⟨y,hy⟩:∃ y,l[k]? = some y:=⟨l[k],by simp⟩
    have hcx:=Pr hbr (HC.out _ _ hx)
    have hcy:=Pr hbr (HC.out _ _ hy)
    have HX:=Lib.hid hx;clear hx
    have HY:=Lib.hid hy;clear hy
    go_wp2_with fail
    go_quiet (fail)
    go_wp2_with fail
    ·go_ret
     exact⟨by rw[Rn hr hk1 HX.out HY.out (by assumption)];rfl,bln hB (blD hbr _)⟩
    ·go_roundw
     case rel=>exact⟨k+1,by omega,by go_num,HS.out.succ HX.out HY.out (by assumption),blD hbr _⟩
     case measure=>simp[intOf];omega
   ·have hkk:l.length≤k:=by omega
    by_cases h0l:l.length=0
    ·obtain rfl:l=[]:=List.length_eq_zero_iff.mp h0l
     clear h0l
     go_wp2_with fail
     go_quiet (fail)
     go_wp2_with fail
     go_ret
     exact⟨by rw[Zcl hr];rfl,bln hB (blD hbr _)⟩
    ·obtain⟨x,hx⟩:∃ x,l[0]? = some x:=⟨l[0],by simp⟩
     obtain⟨y,hy⟩:∃ y,l[l.length-1]? = some y:=⟨l[l.length-1],by simp⟩
     have hpos:0<l.length:=by omega
     have e0:∀ z:Ext wr,z.val.cell? ⟨w.heap.size,0,none⟩=some (.int .i64 lo):=fun z=>z.get (Pr hbr h0)
     have e1:∀ z:Ext wr,z.val.cell? ⟨w.heap.size,1,none⟩=some (.int .i64 hi):=fun z=>z.get (Pr hbr h1)
     have e2:∀ z:Ext wr,z.val.cell? ⟨b,off,none⟩=some (.int .i64 x):=fun z=>z.get (Pr hbr (HC.out 0 _ hx))
     have e3:∀ z:Ext wr,z.val.cell? ⟨b,off+(l.length-1),none⟩=some (.int .i64 y):=fun z=>z.get (Pr hbr (HC.out _ _ hy))
     have HX:=Lib.hid hx;clear hx
     have HY:=Lib.hid hy;clear hy
     by_cases ha:Ez lo hi x=true
     ·by_cases hb2:Ez lo hi y=true
      ·go_wp2_with fail
       refine Qo (by kernel_rfl) (by kernel_rfl) ?_
       repeat (go_big_quiet_step (exact Ret.ext (Td _ _ _ _)))
       refine wpQuiet_nil ?_
       intro wx
       go_wp2_with fail
       go_ret
       exact⟨by rw[fits_in hr (HS.out.all hkk) HX.out HY.out ha hb2];rfl,bln (bln hB hbr) wx.below⟩
      ·have hb2:Ez lo hi y=false:=by simpa using hb2
       go_wp2_with fail
       refine Qo (by kernel_rfl) (by kernel_rfl) ?_
       repeat (go_big_quiet_step (exact Ret.ext (Td _ _ _ _)))
       refine wpQuiet_nil ?_
       intro wx
       go_wp2_with fail
       go_ret
       exact⟨by rw[Tt hr (HS.out.all hkk) HY.out hb2];rfl,bln (bln hB hbr) wx.below⟩
     ·have ha:Ez lo hi x=false:=by simpa using ha
      go_wp2_with fail
      refine Qo (by kernel_rfl) (by kernel_rfl) ?_
      repeat (go_big_quiet_step (exact Ret.ext (Td _ _ _ _)))
      refine wpQuiet_nil ?_
      intro wx
      go_wp2_with fail
      go_ret
      exact⟨by rw[Tt hr (HS.out.all hkk) HX.out ha];rfl,bln (bln hB hbr) wx.below⟩
end Go.Proofs.YtlmaglneeaecdaaGreatDoor
namespace Go.Proofs.YtlmaglneeaecdaaGreatDoor
set_option maxHeartbeats 8000000
set_option maxRecDepth 100000
open Go.RowKit
set_option linter.unusedVariables false
attribute [local go_sem] Oper.semAt_some
def Xa(hi:Int)(l:List Int)(i:Nat):Int×Int:=(l[i]?.getD 0,l[i+1]?.getD hi)
def qOf {n:Nat}(j:Fin n):Nat:=n-1-j.val
def encE(hi:Int)(l:List Int)(j:Fin l.length):Array Value:=#[.int .i64 (qOf j:Int),spanV (Xa hi l (qOf j)).1 (Xa hi l (qOf j)).2]
theorem Jy{n k:Nat}(h:k<n):(List.finRange n).take (k+1)=(List.finRange n).take k++[⟨k,h⟩]:=by
 rw[List.take_succ_eq_append_getElem (by simpa using h)];simp
theorem By(n:Nat):(List.finRange n).take n=List.finRange n:=List.take_of_length_le (by simp)
theorem Wg{n k:Nat}(h:k≤n):((List.finRange n).take k).length=k:=by simp[h]
theorem each1_in(l Bs Bk:Nat)(p:Nat→Prop)(hi:Int)(b off cap:Nat)(zs:List Int)(hlen:zs.length≤9223372036854775807)(hb':zs.length=0∨p b)(hBk:p Bk)(J Jx:List (Fin zs.length)→World→Prop)
  (hY:∀ pre x W,J pre W→pre.length<zs.length→YieldAt Fence.wide 2 Tryz.prog l (encE hi zs x) W fun e W' =>
   (e=.returned (.bool true)∧J (pre++[x]) W'∧Keeps p W W')∨(e=.returned (.bool false)∧Jx (pre++[x]) W'))
  (W:World) (hc1:W.cell? ⟨Bs,1,none⟩=some (.int .i64 hi)) (hck:W.cell? ⟨Bk,0,none⟩=some (.slice (some ⟨b,off,none⟩) zs.length cap))
  (hc:∀ j x,zs[j]? = some x→W.cell? ⟨b,off+j,none⟩=some (.int .i64 x)) (h0:J [] W) :
  CallsIn Fence.wide 3 Tryz.prog 233 #[.func (.yield l) #[] #[],.pointer (some ⟨Bs,0,none⟩),.pointer (some ⟨Bk,0,none⟩)] W fun e W'=>(∃ v,e=.returned v) ∧
   ((∃ ys,ys=List.finRange zs.length∧J ys W')∨(∃ pre,(∃ k,k≤zs.length∧pre=(List.finRange zs.length).take k)∧Jx pre W')):=by
 refine callsIn_of_wp Tryz.func233 rfl trivial ?_ rfl
 simp only[Tryz.ntmps233,List.size_toArray,List.length_cons,List.length_nil,Nat.reduceAdd,Nat.reduceSub,Array.replicate_succ,Array.replicate_zero,List.push_toArray,List.append_toArray,List.nil_append,List.cons_append]
 gi_wp2
 gi_loopw [4,5] (fun h i wr=>∃ k:Nat,k≤zs.length∧i=.int .i64 ((zs.length:Int)-1-k)∧h=.int .i64 (zs[zs.length-k]?.getD hi)∧J ((List.finRange zs.length).take k) wr∧Keeps p W wr)
  (fun _ i _=>((intOf i)+1).toNat)
 case atStart=>exact⟨0,Nat.zero_le _,by simp,by simp,h0,Keeps.refl _ _⟩
 case round =>
  obtain⟨k,hk,rfl,rfl,hJs,hnx⟩:=hrel
  generalize hhv:zs[zs.length-k]?.getD hi=hv
  by_cases hlt:k<zs.length
  ·have hb:p b:=hb'.resolve_left (by omega)
   obtain⟨x,hx⟩:∃ x,zs[zs.length-1-k]? = some x:=⟨zs[zs.length-1-k],by simp⟩
   have hck':=(hnx.cell (a:=⟨Bk,0,none⟩) hBk).trans hck
   have hcx:=(hnx.cell (a:=⟨b,off+(zs.length-1-k),none⟩) hb).trans (hc _ _ hx)
   obtain⟨q,hq⟩:∃ q:Nat,q=zs.length-1-k:=⟨_,rfl⟩
   have hqi:((zs.length:Int)-1-k)=(q:Int):=by omega
   have hql:q<zs.length:=by omega
   obtain⟨fn,tmps,assign,body,hy,hR⟩:=hY _ ⟨k,hlt⟩ wr hJs (by rw[Wg hk];exact hlt)
   have hE:encE hi zs ⟨k,hlt⟩=#[.int .i64 (q:Int),.agg #[.int .i64 x,.int .i64 hv]]:=by
    have e0:zs[q]? = some x:=by rw[hq];exact hx
    have e1:q+1=zs.length-k:=by omega
    have e2:qOf (⟨k,hlt⟩:Fin zs.length)=q:=hq.symm
    simp only[encE,Xa,spanV,e2,e0,e1,hhv,Option.getD_some]
   rw[hE] at hy
   rw[←hq] at hcx
   rw[hqi]
   have HQ:=Lib.hid hq;clear hq
   have HI:=Lib.hid hqi;clear hqi
   have HX:=Lib.hid hx;clear hx
   have HV:=Lib.hid hhv;clear hhv
   have HE:=Lib.hid hE;clear hE
   gi_wp2
   refine hR.mono ?_
   rintro e W3 (⟨rfl,hJ3,hk3⟩|⟨rfl,hJx3⟩)
   ·have hck3:=(hk3.cell (a:=⟨Bk,0,none⟩) hBk).trans hck'
    have hcx3:=(hk3.cell (a:=⟨b,off+q,none⟩) hb).trans hcx
    gi_wp2
    go_roundw
    case rel =>
     refine⟨k+1,by omega,?_,?_,by rw[Jy hlt];exact hJ3,hnx.trans hk3⟩
     ·exact congrArg (Value.int .i64) (by have:=HI.out;omega)
     ·have h1:zs.length-(k+1)=q:=by have:=HQ.out;omega
      have:=HX.out
      rw[←HQ.out] at this
      rw[h1,this];rfl
    case measure=>simp[intOf]
   ·gi_wp2
    refine bodyPost_ret (results_none rfl _ _ _) rfl ?_
    exact⟨⟨_,rfl⟩,.inr ⟨_,⟨k+1,by omega,by rw[Jy hlt]⟩,hJx3⟩⟩
  ·obtain rfl:k=zs.length:=by omega
   have hneg:((zs.length:Int)-1-zs.length) = -1:=by omega
   rw[hneg]
   clear hneg hhv
   rw[By] at hJs
   have HJ:=Lib.hid hJs;clear hJs
   gi_wp2
   go_end0
   exact⟨⟨_,rfl⟩,.inl ⟨_,rfl,HJ.out⟩⟩
theorem Zad{α:Type}(l Bs Bk:Nat)(hi:Int)(J:List α→World→Prop)(W:World)(hc1:W.cell? ⟨Bs,1,none⟩=some (.int .i64 hi)){a0:Option Addr}{c0:Nat}(hck:W.cell? ⟨Bk,0,none⟩=some (.slice a0 0 c0))(h0:J [] W) :
 CallsIn Fence.wide 3 Tryz.prog 233 #[.func (.yield l) #[] #[],.pointer (some ⟨Bs,0,none⟩),.pointer (some ⟨Bk,0,none⟩)] W fun e W'=>(∃ v,e=.returned v)∧J [] W':=by
 refine callsIn_of_wp Tryz.func233 rfl trivial ?_ rfl
 simp only[Tryz.ntmps233,List.size_toArray,List.length_cons,List.length_nil,Nat.reduceAdd,Nat.reduceSub,Array.replicate_succ,Array.replicate_zero,List.push_toArray,List.append_toArray,List.nil_append,List.cons_append]
 gi_wp2
 gi_loopw [4,5] (fun _ i wr=>i=.int .i64 (-1)∧J [] wr) (fun _ _ _=>0)
 case atStart=>exact⟨rfl,h0⟩
 case round =>
  obtain⟨rfl,hJs⟩:=hrel
  gi_wp2
  go_end0
  exact⟨⟨_,rfl⟩,hJs⟩
theorem Zea(Bs Bk:Nat)(p:Nat→Prop)(hi:Int)(v:Value)(zs:List Int)(w:World)(hp:∀ b,p b→b<w.heap.size)(hk:p Bk)(hs:p Bs)(hlen:zs.length≤9223372036854775807)(hv:Ints w v zs)
  (hvp:zs.length≠0→∀ b off n cap,v=.slice (some ⟨b,off,none⟩) n cap→p b)
  (hc1:w.cell? ⟨Bs,1,none⟩=some (.int .i64 hi)) (hck:w.cell? ⟨Bk,0,none⟩=some v) :
  SeqStopsK Fence.wide 3 Tryz.prog 233 #[.pointer (some ⟨Bs,0,none⟩),.pointer (some ⟨Bk,0,none⟩)] (encE hi zs) (Keeps p)
   (fun ys=>ys=List.finRange zs.length) (fun pre=>∃ k,k≤zs.length∧pre=(List.finRange zs.length).take k) zs.length w:=fun l J Jx W hW _ _ hY h0=>by
 have hc1':=Pr hW hc1
 have hck':=Pr hW hck
 rcases hv with ⟨a0,c0,rfl,h1,h2⟩|⟨b,off,cap,rfl,hcap,hmax,hcs⟩
 ·obtain rfl:zs=[]:=by simpa using h2
  exact(Zad l Bs Bk hi J W hc1' hck' h0).mono fun e W' ⟨he,hj⟩=>⟨he,.inl ⟨_,rfl,hj⟩⟩
 ·refine each1_in l Bs Bk p hi b off cap zs hlen ?_ hk J Jx hY W hc1' hck' (fun j x hj=>Pr hW (hcs j _ (by simp[hj]))) h0
  by_cases h:zs.length=0
  ·exact .inl h
  ·exact .inr (hvp h _ _ _ _ rfl)
theorem span_each(lo hi:Int)(a:Option Addr)(n c:Nat)(w:World):Calls Tryz.prog 213 #[spanV lo hi,.slice a n c] w fun e w' =>
 e=.returned (.func (.func 233) #[] #[.pointer (some ⟨w.heap.size,0,none⟩),.pointer (some ⟨w.heap.size+1,0,none⟩)]) ∧
 w'=(w.alloc (.cells #[.int .i64 lo,.int .i64 hi] 232)).alloc (.cells #[.slice a n c] 31):=by
 unfold spanV
 go_enter Tryz.func213,Tryz.ntmps213
 go_wp2
 go_ret
 exact⟨rfl,rfl⟩
def encB(l:List Int)(j:Fin l.length):Array Value:=#[.int .i64 (qOf j:Int),.int .i64 (l[qOf j]?.getD 0)]
theorem back1_in(l Bk:Nat)(p:Nat→Prop)(b off cap:Nat)(zs:List Int)(hlen:zs.length≤9223372036854775807)(hb':zs.length=0∨p b)(hBk:p Bk)(J Jx:List (Fin zs.length)→World→Prop)
  (hY:∀ pre x W,J pre W→pre.length<zs.length→YieldAt Fence.wide 2 Tryz.prog l (encB zs x) W fun e W' =>
   (e=.returned (.bool true)∧J (pre++[x]) W'∧Keeps p W W')∨(e=.returned (.bool false)∧Jx (pre++[x]) W'))
  (W:World) (hck:W.cell? ⟨Bk,0,none⟩=some (.slice (some ⟨b,off,none⟩) zs.length cap))
  (hc:∀ j x,zs[j]? = some x→W.cell? ⟨b,off+j,none⟩=some (.int .i64 x)) (h0:J [] W) :
  CallsIn Fence.wide 3 Tryz.prog 229 #[.func (.yield l) #[] #[],.pointer (some ⟨Bk,0,none⟩)] W fun e W'=>(∃ v,e=.returned v) ∧
   ((∃ ys,ys=List.finRange zs.length∧J ys W')∨(∃ pre,(∃ k,k≤zs.length∧pre=(List.finRange zs.length).take k)∧Jx pre W')):=by
 refine callsIn_of_wp Tryz.func229 rfl trivial ?_ rfl
 simp only[Tryz.ntmps229,List.size_toArray,List.length_cons,List.length_nil,Nat.reduceAdd,Nat.reduceSub,Array.replicate_succ,Array.replicate_zero,List.push_toArray,List.append_toArray,List.nil_append,List.cons_append]
 gi_wp2
 gi_loopw [3] (fun i wr=>∃ k:Nat,k≤zs.length∧i=.int .i64 ((zs.length:Int)-1-k)∧J ((List.finRange zs.length).take k) wr∧Keeps p W wr)
  (fun i _=>((intOf i)+1).toNat)
 case atStart=>exact⟨0,Nat.zero_le _,by simp,h0,Keeps.refl _ _⟩
 case round =>
  obtain⟨k,hk,rfl,hJs,hnx⟩:=hrel
  by_cases hlt:k<zs.length
  ·have hb:p b:=hb'.resolve_left (by omega)
   obtain⟨x,hx⟩:∃ x,zs[zs.length-1-k]? = some x:=⟨zs[zs.length-1-k],by simp⟩
   have hck':=(hnx.cell (a:=⟨Bk,0,none⟩) hBk).trans hck
   have hcx:=(hnx.cell (a:=⟨b,off+(zs.length-1-k),none⟩) hb).trans (hc _ _ hx)
   obtain⟨q,hq⟩:∃ q:Nat,q=zs.length-1-k:=⟨_,rfl⟩
   have hqi:((zs.length:Int)-1-k)=(q:Int):=by omega
   have hql:q<zs.length:=by omega
   obtain⟨fn,tmps,assign,body,hy,hR⟩:=hY _ ⟨k,hlt⟩ wr hJs (by rw[Wg hk];exact hlt)
   have hE:encB zs ⟨k,hlt⟩=#[.int .i64 (q:Int),.int .i64 x]:=by
    have e0:zs[q]? = some x:=by rw[hq];exact hx
    have e2:qOf (⟨k,hlt⟩:Fin zs.length)=q:=hq.symm
    simp only[encB,e2,e0,Option.getD_some]
   rw[hE] at hy
   rw[←hq] at hcx
   rw[hqi]
   have HQ:=Lib.hid hq;clear hq
   have HI:=Lib.hid hqi;clear hqi
   have HX:=Lib.hid hx;clear hx
   have HE:=Lib.hid hE;clear hE
   gi_wp2
   refine hR.mono ?_
   rintro e W3 (⟨rfl,hJ3,hk3⟩|⟨rfl,hJx3⟩)
   ·gi_wp2
    go_roundw
    case rel =>
     refine⟨k+1,by omega,?_,by rw[Jy hlt];exact hJ3,hnx.trans hk3⟩
     exact congrArg (Value.int .i64) (by have:=HI.out;omega)
    case measure=>simp[intOf]
   ·gi_wp2
    refine bodyPost_ret (results_none rfl _ _ _) rfl ?_
    exact⟨⟨_,rfl⟩,.inr ⟨_,⟨k+1,by omega,by rw[Jy hlt]⟩,hJx3⟩⟩
  ·obtain rfl:k=zs.length:=by omega
   have hneg:((zs.length:Int)-1-zs.length) = -1:=by omega
   rw[hneg]
   clear hneg
   rw[By] at hJs
   have HJ:=Lib.hid hJs;clear hJs
   gi_wp2
   go_end0
   exact⟨⟨_,rfl⟩,.inl ⟨_,rfl,HJ.out⟩⟩
theorem Iw{α:Type}(l Bk:Nat)(J:List α→World→Prop)(W:World){a0:Option Addr}{c0:Nat}(hck:W.cell? ⟨Bk,0,none⟩=some (.slice a0 0 c0))(h0:J [] W) :
 CallsIn Fence.wide 3 Tryz.prog 229 #[.func (.yield l) #[] #[],.pointer (some ⟨Bk,0,none⟩)] W fun e W'=>(∃ v,e=.returned v)∧J [] W':=by
 refine callsIn_of_wp Tryz.func229 rfl trivial ?_ rfl
 simp only[Tryz.ntmps229,List.size_toArray,List.length_cons,List.length_nil,Nat.reduceAdd,Nat.reduceSub,Array.replicate_succ,Array.replicate_zero,List.push_toArray,List.append_toArray,List.nil_append,List.cons_append]
 gi_wp2
 gi_loopw [3] (fun i wr=>i=.int .i64 (-1)∧J [] wr) (fun _ _=>0)
 case atStart=>exact⟨rfl,h0⟩
 case round =>
  obtain⟨rfl,hJs⟩:=hrel
  gi_wp2
  go_end0
  exact⟨⟨_,rfl⟩,hJs⟩
theorem Zdy(Bk:Nat)(p:Nat→Prop)(v:Value)(zs:List Int)(w:World)(hp:∀ b,p b→b<w.heap.size)(hk:p Bk)(hlen:zs.length≤9223372036854775807)(hv:Ints w v zs)
  (hvp:zs.length≠0→∀ b off n cap,v=.slice (some ⟨b,off,none⟩) n cap→p b) (hck:w.cell? ⟨Bk,0,none⟩=some v) :
  SeqStopsK Fence.wide 3 Tryz.prog 229 #[.pointer (some ⟨Bk,0,none⟩)] (encB zs) (Keeps p)
   (fun ys=>ys=List.finRange zs.length) (fun pre=>∃ k,k≤zs.length∧pre=(List.finRange zs.length).take k) zs.length w:=fun l J Jx W hW _ _ hY h0=>by
 have hck':=Pr hW hck
 rcases hv with ⟨a0,c0,rfl,h1,h2⟩|⟨b,off,cap,rfl,hcap,hmax,hcs⟩
 ·obtain rfl:zs=[]:=by simpa using h2
  exact(Iw l Bk J W hck' h0).mono fun e W' ⟨he,hj⟩=>⟨he,.inl ⟨_,rfl,hj⟩⟩
 ·refine back1_in l Bk p b off cap zs hlen ?_ hk J Jx hY W hck' (fun j x hj=>Pr hW (hcs j _ (by simp[hj]))) h0
  by_cases h:zs.length=0
  ·exact .inl h
  ·exact .inr (hvp h _ _ _ _ rfl)
end Go.Proofs.YtlmaglneeaecdaaGreatDoor
namespace Go.Proofs.YtlmaglneeaecdaaGreatDoor
set_option maxHeartbeats 8000000
set_option maxRecDepth 100000
open Go.RowKit Go.Extern.Stop Go.Stop Go.Extern
set_option linter.unusedVariables false
attribute [local irreducible] wpList wpAnyH Code.wp Oper.wp Go
theorem Zfb(kind no:Int)(a:Option Addr)(n c:Nat)(l:List UInt8)(w:World)(hn:l.length=n)(h:Bys w (.slice a n c) l):Calls Tryz.prog 145 #[.slice a n c,.int .i64 kind,.int .i64 no] w (OpenP kind no l w):=by
 subst hn;exact Zho kind no a c l w h
def Qh(l:List UInt8)(tree:Int):Int:=if Yr l=0 then(if tree=0∨Xt l=tree then 0 else 6) else Yr l
def Xc(l:List UInt8)(no tree:Int):Int:=if inE l 2 no=0 then Qh (inB l no) tree else inE l 2 no
def Node1P(l:List UInt8)(tree:Int)(w:World)(e:Ending)(w':World):Prop :=
 (Qh l tree≠0∧∃ a b kp n1 kc vp n2 vc,e=.returned (.tuple #[.agg #[.int .i64 a,.bool b,.slice kp n1 kc,.slice vp n2 vc],.int .i64 (Qh l tree)])∧Below w.heap.size w w') ∨
 (Qh l tree=0∧∃ kp kc vp vc,e=.returned (.tuple #[.agg #[.int .i64 (Xt l),.bool (Xk l),.slice kp (Zn l) kc,.slice vp (Zn l) vc],.int .i64 0])∧Below w.heap.size w w' ∧
  w'.ownsRow w.heap.size 3 1 (.slice kp (Zn l) kc) (Zn l) ((Yq l (Zn l)).map (Value.int .i64))∧w'.ownsRow w.heap.size 9 1 (.slice vp (Zn l) vc) (Zn l) ((Kt l (Zn l)).map sv))
def Zdb(l:List UInt8)(no tree:Int)(w:World)(e:Ending)(w':World):Prop :=
 (Xc l no tree≠0∧∃ b,e=.returned (.tuple #[.agg #[.int .i64 0,.bool false,.slice none 0 0,.slice none 0 0],.iface 179 (.pointer (some ⟨b,0,none⟩))])∧Below w.heap.size w w'∧Vu w' [some no] (some (Xc l no tree)) (.iface 179 (.pointer (some ⟨b,0,none⟩)))) ∨
 (Xc l no tree=0∧∃ kp kc vp vc,e=.returned (.tuple #[.agg #[.int .i64 (Xt (inB l no)),.bool (Xk (inB l no)),.slice kp (Zn (inB l no)) kc,.slice vp (Zn (inB l no)) vc],.nilIface])∧Below w.heap.size w w' ∧
  w'.ownsRow w.heap.size 3 1 (.slice kp (Zn (inB l no)) kc) (Zn (inB l no)) ((Yq (inB l no) (Zn (inB l no))).map (Value.int .i64))∧w'.ownsRow w.heap.size 9 1 (.slice vp (Zn (inB l no)) vc) (Zn (inB l no)) ((Kt (inB l no) (Zn (inB l no))).map sv))
theorem node_1(tree:Int)(bt:Nat)(a:Option Addr)(c:Nat)(l:List UInt8)(w:World)(kt:Blk w bt [.int .i64 tree] 3)(hl:l.length=244)(h:Bys w (.slice a 244 c) l) :
 Calls Tryz.prog 186 #[.slice a 244 c,.pointer (some ⟨bt,0,none⟩)] w (Node1P l tree w):=by
 refine zin 27 Tryz.func186 ?_
 refine xa 2 [.int .i64 0,.bool false,.slice none 0 0,.slice none 0 0] 220 fun b1 W1 n1=>?_
 refine xc 6 (args:=#[.slice a 244 c]) (Zgy a c l _ hl (h.below n1.below)) ?_
 rintro e W2 hq2
 rcases hq2 with ⟨hz,rfl,hb2⟩|⟨hz,kp,kc,vp,vc,rfl,hb2,hk,hv_⟩
 ·refine xa 3 [.int .i64 0,.bool false,.slice none 0 0,.slice none 0 0] 220 fun b3 W3 n3=>?_
  have k1:=n1.blk.below hb2
  have d3_b1:=n3.ne k1
  have hB'1:=bln n1.below hb2
  have g3:=n3.ge hB'1
  refine xsv 0 n3.blk [.int .i64 0,.bool false,.slice none 0 0,.slice none 0 0] fun W4 u4 k4=>?_
  refine xgk 9 [13,14] (show(((Yr l)==(0:Int)):Bool)=false from beq_false_of_ne hz) ?_
  refine xlv 16 k4.rp ?_
  have k1'1:=u4.blk (k1.below n3.below) (Ne.symm (Ne.symm d3_b1))
  refine xsv 1 k1'1 [.int .i64 0,.bool false,.slice none 0 0,.slice none 0 0] fun W6 u6 k6=>?_
  have g1:=n1.ge (Below.refl w.heap.size _)
  have hB'2:=u6.below (u4.below (bln hB'1 n3.below) g3) g1
  exact xec 4 k6 (.tuple #[.agg #[.int .i64 0,.bool false,.slice none 0 0,.slice none 0 0],.int .i64 (Yr l)]) (.inl ⟨by unfold Qh;rw[if_neg hz];exact hz,_,_,_,_,_,_,_,_,by unfold Qh;rw[if_neg hz],hB'2⟩)
 refine xa 3 [.int .i64 0,.bool false,.slice none 0 0,.slice none 0 0] 220 fun b7 W7 n7=>?_
 have k1:=n1.blk.below hb2
 have d7_b1:=n7.ne k1
 have hB'3:=bln n1.below hb2
 have g7:=n7.ge hB'3
 refine xsv 0 n7.blk [.int .i64 (Xt l),.bool (Xk l),.slice kp (Zn l) kc,.slice vp (Zn l) vc] fun W8 u8 k8=>?_
 have kt'1:=u8.blkT (((kt.below n1.below).below hb2).below n7.below) n7.blk (by decide)
 refine xb 9 0 kt'1 ?_
 refine xg 3 [16,17,18] (tree != (0:Int)) (fun hc9=>?_) (fun hc9=>?_)
 ·have hc9:=Vp hc9
  refine xb 1 0 k8 ?_
  refine xb 0 0 kt'1 ?_
  refine xin 4 (Xt l) tree (fun hc10=>?_) (fun hc10=>?_)
  ·refine xlv 2 k8.rp ?_
   have k1'2:=u8.blk (k1.below n7.below) (Ne.symm (Ne.symm d7_b1))
   refine xsv 0 k1'2 [.int .i64 (Xt l),.bool (Xk l),.slice kp (Zn l) kc,.slice vp (Zn l) vc] fun W11 u11 k11=>?_
   have g1:=n1.ge (Below.refl w.heap.size _)
   have hB'4:=u11.below (u8.below (bln hB'3 n7.below) g7) g1
   exact xec 5 k11 (.tuple #[.agg #[.int .i64 (Xt l),.bool (Xk l),.slice kp (Zn l) kc,.slice vp (Zn l) vc],.int .i64 6]) (.inl ⟨by unfold Qh;rw[if_pos hz,if_neg (by omega)];decide,_,_,_,_,_,_,_,_,by unfold Qh;rw[if_pos hz,if_neg (by omega)],hB'4⟩)
  refine xlv 4 k8.rp ?_
  have k1'3:=u8.blk (k1.below n7.below) (Ne.symm (Ne.symm d7_b1))
  refine xsv 1 k1'3 [.int .i64 (Xt l),.bool (Xk l),.slice kp (Zn l) kc,.slice vp (Zn l) vc] fun W12 u12 k12=>?_
  have g1:=n1.ge (Below.refl w.heap.size _)
  have hB'5:=u12.below (u8.below (bln hB'3 n7.below) g7) g1
  have hk'1:=u12.own2 (u8.own2 (Za (Zf hk n1.below.size) n7.below) n7.blk (by decide)) k1'3 (by decide)
  have hv_'1:=u12.own2 (u8.own2 (Za (Zf hv_ n1.below.size) n7.below) n7.blk (by decide)) k1'3 (by decide)
  exact xec 4 k12 (.tuple #[.agg #[.int .i64 (Xt l),.bool (Xk l),.slice kp (Zn l) kc,.slice vp (Zn l) vc],.int .i64 0]) (.inr ⟨by unfold Qh;rw[if_pos hz,if_pos (by omega)],_,_,_,_,rfl,hB'5,hk'1,hv_'1⟩)
 have hc9:=Xq hc9
 refine xlv 12 k8.rp ?_
 have k1'4:=u8.blk (k1.below n7.below) (Ne.symm (Ne.symm d7_b1))
 refine xsv 1 k1'4 [.int .i64 (Xt l),.bool (Xk l),.slice kp (Zn l) kc,.slice vp (Zn l) vc] fun W13 u13 k13=>?_
 have g1:=n1.ge (Below.refl w.heap.size _)
 have hB'6:=u13.below (u8.below (bln hB'3 n7.below) g7) g1
 have hk'2:=u13.own2 (u8.own2 (Za (Zf hk n1.below.size) n7.below) n7.blk (by decide)) k1'4 (by decide)
 have hv_'2:=u13.own2 (u8.own2 (Za (Zf hv_ n1.below.size) n7.below) n7.blk (by decide)) k1'4 (by decide)
 exact xec 4 k13 (.tuple #[.agg #[.int .i64 (Xt l),.bool (Xk l),.slice kp (Zn l) kc,.slice vp (Zn l) vc],.int .i64 0]) (.inr ⟨by unfold Qh;rw[if_pos hz,if_pos (by omega)],_,_,_,_,rfl,hB'6,hk'2,hv_'2⟩)
theorem readNode(B b:Nat)(p:Option Addr)(n c:Nat)(l:List UInt8)(no tree:Int)(w:World)(hI:ImgR B b p n c l w)(bt:Nat)(kt:Blk w bt [.int .i64 tree] 3) :
 Calls Tryz.prog 185 #[.pointer (some ⟨b,0,none⟩),.int .i64 no,.int .i64 2,.func (.func 186) #[] #[.pointer (some ⟨bt,0,none⟩)]] w (Zdb l no tree w):=by
 refine zin 56 Tryz.func185 ?_
 refine xa 2 [.int .i64 0,.bool false,.slice none 0 0,.slice none 0 0] 220 fun b1 W1 n1=>?_
 refine xa 5 [.int .i64 0,.bool false,.slice none 0 0,.slice none 0 0] 220 fun b2 W2 n2=>?_
 have d2_b1:=n2.ne n1.blk
 have hB:=bln n1.below n2.below
 refine xc 6 (args:=#[.pointer (some ⟨b,0,none⟩),.int .i64 no]) (Zff B b p n c l no _ (hI.below hB)) ?_
 rintro e W3 hq3
 rcases hq3 with ⟨ho,vr,rfl,hb3⟩|⟨j,hk,hj,p2,c2,rfl,hb3,ho⟩
 ·refine xd 16 (.t w.heap.size [220]) ?_
  refine xm2 (.b [1,2,3]) 0 4 ?_ ?_
  ·have k2:=(n2.blk.below hb3).below (Zb W3)
   refine xlv 0 k2.rp ?_
   refine yc (.o [] 4) (args:=#[.int .i64 no,.iface 91 (.int .i64 3)]) (.t w.heap.size [220]) (Jf no 3 _) ?_
   rintro _ W4 ⟨_,rfl,hb4,hv4⟩
   refine⟨(SF.of_below _ hb4),?_⟩
   rw[if_neg (by decide),if_neg (by decide)] at hv4
   have hq4:=hv4
   obtain⟨bf4,vf4,rfl,_,_⟩:=hq4
   have k1'1:=(((n1.blk.below n2.below).below hb3).below (Zb W3)).below hb4
   have g1:=n1.ge (Below.refl w.heap.size _)
   refine ysv (.o [] 5) k1'1 [.int .i64 0,.bool false,.slice none 0 0,.slice none 0 0] (.t w.heap.size [220]) fun W5 u5 k5=>⟨(Zm u5 k1'1 g1 (by decide)),?_⟩
   have hB'1:=u5.below (bln (bln (bln hB hb3) (Zb W3)) hb4) g1
   have hv4'1:=hv4.upd u5 k1'1 (by decide)
   refine xec (.r [6] 4) k5 (.tuple #[.agg #[.int .i64 0,.bool false,.slice none 0 0,.slice none 0 0],.iface 179 (.pointer (some ⟨bf4,0,none⟩))]) ?_
   have he:Xc l no tree=3:=by unfold Xc;rw[Zbl hI.len ho];rfl
   exact .inl ⟨by rw[he];decide,_,rfl,hB'1,by rw[he];exact hv4'1⟩
  refine yc 0 (args:=#[.int .i64 no,.iface 91 (.int .i64 3)]) (.t w.heap.size [220]) (Jf no 3 _) ?_
  rintro _ W6 ⟨_,rfl,hb6,hv6⟩
  refine⟨(SF.of_below _ hb6),?_⟩
  rw[if_neg (by decide),if_neg (by decide)] at hv6
  have hq6:=hv6
  obtain⟨bf6,vf6,rfl,_,_⟩:=hq6
  have k2:=((n2.blk.below hb3).below (Zb W3)).below hb6
  refine xlv (.o [] 0) k2.rp ?_
  have k1'2:=(((n1.blk.below n2.below).below hb3).below (Zb W3)).below hb6
  have g1:=n1.ge (Below.refl w.heap.size _)
  refine ysv (.o [] 5) k1'2 [.int .i64 0,.bool false,.slice none 0 0,.slice none 0 0] (.t w.heap.size [220]) fun W7 u7 k7=>⟨(Zm u7 k1'2 g1 (by decide)),?_⟩
  have hB'2:=u7.below (bln (bln (bln hB hb3) (Zb W3)) hb6) g1
  have hv6'1:=hv6.upd u7 k1'2 (by decide)
  refine xec (.r [6] 4) k7 (.tuple #[.agg #[.int .i64 0,.bool false,.slice none 0 0,.slice none 0 0],.iface 179 (.pointer (some ⟨bf6,0,none⟩))]) ?_
  have he:Xc l no tree=3:=by unfold Xc;rw[Zbl hI.len ho];rfl
  exact .inl ⟨by rw[he];decide,_,rfl,hB'2,by rw[he];exact hv6'1⟩
 have hs3:=(bln n1.below n2.below).size
 have hj2:j<l.length/256:=by rw[hI.len];exact hj
 have hlj:=Kq hj2
 have he2:=Zgu (l:=l) (kind:=2) hI.len hk hj
 have ho'1:=Zf ho hs3
 refine xc 22 (args:=#[.slice p2 256 c2,.int .i64 2,.int .i64 no]) (Zfb 2 no p2 256 c2 (Ju l j) _ hlj (Jv (Zg ho'1) hlj)) ?_
 rintro e W8 hq8
 rcases hq8 with ⟨hs,rfl,hb8⟩|⟨hs,p3,c3,rfl,hb8,h3⟩
 ·refine xk 14 (show(((Yo 2 no (Ju l j)) != (0:Int)):Bool)=true from bne_iff_ne.2 hs) ?_
  refine xd 1 (.t w.heap.size [220]) ?_
  refine xm2 (.b [1,2,3]) 0 4 ?_ ?_
  ·have k2:=((n2.blk.below hb3).below hb8).below (Zb W8)
   refine xlv 0 k2.rp ?_
   refine yc (.o [] 4) (args:=#[.int .i64 no,.iface 91 (.int .i64 (Yo 2 no (Ju l j)))]) (.t w.heap.size [220]) (Jf no (Yo 2 no (Ju l j)) _) ?_
   rintro _ W9 ⟨_,rfl,hb9,hv9⟩
   refine⟨(SF.of_below _ hb9),?_⟩
   rw[if_neg hs,if_neg hs] at hv9
   have hq9:=hv9
   obtain⟨bf9,vf9,rfl,_,_⟩:=hq9
   have k1'3:=((((n1.blk.below n2.below).below hb3).below hb8).below (Zb W8)).below hb9
   have g1:=n1.ge (Below.refl w.heap.size _)
   refine ysv (.o [] 5) k1'3 [.int .i64 0,.bool false,.slice none 0 0,.slice none 0 0] (.t w.heap.size [220]) fun W10 u10 k10=>⟨(Zm u10 k1'3 g1 (by decide)),?_⟩
   have hB'3:=u10.below (bln (bln (bln (bln hB hb3) hb8) (Zb W8)) hb9) g1
   have hv9'1:=hv9.upd u10 k1'3 (by decide)
   refine xec (.r [6] 4) k10 (.tuple #[.agg #[.int .i64 0,.bool false,.slice none 0 0,.slice none 0 0],.iface 179 (.pointer (some ⟨bf9,0,none⟩))]) ?_
   have he:Xc l no tree=Yo 2 no (Ju l j):=by unfold Xc;rw[he2,if_neg hs]
   exact .inl ⟨by rw[he];exact hs,_,rfl,hB'3,by rw[he];exact hv9'1⟩
  refine yc 0 (args:=#[.int .i64 no,.iface 91 (.int .i64 (Yo 2 no (Ju l j)))]) (.t w.heap.size [220]) (Jf no (Yo 2 no (Ju l j)) _) ?_
  rintro _ W11 ⟨_,rfl,hb11,hv11⟩
  refine⟨(SF.of_below _ hb11),?_⟩
  rw[if_neg hs,if_neg hs] at hv11
  have hq11:=hv11
  obtain⟨bf11,vf11,rfl,_,_⟩:=hq11
  have k2:=(((n2.blk.below hb3).below hb8).below (Zb W8)).below hb11
  refine xlv (.o [] 0) k2.rp ?_
  have k1'4:=((((n1.blk.below n2.below).below hb3).below hb8).below (Zb W8)).below hb11
  have g1:=n1.ge (Below.refl w.heap.size _)
  refine ysv (.o [] 5) k1'4 [.int .i64 0,.bool false,.slice none 0 0,.slice none 0 0] (.t w.heap.size [220]) fun W12 u12 k12=>⟨(Zm u12 k1'4 g1 (by decide)),?_⟩
  have hB'4:=u12.below (bln (bln (bln (bln hB hb3) hb8) (Zb W8)) hb11) g1
  have hv11'1:=hv11.upd u12 k1'4 (by decide)
  refine xec (.r [6] 4) k12 (.tuple #[.agg #[.int .i64 0,.bool false,.slice none 0 0,.slice none 0 0],.iface 179 (.pointer (some ⟨bf11,0,none⟩))]) ?_
  have he:Xc l no tree=Yo 2 no (Ju l j):=by unfold Xc;rw[he2,if_neg hs]
  exact .inl ⟨by rw[he];exact hs,_,rfl,hB'4,by rw[he];exact hv11'1⟩
 have hs8:=(bln hB hb3).size
 have h3'1:=Zf h3 hs8
 have hin:((Ju l j).drop 8).take 244=inB l no:=(inB_in hk).symm
 have hil:=inB_len hI.len hk hj
 rw[hin] at h3'1
 have hB'5:=bln (bln hB hb3) hb8
 refine xc 21 (args:=#[.slice p3 244 c3,.pointer (some ⟨bt,0,none⟩)]) (node_1 tree bt p3 c3 (inB l no) _ (kt.below hB'5) hil (Jv (Zg h3'1) hil)) ?_
 rintro e W13 hq13
 rcases hq13 with ⟨hz,a5,b5,kp,m1,kc,vp,m2,vc,rfl,hb13⟩|⟨hz,kp,kc,vp,vc,rfl,hb13,hk,hv_⟩
 ·refine xa 3 [.int .i64 0,.bool false,.slice none 0 0,.slice none 0 0] 220 fun b14 W14 n14=>?_
  have k1'5:=(((n1.blk.below n2.below).below hb3).below hb8).below hb13
  have d14_b1:=n14.ne k1'5
  have k2:=((n2.blk.below hb3).below hb8).below hb13
  have d14_b2:=n14.ne k2
  have hB'6:=bln hB'5 hb13
  have g14:=n14.ge hB'6
  refine xsv 0 n14.blk [.int .i64 a5,.bool b5,.slice kp m1 kc,.slice vp m2 vc] fun W15 u15 k15=>?_
  refine xk 10 (show(((Qh (inB l no) tree) != (0:Int)):Bool)=true from bne_iff_ne.2 hz) ?_
  refine xd 1 (.t w.heap.size [220]) ?_
  refine xm2 (.b [1,2,3]) 0 4 ?_ ?_
  ·have k2'1:=(u15.blk (k2.below n14.below) (Ne.symm (Ne.symm d14_b2))).below (Zb W15)
   refine xlv 0 k2'1.rp ?_
   refine yc (.o [] 4) (args:=#[.int .i64 no,.iface 91 (.int .i64 (Qh (inB l no) tree))]) (.t w.heap.size [220]) (Jf no (Qh (inB l no) tree) _) ?_
   rintro _ W16 ⟨_,rfl,hb16,hv16⟩
   refine⟨(SF.of_below _ hb16),?_⟩
   rw[if_neg hz,if_neg hz] at hv16
   have hq16:=hv16
   obtain⟨bf16,vf16,rfl,_,_⟩:=hq16
   have k1'6:=((u15.blk (k1'5.below n14.below) (Ne.symm (Ne.symm d14_b1))).below (Zb W15)).below hb16
   have g1:=n1.ge (Below.refl w.heap.size _)
   refine ysv (.o [] 5) k1'6 [.int .i64 0,.bool false,.slice none 0 0,.slice none 0 0] (.t w.heap.size [220]) fun W17 u17 k17=>⟨(Zm u17 k1'6 g1 (by decide)),?_⟩
   have hB'7:=u17.below (bln (bln (u15.below (bln hB'6 n14.below) g14) (Zb W15)) hb16) g1
   have hv16'1:=hv16.upd u17 k1'6 (by decide)
   refine xec (.r [6] 4) k17 (.tuple #[.agg #[.int .i64 0,.bool false,.slice none 0 0,.slice none 0 0],.iface 179 (.pointer (some ⟨bf16,0,none⟩))]) ?_
   have he:Xc l no tree=Qh (inB l no) tree:=by unfold Xc;rw[he2,if_pos hs]
   exact .inl ⟨by rw[he];exact hz,_,rfl,hB'7,by rw[he];exact hv16'1⟩
  refine yc 0 (args:=#[.int .i64 no,.iface 91 (.int .i64 (Qh (inB l no) tree))]) (.t w.heap.size [220]) (Jf no (Qh (inB l no) tree) _) ?_
  rintro _ W18 ⟨_,rfl,hb18,hv18⟩
  refine⟨(SF.of_below _ hb18),?_⟩
  rw[if_neg hz,if_neg hz] at hv18
  have hq18:=hv18
  obtain⟨bf18,vf18,rfl,_,_⟩:=hq18
  have k2'2:=((u15.blk (k2.below n14.below) (Ne.symm (Ne.symm d14_b2))).below (Zb W15)).below hb18
  refine xlv (.o [] 0) k2'2.rp ?_
  have k1'7:=((u15.blk (k1'5.below n14.below) (Ne.symm (Ne.symm d14_b1))).below (Zb W15)).below hb18
  have g1:=n1.ge (Below.refl w.heap.size _)
  refine ysv (.o [] 5) k1'7 [.int .i64 0,.bool false,.slice none 0 0,.slice none 0 0] (.t w.heap.size [220]) fun W19 u19 k19=>⟨(Zm u19 k1'7 g1 (by decide)),?_⟩
  have hB'8:=u19.below (bln (bln (u15.below (bln hB'6 n14.below) g14) (Zb W15)) hb18) g1
  have hv18'1:=hv18.upd u19 k1'7 (by decide)
  refine xec (.r [6] 4) k19 (.tuple #[.agg #[.int .i64 0,.bool false,.slice none 0 0,.slice none 0 0],.iface 179 (.pointer (some ⟨bf18,0,none⟩))]) ?_
  have he:Xc l no tree=Qh (inB l no) tree:=by unfold Xc;rw[he2,if_pos hs]
  exact .inl ⟨by rw[he];exact hz,_,rfl,hB'8,by rw[he];exact hv18'1⟩
 have hs13:=(bln (bln hB hb3) hb8).size
 refine xa 3 [.int .i64 0,.bool false,.slice none 0 0,.slice none 0 0] 220 fun b20 W20 n20=>?_
 have k1'8:=(((n1.blk.below n2.below).below hb3).below hb8).below hb13
 have d20_b1:=n20.ne k1'8
 have k2:=((n2.blk.below hb3).below hb8).below hb13
 have d20_b2:=n20.ne k2
 have hB'9:=bln hB'5 hb13
 have g20:=n20.ge hB'9
 refine xsv 0 n20.blk [.int .i64 (Xt (inB l no)),.bool (Xk (inB l no)),.slice kp (Zn (inB l no)) kc,.slice vp (Zn (inB l no)) vc] fun W21 u21 k21=>?_
 refine xlv 15 k21.rp ?_
 have k1'9:=u21.blk (k1'8.below n20.below) (Ne.symm (Ne.symm d20_b1))
 refine xsv 0 k1'9 [.int .i64 (Xt (inB l no)),.bool (Xk (inB l no)),.slice kp (Zn (inB l no)) kc,.slice vp (Zn (inB l no)) vc] fun W22 u22 k22=>?_
 have g1:=n1.ge (Below.refl w.heap.size _)
 have hB'10:=u22.below (u21.below (bln hB'9 n20.below) g20) g1
 have hk'1:=u22.own2 (u21.own2 (Za (Zf hk hs13) n20.below) n20.blk (by decide)) k1'9 (by decide)
 have hv_'1:=u22.own2 (u21.own2 (Za (Zf hv_ hs13) n20.below) n20.blk (by decide)) k1'9 (by decide)
 exact xec 4 k22 (.tuple #[.agg #[.int .i64 (Xt (inB l no)),.bool (Xk (inB l no)),.slice kp (Zn (inB l no)) kc,.slice vp (Zn (inB l no)) vc],.nilIface]) (.inr ⟨by unfold Xc;rw[he2,if_pos hs,hz],_,_,_,_,rfl,hB'10,hk'1,hv_'1⟩)
theorem Sh(B b:Nat)(p:Option Addr)(n c:Nat)(l:List UInt8)(no tree:Int)(w:World)(hI:ImgR B b p n c l w) :
 Calls Tryz.prog 136 #[.pointer (some ⟨b,0,none⟩),.int .i64 no,.int .i64 tree] w (Zdb l no tree w):=by
 refine zin 14 Tryz.func136 ?_
 refine xa 2 [.int .i64 tree] 3 fun b1 W1 n1=>?_
 refine xa 0 [.int .i64 0,.bool false,.slice none 0 0,.slice none 0 0] 220 fun b2 W2 n2=>?_
 have hB:=bln n1.below n2.below
 have k1:=n1.blk.below n2.below
 refine xc 8 (args:=#[.pointer (some ⟨b,0,none⟩),.int .i64 no,.int .i64 2,.func (.func 186) #[] #[.pointer (some ⟨b1,0,none⟩)]]) (readNode B b p n c l no tree _ (hI.below hB) b1 k1) ?_
 rintro e W3 hq3
 rcases hq3 with ⟨he,bf,rfl,hb3,hv⟩|⟨he,kp,kc,vp,vc,rfl,hb3,hk,hv_⟩
 ·have k2:=n2.blk.below hb3
  refine xsv 2 k2 [.int .i64 0,.bool false,.slice none 0 0,.slice none 0 0] fun W4 u4 k4=>?_
  have g2:=n2.ge n1.below
  have hB'1:=u4.below (bln hB hb3) g2
  have hv'1:=hv.upd u4 k2 (by decide)
  exact xec 4 k4 (.tuple #[.agg #[.int .i64 0,.bool false,.slice none 0 0,.slice none 0 0],.iface 179 (.pointer (some ⟨bf,0,none⟩))]) (.inl ⟨he,_,rfl,hB'1,hv'1⟩)
 have hs3:=(bln n1.below n2.below).size
 have k2:=n2.blk.below hb3
 refine xsv 2 k2 [.int .i64 (Xt (inB l no)),.bool (Xk (inB l no)),.slice kp (Zn (inB l no)) kc,.slice vp (Zn (inB l no)) vc] fun W5 u5 k5=>?_
 have g2:=n2.ge n1.below
 have hB'2:=u5.below (bln hB hb3) g2
 have hk'1:=u5.own2 (Zf hk hs3) k2 (by decide)
 have hv_'1:=u5.own2 (Zf hv_ hs3) k2 (by decide)
 exact xec 4 k5 (.tuple #[.agg #[.int .i64 (Xt (inB l no)),.bool (Xk (inB l no)),.slice kp (Zn (inB l no)) kc,.slice vp (Zn (inB l no)) vc],.nilIface]) (.inr ⟨he,_,_,_,_,rfl,hB'2,hk'1,hv_'1⟩)
theorem Pv(ba b:Nat)(v x:Value)(w:World)(hk:Blk w ba [v,x,.pointer (some ⟨b,0,none⟩)] 153) :
 Calls Tryz.prog 26 #[.pointer (some ⟨ba,0,none⟩)] w (Ret (.pointer (some ⟨b,0,none⟩)) w):=by
 refine zin 9 Tryz.func26 ?_
 refine xr 9 (args:=#[.pointer (some ⟨ba,0,none⟩)]) (We ba b _ _ _ hk) fun W1 hb1=>?_
 have hk'1:=hk.below hb1
 refine xb 10 2 hk'1 ?_
 exact xe 4 (.pointer (some ⟨b,0,none⟩)) ⟨rfl,hb1⟩
abbrev Ent:=Int×List UInt8×Int
def Zi:Ent:=(0,[],0)
def Ky(x:Ent):List Value:=[.int .i64 x.1,.string ⟨x.2.1.toArray⟩,.int .i64 x.2.2]
theorem Xm(x:Ent):(Ky x).length=3:=rfl
def lastK(l:List Ent):Nat→Int
 | 0=>-1
 | i+1=>(l.getD i Zi).1
structure EntsOk(v:Nat)(l:List Ent):Prop where
 hk:∀ i,i<l.length→0≤(l.getD i Zi).1∧(l.getD i Zi).1≤281474976710655
 hs:∀ j,j+1<l.length→(l.getD j Zi).1<(l.getD (j+1) Zi).1
 hw:∀ i,i<l.length→(l.getD i Zi).2.1.length=v
theorem EntsOk.last{v:Nat}{l:List Ent}(E:EntsOk v l){i:Nat}(h:i<l.length):lastK l i<(l.getD i Zi).1:=by
 cases i with
 | zero=>have:=(E.hk 0 h).1;simp only[lastK];omega
 | succ j=>exact E.hs j h
theorem Je(x:Nat):x≤(Hu x).sum:=by
 by_cases h:x≤1
 ·rw[Jg h];simp
 ·rw[Vg h];simp
theorem Zcy(t:Int)(n:Nat):1≤Hx t n:=by
 have h1:=Je (ovN n (Vy t true));have h2:=Qd n (Vy t true);unfold Hx Hl;omega
theorem Zb5(t:Int)(v:Nat)(a:Option Addr)(c:Nat)(l:List Ent)(w:World)(ht1:1≤t)(ht2:t≤5)(hv:Gv t true=v)(E:EntsOk v l)(h:Sts Ky w (.slice a l.length c) l)(hn:l.length≤32768) :
 Calls Tryz.prog 58 #[.int .i64 t,.slice a l.length c] w (Ret (.bool true) w):=by
 have hwb:=Ee t true
 rw[hv] at hwb
 have hnp:=Zcy t l.length
 refine zin 45 Tryz.func58 ?_
 refine xr 8 (args:=#[.int .i64 t,.bool true]) (Py t true v hv ht1 ht2 _) fun W1 hb1=>?_
 refine xgk 9 [12,13] (show(((↑v:Int)==(0:Int)):Bool)=false from by simp;omega) ?_
 refine xr 3 (args:=#[.int .i64 t,.int .i64 (↑l.length:Int)]) (Sm t l.length _ ht1 ht2 hn) fun W3 hb3=>?_
 refine xk 4 (show(((↑(Hx t l.length):Int)==(0:Int)):Bool)=false from by simp;omega) ?_
 have hB:=bln hb1 hb3
 refine zl 16 45 (fun zm zkv V=>∃ (i:Nat),zkv=[(5,.int .i64 (↑v:Int)),(6,.int .i64 (lastK l i)),(20,.slice a l.length c),(21,.int .i64 (↑l.length:Int)),(22,.int .i64 (↑i:Int))]∧zm=l.length-((↑i:Int)).toNat∧Below w.heap.size w V∧i≤l.length) ⟨0,rfl,rfl,hB,Nat.zero_le _⟩ ?_
 rintro _ _ W4 ⟨i,rfl,rfl,hB_4,hi⟩ J4 hJ4 r4
 refine xid 6 ((↑i:Int)<(↑l.length:Int)) (fun hc5=>?_) (fun hc5=>?_)
 ·refine xx 6 _ l.length i 3 (Sts.cell h Xm Zi (k:=i) (i:=0) (by omega) rfl).1 ?_
  refine xlv 0 (Sts.rp (k:=i) (h.below hB_4) Xm Zi (by omega) (by decide)) ?_
  refine xa 0 [.int .i64 0,.string ⟨#[]⟩,.int .i64 0] 74 fun b6 W6 n6=>?_
  have g6:=n6.ge hB_4
  refine xsv 0 n6.blk [.int .i64 ((l.getD i Zi).1),.string ⟨((l.getD i Zi).2.1).toArray⟩,.int .i64 ((l.getD i Zi).2.2)] fun W7 u7 k7=>?_
  refine xb 6 0 k7 ?_
  refine xgk 3 [29,30] (show(decide ((l.getD i Zi).1≤(lastK l i)):Bool)=false from decide_eq_false (by have:=E.last (i:=i) (by omega);omega)) ?_
  refine xb 1 0 k7 ?_
  refine xgk 3 [33,34,35] (show(decide ((l.getD i Zi).1>(281474976710655:Int)):Bool)=false from decide_eq_false (by have:=(E.hk i (by omega)).2;omega)) ?_
  refine xb 1 1 k7 ?_
  refine xk 6 (show(((↑((l.getD i Zi).2.1).length:Int) != (↑v:Int)):Bool)=false from by rw[E.hw i (by omega)];simp) ?_
  refine xb 4 0 k7 ?_
  refine xw 5 ((↑i:Int)+1) ?_
  have hB'1:=u7.below (bln hB_4 n6.below) g6
  exact ze 2 (hJ4 _ _ _ ⟨i+1,rfl,rfl,hB'1,by omega⟩ (by omega))
 exact xe 11 (.bool true) ⟨rfl,hB_4⟩
theorem Dc(p:Option Addr)(n c:Nat)(w:World) :
 Calls Tryz.prog 210 #[.slice p n c] w (fun e w'=>∃ b,e=.returned (.func (.func 229) #[] #[.pointer (some ⟨b,0,none⟩)])∧Below w.heap.size w w'∧w.heap.size≤b∧Blk w' b [.slice p n c] 31):=by
 refine zin 4 Tryz.func210 ?_
 refine xa 2 [.slice p n c] 31 fun b1 W1 n1=>?_
 have g1:=n1.ge (Below.refl w.heap.size _)
 exact xe 10 (.func (.func 229) #[] #[.pointer (some ⟨b1,0,none⟩)]) ⟨_,rfl,n1.below,g1,n1.blk⟩
end Go.Proofs.YtlmaglneeaecdaaGreatDoor
namespace Go.Proofs.YtlmaglneeaecdaaGreatDoor
set_option maxHeartbeats 8000000
set_option maxRecDepth 100000
open Go.RowKit Go.Extern.Stop Go.Stop Go.Extern
set_option linter.unusedVariables false
attribute [local irreducible] wpList wpAnyH Code.wp Oper.wp Go
attribute [local go_sem] Oper.semAt_some
theorem Upd.of_put(w:World)(D:Nat)(o:Obj):Upd w D (w.putObj D o):=⟨rfl,rfl,rfl,by simp[World.putObj],fun k hk=>World.putObj_heap_other hk⟩
def Dfr (D:Nat)(w:World):Prop:=w.heap[D]? = some (.deferred (some []))
theorem Dfr.below{D:Nat}{w W:World}(h:Dfr D w)(hb:Below w.heap.size w W):Dfr D W:=(hb.block D (Array.getElem?_eq_some_iff.1 h).1).trans h
theorem Dfr.ne{D b:Nat}{w:World}{cs:List Value}{t:TypeId}(h:Dfr D w)(k:Blk w b cs t):b≠D:=by
 rintro rfl
 have h':w.heap[b]? = _:=h
 rw[show w.heap[b]? = _ from k] at h'
 cases h'
theorem Dfr.upd{D b:Nat}{w W:World}{cs:List Value}{t:TypeId}(h:Dfr D w)(u:Upd w b W)(k:Blk w b cs t):Dfr D W:=(u.block D fun e=>h.ne k e.symm).trans h
theorem Dfr.row{D:Nat}{w:World}{base e size n:Nat}{v:Value}{xs:List Value}(h:Dfr D w)(k:w.ownsRow base e size v n xs):∀ g,v.ownBlock=some g→g≠D:=by
 rintro g hg rfl
 rcases k.2 with ⟨rfl,_⟩|⟨g',cap,cur,rfl,_,hh,_⟩
 ·cases hg
 ·simp only[Value.ownBlock,Option.some.injEq] at hg
  subst hg
  rw[show w.heap[g']? = _ from h] at hh
  cases hh
theorem Dfr.grown{D:Nat}{w W:World}{base e size n:Nat}{v:Value}{xs:List Value}(h:Dfr D w)(hg:w.grownBy W v.ownBlock)(k:w.ownsRow base e size v n xs):Dfr D W :=
 (hg.block D (Array.getElem?_eq_some_iff.1 h).1 fun q=>h.row k D q.symm rfl).trans h
theorem g_endM{P:Program}{fn:Func}{R:Ending→World→Prop}{a:Act}{w:World}{D:Nat}(hK:Dfr D w)(v:Value)(hd:a.defers=[{ target:=.collected D,args:=#[] }])(hr:(results fn a.tmps).run P (w.putObj D (.deferred none))=.ok v (w.putObj D (.deferred none)))(h:R (.returned v) (w.putObj D (.deferred none))):bodyPostM Fence.wide 4 P fn R .normal a w :=
 by
 show LeavesInM _ _ _ _ a.tmps R a.defers .returning w
 rw[hd]
 exact⟨by simp,.inl ⟨_,_,rfl,run_takeDeferred hK,_,hr,h⟩⟩
def noPan(Q:Exit→Act→World→Prop):Exit→Act→World→Prop
 | .normal,a,w=>Q .normal a w
 | .ret,a,w=>Q .ret a w
 | _,_,_=>False
theorem g_nopan{P:Program}{c:Code}{Q:Exit→Act→World→Prop}{a:Act}{w:World}(h:c.wp P (noPan Q) a w):c.wp P Q a w:=wp_mono h fun e a w q=>by cases e<;>first|exact q|exact q.elim
theorem Xn{w:World}{base size n b:Nat}{e t:TypeId}{v:Value}{xs cs:List Value}(k:w.ownsRow base e size v n xs)(q:Blk w b cs t)(hne:e≠t):∀ g,v.ownBlock=some g→g≠b:=by
 rintro g hg rfl
 rcases k.2 with ⟨rfl,_⟩|⟨g',cap,cur,rfl,_,hh,_⟩
 ·cases hg
 ·simp only[Value.ownBlock,Option.some.injEq] at hg
  subst hg
  rw[show w.heap[g']? = _ from q] at hh
  simp only[Option.some.injEq,Obj.cells.injEq] at hh
  exact hne hh.2.1.symm
theorem Lu{w W:World}(h:Below w.heap.size w W):KeepsOthers w W:=⟨h.size,fun b o hb _=>(h.block b (Array.getElem?_eq_some_iff.1 hb).1).trans hb⟩
theorem Zeu{w W:World}{b:Nat}{cs:List Value}{t:TypeId}(u:Upd w b W)(k:Blk w b cs t):KeepsOthers w W:=⟨Nat.le_of_eq u.size.symm,fun d o hd ho=>(u.block d (by rintro rfl;rw[show w.heap[d]? = _ from k] at hd;cases hd;cases ho)).trans hd⟩
theorem Dfr.only_new{T:List TypeId}{a w W:World}{b:Nat}(h:Ze T a w)(hbb:BelowBut w b W)(hb:a.heap.size≤b):Ze T a W:=fun k cs t fr hk ht=>by
 have h0:=(Array.getElem?_eq_some_iff.1 hk).1
 have h1:=h k cs t fr hk ht
 rw[hbb.block k (Array.getElem?_eq_some_iff.1 h1).1 (by omega)];exact h1
theorem BelowBut.own3{w W:World}{b base size n:Nat}{e:TypeId}{v:Value}{xs:List Value}(h:BelowBut w b W)(k:w.ownsRow base e size v n xs)(hs:∀ j,v.ownBlock=some j→j≠b):W.ownsRow base e size v n xs:=by
 obtain⟨h1,h2⟩:=k
 refine⟨h1,?_⟩
 rcases h2 with h2|⟨g,cap,cur,rfl,hg,hh,r⟩
 ·exact Or.inl h2
 ·exact Or.inr ⟨g,cap,cur,rfl,hg,by rw[h.block g (Array.getElem?_eq_some_iff.1 hh).1 (hs g rfl)];exact hh,r⟩
theorem Zbf{β:Type}{w:World}{b B:Nat}(hB:w.heap.size≤B):OwnFrom B (fun(_:β) W=>BelowBut w b W):=fun _ W W' row hs hg hr =>
 ⟨hg.os.trans hs.os,hg.tape.trans hs.tape,hg.output.trans hs.output,Nat.le_trans hs.size hg.size,fun k hk hne=>(hg.block k (Nat.lt_of_lt_of_le hk hs.size) (fun e=>by have:=(hr k e.symm).1;omega)).trans (hs.block k hk hne)⟩
theorem Vu.turn{A B:World}{row:Option Nat}{l:List (Option Int)}{c:Option Int}{v:Value}(h:Vu A l c v)(hg:A.grownBy B row)(hr:∀ r,row=some r→∃ o:Obj,A.heap[r]? = some o∧o.isCells=false):Vu B l c v:=h.kept fun _ _ k=>k.turn hg hr
def atW (way:List Int)(pre:List (Fin way.length))(bs:List Int):List Int:=(pre.map fun j=>way[qOf j]?.getD 0).reverse++bs
theorem atW_snoc(way:List Int)(pre:List (Fin way.length))(x:Fin way.length)(bs:List Int):atW way (pre++[x]) bs=(way[qOf x]?.getD 0)::atW way pre bs:=by simp[atW]
theorem atW_all(way bs:List Int):atW way (List.finRange way.length) bs=way++bs:=by
 unfold atW
 congr 1
 apply List.ext_getElem
 ·simp
 ·intro i h1 h2
  simp only[List.length_reverse,List.length_map,List.length_finRange] at h1
  rw[List.getElem_reverse,List.getElem_map]
  simp only[List.length_map,List.length_finRange,List.getElem_finRange,qOf]
  have e:way.length-1-(way.length-1-i)=i:=by omega
  simp[e,h2]
theorem Vu.one{w:World}{l:List (Option Int)}{c:Option Int}{v:Value}(h:Vu w l c v):v.oneCell'=true:=by
 rcases h.nil_or with ⟨_,rfl⟩|⟨_,t,x,rfl⟩<;>rfl
theorem Vu.iface{w:World}{l:List (Option Int)}{c:Int}{v:Value}(h:Vu w l (some c) v):∃ t x,v=.iface t x:=by
 rcases h.nil_or with ⟨q,_⟩|⟨_,q⟩
 ·simp[Nb] at q
 ·exact q
theorem Vk{b c:Int}{l:List (Option Int)}:atL b l (some c)=some b::l:=by simp[atL,Nb]
theorem Za4{v:Value}(h:v.oneCell'=true):∀ u∈[v],u.oneCell'=true:=by simpa using h
def NoteP(B bw:Nat)(c0 c1 c2 c3 c5 c6 c7 c8 c9:Value)(nf:Nat)(fs:List Value)(l:List Int)(ec:Int)(w:World)(e:Ending)(w':World):Prop :=
 ∃ u p c ty x,e=.returned u∧Below B w w'∧Ze [229,26] w w'∧Blk w' bw [c0,c1,c2,c3,.slice p (nf+1) c,c5,c6,c7,c8,c9] 229∧w'.ownsRow B 26 1 (.slice p (nf+1) c) (nf+1) (fs++[.iface ty x])∧Vu w' (l.map some) (some ec) (.iface ty x)
theorem Nd(B bw:Nat)(c0 c1 c2 c3 c5 c6 c7 c9:Value)(pf:Option Addr)(nf cf:Nat)(fs:List Value)(pw:Option Addr)(cw:Nat)(way bs:List Int)(ec:Int)(ty:TypeId)(ev:Value)(w:World)(hBb:B≤bw)(hBw:B≤w.heap.size)(kW:Blk w bw [c0,c1,c2,c3,.slice pf nf cf,c5,c6,c7,.slice pw way.length cw,c9] 229)(hF:w.ownsRow B 26 1 (.slice pf nf cf) nf fs)(hway:w.ownsRow B 3 1 (.slice pw way.length cw) way.length (way.map (Value.int .i64)))(hE:Vu w (bs.map some) (some ec) (.iface ty ev))(hwl:way.length≤1000000)(hnf:nf≤1000000) :
 Calls Tryz.prog 159 #[.pointer (some ⟨bw,0,none⟩),.iface ty ev] w (NoteP B bw c0 c1 c2 c3 c5 c6 c7 (.slice pw way.length cw) c9 nf fs (way++bs) ec w):=by
 refine Gf Tryz.func159 rfl ?_
 refine g_fr ⟨#[.pointer (some ⟨bw,0,none⟩),.iface ty ev,undef,undef,undef,undef,undef,undef,undef,undef,undef,undef,undef,undef,undef,undef,undef,undef,undef,undef,undef,undef,undef,undef,undef,undef,undef,undef],[]⟩ (by kernel_rfl) ?_
 refine wp_seq ?_
 refine wp_region_lit ?_
 refine Vl (by kernel_rfl) (Zal [.iface ty ev] rfl (by kernel_rfl) ?_)
 intro b1 W1 n1
 have d1_bw:=n1.ne kW
 have g1:=n1.ge0 (Below.refl B _)
 have r1_hF:=Zp hF n1
 have hO:Ze [229,26] w _:=(Ze.of_below n1.below)
 have hB:=blB (Below.refl B w) hBw n1.below
 replace kW:=kW.below n1.below
 replace hF:=Za hF n1.below
 replace hway:=Za hway n1.below
 replace hE:=hE.below n1.below
 have k1:=n1.blk
 refine wpList_nil ?_
 refine wp_seq ?_
 refine wp_seq ?_
 refine wp_region_lit ?_
 refine Gk 3 [(6,.pointer (some ⟨bw,0,none⟩)),(7,.pointer (some ⟨bw,0,none⟩)),(8,.pointer (some ⟨bw,8,none⟩))] (by kernel_rfl) ?_
 refine Vl (by kernel_rfl) (Qf ⟨bw,8,none⟩ (.slice pw way.length cw) rfl (by kernel_rfl) (by kernel_rfl) (kW.cell (i:=8) rfl) ?_)
 have lt2_bw:=kW.lt
 have lt2_b1:=k1.lt
 have hs2:w.heap.size≤(W1).heap.size:=hB.size
 refine Vl (by kernel_rfl) (Jr (lb:=#[]) 210 #[.slice pw way.length cw] rfl (by kernel_rfl) (fun _ _=>by kernel_rfl) (by kernel_rfl) ((Dc pw way.length cw _).mono ?_))
 rintro e W2 ⟨bk2,rfl,hb2,hg2,kk2⟩
 refine⟨_,rfl,?_⟩
 replace hO:=hO.trans (Ze.of_below hb2)
 replace hB:=blB hB hBw hb2
 replace kW:=kW.below hb2
 replace k1:=k1.below hb2
 replace hF:=Za hF hb2
 replace hway:=Za hway hb2
 replace hE:=hE.below hb2
 have gb2:w.heap.size≤bk2:=Nat.le_trans hs2 hg2
 have nb2_bw:bk2≠bw:=by omega
 have nb2_b1:bk2≠b1:=by omega
 refine wpList_nil ?_
 refine wp_block ?_
 have hzk:=kk2.lt
 have hz3:=k1.lt
 have hst:=Zdy bk2 (fun b=>b<W2.heap.size∧b≠b1) (.slice pw way.length cw) way W2 (fun b h=>h.1) ⟨hzk,nb2_b1⟩ (by omega) (Zg hway) (fun _ b off n cap q=>by cases q;exact⟨(hway.lt b rfl).2,Xn hway k1 (by decide) b rfl⟩) (kk2.cell (i:=0) rfl)
 refine g_fr ⟨#[.pointer (some ⟨bw,0,none⟩),.iface ty ev,undef,.pointer (some ⟨b1,0,none⟩),undef,undef,.pointer (some ⟨bw,0,none⟩),.pointer (some ⟨bw,0,none⟩),.pointer (some ⟨bw,8,none⟩),.slice pw way.length cw,.func (.func 229) #[] #[.pointer (some ⟨bk2,0,none⟩)],undef,undef,undef,undef,undef,undef,undef,undef,undef,undef,undef,undef,undef,undef,undef,undef,undef],[]⟩ (by kernel_rfl) ?_
 refine Zce (g:=.tmp 10) (gf:=229) (lb:=#[.pointer (some ⟨bk2,0,none⟩)]) rfl (enters_of Tryz.func229 (by kernel_rfl) rfl) _ (fun b h=>h.1) hst (fun _=>rfl)
  (fun pre W=>(∃ v',Blk W b1 [v'] 26∧Vu W ((atW way pre bs).map some) (some ec) v')∧BelowBut W2 b1 W)
  (fun _ _ _=>False) ?own (fun _ _ _ _ _ h _ _=>h) ⟨⟨_,k1,hE⟩,(Below.refl _ _).but _⟩
  (fun x a' _=>a'={ tmps:=#[.pointer (some ⟨bw,0,none⟩),.iface ty ev,undef,.pointer (some ⟨b1,0,none⟩),undef,.int .i64 (way[qOf x]?.getD 0),.pointer (some ⟨bw,0,none⟩),.pointer (some ⟨bw,0,none⟩),.pointer (some ⟨bw,8,none⟩),.slice pw way.length cw,.func (.func 229) #[] #[.pointer (some ⟨bk2,0,none⟩)],.int .i64 (qOf x:Int),.int .i64 (way[qOf x]?.getD 0),undef,undef,undef,undef,undef,undef,undef,undef,undef,undef,undef,undef,undef,undef,undef],defers:=[] }) (fun _ _ _ _ _ _ h _ _=>h) ?assign ?body ?done (fun _ _ _ _ _ _ h _=>h.elim)
 case own=>exact OwnFrom.and (Own.from (fun s A B row hs hg hr=>by obtain⟨v',h1,h2⟩:=hs;exact⟨v',h1.turn hg hr,h2.turn hg hr⟩) _) (Zbf (Nat.le_refl _))
 case assign =>
  rintro lr pre x W K hI hK
  unfold encB
  gi_wp2
  exact hK _ _ (KeepsFrom.refl _ _) (Keeps.refl _ _) hI rfl
 case body =>
  rintro lr pre x a' W hlr ⟨⟨v',m3,hv'⟩,hbb⟩ rfl hlt
  have mc:=m3.cell (i:=0) rfl
  gi_wp2_with (refine⟨trivial,?_⟩;gi_at_call 70;refine(CallsIn.inRound lr (callsIn_wide.2 (Qq _ _ _ _ _ hv'))).mono ?_;rintro e w2 ⟨r2,rfl,hb2,hE2⟩;obtain⟨t2,x2,rfl⟩:=hE2.iface;have m4:=m3.below hb2;have mg:=m4.frozen 0;have md:=m4.cell (i:=0) rfl)
  have hb2s:=hb2.size
  have u2:=Upd.setCell w2 b1 0 (.iface t2 x2)
  exact⟨((Lu hb2).trans (KeepsOthers.setCell _ _ _)).from _,Keeps.setCell (Keeps.of_below hb2 (fun b hb=>by have:=hbb.size;have:=hb.1;omega)) (fun hb=>hb.2 rfl) _,⟨_,m4.set 0 _,by rw[atW_snoc,List.map_cons,←Vk (c:=ec)];exact(hE2.upd u2 m4 (by decide))⟩,(hbb.next hb2).upd u2⟩
 case done =>
 rintro D xs W hD rfl ⟨⟨v',m3,hv'⟩,hbb⟩ hK0
 rw[atW_all] at hv'
 have hK:Dfr D W:=hK0;clear hK0
 refine g_nopan ?_
 refine g_fr ⟨#[.pointer (some ⟨bw,0,none⟩),.iface ty ev,undef,.pointer (some ⟨b1,0,none⟩),undef,undef,.pointer (some ⟨bw,0,none⟩),.pointer (some ⟨bw,0,none⟩),.pointer (some ⟨bw,8,none⟩),.slice pw way.length cw,.func (.func 229) #[] #[.pointer (some ⟨bk2,0,none⟩)],undef,undef,undef,undef,undef,undef,undef,undef,undef,undef,undef,undef,undef,undef,undef,undef,undef],[{ target:=.collected D,args:=#[] }]⟩ (by kernel_rfl) ?_
 have hv1:=hv'.one
 obtain⟨ty',x',rfl⟩:=hv'.iface
 have hDB:w.heap.size≤D:=Nat.le_trans (Nat.le_trans (by have:=hz3;have:=g1;omega) (Nat.le_refl _)) hD
 replace kW:=hbb.blk kW (Ne.symm (Ne.symm d1_bw))
 replace kk2:=hbb.blk kk2 nb2_b1
 replace hF:=hbb.own3 hF r1_hF
 replace hway:=hbb.own2 hway k1 (by decide)
 have hB0:=hB
 replace hB:=hbb.below hB (Nat.le_trans hBw g1) (Nat.le_trans hBw hB0.size)
 replace hO:=Dfr.only_new hO hbb g1
 replace k1:=m3
 replace hO:=hO.trans (Ze.of_below (Zb W))
 replace hB:=blB hB hBw (Zb W)
 replace kW:=kW.below (Zb W)
 replace k1:=k1.below (Zb W)
 replace kk2:=kk2.below (Zb W)
 replace hF:=Za hF (Zb W)
 replace hway:=Za hway (Zb W)
 replace hv':=hv'.below (Zb W)
 replace hK:=hK.below (Zb W)
 refine h_reg (Below B (W.drew)) 13 rfl #[false,false,false,false,false,false,false,false,false,false,false,false,false] rfl (by kernel_rfl) (Below.refl _ _) ?_
 intro hS3
 have hBd5:=hB
 have kd5_bw:=kW
 have kd5_b1:=k1
 have kd5_bk2:=kk2
 have hOd5:=hO
 refine Zcj [0,1,2,3,4] 8 rfl #[true,true,true,true,true,false,false,false,false,false,false,false,false] [(16,.pointer (some ⟨bw,0,none⟩)),(17,.pointer (some ⟨bw,0,none⟩)),(18,.pointer (some ⟨bw,0,none⟩)),(19,.pointer (some ⟨bw,0,none⟩)),(20,.pointer (some ⟨bw,4,none⟩))] (by kernel_rfl) (fun _ _ _ _ _ h=>h) (by kernel_rfl) hS3 ?_
 refine h_two 5 6 7 rfl (by kernel_rfl) rfl rfl (by kernel_rfl) (by kernel_rfl) ?_ ?_
 ·refine Qf ⟨bw,4,none⟩ (.slice pf nf cf) rfl (by kernel_rfl) (by kernel_rfl) (kW.cell (i:=4) rfl) ?_
  have hS6:Below B (W.drew) (W.drew):=hS3
  refine⟨hS6,?_⟩
  refine Wc 6 6 rfl (by kernel_rfl) rfl (by kernel_rfl) (Qf ⟨b1,0,none⟩ (.iface ty' x') rfl (by kernel_rfl) (by kernel_rfl) (k1.cell (i:=0) rfl) ?_)
  have hS7:Below B (W.drew) (W.drew):=hS6
  refine⟨hS7,?_⟩
  refine Wc 7 5 rfl (by kernel_rfl) rfl (by kernel_rfl) (Vj 26 [.iface ty' x'] rfl (by kernel_rfl) ?_)
  intro b8 W8 n8
  have d8_bw:=n8.ne kW
  have d8_b1:=n8.ne k1
  have d8_bk2:=n8.ne kk2
  have g8:=n8.ge0 hB
  have r8_hF:=Zp hF n8
  replace hO:=hO.trans (Ze.of_below n8.below)
  replace hB:=blB hB hBw n8.below
  replace kW:=kW.below n8.below
  replace k1:=k1.below n8.below
  replace kk2:=kk2.below n8.below
  replace hF:=Za hF n8.below
  replace hway:=Za hway n8.below
  replace hv':=hv'.below n8.below
  replace hK:=hK.below n8.below
  have k8:=n8.blk
  have hS9:Below B (W.drew) (W8):=blB hS7 (Nat.le_trans hBw hBd5.size) n8.below
  refine⟨hS9,?_⟩
  refine Wc 8 4 rfl (by kernel_rfl) rfl (by kernel_rfl) (Zt (e:=26) (n:=nf) (xs:=fs) (m:=1) (news:=[.iface ty' x']) (.nilIface) 1 16 (nf+1) (fs++[.iface ty' x']) rfl Tryz.underlying85 (by kernel_rfl) rfl (by decide) (by kernel_rfl) hF (by kernel_rfl) (k8.sl 1 1 (by decide) (by decide)) rfl (Za4 hv1) (by unfold maxLen;omega) (by omega) (Nat.le_trans hBw hB.size) (by simp) (by simp) ?_)
  intro p10 c10 W10 o10 hg10 hb10
  replace hO:=hO.trans (Ze.of_grown hg10 hF (by decide))
  replace kW:=kW.grown hg10 hF (by decide)
  replace k1:=k1.grown3 hg10 r1_hF
  replace kk2:=kk2.grown hg10 hF (by decide)
  replace hway:=Zh hway hg10 hF (by decide)
  replace hv':=hv'.grown hg10 hF (by decide)
  replace hK:=hK.grown hg10 hF
  replace hB:=hB.trans hb10
  have hS11:Below B (W.drew) (W10):=hS9.trans hb10
  refine⟨hS11,?_⟩
  refine Zcj [9,10,11] 1 rfl #[true,true,true,true,true,true,true,true,true,true,true,true,false] [(25,.pointer (some ⟨bw,0,none⟩)),(26,.pointer (some ⟨bw,0,none⟩)),(27,.pointer (some ⟨bw,4,none⟩))] (by kernel_rfl) (fun _ _ _ _ _ h=>h) (by kernel_rfl) hS11 ?_
  refine Wc 12 0 rfl (by kernel_rfl) rfl (by kernel_rfl) (Xx (v:=.slice p10 (nf+1) c10) (b:=bw) (off:=4) rfl (by kernel_rfl) (by kernel_rfl) (by kernel_rfl) rfl kW (by first|decide|simp) ?_)
  intro W12 u12 k12
  change Blk _ _ [c0,c1,c2,c3,.slice p10 (nf+1) c10,c5,c6,c7,.slice pw way.length cw,c9] _ at k12
  replace hO:=hO.trans (Ze.of_upd u12 kW (by decide))
  replace hB:=u12.below hB hBb
  replace k1:=u12.blk k1 (Ne.symm d1_bw)
  replace kk2:=u12.blk kk2 nb2_bw
  replace hway:=u12.own2 hway kW (by decide)
  replace hv':=hv'.upd u12 kW (by decide)
  replace hK:=hK.upd u12 kW
  replace o10:=u12.own2 o10 kW (by decide)
  have hS13:Below B (W.drew) (W12):=u12.below hS11 hBb
  refine⟨hS13,?_⟩
  refine Ds _ (by kernel_rfl) ?_
  exact g_endM hK (.tuple #[]) (by kernel_rfl) (by kernel_rfl) ⟨_,_,_,_,_,rfl,(Upd.of_put _ _ _).below hB (Nat.le_trans hBw hDB),Ze.upd_new hO (Upd.of_put _ _ _) hDB,(Upd.of_put _ _ _).blk k12 (hK.ne k12),(Upd.of_put _ _ _).own3 o10 (hK.row o10),hv'.kept fun _ _ q=>(Upd.of_put _ _ _).blk q (hK.ne q)⟩
 ·refine Qf ⟨b1,0,none⟩ (.iface ty' x') rfl (by kernel_rfl) (by kernel_rfl) (k1.cell (i:=0) rfl) ?_
  have hS14:Below B (W.drew) (W.drew):=hS3
  refine⟨hS14,?_⟩
  refine h_two 5 7 6 rfl (by kernel_rfl) rfl rfl (by kernel_rfl) (by kernel_rfl) ?_ ?_
  ·refine Qf ⟨bw,4,none⟩ (.slice pf nf cf) rfl (by kernel_rfl) (by kernel_rfl) (kW.cell (i:=4) rfl) ?_
   have hS15:Below B (W.drew) (W.drew):=hS14
   refine⟨hS15,?_⟩
   refine Wc 7 5 rfl (by kernel_rfl) rfl (by kernel_rfl) (Vj 26 [.iface ty' x'] rfl (by kernel_rfl) ?_)
   intro b16 W16 n16
   have d16_bw:=n16.ne kW
   have d16_b1:=n16.ne k1
   have d16_bk2:=n16.ne kk2
   have g16:=n16.ge0 hB
   have r16_hF:=Zp hF n16
   replace hO:=hO.trans (Ze.of_below n16.below)
   replace hB:=blB hB hBw n16.below
   replace kW:=kW.below n16.below
   replace k1:=k1.below n16.below
   replace kk2:=kk2.below n16.below
   replace hF:=Za hF n16.below
   replace hway:=Za hway n16.below
   replace hv':=hv'.below n16.below
   replace hK:=hK.below n16.below
   have k16:=n16.blk
   have hS17:Below B (W.drew) (W16):=blB hS15 (Nat.le_trans hBw hBd5.size) n16.below
   refine⟨hS17,?_⟩
   refine Wc 8 4 rfl (by kernel_rfl) rfl (by kernel_rfl) (Zt (e:=26) (n:=nf) (xs:=fs) (m:=1) (news:=[.iface ty' x']) (.nilIface) 1 16 (nf+1) (fs++[.iface ty' x']) rfl Tryz.underlying85 (by kernel_rfl) rfl (by decide) (by kernel_rfl) hF (by kernel_rfl) (k16.sl 1 1 (by decide) (by decide)) rfl (Za4 hv1) (by unfold maxLen;omega) (by omega) (Nat.le_trans hBw hB.size) (by simp) (by simp) ?_)
   intro p18 c18 W18 o18 hg18 hb18
   replace hO:=hO.trans (Ze.of_grown hg18 hF (by decide))
   replace kW:=kW.grown hg18 hF (by decide)
   replace k1:=k1.grown3 hg18 r1_hF
   replace kk2:=kk2.grown hg18 hF (by decide)
   replace hway:=Zh hway hg18 hF (by decide)
   replace hv':=hv'.grown hg18 hF (by decide)
   replace hK:=hK.grown hg18 hF
   replace hB:=hB.trans hb18
   have hS19:Below B (W.drew) (W18):=hS17.trans hb18
   refine⟨hS19,?_⟩
   refine Zcj [9,10,11] 1 rfl #[true,true,true,true,true,true,true,true,true,true,true,true,false] [(25,.pointer (some ⟨bw,0,none⟩)),(26,.pointer (some ⟨bw,0,none⟩)),(27,.pointer (some ⟨bw,4,none⟩))] (by kernel_rfl) (fun _ _ _ _ _ h=>h) (by kernel_rfl) hS19 ?_
   refine Wc 12 0 rfl (by kernel_rfl) rfl (by kernel_rfl) (Xx (v:=.slice p18 (nf+1) c18) (b:=bw) (off:=4) rfl (by kernel_rfl) (by kernel_rfl) (by kernel_rfl) rfl kW (by first|decide|simp) ?_)
   intro W20 u20 k20
   change Blk _ _ [c0,c1,c2,c3,.slice p18 (nf+1) c18,c5,c6,c7,.slice pw way.length cw,c9] _ at k20
   replace hO:=hO.trans (Ze.of_upd u20 kW (by decide))
   replace hB:=u20.below hB hBb
   replace k1:=u20.blk k1 (Ne.symm d1_bw)
   replace kk2:=u20.blk kk2 nb2_bw
   replace hway:=u20.own2 hway kW (by decide)
   replace hv':=hv'.upd u20 kW (by decide)
   replace hK:=hK.upd u20 kW
   replace o18:=u20.own2 o18 kW (by decide)
   have hS21:Below B (W.drew) (W20):=u20.below hS19 hBb
   refine⟨hS21,?_⟩
   refine Ds _ (by kernel_rfl) ?_
   exact g_endM hK (.tuple #[]) (by kernel_rfl) (by kernel_rfl) ⟨_,_,_,_,_,rfl,(Upd.of_put _ _ _).below hB (Nat.le_trans hBw hDB),Ze.upd_new hO (Upd.of_put _ _ _) hDB,(Upd.of_put _ _ _).blk k20 (hK.ne k20),(Upd.of_put _ _ _).own3 o18 (hK.row o18),hv'.kept fun _ _ q=>(Upd.of_put _ _ _).blk q (hK.ne q)⟩
  ·refine Vj 26 [.iface ty' x'] rfl (by kernel_rfl) ?_
   intro b22 W22 n22
   have d22_bw:=n22.ne kW
   have d22_b1:=n22.ne k1
   have d22_bk2:=n22.ne kk2
   have g22:=n22.ge0 hB
   have r22_hF:=Zp hF n22
   replace hO:=hO.trans (Ze.of_below n22.below)
   replace hB:=blB hB hBw n22.below
   replace kW:=kW.below n22.below
   replace k1:=k1.below n22.below
   replace kk2:=kk2.below n22.below
   replace hF:=Za hF n22.below
   replace hway:=Za hway n22.below
   replace hv':=hv'.below n22.below
   replace hK:=hK.below n22.below
   have k22:=n22.blk
   have hS23:Below B (W.drew) (W22):=blB hS14 (Nat.le_trans hBw hBd5.size) n22.below
   refine⟨hS23,?_⟩
   refine Wc 5 5 rfl (by kernel_rfl) rfl (by kernel_rfl) (Qf ⟨bw,4,none⟩ (.slice pf nf cf) rfl (by kernel_rfl) (by kernel_rfl) (kW.cell (i:=4) rfl) ?_)
   have hS24:Below B (W.drew) (W22):=hS23
   refine⟨hS24,?_⟩
   refine Wc 8 4 rfl (by kernel_rfl) rfl (by kernel_rfl) (Zt (e:=26) (n:=nf) (xs:=fs) (m:=1) (news:=[.iface ty' x']) (.nilIface) 1 16 (nf+1) (fs++[.iface ty' x']) rfl Tryz.underlying85 (by kernel_rfl) rfl (by decide) (by kernel_rfl) hF (by kernel_rfl) (k22.sl 1 1 (by decide) (by decide)) rfl (Za4 hv1) (by unfold maxLen;omega) (by omega) (Nat.le_trans hBw hB.size) (by simp) (by simp) ?_)
   intro p25 c25 W25 o25 hg25 hb25
   replace hO:=hO.trans (Ze.of_grown hg25 hF (by decide))
   replace kW:=kW.grown hg25 hF (by decide)
   replace k1:=k1.grown3 hg25 r1_hF
   replace kk2:=kk2.grown hg25 hF (by decide)
   replace hway:=Zh hway hg25 hF (by decide)
   replace hv':=hv'.grown hg25 hF (by decide)
   replace hK:=hK.grown hg25 hF
   replace hB:=hB.trans hb25
   have hS26:Below B (W.drew) (W25):=hS24.trans hb25
   refine⟨hS26,?_⟩
   refine Zcj [9,10,11] 1 rfl #[true,true,true,true,true,true,true,true,true,true,true,true,false] [(25,.pointer (some ⟨bw,0,none⟩)),(26,.pointer (some ⟨bw,0,none⟩)),(27,.pointer (some ⟨bw,4,none⟩))] (by kernel_rfl) (fun _ _ _ _ _ h=>h) (by kernel_rfl) hS26 ?_
   refine Wc 12 0 rfl (by kernel_rfl) rfl (by kernel_rfl) (Xx (v:=.slice p25 (nf+1) c25) (b:=bw) (off:=4) rfl (by kernel_rfl) (by kernel_rfl) (by kernel_rfl) rfl kW (by first|decide|simp) ?_)
   intro W27 u27 k27
   change Blk _ _ [c0,c1,c2,c3,.slice p25 (nf+1) c25,c5,c6,c7,.slice pw way.length cw,c9] _ at k27
   replace hO:=hO.trans (Ze.of_upd u27 kW (by decide))
   replace hB:=u27.below hB hBb
   replace k1:=u27.blk k1 (Ne.symm d1_bw)
   replace kk2:=u27.blk kk2 nb2_bw
   replace hway:=u27.own2 hway kW (by decide)
   replace hv':=hv'.upd u27 kW (by decide)
   replace hK:=hK.upd u27 kW
   replace o25:=u27.own2 o25 kW (by decide)
   have hS28:Below B (W.drew) (W27):=u27.below hS26 hBb
   refine⟨hS28,?_⟩
   refine Ds _ (by kernel_rfl) ?_
   exact g_endM hK (.tuple #[]) (by kernel_rfl) (by kernel_rfl) ⟨_,_,_,_,_,rfl,(Upd.of_put _ _ _).below hB (Nat.le_trans hBw hDB),Ze.upd_new hO (Upd.of_put _ _ _) hDB,(Upd.of_put _ _ _).blk k27 (hK.ne k27),(Upd.of_put _ _ _).own3 o25 (hK.row o25),hv'.kept fun _ _ q=>(Upd.of_put _ _ _).blk q (hK.ne q)⟩
end Go.Proofs.YtlmaglneeaecdaaGreatDoor
namespace Go.Proofs.YtlmaglneeaecdaaGreatDoor
set_option maxHeartbeats 8000000
set_option maxRecDepth 100000
open Go.RowKit Go.Extern.Stop Go.Stop Go.Extern
set_option linter.unusedVariables false
attribute [local irreducible] wpList wpAnyH Code.wp Oper.wp Go
def Qx(l:List Int)(x:Int):Bool:=l.any fun y=>decide (x=y)
theorem On{l:List Int}{x:Int}{i:Nat}(hi:i<l.length)(h:x=l.getD i 0):Qx l x=true:=by
 unfold Qx
 rw[List.any_eq_true]
 exact⟨l[i],List.getElem_mem _,by rw[decide_eq_true_iff,h];simp[hi]⟩
theorem Tc{l:List Int}{x:Int}(h:∀ j,j<l.length→x≠l.getD j 0):Qx l x=false:=by
 unfold Qx
 rw[List.any_eq_false]
 intro y hy
 obtain⟨j,hj,rfl⟩:=List.getElem_of_mem hy
 have:=h j hj
 simpa [hj] using this
theorem indexI(a:Option Addr)(c:Nat)(l:List Int)(x:Int)(w:World)(h:Ints w (.slice a l.length c) l)(hln:l.length≤1000000) :
 Calls Tryz.prog 230 #[.slice a l.length c,.int .i64 x] w (fun e w'=>(Qx l x=false∧e=.returned (.int .i64 (-1))∧Below w.heap.size w w')∨(Qx l x=true∧∃ i:Nat,e=.returned (.int .i64 (i:Int))∧Below w.heap.size w w')):=by
 refine zin 19 Tryz.func230 ?_
 have hB:=Below.refl w.heap.size w
 refine zl 14 19 (fun zm zkv V=>∃ (i:Nat),zkv=[(0,.slice a l.length c),(1,.int .i64 x),(7,.int .i64 (↑l.length:Int)),(8,.int .i64 (↑i:Int))]∧zm=l.length-((↑i:Int)).toNat∧Below w.heap.size w V∧i≤l.length∧(∀ j,j<i→x≠l.getD j 0)) ⟨0,rfl,rfl,hB,Nat.zero_le _,?_⟩ ?_
 ·exact fun j hj=>absurd hj (by omega)
 rintro _ _ W1 ⟨i,rfl,rfl,hB_1,hi,hz⟩ J1 hJ1 r1
 refine xid 6 ((↑i:Int)<(↑l.length:Int)) (fun hc2=>?_) (fun hc2=>?_)
 ·refine xx 15 _ l.length i 1 (Ints.elem h (k:=i) (by omega)).1 ?_
  refine xl 0 ((Ints.elem (h.below hB_1) (k:=i) (by omega)).2) ?_
  refine xie 3 x (l.getD i 0) (fun hc3=>?_) (fun hc3=>?_)
  ·exact xe 12 (.int .i64 (↑i:Int)) (.inr ⟨On (i:=i) (by omega) (by omega),_,rfl,hB_1⟩)
  refine xwm 4 ((↑i:Int)+1) (↑(i+1):Int) ?_
  exact ze 2 (hJ1 _ _ _ ⟨i+1,rfl,rfl,hB_1,by omega,fun j hj=>(Nat.lt_or_ge j i).elim (hz j) (fun q=>by obtain rfl:j=i:=(by omega);omega)⟩ (by omega))
 exact xe 11 (.int .i64 (-1)) (.inl ⟨Tc (fun j hj=>hz j (by omega)),rfl,hB_1⟩)
theorem containsI(a:Option Addr)(c:Nat)(l:List Int)(x:Int)(w:World)(h:Ints w (.slice a l.length c) l)(hln:l.length≤1000000) :
 Calls Tryz.prog 211 #[.slice a l.length c,.int .i64 x] w (Ret (.bool (Qx l x)) w):=by
 refine zin 9 Tryz.func211 ?_
 refine xc 9 (args:=#[.slice a l.length c,.int .i64 x]) (indexI a c l x _ (h.below (Below.refl w.heap.size _)) hln) ?_
 rintro e W1 hq1
 rcases hq1 with ⟨hz,rfl,hb1⟩|⟨hz,i0,rfl,hb1⟩
 ·refine xe 5 (.bool false) ?_
  rw[hz];exact⟨rfl,hb1⟩
 refine xe 5 (.bool (decide ((↑i0:Int)≥(0:Int)))) ?_
 rw[hz,show decide ((↑i0:Int)≥(0:Int))=true from decide_eq_true (by omega)];exact⟨rfl,hb1⟩
end Go.Proofs.YtlmaglneeaecdaaGreatDoor
namespace Go.Proofs.YtlmaglneeaecdaaGreatDoor
set_option maxHeartbeats 8000000
set_option maxRecDepth 100000
open Go.RowKit
set_option linter.unusedVariables false
attribute [local go_sem] Oper.semAt_some
def Vb(hi:Int)(l:List Int):List (Int×Int):=(List.range l.length).map (Xa hi l)
def Nm(lo hi:Int)(l:List Int)(i:Int):(Int×Int)×Int :=
 if Yn lo hi l=0 then if 0≤i∧i<l.length then(Xa hi l i.toNat,0) else((0,0),3) else((0,0),Yn lo hi l)
theorem Zgs{lo hi i:Int}{l:List Int}(h:Yn lo hi l≠0):Nm lo hi l i=((0,0),Yn lo hi l):=by simp[Nm,h]
theorem child_out{lo hi i:Int}{l:List Int}(h:Yn lo hi l=0)(hi':¬ (0≤i∧i<l.length)):Nm lo hi l i=((0,0),3):=by simp only[Nm,h,if_true];rw[if_neg hi']
theorem Cx{lo hi:Int}{l:List Int}{i:Nat}(h:Yn lo hi l=0)(hi':i<l.length):Nm lo hi l i=(Xa hi l i,0):=by
 simp only[Nm,h,if_true];rw[if_pos ⟨by omega,by omega⟩];simp
def Hn(hi:Int)(l:List Int)(cs:List Value)(x:Fin l.length):List Value :=
 (cs.set (qOf x*2) (.int .i64 (Xa hi l (qOf x)).1)).set (qOf x*2+1) (.int .i64 (Xa hi l (qOf x)).2)
def outC(hi:Int)(l:List Int)(pre:List (Fin l.length)):List Value:=pre.foldl (Hn hi l) (Hw [.int .i64 0,.int .i64 0] l.length)
theorem outC_snoc(hi:Int)(l:List Int)(pre:List (Fin l.length))(x:Fin l.length):outC hi l (pre++[x])=Hn hi l (outC hi l pre) x:=by simp[outC]
theorem Po(hi:Int)(l:List Int):∀ (pre:List (Fin l.length)) (cs:List Value),(pre.foldl (Hn hi l) cs).length=cs.length
 | [],_=>rfl
 | x::pre,cs=>by rw[List.foldl_cons,Po hi l pre];simp[Hn]
theorem Ex(hi:Int)(l:List Int)(pre:List (Fin l.length)):(outC hi l pre).length=l.length*2:=by
 rw[outC,Po,Ly];rfl
theorem Ep(hi:Int)(l:List Int)(q:Nat)(hq:q<l.length):∀ (pre:List (Fin l.length)) (cs:List Value),cs.length=l.length*2 →
  ((∃ x∈pre,qOf x=q)∨(cs[q*2]? = some (.int .i64 (Xa hi l q).1)∧cs[q*2+1]? = some (.int .i64 (Xa hi l q).2))) →
  (pre.foldl (Hn hi l) cs)[q*2]? = some (.int .i64 (Xa hi l q).1)∧(pre.foldl (Hn hi l) cs)[q*2+1]? = some (.int .i64 (Xa hi l q).2)
 | [],cs,hl,h=>by
  rcases h with ⟨x,hx,_⟩|h
  ·cases hx
  ·exact h
 | x::pre,cs,hl,h=>by
  rw[List.foldl_cons]
  refine Ep hi l q hq pre _ (by simp[Hn,hl]) ?_
  by_cases hx:qOf x=q
  ·subst hx
   refine .inr ⟨?_,?_⟩
   ·simp only[Hn];rw[List.getElem?_set_ne (by omega),List.getElem?_set_self (by omega)]
   ·simp only[Hn];rw[List.getElem?_set_self (by simp;omega)]
  ·rcases h with ⟨y,hy,hyq⟩|h
   ·rcases List.mem_cons.1 hy with rfl|hy
    ·exact absurd hyq hx
    ·exact .inl ⟨y,hy,hyq⟩
   ·refine .inr ⟨?_,?_⟩
    ·simp only[Hn];rw[List.getElem?_set_ne (by omega),List.getElem?_set_ne (by omega)];exact h.1
    ·simp only[Hn];rw[List.getElem?_set_ne (by omega),List.getElem?_set_ne (by omega)];exact h.2
theorem outC_all(hi:Int)(l:List Int):outC hi l (List.finRange l.length)=Wd (Vb hi l):=by
 have hs:(Vb hi l).length=l.length:=by simp[Vb]
 have hg:∀ q,q<l.length→(Vb hi l)[q]? = some (Xa hi l q):=fun q hq=>by simp[Vb,hq]
 apply List.ext_getElem?
 intro j
 by_cases hj:j<l.length*2
 ·have hq:j/2<l.length:=by omega
  have h:=Ep hi l (j/2) hq (List.finRange l.length) (Hw [.int .i64 0,.int .i64 0] l.length) (by rw[Ly];rfl)
   (.inl ⟨⟨l.length-1-j/2,by omega⟩,by simp,by simp only[qOf];omega⟩)
  by_cases h2:j%2=0
  ·have e:j=j/2*2:=by omega
   rw[e,Mx,hg _ hq];exact h.1
  ·have e:j=j/2*2+1:=by omega
   rw[e,Ir,hg _ hq];exact h.2
 ·rw[List.getElem?_eq_none (by rw[Ex];omega),List.getElem?_eq_none (by rw[Bf,hs];omega)]
def Oq(lo hi:Int)(l:List Int):List (Int×Int):=if Yn lo hi l=0 then Vb hi l else []
theorem Tryz.info232:(Tryz.prog.info? 232).map (fun i=>(i.zero,i.size,i.bytes))=some (some (.agg #[.int .i64 0,.int .i64 0]),2,16):=by kernel_rfl
theorem Za6(lo hi:Int)(v:Value)(l:List Int)(w:World)(hlen:l.length≤1000000)(hl:Ints w v l) :
 Calls Tryz.prog 162 #[spanV lo hi,v] w (Vx (fun w' r=>Pairs w' r (Oq lo hi l)∧(Yn lo hi l=0→∃ g,r=.slice (some ⟨g,0,none⟩) l.length l.length∧w.heap.size≤g∧Blk w' g (Wd (Vb hi l)) 232)) w):=by
 obtain⟨i0,hi0,hz0,hz1,hz2⟩:=info_parts Tryz.info232
 have hmk:=fun w=>Sy (P:=Tryz.prog) (t:=303) (e:=232) (i:=i0) [.int .i64 0,.int .i64 0] Tryz.underlying303 hi0 hz0 rfl hz1 hz2 l.length (by omega) (by omega) w
 clear hi0 hz0 hz1 hz2
 unfold spanV
 refine Gf Tryz.func162 rfl ?_
 simp only[Tryz.ntmps162,List.size_toArray,List.length_cons,List.length_nil,Nat.reduceAdd,Nat.reduceSub,Array.replicate_succ,Array.replicate_zero,List.push_toArray,List.append_toArray,List.nil_append,List.cons_append]
 go_wp2_with fail
 refine(Dk lo hi v l _ (hl.below (blx _ _))).mono ?_
 rintro e w' ⟨rfl,hb⟩
 have k0:=Blk.below (Blk.new w [.int .i64 lo,.int .i64 hi] 232) hb
 have hB:Below w.heap.size w w':=bln (blx _ _) hb
 have hl':=hl.below hB
 have HB:l.length≠0→∀ {b off n cap:Nat},v=.slice (some ⟨b,off,none⟩) n cap→b<w.heap.size:=fun h _ _ _ _ e=>hl.blk h e
 clear hb hl
 obtain⟨a,c,rfl⟩:=hl'.slice
 have z0:=k0.lt
 have c00:=k0.cell (i:=0) rfl
 have c01:=k0.cell (i:=1) rfl
 by_cases hf:Yn lo hi l=0
 case neg =>
  have hf2:(Yn lo hi l != 0)=true:=by simpa using hf
  have HF:=Lib.hid hf;clear hf
  go_wp2_with fail
  refine⟨_,results_tmp rfl _ _ _,?_⟩
  have e:Oq lo hi l=[]:=by simp[Oq,HF.out]
  rw[e]
  exact⟨_,rfl,hB,.inl ⟨_,_,rfl,rfl,rfl⟩,fun q=>absurd q HF.out⟩
 have hf2:(Yn lo hi l != 0)=false:=by simpa using hf
 have HF:=Lib.hid hf;clear hf
 go_wp2_with fail
 refine(span_each lo hi a l.length c _).mono ?_
 rintro e W1 ⟨rfl,hW1⟩
 have hz:w'.heap.size+4=W1.heap.size:=by rw[hW1];simp
 have hb1:Below w'.heap.size w' W1:=by rw[hW1];exact bln (bln (bln (blx _ _) (blx _ _)) (blx _ _)) (blx _ _)
 have s1:W1.cell? ⟨w'.heap.size+1+1,1,none⟩=some (.int .i64 hi):=by rw[hW1];simp[go_sem]
 have s2:W1.cell? ⟨w'.heap.size+1+1+1,0,none⟩=some (.slice a l.length c):=by rw[hW1];simp[go_sem]
 have m1:Blk W1 w'.heap.size (Hw [.int .i64 0,.int .i64 0] l.length) 232:=by rw[hW1];exact(((Blk.new w' _ _).alloc _).alloc _).alloc _
 have m2:Blk W1 (w'.heap.size+1) [.slice (some ⟨w'.heap.size,0,none⟩) l.length l.length] 303:=by
  rw[hW1];have:=((Blk.new (w'.alloc (.cells (Hw [.int .i64 0,.int .i64 0] l.length).toArray 232)) [.slice (some ⟨w'.heap.size,0,none⟩) l.length l.length] 303).alloc (.cells #[.int .i64 lo,.int .i64 hi] 232)).alloc (.cells #[.slice a l.length c] 31)
  simpa using this
 have hB1:=bln hB hb1
 have hl1:=hl'.below hb1
 have hst:=Zea (w'.heap.size+1+1) (w'.heap.size+1+1+1) (fun b=>b<W1.heap.size∧b≠w'.heap.size) hi (.slice a l.length c) l W1 (fun b h=>h.1) (by omega) (by omega) (by omega) hl1 ?hvp s1 s2
 case hvp=>exact fun h b off n' cap e=>by have:=HB h e;have:=hB1.size;exact⟨by omega,by omega⟩
 clear hW1 s1 s2 hmk
 go_wp2_with fail
 refine Zce (g:=.tmp 17) (gf:=233) (lb:=#[.pointer (some ⟨w'.heap.size+1+1,0,none⟩),.pointer (some ⟨w'.heap.size+1+1+1,0,none⟩)]) rfl (enters_of Tryz.func233 (by kernel_rfl) rfl) _ (fun b h=>h.1) hst (fun _=>rfl)
  (fun pre W=>(Blk W w'.heap.size (outC hi l pre) 232∧Blk W (w'.heap.size+1) [.slice (some ⟨w'.heap.size,0,none⟩) l.length l.length] 303)∧(Below w.heap.size w W∧W1.heap.size≤W.heap.size))
  (fun _ _ _=>False) ?own (fun _ _ _ _ _ h _ _=>h) ⟨⟨m1,m2⟩,hB1,Nat.le_refl _⟩
  (fun x a' W=>∃ Bx,W1.heap.size≤Bx∧Blk W Bx [.int .i64 (Xa hi l (qOf x)).1,.int .i64 (Xa hi l (qOf x)).2] 232 ∧
   a'={ tmps:=#[.agg #[.int .i64 lo,.int .i64 hi],.slice a l.length c,.pointer (some ⟨w.heap.size,0,none⟩),undef,.slice none 0 0,.pointer (some ⟨w'.heap.size+1,0,none⟩),.int .i64 (qOf x:Int),.pointer (some ⟨Bx,0,none⟩),.agg #[.int .i64 lo,.int .i64 hi],.slice a l.length c,.int .i64 (Yn lo hi l),.bool false,.slice a l.length c,.int .i64 l.length,.slice (some ⟨w'.heap.size,0,none⟩) l.length l.length,.agg #[.int .i64 lo,.int .i64 hi],.slice a l.length c,.func (.func 233) #[] #[.pointer (some ⟨w'.heap.size+1+1,0,none⟩),.pointer (some ⟨w'.heap.size+1+1+1,0,none⟩)],.int .i64 (qOf x:Int),spanV (Xa hi l (qOf x)).1 (Xa hi l (qOf x)).2,undef,undef,undef,undef,undef],defers:=[] }) ?ownax ?assign ?body ?done ?stop
 case own=>exact OwnFrom.and (Own.from (fun s A B row hs hg hr=>⟨hs.1.turn hg hr,hs.2.turn hg hr⟩) _) (OwnFrom.and (ownFrom_below (Nat.le_refl _) hB1.size) Ol)
 case ownax=>exact fun x a'=>Own.from (fun s A B row hs hg hr=>by obtain⟨Bx,h1,h2,h3⟩:=hs;exact⟨Bx,h1,h2.turn hg hr,h3⟩) _
 case assign =>
  rintro lr pre x W K ⟨⟨h1,h2⟩,hbW,hsz⟩ hK
  unfold encE
  gi_wp2
  exact hK _ _ ((KeepsOthers.alloc _ _).from _) (Keeps.of_below (blx W _) (fun b hb=>by have:=hb.1;omega)) ⟨⟨h1.alloc _,h2.alloc _⟩,bln hbW (blx _ _),by simp;omega⟩ ⟨W.heap.size,hsz,Blk.new W _ _,rfl⟩
 case body =>
  rintro lr pre x a' W hlr ⟨⟨h1,h2⟩,hbW,hsz⟩ ⟨Bx,hBx,hx,rfl⟩ hlt
  have cx0:=hx.cell (i:=0) rfl
  have cx1:=hx.cell (i:=1) rfl
  have ci:=h2.cell (i:=0) rfl
  have hq:qOf x<l.length:=by have:=x.2;simp only[qOf];omega
  have hol:=Ex hi l pre
  obtain⟨u0,hu0⟩:∃ u0,(outC hi l pre)[qOf x*2]? = some u0:=⟨_,List.getElem?_eq_getElem (by omega)⟩
  obtain⟨u1,hu1⟩:∃ u1,(outC hi l pre)[qOf x*2+1]? = some u1:=⟨_,List.getElem?_eq_getElem (by omega)⟩
  have cu0:=h1.cell hu0
  have cu1:=h1.cell hu1
  have fu0:=h1.frozen (qOf x*2)
  have fu1:=h1.frozen (qOf x*2+1)
  clear hu0 hu1 hol
  gi_wp2
  refine⟨((KeepsOthers.setCell _ _ _).trans (KeepsOthers.setCell _ _ _)).from _,((Keeps.refl _ W).setCell (by simp) _).setCell (by simp) _,⟨by rw[outC_snoc];exact(h1.set _ _).set _ _,(h2.other (by simp) _).other (by simp) _⟩,(hbW.setCell (Nat.le_of_lt z0) _).setCell (Nat.le_of_lt z0) _,by simpa [World.setCell] using hsz⟩
 case done =>
  rintro D xs W hD rfl ⟨⟨h1,h2⟩,hbW,hsz⟩ hK
  have ci:=h2.cell (i:=0) rfl
  have hlt:D<W.heap.size:=(Array.getElem?_eq_some_iff.1 hK).1
  rw[outC_all] at h1
  have hs:(Vb hi l).length=l.length:=by simp[Vb]
  have hR:Pairs (W.putObj D (.deferred none)) (.slice (some ⟨w'.heap.size,0,none⟩) l.length l.length) (Vb hi l):=by
   have h1':=h1.put hK rfl (.deferred none)
   exact .inr ⟨_,0,l.length,by rw[hs],by omega,by unfold maxLen;omega,fun j x hj=>by rw[Nat.zero_add];exact h1'.cell hj⟩
  have HR:=Lib.hid hR
  have HR2:=Lib.hid (h1.put hK rfl (.deferred none))
  clear hR h1 hs
  go_wp2_with fail
  refine⟨by simp,.inl ⟨_,_,rfl,run_takeDeferred hK,_,results_tmp rfl _ _ _,?_⟩⟩
  have e:Oq lo hi l=Vb hi l:=by simp[Oq,HF.out]
  rw[e]
  exact⟨_,rfl,below_put hbW (by have:=hB1.size;omega) hlt _,HR.out,fun _=>⟨_,rfl,hB.size,HR2.out⟩⟩
 case stop=>exact fun _ _ _ _ _ _ h _=>h.elim
end Go.Proofs.YtlmaglneeaecdaaGreatDoor
