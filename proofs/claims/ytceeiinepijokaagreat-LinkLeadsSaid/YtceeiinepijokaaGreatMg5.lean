/- Package pool: Check, Count, Same of any pool. -/
import Derived.RangeFuncNested
import Derived.RangeFuncBound
import Derived.RangeFuncCalls
import Derived.RangeFuncLeaves
import Derived.Shelf.Abstract
import Derived.Shelf.RegionOpen
import Derived.OwnWalkIn
import Derived.TacticsInMore
import Derived.LoopNIn
import Derived.LoopIn
import Derived.Sort.BigQuietIn
import Derived.Test.YtceeiinepijokaaGreatMg4
namespace Go.Proofs.YtceeiinepijokaaGreat
set_option maxHeartbeats 8000000
set_option maxRecDepth 100000
open Go.RowKit Go.Extern.Stop Go.Stop Go.Extern
set_option linter.unusedVariables false
attribute [local irreducible] wpList wpAnyH Code.wp Oper.wp Go
theorem Uh(n lo hi:Int)(w:World) :
 C0 60 #[V0 n,V0 lo,V0 hi] w (Ret (.bool (inZ n lo hi)) w):=by
 refine zin 15 Tryz.func60 ?_
 refine xg 11 [9,10] (decide (lo≤n)) (fun a0=>?_) (fun a0=>?_)
 ·have a0:=of_decide_eq_true a0
  exact xe 8 (.bool (decide (n≤hi))) ⟨by rw[show inZ n lo hi=decide (n≤hi) from by unfold inZ;exact decide_eq_decide.2 (by omega)],(B4 w)⟩
 have a0:=of_decide_eq_false a0
 exact xe 8 (.bool false) ⟨by rw[show inZ n lo hi=false from decide_eq_false (by omega)],(B4 w)⟩
theorem Nw(t:Int)(w:World) :
 C0 105 #[V0 t] w (Ret (.bool !(inZ t 0 16777215)) w):=by
 refine zin 6 Tryz.func105 ?_
 refine xr 8 (args:=#[V0 t,V0 0,V0 16777215]) (Uh t 0 16777215 _) fun W1 a0=>?_
 exact xe 5 (.bool (!(inZ t 0 16777215))) ⟨rfl,a0⟩
theorem indexT1(t:Int)(b:Nat)(w:World)(k:Blk w b [V0 t] 3) :
 C0 178 #[.slice (S1 b) 1 1,.func (.func 105) #[] #[]] w ((fun e w'=>((inZ t 0 16777215)=true∧e=.returned (V0 (-1))∧B3 w w')∨((inZ t 0 16777215)=false∧∃ i:Nat,e=.returned (V0 (i:Int))∧B3 w w'))):=by
 refine zin 19 Tryz.func178 ?_
 refine xu 14 2 ?_
 refine xb 23 0 k ?_
 refine xr 0 (args:=#[V0 t]) (Nw t _) fun W1 a0=>?_
 refine xi 2 (!(inZ t 0 16777215)) (fun a1=>?_) (fun a1=>?_)
 ·exact xe 12 (V0 0) (.inr ⟨by simp_all,0,rfl,a0⟩)
 exact xe 26 (V0 (-1)) (.inl ⟨by simp_all,rfl,a0⟩)
theorem Zgv(t:Int)(b:Nat)(w:World)(k:Blk w b [V0 t] 3) :
 C0 104 #[.slice (S1 b) 1 1,.func (.func 105) #[] #[]] w (Ret (.bool !(inZ t 0 16777215)) w):=by
 refine zin 9 Tryz.func104 ?_
 refine xc 9 (args:=#[.slice (S1 b) 1 1,.func (.func 105) #[] #[]]) (indexT1 t b _ k) ?_
 rintro e W1 a1
 rcases a1 with ⟨hz,rfl,a0⟩|⟨hz,i0,rfl,a0⟩
 ·exact xe 5 (.bool false) ⟨by first|(rw[hz];rfl)|(rw[hz,decide_eq_true (by omega)];rfl),a0⟩
 exact xe 5 (.bool (decide ((i0:Int)≥(0:Int)))) ⟨by first|(rw[hz];rfl)|(rw[hz,decide_eq_true (by omega)];rfl),a0⟩
theorem Zbj(tx:Int)(t:Int)(b:Nat)(w:World)(k:Blk w b [V0 t] 3) :
 C0 59 #[V0 tx,.slice (S1 b) 1 1] w (Ret (.bool ((inZ tx 0 2147483647)&&(inZ t 0 16777215))) w):=by
 refine zin 12 Tryz.func59 ?_
 refine xr 8 (args:=#[V0 tx,V0 0,V0 2147483647]) (Uh tx 0 2147483647 _) fun W1 a0=>?_
 refine xg 1 [6,7] (inZ tx 0 2147483647) (fun a3=>?_) (fun a3=>?_)
 ·have a1:=k.below a0
  refine xr 1 (args:=#[.slice (S1 b) 1 1,.func (.func 105) #[] #[]]) (Zgv t b _ a1) fun W3 a2=>?_
  have hB:=bln a0 a2
  exact xe 6 (.bool (!(!(inZ t 0 16777215)))) ⟨by simp_all,hB⟩
 exact xe 8 (.bool false) ⟨by simp_all,a0⟩
theorem indexT2(t u:Int)(b:Nat)(w:World)(k:Blk w b [V0 t,V0 u] 3) :
 C0 178 #[.slice (S1 b) 2 2,.func (.func 105) #[] #[]] w ((fun e w'=>(((inZ t 0 16777215)&&(inZ u 0 16777215))=true∧e=.returned (V0 (-1))∧B3 w w')∨(((inZ t 0 16777215)&&(inZ u 0 16777215))=false∧∃ i:Nat,e=.returned (V0 (i:Int))∧B3 w w'))):=by
 refine zin 19 Tryz.func178 ?_
 refine xu 14 3 ?_
 refine xb 23 0 k ?_
 refine xr 0 (args:=#[V0 t]) (Nw t _) fun W1 a0=>?_
 refine xi 2 (!(inZ t 0 16777215)) (fun a4=>?_) (fun a4=>?_)
 ·exact xe 12 (V0 0) (.inr ⟨by simp_all,0,rfl,a0⟩)
 have a3:=k.below a0
 refine xb 31 1 a3 ?_
 refine xr 0 (args:=#[V0 u]) (Nw u _) fun W3 a1=>?_
 refine xi 2 (!(inZ u 0 16777215)) (fun a2=>?_) (fun a2=>?_)
 ·have hB:=bln a0 a1
  exact xe 12 (V0 1) (.inr ⟨by simp_all,1,rfl,hB⟩)
 have hB:=bln a0 a1
 exact xe 26 (V0 (-1)) (.inl ⟨by simp_all,rfl,hB⟩)
theorem containsT2(t u:Int)(b:Nat)(w:World)(k:Blk w b [V0 t,V0 u] 3) :
 C0 104 #[.slice (S1 b) 2 2,.func (.func 105) #[] #[]] w (Ret (.bool !((inZ t 0 16777215)&&(inZ u 0 16777215))) w):=by
 refine zin 9 Tryz.func104 ?_
 refine xc 9 (args:=#[.slice (S1 b) 2 2,.func (.func 105) #[] #[]]) (indexT2 t u b _ k) ?_
 rintro e W1 a1
 rcases a1 with ⟨hz,rfl,a0⟩|⟨hz,i0,rfl,a0⟩
 ·exact xe 5 (.bool false) ⟨by first|(rw[hz];rfl)|(rw[hz,decide_eq_true (by omega)];rfl),a0⟩
 exact xe 5 (.bool (decide ((i0:Int)≥(0:Int)))) ⟨by first|(rw[hz];rfl)|(rw[hz,decide_eq_true (by omega)];rfl),a0⟩
theorem Ov(tx:Int)(t u:Int)(b:Nat)(w:World)(k:Blk w b [V0 t,V0 u] 3) :
 C0 59 #[V0 tx,.slice (S1 b) 2 2] w (Ret (.bool ((inZ tx 0 2147483647)&&((inZ t 0 16777215)&&(inZ u 0 16777215)))) w):=by
 refine zin 12 Tryz.func59 ?_
 refine xr 8 (args:=#[V0 tx,V0 0,V0 2147483647]) (Uh tx 0 2147483647 _) fun W1 a0=>?_
 refine xg 1 [6,7] (inZ tx 0 2147483647) (fun a3=>?_) (fun a3=>?_)
 ·have a1:=k.below a0
  refine xr 1 (args:=#[.slice (S1 b) 2 2,.func (.func 105) #[] #[]]) (containsT2 t u b _ a1) fun W3 a2=>?_
  have hB:=bln a0 a2
  exact xe 6 (.bool (!(!((inZ t 0 16777215)&&(inZ u 0 16777215))))) ⟨by simp_all,hB⟩
 exact xe 8 (.bool false) ⟨by simp_all,a0⟩
theorem Zcr(d:Dv)(last:Int)(a:O0)(n c:Nat)(w:World) :
 C0 62 #[.agg #[V0 d.1.1,V0 d.1.2.1,V0 d.1.2.2.1,V0 d.1.2.2.2,.slice a n c],V0 last] w (Ret (V0 (dvE d last)) w):=by
 refine zin 26 Tryz.func62 ?_
 refine xa 2 [V0 d.1.1,V0 d.1.2.1,V0 d.1.2.2.1,V0 d.1.2.2.2,.slice a n c] 42 fun b1 W1 n1=>?_
 refine xb 8 0 n1.blk ?_
 refine xr 0 (args:=#[V0 d.1.1,V0 0,V0 16777215]) (Uh d.1.1 0 16777215 _) fun W2 a3=>?_
 refine xg 2 [9,10] (!(inZ d.1.1 0 16777215)) (fun a1=>?_) (fun a1=>?_)
 ·have a1:=Gs a1
  have hB:=bln n1.below a3
  exact xe 22 (V0 2) ⟨by rw[dvE_2 (by rw[a1];rfl)],hB⟩
 have a1:=Hx a1
 have a0:=n1.blk.below a3
 refine xb 1 1 a0 ?_
 refine xb 1 2 a0 ?_
 refine xb 1 3 a0 ?_
 refine xbs 0 2 [V0 d.1.2.2.1,V0 d.1.2.2.2] 3 fun b4 W4 n4=>?_
 refine xr 0 (args:=#[V0 d.1.2.1,.slice (S1 b4) 2 2]) (Ov d.1.2.1 d.1.2.2.1 d.1.2.2.2 b4 _ n4.blk) fun W5 a4=>?_
 refine xi 5 (!((inZ d.1.2.1 0 2147483647)&&((inZ d.1.2.2.1 0 16777215)&&(inZ d.1.2.2.2 0 16777215)))) (fun a2=>?_) (fun a2=>?_)
 ·have a2:=Gs a2
  have hB:=bln (bln (bln n1.below a3) n4.below) a4
  exact xe 8 (V0 2) ⟨by rw[dvE_2 (by rw[a1,a2];rfl)],hB⟩
 have a2:=Hx a2
 have a5:=(a0.below n4.below).below a4
 refine xb 3 0 a5 ?_
 refine xid 5 (d.1.1≤last) (fun a6=>?_) (fun a6=>?_)
 ·have hB:=bln (bln (bln n1.below a3) n4.below) a4
  exact xe 8 (V0 8) ⟨by rw[dvE_8 (by rw[a1,a2];rfl) (by omega)],hB⟩
 have hB:=bln (bln (bln n1.below a3) n4.below) a4
 exact xe 9 (V0 0) ⟨by rw[dvE_0 (by rw[a1,a2];rfl) (by omega)],hB⟩
theorem Zc7(a:O0)(c:Nat)(L:List Mp)(data:Int)(w:World)(hd:0≤data∧data≤65536)(ha:Sts mapC w (.slice a L.length c) L) :
 C0 63 #[.slice a L.length c,V0 data] w (Ret (V0 (Tp data L (-1))) w):=by
 have c1:=Sl.len ha
 refine zin 41 Tryz.func63 ?_
 have hB:=Below.refl w.heap.size w
 refine zl 19 41 (fun zm c0 V=>∃ (i:Nat) (a3:Int),c0=[(1,V0 data),(5,V0 a3),(8,.slice a L.length c),(9,V0 (L.length:Int)),(10,V0 (i:Int))]∧zm=L.length-((i:Int)).toNat∧B3 w V∧i≤L.length∧Tp data L (-1)=Tp data (L.drop i) a3) ⟨0,(-1),rfl,rfl,hB,Nat.zero_le _,rfl⟩ ?_
 rintro _ _ W1 ⟨i,a3,rfl,rfl,a1,hi,he⟩ J1 b8 r1
 refine xid 6 ((i:Int)<(L.length:Int)) (fun b9=>?_) (fun b9=>?_)
 ·refine xx 6 _ L.length i 3 (Sts.cell ha Pg mpD (k:=i) (i:=0) (by omega) rfl).1 ?_
  refine xlv 0 (Sts.rp (k:=i) (ha.below a1) Pg mpD (by omega) (by decide)) ?_
  refine xa 0 [V0 0,V0 0,V0 0] 46 fun b3 W3 n3=>?_
  have g3:=n3.ge a1
  refine xsv 0 n3.blk [V0 ((L.getD i mpD).1),V0 ((L.getD i mpD).2.1),V0 ((L.getD i mpD).2.2)] fun W4 u4 k4=>?_
  refine xb 7 0 k4 ?_
  refine xr 0 (args:=#[V0 ((L.getD i mpD).1),V0 0,V0 281474976710655]) (Uh ((L.getD i mpD).1) 0 281474976710655 _) fun W5 a5=>?_
  refine xg 2 [18,19] (!(inZ ((L.getD i mpD).1) 0 281474976710655)) (fun a2=>?_) (fun a2=>?_)
  ·have a2:=Gs a2
   have b5:=bln (u4.below (bln a1 n3.below) g3) a5
   exact xe 30 (V0 2) ⟨by rw[he,Ww (x:=mpD) (by omega),mpE_2 (by rw[a2];rfl)];rfl,b5⟩
  have a2:=Hx a2
  have a6:=k4.below a5
  refine xb 1 1 a6 ?_
  refine xw 1 (data-1) ?_
  refine xr 0 (args:=#[V0 ((L.getD i mpD).2.1),V0 0,V0 (data-1)]) (Uh ((L.getD i mpD).2.1) 0 (data-1) _) fun W7 a9=>?_
  refine xg 3 [25,26,27] (!(inZ ((L.getD i mpD).2.1) 0 (data-1))) (fun a4=>?_) (fun a4=>?_)
  ·have a4:=Gs a4
   have b7:=bln (bln (u4.below (bln a1 n3.below) g3) a5) a9
   exact xe 22 (V0 2) ⟨by rw[he,Ww (x:=mpD) (by omega),mpE_2 (by rw[a2,a4];rfl)];rfl,b7⟩
  have a4:=Hx a4
  have a8:=a6.below a9
  refine xb 1 2 a8 ?_
  refine xr 0 (args:=#[V0 ((L.getD i mpD).2.2),V0 0,V0 16777215]) (Uh ((L.getD i mpD).2.2) 0 16777215 _) fun W9 b0=>?_
  refine xi 5 (!(inZ ((L.getD i mpD).2.2) 0 16777215)) (fun a0=>?_) (fun a0=>?_)
  ·have a0:=Gs a0
   have b2:=bln (bln (bln (u4.below (bln a1 n3.below) g3) a5) a9) b0
   exact xe 13 (V0 2) ⟨by rw[he,Ww (x:=mpD) (by omega),mpE_2 (by rw[a2,a4,a0];rfl)];rfl,b2⟩
  have a0:=Hx a0
  have a7:=a8.below b0
  refine xb 3 0 a7 ?_
  refine xid 5 ((L.getD i mpD).1≤a3) (fun b1=>?_) (fun b1=>?_)
  ·have b6:=bln (bln (bln (u4.below (bln a1 n3.below) g3) a5) a9) b0
   exact xe 13 (V0 8) ⟨by rw[he,Ww (x:=mpD) (by omega),mpE_8 (by rw[a2,a4,a0];rfl) (by omega)];rfl,b6⟩
  refine xb 5 0 a7 ?_
  refine xwm 5 ((i:Int)+1) (↑(i+1):Int) ?_
  have b4:=bln (bln (bln (u4.below (bln a1 n3.below) g3) a5) a9) b0
  exact ze 2 (b8 _ _ _ ⟨i+1,(L.getD i mpD).1,rfl,rfl,b4,by omega,by rw[he,Ww (x:=mpD) (by omega),mpE_0 (by rw[a2,a4,a0];rfl) (by omega)];rfl⟩ (by omega))
 exact xe 11 (V0 0) ⟨by rw[he,mpsE_end (by omega)],a1⟩
theorem zfst{Z:List Zv}{i:Nat}(h:i<Z.length)(x:Dv):(Z.map Prod.fst).getD i x=(Z.getD i zvD).1:=by simp[List.getD,h]
theorem Bv{data:Int}{Z:List Zv}{i:Nat}{last:Int}(h:i<Z.length):dvsE data ((Z.map Prod.fst).drop i) last=if dvE (Z.getD i zvD).1 last≠0 then dvE (Z.getD i zvD).1 last else if Tp data (Z.getD i zvD).1.2 (-1)≠0 then Tp data (Z.getD i zvD).1.2 (-1) else dvsE data ((Z.map Prod.fst).drop (i+1)) (Z.getD i zvD).1.1.1:=by
 rw[dvsE_drop (x:=zvD.1) (by rw[List.length_map];exact h),zfst h]
theorem Sk{Z:List Zv}{i:Nat}(h:i<Z.length):Up ((Z.map Prod.fst).take (i+1))=Up ((Z.map Prod.fst).take i)+(Z.getD i zvD).1.2.length:=by
 rw[sumM_take (x:=zvD.1) (by rw[List.length_map];exact h),zfst h]
theorem Zhi(p:O0)(c n:Nat)(t u v x:Int)(Z:List Zv)(w:World)(hZ:Z.length=n)(hP:DevsR w p c Z) :
 C0 61 #[.agg #[V0 t,V0 u,V0 v,V0 x,.slice p n c]] w (Ret (V0 (wsum (Z.map Prod.fst))) w):=by
 have a7:=Sl.len (hP.rowN hZ)
 refine zin 20 Tryz.func61 ?_
 refine xa 2 [V0 t,V0 u,V0 v,V0 x,.slice p n c] 28 fun b1 W1 n1=>?_
 refine xb 12 4 n1.blk ?_
 refine zl 5 20 (fun zm a4 V=>∃ (i:Nat),a4=[(2,V0 0),(3,V0 (IntKind.i64.wrap (↑(Up ((Z.map Prod.fst).take i)):Int))),(7,.slice p n c),(8,V0 (n:Int)),(9,V0 (i:Int))]∧zm=n-((i:Int)).toNat∧B3 w V∧Blk V b1 ([V0 t,V0 u,V0 v,V0 x,.slice p n c]) 28∧i≤n) ⟨0,rfl,rfl,n1.below,n1.blk,Nat.zero_le _⟩ ?_
 rintro _ _ W2 ⟨i,rfl,rfl,a1,a2,hi⟩ J2 a5 r2
 refine xid 6 ((i:Int)<(n:Int)) (fun a6=>?_) (fun a6=>?_)
 ·refine xx 6 _ n i 5 (hP.someN hZ (i:=i) (by omega)) ?_
  refine xlv 0 (Sts.rp (k:=i) (hP.below a1).row Pt zvD (by omega) (by decide)) ?_
  refine xa 0 [V0 0,V0 0,V0 0,V0 0,S0] 42 fun b4 W4 n4=>?_
  have g4:=n4.ge a1
  refine xsv 0 n4.blk [V0 ((Z.getD i zvD).1.1.1),V0 ((Z.getD i zvD).1.1.2.1),V0 ((Z.getD i zvD).1.1.2.2.1),V0 ((Z.getD i zvD).1.1.2.2.2),.slice ((Z.getD i zvD).2.1) ((Z.getD i zvD).1.2.length) ((Z.getD i zvD).2.2)] fun W5 u5 k5=>?_
  refine xb 5 4 k5 ?_
  refine xwm 7 ((i:Int)+1) (↑(i+1):Int) ?_
  refine xv1 2 3 (show(V0 (IntKind.i64.wrap ((IntKind.i64.wrap (↑(Up ((Z.map Prod.fst).take i)):Int))+(↑((Z.getD i zvD).1.2.length):Int))):Value)=V0 (IntKind.i64.wrap (↑(Up ((Z.map Prod.fst).take (i+1))):Int)) from congrArg V0 ((wrap_add _ _).trans (congrArg IntKind.i64.wrap (by have:=Sk (Z:=Z) (i:=i) (by omega);omega)))) ?_
  have a3:=u5.below (bln a1 n4.below) g4
  have a0:=u5.blkT (a2.below n4.below) n4.blk (by decide)
  exact ze 0 (a5 _ _ _ ⟨i+1,rfl,rfl,a3,a0,by omega⟩ (by omega))
 exact xe 12 (V0 (IntKind.i64.wrap (↑(Up ((Z.map Prod.fst).take i)):Int))) ⟨by unfold wsum;rw[List.take_of_length_le (by rw[List.length_map];omega)],a1⟩
theorem Ft{tx time unit data:Int}{L:List Dv}(h:((inZ tx 0 2147483647&&inZ time 0 16777215)&&(inZ unit 1 65536&&inZ data 0 65536))=false):Hu tx time unit data L=2:=if_neg (by rw[h];decide)
theorem Zb6{tx time unit data:Int}{L:List Dv}(h:((inZ tx 0 2147483647&&inZ time 0 16777215)&&(inZ unit 1 65536&&inZ data 0 65536))=true)(h2:4096<L.length∨16384<wsum L):Hu tx time unit data L=2:=(if_pos h).trans (if_pos h2)
theorem Cf{tx time unit data:Int}{L:List Dv}(h:((inZ tx 0 2147483647&&inZ time 0 16777215)&&(inZ unit 1 65536&&inZ data 0 65536))=true)(h2:¬ (4096<L.length∨16384<wsum L)):Hu tx time unit data L=dvsE data L (-1):=(if_pos h).trans (if_neg h2)
theorem Bp(p:O0)(c n:Nat)(t u v x:Int)(Z:List Zv)(w:World)(hZ:Z.length=n)(hP:DevsR w p c Z) :
 C0 33 #[.agg #[V0 t,V0 u,V0 v,V0 x,.slice p n c]] w (Ret (V0 (Hu t u v x (Z.map Prod.fst))) w):=by
 have e9:=Sl.len (hP.rowN hZ)
 refine zin 60 Tryz.func33 ?_
 refine xa 2 [V0 t,V0 u,V0 v,V0 x,.slice p n c] 28 fun b1 W1 n1=>?_
 refine xb 7 0 n1.blk ?_
 refine xb 1 1 n1.blk ?_
 refine xbs 0 1 [V0 u] 3 fun b2 W2 n2=>?_
 refine xr 0 (args:=#[V0 t,.slice (S1 b2) 1 1]) (Zbj t u b2 _ n2.blk) fun W3 c0=>?_
 refine xg 2 [14,15] (!((inZ t 0 2147483647)&&(inZ u 0 16777215))) (fun a3=>?_) (fun a3=>?_)
 ·have a3:=Gs a3
  have hB:=bln (bln n1.below n2.below) c0
  exact xe 21 (V0 2) ⟨by rw[Ft (by rw[a3];rfl)],hB⟩
 have a3:=Hx a3
 have c7:=(n1.blk.below n2.below).below c0
 refine xb 1 2 c7 ?_
 refine xr 0 (args:=#[V0 v,V0 1,V0 65536]) (Uh v 1 65536 _) fun W5 c2=>?_
 refine xg 3 [19,20,21] (!(inZ v 1 65536)) (fun a4=>?_) (fun a4=>?_)
 ·have a4:=Gs a4
  have hB:=bln (bln (bln n1.below n2.below) c0) c2
  exact xe 15 (V0 2) ⟨by rw[Ft (by rw[a3,a4];rfl)],hB⟩
 have a4:=Hx a4
 have c5:=c7.below c2
 refine xb 1 3 c5 ?_
 refine xr 0 (args:=#[V0 x,V0 0,V0 65536]) (Uh x 0 65536 _) fun W7 c8=>?_
 refine xi 4 (!(inZ x 0 65536)) (fun a5=>?_) (fun a5=>?_)
 ·have a5:=Gs a5
  have hB:=bln (bln (bln (bln n1.below n2.below) c0) c2) c8
  exact xe 7 (V0 2) ⟨by rw[Ft (by rw[a3,a4,a5];rfl)],hB⟩
 have a5:=Hx a5
 have b7:=c5.below c8
 refine xb 6 4 b7 ?_
 refine xg 3 [30,31] (decide ((n:Int)>(4096:Int))) (fun c6=>?_) (fun c6=>?_)
 ·have c6:=of_decide_eq_true c6
  have hB:=bln (bln (bln (bln n1.below n2.below) c0) c2) c8
  exact xe 14 (V0 2) ⟨by rw[Zb6 (by rw[a3,a4,a5];rfl) (by rw[List.length_map];omega)],hB⟩
 have c6:=of_decide_eq_false c6
 refine xlv 0 b7.rp ?_
 have hB:=bln (bln (bln (bln n1.below n2.below) c0) c2) c8
 refine xr 0 (args:=#[.agg #[V0 t,V0 u,V0 v,V0 x,.slice p n c]]) (Zhi p c n t u v x Z _ hZ (hP.below hB)) fun e5 b3=>?_
 refine xid 4 ((wsum (Z.map Prod.fst))>(16384:Int)) (fun d1=>?_) (fun d1=>?_)
 ·have d5:=bln hB b3
  exact xe 7 (V0 2) ⟨by rw[Zb6 (by rw[a3,a4,a5];rfl) (by rw[List.length_map];omega)],d5⟩
 have d3:¬ (4096<(Z.map Prod.fst).length∨16384<wsum (Z.map Prod.fst)):=by rw[List.length_map];omega
 have c3:=b7.below b3
 refine xb 11 4 c3 ?_
 have d9:=bln hB b3
 have d7:=(((n2.blk.below c0).below c2).below c8).below b3
 refine zl 5 60 (fun zm e2 V=>∃ (i:Nat) (a2:Int),e2=[(1,P0 b1),(3,V0 a2),(37,.slice p n c),(38,V0 (n:Int)),(39,V0 (i:Int))]∧zm=n-((i:Int)).toNat∧B3 w V∧Blk V b1 ([V0 t,V0 u,V0 v,V0 x,.slice p n c]) 28∧Blk V b2 ([V0 u]) 3∧i≤n∧dvsE x (Z.map Prod.fst) (-1)=dvsE x ((Z.map Prod.fst).drop i) a2) ⟨0,(-1),rfl,rfl,d9,c3,d7,Nat.zero_le _,rfl⟩ ?_
 rintro _ _ e6 ⟨i,a2,rfl,rfl,a0,b9,b8,hi,he⟩ e8 d6 e4
 have hx:=inZ_t.1 a5
 refine xid 6 ((i:Int)<(n:Int)) (fun d0=>?_) (fun d0=>?_)
 ·refine xx 6 _ n i 5 (hP.someN hZ (i:=i) (by omega)) ?_
  refine xlv 0 (Sts.rp (k:=i) (hP.below a0).row Pt zvD (by omega) (by decide)) ?_
  refine xa 0 [V0 0,V0 0,V0 0,V0 0,S0] 42 fun e3 e7 b5=>?_
  have e1:=b5.ge a0
  refine xsv 0 b5.blk [V0 ((Z.getD i zvD).1.1.1),V0 ((Z.getD i zvD).1.1.2.1),V0 ((Z.getD i zvD).1.1.2.2.1),V0 ((Z.getD i zvD).1.1.2.2.2),.slice ((Z.getD i zvD).2.1) ((Z.getD i zvD).1.2.length) ((Z.getD i zvD).2.2)] fun f1 c9 e0=>?_
  refine xlv 5 e0.rp ?_
  refine xr 1 (args:=#[.agg #[V0 ((Z.getD i zvD).1.1.1),V0 ((Z.getD i zvD).1.1.2.1),V0 ((Z.getD i zvD).1.1.2.2.1),V0 ((Z.getD i zvD).1.1.2.2.2),.slice ((Z.getD i zvD).2.1) ((Z.getD i zvD).1.2.length) ((Z.getD i zvD).2.2)],V0 a2]) (Zcr (Z.getD i zvD).1 a2 _ _ _ _) fun f0 a6=>?_
  refine xin 9 (dvE (Z.getD i zvD).1 a2) (0:Int) (fun b0=>?_) (fun b0=>?_)
  ·have d2:=bln (c9.below (bln a0 b5.below) e1) a6
   exact xe 13 (V0 (dvE (Z.getD i zvD).1 a2)) ⟨by rw[Cf (by rw[a3,a4,a5];rfl) d3,he,Bv (by omega),if_pos b0],d2⟩
  have b4:=e0.below a6
  refine xb 6 4 b4 ?_
  have a1:=(c9.blkT (b9.below b5.below) b5.blk (by decide)).below a6
  refine xb 1 3 a1 ?_
  have c1:=bln (c9.below (bln a0 b5.below) e1) a6
  refine xr 0 (args:=#[.slice ((Z.getD i zvD).2.1) ((Z.getD i zvD).1.2.length) ((Z.getD i zvD).2.2),V0 x]) (Zc7 _ _ (Z.getD i zvD).1.2 x _ hx ((hP.below c1).each i (by omega))) fun f2 a7=>?_
  refine xin 9 (Tp x (Z.getD i zvD).1.2 (-1)) (0:Int) (fun b6=>?_) (fun b6=>?_)
  ·have d4:=bln c1 a7
   exact xe 13 (V0 (Tp x (Z.getD i zvD).1.2 (-1))) ⟨by rw[Cf (by rw[a3,a4,a5];rfl) d3,he,Bv (by omega),if_neg (fun q=>q b0),if_pos b6],d4⟩
  have c4:=b4.below a7
  refine xb 4 0 c4 ?_
  refine xwm 5 ((i:Int)+1) (↑(i+1):Int) ?_
  have d8:=bln c1 a7
  have a9:=a1.below a7
  have a8:=((c9.blkT (b8.below b5.below) b5.blk (by decide)).below a6).below a7
  exact ze 2 (d6 _ _ _ ⟨i+1,(Z.getD i zvD).1.1.1,rfl,rfl,d8,a9,a8,by omega,by rw[he,Bv (by omega),if_neg (fun q=>q b0),if_neg (fun q=>q b6)]⟩ (by omega))
 exact xe 11 (V0 0) ⟨by rw[Cf (by rw[a3,a4,a5];rfl) d3,he,dvsE_end (by rw[List.length_map];omega)],a0⟩
theorem getD_app{P Q:Bl}{k i:Nat}(hk:P.length=k):(P++Q).getD (k+i) 0=Q.getD i 0:=by
 subst hk
 simp[List.getD,List.getElem?_append_right]
theorem getD_hd{P Q:Bl}{i:Nat}(hi:i<P.length):(P++Q).getD i 0=P.getD i 0:=by
 simp[List.getD,List.getElem?_append_left hi]
theorem Hl{P Q:Bl}{k w:Nat}{x:Int}(hk:P.length=k)(h0:0≤x)(hb:x.toNat<256 ^ w):(Zh (P++(leB x w++Q)) k w:Int)=x:=by
 rw[Gf w k x.toNat,Nat.mod_eq_of_lt hb]
 ·omega
 ·intro i hi
  rw[getD_app hk,getD_hd (by rw[Zg];exact hi)]
  simp[leB,Zp,List.getD,List.getElem?_range hi]
theorem Ij{P Q:Bl}{k:Nat}(hk:P.length=k):(P++Q).drop k=Q:=List.drop_left' hk
theorem Ow(n m:Nat):Qm ((List.replicate n (0:UInt8)).take m)=true:=by
 unfold Qm;rw[List.all_eq_true]
 intro x hx
 have:=List.mem_of_mem_take hx
 rw[(List.mem_replicate.1 this).2];rfl
theorem Ea(K:List Int)(n j:Nat):∀ d,∃ X,Yu K n (j+d)=Yu K n j++X
 | 0=>⟨[],by simp⟩
 | d+1=>by
  obtain⟨X,hX⟩:=Ea K n j d
  exact⟨_,by rw[←Nat.add_assoc,Ve,hX,List.append_assoc]⟩
theorem Ee(Vs:List Bl)(j:Nat):∀ d,∃ X,Qt Vs (j+d)=Qt Vs j++X
 | 0=>⟨[],by simp⟩
 | d+1=>by
  obtain⟨X,hX⟩:=Ee Vs j d
  exact⟨_,by rw[←Nat.add_assoc,Uc,hX,List.append_assoc]⟩
theorem Ct{l:Bl}:∀ {n:Nat},(∀ i,i<n→Oq l i=0)→Qx l n=0
 | 0,_=>rfl
 | n+1,h=>Wg (Ct fun i hi=>h i (by omega)) (h n (by omega))
theorem getD_ext{l l':List Int}(h:l.length=l'.length)(h2:∀ j,j<l.length→l.getD j 0=l'.getD j 0):l=l':=by
 apply List.ext_getElem h
 intro j h3 h4
 have:=h2 j h3
 simpa [List.getD,h3,h4] using this
theorem getD_extV{l l':List Bl}(h:l.length=l'.length)(h2:∀ j,j<l.length→l.getD j []=l'.getD j []):l=l':=by
 apply List.ext_getElem h
 intro j h3 h4
 have:=h2 j h3
 simpa [List.getD,h3,h4] using this
structure NodBack(b:List UInt8)(t:Int)(leaf:Bool)(n m v:Nat)(K:List Int)(Vs:List (List UInt8)):Prop where
 len:b.length=244
 e:Jm b=0
 t:Ql b=t
 l:Qr b=leaf
 c:Xq b=n
 k:Wp b n=K
 v:Wr b n=Vs
theorem Zfw{t:Int}{leaf:Bool}{n m v:Nat}{K:List Int}{Vs:List Bl}(N:NodeOk t leaf n m v K Vs):NodBack (Hd m v (Vt t leaf n m v) K Vs n) t leaf n m v K Vs:=by
 have b1:=Yv t leaf
 rw[N.hm] at b1
 have a9:=Ek t leaf
 rw[N.hv] at a9
 have a1:=fitN t leaf
 rw[N.hm,N.hv] at a1
 have a7:=N.ht1
 have a8:=N.ht2
 have a5:=N.hn
 have a0:=Sj (H:=Vt t leaf n m v) (K:=K) (Vs:=Vs) (Vl _ _ _ _ _) a1 a5 (fun j hj=>N.hw j hj)
 have a3:=Rg (H:=Vt t leaf n m v) (K:=K) (Vs:=Vs) (Vl _ _ _ _ _) a1 a5 (fun j hj=>N.hw j hj)
 generalize Hd m v (Vt t leaf n m v) K Vs n=b at a0 a3
 obtain⟨R,hR⟩:∃ R,b=Vt t leaf n m v++R:=⟨_,by rw[a0,List.append_assoc,List.append_assoc]⟩
 have b0:=Ac leaf
 have r0:(Zh b 0 1:Int)=Ui leaf:=by
  rw[hR,Vt];simp only[List.append_assoc]
  exact Hl (P:=[]) (k:=0) (w:=1) (x:=Ui leaf) rfl b0.1 (Nat.lt_of_le_of_lt (show(Ui leaf).toNat≤255 by omega) (by decide))
 have r1:(Zh b 1 1:Int)=t:=by
  rw[hR,Vt];simp only[List.append_assoc]
  exact Hl (P:=leB (Ui leaf) 1) (by rw[Zg]) (by omega) (by omega)
 have r2:(Zh b 2 2:Int)=(n:Int):=by
  rw[hR,Vt];simp only[List.append_assoc]
  rw[←List.append_assoc]
  exact Hl (P:=leB (Ui leaf) 1++leB t 1) (by simp[Zg]) (by omega) (by omega)
 have r4:(Zh b 4 2:Int)=(v:Int):=by
  rw[hR,Vt];simp only[List.append_assoc]
  rw[←List.append_assoc,←List.append_assoc]
  exact Hl (P:=leB (Ui leaf) 1++leB t 1++leB (n:Int) 2) (by simp[Zg]) (by omega) (by omega)
 have r6:(Zh b 6 2:Int)=(m:Int):=by
  rw[hR,Vt];simp only[List.append_assoc]
  rw[←List.append_assoc,←List.append_assoc,←List.append_assoc]
  exact Hl (P:=leB (Ui leaf) 1++leB t 1++leB (n:Int) 2++leB (v:Int) 2) (by simp[Zg]) (by omega) (by omega)
 have r8:(Zh b 8 4:Int)=0:=by
  rw[hR,Vt];simp only[List.append_assoc]
  rw[←List.append_assoc,←List.append_assoc,←List.append_assoc,←List.append_assoc]
  exact Hl (P:=leB (Ui leaf) 1++leB t 1++leB (n:Int) 2++leB (v:Int) 2++leB (m:Int) 2) (by simp[Zg]) (by omega) (by decide)
 have eT:Ql b=t:=r1
 have eL:Qr b=leaf:=by
  unfold Qr;rw[r0];cases leaf<;>rfl
 have eC:Xq b=n:=by unfold Xq;omega
 have eW:Qz b=v:=by unfold Qz;rw[eT,eL,widG,if_pos ⟨a7,a8⟩];exact N.hv
 have eM:Vy b=m:=by unfold Vy;rw[eT,eL,maxG,if_pos ⟨a7,a8⟩];exact N.hm
 have a2:∀ i,i<n→(Oo b i:Int)=K.getD i 0:=by
  intro i hi
  obtain⟨X,hX⟩:=Ea K n (i+1) (m-(i+1))
  rw[show i+1+(m-(i+1))=m by omega,Ve,if_pos hi] at hX
  unfold Oo
  rw[a0,hX]
  have hk:=N.hk0 i hi
  have:=Hl (P:=Vt t leaf n m v++Yu K n i) (Q:=X++(Qt Vs n++List.replicate (232-m*8-n*v) 0)) (k:=12+i*8) (w:=8) (x:=K.getD i 0) (by rw[List.length_append,Vl,Jh]) hk.1 (Nat.lt_of_le_of_lt (show(K.getD i 0).toNat≤281474976710655 by omega) (by decide))
  simp only[List.append_assoc] at this ⊢
  exact this
 have a4:∀ i,i<n→Zgt b i=Vs.getD i []:=by
  intro i hi
  obtain⟨X,hX⟩:=Ee Vs (i+1) (n-(i+1))
  rw[show i+1+(n-(i+1))=n by omega,Uc] at hX
  have a6:(Qt Vs i).length=i*v:=Wy fun j hj=>N.hw j (by omega)
  unfold Zgt
  rw[eM,eW,a0,hX]
  have:=Ij (P:=Vt t leaf n m v++Yu K n m++Qt Vs i) (Q:=Vs.getD i []++(X++List.replicate (232-m*8-n*v) 0)) (k:=12+m*8+i*v) (by rw[List.length_append,List.length_append,Vl,Jh,a6])
  simp only[List.append_assoc] at this ⊢
  rw[this]
  exact List.take_left' (N.hw i hi)
 have b2:n*v≤m*v:=Nat.mul_le_mul_right v a5
 refine⟨a3,?_,eT,eL,eC,?_,?_⟩
 ·have hs:Ex b=true:=by
   unfold Ex
   rw[eW,eM]
   refine decide_eq_true ⟨?_,by omega,by omega,by omega,by omega,by omega,?_⟩
   ·cases leaf<;>simp only[Ui] at r0<;>simp at r0<;>omega
   ·cases leaf with
    | true=>left;simp only[Ui] at r0;simp at r0;omega
    | false=>right;have:=N.hl rfl;omega
  have hz:Zdi b=true:=by
   unfold Zdi Ay Zg1 Ob
   rw[eC,eM,eW,Bool.and_eq_true]
   constructor
   ·have hk:=Jw K n (m-n)
    rw[show n+(m-n)=m by omega] at hk
    have:=Ij (P:=Vt t leaf n m v++Yu K n n) (Q:=List.replicate ((m-n)*8) 0++(Qt Vs n++List.replicate (232-m*8-n*v) 0)) (k:=12+n*8) (by rw[List.length_append,Vl,Jh])
    rw[a0,hk]
    simp only[List.append_assoc] at this ⊢
    rw[this,List.take_append_of_le_length (by rw[List.length_replicate];omega)]
    exact Ow _ _
   ·have a6:(Qt Vs n).length=n*v:=Wy fun j hj=>N.hw j hj
    have:=Ij (P:=Vt t leaf n m v++Yu K n m++Qt Vs n) (Q:=List.replicate (232-m*8-n*v) 0) (k:=12+m*8+n*v) (by rw[List.length_append,List.length_append,Vl,Jh,a6])
    rw[a0,this]
    exact Ow _ _
  unfold Jm
  rw[if_pos hs,if_pos hz,eC]
  refine Ct fun i hi=>?_
  have h1:=a2 i hi
  have h2:=N.hk0 i hi
  unfold Oq
  rw[if_neg (by omega),if_neg ?_]
  rintro⟨h3,h4⟩
  have h5:=a2 (i-1) (by omega)
  have h6:=N.hk1 (i-1) (by omega)
  rw[show i-1+1=i by omega] at h6
  omega
 ·exact getD_ext (by rw[Es,N.hK]) fun j hj=>by rw[Es] at hj;rw[Zax b hj];exact a2 j hj
 ·exact getD_extV (by rw[Wc,N.hV]) fun j hj=>by rw[Wc] at hj;rw[Zab b hj];exact a4 j hj
theorem blk_back{t:Int}{leaf:Bool}{n m v:Nat}{K:List Int}{Vs:List Bl}(N:NodeOk t leaf n m v K Vs){l:Bl}{j len:Nat}(hl:l.length=len)(hj:j<len/256)(h4:j<14400)(hb:Yj l j=Xk 2 (j:Int) (Hd m v (Vt t leaf n m v) K Vs n))(tree:Int)(ht:tree=0∨t=tree) :
 Xv l (j:Int) tree=0∧inB l (j:Int)=Hd m v (Vt t leaf n m v) K Vs n:=by
 have B:=Zfw N
 have a0:inB l (j:Int)=Hd m v (Vt t leaf n m v) K Vs n:=by
  rw[Sn (no:=(j:Int)) (j:=j) rfl,hb,in_seal (by rw[B.len];decide)]
  unfold Za7;rw[B.len];simp
 refine⟨?_,a0⟩
 unfold Xv
 rw[Ss (no:=(j:Int)) (j:=j) hl rfl hj,hb,if_pos (Zau (by decide) (by decide) (by omega) (by omega) (by rw[B.len];decide)),a0]
 unfold Qu
 rw[if_pos B.e,if_pos (by rw[B.t];exact ht)]
def mapV(m:Mp):Bl:=Ze6 mapP [m.2.1*16777216+m.2.2] 1
theorem mapV_len(m:Mp):(mapV m).length=8:=by unfold mapV;rw[Dq];rfl
def Lv(n:Int)(d:Dv):Bl:=Ze6 detP [n,d.1.2.1,d.1.2.2.1,d.1.2.2.2] 4
theorem Zg3(n:Int)(d:Dv):(Lv n d).length=24:=by unfold Lv;rw[Dq];rfl
def Ma(M:List Mp):List Ent:=M.map fun m=>(m.1,mapV m,0)
theorem Kq(M:List Mp):(Ma M).length=M.length:=List.length_map ..
def dvD:Dv:=((0,0,0,0),[])
def Bd(L:List Dv)(R:Nat→Nat):List Ent:=(List.range L.length).map fun i=>((L.getD i dvD).1.1,leB (R i:Int) 4,0)
def Bz(L:List Dv)(C:Nat→Int):List Ent:=(List.range L.length).map fun i=>((L.getD i dvD).1.1,Lv (C i) (L.getD i dvD),0)
theorem Kl(L:List Dv)(R:Nat→Nat):(Bd L R).length=L.length:=by simp[Bd]
theorem Kk(L:List Dv)(C:Nat→Int):(Bz L C).length=L.length:=by simp[Bz]
theorem Wv{L:List Dv}{R:Nat→Nat}{i:Nat}(h:i<L.length):(Bd L R).getD i Vk=((L.getD i dvD).1.1,leB (R i:Int) 4,0):=by simp[Bd,List.getD,List.getElem?_range h]
theorem Wf{L:List Dv}{C:Nat→Int}{i:Nat}(h:i<L.length):(Bz L C).getD i Vk=((L.getD i dvD).1.1,Lv (C i) (L.getD i dvD),0):=by simp[Bz,List.getD,List.getElem?_range h]
theorem Wi{M:List Mp}{i:Nat}(h:i<M.length):(Ma M).getD i Vk=((M.getD i (0,0,0)).1,mapV (M.getD i (0,0,0)),0):=by simp[Ma,List.getD,h]
theorem mapEs_ok{data:Int}{M:List Mp}(h:MapsOk data M):EntsOk 8 (Ma M):=by
 refine⟨fun i hi=>?_,fun j hj=>?_,fun i hi=>?_⟩
 ·rw[Kq] at hi
  rw[Wi hi]
  have:=h.each (M.getD i (0,0,0)) (by simp[List.getD,hi])
  exact this.1
 ·rw[Kq] at hj
  rw[Wi (by omega),Wi hj]
  have:=List.pairwise_iff_getElem.1 h.rise j (j+1) (by omega) hj (by omega)
  simpa [List.getD,hj,show j<M.length by omega] using this
 ·rw[Kq] at hi
  rw[Wi hi];exact mapV_len _
theorem Ze2{data:Int}{L:List Dv}(h:DevsOk data L):(∀ i,i<L.length→0≤(L.getD i dvD).1.1∧(L.getD i dvD).1.1≤281474976710655)∧∀ j,j+1<L.length→(L.getD j dvD).1.1<(L.getD (j+1) dvD).1.1:=by
 refine⟨fun i hi=>?_,fun j hj=>?_⟩
 ·have:=(h.each (L.getD i dvD) (by simp[List.getD,hi])).id;omega
 ·have:=List.pairwise_iff_getElem.1 h.rise j (j+1) (by omega) hj (by omega)
  simpa [List.getD,hj,show j<L.length by omega] using this
theorem topEs_ok{data:Int}{L:List Dv}{R:Nat→Nat}(h:DevsOk data L):EntsOk 4 (Bd L R):=by
 obtain⟨h1,h2⟩:=Ze2 h
 refine⟨fun i hi=>?_,fun j hj=>?_,fun i hi=>?_⟩
 ·rw[Kl] at hi
  rw[Wv hi];exact h1 i hi
 ·rw[Kl] at hj
  rw[Wv (by omega),Wv hj];exact h2 j hj
 ·rw[Kl] at hi
  rw[Wv hi];exact Zg _ _
theorem detEs_ok{data:Int}{L:List Dv}{C:Nat→Int}(h:DevsOk data L):EntsOk 24 (Bz L C):=by
 obtain⟨h1,h2⟩:=Ze2 h
 refine⟨fun i hi=>?_,fun j hj=>?_,fun i hi=>?_⟩
 ·rw[Kk] at hi
  rw[Wf hi];exact h1 i hi
 ·rw[Kk] at hj
  rw[Wf (by omega),Wf hj];exact h2 j hj
 ·rw[Kk] at hi
  rw[Wf hi];exact Zg3 _ _
def LevelPost(B ba b g nn cc:Nat)(pa:O0)(ca f N k0:Nat)(bs:Bl)(t:Int)(leaf:Bool)(m v:Nat)(l:List Ent)(w:World)(e:Ending)(w':World):Prop :=
 ∃ p c,e=.returned (.tuple #[.slice p (ovN l.length m) c,.nilIface])∧Below B w w'∧Zd [152,5] w w'∧Fr [ba,g] w w'∧Al B ba b g nn cc pa ca f N (k0+ovN l.length m) (Ot t leaf m v l (f+k0) bs (ovN l.length m)) w'∧w'.ownsRow w.heap.size 122 3 (.slice p (ovN l.length m) c) (ovN l.length m) ((upE l m (f+k0) (ovN l.length m)).flatMap Kv)
theorem Zdc(B ba b g nn cc:Nat)(pa:O0)(ca f N k0:Nat)(bs:Bl)(t:Int)(leaf:Bool)(m v:Nat)(a:O0)(c:Nat)(l:List Ent)(w:World)(hC:AlC B ba nn cc ca f N)(hA:Al B ba b g nn cc pa ca f N k0 bs w)(ht1:1≤t)(ht2:t≤5)(hm:Yz t leaf=m)(hv:Ut t leaf=v)(E:EntsOk v l)(hl:leaf=false→1≤l.length)(hn:l.length≤32768)(hf1:1≤f)(hk:k0+ovN l.length m≤N)(hin:∀ W,Below B w W→Zd [152,5] w W→Sts Kv W (.slice a l.length c) l)(hBw:B≤w.heap.size) :
 C0 191 #[P0 ba,V0 t,.bool leaf,.slice a l.length c] w (LevelPost B ba b g nn cc pa ca f N k0 bs t leaf m v l w):=by
 have o1:=Yv t leaf
 rw[hm] at o1
 have p1:=hC.hf
 have r0:=hC.hn
 refine zin 96 Tryz.func191 ?_
 refine xr 18 (args:=#[V0 t,.bool leaf]) (Fz t leaf m hm ht1 ht2 _) fun W1 h4=>?_
 refine xc 0 (args:=#[V0 (l.length:Int),V0 (m:Int)]) (tall_Sizes l.length m _ hn (by omega) (by omega)) ?_
 rintro _ W2 ⟨_,rfl,i8,ps,cs,rfl,e6⟩
 have n1:=(blB (Below.refl B w) hBw h4).size
 have f2:=Zf e6 n1
 have j6:=(hA.below h4).below i8
 have hB:=blB (blB (Below.refl B w) hBw h4) hBw i8
 have hX:=(show Fr [ba,g] w _ from(Fr.of_below h4)).trans (Fr.of_below i8)
 have hO:=(show Zd [152,5] w _ from(Zd.of_below h4)).trans (Zd.of_below i8)
 refine zl 5 96 (fun zm l7 V=>∃ (i:Nat) (a2:O0) (c2:Nat) (l2:List Ent) (p4:O0) (c4:Nat),l7=[(0,P0 ba),(1,V0 t),(2,.bool leaf),(3,.slice a2 l2.length c2),(10,.slice p4 i c4),(26,.slice ps (ovN l.length m) cs),(27,V0 (↑(ovN l.length m):Int)),(28,V0 (i:Int))]∧zm=ovN l.length m-((i:Int)).toNat∧Below B w V∧Fr [ba,g] w V∧Zd [152,5] w V∧V.ownsRow w.heap.size 3 1 (.slice ps (ovN l.length m) cs) (ovN l.length m) ((sizL l.length m).map nv)∧V.ownsRow w.heap.size 122 3 (.slice p4 i c4) i ((upE l m (f+k0) i).flatMap Kv)∧Al B ba b g nn cc pa ca f N (k0+i) (Ot t leaf m v l (f+k0) bs i) V∧(∀ W,Below B w W→Zd [152,5] w W→Sts Kv W (.slice a2 l2.length c2) l2)∧i≤ovN l.length m∧l2=l.drop (i*m)) ⟨0,a,c,l,none,0,rfl,rfl,hB,hX,hO,f2,World.ownsRow_nil _ _ _ _,j6,?_,Nat.zero_le _,by simp⟩ ?_
 ·exact hin
 rintro _ _ W3 ⟨i,a2,c2,l2,p4,c4,rfl,rfl,d9,f8,e0,e6,m0,hA,j0,hi,f5⟩ J3 l8 r3
 have m6:=Sl.cap (j0 _ d9 e0)
 have q1:i<ovN l.length m→i*m≤l.length:=siz_le (by omega)
 have k5:l2.length=l.length-i*m:=by rw[f5];simp
 have i2:Kn l.length m i≤l2.length:=by rw[k5];unfold Kn;omega
 refine xid 6 ((i:Int)<(↑(ovN l.length m):Int)) (fun n5=>?_) (fun n5=>?_)
 ·refine xx 6 _ (ovN l.length m) i 1 (Zfg (Ze e6) (k:=i) (by omega)).1 ?_
  refine xl 0 ((Zfg (Ze e6) (k:=i) (by omega)).2) ?_
  have i6:=d9
  have d0:=e0
  have d1:=f8
  refine xa 8 [V0 0,.bool false,S0,S0] 183 fun b6 W6 n6=>?_
  refine xsv 0 n6.blk [V0 t,.bool leaf,S0,S0] fun W7 u7 k7=>?_
  have g6:=n6.ge (B4 W3)
  refine xsH 7 (fun _ _ _ _ zo zx zy V=>Vh (k:=(Kn l.length m i)) (b:=a2) (n:=l2.length) (c:=c2) (i:=(↑(Kn l.length m i):Int)) (ki:=.i64) zo zx zy rfl (by omega) Tryz.underlying105 (by kernel_rfl) V) ?_
  have hB:=u7.below n6.below g6
  refine zl 5 96 (fun zm l7 V=>∃ (j:Nat) (kp:O0) (kc:Nat) (vp:O0) (vc:Nat),l7=[(0,P0 ba),(1,V0 t),(2,.bool leaf),(3,.slice a2 l2.length c2),(10,.slice p4 i c4),(12,V0 (↑(Kn l.length m i):Int)),(13,P0 b6),(26,.slice ps (ovN l.length m) cs),(27,V0 (↑(ovN l.length m):Int)),(28,V0 (i:Int)),(37,.slice a2 (Kn l.length m i) c2),(38,V0 (↑(Kn l.length m i):Int)),(39,V0 (j:Int))]∧zm=Kn l.length m i-((j:Int)).toNat∧B3 W3 V∧Blk V b6 ([V0 t,.bool leaf,.slice kp j kc,.slice vp j vc]) 183∧V.ownsRow W3.heap.size 3 1 (.slice kp j kc) j (((Vu l2).take j).map V0)∧V.ownsRow W3.heap.size 9 1 (.slice vp j vc) j (((Jp l2).take j).map sv)∧j≤Kn l.length m i) ⟨0,none,0,none,0,rfl,rfl,hB,k7,World.ownsRow_nil _ _ _ _,World.ownsRow_nil _ _ _ _,Nat.zero_le _⟩ ?_
  rintro _ _ W8 ⟨j,kp,kc,vp,vc,rfl,rfl,c1,b5,hK,hV,hj⟩ J8 o2 r8
  refine xid 6 ((j:Int)<(↑(Kn l.length m i):Int)) (fun o0=>?_) (fun o0=>?_)
  ·have b1:=j0 _ i6 d0
   refine xx 6 _ (Kn l.length m i) j 3 (Sts.cell b1 Hj Vk (k:=j) (i:=0) (by omega) rfl).1 ?_
   refine xlv 0 (Sts.rp (k:=j) (b1.below c1) Hj Vk (by omega) (by decide)) ?_
   refine xa 0 [V0 0,.string ⟨#[]⟩,V0 0] 122 fun o5 o3 c0=>?_
   have n3:=c0.ge c1
   refine xsv 0 c0.blk [V0 ((l2.getD j Vk).1),.string ⟨((l2.getD j Vk).2.1).toArray⟩,V0 ((l2.getD j Vk).2.2)] fun o9 i5 m2=>?_
   have b0:=i5.blkT (b5.below c0.below) c0.blk (by decide)
   refine xb 5 2 b0 ?_
   refine xb 1 0 m2 ?_
   refine xbs 0 1 [V0 ((l2.getD j Vk).1)] 3 fun q6 o4 d5=>?_
   have g7:=i5.below (bln c1 c0.below) n3
   have q9:=d5.ge g7
   have f0:=i5.own2 (Zb hK c0.below) c0.blk (by decide)
   have j7:=Zr f0 d5
   have c5:=Zb f0 d5.below
   have f3:=bln g7 d5.below
   refine xbi 0 fun _ _ _ _ zJ zQ zo zx zy zK=>Zy (m:=1) (news:=[V0 ((l2.getD j Vk).1)]) (V0 0) 1 8 (j+1) (((Vu l2).take (j+1)).map V0) zo Tryz.underlying35 (by kernel_rfl) rfl (by decide) zx c5 zy (d5.blk.sl 1 1 (by decide) (by decide)) rfl (by simp[Value.oneCell']) (by unfold maxLen;omega) (by omega) f3.size (by rfl) ((keys_take (by omega)).symm) fun h3 h9 q4 n0 e4 l5=>?_
   refine zK _ _ ?_
   have a1:=(b0.below d5.below).grown e4 c5 (by decide)
   refine xs 1 a1 [V0 t,.bool leaf,.slice h3 (j+1) h9,.slice vp j vc] fun q7 j2 l9=>?_
   refine xb 4 3 l9 ?_
   have g9:=j2.blkT ((m2.below d5.below).grown e4 c5 (by decide)) a1 (by decide)
   refine xb 1 1 g9 ?_
   refine xbs 0 1 [.string ⟨((l2.getD j Vk).2.1).toArray⟩] 9 fun o6 r1 e2=>?_
   have f6:=j2.below (f3.trans l5) g6
   have p8:=e2.ge f6
   have g1:=j2.own2 (Yb (Zb (i5.own2 (Zb hV c0.below) c0.blk (by decide)) d5.below) e4 c5 (by decide)) a1 (by decide)
   have l6:=Zr g1 e2
   have e3:=Zb g1 e2.below
   have h7:=bln f6 e2.below
   refine xbi 0 fun _ _ _ _ zJ zQ zo zx zy zK=>Zy (m:=1) (news:=[.string ⟨((l2.getD j Vk).2.1).toArray⟩]) (.string ⟨#[]⟩) 1 16 (j+1) (((Jp l2).take (j+1)).map sv) zo Tryz.underlying134 (by kernel_rfl) rfl (by decide) zx e3 zy (e2.blk.sl 1 1 (by decide) (by decide)) rfl (by simp[Value.oneCell']) (by unfold maxLen;omega) (by omega) h7.size (by rfl) ((vals_take (by omega)).symm) fun j9 l1 p0 m5 i1 k8=>?_
   refine zK _ _ ?_
   have b4:=(l9.below e2.below).grown i1 e3 (by decide)
   refine xs 1 b4 [V0 t,.bool leaf,.slice h3 (j+1) h9,.slice j9 (j+1) l1] fun p3 j5 m4=>?_
   refine xwm 4 ((j:Int)+1) (↑(j+1):Int) ?_
   have j8:=j5.below (h7.trans k8) g6
   have e8:=j5.own2 (Yb (Zb (j2.own2 n0 a1 (by decide)) e2.below) i1 e3 (by decide)) b4 (by decide)
   have h8:=j5.own2 m5 b4 (by decide)
   exact ze 2 (o2 _ _ _ ⟨j+1,_,_,_,_,rfl,rfl,j8,m4,e8,h8,by omega⟩ (by omega))
  refine xsL 9 (fun _ _ _ _ zo zx zy V=>Yc (k:=(Kn l.length m i)) (b:=a2) (n:=l2.length) (c:=c2) (i:=(↑(Kn l.length m i):Int)) (ki:=.i64) 3 zo zx zy rfl (by omega) Tryz.underlying105 (by kernel_rfl) V) ?_
  refine xlv 5 b5.rp ?_
  have a6:B3 W3 W8:=c1
  have g5:w.heap.size≤W3.heap.size:=i6.size
  have f7:Kn l.length m i=j:=by omega
  have n7:(Vu l2).take j=Vu (Xh l m i):=by rw[f5];exact Zgx f7
  have m7:(Jp l2).take j=Jp (Xh l m i):=by rw[f5];exact vals_chunk f7
  have j1:(Xh l m i).length=j:=by rw[Ls,f7]
  have e1:=Zf hK g5
  rw[n7] at e1
  have g3:=Zf hV g5
  rw[m7] at g3
  have hN:=Dr E ht1 ht2 hm hv hl (show i<ovN l.length m by omega)
  have e9:=Of hN
  rw[j1] at hN
  have n4:Hd m v (Vt t leaf j m v) (Vu (Xh l m i)) (Jp (Xh l m i)) j=nodB t leaf m v (Xh l m i):=by rw[←j1];rfl
  refine xc 0 (args:=#[.agg #[V0 t,.bool leaf,.slice kp j kc,.slice vp j vc]]) (node_Put t leaf j m v (Vu (Xh l m i)) (Jp (Xh l m i)) kp vp kc vc _ hN (Ze e1) (Ze g3)) ?_
  rintro _ q8 ⟨_,rfl,a4,p6,c6,rfl,h6⟩
  have k9:=(blB i6 hBw a6).size
  have f9:=Zf h6 k9
  rw[n4] at f9
  have k3:=(hA.below a6).below a4
  have hO:=(d0.trans (Zd.of_below a6)).trans (Zd.of_below a4)
  have hB:=blB (blB i6 hBw a6) hBw a4
  refine xc 21 (args:=#[P0 ba,V0 2,.slice p6 244 c6]) (Pi B ba b g nn cc pa ca f N (k0+i) (Ot t leaf m v l (f+k0) bs i) 2 p6 c6 (nodB t leaf m v (Xh l m i)) (f+k0+i) 244 _ (Nat.add_assoc _ _ _).symm e9 hC k3 (by omega) (by decide) (by decide) (fun W _ hO=>Yi (Ze (Zi f9 hO (by decide))) e9) (by decide) (Nat.le_trans hBw hB.size)) ?_
  rintro _ q2 ⟨rfl,l4,a9,g2,hA⟩
  refine xr 20 (args:=#[V0 (↑(f+k0+i):Int)]) (Tv ((f+k0+i:Nat):Int) (by omega) (by omega) _) fun p5 a0=>?_
  refine xa 2 [V0 0,.string ⟨#[]⟩,V0 0] 122 fun r4 q3 a3=>?_
  have d8:=blB (hB.trans l4) hBw a0
  have c3:=a3.ge0 d8
  have b3:=Zb (Zi (Zb (Zb m0 a6) a4) a9 (by decide)) a0
  have a5:=Zr b3 a3
  refine xsv 0 a3.blk [V0 0,.string ⟨(leB (↑(f+k0+i):Int) 4).toArray⟩,V0 (↑(f+k0+i):Int)] fun r2 b2 g8=>?_
  refine xid 9 ((↑(Kn l.length m i):Int)>(0:Int)) (fun j4=>?_) (fun j4=>?_)
  ·have i0:((Vu (Xh l m i))).getD 0 0=((Xh l m i).getD 0 Vk).1:=chunk_key f7 (by omega)
   have c7:=b2.blkT ((((b5.below a4).only a9 (by decide)).below a0).below a3.below) a3.blk (by decide)
   refine xb 2 2 c7 ?_
   have f1:=b2.own2 (Zb (Zb (Zi (Zb e1 a4) a9 (by decide)) a0) a3.below) a3.blk (by decide)
   refine xx 0 _ j 0 1 (IntsN.elem (Ze f1) (by rw[Lp,j1]) (k:=0) (by omega)).1 ?_
   refine xl 0 ((IntsN.elem (Ze f1) (by rw[Lp,j1]) (k:=0) (by omega)).2) ?_
   refine xs 1 g8 [V0 ((Vu (Xh l m i)).getD 0 0),.string ⟨(leB (↑(f+k0+i):Int) 4).toArray⟩,V0 (↑(f+k0+i):Int)] fun q0 e5 m1=>?_
   refine xlv 4 m1.rp ?_
   refine xbs 0 1 [V0 ((Vu (Xh l m i)).getD 0 0),.string ⟨(leB (↑(f+k0+i):Int) 4).toArray⟩,V0 (↑(f+k0+i):Int)] 122 fun p9 p2 b7=>?_
   have i4:=b7.ne m1
   have h5:=e5.below (b2.below (blB d8 hBw a3.below) (Nat.le_trans hBw c3)) (Nat.le_trans hBw c3)
   have o7:=b7.ge0 h5
   have c9:=e5.own3 (b2.own3 (Zb b3 a3.below) a5) a5
   have i9:=Zr c9 b7
   have a7:=Zb c9 b7.below
   have h0:=blB h5 hBw b7.below
   refine xbi 0 fun _ _ _ _ zJ zQ zo zx zy zK=>Zy (m:=1) (news:=[V0 ((Vu (Xh l m i)).getD 0 0),.string ⟨(leB (↑(f+k0+i):Int) 4).toArray⟩,V0 (↑(f+k0+i):Int)]) (.agg #[V0 0,.string ⟨#[]⟩,V0 0]) 3 32 (i+1) ((upE l m (f+k0) (i+1)).flatMap Kv) zo Tryz.underlying105 (by kernel_rfl) rfl (by decide) zx a7 zy (b7.blk.sl 1 1 (by decide) (by decide)) rfl (by simp[Value.oneCell']) (by unfold maxLen;omega) (by omega) h0.size (by rfl) (up_row (by first|exact i0|exact d6)) fun m8 n8 r6 m9 c8 k2=>?_
   refine zK _ _ ?_
   refine xwm 5 ((i:Int)+1) (↑(i+1):Int) ?_
   refine xv1 2 3 (show(.slice (Vp a2 (Kn l.length m i) c2 3) (l2.length-(Kn l.length m i)) (c2-(Kn l.length m i)):Value)=.slice (Vp a2 (Kn l.length m i) c2 3) ((l2.drop (Kn l.length m i)).length) (c2-Kn l.length m i) from by rw[List.length_drop]) ?_
   have k1:=(((((hA.below a0).below a3.below).only (Zd.of_upd (T:=[122]) b2 a3.blk (by decide)) (by decide)).only (Zd.of_upd (T:=[122]) e5 g8 (by decide)) (by decide)).below b7.below).only (Zd.of_grown (T:=[122]) c8 a7 (by decide)) (by decide)
   have d7:l2.drop (Kn l.length m i)=l.drop ((i+1)*m):=by
    rw[f5,List.drop_drop,Nat.add_mul,Nat.one_mul]
    unfold Kn
    rcases Nat.le_total m (l.length-i*m) with q|q
    ·rw[Nat.min_eq_left q]
    ·rw[Nat.min_eq_right q,List.drop_eq_nil_of_le (by omega),List.drop_eq_nil_of_le (by omega)]
   have k4:=h0.trans (k2.mono hBw)
   have hX:=(Fr.grown_new ((Fr.upd_new (Fr.upd_new (((((d1.trans (Fr.of_below a6)).trans (Fr.of_below a4)).trans (g2.mono (by simp))).trans (Fr.of_below a0)).trans (Fr.of_below a3.below)) b2 c3) e5 c3).trans (Fr.of_below b7.below)) c8 a7)
   have l3:=(Zd.grown_new ((Zd.upd_new (Zd.upd_new (((hO.trans a9).trans (Zd.of_below a0)).trans (Zd.of_below a3.below)) b2 c3) e5 c3).trans (Zd.of_below b7.below)) c8 a7)
   have e7:=Yb (Zb (e5.own2 (b2.own2 (Zb (Zb (Zi (Zb (Zb e6 a6) a4) a9 (by decide)) a0) a3.below) a3.blk (by decide)) g8 (by decide)) b7.below) c8 a7 (by decide)
   exact ze 0 (l8 _ _ _ ⟨i+1,_,_,(l2.drop (Kn l.length m i)),_,_,rfl,rfl,k4,hX,l3,e7,m9,k1,fun W h1 h2=>Sts.cut Hj (j0 W h1 h2) _ i2,by omega,d7⟩ (by omega))
  have d6:(0:Int)=((Xh l m i).getD 0 Vk).1:=Zdw f7 (by omega)
  refine xlv 4 g8.rp ?_
  refine xbs 0 1 [V0 0,.string ⟨(leB (↑(f+k0+i):Int) 4).toArray⟩,V0 (↑(f+k0+i):Int)] 122 fun o8 r5 b8=>?_
  have i7:=b8.ne g8
  have d3:=b2.below (blB d8 hBw a3.below) (Nat.le_trans hBw c3)
  have p7:=b8.ge0 d3
  have d2:=b2.own3 (Zb b3 a3.below) a5
  have i3:=Zr d2 b8
  have a8:=Zb d2 b8.below
  have d4:=blB d3 hBw b8.below
  refine xbi 0 fun _ _ _ _ zJ zQ zo zx zy zK=>Zy (m:=1) (news:=[V0 0,.string ⟨(leB (↑(f+k0+i):Int) 4).toArray⟩,V0 (↑(f+k0+i):Int)]) (.agg #[V0 0,.string ⟨#[]⟩,V0 0]) 3 32 (i+1) ((upE l m (f+k0) (i+1)).flatMap Kv) zo Tryz.underlying105 (by kernel_rfl) rfl (by decide) zx a8 zy (b8.blk.sl 1 1 (by decide) (by decide)) rfl (by simp[Value.oneCell']) (by unfold maxLen;omega) (by omega) d4.size (by rfl) (up_row (by first|exact i0|exact d6)) fun n2 m3 q5 n9 b9 j3=>?_
  refine zK _ _ ?_
  refine xwm 5 ((i:Int)+1) (↑(i+1):Int) ?_
  refine xv1 2 3 (show(.slice (Vp a2 (Kn l.length m i) c2 3) (l2.length-(Kn l.length m i)) (c2-(Kn l.length m i)):Value)=.slice (Vp a2 (Kn l.length m i) c2 3) ((l2.drop (Kn l.length m i)).length) (c2-Kn l.length m i) from by rw[List.length_drop]) ?_
  have l0:=((((hA.below a0).below a3.below).only (Zd.of_upd (T:=[122]) b2 a3.blk (by decide)) (by decide)).below b8.below).only (Zd.of_grown (T:=[122]) b9 a8 (by decide)) (by decide)
  have d7:l2.drop (Kn l.length m i)=l.drop ((i+1)*m):=by
   rw[f5,List.drop_drop,Nat.add_mul,Nat.one_mul]
   unfold Kn
   rcases Nat.le_total m (l.length-i*m) with q|q
   ·rw[Nat.min_eq_left q]
   ·rw[Nat.min_eq_right q,List.drop_eq_nil_of_le (by omega),List.drop_eq_nil_of_le (by omega)]
  have f4:=d4.trans (j3.mono hBw)
  have hX:=(Fr.grown_new ((Fr.upd_new (((((d1.trans (Fr.of_below a6)).trans (Fr.of_below a4)).trans (g2.mono (by simp))).trans (Fr.of_below a0)).trans (Fr.of_below a3.below)) b2 c3).trans (Fr.of_below b8.below)) b9 a8)
  have k6:=(Zd.grown_new ((Zd.upd_new (((hO.trans a9).trans (Zd.of_below a0)).trans (Zd.of_below a3.below)) b2 c3).trans (Zd.of_below b8.below)) b9 a8)
  have g0:=Yb (Zb (b2.own2 (Zb (Zb (Zi (Zb (Zb e6 a6) a4) a9 (by decide)) a0) a3.below) a3.blk (by decide)) b8.below) b9 a8 (by decide)
  exact ze 0 (l8 _ _ _ ⟨i+1,_,_,(l2.drop (Kn l.length m i)),_,_,rfl,rfl,f4,hX,k6,g0,n9,l0,fun W h1 h2=>Sts.cut Hj (j0 W h1 h2) _ i2,by omega,d7⟩ (by omega))
 refine xe 13 (.tuple #[.slice p4 i c4,.nilIface]) ?_
 obtain rfl:i=ovN l.length m:=by omega
 exact⟨_,_,rfl,d9,e0,f8,hA,m0⟩
theorem only_a3{w w':World}(h:Zd [152,5] w w'):Zd [152,5,32] w w':=h.mono fun t ht=>by simp at ht ⊢;exact⟨ht.1,ht.2.1⟩
def Tree1Post(B ba b g nn cc:Nat)(pa:O0)(ca f N k0:Nat)(bs:Bl)(t:Int)(leaf:Bool)(m v:Nat)(l:List Ent)(b8:Nat)(w:World)(e:Ending)(w':World):Prop :=
 ∃ p c,e=.returned (.slice p (ovN l.length m) c)∧Below B w w'∧Zd [152,5,32] w w'∧Fr [ba,g,b8] w w'∧Blk w' b8 [.nilIface] 32∧Al B ba b g nn cc pa ca f N (k0+ovN l.length m) (Ot t leaf m v l (f+k0) bs (ovN l.length m)) w'∧w'.ownsRow w.heap.size 122 3 (.slice p (ovN l.length m) c) (ovN l.length m) ((upE l m (f+k0) (ovN l.length m)).flatMap Kv)
theorem Ra(B ba b g nn cc:Nat)(pa:O0)(ca f N k0:Nat)(bs:Bl)(t:Int)(leaf:Bool)(m v:Nat)(a:O0)(c:Nat)(l:List Ent)(b3 b4 b8:Nat)(w:World)(k3:Blk w b3 [P0 ba] 94)(k4:Blk w b4 [V0 t] 3)(k8:Blk w b8 [.nilIface] 32)(h38:b3≠b8)(h48:b4≠b8)(hB8:B≤b8)(hC:AlC B ba nn cc ca f N)(hA:Al B ba b g nn cc pa ca f N k0 bs w)(ht1:1≤t)(ht2:t≤5)(hm:Yz t leaf=m)(hv:Ut t leaf=v)(E:EntsOk v l)(hl:leaf=false→1≤l.length)(hn:l.length≤32768)(hf1:1≤f)(hk:k0+ovN l.length m≤N)(hin:∀ W,Below B w W→Zd [152,5,32] w W→Sts Kv W (.slice a l.length c) l)(hBw:B≤w.heap.size) :
 C0 190 #[.bool leaf,.slice a l.length c,P0 b3,P0 b4,P0 b8] w (Tree1Post B ba b g nn cc pa ca f N k0 bs t leaf m v l b8 w):=by
 refine zin 20 Tryz.func190 ?_
 refine xb 7 0 k3 ?_
 refine xb 0 0 k4 ?_
 refine xc 2 (args:=#[P0 ba,V0 t,.bool leaf,.slice a l.length c]) (Zdc B ba b g nn cc pa ca f N k0 bs t leaf m v a c l _ hC hA ht1 ht2 hm hv E hl hn hf1 hk (fun W h1 h2=>hin W ((Below.refl B _).trans h1) ((Zd.refl _ _).trans (only_a3 h2))) (Nat.le_trans hBw (Below.refl B _).size)) ?_
 rintro _ W1 ⟨p4,c4,rfl,a4,a3,a7,hA,a5⟩
 have a6:=Nat.le_refl w.heap.size
 have a0:=k8.only a3 (by decide)
 refine xs 10 a0 [.nilIface] fun W2 u2 k2=>?_
 have hB:=u2.below a4 hB8
 have hO:=(show Zd [152,5,32] w _ from(only_a3 a3)).trans (Zd.of_upd u2 a0 (by decide))
 have hX:=(show Fr [ba,g,b8] w _ from(a7.mono (by simp))).trans (Fr.of_upd u2 (by simp))
 have a2:=hA.only (Zd.of_upd (T:=[32]) u2 a0 (by decide)) (by decide)
 have a1:=u2.own2 (Zf a5 a6) a0 (by decide)
 exact xe 9 (.slice p4 (ovN l.length m) c4) ⟨_,_,rfl,hB,hO,hX,k2,a2,a1⟩
def Zeq(B ba b g nn cc:Nat)(pa:O0)(ca f N k0:Nat)(bs:Bl)(t:Int)(l:List Ent)(w:World)(e:Ending)(w':World):Prop :=
 e=.returned (.tuple #[V0 (Xx t l (f+k0) bs).1,.nilIface])∧Below B w w'∧Zd [152,5,32] w w'∧Fr [ba,g] w w'∧Al B ba b g nn cc pa ca f N (k0+Xn t l.length) (Xx t l (f+k0) bs).2 w'
theorem Zho(B ba b g nn cc:Nat)(pa:O0)(ca f N k0:Nat)(bs:Bl)(t:Int)(a:O0)(c:Nat)(l:List Ent)(w:World)(hC:AlC B ba nn cc ca f N)(hA:Al B ba b g nn cc pa ca f N k0 bs w)(ht1:1≤t)(ht2:t≤5)(E:EntsOk (Ut t true) l)(hn:l.length≤32768)(hf1:1≤f)(hkN:k0≤N)(hk:k0+Xn t l.length≤N)(hin:∀ W,Below B w W→Zd [152,5,32] w W→Sts Kv W (.slice a l.length c) l)(hBw:B≤w.heap.size) :
 C0 118 #[P0 ba,V0 t,.slice a l.length c] w (Zeq B ba b g nn cc pa ca f N k0 bs t l w):=by
 have g6:=Ua t l.length
 have f8:(ovN l.length (Yz t true))≤Xn t l.length:=Mf _
 have f6:=Zba l.length (Yz t true) (Yv t true).1
 have f1:=Vd l.length (Yz t true)
 have g5:=hC.hf
 have g0:=hC.hn
 refine zin 52 Tryz.func118 ?_
 refine xa 2 [P0 ba] 94 fun b1 W1 n1=>?_
 refine xa 0 [V0 t] 3 fun b2 W2 n2=>?_
 have k1:=n1.blk.below n2.below
 refine xb 8 0 k1 ?_
 have b9:=(hA.below n1.below).below n2.below
 refine xr 0 (args:=#[P0 ba]) (Yw ba b _ _ _ b9.blkA) fun W3 b8=>?_
 have k2:=n2.blk.below b8
 refine xb 7 0 k2 ?_
 have hB:=blB (blB (blB (Below.refl B w) hBw n1.below) hBw n2.below) hBw b8
 have hO:=((show Zd [152,5,32] w _ from(Zd.of_below n1.below)).trans (Zd.of_below n2.below)).trans (Zd.of_below b8)
 refine xr 1 (args:=#[V0 t,.slice a l.length c]) (Zcs t (Ut t true) a c l _ ht1 ht2 rfl E (hin _ hB hO) hn) fun W4 b5=>?_
 refine xd 6 .z ?_
 have c8:=((k1.below b8).below b5).below (Za W4)
 refine xb (.e [] 0) 0 c8 ?_
 have c7:=(k2.below b5).below (Za W4)
 refine xb (.e [] 2) 0 c7 ?_
 have c6:=((b9.below b8).below b5).below (Za W4)
 refine xr (.o [3,4] 1) (args:=#[P0 ba]) (Ca ba b pa N ca k0 _ c6.blkA hkN) fun W5 b6=>?_
 refine xr (.o [] 5) (args:=#[V0 t,V0 (l.length:Int)]) (Qc t l.length _ ht1 ht2 hn) fun W6 b4=>?_
 refine xk (.r [6,7] 2) (show(decide ((↑(N-k0):Int)<(↑(Xn t l.length):Int)):Bool)=false from decide_eq_false (by omega)) ?_
 refine xa 5 [.nilIface] 32 fun b7 W7 n7=>?_
 have a9:=blB (blB (blB (blB hB hBw b5) hBw (Za W4)) hBw b6) hBw b4
 have g7:=n7.ge0 a9
 have a6:=((c8.below b6).below b4).below n7.below
 have b0:=((c7.below b6).below b4).below n7.below
 have d9:=((c6.below b6).below b4).below n7.below
 have b3:=blB a9 hBw n7.below
 have c4:=((((hO.trans (Zd.of_below b5)).trans (Zd.of_below (Za W4))).trans (Zd.of_below b6)).trans (Zd.of_below b4)).trans (Zd.of_below n7.below)
 refine xc 12 (args:=#[.bool true,.slice a l.length c,P0 b1,P0 b2,P0 b7]) (Ra B ba b g nn cc pa ca f N k0 bs t true (Yz t true) (Ut t true) a c l b1 b2 b7 _ a6 b0 n7.blk (Blk.tne a6 n7.blk (by decide)) (Blk.tne b0 n7.blk (by decide)) (Nat.le_trans hBw g7) hC d9 ht1 ht2 rfl rfl E (by simp) hn hf1 (by omega) (fun W h1 h2=>hin W (b3.trans h1) (c4.trans h2)) (Nat.le_trans hBw b3.size)) ?_
 rintro _ W8 ⟨d3,d2,rfl,f4,d1,e9,e3,hA,a7⟩
 have f0:=(blB a9 hBw n7.below).size
 refine xv1 5 10 (show(.slice d3 (ovN l.length (Yz t true)) d2:Value)=.slice d3 ((upE l (Yz t true) (f+k0) (ovN l.length (Yz t true))).length) d2 from by rw[Xp]) ?_
 have c1:=Zf a7 f0
 have d4:=b3.trans f4
 have hX:=(Fr.trans_new ((((((((show Fr [ba,g] w _ from(Fr.of_below n1.below)).trans (Fr.of_below n2.below)).trans (Fr.of_below b8)).trans (Fr.of_below b5)).trans (Fr.of_below (Za W4))).trans (Fr.of_below b6)).trans (Fr.of_below b4)).trans (Fr.of_below n7.below)) e9 g7)
 have d6:=c4.trans d1
 have d5:=a6.only d1 (by decide)
 have d7:=b0.only d1 (by decide)
 refine zl 0 52 (fun zm f2 V=>∃ (u:List Ent) (K:Nat) (c9:Bl) (p:O0) (c2:Nat),f2=[(6,V0 0),(7,.nilIface),(8,P0 b7),(9,.func (.func 190) #[] #[P0 b1,P0 b2,P0 b7]),(10,.slice p u.length c2)]∧zm=u.length∧Below B w V∧Fr [ba,g] w V∧Zd [152,5,32] w V∧Blk V b1 ([P0 ba]) 94∧Blk V b2 ([V0 t]) 3∧Blk V b7 ([.nilIface]) 32∧V.ownsRow w.heap.size 122 3 (.slice p u.length c2) u.length (u.flatMap Kv)∧Al B ba b g nn cc pa ca f N K c9 V∧K+(Iy u.length).sum=k0+Xn t l.length+u.length∧1≤u.length∧u.length≤32768∧EntsOk 4 u∧Wu t u (f+K) c9=Xx t l (f+k0) bs) ⟨(upE l (Yz t true) (f+k0) (ovN l.length (Yz t true))),(k0+(ovN l.length (Yz t true))),(Ot t true (Yz t true) (Ut t true) l (f+k0) bs (ovN l.length (Yz t true))),d3,d2,rfl,rfl,d4,hX,d6,d5,d7,e3,(by rw[Xp];exact c1),hA,(by rw[Xp];unfold Xn Gv;omega),(by rw[Xp];exact f1),(by rw[Xp];omega),up_ok E (Yv t true).1,(by rw[←Nat.add_assoc];rfl)⟩ ?_
 rintro _ _ W9 ⟨u,K,c9,p,c2,rfl,rfl,a5,c5,c3,a2,a1,a0,a7,hA,hK,f3,f7,hE,d0⟩ J9 f5 r9
 have g3:¬ u.length≤1→(Iy u.length).sum=u.length+(Iy (ovN u.length 18)).sum:=fun h=>by rw[Ju h];rfl
 have f9:=Mf (ovN u.length 18)
 have g1:2≤u.length→ovN u.length 18≤u.length/2:=ov18
 have d8:=Vd u.length 18
 refine xb 3 0 a0 ?_
 refine xid 8 ((u.length:Int)>(1:Int)) (fun e0=>?_) (fun e0=>?_)
 ·refine xc 6 (args:=#[.bool false,.slice p u.length c2,P0 b1,P0 b2,P0 b7]) (Ra B ba b g nn cc pa ca f N K c9 t false 18 4 p c2 u b1 b2 b7 _ a2 a1 a0 (Blk.tne a2 a0 (by decide)) (Blk.tne a1 a0 (by decide)) (Nat.le_trans hBw g7) hC hA ht1 ht2 rfl rfl hE (fun _=>f3) (by omega) hf1 (by omega) (fun W _ h2=>Ze (Zi a7 h2 (by decide))) (Nat.le_trans hBw a5.size)) ?_
  rintro _ g2 ⟨e7,e8,rfl,e5,a8,e6,e3,hA,a7⟩
  refine xv1 3 10 (show(.slice e7 (ovN u.length 18) e8:Value)=.slice e7 ((upE u 18 (f+K) (ovN u.length 18)).length) e8 from by rw[Xp]) ?_
  have c0:=Zf a7 a5.size
  have e2:=a5.trans e5
  have e1:=(Fr.trans_new c5 e6 g7)
  have e4:=c3.trans a8
  have a3:=a2.only a8 (by decide)
  have a4:=a1.only a8 (by decide)
  refine ze 0 (f5 _ _ _ ⟨(upE u 18 (f+K) (ovN u.length 18)),(K+ovN u.length 18),_,_,_,rfl,rfl,e2,e1,e4,a3,a4,e3,(by rw[Xp];exact c0),hA,(by rw[Xp];omega),(by rw[Xp];exact d8),(by rw[Xp];omega),up_ok hE (by decide),(by rw[←d0,←Nat.add_assoc];exact(Nz (by omega)).symm)⟩ ?_)
  show((upE u 18 (f+K) (ovN u.length 18)).length)<u.length
  rw[Xp];omega
 refine xb 8 0 a0 ?_
 refine xx 9 _ u.length 0 3 (Sts.cell (Ze a7) Hj Vk (k:=0) (i:=0) (by omega) rfl).1 ?_
 refine xl 1 ((Sts.cell (Ze a7) Hj Vk (k:=0) (i:=2) (by omega) rfl).2) ?_
 refine xe 5 (.tuple #[V0 ((u.getD 0 Vk).2.2),.nilIface]) ?_
 have h1:u.length≤1:=by omega
 rw[Wz h1] at d0
 rw[Hp h1] at hK
 simp only[List.sum_cons,List.sum_nil] at hK
 obtain rfl:K=k0+Xn t l.length:=by omega
 refine⟨by rw[←d0],a5,c3,c5,by rw[←d0];exact hA⟩
theorem Al.mono{B B' ba b g n c:Nat}{pa:O0}{ca f N k:Nat}{l:Bl}{w:World}(h:Al B' ba b g n c pa ca f N k l w)(hB:B≤B'):Al B ba b g n c pa ca f N k l w:=⟨h.blkA,h.blkI,Zf h.data hB,Zf h.nums hB⟩
theorem AlC.mono{B B' ba n c ca f N:Nat}(h:AlC B' ba n c ca f N)(hB:B≤B'):AlC B ba n c ca f N:=⟨h.hn,h.hc,h.hca,h.hf,Nat.le_trans hB h.hB⟩
theorem row_at{w:World}{base g n c size:Nat}{e:TypeId}{xs:List Value}(h:w.ownsRow base e size (.slice (S1 g) n c) n xs):∃ cur,w.heap[g]? = some (.cells cur e (0,0)):=by
 rcases h.2 with ⟨hv,_⟩|⟨g2,a0,cur,hv,_,hh,_⟩
 ·cases hv
 ·simp only[Value.slice.injEq,Option.some.injEq,Addr.mk.injEq] at hv
  obtain⟨⟨rfl,_,_⟩,_⟩:=hv
  exact⟨cur,hh⟩
theorem Al.ne{B ba b g n c:Nat}{pa:O0}{ca f N k:Nat}{l:Bl}{B2 ba2 b2 g2 n2 c2:Nat}{pa2:O0}{ca2 f2 N2 k2:Nat}{l2:Bl}{w:World}(h:Al B ba b g n c pa ca f N k l w)(h2:Al B2 ba2 b2 g2 n2 c2 pa2 ca2 f2 N2 k2 l2 w):b2≠ba∧b2≠g:=by
 constructor
 ·rintro rfl
  exact absurd (h.blkA.ty h2.blkI) (by decide)
 ·rintro rfl
  obtain⟨a0,hh⟩:=row_at h.data
  have h3:w.heap[b2]? = some (.cells [.slice (S1 g2) n2 c2].toArray 59 (0,0)):=h2.blkI
  rw[hh] at h3
  simp only[Option.some.injEq,Obj.cells.injEq] at h3
  exact absurd h3.2.1 (by decide)
theorem Al.apart{B2 ba2 b2 g2 n2 c2:Nat}{pa2:O0}{ca2 f2 N2 k2:Nat}{l2:Bl}{w W:World}{ba g:Nat}(h:Al B2 ba2 b2 g2 n2 c2 pa2 ca2 f2 N2 k2 l2 w)(hC:AlC B2 ba2 n2 c2 ca2 f2 N2)(h1:ba<B2)(h2:g<B2)(hne:b2≠ba∧b2≠g)(hX:Fr [ba,g] w W):Al B2 ba2 b2 g2 n2 c2 pa2 ca2 f2 N2 k2 l2 W:=by
 have hB:=hC.hB
 refine⟨h.blkA.fr hX (by simp;omega),h.blkI.fr hX (by simp;exact hne),own_fr h.data hX fun k hk=>?_,own_fr h.nums hX fun k hk=>?_⟩
 ·have:=(h.data.lt k hk).1;simp;omega
 ·have:=(h.nums.lt k hk).1;simp;omega
theorem Gz(B ba b g nn cc:Nat)(pa:O0)(ca f N k0:Nat)(bs:Bl)(t:Int)(a:O0)(c:Nat)(l:List Ent)(n:Nat)(w:World)(hl:l.length=n)(hC:AlC B ba nn cc ca f N)(hA:Al B ba b g nn cc pa ca f N k0 bs w)(ht1:1≤t)(ht2:t≤5)(E:EntsOk (Ut t true) l)(hn:n≤32768)(hf1:1≤f)(hkN:k0≤N)(hk:k0+Xn t n≤N)(hin:∀ W,Below B w W→Zd [152,5,32] w W→Sts Kv W (.slice a l.length c) l)(hBw:B≤w.heap.size) :
 C0 118 #[P0 ba,V0 t,.slice a n c] w (Zeq B ba b g nn cc pa ca f N k0 bs t l w):=by
 subst hl;exact Zho B ba b g nn cc pa ca f N k0 bs t a c l w hC hA ht1 ht2 E hn hf1 hkN hk hin hBw
theorem Pb{t:Int}{l:List Ent}{q:Nat}{bs:Bl}(hq:1≤q):(Xx t l q bs).1=((q+Xn t l.length-1:Nat):Int):=by
 have hp:=Vd l.length (Yz t true)
 have hg:=Mf (ovN l.length (Yz t true))
 unfold Xx
 rw[Zcw (by rw[Xp];exact hp) (by rw[Xp,Wq (by omega)];simp only[upX];congr 1;omega) (by omega),Xp]
 unfold Xn Gv
 congr 1;omega
abbrev Hv:=Int×List Ent
def Lx(x:Hv):Prop:=1≤x.1∧x.1≤5∧EntsOk (Ut x.1 true) x.2∧x.2.length≤32768
def Mc(x:Hv):Nat:=Xn x.1 x.2.length
def Xm:List Hv→Nat
 | []=>0
 | x::r=>Mc x+Xm r
def Ao:List Hv→Nat→Bl→Bl
 | [],_,bs=>bs
 | x::r,q,bs=>Ao r (q+Mc x) (Xx x.1 x.2 q bs).2
theorem Ep(a b:List Hv):Xm (a++b)=Xm a+Xm b:=by
 induction a with
 | nil=>simp[Xm]
 | cons x a ih=>simp only[List.cons_append,Xm,ih];omega
theorem Zdk(a b:List Hv):∀ (q:Nat) (bs:Bl),Ao (a++b) q bs=Ao b (q+Xm a) (Ao a q bs):=by
 induction a with
 | nil=>intro q bs;simp[Ao,Xm]
 | cons x a ih =>
  intro q bs
  simp only[List.cons_append,Ao,Xm,ih]
  rw[show q+Mc x+Xm a=q+(Mc x+Xm a) by omega]
theorem Za1(L:List Dv)(i:Nat):Up (L.take i)≤Up L:=by
 conv=>rhs;rw[←List.take_append_drop i L]
 unfold Up
 rw[List.map_append,List.sum_append];omega
theorem gd_mem{α:Type}{l:List α}{k:Nat}(d:α)(h:k<l.length):l.getD k d∈l:=by
 rw[show l.getD k d=l[k] from by simp[List.getD,h]];exact List.getElem_mem _
def Mk(L:List Dv):List Hv:=L.map fun d=>(2,Ma d.2)
def Zb0(L:List Dv)(i:Nat):Nat:=Xm (Mk (L.take (i+1)))
theorem Fg(a b:List Dv):Mk (a++b)=Mk a++Mk b:=List.map_append ..
theorem Zam{L:List Dv}{i:Nat}(h:i<L.length):Mk (L.take (i+1))=Mk (L.take i)++[(2,Ma (L.getD i dvD).2)]:=by
 rw[List.take_succ_eq_append_getElem h,Fg]
 simp[Mk,List.getD,h]
theorem le_sum_mem{l:List Nat}{a:Nat}(h:a∈l):a≤l.sum:=by
 induction l with
 | nil=>cases h
 | cons b l ih =>
  rw[List.sum_cons]
  rcases List.mem_cons.1 h with rfl|h
  ·omega
  ·have:=ih h;omega
theorem devT_ok{data:Int}{L:List Dv}(h:DevsOk data L):∀ x∈Mk L,Lx x:=by
 intro x hx
 obtain⟨d,hd,rfl⟩:=List.mem_map.1 hx
 have hs:d.2.length≤Up L:=by
  unfold Up
  exact le_sum_mem (List.mem_map.2 ⟨d,hd,rfl⟩)
 have:=h.sum
 exact⟨show(1:Int)≤2 by decide,show(2:Int)≤5 by decide,mapEs_ok (h.each d hd).maps,by rw[Kq];omega⟩
theorem forN_one(x:Hv):Xm [x]=Mc x:=by show Mc x+0=_;omega
theorem Kt(F:List Hv)(x:Hv):Xm (F++[x])=Xm F+Mc x:=by rw[Ep,forN_one]
theorem forB_snoc(F:List Hv)(x:Hv)(q:Nat)(bs:Bl):Ao (F++[x]) q bs=(Xx x.1 x.2 (q+Xm F) (Ao F q bs)).2:=by rw[Zdk];rfl
theorem Mz(x:Hv):1≤Mc x:=Ua _ _
def AlF (B ba b g nn cc:Nat)(pa:O0)(ca N:Nat)(bs:Bl)(F:List Hv)(w:World):Prop:=Al B ba b g nn cc pa ca 1 N (Xm F) (Ao F 1 bs) w
theorem AlF.below{B ba b g nn cc:Nat}{pa:O0}{ca N:Nat}{bs:Bl}{F:List Hv}{w W:World}(h:AlF B ba b g nn cc pa ca N bs F w)(hb:B3 w W):AlF B ba b g nn cc pa ca N bs F W:=Al.below h hb
theorem AlF.only{B ba b g nn cc:Nat}{pa:O0}{ca N:Nat}{bs:Bl}{F:List Hv}{w W:World}{T:List TypeId}(h:AlF B ba b g nn cc pa ca N bs F w)(hO:Zd T w W)(hT:(T.contains 152||(T.contains 59||(T.contains 5||T.contains 3)))=false):AlF B ba b g nn cc pa ca N bs F W:=by
 simp only[Bool.or_eq_false_iff] at hT
 exact⟨h.blkA.only hO hT.1,h.blkI.only hO hT.2.1,Zi h.data hO hT.2.2.1,Zi h.nums hO hT.2.2.2⟩
theorem build_F(B ba b g nn cc:Nat)(pa:O0)(ca N:Nat)(bs:Bl)(F:List Hv)(t:Int)(a:O0)(c n:Nat)(l:List Ent)(w:World)(hl:l.length=n)(hC:AlC B ba nn cc ca 1 N)(hA:AlF B ba b g nn cc pa ca N bs F w)(hok:Lx (t,l))(hr:Xm (F++[(t,l)])≤N)
 (hin:∀ W,Below B w W→Zd [152,5,32] w W→Sl W (.slice a n c) n (l.flatMap Kv)) (hBw:B≤w.heap.size) :
 C0 118 #[P0 ba,V0 t,.slice a n c] w (fun e w'=>e=.returned (.tuple #[V0 (Xm (F++[(t,l)]):Int),.nilIface])∧Below B w w'∧Zd [152,5,32] w w'∧Fr [ba,g] w w'∧AlF B ba b g nn cc pa ca N bs (F++[(t,l)]) w'):=by
 subst hl
 have hn:=Mz (t,l)
 rw[Kt] at hr
 refine(Gz B ba b g nn cc pa ca 1 N (Xm F) (Ao F 1 bs) t a c l l.length w rfl hC hA hok.1 hok.2.1 hok.2.2.1 (Nat.le_trans hok.2.2.2 (by decide)) (Nat.le_refl _) (by omega) hr hin hBw).mono ?_
 rintro e w' ⟨rfl,hb,hO,hX,a1⟩
 have a0:(Xx t l (1+Xm F) (Ao F 1 bs)).1=((Xm (F++[(t,l)]):Nat):Int):=by
  rw[Pb (by omega),Kt]
  show((1+Xm F+Mc (t,l)-1:Nat):Int)=_
  omega
 refine⟨by rw[a0],hb,hO,hX,?_⟩
 unfold AlF
 rw[Kt,forB_snoc]
 exact a1
theorem top_ok{data:Int}{L:List Dv}{R:Nat→Nat}(h:DevsOk data L):Lx (1,Bd L R):=by
 have:=h.few
 exact⟨show(1:Int)≤1 by decide,show(1:Int)≤5 by decide,topEs_ok h,by rw[Kl];omega⟩
theorem det_ok{data:Int}{L:List Dv}{C:Nat→Int}(h:DevsOk data L):Lx (3,Bz L C):=by
 have:=h.few
 exact⟨show(1:Int)≤3 by decide,show(3:Int)≤5 by decide,detEs_ok h,by rw[Kk];omega⟩
theorem Zco{E:List Ent}{i:Nat}(h:i<E.length){x:Ent}(hx:E.getD i Vk=x):(E.take i).flatMap Kv++Kv x=(E.take (i+1)).flatMap Kv:=by
 subst hx
 rw[List.take_succ_eq_append_getElem h,List.flatMap_append]
 simp[List.getD,h]
theorem rootR_pos{L:List Dv}{i:Nat}(h:i<L.length):1≤Xm (Mk (L.take (i+1))):=by
 rw[Zam h,Kt]
 have:=Mz (2,Ma (L.getD i dvD).2);omega
theorem Zgr{data:Int}{L:List Dv}(hD:DevsOk data L){i:Nat}(h:i<L.length):Lx (2,Ma (L.getD i dvD).2):=devT_ok hD _ (List.mem_map.2 ⟨L.getD i dvD,by simp[List.getD,h],rfl⟩)
theorem Zfu{L:List Dv}{i:Nat}(h:i<L.length):(L.getD i dvD).2.length≤Up L:=by
 have a:=Za1 L (i+1)
 have e:Up (L.take (i+1))=Up (L.take i)+(L.getD i dvD).2.length:=by
  unfold Up
  rw[List.take_succ_eq_append_getElem h,List.map_append,List.sum_append]
  simp[List.getD,h]
 omega
def Lb(L:List Dv):Nat→Int:=fun i=>((L.getD i dvD).2.length:Int)
def F1 (L:List Dv):List Hv:=Mk L++[(1,Bd L (Zb0 L))]
def F2 (L:List Dv):List Hv:=F1 L++[(3,Bz L (Lb L))]
def Jf:Nat→List Dv→List (Nat×Mp)
 | _,[]=>[]
 | i,d::r=>d.2.map (fun m=>(i,m))++Jf (i+1) r
theorem En(L:List Dv):∀ i,(Jf i L).length=Up L:=by
 induction L with
 | nil=>intro i;rfl
 | cons d r ih=>intro i;rw[Jf,List.length_append,List.length_map,ih];rfl
theorem Zf1(L:List Dv):∀ (b i:Nat),i≤L.length→(Jf b L).drop (Up (L.take i))=Jf (b+i) (L.drop i):=by
 induction L with
 | nil =>
  intro b i hi;obtain rfl:i=0:=by simpa using hi
  rfl
 | cons d r ih =>
   intro b i hi
   cases i with
   | zero=>rfl
   | succ i =>
    have e:Up ((d::r).take (i+1))=d.2.length+Up (r.take i):=rfl
    rw[e,Jf,List.drop_append,List.length_map,show d.2.length+Up (r.take i)-d.2.length=Up (r.take i) by omega,List.drop_eq_nil_of_le (by rw[List.length_map];omega),List.nil_append,ih (b+1) i (by simpa using hi)]
    rw[show b+1+i=b+(i+1) by omega];rfl
theorem mapsR_at{L:List Dv}{i j:Nat}(hi:i<L.length)(hj:j<(L.getD i dvD).2.length):(Jf 0 L)[Up (L.take i)+j]? = some (i,(L.getD i dvD).2.getD j (0,0,0)):=by
 have h:=Zf1 L 0 i (by omega)
 rw[←List.getElem?_drop,h,List.drop_eq_getElem_cons hi,Jf,Nat.zero_add]
 have e:L.getD i dvD=L[i]:=by simp[List.getD,hi]
 rw[e] at hj ⊢
 rw[List.getElem?_append_left (by rw[List.length_map];exact hj),List.getElem?_map,List.getElem?_eq_getElem hj]
 simp[List.getD,hj]
def Di(cs:List Nat)(R:List (Nat×Mp)):List Nat:=R.foldl (fun c x=>Zea c x.2.2.1) cs
def Jc(data:Nat)(L:List Dv):List Nat:=Di (List.replicate data 0) (Jf 0 L)
theorem Zbk(R:List (Nat×Mp)):∀ cs,(Di cs R).length=cs.length:=by
 induction R with
 | nil=>intro cs;rfl
 | cons x r ih=>intro cs;show(Di (Zea cs x.2.2.1) r).length=_;rw[ih,Af]
theorem Vq(data:Nat)(L:List Dv):(Jc data L).length=data:=by unfold Jc;rw[Zbk,List.length_replicate]
theorem refsF_take(cs:List Nat)(R:List (Nat×Mp)){k:Nat}{x:Nat×Mp}(h:R[k]? = some x):Di cs (R.take (k+1))=Zea (Di cs (R.take k)) x.2.2.1:=by
 have hk:k<R.length:=by
  rcases Nat.lt_or_ge k R.length with q|q
  ·exact q
  ·rw[List.getElem?_eq_none q] at h;cases h
 rw[List.getElem?_eq_getElem hk,Option.some.injEq] at h
 unfold Di
 rw[List.take_succ_eq_append_getElem hk,List.foldl_append,h];rfl
theorem Zbg{data:Int}:∀ (L:List Dv),(∀ d∈L,DevOk data d)→∀ (b:Nat),∀ x∈Jf b L,0≤x.2.2.1∧x.2.2.1<data
 | [],_,_,x,hx=>by cases hx
 | d::r,he,b,x,hx=>by
  rw[Jf] at hx
  rcases List.mem_append.1 hx with hx|hx
  ·obtain⟨m,hm,rfl⟩:=List.mem_map.1 hx
   exact((he d (List.mem_cons_self ..)).maps.each m hm).2.1
  ·exact Zbg r (fun y hy=>he y (List.mem_cons_of_mem _ hy)) (b+1) x hx
theorem Ze5{data:Int}{L:List Dv}(h:DevsOk data L)(b:Nat):∀ x∈Jf b L,0≤x.2.2.1∧x.2.2.1<data:=Zbg L h.each b
theorem Zbr{data:Nat}(R:List (Nat×Mp))(h:∀ x∈R,0≤x.2.2.1∧x.2.2.1<(data:Int)):∀ cs,cs.length=data→(Di cs R).sum=cs.sum+R.length:=by
 induction R with
 | nil=>intro cs _;rfl
 | cons x r ih =>
  intro cs hc
  have hx:=h x (List.mem_cons_self ..)
  show(Di (Zea cs x.2.2.1) r).sum=_
  rw[ih (fun y hy=>h y (List.mem_cons_of_mem _ hy)) _ (by rw[Af];exact hc),bump_sum hx.1 (by omega),List.length_cons];omega
theorem Za8{data:Nat}{L:List Dv}(h:DevsOk (data:Int) L):(Jc data L).sum=Up L:=by
 unfold Jc
 rw[Zbr _ (Ze5 h 0) _ List.length_replicate,List.sum_replicate_nat,En];omega
theorem Rj(l:List Nat)(i:Nat):l.getD i 0≤l.sum:=by
 induction l generalizing i with
 | nil=>simp[List.getD]
 | cons a l ih =>
  cases i with
  | zero=>simp[List.getD]
  | succ i=>have:=ih i;simp only[List.getD_cons_succ,List.sum_cons];omega
def Ye(data:Nat)(L:List Dv):List Int:=(Jc data L).map fun n:Nat=>(n:Int)
theorem Yq(data:Nat)(L:List Dv):(Ye data L).length=data:=by unfold Ye;rw[List.length_map,Vq]
theorem Rk(data:Nat)(L:List Dv)(i:Nat):(Ye data L).getD i 0=((Jc data L).getD i 0:Nat):=by
 unfold Ye
 simp only[List.getD,List.getElem?_map]
 cases (Jc data L)[i]? <;> rfl
theorem Np{data:Nat}{L:List Dv}(hd:data≤65536)(h:DevsOk (data:Int) L):Ku (Ye data L)=0:=by
 unfold Ku
 rw[Yq,if_neg (by omega),if_pos]
 intro k hk
 rw[Rk]
 have a:=Rj (Jc data L) k
 rw[Za8 h] at a
 have b:=h.sum
 unfold Wl;omega
def Ok(cs:List Nat)(k:Nat):Nat:=((cs.take k).filter fun n=>decide (3≤n)).length
theorem Li{cs:List Nat}{k:Nat}(h:k<cs.length):Ok cs (k+1)=Ok cs k+if 3≤cs.getD k 0 then 1 else 0:=by
 unfold Ok
 rw[List.take_succ_eq_append_getElem h,List.filter_append,List.length_append,show cs.getD k 0=cs[k] from by simp[List.getD,h]]
 congr 1
 by_cases q:3≤cs[k]<;>simp[q]
theorem Zfn(cs:List Nat):∀ k,k≤cs.length→3*Ok cs k≤(cs.take k).sum
 | 0,_=>by simp[Ok]
 | k+1,h=>by
  have ih:=Zfn cs k (by omega)
  rw[Li (by omega),List.take_succ_eq_append_getElem (by omega),List.sum_append]
  have e:cs.getD k 0=cs[k]:=by simp[List.getD,show k<cs.length by omega]
  rw[e]
  simp only[List.sum_cons,List.sum_nil,Nat.add_zero]
  split<;>omega
theorem Zfe(data:Nat)(L:List Dv):∀ k,k≤data→(Zu (Ye data L) k).length=Ok (Jc data L) k
 | 0,_=>by simp[Zu,Ok]
 | k+1,h=>by
  have ih:=Zfe data L k (by omega)
  rw[Li (by rw[Vq];omega),←ih]
  by_cases q:3≤(Ye data L).getD k 0
  ·rw[Ws q,List.length_append,if_pos (by rw[Rk] at q;omega)];rfl
  ·rw[Pr q,if_neg (by rw[Rk] at q;omega),Nat.add_zero]
def oftL(data:Nat)(L:List Dv):Nat:=Ok (Jc data L) data
theorem Mr(data:Nat)(L:List Dv):(Zu (Ye data L) (Ye data L).length).length=oftL data L:=by rw[Yq];exact Zfe data L data (Nat.le_refl _)
theorem Mm{data:Nat}{L:List Dv}(h:DevsOk (data:Int) L):oftL data L≤5462:=by
 have a:=Zfn (Jc data L) data (by rw[Vq];exact Nat.le_refl _)
 rw[List.take_of_length_le (by rw[Vq];exact Nat.le_refl _),Za8 h] at a
 have:=h.sum
 unfold oftL;omega
def Bq(L:List Dv):Nat:=(L.map fun d=>Xn 2 d.2.length).sum
def Cc(data:Nat)(L:List Dv):Nat:=1+Xn 3 L.length+Xn 1 L.length+Bq L+bmN data+Xn 4 (bmN data)+Xn 5 (oftL data L)
theorem Zgm(L:List Dv):Xm (Mk L)=Bq L:=by
 induction L with
 | nil=>rfl
 | cons d r ih =>
  have e:Xm (Mk (d::r))=Xn 2 (Ma d.2).length+Xm (Mk r):=rfl
  have e2:Bq (d::r)=Xn 2 d.2.length+Bq r:=rfl
  rw[e,e2,ih,Kq]
def Zdq(m:Nat):Nat:=m+(m-1)/959+1
def Pw(data:Nat)(L:List Dv):Nat:=Zdq (Cc data L+2)
theorem Zez{L:List Dv}:Bq L≤2*Up L+2*L.length:=by
 induction L with
 | nil=>exact Nat.zero_le _
 | cons d r ih =>
  have e2:Bq (d::r)=Xn 2 d.2.length+Bq r:=rfl
  have e3:Up (d::r)=d.2.length+Up r:=rfl
  have:=Js 2 d.2.length
  rw[e2,e3,List.length_cons];omega
theorem Zex{data:Nat}{L:List Dv}(hd:data≤65536)(h:DevsOk (data:Int) L):1≤Cc data L∧Cc data L≤100000:=by
 have a:=Js 3 L.length
 have b:=Js 1 L.length
 have c:=@Zez L
 have d:=Js 4 (bmN data)
 have e:=Js 5 (oftL data L)
 have f:=Mm h
 have g:=h.few
 have i:=h.sum
 have j:bmN data≤69:=by unfold bmN;omega
 unfold Cc;omega
theorem need_room{m n:Nat}(h:Zdq m≤n):m+bmN n≤n:=by unfold Zdq at h;unfold bmN;omega
end Go.Proofs.YtceeiinepijokaaGreat
namespace Go.Proofs.YtceeiinepijokaaGreat
set_option maxHeartbeats 8000000
set_option maxRecDepth 100000
open Go.RowKit
set_option linter.unusedVariables false
attribute [local go_sem] Oper.semAt_some
theorem Sl.to{w W:World}{v:Value}{n:Nat}{xs:List Value}(h:Sl w v n xs)(hk:∀ a x,w.cell? a=some x→W.cell? a=some x):Sl W v n xs:=by
 rcases h with h|⟨b,a0,a1,h1,h2,h3,h4⟩
 ·exact .inl h
 ·exact .inr ⟨b,a0,a1,h1,h2,h3,fun j x hj=>hk _ _ (h4 j x hj)⟩
theorem DevsR.to{w W:World}{p:O0}{c:Nat}{Z:List Zv}(h:DevsR w p c Z)(hk:∀ a x,w.cell? a=some x→W.cell? a=some x):DevsR W p c Z:=⟨Sl.to h.row hk,fun i hi=>Sl.to (h.each i hi) hk⟩
def encM(x:Nat×Mp):Array Value:=#[V0 (x.1:Int),.agg #[V0 x.2.1,V0 x.2.2.1,V0 x.2.2.2]]
theorem Et{q:Nat→Prop}{W V:World}(h:Keeps q W V)(hq:∀ b,q b→b<W.heap.size)(o:Obj):Keeps q W (V.alloc o):=by
 have hb:=(Below.refl V.heap.size V).alloc (Nat.le_refl _) o
 exact⟨Nat.le_trans h.size hb.size,fun b a0=>(hb.block b (Nat.lt_of_lt_of_le (hq b a0) h.size)).trans (h.block b a0)⟩
theorem sl_lit{α:Type}{f:α→List Value}{w:World}{p:O0}{n c:Nat}{l:List α}(h:Sl w (.slice p n c) n (l.flatMap f))(hn:0<n):∃ pb po,p=some ⟨pb,po,none⟩∧∀ j x,(l.flatMap f)[j]? = some x→w.cell? ⟨pb,po+j,none⟩=some x:=by
 rcases h with ⟨a,cc,h1,h2,_⟩|⟨pb,po,a0,h1,_,_,h4⟩
 ·omega
 ·simp only[Value.slice.injEq] at h1
  exact⟨pb,po,h1.1,h4⟩
theorem maps1_in(l B1:Nat)(pp:O0)(n c:Nat)(t u v x:Int)(Z:List Zv)(w:World)(hZ:Z.length=n)(hP:DevsR w pp c Z)(hn:n≤1000000000)(q:Nat→Prop)(hq:∀ b,b<w.heap.size→q b)(J Jx:Nat→World→Prop)(hJ:∀ k A B,J k A→Below A.heap.size A B→J k B)
 (hY:∀ k x V,(Jf 0 (Z.map Prod.fst))[k]? = some x→J k V→YieldAt Fence.wide 2 Tryz.prog l (encM x) V fun e U =>
 (e=.returned (.bool true)∧J (k+1) U∧Keeps q V U)∨(e=.returned (.bool false)∧Jx k U))
 (W:World) (hW:B3 w W) (hqlt:∀ b,q b→b<W.heap.size) (hk1:Blk W B1 [V0 t,V0 u,V0 v,V0 x,.slice pp n c] 28) (h0:J 0 W) :
 CallsIn Fence.wide 3 Tryz.prog 192 #[.func (.yield l) #[] #[],P0 B1] W fun e U=>(∃ v,e=.returned v)∧(J (Jf 0 (Z.map Prod.fst)).length U∨∃ k,k<(Jf 0 (Z.map Prod.fst)).length∧Jx k U):=by
 refine callsIn_of_wp Tryz.func192 rfl trivial ?_ rfl
 simp only[Tryz.ntmps192,List.size_toArray,List.length_cons,List.length_nil,Nat.reduceAdd,Nat.reduceSub,Array.replicate_succ,Array.replicate_zero,List.push_toArray,List.append_toArray,List.nil_append,List.cons_append]
 have z4:=hk1.cell (i:=4) rfl
 have c5:(Z.map Prod.fst).length=n:=by rw[List.length_map];exact hZ
 gi_wp2
 gi_loopw [10] (fun i wr=>∃ k:Nat,k≤n∧i=V0 (k:Int)∧J (Up ((Z.map Prod.fst).take k)) wr∧Keeps q W wr)
  (fun i _=>(n-(intOf i)).toNat)
 case atStart=>exact⟨0,Nat.zero_le _,rfl,h0,Keeps.refl _ _⟩
 case round =>
  obtain⟨k,hk,rfl,a0,b2⟩:=hrel
  by_cases hlt:k<n
  ·have b4:∀ {V:World},Keeps q W V→DevsR V pp c Z:=fun hV=>hP.to (fun a x ha=>(hV.cell (a:=a) (hq _ (ltC ha))).trans (getC hW ha))
   have b1:=b4 b2
   have a1:Sl wr (.slice pp n c) n (Z.flatMap devZ):=b1.rowN hZ
   obtain⟨pb,po,c2,hc⟩:=sl_lit a1 (by omega)
   have gz:∀ i x,i<5→(devZ (Z.getD k zvD))[i]? = some x→wr.cell? ⟨pb,po+k*5+i,none⟩=some x:=fun i x hi hx=>by
    rw[Nat.add_assoc]
    exact hc _ _ ((Ds Pt Z k i zvD (by omega) hi).trans hx)
   have a2:=fun j hj=>mapsR_at (L:=Z.map Prod.fst) (i:=k) (j:=j) (by omega) hj
   rw[zfst (by omega)] at a2
   have a8:=Sk (Z:=Z) (i:=k) (by omega)
   have a9:=fun {V:World} (hV:Keeps q W V)=>(b4 hV).each k (by omega)
   obtain⟨⟨⟨⟨i0,i1,i2,i3⟩,M⟩,mp,mc⟩,hz⟩:∃ z,Z.getD k zvD=z:=⟨_,rfl⟩
   rw[hz] at gz a2 a8
   simp only[hz] at a9
   have z5:=gz 0 _ (by decide) rfl
   have z6:=gz 1 _ (by decide) rfl
   have z7:=gz 2 _ (by decide) rfl
   have z8:=gz 3 _ (by decide) rfl
   have z9:=gz 4 _ (by decide) rfl
   rw[Nat.add_zero] at z5
   clear gz hc hz a1 b1
   subst c2
   obtain⟨S,hS⟩:∃ S,Up ((Z.map Prod.fst).take k)=S:=⟨_,rfl⟩
   rw[hS] at a0 a2 a8
   gi_wp2
   gi_loopw [18] (fun j b6=>∃ m:Nat,m≤M.length∧j=V0 (m:Int)∧J (S+m) b6∧Keeps q W b6)
    (fun j _=>(M.length-(intOf j)).toNat)
   case atStart=>exact⟨0,Nat.zero_le _,rfl,hJ _ _ _ a0 ((Below.refl _ wr).alloc (Nat.le_refl _) _),Et b2 hqlt _⟩
   case round =>
    obtain⟨m,hm,rfl,b0,a4⟩:=hrel
    have hM:=a9 a4
    have c6:M.length≤9223372036854775807:=Sl.len hM
    by_cases hmt:m<M.length
    ·have b3:Sl wr (.slice mp M.length mc) M.length (M.flatMap mapC):=hM
     obtain⟨mb,mo,c4,b5⟩:=sl_lit b3 (by omega)
     have gm:∀ i x,i<3→(mapC (M.getD m (0,0,0)))[i]? = some x→wr.cell? ⟨mb,mo+m*3+i,none⟩=some x:=fun i x hi hx=>by
      rw[Nat.add_assoc]
      exact b5 _ _ ((Ds Pg M m i (0,0,0) hmt hi).trans hx)
     have hx:=a2 m hmt
     obtain⟨⟨m1,m2,m3⟩,a7⟩:∃ y,M.getD m (0,0,0)=y:=⟨_,rfl⟩
     rw[a7] at gm
     have a3:(Jf 0 (Z.map Prod.fst))[S+m]? = some (k,(m1,m2,m3)):=by rw[hx];exact congrArg (fun y=>some (k,y)) a7
     have y1:=gm 0 _ (by decide) rfl
     have y2:=gm 1 _ (by decide) rfl
     have y3:=gm 2 _ (by decide) rfl
     rw[Nat.add_zero] at y1
     clear gm b5 b3 hM hx a7
     subst c4
     have c1:=(Below.refl wr.heap.size wr).alloc (Nat.le_refl _) (.cells #[V0 m1,V0 m2,V0 m3] 46)
     obtain⟨fn,c0,a5,c3,hy,hR⟩:=hY _ _ (wr.alloc (.cells #[V0 m1,V0 m2,V0 m3] 46)) a3 (hJ _ _ _ b0 c1)
     have b8:=Et a4 hqlt (.cells #[V0 m1,V0 m2,V0 m3] 46)
     simp only[encM] at hy
     gi_wp2
     refine hR.mono ?_
     rintro e W3 (⟨rfl,b7,b9⟩|⟨rfl,a6⟩)
     ·gi_wp2
      go_roundw
      case rel =>
       refine⟨m+1,by omega,?_,b7,b8.trans b9⟩
       exact congrArg V0 (by omega)
      case measure=>simp only[intOf];omega
     ·gi_wp2
      refine bodyPost_ret (results_none rfl _ _ _) rfl ?_
      refine⟨⟨_,rfl⟩,.inr ⟨_,?_,a6⟩⟩
      rcases Nat.lt_or_ge (S+m) (Jf 0 (Z.map Prod.fst)).length with h|h
      ·exact h
      ·rw[List.getElem?_eq_none h] at a3;cases a3
    ·obtain rfl:m=M.length:=by omega
     gi_wp2
     go_roundw
     case rel =>
      refine⟨k+1,by omega,?_,by rw[a8];exact b0,a4⟩
      exact congrArg V0 (by omega)
     case measure=>simp only[intOf];omega
  ·obtain rfl:k=n:=by omega
   have HJ:=Lib.hid a0;clear a0
   gi_wp2
   go_end0
   have a0:=HJ.out
   rw[List.take_of_length_le (by omega)] at a0
   exact⟨⟨_,rfl⟩,.inl (by rw[En];exact a0)⟩
end Go.Proofs.YtceeiinepijokaaGreat
namespace Go.Proofs.YtceeiinepijokaaGreat
set_option maxHeartbeats 8000000
set_option maxRecDepth 100000
open Go.RowKit Go.Extern.Stop Go.Stop Go.Extern
set_option linter.unusedVariables false
attribute [local irreducible] wpList wpAnyH Code.wp Oper.wp Go
theorem Zcl(cs:List Nat):(cs.map fun c:Nat=>(c:Int)).map V0=cs.map nv:=by simp[nv]
theorem nv_get{cs:List Nat}{k:Nat}(h:k<cs.length):(cs.map nv)[k]? = some (V0 ((cs.getD k 0:Nat):Int)):=by simp[List.getD,h,nv]
theorem nv_bump(cs:List Nat)(k:Nat):(cs.map nv).set k (V0 ((cs.getD k 0+1:Nat):Int))=(Zea cs (k:Int)).map nv:=by
 unfold Zea;rw[Int.toNat_natCast,List.map_set];rfl
theorem bump_get{cs:List Nat}{k:Nat}(h:k<cs.length):(Zea cs (k:Int)).getD k 0=cs.getD k 0+1:=by
 unfold Zea;rw[Int.toNat_natCast];simp[List.getD,h]
theorem Pk{w:World}{pc:O0}{n m:Nat}{cs:List Nat}(h:Sl w (.slice pc n m) n (cs.map nv)){k:Nat}(hk:k<cs.length):pc.isSome=true∧w.cell? (Xd pc (k*1))=some (V0 ((cs.getD k 0:Nat):Int)):=by
 rcases h with ⟨a,c,h1,h2,h3⟩|⟨b,a0,a1,h1,h2,h3,h4⟩
 ·simp only[Value.slice.injEq] at h1
  have:(cs.map nv).length=0:=by rw[h3];rfl
  rw[List.length_map] at this;omega
 ·simp only[Value.slice.injEq] at h1
  obtain⟨rfl,_,_⟩:=h1
  refine⟨rfl,?_⟩
  have:=h4 k _ (nv_get hk)
  simpa [Xd,Addr.add_mid] using this
theorem zerosV(n:Nat):Hs (Value.int .i64 0).cells.toList n=(List.replicate n (0:Nat)).map nv:=by
 rw[show(Value.int .i64 0).cells.toList=[Value.int .i64 0] from rfl,Hs,List.map_replicate]
 induction n with
 | zero=>rfl
 | succ n ih=>rw[List.replicate_succ,List.flatten_cons,ih,List.replicate_succ];rfl
theorem nv_one(cs:List Nat):∀ u∈cs.map nv,u.oneCell'=true:=fun u hu=>by obtain⟨y,_,rfl⟩:=List.mem_map.1 hu;rfl
theorem refs_NewI(n:Nat)(w:World)(h:n≤65536) :
 C0 119 #[V0 (n:Int)] w (Yy (fun w' r=>∃ br g,r=.tuple #[P0 br,V0 0]∧w.heap.size≤br∧Blk w' br [.slice (S1 g) n n] 304∧w'.ownsRow w.heap.size 3 1 (.slice (S1 g) n n) n ((List.replicate n (0:Nat)).map nv)) w):=by
 refine zin 14 Tryz.func119 ?_
 refine xgk 12 [5,6] (show(decide ((n:Int)<(0:Int)):Bool)=false from decide_eq_false (by omega)) ?_
 refine xk 5 (show(decide ((n:Int)>(65536:Int)):Bool)=false from decide_eq_false (by omega)) ?_
 refine xmk 5 fun _ _ _ _ zJ zQ zo zx zy zK=>Ke n (V0 0) 1 8 ((List.replicate n (0:Nat)).map nv) zo zx zy Tryz.underlying35 (by kernel_rfl) rfl (by omega) (by omega) ((zerosV n)) fun b2 W2 n2=>?_
 refine zK _ _ ?_
 refine xa 1 [.slice (S1 b2) n n] 304 fun b3 W3 n3=>?_
 have o2:=Zb (Zz (size:=1) (n:=n) n2.blk (n2.ge (B4 w)) (by rw[List.length_map,List.length_replicate,Nat.mul_one]) (by unfold maxLen;omega)) n3.below
 have hB:=bln n2.below n3.below
 have g3:=n3.ge n2.below
 exact xe 5 (.tuple #[P0 b3,V0 0]) ⟨_,rfl,hB,_,_,rfl,g3,n3.blk,o2⟩
theorem refs_own(br n:Nat)(p:O0)(w:World)(kr:Blk w br [.slice p n n] 304) :
 C0 193 #[P0 br] w (Ret (.slice p n n) w):=by
 refine zin 9 Tryz.func193 ?_
 refine xb 20 0 kr ?_
 exact xe 4 (.slice p n n) ⟨rfl,(B4 w)⟩
theorem refs_List(br g n B0:Nat)(cs:List Nat)(w:World)(kr:Blk w br [.slice (S1 g) n n] 304)(hc:w.ownsRow B0 3 1 (.slice (S1 g) n n) n (cs.map nv))(hn:cs.length=n)(hn2:n≤100000) :
 C0 122 #[P0 br] w (Yy (fun w' r=>∃ q c2,r=.slice q n c2∧w'.ownsRow w.heap.size 3 1 (.slice q n c2) n (cs.map nv)) w):=by
 refine zin 6 Tryz.func122 ?_
 refine xr 8 (args:=#[P0 br]) (refs_own br n _ _ kr) fun W1 a2=>?_
 have a1:=Zb hc a2
 refine xc 0 (args:=#[.slice (S1 g) n n]) (Mu ⟨g,0,none⟩ n n (cs.map nv) _ (Ze a1) (by rw[List.length_map];exact hn) (nv_one _) (by omega)) ?_
 rintro _ W2 ⟨_,rfl,a3,q,c2,rfl,hq⟩
 have a0:=Zf hq a2.size
 have hB:=bln a2 a3
 exact xe 4 (.slice q n c2) ⟨_,rfl,hB,_,_,rfl,a0⟩
theorem refs_AddX(B br g n k:Nat)(cs:List Nat)(w:World)(kr:Blk w br [.slice (S1 g) n n] 304)(hBw:B≤w.heap.size)(hc:w.ownsRow B 3 1 (.slice (S1 g) n n) n (cs.map nv))(hn:cs.length=n)(hk:k<n)(hb:cs.getD k 0≤4000000000000000000) :
 C0 121 #[P0 br,V0 (k:Int)] w ((fun e w'=>e=.returned (.tuple #[V0 ((cs.getD k 0+1:Nat):Int),V0 0])∧Below B w w'∧Zd [3] w w'∧Fr [g] w w'∧w'.ownsRow B 3 1 (.slice (S1 g) n n) n ((Zea cs (k:Int)).map nv))):=by
 have a3:=Af cs (k:Int)
 refine zin 37 Tryz.func121 ?_
 refine xg 21 [11,12] (decide ((k:Int)<(0:Int))) (fun a0=>?_) (fun a0=>?_)
 ·have a0:=of_decide_eq_true a0
  exact xe 21 (.tuple #[V0 0,V0 3]) (by exfalso;omega)
 have a0:=of_decide_eq_false a0
 refine xb 4 0 kr ?_
 refine xid 6 ((k:Int)≥(n:Int)) (fun a2=>?_) (fun a2=>?_)
 ·exact xe 9 (.tuple #[V0 0,V0 3]) (by exfalso;omega)
 refine xb 8 0 kr ?_
 refine xx 1 _ n k 1 (Pk (Ze hc) (k:=k) (by omega)).1 ?_
 refine xl 0 ((Pk (Ze hc) (k:=k) (by omega)).2) ?_
 refine xwm 0 ((↑(cs.getD k 0):Int)+1) (↑((cs.getD k 0)+1):Int) ?_
 refine xx 0 _ n k 1 (Pk (Ze hc) (k:=k) (by omega)).1 ?_
 refine xst 0 fun _ _ _ _ zJ zQ zo zx zy zK=>Vx (t:=3) (k:=k) (v:=V0 (↑((cs.getD k 0)+1):Int)) zo zx zy (by kernel_rfl) rfl hc (by omega) fun W3 u3 o3=>?_
 rw[nv_bump cs k] at o3
 refine zK _ _ ?_
 have a1:=u3.blk kr (Cb kr hc (by decide))
 refine xb 7 0 a1 ?_
 refine xx 1 _ n k 1 (Pk (Ze o3) (k:=k) (by omega)).1 ?_
 refine xl 0 ((Pk (Ze o3) (k:=k) (by omega)).2) ?_
 have hB:=u3.below (Below.refl B w) (Nk hc)
 have hO:=(show Zd [3] w _ from(Zd.of_updRow u3 hc (by decide)))
 have hX:=(show Fr [g] w _ from(Fr.of_upd u3 (by simp)))
 exact xe 5 (.tuple #[V0 (↑((Zea cs (k:Int)).getD k 0):Int),V0 0]) ⟨by rw[bump_get (by omega)],hB,hO,hX,o3⟩
end Go.Proofs.YtceeiinepijokaaGreat
namespace Go.Proofs.YtceeiinepijokaaGreat
set_option maxHeartbeats 8000000
set_option maxRecDepth 100000
open Go.RowKit
set_option linter.unusedVariables false
theorem Zdo{P:Program}{l n:Nat}{ops:Array Oper}{Q:Exit→Act→World→Prop}(hQ:¬ LetsOut Q):∀ (r:List Oper) (a:Act) (w:World),(∀ o∈r,∀ c,o.op≠.defer c)→wpList P ops Q r a w→wpListIn (Fence.wide.inRound l) n P ops Q r a w
 | [],_,_,_,h=>h
 | o::r,a,w,hd,h=>by
  unfold wpList at h
  unfold wpListIn
  split at h
  ·rename_i hw
   rw[if_pos hw]
   exact Oper.wpIn_mono (fun a w=>Zdo hQ r a w (fun o ho=>hd o (by simp[ho]))) (oper_in (hd o (by simp)) (h.resolve_right fun q=>hQ q.2))
  ·rename_i hw
   rw[if_neg hw]
   exact⟨fun _ _=>trivial,Zdo hQ r _ _ (fun o ho=>hd o (by simp[ho])) h⟩
theorem reg_in{P:Program}{l0 n0 id:Nat}{l:List Oper}{Q:Exit→Act→World→Prop}{a:Act}{w:World}(hQ:¬ LetsOut Q)(hd:∀ o∈l,∀ c,o.op≠.defer c)(h:wpList P l.toArray Q l a w):(Code.region id l.toArray false).wpIn (Fence.wide.inRound l0) n0 P Q a w :=
 wpIn_region_lit (Zdo hQ l a w hd h)
def Turns(q:Nat→Prop)(n:Nat)(A:World)(row:Option Nat):Prop:=∀ r,row=some r→q r∨n≤r∧∃ o:Obj,A.heap[r]? = some o∧o.isCells=false
theorem below_ab{n m:Nat}{q:Nat→Prop}{w A B:World}{row:Option Nat}(h:Below n w A)(hg:A.grownBy B row)(hr:Turns q m A row)(hn:n≤w.heap.size)(hm:n≤m)(hq:∀ r,q r→n≤r):Below n w B :=
 h.grown hg (Nat.le_trans hn h.size) (fun r e=>by rcases hr r e with h1|h1;exact hq _ h1;omega)
theorem own_ab{q:Nat→Prop}{A B:World}{row:Option Nat}{base size n m:Nat}{e:TypeId}{v:Value}{xs:List Value}(k:A.ownsRow base e size v n xs)(hg:A.grownBy B row)(hr:Turns q m A row)(hq:∀ r,q r→r<base):B.ownsRow base e size v n xs:=by
 obtain⟨h1,h2⟩:=k
 refine⟨h1,?_⟩
 rcases h2 with h2|⟨g,a0,a1,hv,hb,hh,r⟩
 ·exact Or.inl h2
 ·refine Or.inr ⟨g,a0,a1,hv,hb,?_,r⟩
  rw[hg.block g (Array.getElem?_eq_some_iff.1 hh).1 (fun q=>by
   rcases hr g q.symm with h3|⟨_,o,ho,hc⟩
   ·have:=hq _ h3;omega
   ·rw[hh] at ho
    cases ho
    cases hc)]
  exact hh
theorem blk_ab{q:Nat→Prop}{A B:World}{row:Option Nat}{b m:Nat}{cs:List Value}{t:TypeId}(k:Blk A b cs t)(hg:A.grownBy B row)(hr:Turns q m A row)(hq:∀ r,q r→b≠r):Blk B b cs t :=
 k.kept hg (fun e'=>by
  rcases hr b e'.symm with h3|⟨_,o,ho,hc⟩
  ·exact hq _ h3 rfl
  ·rw[show A.heap[b]? = _ from k] at ho;cases ho;cases hc)
theorem zi_fr{F:Fence}{n:Nat}{P:Program}{c:Code}{Q:Exit→Act→World→Prop}{a:Act}{w:World}(a':Act)(h:a=a')(k:c.wpIn F n P Q a' w):c.wpIn F n P Q a w:=h▸k
theorem Dfr.put{D D2:Nat}{w:World}(h:Dfr D w)(hne:D≠D2)(o:Obj):Dfr D (w.putObj D2 o):=(World.putObj_heap_other hne).trans h
end Go.Proofs.YtceeiinepijokaaGreat
namespace Go.Proofs.YtceeiinepijokaaGreat
set_option maxHeartbeats 8000000
set_option maxRecDepth 100000
open Go.RowKit Go.Extern.Stop Go.Stop Go.Extern
set_option linter.unusedVariables false
attribute [local irreducible] wpList wpAnyH Code.wp Oper.wp Go
theorem maps_seq(B1:Nat)(p:O0)(n c:Nat)(t u v x:Int)(Z:List Zv)(w w0:World)(hZ:Z.length=n)(hP:DevsR w p c Z)(hn:n≤1000000000)(hW:B3 w w0)(q:Nat→Prop)(hq:∀ b,b<w.heap.size→q b)(hqlt:∀ b,q b→b<w0.heap.size)(hk1:Blk w0 B1 [V0 t,V0 u,V0 v,V0 x,.slice p n c] 28) :
  SeqB Tryz.prog 192 #[P0 B1] encM (Keeps q) (Jf 0 (Z.map Prod.fst)) w0:=fun l J Jx W hw hJ hY h0 =>
 maps1_in l B1 p n c t u v x Z w hZ hP hn q hq J Jx hJ hY W (bln hW hw) (fun b hb=>Nat.lt_of_lt_of_le (hqlt b hb) hw.size) (hk1.below hw) h0
theorem frg_ko{g:Nat}{W V:World}{cs:List Value}{t:TypeId}(h:Fr [g] W V)(k:Blk W g cs t):KeepsOthers W V:=⟨h.size,fun i o hi ho=>(h.block i (Array.getElem?_eq_some_iff.1 hi).1 (by
 simp only[List.mem_singleton]
 rintro rfl
 rw[show W.heap[i]? = _ from k] at hi
 cases hi;cases ho)).trans hi⟩
theorem frg_keeps{p:Nat→Prop}{g:Nat}{W V:World}(h:Fr [g] W V)(hp:∀ b,p b→b<W.heap.size)(hg:¬ p g):Keeps p W V:=⟨h.size,fun b hb=>h.block b (hp b hb) (by simp only[List.mem_singleton];rintro rfl;exact hg hb)⟩
theorem pool_maps(t u v x:Int)(p:O0)(n c:Nat)(w:World) :
 C0 120 #[.agg #[V0 t,V0 u,V0 v,V0 x,.slice p n c]] w (Yy (fun w' r=>∃ b,r=.func (.func 192) #[] #[P0 b]∧w.heap.size≤b∧Blk w' b [V0 t,V0 u,V0 v,V0 x,.slice p n c] 28) w):=by
 refine zin 4 Tryz.func120 ?_
 refine xa 2 [V0 t,V0 u,V0 v,V0 x,.slice p n c] 28 fun b1 W1 n1=>?_
 exact xe 10 (.func (.func 192) #[] #[P0 b1]) ⟨_,rfl,n1.below,b1,rfl,(n1.ge (B4 w)),n1.blk⟩
theorem Lf(p:O0)(c n x:Nat)(t u v:Int)(Z:List Zv)(w:World)(hZ:Z.length=n)(hP:DevsR w p c Z)(hk:PoolOk t u v (x:Int) (Z.map Prod.fst)) :
 C0 68 #[.agg #[V0 t,V0 u,V0 v,V0 (x:Int),.slice p n c]] w (Yy (fun w' r=>∃ q d,r=.slice q x d∧w'.ownsRow w.heap.size 3 1 (.slice q x d) x ((Jc x (Z.map Prod.fst)).map nv)) w):=by
 have hx:x≤65536:=by have:=hk.hdata;omega
 have c8:n≤1000000000:=by have:=hk.devs.few;rw[List.length_map] at this;omega
 have a3:=Ze5 hk.devs 0
 have c9:=hk.devs.sum
 refine Nh Tryz.func68 rfl ?_
 refine g_fr ⟨#[.agg #[V0 t,V0 u,V0 v,V0 (x:Int),.slice p n c],undef,undef,undef,undef,undef,undef,undef,undef,undef,undef,undef,undef,undef,undef,undef,undef,undef,undef,undef,undef,undef,undef,undef,undef,undef],[]⟩ (by kernel_rfl) ?_
 refine wp_seq ?_
 refine wp_region_lit ?_
 refine Jd (by kernel_rfl) (op_box [V0 t,V0 u,V0 v,V0 (x:Int),.slice p n c] rfl (by kernel_rfl) ?_)
 intro b1 W1 n1
 have g1:=n1.ge (B4 w)
 have hB:=n1.below
 have k1:=n1.blk
 refine Gk 1 [(2,S0)] (by kernel_rfl) ?_
 refine wpList_nil ?_
 refine wp_seq ?_
 refine wp_seq ?_
 refine wp_region_lit ?_
 refine Jd (by kernel_rfl) (Mn (b:=b1) (off:=0) [V0 t,V0 u,V0 v,V0 (x:Int),.slice p n c] _ rfl (by kernel_rfl) Tryz.underlying28 rfl (by kernel_rfl) k1.whole ?_)
 refine Jd (by kernel_rfl) (Qw (lb:=#[]) 33 #[.agg #[V0 t,V0 u,V0 v,V0 (x:Int),.slice p n c]] rfl (by kernel_rfl) (fun _ _=>by kernel_rfl) (by kernel_rfl) ((Bp p c n t u v (x:Int) Z _ hZ (hP.below hB)).mono ?_))
 rintro e W2 ⟨rfl,c0⟩
 refine⟨_,rfl,?_⟩
 replace hB:=bln hB c0
 replace k1:=k1.below c0
 refine Gk 1 [(9,.bool ((Hu t u v (x:Int) (Z.map Prod.fst)) != (0:Int)))] (by kernel_rfl) ?_
 refine wpList_nil ?_
 refine wp_cond_split (t:=((Hu t u v (x:Int) (Z.map Prod.fst)) != (0:Int))) (by kernel_rfl) (fun hh=>absurd (hh.symm.trans (show(((Hu t u v (x:Int) (Z.map Prod.fst)) != (0:Int)):Bool)=false from by rw[Ty.2 hk];rfl)) (by decide)) (fun _=>?_)
 refine wp_skip ?_
 refine wp_seq ?_
 refine wp_region_lit ?_
 refine Gk 1 [(11,.pointer (some ⟨b1,3,none⟩))] (by kernel_rfl) ?_
 refine Jd (by kernel_rfl) (Kw ⟨b1,3,none⟩ (V0 (x:Int)) rfl (by kernel_rfl) (by kernel_rfl) (k1.cell (i:=3) rfl) ?_)
 have c7:=hB.size
 have d5:w.heap.size≤(W2).heap.size:=hB.size
 refine Jd (by kernel_rfl) (Qw (lb:=#[]) 119 #[V0 (x:Int)] rfl (by kernel_rfl) (fun _ _=>by kernel_rfl) (by kernel_rfl) ((refs_NewI x _ hx).mono ?_))
 rintro e W4 ⟨_,rfl,c2,br,g,rfl,c5,a1,hc⟩
 refine⟨_,rfl,?_⟩
 replace hB:=bln hB c2
 replace k1:=k1.below c2
 replace hc:=Zf hc d5
 replace c5:=Nat.le_trans c7 c5
 refine Gk 3 [(10,.tuple #[P0 br,V0 0]),(14,P0 br),(15,V0 0)] (by kernel_rfl) ?_
 refine Jd (by kernel_rfl) (Pm [.pointer none] rfl (by kernel_rfl) ?_)
 intro b5 W5 n5
 have a4:=n5.ne k1
 have a5:=n5.ne a1
 have g5:=n5.ge hB
 replace hB:=bln hB n5.below
 replace k1:=k1.below n5.below
 replace a1:=a1.below n5.below
 replace hc:=Zb hc n5.below
 have k5:=n5.blk
 refine Jd (by kernel_rfl) (Kf (v:=P0 br) (b:=b5) (off:=0) rfl (by kernel_rfl) (by kernel_rfl) (by kernel_rfl) rfl k5 (by first|decide|simp) ?_)
 intro W6 u6 k6
 change Blk _ _ [P0 br] _ at k6
 replace hB:=u6.below hB g5
 replace k1:=u6.blk k1 (Ne.symm (Ne.symm a4))
 replace a1:=u6.blk a1 (Ne.symm (Ne.symm a5))
 replace hc:=u6.own2 hc k5 (by decide)
 refine Gk 1 [(4,V0 0)] (by kernel_rfl) ?_
 refine wpList_nil ?_
 refine wp_seq ?_
 refine wp_seq ?_
 refine wp_region_lit ?_
 refine Jd (by kernel_rfl) (Mn (b:=b1) (off:=0) [V0 t,V0 u,V0 v,V0 (x:Int),.slice p n c] _ rfl (by kernel_rfl) Tryz.underlying28 rfl (by kernel_rfl) k1.whole ?_)
 have d3:=hB.size
 refine Jd (by kernel_rfl) (Qw (lb:=#[]) 120 #[.agg #[V0 t,V0 u,V0 v,V0 (x:Int),.slice p n c]] rfl (by kernel_rfl) (fun _ _=>by kernel_rfl) (by kernel_rfl) ((pool_maps t u v (x:Int) p n c _).mono ?_))
 rintro e W7 ⟨_,rfl,a6,bm,rfl,c3,c6⟩
 refine⟨_,rfl,?_⟩
 replace hB:=bln hB a6
 replace k1:=k1.below a6
 replace a1:=a1.below a6
 replace k6:=k6.below a6
 replace hc:=Zb hc a6
 replace c3:=Nat.le_trans d3 c3
 refine wpList_nil ?_
 refine wp_block ?_
 have b7:=hB
 have a9:w.heap.size≤W7.heap.size:=b7.size
 have m3:=k6
 have mr:=a1
 have mm:=c6
 have mc:=hc
 have d1:w.heap.size≤g∧g<W7.heap.size:=mc.lt g rfl
 have hq:=maps_seq bm p n c t u v (x:Int) Z w W7 hZ hP c8 b7 (fun b=>b<w.heap.size) (fun b h=>h) (fun b h=>Nat.lt_of_lt_of_le h a9) mm
 refine g_fr ⟨#[.agg #[V0 t,V0 u,V0 v,V0 (x:Int),.slice p n c],P0 b1,S0,P0 b5,V0 0,undef,undef,.agg #[V0 t,V0 u,V0 v,V0 (x:Int),.slice p n c],V0 (Hu t u v (x:Int) (Z.map Prod.fst)),.bool ((Hu t u v (x:Int) (Z.map Prod.fst)) != (0:Int)),.tuple #[P0 br,V0 0],.pointer (some ⟨b1,3,none⟩),V0 (x:Int),.tuple #[P0 br,V0 0],P0 br,V0 0,.agg #[V0 t,V0 u,V0 v,V0 (x:Int),.slice p n c],.func (.func 192) #[] #[P0 bm],undef,undef,undef,undef,undef,undef,undef,undef],[]⟩ (by kernel_rfl) ?_
 refine wp_rangeD (g:=.tmp 17) (gf:=192) (lb:=#[P0 bm]) rfl (enters_of Tryz.func192 (by kernel_rfl) rfl) (fun b=>b<w.heap.size) (fun b h=>Nat.lt_of_lt_of_le h a9) hq (fun _=>rfl)
  (fun k V=>B3 w V∧Blk V b5 [P0 br] 222∧Blk V br [.slice (S1 g) x x] 304∧V.ownsRow w.heap.size 3 1 (.slice (S1 g) x x) x ((Di (List.replicate x 0) ((Jf 0 (Z.map Prod.fst)).take k)).map nv))
  (fun _ _ _=>False) ?bel ?own (fun _ _ _ _ _ h _ _=>h.elim) ⟨b7,m3,mr,mc⟩
  (fun y a' V=>∃ b6,a'={ tmps:=#[.agg #[V0 t,V0 u,V0 v,V0 (x:Int),.slice p n c],P0 b1,S0,P0 b5,V0 0,undef,P0 b6,.agg #[V0 t,V0 u,V0 v,V0 (x:Int),.slice p n c],V0 (Hu t u v (x:Int) (Z.map Prod.fst)),.bool ((Hu t u v (x:Int) (Z.map Prod.fst)) != (0:Int)),.tuple #[P0 br,V0 0],.pointer (some ⟨b1,3,none⟩),V0 (x:Int),.tuple #[P0 br,V0 0],P0 br,V0 0,.agg #[V0 t,V0 u,V0 v,V0 (x:Int),.slice p n c],.func (.func 192) #[] #[P0 bm],V0 (y.1:Int),.agg #[V0 y.2.1,V0 y.2.2.1,V0 y.2.2.2],undef,undef,undef,undef,undef,undef],defers:=[] }∧Blk V b6 [V0 y.2.1,V0 y.2.2.1,V0 y.2.2.2] 46) ?two ?assign ?body ?done (fun _ _ _ _ _ _ h _=>h.elim)
 case bel=>exact fun k A B h hb=>⟨bln h.1 hb,h.2.1.below hb,h.2.2.1.below hb,Zb h.2.2.2 hb⟩
 case own=>exact fun k A B d2 h hg hr=>⟨below_ab (q:=fun _=>False) h.1 hg (fun r e=>.inr (hr r e)) (Nat.le_refl _) a9 (fun _ q=>q.elim),blk_ab (q:=fun _=>False) (m:=W7.heap.size) h.2.1 hg (fun r e=>.inr (hr r e)) (fun _ q=>q.elim),blk_ab (q:=fun _=>False) (m:=W7.heap.size) h.2.2.1 hg (fun r e=>.inr (hr r e)) (fun _ q=>q.elim),own_ab (q:=fun _=>False) (m:=W7.heap.size) h.2.2.2 hg (fun r e=>.inr (hr r e)) (fun _ q=>q.elim)⟩
 case two=>exact fun y a' A B d2 ⟨b6,ha,h6⟩ hg hr=>⟨b6,ha,blk_ab (q:=fun _=>False) (m:=W7.heap.size) h6 hg (fun r e=>.inr (hr r e)) (fun _ q=>q.elim)⟩
 case assign =>
  rintro lr k y W K hy hI hK
  refine zi_fr { tmps:=#[.agg #[V0 t,V0 u,V0 v,V0 (x:Int),.slice p n c],P0 b1,S0,P0 b5,V0 0,undef,undef,.agg #[V0 t,V0 u,V0 v,V0 (x:Int),.slice p n c],V0 (Hu t u v (x:Int) (Z.map Prod.fst)),.bool ((Hu t u v (x:Int) (Z.map Prod.fst)) != (0:Int)),.tuple #[P0 br,V0 0],.pointer (some ⟨b1,3,none⟩),V0 (x:Int),.tuple #[P0 br,V0 0],P0 br,V0 0,.agg #[V0 t,V0 u,V0 v,V0 (x:Int),.slice p n c],.func (.func 192) #[] #[P0 bm],V0 (y.1:Int),.agg #[V0 y.2.1,V0 y.2.2.1,V0 y.2.2.2],undef,undef,undef,undef,undef,undef],defers:=[] } (by kernel_rfl) ?_
  refine reg_in (fun⟨_,_,q⟩=>q) (by simp) ?_
  refine Jd (by kernel_rfl) (Pm [V0 0,V0 0,V0 0] rfl (by kernel_rfl) ?_)
  intro b8 W8 n8
  have g8:=n8.ge (B4 W)
  have hB:=n8.below
  have k8:=n8.blk
  refine Jd (by kernel_rfl) (Zak (b:=b8) (off:=0) [V0 y.2.1,V0 y.2.2.1,V0 y.2.2.2] rfl (by kernel_rfl) (by kernel_rfl) (by kernel_rfl) (by first|decide|simp[Value.oneCell']) k8 (by first|decide|simp) ?_)
  intro W9 u9 k9
  change Blk _ _ [V0 y.2.1,V0 y.2.2.1,V0 y.2.2.2] _ at k9
  replace hB:=u9.below hB g8
  refine wpList_nil ?_
  exact hK _ _ hB ⟨_,rfl,k9⟩
 case body =>
  rintro lr k y a' W d6 hy ⟨a8,n3,nr,nc⟩ ⟨b6,rfl,n6⟩
  have c1:w.heap.size≤W.heap.size:=a8.size
  obtain⟨e1,e0⟩:=a3 y (List.mem_of_getElem? hy)
  obtain⟨j,hj⟩:∃ j:Nat,y.2.2.1=(j:Int):=⟨y.2.2.1.toNat,by omega⟩
  have d0:(Di (List.replicate x 0) ((Jf 0 (Z.map Prod.fst)).take k)).length=x:=by rw[Zbk,List.length_replicate]
  have d7:=Rj (Di (List.replicate x 0) ((Jf 0 (Z.map Prod.fst)).take k)) j
  have b9:=Zbr (data:=x) ((Jf 0 (Z.map Prod.fst)).take k) (fun z hz=>a3 z (List.mem_of_mem_take hz)) (List.replicate x 0) List.length_replicate
  rw[List.sum_replicate_nat,List.length_take] at b9
  have d4:=Nat.min_le_right k (Jf 0 (Z.map Prod.fst)).length
  rw[En] at d4 b9
  rw[hj] at n6
  obtain⟨cg,kg⟩:=Fu nc
  refine wpIn_block ?_
  refine reg_in (fun⟨_,_,q⟩=>q) (by simp) ?_
  refine Jd (by kernel_rfl) (Kw ⟨b5,0,none⟩ (P0 br) rfl (by kernel_rfl) (by kernel_rfl) (n3.cell (i:=0) rfl) ?_)
  refine Gk 1 [(21,.pointer (some ⟨b6,1,none⟩))] (by kernel_rfl) ?_
  refine Jd (by kernel_rfl) (Kw ⟨b6,1,none⟩ (V0 (j:Int)) rfl (by kernel_rfl) (by kernel_rfl) (n6.cell (i:=1) rfl) ?_)
  refine Jd (by kernel_rfl) (Qw (lb:=#[]) 121 #[P0 br,V0 (j:Int)] rfl (by kernel_rfl) (fun _ _=>by kernel_rfl) (by kernel_rfl) ((refs_AddX w.heap.size br g x j (Di (List.replicate x 0) ((Jf 0 (Z.map Prod.fst)).take k)) _ nr (Nat.le_trans c1 (Below.refl w.heap.size _).size) nc d0 (by omega) (by omega)).mono ?_))
  rintro e d8 ⟨rfl,b0,a2,b3,b4⟩
  refine⟨_,rfl,?_⟩
  have hX:Fr [g] W _:=b3
  have hB:=b0
  replace n3:=n3.only a2 (by decide)
  replace nr:=nr.only a2 (by decide)
  replace n6:=n6.only a2 (by decide)
  refine wpList_nil ?_
  exact⟨(frg_ko hX kg).from _,frg_keeps hX (fun b hb=>Nat.lt_of_lt_of_le hb c1) (Nat.not_lt.2 d1.1),a8.trans hB,n3,nr,by rw[refsF_take _ _ hy,hj];exact b4⟩
 case done =>
  rintro D W hD ⟨a8,n3,nr,nc⟩ c4
  have hK:Dfr D W:=c4;clear c4
  rw[List.take_of_length_le (Nat.le_refl _)] at nc
  refine g_nopan ?_
  have hB:=a8
  refine wp_seq ?_
  refine wp_region_lit ?_
  refine Jd (by kernel_rfl) (Kw ⟨b5,0,none⟩ (P0 br) rfl (by kernel_rfl) (by kernel_rfl) (n3.cell (i:=0) rfl) ?_)
  have b2:w.heap.size≤(W).heap.size:=hB.size
  refine Jd (by kernel_rfl) (Qw (lb:=#[]) 122 #[P0 br] rfl (by kernel_rfl) (fun _ _=>by kernel_rfl) (by kernel_rfl) ((refs_List br g x w.heap.size (Jc x (Z.map Prod.fst)) _ nr nc (Vq _ _) (by omega)).mono ?_))
  rintro e e2 ⟨_,rfl,a0,q9,d9,rfl,a7⟩
  refine⟨_,rfl,?_⟩
  replace hB:=bln hB a0
  replace n3:=n3.below a0
  replace nr:=nr.below a0
  replace nc:=Zb nc a0
  replace hK:=hK.below a0
  replace a7:=Zf a7 b2
  refine Gk 1 [(2,.slice q9 x d9)] (by kernel_rfl) ?_
  refine wpList_nil ?_
  refine wp_ret ?_
  exact g_endM hK (.slice q9 x d9) (by kernel_rfl) (by kernel_rfl) ⟨_,rfl,(Upd.of_put _ _ _).below hB (Nat.le_trans a9 hD),_,_,rfl,(Upd.of_put _ _ _).own3 a7 (hK.row a7)⟩
def ClosP(B Bx bl:Nat)(L:List (List Int))(q i:Nat)(w:World)(e:Ending)(w':World):Prop :=
 ∃ u p c,e=.returned u∧Below B w w'∧Zd [105,122] w w'∧Blk w' bl [.slice p (i+1) c] 105∧w'.ownsRow Bx 122 3 (.slice p (i+1) c) (i+1) ((Xt L q (i+1)).flatMap Kv)∧FrB Bx [bl] w w'
theorem Kr(L:List (List Int))(q i:Nat):(Xt L q i).flatMap Kv++[V0 (i:Int),.string ⟨(leB ((q+i:Nat):Int) 8++leB (Yg (L.getD i []):Int) 4++leB (Xj (L.getD i []):Int) 4).toArray⟩,V0 0]=(Xt L q (i+1)).flatMap Kv:=by
 rw[Zcu];simp[Kv,slotX,slotB]
structure FrZ(Bx:Nat)(S:List Nat)(a w:World):Prop where
 fr:FrB Bx S a w
 le:Bx≤a.heap.size
theorem FrZ.refl{Bx:Nat}{S:List Nat}{w:World}(h:Bx≤w.heap.size):FrZ Bx S w w:=⟨⟨Nat.le_refl _,fun _ _ _=>rfl⟩,h⟩
theorem FrZ.below{Bx:Nat}{S:List Nat}{a w W:World}(h:FrZ Bx S a w)(hb:B3 w W):FrZ Bx S a W:=⟨⟨Nat.le_trans h.fr.1 hb.size,fun k hk hn=>(hb.block k (by have:=h.fr.1;have:=h.le;omega)).trans (h.fr.2 k hk hn)⟩,h.le⟩
theorem FrZ.upd{Bx b:Nat}{S:List Nat}{a w W:World}(h:FrZ Bx S a w)(u:Upd w b W)(hb:b∈S):FrZ Bx S a W:=⟨⟨Nat.le_trans h.fr.1 (Nat.le_of_eq u.size.symm),fun k hk hn=>(u.block k fun e=>hn (e▸hb)).trans (h.fr.2 k hk hn)⟩,h.le⟩
theorem FrZ.grown{Bx:Nat}{S:List Nat}{a w W:World}{size n:Nat}{e:TypeId}{v:Value}{xs:List Value}(h:FrZ Bx S a w)(hg:w.grownBy W v.ownBlock)(hown:w.ownsRow Bx e size v n xs):FrZ Bx S a W:=⟨⟨Nat.le_trans h.fr.1 hg.size,fun k hk hn=>(hg.block k (by have:=h.fr.1;have:=h.le;omega) (fun e=>by have:=(hown.lt k e.symm).1;omega)).trans (h.fr.2 k hk hn)⟩,h.le⟩
theorem Zf3(B Bx bl:Nat)(p:O0)(c:Nat)(L:List (List Int))(q i:Nat)(w:World)(hBm:B≤Bx)(hBx:Bx≤w.heap.size)(hBw:B≤w.heap.size)(hBl:B≤bl)(kl:Blk w bl [.slice p i c] 105)(hup:w.ownsRow Bx 122 3 (.slice p i c) i ((Xt L q i).flatMap Kv))(hq:1≤q+i)(hq2:q+i≤14399)(hi:i≤100000)(hf:Yg (L.getD i [])≤960)(hg:Xj (L.getD i [])≤960) :
 C0 116 #[.agg #[V0 (↑(q+i):Int),V0 (↑(Yg (L.getD i [])):Int),V0 (↑(Xj (L.getD i [])):Int)],P0 bl] w (ClosP B Bx bl L q i w):=by
 have hZ:FrZ Bx [bl] w w:=FrZ.refl hBx
 refine zin 11 Tryz.func116 ?_
 refine xa 2 [V0 (↑(q+i):Int),V0 (↑(Yg (L.getD i [])):Int),V0 (↑(Xj (L.getD i [])):Int)] 217 fun b1 W1 n1=>?_
 refine xd 2 (.t B [105,122]) ?_
 have k1:=n1.blk.below (Za W1)
 refine xlvt (.e [] 3) (.t B [105,122]) (fun V hV=>(k1.only hV.2 (by decide)).rp) ?_
 refine xm3 0 0 1 4 ?_ ?_ ?_
 ·have c6:=(kl.below n1.below).below (Za W1)
  refine xb 0 0 c6 ?_
  refine xm2 0 1 4 ?_ ?_
  ·refine xb 0 0 c6 ?_
   refine xr (.o [2] 4) (args:=#[.agg #[V0 (↑(q+i):Int),V0 (↑(Yg (L.getD i [])):Int),V0 (↑(Xj (L.getD i [])):Int)]]) (Jj (↑(q+i):Int) (↑(Yg (L.getD i [])):Int) (↑(Xj (L.getD i [])):Int) (by omega) (by omega) (by omega) (by omega) (by omega) (by omega) _) fun W2 g0=>?_
   refine xbs (.o [5] 6) 1 [V0 (i:Int),.string ⟨(leB (↑(q+i):Int) 8++leB (↑(Yg (L.getD i [])):Int) 4++leB (↑(Xj (L.getD i [])):Int) 4).toArray⟩,V0 0] 122 fun b3 W3 n3=>?_
   have d5:=Zb (Zb (Zb hup n1.below) (Za W1)) g0
   have j6:=Zr d5 n3
   have a6:=Zb d5 n3.below
   have hB:=blB (blB (blB (blB (Below.refl B w) hBw n1.below) hBw (Za W1)) hBw g0) hBw n3.below
   refine ybi (.o [] 7) (.t B [105,122]) fun _ _ _ _ zJ zQ zo zx zy zK=>Zy (m:=1) (news:=[V0 (i:Int),.string ⟨(leB (↑(q+i):Int) 8++leB (↑(Yg (L.getD i [])):Int) 4++leB (↑(Xj (L.getD i [])):Int) 4).toArray⟩,V0 0]) (.agg #[V0 0,.string ⟨#[]⟩,V0 0]) 3 32 (i+1) ((Xt L q (i+1)).flatMap Kv) zo Tryz.underlying105 (by kernel_rfl) rfl (by decide) zx a6 zy (n3.blk.sl 1 1 (by decide) (by decide)) rfl (by simp[Value.oneCell']) (by unfold maxLen;omega) (by omega) (Nat.le_trans hBx hB.size) (by rfl) (Kr L q i) fun m7 m4 W4 o4 h4 l5=>?_
   refine zK _ _ (Xa (l5.mono hBm) h4 a6 (by decide)) ?_
   have c7:=((c6.below g0).below n3.below).grown h4 a6 (by decide)
   refine ys (.o [] 8) c7 [.slice m7 (i+1) m4] (.t B [105,122]) fun W5 u5 k5=>⟨(Zt u5 c7 hBl (by decide)),?_⟩
   have k2:=u5.below (hB.trans (l5.mono hBm)) hBl
   have hO:=(((((show Zd [105,122] w _ from(Zd.of_below n1.below)).trans (Zd.of_below (Za W1))).trans (Zd.of_below g0)).trans (Zd.of_below n3.below)).trans (Zd.of_grown h4 a6 (by decide))).trans (Zd.of_upd u5 c7 (by decide))
   have i2:=u5.own2 o4 c7 (by decide)
   have j3:=(((((hZ.below n1.below).below (Za W1)).below g0).below n3.below).grown h4 a6).upd u5 (by simp)
   exact xe 1 (.tuple #[]) ⟨_,_,_,rfl,k2,hO,k5,i2,j3.fr⟩
  refine xr 0 (args:=#[.agg #[V0 (↑(q+i):Int),V0 (↑(Yg (L.getD i [])):Int),V0 (↑(Xj (L.getD i [])):Int)]]) (Jj (↑(q+i):Int) (↑(Yg (L.getD i [])):Int) (↑(Xj (L.getD i [])):Int) (by omega) (by omega) (by omega) (by omega) (by omega) (by omega) _) fun W6 g6=>?_
  have g8:=c6.below g6
  refine xb (.o [] 1) 0 g8 ?_
  refine xbs (.o [2,5] 6) 1 [V0 (i:Int),.string ⟨(leB (↑(q+i):Int) 8++leB (↑(Yg (L.getD i [])):Int) 4++leB (↑(Xj (L.getD i [])):Int) 4).toArray⟩,V0 0] 122 fun b7 W7 n7=>?_
  have d6:=Zb (Zb (Zb hup n1.below) (Za W1)) g6
  have i5:=Zr d6 n7
  have a7:=Zb d6 n7.below
  have hB:=blB (blB (blB (blB (Below.refl B w) hBw n1.below) hBw (Za W1)) hBw g6) hBw n7.below
  refine ybi (.o [] 7) (.t B [105,122]) fun _ _ _ _ zJ zQ zo zx zy zK=>Zy (m:=1) (news:=[V0 (i:Int),.string ⟨(leB (↑(q+i):Int) 8++leB (↑(Yg (L.getD i [])):Int) 4++leB (↑(Xj (L.getD i [])):Int) 4).toArray⟩,V0 0]) (.agg #[V0 0,.string ⟨#[]⟩,V0 0]) 3 32 (i+1) ((Xt L q (i+1)).flatMap Kv) zo Tryz.underlying105 (by kernel_rfl) rfl (by decide) zx a7 zy (n7.blk.sl 1 1 (by decide) (by decide)) rfl (by simp[Value.oneCell']) (by unfold maxLen;omega) (by omega) (Nat.le_trans hBx hB.size) (by rfl) (Kr L q i) fun m0 m3 W8 o8 h7 l4=>?_
  refine zK _ _ (Xa (l4.mono hBm) h7 a7 (by decide)) ?_
  have c8:=(g8.below n7.below).grown h7 a7 (by decide)
  refine ys (.o [] 8) c8 [.slice m0 (i+1) m3] (.t B [105,122]) fun W9 u9 k9=>⟨(Zt u9 c8 hBl (by decide)),?_⟩
  have i7:=u9.below (hB.trans (l4.mono hBm)) hBl
  have hO:=(((((show Zd [105,122] w _ from(Zd.of_below n1.below)).trans (Zd.of_below (Za W1))).trans (Zd.of_below g6)).trans (Zd.of_below n7.below)).trans (Zd.of_grown h7 a7 (by decide))).trans (Zd.of_upd u9 c8 (by decide))
  have h9:=u9.own2 o8 c8 (by decide)
  have i3:=(((((hZ.below n1.below).below (Za W1)).below g6).below n7.below).grown h7 a7).upd u9 (by simp)
  exact xe 1 (.tuple #[]) ⟨_,_,_,rfl,i7,hO,k9,h9,i3.fr⟩
 ·have b9:=(kl.below n1.below).below (Za W1)
  refine xb 0 0 b9 ?_
  refine xm2 (.b [2]) 0 4 ?_ ?_
  ·refine xb 0 0 b9 ?_
   refine xr (.o [] 4) (args:=#[.agg #[V0 (↑(q+i):Int),V0 (↑(Yg (L.getD i [])):Int),V0 (↑(Xj (L.getD i [])):Int)]]) (Jj (↑(q+i):Int) (↑(Yg (L.getD i [])):Int) (↑(Xj (L.getD i [])):Int) (by omega) (by omega) (by omega) (by omega) (by omega) (by omega) _) fun n5 c0=>?_
   refine xbs (.o [5] 6) 1 [V0 (i:Int),.string ⟨(leB (↑(q+i):Int) 8++leB (↑(Yg (L.getD i [])):Int) 4++leB (↑(Xj (L.getD i [])):Int) 4).toArray⟩,V0 0] 122 fun o3 o0 e1=>?_
   have e0:=Zb (Zb (Zb hup n1.below) (Za W1)) c0
   have h8:=Zr e0 e1
   have a8:=Zb e0 e1.below
   have hB:=blB (blB (blB (blB (Below.refl B w) hBw n1.below) hBw (Za W1)) hBw c0) hBw e1.below
   refine ybi (.o [] 7) (.t B [105,122]) fun _ _ _ _ zJ zQ zo zx zy zK=>Zy (m:=1) (news:=[V0 (i:Int),.string ⟨(leB (↑(q+i):Int) 8++leB (↑(Yg (L.getD i [])):Int) 4++leB (↑(Xj (L.getD i [])):Int) 4).toArray⟩,V0 0]) (.agg #[V0 0,.string ⟨#[]⟩,V0 0]) 3 32 (i+1) ((Xt L q (i+1)).flatMap Kv) zo Tryz.underlying105 (by kernel_rfl) rfl (by decide) zx a8 zy (e1.blk.sl 1 1 (by decide) (by decide)) rfl (by simp[Value.oneCell']) (by unfold maxLen;omega) (by omega) (Nat.le_trans hBx hB.size) (by rfl) (Kr L q i) fun j8 i0 n6 m9 d1 g1=>?_
   refine zK _ _ (Xa (g1.mono hBm) d1 a8 (by decide)) ?_
   have d0:=((b9.below c0).below e1.below).grown d1 a8 (by decide)
   refine ys (.o [] 8) d0 [.slice j8 (i+1) i0] (.t B [105,122]) fun p2 f8 m2=>⟨(Zt f8 d0 hBl (by decide)),?_⟩
   have i9:=f8.below (hB.trans (g1.mono hBm)) hBl
   have hO:=(((((show Zd [105,122] w _ from(Zd.of_below n1.below)).trans (Zd.of_below (Za W1))).trans (Zd.of_below c0)).trans (Zd.of_below e1.below)).trans (Zd.of_grown d1 a8 (by decide))).trans (Zd.of_upd f8 d0 (by decide))
   have e9:=f8.own2 m9 d0 (by decide)
   have j9:=(((((hZ.below n1.below).below (Za W1)).below c0).below e1.below).grown d1 a8).upd f8 (by simp)
   exact xe 1 (.tuple #[]) ⟨_,_,_,rfl,i9,hO,m2,e9,j9.fr⟩
  refine xr 0 (args:=#[.agg #[V0 (↑(q+i):Int),V0 (↑(Yg (L.getD i [])):Int),V0 (↑(Xj (L.getD i [])):Int)]]) (Jj (↑(q+i):Int) (↑(Yg (L.getD i [])):Int) (↑(Xj (L.getD i [])):Int) (by omega) (by omega) (by omega) (by omega) (by omega) (by omega) _) fun p5 a5=>?_
  refine xm2 (.b [5]) 0 6 ?_ ?_
  ·have f1:=b9.below a5
   refine xb 0 0 f1 ?_
   refine xbs (.o [] 6) 1 [V0 (i:Int),.string ⟨(leB (↑(q+i):Int) 8++leB (↑(Yg (L.getD i [])):Int) 4++leB (↑(Xj (L.getD i [])):Int) 4).toArray⟩,V0 0] 122 fun n8 p9 e4=>?_
   have d7:=Zb (Zb (Zb hup n1.below) (Za W1)) a5
   have h5:=Zr d7 e4
   have a9:=Zb d7 e4.below
   have hB:=blB (blB (blB (blB (Below.refl B w) hBw n1.below) hBw (Za W1)) hBw a5) hBw e4.below
   refine ybi (.o [] 7) (.t B [105,122]) fun _ _ _ _ zJ zQ zo zx zy zK=>Zy (m:=1) (news:=[V0 (i:Int),.string ⟨(leB (↑(q+i):Int) 8++leB (↑(Yg (L.getD i [])):Int) 4++leB (↑(Xj (L.getD i [])):Int) 4).toArray⟩,V0 0]) (.agg #[V0 0,.string ⟨#[]⟩,V0 0]) 3 32 (i+1) ((Xt L q (i+1)).flatMap Kv) zo Tryz.underlying105 (by kernel_rfl) rfl (by decide) zx a9 zy (e4.blk.sl 1 1 (by decide) (by decide)) rfl (by simp[Value.oneCell']) (by unfold maxLen;omega) (by omega) (Nat.le_trans hBx hB.size) (by rfl) (Kr L q i) fun j1 k6 o1 l8 d4 g2=>?_
   refine zK _ _ (Xa (g2.mono hBm) d4 a9 (by decide)) ?_
   have c5:=(f1.below e4.below).grown d4 a9 (by decide)
   refine ys (.o [] 8) c5 [.slice j1 (i+1) k6] (.t B [105,122]) fun o5 f0 l6=>⟨(Zt f0 c5 hBl (by decide)),?_⟩
   have l0:=f0.below (hB.trans (g2.mono hBm)) hBl
   have hO:=(((((show Zd [105,122] w _ from(Zd.of_below n1.below)).trans (Zd.of_below (Za W1))).trans (Zd.of_below a5)).trans (Zd.of_below e4.below)).trans (Zd.of_grown d4 a9 (by decide))).trans (Zd.of_upd f0 c5 (by decide))
   have h0:=f0.own2 l8 c5 (by decide)
   have k3:=(((((hZ.below n1.below).below (Za W1)).below a5).below e4.below).grown d4 a9).upd f0 (by simp)
   exact xe 1 (.tuple #[]) ⟨_,_,_,rfl,l0,hO,l6,h0,k3.fr⟩
  refine xbs 0 1 [V0 (i:Int),.string ⟨(leB (↑(q+i):Int) 8++leB (↑(Yg (L.getD i [])):Int) 4++leB (↑(Xj (L.getD i [])):Int) 4).toArray⟩,V0 0] 122 fun o7 p3 e3=>?_
  have d8:=Zb (Zb (Zb hup n1.below) (Za W1)) a5
  have h6:=Zr d8 e3
  have f7:=(b9.below a5).below e3.below
  refine xb (.o [] 0) 0 f7 ?_
  have a4:=Zb d8 e3.below
  have hB:=blB (blB (blB (blB (Below.refl B w) hBw n1.below) hBw (Za W1)) hBw a5) hBw e3.below
  refine ybi (.o [] 7) (.t B [105,122]) fun _ _ _ _ zJ zQ zo zx zy zK=>Zy (m:=1) (news:=[V0 (i:Int),.string ⟨(leB (↑(q+i):Int) 8++leB (↑(Yg (L.getD i [])):Int) 4++leB (↑(Xj (L.getD i [])):Int) 4).toArray⟩,V0 0]) (.agg #[V0 0,.string ⟨#[]⟩,V0 0]) 3 32 (i+1) ((Xt L q (i+1)).flatMap Kv) zo Tryz.underlying105 (by kernel_rfl) rfl (by decide) zx a4 zy (e3.blk.sl 1 1 (by decide) (by decide)) rfl (by simp[Value.oneCell']) (by unfold maxLen;omega) (by omega) (Nat.le_trans hBx hB.size) (by rfl) (Kr L q i) fun l3 l1 p6 n2 d2 f5=>?_
  refine zK _ _ (Xa (f5.mono hBm) d2 a4 (by decide)) ?_
  have b0:=f7.grown d2 a4 (by decide)
  refine ys (.o [] 8) b0 [.slice l3 (i+1) l1] (.t B [105,122]) fun p0 f9 m5=>⟨(Zt f9 b0 hBl (by decide)),?_⟩
  have j0:=f9.below (hB.trans (f5.mono hBm)) hBl
  have hO:=(((((show Zd [105,122] w _ from(Zd.of_below n1.below)).trans (Zd.of_below (Za W1))).trans (Zd.of_below a5)).trans (Zd.of_below e3.below)).trans (Zd.of_grown d2 a4 (by decide))).trans (Zd.of_upd f9 b0 (by decide))
  have g5:=f9.own2 n2 b0 (by decide)
  have i8:=(((((hZ.below n1.below).below (Za W1)).below a5).below e3.below).grown d2 a4).upd f9 (by simp)
  exact xe 1 (.tuple #[]) ⟨_,_,_,rfl,j0,hO,m5,g5,i8.fr⟩
 refine xr 0 (args:=#[.agg #[V0 (↑(q+i):Int),V0 (↑(Yg (L.getD i [])):Int),V0 (↑(Xj (L.getD i [])):Int)]]) (Jj (↑(q+i):Int) (↑(Yg (L.getD i [])):Int) (↑(Xj (L.getD i [])):Int) (by omega) (by omega) (by omega) (by omega) (by omega) (by omega) _) fun o6 a0=>?_
 refine xm2 0 0 1 ?_ ?_
 ·have b8:=((kl.below n1.below).below (Za W1)).below a0
  refine xb 0 0 b8 ?_
  refine xb (.o [] 1) 0 b8 ?_
  refine xbs (.o [2,5] 6) 1 [V0 (i:Int),.string ⟨(leB (↑(q+i):Int) 8++leB (↑(Yg (L.getD i [])):Int) 4++leB (↑(Xj (L.getD i [])):Int) 4).toArray⟩,V0 0] 122 fun q2 p1 e2=>?_
  have c1:=Zb (Zb (Zb hup n1.below) (Za W1)) a0
  have h2:=Zr c1 e2
  have a1:=Zb c1 e2.below
  have hB:=blB (blB (blB (blB (Below.refl B w) hBw n1.below) hBw (Za W1)) hBw a0) hBw e2.below
  refine ybi (.o [] 7) (.t B [105,122]) fun _ _ _ _ zJ zQ zo zx zy zK=>Zy (m:=1) (news:=[V0 (i:Int),.string ⟨(leB (↑(q+i):Int) 8++leB (↑(Yg (L.getD i [])):Int) 4++leB (↑(Xj (L.getD i [])):Int) 4).toArray⟩,V0 0]) (.agg #[V0 0,.string ⟨#[]⟩,V0 0]) 3 32 (i+1) ((Xt L q (i+1)).flatMap Kv) zo Tryz.underlying105 (by kernel_rfl) rfl (by decide) zx a1 zy (e2.blk.sl 1 1 (by decide) (by decide)) rfl (by simp[Value.oneCell']) (by unfold maxLen;omega) (by omega) (Nat.le_trans hBx hB.size) (by rfl) (Kr L q i) fun l2 j7 q1 m1 d3 g7=>?_
  refine zK _ _ (Xa (g7.mono hBm) d3 a1 (by decide)) ?_
  have b5:=(b8.below e2.below).grown d3 a1 (by decide)
  refine ys (.o [] 8) b5 [.slice l2 (i+1) j7] (.t B [105,122]) fun p8 f3 l9=>⟨(Zt f3 b5 hBl (by decide)),?_⟩
  have j4:=f3.below (hB.trans (g7.mono hBm)) hBl
  have hO:=(((((show Zd [105,122] w _ from(Zd.of_below n1.below)).trans (Zd.of_below (Za W1))).trans (Zd.of_below a0)).trans (Zd.of_below e2.below)).trans (Zd.of_grown d3 a1 (by decide))).trans (Zd.of_upd f3 b5 (by decide))
  have f6:=f3.own2 m1 b5 (by decide)
  have i4:=(((((hZ.below n1.below).below (Za W1)).below a0).below e2.below).grown d3 a1).upd f3 (by simp)
  exact xe 1 (.tuple #[]) ⟨_,_,_,rfl,j4,hO,l9,f6,i4.fr⟩
 have b6:=((kl.below n1.below).below (Za W1)).below a0
 refine xb 0 0 b6 ?_
 refine xm2 (.b [2,5]) 0 6 ?_ ?_
 ·refine xb 0 0 b6 ?_
  refine xbs (.o [] 6) 1 [V0 (i:Int),.string ⟨(leB (↑(q+i):Int) 8++leB (↑(Yg (L.getD i [])):Int) 4++leB (↑(Xj (L.getD i [])):Int) 4).toArray⟩,V0 0] 122 fun p7 o9 e6=>?_
  have c2:=Zb (Zb (Zb hup n1.below) (Za W1)) a0
  have h3:=Zr c2 e6
  have a3:=Zb c2 e6.below
  have hB:=blB (blB (blB (blB (Below.refl B w) hBw n1.below) hBw (Za W1)) hBw a0) hBw e6.below
  refine ybi (.o [] 7) (.t B [105,122]) fun _ _ _ _ zJ zQ zo zx zy zK=>Zy (m:=1) (news:=[V0 (i:Int),.string ⟨(leB (↑(q+i):Int) 8++leB (↑(Yg (L.getD i [])):Int) 4++leB (↑(Xj (L.getD i [])):Int) 4).toArray⟩,V0 0]) (.agg #[V0 0,.string ⟨#[]⟩,V0 0]) 3 32 (i+1) ((Xt L q (i+1)).flatMap Kv) zo Tryz.underlying105 (by kernel_rfl) rfl (by decide) zx a3 zy (e6.blk.sl 1 1 (by decide) (by decide)) rfl (by simp[Value.oneCell']) (by unfold maxLen;omega) (by omega) (Nat.le_trans hBx hB.size) (by rfl) (Kr L q i) fun k0 i6 o2 m8 c9 f2=>?_
  refine zK _ _ (Xa (f2.mono hBm) c9 a3 (by decide)) ?_
  have b4:=(b6.below e6.below).grown c9 a3 (by decide)
  refine ys (.o [] 8) b4 [.slice k0 (i+1) i6] (.t B [105,122]) fun q3 f4 n0=>⟨(Zt f4 b4 hBl (by decide)),?_⟩
  have k8:=f4.below (hB.trans (f2.mono hBm)) hBl
  have hO:=(((((show Zd [105,122] w _ from(Zd.of_below n1.below)).trans (Zd.of_below (Za W1))).trans (Zd.of_below a0)).trans (Zd.of_below e6.below)).trans (Zd.of_grown c9 a3 (by decide))).trans (Zd.of_upd f4 b4 (by decide))
  have g3:=f4.own2 m8 b4 (by decide)
  have j5:=(((((hZ.below n1.below).below (Za W1)).below a0).below e6.below).grown c9 a3).upd f4 (by simp)
  exact xe 1 (.tuple #[]) ⟨_,_,_,rfl,k8,hO,n0,g3,j5.fr⟩
 refine xbs 0 1 [V0 (i:Int),.string ⟨(leB (↑(q+i):Int) 8++leB (↑(Yg (L.getD i [])):Int) 4++leB (↑(Xj (L.getD i [])):Int) 4).toArray⟩,V0 0] 122 fun n9 q0 e5=>?_
 have c3:=Zb (Zb (Zb hup n1.below) (Za W1)) a0
 have h1:=Zr c3 e5
 have d9:=b6.below e5.below
 refine xb (.o [] 0) 0 d9 ?_
 have a2:=Zb c3 e5.below
 have hB:=blB (blB (blB (blB (Below.refl B w) hBw n1.below) hBw (Za W1)) hBw a0) hBw e5.below
 refine ybi (.o [] 7) (.t B [105,122]) fun _ _ _ _ zJ zQ zo zx zy zK=>Zy (m:=1) (news:=[V0 (i:Int),.string ⟨(leB (↑(q+i):Int) 8++leB (↑(Yg (L.getD i [])):Int) 4++leB (↑(Xj (L.getD i [])):Int) 4).toArray⟩,V0 0]) (.agg #[V0 0,.string ⟨#[]⟩,V0 0]) 3 32 (i+1) ((Xt L q (i+1)).flatMap Kv) zo Tryz.underlying105 (by kernel_rfl) rfl (by decide) zx a2 zy (e5.blk.sl 1 1 (by decide) (by decide)) rfl (by simp[Value.oneCell']) (by unfold maxLen;omega) (by omega) (Nat.le_trans hBx hB.size) (by rfl) (Kr L q i) fun j2 i1 p4 m6 c4 e8=>?_
 refine zK _ _ (Xa (e8.mono hBm) c4 a2 (by decide)) ?_
 have b2:=d9.grown c4 a2 (by decide)
 refine ys (.o [] 8) b2 [.slice j2 (i+1) i1] (.t B [105,122]) fun n4 e7 l7=>⟨(Zt e7 b2 hBl (by decide)),?_⟩
 have k4:=e7.below (hB.trans (e8.mono hBm)) hBl
 have hO:=(((((show Zd [105,122] w _ from(Zd.of_below n1.below)).trans (Zd.of_below (Za W1))).trans (Zd.of_below a0)).trans (Zd.of_below e5.below)).trans (Zd.of_grown c4 a2 (by decide))).trans (Zd.of_upd e7 b2 (by decide))
 have g9:=e7.own2 m6 b2 (by decide)
 have k7:=(((((hZ.below n1.below).below (Za W1)).below a0).below e5.below).grown c4 a2).upd e7 (by simp)
 exact xe 1 (.tuple #[]) ⟨_,_,_,rfl,k4,hO,l7,g9,k7.fr⟩
def LayPost(B ba b g nn cc:Nat)(pa:O0)(ca f N k0:Nat)(bs:Bl)(bl:Nat)(L:List (List Int))(w:World)(e:Ending)(w':World):Prop :=
 ∃ p c,e=.returned .nilIface∧Below B w w'∧Zd [152,5,105,122] w w'∧Fr [ba,g,bl] w w'∧Al B ba b g nn cc pa ca f N (k0+L.length) (Vz L (f+k0) bs L.length) w'∧Blk w' bl [.slice p L.length c] 105∧w'.ownsRow w.heap.size 122 3 (.slice p L.length c) L.length ((Xt L (f+k0) L.length).flatMap Kv)
theorem plot_layD(B ba b g nn cc:Nat)(pa:O0)(ca f N k0:Nat)(bs:Bl)(bl B2:Nat)(pl:O0)(cl:Nat)(gs:List (Nat×Nat))(L:List (List Int))(w:World)(hC:AlC B ba nn cc ca f N)(hA:Al B ba b g nn cc pa ca f N k0 bs w)(hL:Lists w B2 (.slice pl L.length cl) gs L)(hS:∀ i,i<L.length→Hq (L.getD i [])∧(L.getD i []).length≤960)(hf1:1≤f)(hk:k0+L.length≤N)(kl:Blk w bl [S0] 105)(hBl:B≤bl)(hBw:B≤w.heap.size) :
 C0 115 #[P0 ba,.slice pl L.length cl,.func (.func 116) #[] #[P0 bl]] w (LayPost B ba b g nn cc pa ca f N k0 bs bl L w):=by
 have d4:=hC.hf
 have d3:=hC.hn
 refine zin 51 Tryz.func115 ?_
 have hB:=Below.refl B w
 refine zl 14 51 (fun zm d1 V=>∃ (i:Nat) (p:O0) (c:Nat),d1=[(0,P0 ba),(2,.func (.func 116) #[] #[P0 bl]),(15,.slice pl L.length cl),(16,V0 (L.length:Int)),(17,V0 (i:Int))]∧zm=L.length-((i:Int)).toNat∧Below B w V∧Fr [ba,g,bl] w V∧Zd [152,5,105,122] w V∧Blk V bl ([.slice p i c]) 105∧Al B ba b g nn cc pa ca f N (k0+i) (Vz L (f+k0) bs i) V∧Lists V B2 (.slice pl L.length cl) gs L∧V.ownsRow w.heap.size 122 3 (.slice p i c) i ((Xt L (f+k0) i).flatMap Kv)∧i≤L.length) ⟨0,none,0,rfl,rfl,hB,(Fr.refl _ _),(Zd.refl _ _),kl,hA,hL,World.ownsRow_nil _ _ _ _,Nat.zero_le _⟩ ?_
 rintro _ _ W1 ⟨i,p,c,rfl,rfl,a5,a8,a9,a1,hA,hL,b3,hi⟩ J1 c3 r1
 refine xid 6 ((i:Int)<(L.length:Int)) (fun c5=>?_) (fun c5=>?_)
 ·refine xx 6 _ L.length i 1 (Lists.elem hL rfl (k:=i) (by omega)).1 ?_
  refine xl 0 ((Lists.elem hL rfl (k:=i) (by omega)).2) ?_
  refine xc 6 (args:=#[.slice (some ⟨(gs.getD i (0,0)).1,0,none⟩) ((L.getD i []).length) ((gs.getD i (0,0)).2)]) (Zen _ _ (L.getD i []) _ (hS i (by omega)).1 (hS i (by omega)).2 (Ze (hL.each i (by omega)))) ?_
  rintro _ W3 ⟨_,rfl,a4,g6,rfl,h6⟩
  have b5:=hA.below a4
  have a2:=a9.trans (Zd.of_below a4)
  have c1:=Zf h6 a5.size
  have b0:=blB a5 hBw a4
  refine xc 21 (args:=#[P0 ba,V0 3,.slice (S1 g6) 244 244]) (Pi B ba b g nn cc pa ca f N (k0+i) (Vz L (f+k0) bs i) 3 (S1 g6) 244 (Jz (L.getD i [])) (f+k0+i) 244 _ (Nat.add_assoc _ _ _).symm (Va _ _) hC b5 (by omega) (by decide) (by decide) (fun W _ a2=>Yi (Ze (Zi c1 a2 (by decide))) (Va _ _)) (by decide) (Nat.le_trans hBw b0.size)) ?_
  rintro _ W4 ⟨rfl,c7,b2,c2,hA⟩
  have b1:=(hL.below a4).only b2 (by decide)
  refine xr 20 (args:=#[.slice (some ⟨(gs.getD i (0,0)).1,0,none⟩) ((L.getD i []).length) ((gs.getD i (0,0)).2)]) (Zbv _ _ (L.getD i []) _ (hS i (by omega)).2 (Ze (b1.each i (by omega)))) fun W5 a3=>?_
  have d0:Yg (L.getD i [])≤960:=Nat.le_trans (Dp _ _) (hS i (by omega)).2
  have d2:Xj (L.getD i [])≤960:=Nat.le_trans (Rm _) (hS i (by omega)).2
  have a6:=blB (b0.trans c7) hBw a3
  have a0:=((a1.below a4).only b2 (by decide)).below a3
  have a7:=Zb (Zi (Zb b3 a4) b2 (by decide)) a3
  refine xc 13 (args:=#[.agg #[V0 (↑(f+k0+i):Int),V0 (↑(Yg (L.getD i [])):Int),V0 (↑(Xj (L.getD i [])):Int)],P0 bl]) (Zf3 B w.heap.size bl p c L (f+k0) i _ hBw a6.size (Nat.le_trans hBw a6.size) hBl a0 a7 (by omega) (by omega) (by omega) d0 d2) ?_
  rintro _ W6 ⟨_,p9,c9,rfl,c4,b4,c6,b3,c8⟩
  refine xwm 4 ((i:Int)+1) (↑(i+1):Int) ?_
  have b9:=(hA.below a3).only b4 (by decide)
  have b8:=(b1.below a3).only b4 (by decide)
  have b6:=a6.trans c4
  have c0:=(Fr.trans_B (((a8.trans (Fr.of_below a4)).trans (c2.mono (by simp))).trans (Fr.of_below a3)) c8 (by simp))
  have b7:=((a2.trans (b2.wide)).trans (Zd.of_below a3)).trans (b4.wide)
  exact ze 2 (c3 _ _ _ ⟨i+1,_,_,rfl,rfl,b6,c0,b7,c6,b9,b8,b3,by omega⟩ (by omega))
 refine xe 11 .nilIface ?_
 obtain rfl:i=L.length:=by omega
 exact⟨_,_,rfl,a5,a9,a8,hA,a1,b3⟩
theorem Ng(a:O0)(c:Nat)(l:List Int)(w:World)(h:Sl w (.slice a l.length c) l.length (l.map V0))(hl:l.length≤65536)(hs:Ku l=0):C0 112 #[.slice a l.length c] w (fun e w'=>∃ pb cb gs po co,e=.returned (.tuple #[.slice pb (bmN l.length) cb,.slice po (Zu l l.length).length co,V0 0])∧B3 w w'∧Lists w' w.heap.size (.slice pb (bmN l.length) cb) gs (Xi (Zo l) (bmN l.length))∧w'.ownsRow w.heap.size 122 3 (.slice po (Zu l l.length).length co) (Zu l l.length).length ((Zu l l.length).flatMap Kv)) :=
 (Zcp a c l w h hl).mono fun e w' q=>(q.resolve_left fun z=>z.1 hs).2
theorem Zhd(B ba b g nn cc:Nat)(pa:O0)(ca f N k0:Nat)(bs:Bl)(bl B2:Nat)(pl:O0)(cl:Nat)(gs:List (Nat×Nat))(L:List (List Int))(n:Nat)(hn:L.length=n)(w:World)(hC:AlC B ba nn cc ca f N)(hA:Al B ba b g nn cc pa ca f N k0 bs w)(hL:Lists w B2 (.slice pl n cl) gs L)(hS:∀ i,i<L.length→Hq (L.getD i [])∧(L.getD i []).length≤960)(hf1:1≤f)(hk:k0+n≤N)(kl:Blk w bl [S0] 105)(hBl:B≤bl)(hBw:B≤w.heap.size) :
 C0 115 #[P0 ba,.slice pl n cl,.func (.func 116) #[] #[P0 bl]] w (fun e w'=>∃ p c,e=.returned .nilIface∧Below B w w'∧Zd [152,5,105,122] w w'∧Fr ([ba,g]++[bl]) w w'∧Al B ba b g nn cc pa ca f N (k0+n) (Vz L (f+k0) bs n) w'∧Blk w' bl [.slice p n c] 105∧w'.ownsRow w.heap.size 122 3 (.slice p n c) n ((Xt L (f+k0) n).flatMap Kv)):=by
 subst hn;exact plot_layD B ba b g nn cc pa ca f N k0 bs bl B2 pl cl gs L w hC hA hL hS hf1 hk kl hBl hBw
theorem Cv{l:List Int}(h:∀ k,k<l.length→Wl (l.getD k 0))(n:Nat):∀ i,i<(Xi (Zo l) n).length→Hq ((Xi (Zo l) n).getD i [])∧((Xi (Zo l) n).getD i []).length≤960:=fun i hi=>by
 rw[Jn] at hi
 rw[Zdx hi]
 exact⟨Zc1 (small_ok h) i,by rw[Si];omega⟩
theorem own_keep{w W:World}{B ba b g nn cc:Nat}{pa:O0}{ca f N k0 bl:Nat}{bs:Bl}{cs:List Value}{base n:Nat}{v:Value}{xs:List Value}(k:w.ownsRow base 122 3 v n xs)(hA:Al B ba b g nn cc pa ca f N k0 bs w)(kl:Blk w bl cs 105)(hX:Fr ([ba,g]++[bl]) w W):W.ownsRow base 122 3 v n xs:=own_fr k hX fun j hj hm=>by
 obtain⟨a0,kb⟩:=Fu hA.data
 simp only[List.cons_append,List.nil_append,List.mem_cons,List.not_mem_nil,or_false] at hm
 rcases hm with h|h|h
 ·exact Fd k hA.blkA (by decide) _ hj h
 ·exact Fd k kb (by decide) _ hj h
 ·exact Fd k kl (by decide) _ hj h
def DataP(B ba b g nn cc:Nat)(pa:O0)(ca f N k0:Nat)(bs:Bl)(l:List Int)(w:World)(e:Ending)(w':World):Prop :=
 e=.returned (.tuple #[V0 (Ig l (f+k0) bs).1,V0 (Ig l (f+k0) bs).2.1,.nilIface])∧Below B w w'∧Zd [152,5,105,122,32] w w'∧Fr [ba,g] w w'∧Al B ba b g nn cc pa ca f N (k0+Wd l) (Ig l (f+k0) bs).2.2 w'
theorem Df(n:Nat)(w:World)(hn:n≤65536) :
 C0 123 #[V0 (n:Int)] w (Ret (V0 (↑(bmN n):Int)) w):=by
 refine zin 9 Tryz.func123 ?_
 refine xid 12 ((n:Int)<(1:Int)) (fun a0=>?_) (fun a0=>?_)
 ·exact xe 7 (V0 0) ⟨by rw[show bmN n=0 from by unfold bmN;omega];rfl,(B4 w)⟩
 refine xwm 5 ((n:Int)-1) (↑(n-1):Int) ?_
 refine xq 0 (congrArg V0 (show(IntKind.i64.wrap (Int.tdiv (↑(n-1):Int) 960):Int)=(↑((n-1)/960):Int) from Lo (n-1) 960 (by omega) (by decide))) ?_
 refine xw 0 ((↑((n-1)/960):Int)+1) ?_
 exact xe 4 (V0 ((↑((n-1)/960):Int)+1)) ⟨by rw[show bmN n=(n-1)/960+1 from by unfold bmN;omega,Int.natCast_add];rfl,(B4 w)⟩
theorem Cp{cs:List Nat}{i:Nat}(h:i<cs.length):(cs.take (i+1)).sum=(cs.take i).sum+cs.getD i 0:=by
 rw[List.take_succ_eq_append_getElem h,List.sum_append];simp[List.getD,h]
theorem nat_sum_le(cs:List Nat)(i:Nat):(cs.take i).sum≤cs.sum:=by
 conv=>rhs;rw[←List.take_append_drop i cs]
 rw[List.sum_append];omega
theorem Lz{w:World}{pc:O0}{n m:Nat}{cs:List Nat}(h:Sl w (.slice pc n m) n (cs.map nv))(hn:cs.length=n){k:Nat}(hk:k<n):pc.isSome=true∧w.cell? (Xd pc (k*1))=some (V0 ((cs.getD k 0:Nat):Int)):=Pk h (by omega)
theorem Zfk(a:O0)(n c:Nat)(cs:List Nat)(w:World)(hn:cs.length=n)(h:Sl w (.slice a n c) n (cs.map nv))(hs:cs.sum≤1000000000) :
 C0 179 #[.slice a n c] w (Ret (V0 (cs.sum:Int)) w):=by
 have a6:=Sl.len h
 refine zin 17 Tryz.func179 ?_
 have hB:=Below.refl w.heap.size w
 refine zl 19 17 (fun zm a2 V=>∃ (i:Nat),a2=[(2,V0 0),(3,V0 (↑((cs.take i).sum):Int)),(6,.slice a n c),(7,V0 (n:Int)),(8,V0 (i:Int))]∧zm=n-((i:Int)).toNat∧B3 w V∧i≤n) ⟨0,rfl,rfl,hB,Nat.zero_le _⟩ ?_
 rintro _ _ W1 ⟨i,rfl,rfl,a0,hi⟩ J1 a1 r1
 have a5:=nat_sum_le cs (i+1)
 refine xid 6 ((i:Int)<(n:Int)) (fun a3=>?_) (fun a3=>?_)
 ·have a4:=Cp (cs:=cs) (i:=i) (by omega)
  refine xx 6 _ n i 1 (Lz h hn (k:=i) (by omega)).1 ?_
  refine xl 0 ((Lz (h.below a0) hn (k:=i) (by omega)).2) ?_
  refine xwm 6 ((↑((cs.take i).sum):Int)+(↑(cs.getD i 0):Int)) (↑(((cs.take i).sum)+(cs.getD i 0)):Int) ?_
  refine xwm 5 ((i:Int)+1) (↑(i+1):Int) ?_
  refine xv1 2 3 (show(V0 (↑(((cs.take i).sum)+(cs.getD i 0)):Int):Value)=V0 (↑((cs.take (i+1)).sum):Int) from by rw[Cp (i:=i) (by omega)]) ?_
  exact ze 0 (a1 _ _ _ ⟨i+1,rfl,rfl,a0,by omega⟩ (by omega))
 exact xe 12 (V0 (↑((cs.take i).sum):Int)) ⟨by rw[List.take_of_length_le (by omega)],a0⟩
theorem Zgb(p:O0)(c n x:Nat)(t u v:Int)(Z:List Zv)(w:World)(hZ:Z.length=n)(hP:DevsR w p c Z)(hk:PoolOk t u v (x:Int) (Z.map Prod.fst)) :
 C0 180 #[.agg #[V0 t,V0 u,V0 v,V0 (x:Int),.slice p n c]] w (Ret (V0 (↑(oftL x (Z.map Prod.fst)):Int)) w):=by
 have hx:x≤65536:=by have:=hk.hdata;omega
 refine zin 19 Tryz.func180 ?_
 refine xa 2 [V0 t,V0 u,V0 v,V0 (x:Int),.slice p n c] 28 fun b1 W1 n1=>?_
 refine xlv 11 n1.blk.rp ?_
 refine xc 0 (args:=#[.agg #[V0 t,V0 u,V0 v,V0 (x:Int),.slice p n c]]) (Lf p c n x t u v Z _ hZ (hP.below n1.below) hk) ?_
 rintro _ W2 ⟨_,rfl,a7,q9,d9,rfl,a2⟩
 have a3:=Zf a2 n1.below.size
 have a4:=bln n1.below a7
 have a5:=n1.blk.below a7
 refine zl 5 19 (fun zm a9 V=>∃ (i:Nat),a9=[(2,V0 0),(3,V0 (↑(Ok (Jc x (Z.map Prod.fst)) i):Int)),(7,.slice q9 x d9),(8,V0 (x:Int)),(9,V0 (i:Int))]∧zm=x-((i:Int)).toNat∧B3 w V∧Blk V b1 ([V0 t,V0 u,V0 v,V0 (x:Int),.slice p n c]) 28∧V.ownsRow w.heap.size 3 1 (.slice q9 x d9) x ((Jc x (Z.map Prod.fst)).map nv)∧i≤x) ⟨0,rfl,rfl,a4,a5,a3,Nat.zero_le _⟩ ?_
 rintro _ _ W3 ⟨i,rfl,rfl,a1,a0,a2,hi⟩ J3 a6 r3
 refine xid 6 ((i:Int)<(x:Int)) (fun a8=>?_) (fun a8=>?_)
 ·have b2:Ok (Jc x (Z.map Prod.fst)) i≤i:=by unfold Ok;exact Nat.le_trans (List.length_filter_le _ _) (by rw[List.length_take];exact Nat.min_le_left _ _)
  refine xx 6 _ x i 1 (Lz (Ze a2) (Vq _ _) (k:=i) (by omega)).1 ?_
  refine xl 0 ((Lz (Ze a2) (Vq _ _) (k:=i) (by omega)).2) ?_
  refine xid 9 ((↑((Jc x (Z.map Prod.fst)).getD i 0):Int)≥(3:Int)) (fun b0=>?_) (fun b0=>?_)
  ·refine xwm 2 ((↑(Ok (Jc x (Z.map Prod.fst)) i):Int)+1) (↑((Ok (Jc x (Z.map Prod.fst)) i)+1):Int) ?_
   refine xwm 5 ((i:Int)+1) (↑(i+1):Int) ?_
   refine xv1 2 3 (show(V0 (↑((Ok (Jc x (Z.map Prod.fst)) i)+1):Int):Value)=V0 (↑(Ok (Jc x (Z.map Prod.fst)) (i+1)):Int) from by rw[Li (k:=i) (by rw[Vq];omega),if_pos (by omega)]) ?_
   exact ze 0 (a6 _ _ _ ⟨i+1,rfl,rfl,a1,a0,a2,by omega⟩ (by omega))
  refine xwm 4 ((i:Int)+1) (↑(i+1):Int) ?_
  refine xv1 2 3 (show(V0 (↑(Ok (Jc x (Z.map Prod.fst)) i):Int):Value)=V0 (↑(Ok (Jc x (Z.map Prod.fst)) (i+1)):Int) from by rw[Li (k:=i) (by rw[Vq];omega),if_neg (by omega),Nat.add_zero]) ?_
  exact ze 0 (a6 _ _ _ ⟨i+1,rfl,rfl,a1,a0,a2,by omega⟩ (by omega))
 exact xe 12 (V0 (↑(Ok (Jc x (Z.map Prod.fst)) i):Int)) ⟨by obtain rfl:i=x:=(by omega);rfl,a1⟩
theorem devs_row{Z:List Zv}{i:Nat}(h:i<Z.length):((((Z.map Prod.fst).map fun d=>Xn 2 d.2.length).take i).map nv)++[V0 (↑(Xn 2 (Z.getD i zvD).1.2.length):Int)]=((((Z.map Prod.fst).map fun d=>Xn 2 d.2.length).take (i+1)).map nv):=by
 rw[List.take_succ_eq_append_getElem (by simpa using h),List.map_append]
 simp[List.getD,h,nv]
theorem dev_few{data:Int}{Z:List Zv}(hk:DevsOk data (Z.map Prod.fst)){i:Nat}(h:i<Z.length):(Z.getD i zvD).1.2.length≤16384:=by
 have a:=hk.sum
 have b:=Zfu (L:=Z.map Prod.fst) (i:=i) (by rw[List.length_map];exact h)
 rw[zfst h] at b
 omega
theorem Zeu{L:List Dv}:(L.map fun d=>Xn 2 d.2.length).length=L.length:=List.length_map ..
theorem size_sum7(b a1 a2 a3 a4 a5 a6:Nat)(w:World)(k:Blk w b [V0 1,V0 (a1:Int),V0 (a2:Int),V0 (a3:Int),V0 (a4:Int),V0 (a5:Int),V0 (a6:Int)] 3)(h:1+a1+a2+a3+a4+a5+a6≤1000000000) :
 C0 179 #[.slice (S1 b) 7 7] w (Ret (V0 (↑(1+a1+a2+a3+a4+a5+a6):Int)) w):=by
 have e:[1,a1,a2,a3,a4,a5,a6].sum=1+a1+a2+a3+a4+a5+a6:=by simp only[List.sum_cons,List.sum_nil];omega
 have q:=Zfk (S1 b) 7 7 [1,a1,a2,a3,a4,a5,a6] w rfl (k.sl 7 7 (by decide) (by decide)) (by rw[e];exact h)
 rw[e] at q
 exact q
theorem base_eq{x n:Nat}{L:List Dv}(h:L.length=n):1+Xn 3 n+Xn 1 n+Bq L+bmN x+Xn 4 (bmN x)+Xn 5 (oftL x L)=Cc x L:=by
 subst h;rfl
theorem size_Base(p:O0)(c n x:Nat)(t u v:Int)(Z:List Zv)(w:World)(hZ:Z.length=n)(hP:DevsR w p c Z)(hk:PoolOk t u v (x:Int) (Z.map Prod.fst)) :
 C0 106 #[.agg #[V0 t,V0 u,V0 v,V0 (x:Int),.slice p n c]] w (Ret (V0 (↑(Cc x (Z.map Prod.fst)):Int)) w):=by
 have hx:x≤65536:=by have:=hk.hdata;omega
 have d1:(Z.map Prod.fst).length=n:=by rw[List.length_map];exact hZ
 have d8:=hk.devs.few
 have f0:=hk.devs.sum
 rw[d1] at d8
 have f8:=Mm hk.devs
 have e7:=Zex hx hk.devs
 have f3:bmN x≤69:=by unfold bmN;omega
 have e5:=Sl.len (hP.rowN hZ)
 refine zin 46 Tryz.func106 ?_
 refine xa 2 [V0 t,V0 u,V0 v,V0 (x:Int),.slice p n c] 28 fun b1 W1 n1=>?_
 refine xlv 6 n1.blk.rp ?_
 refine xr 0 (args:=#[.agg #[V0 t,V0 u,V0 v,V0 (x:Int),.slice p n c]]) (Bp p c n t u v (x:Int) Z _ hZ (hP.below n1.below)) fun W2 d4=>?_
 refine xk 3 (show(((Hu t u v (x:Int) (Z.map Prod.fst)) != (0:Int)):Bool)=false from by rw[Ty.2 hk];rfl) ?_
 have b7:=n1.blk.below d4
 refine xb 11 4 b7 ?_
 have c7:=bln n1.below d4
 refine zl 5 46 (fun zm d9 V=>∃ (i:Nat) (p3:O0) (c3:Nat),d9=[(1,P0 b1),(2,V0 0),(3,.slice p3 i c3),(11,.slice p n c),(12,V0 (n:Int)),(13,V0 (i:Int))]∧zm=n-((i:Int)).toNat∧B3 w V∧Blk V b1 ([V0 t,V0 u,V0 v,V0 (x:Int),.slice p n c]) 28∧V.ownsRow w.heap.size 3 1 (.slice p3 i c3) i ((((Z.map Prod.fst).map fun d=>Xn 2 d.2.length).take i).map nv)∧i≤n) ⟨0,none,0,rfl,rfl,c7,b7,World.ownsRow_nil _ _ _ _,Nat.zero_le _⟩ ?_
 rintro _ _ W3 ⟨i,p3,c3,rfl,rfl,a3,a1,hl,hi⟩ J3 d7 r3
 refine xid 6 ((i:Int)<(n:Int)) (fun d6=>?_) (fun d6=>?_)
 ·have e2:=dev_few hk.devs (i:=i) (by omega)
  refine xx 6 _ n i 5 (hP.someN hZ (i:=i) (by omega)) ?_
  refine xlv 0 (Sts.rp (k:=i) (hP.below a3).row Pt zvD (by omega) (by decide)) ?_
  refine xa 0 [V0 0,V0 0,V0 0,V0 0,S0] 42 fun b5 W5 n5=>?_
  have g5:=n5.ge a3
  refine xsv 0 n5.blk [V0 ((Z.getD i zvD).1.1.1),V0 ((Z.getD i zvD).1.1.2.1),V0 ((Z.getD i zvD).1.1.2.2.1),V0 ((Z.getD i zvD).1.1.2.2.2),.slice ((Z.getD i zvD).2.1) ((Z.getD i zvD).1.2.length) ((Z.getD i zvD).2.2)] fun W6 u6 k6=>?_
  refine xb 5 4 k6 ?_
  refine xr 1 (args:=#[V0 2,V0 (↑((Z.getD i zvD).1.2.length):Int)]) (Qc 2 ((Z.getD i zvD).1.2.length) _ (by decide) (by decide) (by omega)) fun W7 d2=>?_
  refine xbs 0 1 [V0 (↑(Xn 2 ((Z.getD i zvD).1.2.length)):Int)] 3 fun b8 W8 n8=>?_
  have c0:=bln (u6.below (bln a3 n5.below) g5) d2
  have g8:=n8.ge c0
  have c1:=Zb (u6.own2 (Zb hl n5.below) n5.blk (by decide)) d2
  have d5:=Zr c1 n8
  have b4:=Zb c1 n8.below
  have a6:=bln c0 n8.below
  refine xbi 0 fun _ _ _ _ zJ zQ zo zx zy zK=>Zy (m:=1) (news:=[V0 (↑(Xn 2 ((Z.getD i zvD).1.2.length)):Int)]) (V0 0) 1 8 (i+1) (((((Z.map Prod.fst).map fun d=>Xn 2 d.2.length).take (i+1)).map nv)) zo Tryz.underlying35 (by kernel_rfl) rfl (by decide) zx b4 zy (n8.blk.sl 1 1 (by decide) (by decide)) rfl (by simp[Value.oneCell']) (by unfold maxLen;omega) (by omega) a6.size (by rfl) (by exact devs_row (by omega)) fun e6 f4 W9 o9 e0 e1=>?_
  refine zK _ _ ?_
  refine xwm 5 ((i:Int)+1) (↑(i+1):Int) ?_
  have d0:=a6.trans e1
  have a2:=(((u6.blkT (a1.below n5.below) n5.blk (by decide)).below d2).below n8.below).grown e0 b4 (by decide)
  exact ze 2 (d7 _ _ _ ⟨i+1,_,_,rfl,rfl,d0,a2,o9,by omega⟩ (by omega))
 obtain rfl:n=i:=by omega
 rw[List.take_of_length_le (by rw[Zeu,List.length_map];omega)] at hl
 refine xb 8 3 a1 ?_
 refine xr 0 (args:=#[V0 (x:Int)]) (Df x _ hx) fun c4 a4=>?_
 refine xd 4 .z ?_
 have a0:=(a1.below a4).below (Za c4)
 refine xb (.e [0] 1) 4 a0 ?_
 refine xb (.e [2,4] 5) 4 a0 ?_
 refine xlv (.e [6,8,10,11] 13) a0.rp ?_
 refine xr (.o [] 3) (args:=#[V0 3,V0 (n:Int)]) (Qc 3 n _ (by decide) (by decide) (by omega)) fun e8 b9=>?_
 refine xr (.o [] 7) (args:=#[V0 1,V0 (n:Int)]) (Qc 1 n _ (by decide) (by decide) (by omega)) fun e3 a8=>?_
 have b0:=Zb (Zb (Zb (Zb hl a4) (Za c4)) b9) a8
 refine xr (.o [] 9) (args:=#[.slice p3 n c3]) (Zfk p3 n c3 ((Z.map Prod.fst).map fun d=>Xn 2 d.2.length) _ (by rw[Zeu,List.length_map];exact hZ) (Ze b0) (by have:=Zez (L:=(Z.map Prod.fst));unfold Bq at this;omega)) fun f6 b2=>?_
 refine xr (.o [] 12) (args:=#[V0 4,V0 (↑(bmN x):Int)]) (Qc 4 (bmN x) _ (by decide) (by decide) (by omega)) fun e4 b3=>?_
 have a7:=bln (bln (bln (bln (bln (bln a3 a4) (Za c4)) b9) a8) b2) b3
 refine xr (.o [] 14) (args:=#[.agg #[V0 t,V0 u,V0 v,V0 (x:Int),.slice p n c]]) (Zgb p c n x t u v Z _ hZ (hP.below a7) hk) fun f5 a5=>?_
 refine xr (.o [] 15) (args:=#[V0 5,V0 (↑(oftL x (Z.map Prod.fst)):Int)]) (Qc 5 (oftL x (Z.map Prod.fst)) _ (by decide) (by decide) (by omega)) fun f2 a9=>?_
 refine xbs (.o [] 16) 7 [V0 1,V0 (↑(Xn 3 n):Int),V0 (↑(Xn 1 n):Int),V0 (↑(Bq (Z.map Prod.fst)):Int),V0 (↑(bmN x):Int),V0 (↑(Xn 4 (bmN x)):Int),V0 (↑(Xn 5 (oftL x (Z.map Prod.fst))):Int)] 3 fun d3 e9 c2=>?_
 have b6:=bln (bln a7 a5) a9
 have f1:=c2.ge b6
 have c9:=Zb (Zb (Zb (Zb b0 b2) b3) a5) a9
 have c5:=Zr c9 c2
 refine xr (.o [] 17) (args:=#[.slice (S1 d3) 7 7]) (by have q:=size_sum7 d3 (Xn 3 n) (Xn 1 n) (Bq (Z.map Prod.fst)) (bmN x) (Xn 4 (bmN x)) (Xn 5 (oftL x (Z.map Prod.fst))) _ c2.blk (by rw[base_eq d1];omega);rw[base_eq d1] at q;exact q) fun f7 c6=>?_
 have c8:=bln (bln b6 c2.below) c6
 exact xe (.r [18] 3) (V0 (↑(Cc x (Z.map Prod.fst)):Int)) ⟨rfl,c8⟩
theorem need_quo(bs:Nat)(h:bs≤100000):IntKind.i64.wrap (Int.tdiv (↑(bs+1):Int) 959)=(↑((bs+1)/959):Int):=by
 rw[show(959:Int)=((959:Nat):Int) from rfl,←Int.ofNat_tdiv]
 exact IntWalk.i64_in _ (by omega)
theorem size_Need(p:O0)(c n x:Nat)(t u v:Int)(Z:List Zv)(w:World)(hZ:Z.length=n)(hP:DevsR w p c Z)(hk:PoolOk t u v (x:Int) (Z.map Prod.fst)) :
 C0 64 #[.agg #[V0 t,V0 u,V0 v,V0 (x:Int),.slice p n c]] w (Ret (V0 (↑(Pw x (Z.map Prod.fst)):Int)) w):=by
 have hx:x≤65536:=by have:=hk.hdata;omega
 have a2:=Zex hx hk.devs
 obtain⟨bs,a1⟩:∃ y,Cc x (Z.map Prod.fst)=y:=⟨_,rfl⟩
 rw[a1] at a2
 refine zin 17 Tryz.func64 ?_
 refine xa 2 [V0 t,V0 u,V0 v,V0 (x:Int),.slice p n c] 28 fun b1 W1 n1=>?_
 refine xlv 5 n1.blk.rp ?_
 refine xr 0 (args:=#[.agg #[V0 t,V0 u,V0 v,V0 (x:Int),.slice p n c]]) (by have q:=size_Base p c n x t u v Z _ hZ (hP.below n1.below) hk;rw[a1] at q;exact q) fun W2 a3=>?_
 refine xk 10 (show(((bs:Int)==(0:Int)):Bool)=false from beq_false_of_ne (by omega)) ?_
 refine xwm 5 ((bs:Int)+2) (↑(bs+2):Int) ?_
 refine xwm 7 ((↑(bs+2):Int)-1) (↑((bs+2)-1):Int) ?_
 refine xq 0 (congrArg V0 (show(IntKind.i64.wrap (Int.tdiv (↑((bs+2)-1):Int) 959):Int)=(↑((bs+1)/959):Int) from need_quo bs a2.2)) ?_
 refine xwm 0 ((↑(bs+2):Int)+(↑((bs+1)/959):Int)) (↑((bs+2)+((bs+1)/959)):Int) ?_
 refine xwm 0 ((↑((bs+2)+((bs+1)/959)):Int)+1) (↑(((bs+2)+((bs+1)/959))+1):Int) ?_
 have a0:=bln n1.below a3
 exact xe 4 (V0 (↑(((bs+2)+((bs+1)/959))+1):Int)) ⟨by unfold Pw Zdq;rw[a1];exact congrArg (fun z:Int=>Ending.returned (Value.int .i64 z)) (by omega),a0⟩
def entE(v:Nat)(l:List Ent)(i:Nat):Prop:=lastK l i<(l.getD i Vk).1∧(l.getD i Vk).1≤281474976710655∧(l.getD i Vk).2.1.length=v
instance (v:Nat) (l:List Ent) (i:Nat):Decidable (entE v l i):=by unfold entE;infer_instance
structure AlG(B ba b:Nat)(pa:Option Addr)(N ca k:Nat)(L:List Int)(w:World):Prop where
 blk:Blk w ba [.slice pa N ca,.int .i64 (k:Int),.pointer (some ⟨b,0,none⟩)] 152
 nums:w.ownsRow B 3 1 (.slice pa N ca) N (L.map (Value.int .i64))
 hL:L.length=N
 hB:B≤ba
 hN:N≤1000000
 hk:k≤N
theorem AlG.below{B ba b:Nat}{pa:O0}{N ca k:Nat}{L:List Int}{w W:World}(h:AlG B ba b pa N ca k L w)(hb:B3 w W):AlG B ba b pa N ca k L W:=⟨h.blk.below hb,Zb h.nums hb,h.hL,h.hB,h.hN,h.hk⟩
theorem AlG.only{B ba b:Nat}{pa:O0}{N ca k:Nat}{L:List Int}{w W:World}{T:List TypeId}(h:AlG B ba b pa N ca k L w)(hO:Zd T w W)(hT:T.contains 152=false∧T.contains 3=false):AlG B ba b pa N ca k L W:=⟨h.blk.only hO hT.1,Zi h.nums hO hT.2,h.hL,h.hB,h.hN,h.hk⟩
theorem AlG.mono{B B' ba b:Nat}{pa:O0}{N ca k:Nat}{L:List Int}{w:World}(h:AlG B ba b pa N ca k L w)(hB:B'≤B):AlG B' ba b pa N ca k L w:=⟨h.blk,Zf h.nums hB,h.hL,Nat.le_trans hB h.hB,h.hN,h.hk⟩
theorem Zf6(p:Addr)(N c:Nat)(xs:List Value)(w:World)(h:Sl w (.slice (some p) N c) N xs)(hl:xs.length=N)(h1:∀ u∈xs,u.oneCell'=true)(hn:N≤1000000) :
 C0 124 #[.slice (some p) N c] w (Yy (fun w' r=>∃ q c2,r=.slice q N c2∧w'.ownsRow w.heap.size 3 1 (.slice q N c2) N xs) w):=by
 refine zin 8 Tryz.func124 ?_
 refine xb0 17 3 fun b1 W1 n1=>?_
 have o1:=Zz (size:=1) (n:=0) n1.blk (n1.ge (B4 w)) rfl (by decide)
 refine xbi 1 fun _ _ _ _ zJ zQ zo zx zy zK=>Zy (m:=N) (news:=xs) (V0 0) 1 8 (N) (xs) zo Tryz.underlying35 (by kernel_rfl) rfl (by decide) zx o1 zy (h.below n1.below) (by rw[hl,Nat.mul_one]) h1 (by unfold maxLen;omega) (by omega) n1.below.size (by omega) (by rfl) fun a2 a1 W2 o2 a4 a3=>?_
 refine zK _ _ ?_
 have a0:=n1.below.trans a3
 exact xe 4 (.slice a2 N a1) ⟨_,rfl,a0,_,_,rfl,o2⟩
theorem Se(w:World) :
 C0 124 #[S0] w (Ret (S0) w):=by
 refine zin 8 Tryz.func124 ?_
 exact xe 20 (S0) ⟨rfl,(B4 w)⟩
theorem Zcy(a:O0)(N c:Nat)(xs:List Value)(w:World)(h:Sl w (.slice a N c) N xs)(hc:a=none→c=0)(hl:xs.length=N)(h1:∀ u∈xs,u.oneCell'=true)(hn:N≤1000000) :
 C0 124 #[.slice a N c] w (Yy (fun w' r=>∃ q c2,r=.slice q N c2∧w'.ownsRow w.heap.size 3 1 (.slice q N c2) N xs) w):=by
 cases a with
 | some p=>exact Zf6 p N c xs w h hl h1 hn
 | none =>
  have hN:N=0∧xs=[]:=by
   rcases h with ⟨a',c',h2,h3,h4⟩|⟨b',a0,a1,h2,_⟩
   ·simp only[Value.slice.injEq] at h2;exact⟨h2.2.1,h4⟩
   ·cases h2
  obtain⟨rfl,rfl⟩:=hN
  obtain rfl:=hc rfl
  refine(Se w).mono ?_
  rintro e W ⟨rfl,hb⟩
  exact⟨_,rfl,hb,none,0,rfl,World.ownsRow_nil _ _ _ _⟩
theorem sl_cut{w:World}{b:O0}{n c:Nat}{xs:List Value}(h:Sl w (.slice b n c) n xs)(hl:xs.length=n)(k:Nat)(hk:k≤n):Sl w (.slice (Vp b k c 1) (n-k) (c-k)) (n-k) (xs.drop k):=by
 rcases h with ⟨a',c',h1,h2,h3⟩|⟨g,a0,a1,h1,h2,h3,h4⟩
 ·obtain rfl:k=0:=by omega
  subst h3 h2
  exact .inl ⟨Vp b 0 c 1,c-0,rfl,rfl,rfl⟩
 ·simp only[Value.slice.injEq] at h1
  obtain⟨rfl,_,rfl⟩:=h1
  by_cases hz:n-k=0
  ·refine .inl ⟨Vp (some ⟨g,a0,none⟩) k c 1,c-k,by rw[hz],by omega,?_⟩
   exact List.drop_eq_nil_of_le (by omega)
  ·refine .inr ⟨g,a0+k*1,c-k,?_,by omega,by omega,fun j x hj=>?_⟩
   ·rw[Vp,if_neg (by omega)];simp[Addr.add]
   ·rw[List.getElem?_drop] at hj
    have:=h4 (k+j) x hj
    rwa [Nat.mul_one,Nat.add_assoc]
theorem sl_take{w:World}{b:O0}{n c:Nat}{xs:List Value}(h:Sl w (.slice b n c) n xs)(hl:xs.length=n)(m:Nat)(hm:m≤n):Sl w (.slice b m c) m (xs.take m):=Sl.head h hl m hm
theorem aheadSl{w:World}{b:O0}{n c k i:Nat}{L:List Int}(h:Sl w (.slice b n c) n (L.map V0))(hl:L.length=n)(hk:k≤n):Sl w (.slice (Vp b k c 1) (min i (n-k)) (c-k)) (min i (n-k)) (((L.drop k).take i).map V0):=by
 have h1:=sl_cut h (by simpa using hl) k hk
 have h2:=sl_take h1 (by simp[hl]) (min i (n-k)) (by omega)
 rw[←List.map_drop,←List.map_take] at h2
 have e:(L.drop k).take (min i (n-k))=(L.drop k).take i:=by
  rcases Nat.le_total i (n-k) with q|q
  ·rw[Nat.min_eq_left q]
  ·rw[Nat.min_eq_right q,List.take_of_length_le (by simp[hl]),List.take_of_length_le (by simp[hl];omega)]
 rw[e] at h2
 exact h2
theorem aheadN{w:World}{B:Nat}{b:O0}{n c k:Nat}{xs:List Value}{e size:Nat}(h:w.ownsRow B e size (.slice b n c) n xs):Vp b k c 1=none→c-k=0:=by
 intro hn
 have hb:b=none:=by
  unfold Vp at hn
  split at hn
  ·exact hn
  ·simpa using hn
 subst hb
 rcases h.2 with ⟨h2,_⟩|⟨g,a0,a1,h2,_⟩
 ·simp only[Value.slice.injEq] at h2;omega
 ·cases h2
theorem Zcb(B ba b:Nat)(p0:O0)(N ca k i:Nat)(L:List Int)(w:World)(hA:AlG B ba b p0 N ca k L w)(hi:i≤1000000) :
 C0 125 #[P0 ba,V0 (i:Int)] w (Yy (fun w' r=>∃ q c2,r=.slice q (min i (N-k)) c2∧w'.ownsRow w.heap.size 3 1 (.slice q (min i (N-k)) c2) (min i (N-k)) (((L.drop k).take i).map V0)) w):=by
 have hk:=hA.blk
 have a4:=hA.hk
 have hL:=hA.hL
 have hN:=hA.hN
 have a9:N≤ca:=by
  rcases Nat.eq_zero_or_pos N with q|q
  ·omega
  ·exact Zd0 hA.nums q
 refine zin 23 Tryz.func125 ?_
 refine xr 9 (args:=#[P0 ba]) (Ks ba b _ _ _ hk) fun W1 a0=>?_
 refine xid 6 ((i:Int)<(1:Int)) (fun a7=>?_) (fun a7=>?_)
 ·refine xe 7 (S0) ?_
  obtain rfl:i=0:=by omega
  exact⟨_,rfl,a0,none,0,by rw[Nat.zero_min],by rw[Nat.zero_min,List.take_zero];exact World.ownsRow_nil _ _ _ _⟩
 have a3:=hk.below a0
 refine xr 7 (args:=#[P0 ba]) (Tr ba p0 N ca k _ _ a3 a4) fun W3 a5=>?_
 refine xq 9 (congrArg V0 (show(if(↑(N-k):Int)<(i:Int) then(↑(N-k):Int) else(i:Int):Int)=(↑(min i (N-k)):Int) from Zef i (N-k))) ?_
 refine xsH 0 (fun _ _ _ _ zo zx zy V=>Vh (k:=(min i (N-k))) (b:=(Vp p0 k ca 1)) (n:=(N-k)) (c:=(ca-k)) (i:=(↑(min i (N-k)):Int)) (ki:=.i64) zo zx zy rfl (by omega) Tryz.underlying35 (by kernel_rfl) V) ?_
 have hB:=bln a0 a5
 refine xc 0 (args:=#[.slice (Vp p0 k ca 1) (min i (N-k)) (ca-k)]) (Zcy (Vp p0 k ca 1) (min i (N-k)) (ca-k) (((L.drop k).take i).map V0) _ (aheadSl (Ze (Zb hA.nums hB)) hL a4) (aheadN hA.nums) (by simp;omega) (Ai _) (by omega)) ?_
 rintro _ W4 ⟨_,rfl,a8,pq,cq,rfl,hq⟩
 have a6:=(bln a0 a5).size
 have a2:=bln hB a8
 have a1:=Zf hq a6
 exact xe 4 (.slice pq (min i (N-k)) cq) ⟨_,rfl,a2,_,_,rfl,a1⟩
def rsV (L:List (List Int))(q i:Nat):List Value:=[V0 ((q+i:Nat):Int),V0 (Yg (L.getD i []):Int),V0 (Xj (L.getD i []):Int)]
def rsL (L:List (List Int))(q n:Nat):List Value:=(List.range n).flatMap (rsV L q)
theorem rsL_succ(L:List (List Int))(q n:Nat):rsL L q (n+1)=rsL L q n++rsV L q n:=by simp[rsL,List.range_succ]
def rsC (x:Nat×Nat×Nat):List Value:=[V0 (x.1:Int),V0 (x.2.1:Int),V0 (x.2.2:Int)]
theorem rsC_len(x:Nat×Nat×Nat):(rsC x).length=3:=rfl
def rsD:Nat×Nat×Nat:=(0,0,0)
def Rs (L:List (List Int))(q n:Nat):List (Nat×Nat×Nat):=(List.range n).map fun i=>(q+i,Yg (L.getD i []),Xj (L.getD i []))
theorem Fc(L:List (List Int))(q n:Nat):(Rs L q n).length=n:=by simp[Rs]
theorem Rs_get{L:List (List Int)}{q n i:Nat}(h:i<n):(Rs L q n).getD i rsD=(q+i,Yg (L.getD i []),Xj (L.getD i [])):=by simp[Rs,List.getD,List.getElem?_range h]
theorem rsL_Rs(L:List (List Int))(q n:Nat):rsL L q n=(Rs L q n).flatMap rsC:=by simp[rsL,Rs,List.flatMap_map];rfl
theorem Rs_sts{L:List (List Int)}{q n c:Nat}{p:O0}{w:World}(h:Sl w (.slice p n c) n (rsL L q n)):Sts rsC w (.slice p (Rs L q n).length c) (Rs L q n):=by unfold Sts;rw[Fc,←rsL_Rs];exact h
def slB (x:Nat×Nat×Nat):Bl:=leB (x.1:Int) 8++leB (x.2.1:Int) 4++leB (x.2.2:Int) 4
theorem Zdn(x:Nat×Nat×Nat):(slB x).length=16:=by simp[slB,Zg]
def Zf2(S:List (Nat×Nat×Nat))(i:Nat):Bl:=leB (S.length:Int) 4++(List.range i).flatMap fun j=>slB (S.getD j rsD)
theorem Lu(S:List (Nat×Nat×Nat))(i:Nat):Zf2 S (i+1)=Zf2 S i++slB (S.getD i rsD):=by simp[Zf2,List.range_succ]
theorem Dl(S:List (Nat×Nat×Nat)):∀ i,(Zf2 S i).length=4+i*16
 | 0=>by simp[Zf2,Zg]
 | i+1=>by rw[Lu,List.length_append,Dl S i,Zdn];omega
def Cd(S:List (Nat×Nat×Nat)):Bl:=Zf2 S S.length++List.replicate (244-(4+S.length*16)) 0
theorem Lw{S:List (Nat×Nat×Nat)}(h:S.length≤15):(Cd S).length=244:=by unfold Cd;rw[List.length_append,Dl,List.length_replicate];omega
def Er(S:List (Nat×Nat×Nat)):Prop:=S.length≤14∧∀ i,i<S.length→1≤(S.getD i rsD).1∧(S.getD i rsD).1≤14399∧(S.getD i rsD).2.1≤960∧(S.getD i rsD).2.2≤960
theorem slB_ne(x:Nat×Nat×Nat):((⟨(leB (x.1:Int) 8++leB (x.2.1:Int) 4++leB (x.2.2:Int) 4).toArray⟩:ByteArray).toList==(⟨#[]⟩:ByteArray).toList)=false:=by
 rw[show(⟨#[]⟩:ByteArray)=⟨([]:Bl).toArray⟩ from rfl,Ce]
 apply beq_false_of_ne
 intro q
 have h1:=congrArg List.length q
 simp[Zg] at h1
theorem slots_Put(a:O0)(c:Nat)(S:List (Nat×Nat×Nat))(w:World)(hS:Er S)(h:Sts rsC w (.slice a S.length c) S) :
 C0 127 #[.slice a S.length c] w (Yy (fun w' r=>∃ p c,r=.tuple #[.slice p 244 c,V0 0]∧w'.ownsRow w.heap.size 5 1 (.slice p 244 c) 244 ((Cd S).map bv)) w):=by
 have c5:=hS.1
 refine zin 39 Tryz.func127 ?_
 refine xk 14 (show(decide ((S.length:Int)>(15:Int)):Bool)=false from decide_eq_false (by omega)) ?_
 refine xbs 7 1 [V0 4,V0 (S.length:Int)] 235 fun b1 W1 n1=>?_
 refine xc 0 (args:=#[.slice (S1 b1) 1 1]) (Cn b1 (S.length:Int) (by omega) (by omega) _ n1.blk) ?_
 rintro _ W2 ⟨_,rfl,b0,p2,c2,rfl,h2⟩
 have a7:=Zf h2 n1.below.size
 have hB:=bln n1.below b0
 have a6:=n1.blk.below b0
 refine zl 16 39 (fun zm b8 V=>∃ (i:Nat) (p4:O0) (c4:Nat),b8=[(4,.slice p4 (4+i*16) c4),(20,.slice a S.length c),(21,V0 (S.length:Int)),(22,V0 (i:Int))]∧zm=S.length-((i:Int)).toNat∧B3 w V∧Blk V b1 ([V0 4,V0 (S.length:Int)]) 235∧V.ownsRow w.heap.size 5 1 (.slice p4 (4+i*16) c4) (4+i*16) ((Zf2 S i).map bv)∧i≤S.length) ⟨0,p2,c2,rfl,rfl,hB,a6,(by simpa [Zf2] using a7),Nat.zero_le _⟩ ?_
 rintro _ _ W3 ⟨i,p4,c4,rfl,rfl,a0,a4,ho,hi⟩ J3 b3 r3
 refine xid 6 ((i:Int)<(S.length:Int)) (fun b2=>?_) (fun b2=>?_)
 ·refine xx 6 _ S.length i 3 (Sts.cell h rsC_len rsD (k:=i) (i:=0) (by omega) rfl).1 ?_
  refine xlv 0 (Sts.rp (k:=i) (h.below a0) rsC_len rsD (by omega) (by decide)) ?_
  refine xa 0 [V0 0,V0 0,V0 0] 217 fun b5 W5 n5=>?_
  have g5:=n5.ge a0
  refine xsv 0 n5.blk [V0 (↑(S.getD i rsD).1:Int),V0 (↑(S.getD i rsD).2.1:Int),V0 (↑(S.getD i rsD).2.2:Int)] fun W6 u6 k6=>?_
  refine xlv 4 k6.rp ?_
  refine xr 0 (args:=#[.agg #[V0 (↑(S.getD i rsD).1:Int),V0 (↑(S.getD i rsD).2.1:Int),V0 (↑(S.getD i rsD).2.2:Int)]]) (Jj (↑(S.getD i rsD).1:Int) (↑(S.getD i rsD).2.1:Int) (↑(S.getD i rsD).2.2:Int) (by have:=hS.2 i (by omega);omega) (by have:=hS.2 i (by omega);omega) (by omega) (by have:=hS.2 i (by omega);omega) (by omega) (by have:=hS.2 i (by omega);omega) _) fun W7 a9=>?_
  refine xk 10 (show(((⟨(leB (↑(S.getD i rsD).1:Int) 8++leB (↑(S.getD i rsD).2.1:Int) 4++leB (↑(S.getD i rsD).2.2:Int) 4).toArray⟩:ByteArray).toList==(⟨#[]⟩:ByteArray).toList):Bool)=false from slB_ne _) ?_
  have a2:=Zb (u6.own2 (Zb ho n5.below) n5.blk (by decide)) a9
  have a3:=bln (u6.below (bln a0 n5.below) g5) a9
  refine xbi 5 (t2:=9) fun _ _ _ _ zJ zQ zo zx zy zK=>op_appS (leB (↑(S.getD i rsD).1:Int) 8++leB (↑(S.getD i rsD).2.1:Int) 4++leB (↑(S.getD i rsD).2.2:Int) 4) ((4+(i+1)*16)) ((Zf2 S (i+1)).map bv) zo Tryz.underlying22 Tryz.underlying9 (by kernel_rfl) zx a2 zy (by simp[Zg];omega) a3.size (by simp[Zg];omega) (by simp[Lu,slB]) fun c1 c6 W8 o8 b4 b9=>?_
  refine zK _ _ ?_
  refine xwm 5 ((i:Int)+1) (↑(i+1):Int) ?_
  have a8:=a3.trans b9
  have a1:=((u6.blkT (a4.below n5.below) n5.blk (by decide)).below a9).grown b4 a2 (by decide)
  exact ze 2 (b3 _ _ _ ⟨i+1,_,_,rfl,rfl,a8,a1,o8,by omega⟩ (by omega))
 refine xwm 10 (244-(↑(4+i*16):Int)) (↑(244-(4+i*16)):Int) ?_
 refine xbi 0 (t2:=3) fun _ _ _ _ zJ zQ zo zx zy zK=>op_appZo (kq:=.i64) (244-(4+i*16)) (244) ((Cd S).map bv) zo Tryz.underlying22 Tryz.underlying3 (by kernel_rfl) zx ho zy (by omega) (by omega) a0.size (by omega) (by rw[show i=S.length by omega];unfold Cd;rw[List.map_append,List.map_replicate];rfl) fun b6 b7 W9 o9 c3 c0=>?_
 refine zK _ _ ?_
 have a5:=a0.trans c0
 exact xe 5 (.tuple #[.slice b6 244 b7,V0 0]) ⟨_,rfl,a5,_,_,rfl,o9⟩
def Qj(l:List Int)(f n:Nat):List Int:=(List.range l.length).map fun i=>l.getD i 0+(if f≤i∧i<f+n then 1 else 0)
theorem Qh(l:List Int)(f n:Nat):(Qj l f n).length=l.length:=by simp[Qj]
theorem Zat{l:List Int}{f n i:Nat}(h:i<l.length):(Qj l f n).getD i 0=l.getD i 0+(if f≤i∧i<f+n then 1 else 0):=by simp[Qj,List.getD,List.getElem?_range h]
theorem Zhf(l:List Int)(f:Nat):Qj l f 0=l:=by
 apply List.ext_getElem (by simp[Qj])
 intro i h1 h2
 simp[Qj,List.getD,h2]
 omega
theorem bumpL_set{l:List Int}{f j:Nat}(h:f+j<l.length):((Qj l f j).map V0).set (f+j) (V0 (l.getD (f+j) 0+1))=(Qj l f (j+1)).map V0:=by
 apply List.ext_getElem?
 intro i
 by_cases hi:i<l.length
 ·by_cases e:f+j=i
  ·subst e
   rw[List.getElem?_set_self (by simp[Qh];exact h)]
   simp[Qj,List.getElem?_range h]
  ·rw[List.getElem?_set_ne e]
   have hc:(f≤i∧i<f+j)↔(f≤i∧i<f+(j+1)):=by omega
   simp only[Qj,List.getElem?_map,List.getElem?_range hi,Option.map_some]
   by_cases q:f≤i∧i<f+j
   ·rw[if_pos q,if_pos (hc.1 q)]
   ·rw[if_neg q,if_neg (fun z=>q (hc.2 z))]
 ·rw[List.getElem?_eq_none (by simp[Qh];omega),List.getElem?_eq_none (by simp[Qh];omega)]
def FreeOk(l:List Int)(f:Int):Prop:=∀ i,i<l.length→(f≤(i:Int)→l.getD i 0=0)∧l.getD i 0≤1073741824
theorem Zem{l:List Int}{f n:Nat}(h:FreeOk l (f:Int))(hc:∀ k,k<l.length→Wl (l.getD k 0)):∀ k,k<(Qj l f n).length→Wl ((Qj l f n).getD k 0):=by
 intro k hk
 rw[Qh] at hk
 rw[Zat hk]
 have h1:=(h k hk).2
 have h2:=hc k hk
 unfold Wl at h2 ⊢
 split<;>omega
def Yn(l:List Int):Nat:=Xn 5 (Zu l l.length).length+bmN l.length+1
theorem Sf{w:World}{b:O0}{n c f N k i:Nat}(h:Sl w (.slice b n c) n ((((Tg f N).drop k).take n).map V0))(hn:k+n≤N)(hi:i<n):b.isSome=true∧w.cell? (Xd b (i*1))=some (V0 ((f+k+i:Nat):Int)):=by
 have a0:(((Tg f N).drop k).take n).length=n:=by simp[Tg];omega
 have h1:=IntsN.elem h a0 hi
 have e:(((Tg f N).drop k).take n).getD i 0=((f+k+i:Nat):Int):=by
  have h2:=Ze3 (f:=f) (N:=N) (k:=k+i) (by omega)
  rw[←Nat.add_assoc] at h2
  rw[←h2]
  simp only[List.getD,List.getElem?_take,List.getElem?_drop,if_pos hi]
 rwa [e] at h1
def Ch(l:List Int)(f k0:Nat)(bs:Bl):Int×Int×Bl:=(((f+k0+(Xn 5 (Zu l l.length).length)+(bmN (Qj l (f+k0) (Yn l)).length)):Nat),(Xx 5 (Zu l l.length) (f+k0) bs).1,Qy (Vz (Xi (Zo (Qj l (f+k0) (Yn l))) (bmN (Qj l (f+k0) (Yn l)).length)) (f+k0+(Xn 5 (Zu l l.length).length)) (Xx 5 (Zu l l.length) (f+k0) bs).2 (bmN (Qj l (f+k0) (Yn l)).length)) ((f+k0+(Xn 5 (Zu l l.length).length)+(bmN (Qj l (f+k0) (Yn l)).length))*256) (Xk 4 (((f+k0+(Xn 5 (Zu l l.length).length)+(bmN (Qj l (f+k0) (Yn l)).length)):Nat):Int) (Cd (Rs (Xi (Zo (Qj l (f+k0) (Yn l))) (bmN (Qj l (f+k0) (Yn l)).length)) (f+k0+(Xn 5 (Zu l l.length).length)) (bmN (Qj l (f+k0) (Yn l)).length)))))
theorem Zfb(l:List Int)(q n:Nat):bmN (Qj l q n).length=bmN l.length:=by rw[Qh]
theorem Fj{w:World}{b:O0}{n c q i:Nat}{l:List Int}(h:Sl w (.slice b n c) n ((Qj l q i).map V0))(hn:l.length=n)(hi:q+i<n):b.isSome=true∧w.cell? (Xd b ((q+i)*1))=some (V0 (l.getD (q+i) 0)):=by
 have h1:=IntsN.elem h (by rw[Qh];exact hn) hi
 rw[Zat (by omega),if_neg (by omega),Int.add_zero] at h1
 exact h1
def ClosM(B Bx bl:Nat)(L:List (List Int))(q i:Nat)(w:World)(e:Ending)(w':World):Prop :=
 ∃ u p c,e=.returned u∧Below B w w'∧Zd [231,217] w w'∧Blk w' bl [.slice p (i+1) c] 231∧w'.ownsRow Bx 217 3 (.slice p (i+1) c) (i+1) (rsL L q (i+1))∧FrB Bx [bl] w w'
theorem Zhp(B Bx bl:Nat)(p:O0)(c:Nat)(L:List (List Int))(q i:Nat)(w:World)(hBm:B≤Bx)(hBx:Bx≤w.heap.size)(hBw:B≤w.heap.size)(hBl:B≤bl)(kl:Blk w bl [.slice p i c] 231)(hup:w.ownsRow Bx 217 3 (.slice p i c) i (rsL L q i))(hi:i≤100000) :
 C0 126 #[.agg #[V0 (↑(q+i):Int),V0 (↑(Yg (L.getD i [])):Int),V0 (↑(Xj (L.getD i [])):Int)],P0 bl] w (ClosM B Bx bl L q i w):=by
 have hZ:FrZ Bx [bl] w w:=FrZ.refl hBx
 refine zin 7 Tryz.func126 ?_
 refine xa 2 [V0 (↑(q+i):Int),V0 (↑(Yg (L.getD i [])):Int),V0 (↑(Xj (L.getD i [])):Int)] 217 fun b1 W1 n1=>?_
 have a6:=Zr hup n1
 have a3:=kl.below n1.below
 refine xb 3 0 a3 ?_
 refine xlv 0 n1.blk.rp ?_
 refine xbs 0 1 [V0 (↑(q+i):Int),V0 (↑(Yg (L.getD i [])):Int),V0 (↑(Xj (L.getD i [])):Int)] 217 fun b2 W2 n2=>?_
 have b0:=n2.ne n1.blk
 have a1:=Zb hup n1.below
 have a8:=Zr a1 n2
 have a0:=Zb a1 n2.below
 have hB:=blB (blB (Below.refl B w) hBw n1.below) hBw n2.below
 refine xbi 0 fun _ _ _ _ zJ zQ zo zx zy zK=>Zy (m:=1) (news:=[V0 (↑(q+i):Int),V0 (↑(Yg (L.getD i [])):Int),V0 (↑(Xj (L.getD i [])):Int)]) (.agg #[V0 0,V0 0,V0 0]) 3 24 (i+1) ((rsL L q (i+1))) zo Tryz.underlying231 (by kernel_rfl) rfl (by decide) zx a0 zy (n2.blk.sl 1 1 (by decide) (by decide)) rfl (by simp[Value.oneCell']) (by unfold maxLen;omega) (by omega) (Nat.le_trans hBx hB.size) (by rfl) (by rw[rsL_succ];rfl) fun b4 b5 W3 o3 a9 b3=>?_
 refine zK _ _ ?_
 have a2:=(a3.below n2.below).grown a9 a0 (by decide)
 refine xs 0 a2 [.slice b4 (i+1) b5] fun W4 u4 k4=>?_
 have a5:=u4.below (hB.trans (b3.mono hBm)) hBl
 have hO:=(((show Zd [231,217] w _ from(Zd.of_below n1.below)).trans (Zd.of_below n2.below)).trans (Zd.of_grown a9 a0 (by decide))).trans (Zd.of_upd u4 a2 (by decide))
 have a4:=u4.own2 o3 a2 (by decide)
 have a7:=(((hZ.below n1.below).below n2.below).grown a9 a0).upd u4 (by simp)
 exact xe 1 (.tuple #[]) ⟨_,_,_,rfl,a5,hO,k4,a4,a7.fr⟩
def LayPostM(B ba b g nn cc:Nat)(pa:O0)(ca f N k0:Nat)(bs:Bl)(bl:Nat)(L:List (List Int))(w:World)(e:Ending)(w':World):Prop :=
 ∃ p c,e=.returned .nilIface∧Below B w w'∧Zd [152,5,231,217] w w'∧Fr [ba,g,bl] w w'∧Al B ba b g nn cc pa ca f N (k0+L.length) (Vz L (f+k0) bs L.length) w'∧Blk w' bl [.slice p L.length c] 231∧w'.ownsRow w.heap.size 217 3 (.slice p L.length c) L.length (rsL L (f+k0) L.length)
theorem plot_layM(B ba b g nn cc:Nat)(pa:O0)(ca f N k0:Nat)(bs:Bl)(bl B2:Nat)(pl:O0)(cl:Nat)(gs:List (Nat×Nat))(L:List (List Int))(w:World)(hC:AlC B ba nn cc ca f N)(hA:Al B ba b g nn cc pa ca f N k0 bs w)(hL:Lists w B2 (.slice pl L.length cl) gs L)(hS:∀ i,i<L.length→Hq (L.getD i [])∧(L.getD i []).length≤960)(hf1:1≤f)(hk:k0+L.length≤N)(kl:Blk w bl [S0] 231)(hBl:B≤bl)(hBw:B≤w.heap.size) :
 C0 115 #[P0 ba,.slice pl L.length cl,.func (.func 126) #[] #[P0 bl]] w (LayPostM B ba b g nn cc pa ca f N k0 bs bl L w):=by
 have d3:=hC.hf
 have d1:=hC.hn
 refine zin 51 Tryz.func115 ?_
 have hB:=Below.refl B w
 refine zl 14 51 (fun zm d0 V=>∃ (i:Nat) (p:O0) (c:Nat),d0=[(0,P0 ba),(2,.func (.func 126) #[] #[P0 bl]),(15,.slice pl L.length cl),(16,V0 (L.length:Int)),(17,V0 (i:Int))]∧zm=L.length-((i:Int)).toNat∧Below B w V∧Fr [ba,g,bl] w V∧Zd [152,5,231,217] w V∧Blk V bl ([.slice p i c]) 231∧Al B ba b g nn cc pa ca f N (k0+i) (Vz L (f+k0) bs i) V∧Lists V B2 (.slice pl L.length cl) gs L∧V.ownsRow w.heap.size 217 3 (.slice p i c) i (rsL L (f+k0) i)∧i≤L.length) ⟨0,none,0,rfl,rfl,hB,(Fr.refl _ _),(Zd.refl _ _),kl,hA,hL,World.ownsRow_nil _ _ _ _,Nat.zero_le _⟩ ?_
 rintro _ _ W1 ⟨i,p,c,rfl,rfl,a5,a8,a9,a1,hA,hL,b3,hi⟩ J1 c3 r1
 refine xid 6 ((i:Int)<(L.length:Int)) (fun c5=>?_) (fun c5=>?_)
 ·refine xx 6 _ L.length i 1 (Lists.elem hL rfl (k:=i) (by omega)).1 ?_
  refine xl 0 ((Lists.elem hL rfl (k:=i) (by omega)).2) ?_
  refine xc 6 (args:=#[.slice (some ⟨(gs.getD i (0,0)).1,0,none⟩) ((L.getD i []).length) ((gs.getD i (0,0)).2)]) (Zen _ _ (L.getD i []) _ (hS i (by omega)).1 (hS i (by omega)).2 (Ze (hL.each i (by omega)))) ?_
  rintro _ W3 ⟨_,rfl,a4,g6,rfl,h6⟩
  have b5:=hA.below a4
  have a2:=a9.trans (Zd.of_below a4)
  have c1:=Zf h6 a5.size
  have b0:=blB a5 hBw a4
  refine xc 21 (args:=#[P0 ba,V0 3,.slice (S1 g6) 244 244]) (Pi B ba b g nn cc pa ca f N (k0+i) (Vz L (f+k0) bs i) 3 (S1 g6) 244 (Jz (L.getD i [])) (f+k0+i) 244 _ (Nat.add_assoc _ _ _).symm (Va _ _) hC b5 (by omega) (by decide) (by decide) (fun W _ a2=>Yi (Ze (Zi c1 a2 (by decide))) (Va _ _)) (by decide) (Nat.le_trans hBw b0.size)) ?_
  rintro _ W4 ⟨rfl,c7,b2,c2,hA⟩
  have b1:=(hL.below a4).only b2 (by decide)
  refine xr 20 (args:=#[.slice (some ⟨(gs.getD i (0,0)).1,0,none⟩) ((L.getD i []).length) ((gs.getD i (0,0)).2)]) (Zbv _ _ (L.getD i []) _ (hS i (by omega)).2 (Ze (b1.each i (by omega)))) fun W5 a3=>?_
  have d2:Yg (L.getD i [])≤960:=Nat.le_trans (Dp _ _) (hS i (by omega)).2
  have d4:Xj (L.getD i [])≤960:=Nat.le_trans (Rm _) (hS i (by omega)).2
  have a6:=blB (b0.trans c7) hBw a3
  have a0:=((a1.below a4).only b2 (by decide)).below a3
  have a7:=Zb (Zi (Zb b3 a4) b2 (by decide)) a3
  refine xc 13 (args:=#[.agg #[V0 (↑(f+k0+i):Int),V0 (↑(Yg (L.getD i [])):Int),V0 (↑(Xj (L.getD i [])):Int)],P0 bl]) (Zhp B w.heap.size bl p c L (f+k0) i _ hBw a6.size (Nat.le_trans hBw a6.size) hBl a0 a7 (by omega)) ?_
  rintro _ W6 ⟨_,p9,c9,rfl,c4,b4,c6,b3,c8⟩
  refine xwm 4 ((i:Int)+1) (↑(i+1):Int) ?_
  have b9:=(hA.below a3).only b4 (by decide)
  have b8:=(b1.below a3).only b4 (by decide)
  have b6:=a6.trans c4
  have c0:=(Fr.trans_B (((a8.trans (Fr.of_below a4)).trans (c2.mono (by simp))).trans (Fr.of_below a3)) c8 (by simp))
  have b7:=((a2.trans (b2.wide)).trans (Zd.of_below a3)).trans (b4.wide)
  exact ze 2 (c3 _ _ _ ⟨i+1,_,_,rfl,rfl,b6,c0,b7,c6,b9,b8,b3,by omega⟩ (by omega))
 refine xe 11 .nilIface ?_
 obtain rfl:i=L.length:=by omega
 exact⟨_,_,rfl,a5,a9,a8,hA,a1,b3⟩
structure Sin(w W:World):Prop where
 b:Below w.heap.size w W
theorem Sin.below{w W V:World}(h:Sin w W)(hb:B3 W V):Sin w V:=⟨bln h.b hb⟩
theorem Sin.trans{w W V:World}(h:Sin w W)(hb:Below w.heap.size W V):Sin w V:=⟨h.b.trans hb⟩
theorem Sin.upd{w W V:World}{b:Nat}(h:Sin w W)(u:Upd W b V)(hb:w.heap.size≤b):Sin w V:=⟨u.below h.b hb⟩
theorem rs_ok{L:List (List Int)}{q n:Nat}(hS:∀ i,i<L.length→Hq (L.getD i [])∧(L.getD i []).length≤960)(hn:L.length=n)(h1:1≤q)(h2:q+n≤14400)(h3:n≤14):Er (Rs L q n):=by
 refine⟨by rw[Fc];exact h3,fun i hi=>?_⟩
 rw[Fc] at hi
 rw[Rs_get hi]
 have hc:=(hS i (by omega)).2
 exact⟨by show 1≤q+i;omega,by show q+i≤14399;omega,Nat.le_trans (Dp _ _) hc,Nat.le_trans (Rm _) hc⟩
theorem Oz(j:Nat)(B ba b g nn cc:Nat)(pa:O0)(ca f N k0:Nat)(bs:Bl)(w:World)(hC:AlC B ba nn cc ca f N)(hA:Al B ba b g nn cc pa ca f N k0 bs w)(hk:k0≤N)(hN:N≤1000000)(hj:j≤1000000)(hjn:j≤N-k0) :
 C0 125 #[P0 ba,V0 (j:Int)] w (Yy (fun w' r=>∃ q c2,r=.slice q j c2∧w'.ownsRow w.heap.size 3 1 (.slice q j c2) j ((((Tg f N).drop k0).take j).map V0)) w):=by
 have h:=Zcb B ba b pa N ca k0 j (Tg f N) w ⟨hA.blkA,hA.nums,Ze8 _ _,hC.hB,hN,hk⟩ hj
 rwa [Nat.min_eq_left hjn] at h
theorem Cr(n:Nat)(a:O0)(c:Nat)(l:List Int)(w:World)(hn:l.length=n)(h:Sl w (.slice a n c) n (l.map V0))(hl:n≤65536)(hs:Ku l=0):C0 112 #[.slice a n c] w (fun e w'=>∃ pb cb gs po co,e=.returned (.tuple #[.slice pb (bmN n) cb,.slice po (Zu l n).length co,V0 0])∧B3 w w'∧Lists w' w.heap.size (.slice pb (bmN n) cb) gs (Xi (Zo l) (bmN n))∧w'.ownsRow w.heap.size 122 3 (.slice po (Zu l n).length co) (Zu l n).length ((Zu l n).flatMap Kv)):=by
 subst hn;exact Ng a c l w h hl hs
theorem slots_PutN(n:Nat)(a:O0)(c:Nat)(S:List (Nat×Nat×Nat))(w:World)(hn:S.length=n)(hS:Er S)(h:Sts rsC w (.slice a S.length c) S):C0 127 #[.slice a n c] w (Yy (fun w' r=>∃ p c,r=.tuple #[.slice p 244 c,V0 0]∧w'.ownsRow w.heap.size 5 1 (.slice p 244 c) 244 ((Cd S).map bv)) w):=by
 subst hn;exact slots_Put a c S w hS h
theorem leB_get{n w i:Nat}(h:i<w):(leB (n:Int) w).getD i 0=UInt8.ofNat (n/256 ^ i):=by simp[leB,Zp,List.getD,List.getElem?_range h]
theorem Mv{a b:Bl}{m w:Nat}(hm:m<256 ^ w):Zh (a++(leB (m:Int) w++b)) a.length w=m:=by
 rw[Gf w a.length m (fun i hi=>?_),Nat.mod_eq_of_lt hm]
 rw[List.getD,List.getElem?_append_right (by omega),List.getElem?_append_left (by rw[Zg];omega),show a.length+i-a.length=i by omega]
 exact leB_get hi
theorem Zer{x:Nat×Nat×Nat}(h1:x.1≤14399)(h2:x.2.1≤960)(h3:x.2.2≤960):Ez Xs (slB x)=[x.1,x.2.1,x.2.2]:=by
 have e0:Zh (slB x) 0 8=x.1:=by
  have h:=Mv (a:=[]) (b:=leB (x.2.1:Int) 4++leB (x.2.2:Int) 4) (m:=x.1) (w:=8) (by omega)
  simpa [slB,List.append_assoc] using h
 have e1:Zh (slB x) 8 4=x.2.1:=by
  have h:=Mv (a:=leB (x.1:Int) 8) (b:=leB (x.2.2:Int) 4) (m:=x.2.1) (w:=4) (by omega)
  rw[Zg] at h
  simpa [slB,List.append_assoc] using h
 have e2:Zh (slB x) 12 4=x.2.2:=by
  have h:=Mv (a:=leB (x.1:Int) 8++leB (x.2.1:Int) 4) (b:=[]) (m:=x.2.2) (w:=4) (by omega)
  rw[List.length_append,Zg,Zg] at h
  simpa [slB,List.append_assoc] using h
 show Jk (slB x) 0 [8,4,4]=_
 simp only[Jk]
 rw[e0,e1,e2]
theorem slB_ok{x:Nat×Nat×Nat}(h0:1≤x.1)(h1:x.1≤14399)(h2:x.2.1≤960)(h3:x.2.2≤960):Qi Xs (slB x)=0:=by
 have hr:Nf Xs (slB x)=true:=by
  unfold Nf
  rw[Zer h1 h2 h3,show Xs.length=3 from rfl]
  unfold Wn
  rw[show List.range 3=[0,1,2] from rfl]
  simp[inP,Xs]
  omega
 unfold Qi
 rw[if_pos (by rw[Zdn];rfl),if_pos hr]
theorem slB_val{x:Nat×Nat×Nat}(h0:1≤x.1)(h1:x.1≤14399)(h2:x.2.1≤960)(h3:x.2.2≤960):Qf Xs (slB x)=[x.1,x.2.1,x.2.2]:=by
 unfold Qf
 rw[if_pos (slB_ok h0 h1 h2 h3),Zer h1 h2 h3]
theorem Ii(S:List (Nat×Nat×Nat))(i:Nat):∀ k,∃ t,Zf2 S (i+k)=Zf2 S i++t
 | 0=>⟨[],by simp⟩
 | k+1=>by
  obtain⟨t,h⟩:=Ii S i k
  exact⟨t++slB (S.getD (i+k) rsD),by rw[←Nat.add_assoc,Lu,h,List.append_assoc]⟩
theorem Zbw{S:List (Nat×Nat×Nat)}{i:Nat}(hi:i<S.length):Hc (Cd S) i=slB (S.getD i rsD):=by
 obtain⟨t,h⟩:=Ii S (i+1) (S.length-(i+1))
 rw[show i+1+(S.length-(i+1))=S.length by omega,Lu] at h
 unfold Hc Cd
 rw[h,List.append_assoc,List.append_assoc,List.drop_left' (Dl S i),List.take_left' (Zdn _)]
theorem Zfj{S:List (Nat×Nat×Nat)}(h:S.length≤15):Zh (Cd S) 0 4=S.length:=by
 obtain⟨t,ht⟩:=Ii S 0 S.length
 rw[Nat.zero_add] at ht
 have h2:=Mv (a:=[]) (b:=t++List.replicate (244-(4+S.length*16)) 0) (m:=S.length) (w:=4) (by omega)
 unfold Cd
 rw[ht,show Zf2 S 0=leB (S.length:Int) 4 from by simp[Zf2],List.append_assoc]
 simpa using h2
theorem Za4{S:List (Nat×Nat×Nat)}(h:Er S):Oj (Cd S)=0∧Bj (Cd S) S.length=S:=by
 have a0:=h.1
 have hv:∀ i,i<S.length→Qi Xs (Hc (Cd S) i)=0∧sltX (Cd S) i=S.getD i rsD:=fun i hi=>by
  obtain⟨h0,h1,h2,h3⟩:=h.2 i hi
  constructor
  ·rw[Zbw hi];exact slB_ok h0 h1 h2 h3
  ·unfold sltX He
   rw[Zbw hi,slB_val h0 h1 h2 h3]
   rfl
 have hz:Qm ((Cd S).drop (4+S.length*16))=true:=by
  unfold Cd
  rw[List.drop_left' (Dl _ _)]
  exact Bh fun j _=>Lg _ j
 have hs:∀ n,n≤S.length→Pv (Cd S) n=0:=by
  intro n
  induction n with
  | zero=>intro _;rfl
  | succ n ih=>intro hn;exact Te (ih (by omega)) (hv n (by omega)).1
 constructor
 ·unfold Oj As
  rw[Zfj (by omega),hz,decide_eq_true (by omega)]
  exact hs _ (Nat.le_refl _)
 ·apply List.ext_getElem (by rw[Zbx])
  intro i h1 h2
  have:=(hv i h2).2
  rw[show S.getD i rsD=S[i] from by simp[List.getD,h2]] at this
  simp[Bj,this]
theorem Ej{l:List Int}(h:l.length≤960):Zh (Jz l) 0 4=l.length:=by
 have h2:=Mv (a:=[]) (b:=(List.range 240).map (g4B l l.length)) (m:=l.length) (w:=4) (by omega)
 simpa [Jz,Nu] using h2
theorem Ag(l:List Int)(j:Nat):atI l l.length j=l.getD j 0:=by
 unfold atI
 split
 ·rfl
 ·simp[List.getD,Nat.le_of_not_lt (by assumption)]
theorem Zec{l:List Int}(h:Hq l){i:Nat}(hi:i<960):(bitN (Jz l) i:Int)=l.getD i 0:=by
 unfold bitN
 rw[show(Jz l).getD (4+i/4) 0=g4B l l.length (i/4) from Zev l l.length (by omega)]
 have b0:=Jo h (4*(i/4))
 have b1:=Jo h (4*(i/4)+1)
 have b2:=Jo h (4*(i/4)+2)
 have b3:=Jo h (4*(i/4)+3)
 unfold g4B g4
 rw[Ag,Ag,Ag,Ag,UInt8.toNat_ofNat']
 obtain e|e|e|e:i%4=0∨i%4=1∨i%4=2∨i%4=3:=by omega
 ·rw[show l.getD i 0=l.getD (4*(i/4)) 0 by rw[show 4*(i/4)=i by omega],e,show 2 ^ (0*2)=1 from rfl];omega
 ·rw[show l.getD i 0=l.getD (4*(i/4)+1) 0 by rw[show 4*(i/4)+1=i by omega],e,show 2 ^ (1*2)=4 from rfl];omega
 ·rw[show l.getD i 0=l.getD (4*(i/4)+2) 0 by rw[show 4*(i/4)+2=i by omega],e,show 2 ^ (2*2)=16 from rfl];omega
 ·rw[show l.getD i 0=l.getD (4*(i/4)+3) 0 by rw[show 4*(i/4)+3=i by omega],e,show 2 ^ (3*2)=64 from rfl];omega
theorem bitsB_ok{l:List Int}(h:Hq l)(hl:l.length≤960):Iq (Jz l)=true:=by
 rw[Mi]
 refine⟨Va _ _,by rw[Ej hl];exact hl,fun i hi hc=>?_⟩
 rw[Ej hl] at hc
 have:=Zec h hi
 rw[show l.getD i 0=0 from by simp[List.getD,hc]] at this
 omega
theorem Zdr{l:Bl}{kind:Int}{k:Nat}{li:Bl}(h1:1≤kind)(h2:kind≤4)(hk:k<l.length/256)(h4:k<14400)(hli:li.length=244)(hb:Yj l k=Xk kind (k:Int) li):inE l kind (k:Int)=0∧inB l (k:Int)=li:=by
 constructor
 ·rw[Ss rfl rfl hk,hb];exact Zau h1 h2 (by omega) (by omega) (by omega)
 ·rw[Sn rfl,hb,in_seal (by omega)];unfold Za7;rw[hli,Nat.sub_self];simp
def Yp(u n:Nat):List Int:=(List.range n).map fun i=>if i<u then 1 else 0
theorem Xl(u n:Nat):(Yp u n).length=n:=by simp[Yp]
theorem Za3{u n i:Nat}(h:i<n):(Yp u n).getD i 0=if i<u then 1 else 0:=by simp[Yp,List.getD,List.getElem?_range h]
theorem Zfh(u n i:Nat):0≤(Yp u n).getD i 0∧(Yp u n).getD i 0≤1:=by
 by_cases h:i<n
 ·rw[Za3 h];split<;>omega
 ·rw[show(Yp u n).getD i 0=0 from by simp[Yp,List.getD,Nat.le_of_not_lt h]];omega
theorem Gh(u n k:Nat):Zu (Yp u n) k=[]:=by
 induction k with
 | zero=>rfl
 | succ k ih=>rw[Pr (by have:=Zfh u n k;omega),ih]
theorem Md{u n:Nat}(h:n≤65536):Ku (Yp u n)=0:=by
 unfold Ku
 rw[if_neg (by rw[Xl];omega),if_pos fun k _=>by have:=Zfh u n k;unfold Wl;omega]
theorem Ck{u n:Nat}:FreeOk (Yp u n) (u:Int):=fun i hi=>by
 rw[Xl] at hi
 rw[Za3 hi]
 constructor
 ·intro h;rw[if_neg (by omega)]
 ·split<;>omega
theorem Oc:Xn 5 0=1:=by
 unfold Xn Gv
 rw[show ovN 0 (Yz 5 true)=1 from by decide,Hp (by decide)]
 rfl
theorem Ci(u n:Nat):Yn (Yp u n)=2+bmN n:=by
 unfold Yn
 rw[Gh,List.length_nil,Oc,Xl];omega
theorem self_make(n:Nat):Hs (Value.int .i64 0).cells.toList n=(Yp 0 n).map V0:=by
 rw[show Hs (Value.int .i64 0).cells.toList n=List.replicate n (V0 0) from by
  rw[show(Value.int .i64 0).cells.toList=[Value.int .i64 0] from rfl,Hs]
  induction n with
  | zero=>rfl
  | succ n ih=>rw[List.replicate_succ,List.flatten_cons,ih];rfl]
 apply List.ext_getElem (by simp[Yp])
 intro i h1 h2
 simp[Yp]
theorem self_set{i n:Nat}(h:i<n):((Yp i n).map V0).set i (V0 1)=(Yp (i+1) n).map V0:=by
 apply List.ext_getElem?
 intro j
 by_cases hj:j<n
 ·by_cases e:i=j
  ·subst e
   rw[List.getElem?_set_self (by simp[Yp];exact h)]
   simp[Yp,List.getElem?_range h]
  ·rw[List.getElem?_set_ne e]
   simp only[Yp,List.getElem?_map,List.getElem?_range hj,Option.map_some]
   by_cases q:j<i
   ·rw[if_pos q,if_pos (by omega)]
   ·rw[if_neg q,if_neg (by omega)]
 ·rw[List.getElem?_eq_none (by simp[Yp];omega),List.getElem?_eq_none (by simp[Yp];omega)]
theorem plotN_bdW{l:List Int}(h:l.length≤65536)(ho:(Zu l l.length).length≤32768):2≤Wd l∧Wd l≤80000∧bmN l.length≤69:=by
 have h4:=Js 4 (bmN l.length)
 have h5:=Js 5 (Zu l l.length).length
 have a1:=Ua 4 (bmN l.length)
 have a0:=Ua 5 (Zu l l.length).length
 have hb:bmN l.length≤69:=by unfold bmN;omega
 unfold Wd
 omega
theorem Bo(B ba b g nn cc:Nat)(pa:O0)(ca f N k0:Nat)(bs:Bl)(a:O0)(c:Nat)(l:List Int)(w:World)(hC:AlC B ba nn cc ca f N)(hA:Al B ba b g nn cc pa ca f N k0 bs w)(h:Sl w (.slice a l.length c) l.length (l.map V0))(hl:l.length≤65536)(ho:(Zu l l.length).length≤32768)(hs:Ku l=0)(hf1:1≤f)(hkN:k0≤N)(hk:k0+Wd l≤N)(hBw:B≤w.heap.size) :
 C0 67 #[P0 ba,.slice a l.length c] w (DataP B ba b g nn cc pa ca f N k0 bs l w):=by
 have d8:=hC.hf
 have d3:=hC.hn
 have d7:=plotN_bdW hl ho
 have c9:=Eg hs
 have d6:=Lm l l.length
 have d9:Wd l=(bmN l.length)+Xn 4 (bmN l.length)+Xn 5 (Zu l l.length).length:=rfl
 have d4:=Js 4 (bmN l.length)
 have d5:=Js 5 (Zu l l.length).length
 refine zin 70 Tryz.func67 ?_
 refine xr 11 (args:=#[P0 ba]) (Yw ba b _ _ _ hA.blkA) fun W1 a0=>?_
 refine xc 9 (args:=#[.slice a l.length c]) (Ng a c l _ (h.below a0) (by omega) hs) ?_
 rintro _ W2 ⟨pb,cb,gs,po,co,rfl,a4,hL,b2⟩
 have c0:=(blB (Below.refl B w) hBw a0).size
 have a5:=(hA.below a0).below a4
 refine xr 23 (args:=#[P0 ba]) (Ca ba b pa N ca k0 _ a5.blkA hkN) fun W3 a2=>?_
 refine xr 4 (args:=#[V0 4,V0 (↑(bmN l.length):Int)]) (Qc 4 (bmN l.length) _ (by decide) (by decide) (by omega)) fun W4 a1=>?_
 refine xwm 0 ((↑(bmN l.length):Int)+(↑(Xn 4 (bmN l.length)):Int)) (↑((bmN l.length)+(Xn 4 (bmN l.length))):Int) ?_
 refine xr 2 (args:=#[V0 5,V0 (↑((Zu l l.length).length):Int)]) (Qc 5 (Zu l l.length).length _ (by decide) (by decide) (by omega)) fun W5 a3=>?_
 refine xwm 0 ((↑((bmN l.length)+(Xn 4 (bmN l.length))):Int)+(↑(Xn 5 (Zu l l.length).length):Int)) (↑(((bmN l.length)+(Xn 4 (bmN l.length)))+(Xn 5 (Zu l l.length).length)):Int) ?_
 refine xk 3 (show(decide ((↑(N-k0):Int)<(↑(((bmN l.length)+(Xn 4 (bmN l.length)))+(Xn 5 (Zu l l.length).length)):Int)):Bool)=false from decide_eq_false (by omega)) ?_
 refine xa 4 [S0] 105 fun b6 W6 n6=>?_
 have hX:=(((((show Fr [ba,g] w _ from(Fr.of_below a0)).trans (Fr.of_below a4)).trans (Fr.of_below a2)).trans (Fr.of_below a1)).trans (Fr.of_below a3)).trans (Fr.of_below n6.below)
 have a8:=Zb (Zb (Zb (Zb (Zf b2 c0) a2) a1) a3) n6.below
 have b0:=(((a5.below a2).below a1).below a3).below n6.below
 have b3:=fun(W:World) (hX:Fr ([ba,g]++[b6]) _ W)=>own_keep a8 b0 n6.blk hX
 have b5:=(((hL.below a2).below a1).below a3).below n6.below
 have g6:=n6.ge0 (blB (blB (blB (blB (blB (Below.refl B w) hBw a0) hBw a4) hBw a2) hBw a1) hBw a3)
 have hB:=blB (blB (blB (blB (blB (blB (Below.refl B w) hBw a0) hBw a4) hBw a2) hBw a1) hBw a3) hBw n6.below
 refine xc 8 (args:=#[P0 ba,.slice pb (bmN l.length) cb,.func (.func 116) #[] #[P0 b6]]) (Zhd B ba b g nn cc pa ca f N k0 bs b6 _ pb cb gs (Xi (Zo l) (bmN l.length)) (bmN l.length) (Jn _ _) _ hC b0 b5 (Cv c9.2 _) hf1 (by omega) n6.blk (Nat.le_trans hBw g6) (Nat.le_trans hBw hB.size)) ?_
 rintro _ W7 ⟨p8,c8,rfl,d2,c7,b9,hA,c6,c5⟩
 have c4:=(blB (blB (blB (blB (blB (blB (Below.refl B w) hBw a0) hBw a4) hBw a2) hBw a1) hBw a3) hBw n6.below).size
 replace b2:=b3 _ b9
 refine xb 15 0 c6 ?_
 have a7:=Zf c5 c4
 have a9:=hB.trans d2
 refine xc 0 (args:=#[P0 ba,V0 4,.slice p8 (bmN l.length) c8]) (Gz B ba b g nn cc pa ca f N (k0+(bmN l.length)) (Vz (Xi (Zo l) (bmN l.length)) (f+k0) bs (bmN l.length)) 4 p8 c8 (Xt (Xi (Zo l) (bmN l.length)) (f+k0) (bmN l.length)) (bmN l.length) _ (Jl _ _ _) hC hA (by decide) (by decide) (Sv _ _ _ (by omega)) (by omega) hf1 (by omega) (by omega) (fun W _ h2=>by unfold Sts;rw[Jl];exact Ze (Zi a7 h2 (by decide))) (Nat.le_trans hBw a9.size)) ?_
 rintro _ W8 ⟨rfl,d0,b8,c1,hA⟩
 rw[Jl] at hA
 have a6:=Zi b2 b8 (by decide)
 have b1:=a9.trans d0
 refine xc 21 (args:=#[P0 ba,V0 5,.slice po ((Zu l l.length).length) co]) (Gz B ba b g nn cc pa ca f N (k0+(bmN l.length)+Xn 4 (bmN l.length)) (Xx 4 (Xt (Xi (Zo l) (bmN l.length)) (f+k0) (bmN l.length)) (f+(k0+(bmN l.length))) (Vz (Xi (Zo l) (bmN l.length)) (f+k0) bs (bmN l.length))).2 5 po co (Zu l l.length) (Zu l l.length).length _ rfl hC hA (by decide) (by decide) (Ll _ _ (by omega)) (by omega) hf1 (by omega) (by omega) (fun W _ h2=>Ze (Zi a6 h2 (by decide))) (Nat.le_trans hBw b1.size)) ?_
 rintro _ W9 ⟨rfl,d1,c3,c2,hA⟩
 have b4:=b1.trans d1
 have hO:=((((((((show Zd [152,5,105,122,32] w _ from(Zd.of_below a0)).trans (Zd.of_below a4)).trans (Zd.of_below a2)).trans (Zd.of_below a1)).trans (Zd.of_below a3)).trans (Zd.of_below n6.below)).trans (c7.wide)).trans (b8.wide)).trans (c3.wide)
 have b7:=((Fr.trans_new hX b9 g6).trans (c1.mono (by simp))).trans (c2.mono (by simp))
 refine xe 27 (.tuple #[V0 ((Xx 4 (Xt (Xi (Zo l) (bmN l.length)) (f+k0) (bmN l.length)) (f+(k0+(bmN l.length))) (Vz (Xi (Zo l) (bmN l.length)) (f+k0) bs (bmN l.length))).1),V0 ((Xx 5 (Zu l l.length) (f+(k0+(bmN l.length)+Xn 4 (bmN l.length))) (Xx 4 (Xt (Xi (Zo l) (bmN l.length)) (f+k0) (bmN l.length)) (f+(k0+(bmN l.length))) (Vz (Xi (Zo l) (bmN l.length)) (f+k0) bs (bmN l.length))).2).1),.nilIface]) ?_
 have e1:f+(k0+(bmN l.length))=f+k0+(bmN l.length):=by omega
 have e2:f+(k0+(bmN l.length)+Xn 4 (bmN l.length))=f+k0+(bmN l.length)+Xn 4 (bmN l.length):=by omega
 rw[e2,e1] at hA ⊢
 have e3:k0+(bmN l.length)+Xn 4 (bmN l.length)+Xn 5 (Zu l l.length).length=k0+Wd l:=by omega
 rw[e3] at hA
 exact⟨rfl,b4,hO,b7,hA⟩
theorem Rr(w:World) :
 C0 91 #[] w (Yy (fun w' r=>∃ b,r=.slice (S1 b) 1 1∧w.heap.size≤b∧Blk w' b [V0 8,V0 0,V0 1099511627775] 268) w):=by
 refine zin 3 Tryz.func91 ?_
 refine xbs 8 1 [V0 8,V0 0,V0 1099511627775] 268 fun b1 W1 n1=>?_
 exact xe 4 (.slice (S1 b1) 1 1) ⟨_,rfl,n1.below,b1,rfl,(n1.ge (B4 w)),n1.blk⟩
theorem Nd(w:World) :
 C0 148 #[] w (Yy (fun w' r=>∃ b,r=.slice (S1 b) 4 4∧w.heap.size≤b∧Blk w' b [V0 8,V0 0,V0 16384,V0 8,V0 0,V0 2147483647,V0 4,V0 0,V0 16777215,V0 4,V0 0,V0 16777215] 268) w):=by
 refine zin 6 Tryz.func148 ?_
 refine xbs 11 4 [V0 8,V0 0,V0 16384,V0 8,V0 0,V0 2147483647,V0 4,V0 0,V0 16777215,V0 4,V0 0,V0 16777215] 268 fun b1 W1 n1=>?_
 exact xe 4 (.slice (S1 b1) 4 4) ⟨_,rfl,n1.below,b1,rfl,(n1.ge (B4 w)),n1.blk⟩
theorem Bu(ps:List Pc)(N:List Int)(gl gn:O0)(cl cn n:Nat)(w:World)(hps:Jt ps)(hn:n=ps.length)(hNl:N.length=n)(hP:Sts Zcn w (.slice gl ps.length cl) ps)(hN:Sl w (.slice gn n cn) n (N.map V0))(h:Wn ps N n=true) :
  C0 157 #[.slice gl ps.length cl,.slice gn n cn] w (Ret (.string ⟨(Ze6 ps N ps.length).toArray⟩) w):=(Fp ps N gl gn cl cn n w hps hn hNl hP hN).mono (by
 rintro e W q
 rcases q with ⟨q,_⟩|⟨_,rfl,hb⟩
 ·rw[h] at q;cases q
 ·exact⟨rfl,hb⟩)
theorem map_or{b t:Int}(h1:0≤b∧b≤65535)(h2:0≤t∧t≤16777215):IntKind.i64.wrap (↑(BitVec.ofInt 64 (b*16777216) ||| BitVec.ofInt 64 t).toNat:Int)=b*16777216+t:=by
 obtain⟨p,rfl⟩:∃ p:Nat,b=(p:Int):=⟨b.toNat,by omega⟩
 obtain⟨q,rfl⟩:∃ q:Nat,t=(q:Int):=⟨t.toNat,by omega⟩
 have e:((p:Int)*16777216)=((p*16777216:Nat):Int):=by omega
 rw[e,BitVec.ofInt_natCast,BitVec.ofInt_natCast,BitVec.toNat_or,BitVec.toNat_ofNat,BitVec.toNat_ofNat,Nat.mod_eq_of_lt (by omega),Nat.mod_eq_of_lt (by omega)]
 have h:=Nat.two_pow_add_eq_or_of_lt (i:=24) (b:=q) (by omega) p
 rw[show(2:Nat) ^ 24*p=p*16777216 by omega] at h
 rw[←h]
 exact(IntWalk.i64_in _ (by omega)).trans (by omega)
theorem Zg8(m:Mp)(w:World)(h1:0≤m.2.1∧m.2.1≤65535)(h2:0≤m.2.2∧m.2.2≤16777215) :
 C0 181 #[V0 m.2.1,V0 m.2.2] w (Ret (.string ⟨(mapV m).toArray⟩) w):=by
 refine zin 26 Tryz.func181 ?_
 refine xgk 11 [6,7] (show(decide (m.2.1<(0:Int)):Bool)=false from decide_eq_false (by omega)) ?_
 refine xgk 4 [9,10,11] (show(decide (m.2.1≥(65536:Int)):Bool)=false from decide_eq_false (by omega)) ?_
 refine xgk 4 [13,14,15] (show(decide (m.2.2<(0:Int)):Bool)=false from decide_eq_false (by omega)) ?_
 refine xk 5 (show(decide (m.2.2>(16777215:Int)):Bool)=false from decide_eq_false (by omega)) ?_
 refine xc 4 (args:=#[]) (Rr _) ?_
 rintro _ W4 ⟨_,rfl,a2,gl,rfl,gg,kl⟩
 refine xq 1 (congrArg V0 (show(IntKind.i64.wrap (m.2.1*2 ^ 24):Int)=m.2.1*16777216 from IntWalk.i64_in _ (by omega))) ?_
 refine xq 1 (congrArg V0 (show(IntKind.i64.wrap (↑(BitVec.ofInt 64 (m.2.1*16777216) ||| BitVec.ofInt 64 m.2.2).toNat:Int):Int)=m.2.1*16777216+m.2.2 from map_or h1 h2)) ?_
 refine xbs 0 1 [V0 (m.2.1*16777216+m.2.2)] 3 fun b5 W5 n5=>?_
 have a0:=kl.below n5.below
 refine xr 0 (args:=#[.slice (S1 gl) 1 1,.slice (S1 b5) 1 1]) (Bu mapP [m.2.1*16777216+m.2.2] (S1 gl) (S1 b5) 1 1 1 _ mapP_ok rfl rfl (a0.sl 1 1 (by decide) (by decide)) (n5.blk.sl 1 1 (by decide) (by decide)) (by unfold Wn;rw[show List.range 1=[0] from rfl];simp[inP,mapP,List.getD];omega)) fun W6 a1=>?_
 have hB:=bln (bln a2 n5.below) a1
 exact xe 4 (.string ⟨(mapV m).toArray⟩) ⟨rfl,hB⟩
theorem Aa(data n:Int)(d:Dv)(w:World)(h:DevOk data d)(hn:0≤n∧n≤16384) :
 C0 111 #[.agg #[V0 n,V0 d.1.2.1,V0 d.1.2.2.1,V0 d.1.2.2.2]] w (Ret (.string ⟨(Lv n d).toArray⟩) w):=by
 refine zin 14 Tryz.func111 ?_
 refine xa 2 [V0 n,V0 d.1.2.1,V0 d.1.2.2.1,V0 d.1.2.2.2] 176 fun b1 W1 n1=>?_
 refine xd 4 .z ?_
 have k1:=n1.blk.below (Za W1)
 refine xb (.e [1] 2) 0 k1 ?_
 refine xb (.e [3] 4) 1 k1 ?_
 refine xb (.e [5] 6) 2 k1 ?_
 refine xb (.e [7] 8) 3 k1 ?_
 refine xm2 0 0 9 ?_ ?_
 ·refine yc 0 (args:=#[]) .z (Nd _) ?_
  rintro _ W2 ⟨_,rfl,a2,gl,rfl,gg,kl⟩
  refine⟨a2,?_⟩
  refine xbs (.o [] 9) 4 [V0 n,V0 d.1.2.1,V0 d.1.2.2.1,V0 d.1.2.2.2] 3 fun b3 W3 n3=>?_
  have a0:=kl.below n3.below
  refine xr (.o [] 10) (args:=#[.slice (S1 gl) 4 4,.slice (S1 b3) 4 4]) (Bu detP [n,d.1.2.1,d.1.2.2.1,d.1.2.2.2] (S1 gl) (S1 b3) 4 4 4 _ detP_ok rfl rfl (a0.sl 4 4 (by decide) (by decide)) (n3.blk.sl 4 4 (by decide) (by decide)) (by have a:=h.tx;have b:=h.made;have c:=h.snap;unfold Wn;rw[show List.range 4=[0,1,2,3] from rfl];simp[inP,detP,List.getD];omega)) fun W4 a4=>?_
  have hB:=bln (bln (bln (bln n1.below (Za W1)) a2) n3.below) a4
  exact xe (.r [11] 3) (.string ⟨(Lv n d).toArray⟩) ⟨rfl,hB⟩
 refine xbs 0 4 [V0 n,V0 d.1.2.1,V0 d.1.2.2.1,V0 d.1.2.2.2] 3 fun b5 W5 n5=>?_
 refine yc (.o [] 0) (args:=#[]) .z (Nd _) ?_
 rintro _ W6 ⟨_,rfl,a1,gl,rfl,gg,kl⟩
 refine⟨a1,?_⟩
 have k5:=n5.blk.below a1
 refine xr (.o [] 10) (args:=#[.slice (S1 gl) 4 4,.slice (S1 b5) 4 4]) (Bu detP [n,d.1.2.1,d.1.2.2.1,d.1.2.2.2] (S1 gl) (S1 b5) 4 4 4 _ detP_ok rfl rfl (kl.sl 4 4 (by decide) (by decide)) (k5.sl 4 4 (by decide) (by decide)) (by have a:=h.tx;have b:=h.made;have c:=h.snap;unfold Wn;rw[show List.range 4=[0,1,2,3] from rfl];simp[inP,detP,List.getD];omega)) fun W7 a3=>?_
 have hB:=bln (bln (bln (bln n1.below (Za W1)) n5.below) a1) a3
 exact xe (.r [11] 3) (.string ⟨(Lv n d).toArray⟩) ⟨rfl,hB⟩
theorem F2_len(L:List Dv):Xm (F2 L)=Bq L+Xn 1 L.length+Xn 3 L.length:=by
 have e1:Xm (F1 L)=Xm (Mk L)+Xn 1 (Bd L (Zb0 L)).length:=Kt _ _
 have e2:Xm (F2 L)=Xm (F1 L)+Xn 3 (Bz L (Lb L)).length:=Kt _ _
 rw[Kl] at e1
 rw[Kk] at e2
 rw[Zgm] at e1
 omega
theorem Zgl(x:Nat)(L:List Dv):Cc x L=1+Xm (F2 L)+Wd (Ye x L):=by
 have h:=F2_len L
 have h2:=Mr x L
 unfold Cc Wd
 rw[h2,Yq]
 omega
theorem Od{x:Nat}{L:List Dv}{k:Nat}(h:Pw x L≤k):1+Xm (F2 L)+Wd (Ye x L)+2+bmN k≤k:=by
 have a:=need_room (m:=Cc x L+2) h
 have b:=Zgl x L
 omega
theorem Zbe{L:List Dv}(i:Nat):Xm (Mk (L.take i))≤Xm (Mk L):=by
 have e:Mk L=Mk (L.take i)++Mk (L.drop i):=by rw[←Fg,List.take_append_drop]
 rw[e,Ep];omega
theorem Zhe(p:O0)(c n x k:Nat)(t u v:Int)(Z:List Zv)(w:World)(hZ:Z.length=n)(hP:DevsR w p c Z)(hk:PoolOk t u v (x:Int) (Z.map Prod.fst))(h1:Pw x (Z.map Prod.fst)≤k)(h2:k≤14400) :
 C0 35 #[.agg #[V0 t,V0 u,V0 v,V0 (x:Int),.slice p n c],V0 (k:Int)] w (Ret (.bool true) w):=by
 have a2:1≤Pw x (Z.map Prod.fst):=by unfold Pw Zdq;omega
 obtain⟨m,hm⟩:∃ y,Pw x (Z.map Prod.fst)=y:=⟨_,rfl⟩
 rw[hm] at h1 a2
 refine zin 19 Tryz.func35 ?_
 refine xa 2 [V0 t,V0 u,V0 v,V0 (x:Int),.slice p n c] 28 fun b1 W1 n1=>?_
 refine xlv 5 n1.blk.rp ?_
 refine xr 0 (args:=#[.agg #[V0 t,V0 u,V0 v,V0 (x:Int),.slice p n c]]) (by have q:=size_Need p c n x t u v Z _ hZ (hP.below n1.below) hk;rw[hm] at q;exact q) fun W2 a1=>?_
 refine xgk 8 [9,10] (show(decide ((m:Int)>(0:Int)):Bool)=true from decide_eq_true (by omega)) ?_
 refine xgk 5 [13,14,15] (show(decide ((k:Int)≥(m:Int)):Bool)=true from decide_eq_true (by omega)) ?_
 have a0:=bln n1.below a1
 exact xe 7 (.bool (decide ((k:Int)≤(14400:Int)))) ⟨by rw[decide_eq_true (by omega)],a0⟩
theorem Vj(w:World) :
 C0 37 #[.nilIface] w (Ret (.tuple #[]) w):=by
 refine zin 7 Tryz.func37 ?_
 exact xe 8 (.tuple #[]) ⟨rfl,(B4 w)⟩
theorem Og(B ba b g nn cc:Nat)(pa:O0)(ca N:Nat)(bs:Bl)(F:List Hv)(t:Int)(a:O0)(c n:Nat)(l:List Ent)(w:World)(hl:l.length=n)(hC:AlC B ba nn cc ca 1 N)(hA:AlF B ba b g nn cc pa ca N bs F w)(hok:Lx (t,l))(hr:Xm (F++[(t,l)])≤N)(hin:∀ W,Below B w W→Zd [152,5,32] w W→Sl W (.slice a n c) n (l.flatMap Kv))(hBw:B≤w.heap.size) :
 C0 108 #[.agg #[P0 ba],V0 t,.slice a n c] w ((fun e w'=>e=.returned (V0 (↑(Xm (F++[(t,l)])):Int))∧Below B w w'∧Zd [152,5,32] w w'∧AlF B ba b g nn cc pa ca N bs (F++[(t,l)]) w')):=by
 refine zin 20 Tryz.func108 ?_
 refine xa 2 [P0 ba] 99 fun b1 W1 n1=>?_
 refine xb 6 0 n1.blk ?_
 have hB:=blB (Below.refl B w) hBw n1.below
 have hO:=(show Zd [152,5,32] w _ from(Zd.of_below n1.below))
 have a3:=hA.below n1.below
 refine xc 2 (args:=#[P0 ba,V0 t,.slice a n c]) (build_F B ba b g nn cc pa ca N bs F t a c n l _ hl hC a3 hok hr (fun W h1 h2=>hin W (hB.trans h1) (hO.trans h2)) (Nat.le_trans hBw hB.size)) ?_
 rintro _ W2 ⟨rfl,a6,a5,a7,hA⟩
 refine xr 10 (args:=#[.nilIface]) (Vj _) fun W3 a1=>?_
 have a2:=blB (hB.trans a6) hBw a1
 have a0:=(hO.trans a5).trans (Zd.of_below a1)
 have a4:=hA.below a1
 exact xe 9 (V0 (↑(Xm (F++[(t,l)])):Int)) ⟨rfl,a2,a0,a4⟩
theorem lay_maps(p:O0)(c:Nat)(data:Int)(m:List Mp)(w:World)(h:Sts mapC w (.slice p m.length c) m)(hok:MapsOk data m)(hd:data≤65536)(hf:m.length≤16384) :
 C0 109 #[.slice p m.length c] w (Yy (fun w' r=>∃ q d,r=.slice q m.length d∧w'.ownsRow w.heap.size 122 3 (.slice q m.length d) m.length ((Ma m).flatMap Kv)) w):=by
 have b7:=Sl.len h
 refine zin 25 Tryz.func109 ?_
 have hB:=Below.refl w.heap.size w
 refine zl 19 25 (fun zm b2 V=>∃ (k:Nat) (p1:O0) (c1:Nat),b2=[(2,S0),(3,.slice p1 k c1),(6,.slice p m.length c),(7,V0 (m.length:Int)),(8,V0 (k:Int))]∧zm=m.length-((k:Int)).toNat∧B3 w V∧V.ownsRow w.heap.size 122 3 (.slice p1 k c1) k (((Ma m).take k).flatMap Kv)∧k≤m.length) ⟨0,none,0,rfl,rfl,hB,World.ownsRow_nil _ _ _ _,Nat.zero_le _⟩ ?_
 rintro _ _ W1 ⟨k,p1,c1,rfl,rfl,a0,hl,hk⟩ J1 b1 r1
 refine xid 6 ((k:Int)<(m.length:Int)) (fun b4=>?_) (fun b4=>?_)
 ·have b8:=hok.each (m.getD k mpD) (gd_mem _ (by omega))
  refine xx 6 _ m.length k 3 (Sts.cell h Pg mpD (k:=k) (i:=0) (by omega) rfl).1 ?_
  refine xlv 0 (Sts.rp (k:=k) (h.below a0) Pg mpD (by omega) (by decide)) ?_
  refine xa 0 [V0 0,V0 0,V0 0] 46 fun b3 W3 n3=>?_
  have g3:=n3.ge a0
  refine xsv 0 n3.blk [V0 ((m.getD k mpD).1),V0 ((m.getD k mpD).2.1),V0 ((m.getD k mpD).2.2)] fun W4 u4 k4=>?_
  refine xd 2 (.t w.heap.size [122]) ?_
  have a1:=k4.below (Za W4)
  refine xbt (.e [0,1] 2) 0 w.heap.size [122] a1 ?_
  refine xbt (.e [3] 4) 1 w.heap.size [122] a1 ?_
  refine xbt (.e [5] 6) 2 w.heap.size [122] a1 ?_
  refine xr (.o [] 7) (args:=#[V0 ((m.getD k mpD).2.1),V0 ((m.getD k mpD).2.2)]) (Zg8 (m.getD k mpD) _ ⟨by omega,by omega⟩ ⟨by omega,by omega⟩) fun W5 a8=>?_
  refine xbs (.o [8] 9) 1 [V0 ((m.getD k mpD).1),.string ⟨(mapV (m.getD k mpD)).toArray⟩,V0 0] 122 fun b6 W6 n6=>?_
  have a2:=bln (bln (u4.below (bln a0 n3.below) g3) (Za W4)) a8
  have g6:=n6.ge a2
  have a5:=Zb (Zb (u4.own2 (Zb hl n3.below) n3.blk (by decide)) (Za W4)) a8
  have a7:=Zr a5 n6
  have a3:=Zb a5 n6.below
  have a4:=bln a2 n6.below
  refine ybi (.o [] 10) (.t w.heap.size [122]) fun _ _ _ _ zJ zQ zo zx zy zK=>Zy (m:=1) (news:=[V0 ((m.getD k mpD).1),.string ⟨(mapV (m.getD k mpD)).toArray⟩,V0 0]) (.agg #[V0 0,.string ⟨#[]⟩,V0 0]) 3 32 (k+1) ((((Ma m).take (k+1)).flatMap Kv)) zo Tryz.underlying105 (by kernel_rfl) rfl (by decide) zx a3 zy (n6.blk.sl 1 1 (by decide) (by decide)) rfl (by simp[Value.oneCell']) (by unfold maxLen;omega) (by omega) a4.size (by rfl) (by exact Zco (by rw[Kq];omega) (Wi (by omega))) fun b5 b9 W7 o7 b0 a9=>?_
  refine zK _ _ (Xa a9 b0 a3 (by decide)) ?_
  refine xwm (.r [11] 4) ((k:Int)+1) (↑(k+1):Int) ?_
  have a6:=a4.trans a9
  exact ze 2 (b1 _ _ _ ⟨k+1,_,_,rfl,rfl,a6,o7,by omega⟩ (by omega))
 exact xe 12 (.slice p1 k c1) (by obtain rfl:k=m.length:=(by omega);have q:=hl;rw[List.take_of_length_le (by rw[Kq];omega)] at q;exact⟨_,rfl,a0,_,_,rfl,q⟩)
theorem Be(B ba b g cc:Nat)(pa:O0)(ca f N k n:Nat)(bs:Bl)(w:World)(hA:Al B ba b g (n*256) cc pa ca f N k bs w)(hk:k+1≤n)(hn:n≤14400) :
 C0 70 #[.agg #[P0 ba]] w (Yy (fun w' r=>∃ q d,r=.slice (some q) n d∧w'.ownsRow w.heap.size 3 1 (.slice (some q) n d) n ((Yp (k+1) n).map V0)) w):=by
 refine zin 22 Tryz.func70 ?_
 refine xa 2 [P0 ba] 99 fun b1 W1 n1=>?_
 refine xb 6 0 n1.blk ?_
 refine xr 0 (args:=#[P0 ba]) (Yw ba b _ _ _ (hA.blkA.below n1.below)) fun W2 b3=>?_
 have a3:=bln n1.below b3
 refine xr 0 (args:=#[P0 b]) (by have q:=Yk b _ (n*256) _ _ (hA.blkI.below a3) (by omega);rw[show n*256/256=n by omega] at q;exact q) fun W3 b2=>?_
 refine xmk 0 fun _ _ _ _ zJ zQ zo zx zy zK=>Ke n (V0 0) 1 8 ((Yp 0 n).map V0) zo zx zy Tryz.underlying35 (by kernel_rfl) rfl (by omega) (by omega) ((self_make n)) fun b4 W4 n4=>?_
 have a6:=bln a3 b2
 have g4:=n4.ge a6
 refine zK _ _ ?_
 have a4:=((n1.blk.below b3).below b2).below n4.below
 refine xb 7 0 a4 ?_
 have a2:=bln a6 n4.below
 refine xr 0 (args:=#[P0 ba]) (Zf8 ba b _ k _ (hA.blkA.below a2)) fun W5 a8=>?_
 refine xwm 0 ((k:Int)+1) (↑(k+1):Int) ?_
 have o4:=Zb (Zz (size:=1) (n:=n) n4.blk g4 (by rw[List.length_map,Xl,Nat.mul_one]) (by unfold maxLen;omega)) a8
 have b0:=bln a2 a8
 have a7:=a4.below a8
 refine zl 4 22 (fun zm b6 V=>∃ (i:Nat),b6=[(2,S0),(3,.slice (S1 b4) n n),(13,V0 (↑(k+1):Int)),(14,V0 (i:Int))]∧zm=(k+1)-((i:Int)).toNat∧B3 w V∧Blk V b1 ([P0 ba]) 99∧V.ownsRow w.heap.size 3 1 (.slice (S1 b4) n n) n ((Yp i n).map V0)∧i≤k+1) ⟨0,rfl,rfl,b0,a7,o4,Nat.zero_le _⟩ ?_
 rintro _ _ W6 ⟨i,rfl,rfl,a5,a1,ho,hi⟩ J6 b7 r6
 refine xid 6 ((i:Int)<(↑(k+1):Int)) (fun b5=>?_) (fun b5=>?_)
 ·refine xx 13 _ n i 1 (show(some (⟨b4,0,none⟩:Addr)).isSome=true from rfl) ?_
  refine xst 0 fun _ _ _ _ zJ zQ zo zx zy zK=>Vx (t:=3) (k:=i) (v:=V0 1) zo zx zy (by kernel_rfl) rfl ho (by omega) fun W8 u8 o8=>?_
  rw[self_set (i:=i) (n:=n) (by omega)] at o8
  refine zK _ _ ?_
  refine xwm 4 ((i:Int)+1) (↑(i+1):Int) ?_
  have a9:=u8.below a5 (Nk ho)
  have a0:=u8.blk a1 (Cb a1 ho (by decide))
  exact ze 2 (b7 _ _ _ ⟨i+1,rfl,rfl,a9,a0,o8,by omega⟩ (by omega))
 exact xe 12 (.slice (S1 b4) n n) (by obtain rfl:i=k+1:=(by omega);exact⟨_,rfl,a5,_,_,rfl,ho⟩)
theorem plot_layMN(B ba b g nn cc:Nat)(pa:O0)(ca f N k0:Nat)(bs:Bl)(bl B2:Nat)(pl:O0)(cl:Nat)(gs:List (Nat×Nat))(L:List (List Int))(n:Nat)(hn:L.length=n)(w:World)(hC:AlC B ba nn cc ca f N)(hA:Al B ba b g nn cc pa ca f N k0 bs w)(hL:Lists w B2 (.slice pl n cl) gs L)(hS:∀ i,i<L.length→Hq (L.getD i [])∧(L.getD i []).length≤960)(hf1:1≤f)(hk:k0+n≤N)(kl:Blk w bl [S0] 231)(hBl:B≤bl)(hBw:B≤w.heap.size) :
 C0 115 #[P0 ba,.slice pl n cl,.func (.func 126) #[] #[P0 bl]] w (fun e w'=>∃ p c,e=.returned .nilIface∧Below B w w'∧Zd [152,5,231,217] w w'∧Fr ([ba,g]++[bl]) w w'∧Al B ba b g nn cc pa ca f N (k0+n) (Vz L (f+k0) bs n) w'∧Blk w' bl [.slice p n c] 231∧w'.ownsRow w.heap.size 217 3 (.slice p n c) n (rsL L (f+k0) n)):=by
 subst hn;exact plot_layM B ba b g nn cc pa ca f N k0 bs bl B2 pl cl gs L w hC hA hL hS hf1 hk kl hBl hBw
def MetaP(B ba b g nn cc:Nat)(pa:O0)(ca f N k0:Nat)(bs:Bl)(l:List Int)(w:World)(e:Ending)(w':World):Prop :=
 e=.returned (.tuple #[V0 (Ch l f k0 bs).1,V0 (Ch l f k0 bs).2.1,.nilIface])∧Below B w w'∧Zd [152,5,231,217,32] w w'∧Fr [ba,g] w w'∧Al B ba b g nn cc pa ca f N (k0+Yn l) (Ch l f k0 bs).2.2 w'
theorem Cj(B ba b g nn cc:Nat)(pa:O0)(ca f N k0:Nat)(bs:Bl)(a:Addr)(c:Nat)(l:List Int)(w:World)(hC:AlC B ba nn cc ca f N)(hA:Al B ba b g nn cc pa ca f N k0 bs w)(h:Sl w (.slice (some a) l.length c) l.length (l.map V0))(hl:l.length≤3000)(hlen:l.length=nn/256)(hs:Ku l=0)(hkN:k0≤N)(hk:k0+Yn l≤N)(hf1:1≤f)(hfree2:FreeOk l ((f+k0:Nat):Int))(hBw:B≤w.heap.size) :
 C0 69 #[P0 ba,.slice (some a) l.length c] w (MetaP B ba b g nn cc pa ca f N k0 bs l w):=by
 have hW:Sin w w:=⟨Below.refl _ _⟩
 have i8:=hC.hf
 have k1:=hC.hn
 have g9:=Eg hs
 have i7:=Lm l l.length
 have j2:Yn l=(Xn 5 (Zu l l.length).length)+(bmN l.length)+1:=rfl
 have j6:=Js 5 (Zu l l.length).length
 have k6:bmN l.length≤4:=by unfold bmN;omega
 have h4:Ku (Qj l (f+k0) (Yn l))=0:=by unfold Ku;rw[if_neg (by rw[Qh];omega),if_pos (Zem hfree2 g9.2)]
 have g8:=Cv (Zem (n:=Yn l) hfree2 g9.2) (bmN l.length)
 refine zin 120 Tryz.func69 ?_
 refine xr 10 (args:=#[P0 ba]) (Yw ba b _ _ _ (hA.below hW.b).blkA) fun W1 b3=>?_
 have d8:=hW.below b3
 refine xr 19 (args:=#[P0 b]) (Yk b _ nn cc _ (hA.below d8.b).blkI (by omega)) fun W2 b1=>?_
 refine xk 3 (show(((l.length:Int) != (↑(nn/256):Int)):Bool)=false from by rw[hlen];simp) ?_
 have d5:=d8.below b1
 refine xc 5 (args:=#[.slice (some a) l.length c]) (Cr l.length (some a) c l _ rfl (Sl.below h d5.b) (by omega) hs) ?_
 rintro _ W3 ⟨j3,j8,j0,po,co,rfl,c0,k3,e0⟩
 have h8:=(blB (blB (Below.refl B w) hBw b3) hBw b1).size
 refine xr 23 (args:=#[V0 5,V0 (↑((Zu l l.length).length):Int)]) (Qc 5 (Zu l l.length).length _ (by decide) (by decide) (by omega)) fun W4 b5=>?_
 refine xr 2 (args:=#[V0 (l.length:Int)]) (Df l.length _ (by omega)) fun W5 b6=>?_
 refine xwm 0 ((↑(Xn 5 (Zu l l.length).length):Int)+(↑(bmN l.length):Int)) (↑((Xn 5 (Zu l l.length).length)+(bmN l.length)):Int) ?_
 refine xwm 0 ((↑((Xn 5 (Zu l l.length).length)+(bmN l.length)):Int)+1) (↑(((Xn 5 (Zu l l.length).length)+(bmN l.length))+1):Int) ?_
 have c3:=((d5.below c0).below b5).below b6
 refine xr 7 (args:=#[P0 ba]) (Ca ba b pa N ca k0 _ (hA.below c3.b).blkA hkN) fun W6 b4=>?_
 refine xk 4 (show(decide ((↑(N-k0):Int)<(↑(((Xn 5 (Zu l l.length).length)+(bmN l.length))+1):Int)):Bool)=false from decide_eq_false (by omega)) ?_
 have a7:=c3.below b4
 have h5:=a7.b.size
 refine xc 5 (args:=#[.slice (some a) l.length c]) (Mu a l.length c (l.map V0) _ (Sl.below h a7.b) (by simp) (Ai _) (by omega)) ?_
 rintro _ W7 ⟨_,rfl,b8,qb,cq,rfl,f1⟩
 have j5:=(blB (blB (blB (blB (blB (blB (Below.refl B w) hBw b3) hBw b1) hBw c0) hBw b5) hBw b6) hBw b4).size
 have a0:=Zf f1 h5
 have a8:=a7.below b8
 have h7:=a8.b.size
 have f5:=a0
 refine xc 8 (args:=#[P0 ba,V0 (↑(((Xn 5 (Zu l l.length).length)+(bmN l.length))+1):Int)]) (Oz (Yn l) B ba b g nn cc pa ca f N k0 bs _ hC (hA.below a8.b) hkN (by omega) (by omega) (by omega)) ?_
 rintro _ W8 ⟨_,rfl,b9,qa,h0,rfl,c7⟩
 have k2:=(blB (blB (blB (blB (blB (blB (blB (Below.refl B w) hBw b3) hBw b1) hBw c0) hBw b5) hBw b6) hBw b4) hBw b8).size
 have h3:=Us.of_lt f5 c7 (Nat.le_refl _)
 have d3:=Zf c7 h7
 have a4:=Zb a0 b9
 obtain⟨gb,rfl,k7⟩:=Mq a4 (by omega)
 have d2:=Zb (Zb (Zb (Zb (Zb (Zf e0 h8) b5) b6) b4) b8) b9
 have e5:=a8.below b9
 have hB:=blB (blB (blB (blB (blB (blB (blB (blB (Below.refl B w) hBw b3) hBw b1) hBw c0) hBw b5) hBw b6) hBw b4) hBw b8) hBw b9
 have hX:=(((((((show Fr [ba,g] w _ from(Fr.of_below b3)).trans (Fr.of_below b1)).trans (Fr.of_below c0)).trans (Fr.of_below b5)).trans (Fr.of_below b6)).trans (Fr.of_below b4)).trans (Fr.of_below b8)).trans (Fr.of_below b9)
 have hO:=(((((((show Zd [152,5,231,217,32] w _ from(Zd.of_below b3)).trans (Zd.of_below b1)).trans (Zd.of_below c0)).trans (Zd.of_below b5)).trans (Zd.of_below b6)).trans (Zd.of_below b4)).trans (Zd.of_below b8)).trans (Zd.of_below b9)
 refine zl 5 120 (fun zm i3 V=>∃ (i:Nat),i3=[(0,P0 ba),(4,V0 0),(5,V0 0),(6,.nilIface),(9,.slice po ((Zu l l.length).length) co),(10,V0 0),(12,.slice (S1 gb) l.length cq),(61,.slice qa (Yn l) h0),(62,V0 (↑(Yn l):Int)),(63,V0 (i:Int))]∧zm=Yn l-((i:Int)).toNat∧Below B w V∧Fr [ba,g] w V∧Zd [152,5,231,217,32] w V∧V.ownsRow w.heap.size 3 1 (.slice (S1 gb) l.length cq) l.length ((Qj l (f+k0) i).map V0)∧V.ownsRow w.heap.size 3 1 (.slice qa (Yn l) h0) (Yn l) ((((Tg f N).drop k0).take (Yn l)).map V0)∧V.ownsRow w.heap.size 122 3 (.slice po ((Zu l l.length).length) co) ((Zu l l.length).length) ((Zu l l.length).flatMap Kv)∧Sin w V∧i≤Yn l) ⟨0,rfl,rfl,hB,hX,hO,(by rw[Zhf];exact a4),d3,d2,e5,Nat.zero_le _⟩ ?_
 rintro _ _ W9 ⟨i,rfl,rfl,a5,d7,d0,a0,d3,e0,hW,hi⟩ J9 h9 r9
 have i9:i<Yn l→l.getD (f+k0+i) 0=0:=fun q=>(hfree2 (f+k0+i) (by omega)).1 (by omega)
 refine xid 6 ((i:Int)<(↑(Yn l):Int)) (fun f6=>?_) (fun f6=>?_)
 ·refine xx 6 _ (Yn l) i 1 (Sf (Ze d3) (by omega) (i:=i) (by omega)).1 ?_
  refine xl 0 ((Sf (Ze d3) (by omega) (i:=i) (by omega)).2) ?_
  refine xx 6 _ l.length (f+k0+i) 1 (Fj (Ze a0) rfl (q:=f+k0) (i:=i) (by omega)).1 ?_
  refine xl 0 ((Fj (Ze a0) rfl (q:=f+k0) (i:=i) (by omega)).2) ?_
  refine xw 0 ((l.getD (f+k0+i) 0)+1) ?_
  refine xx 0 _ l.length (f+k0+i) 1 (Fj (Ze a0) rfl (q:=f+k0) (i:=i) (by omega)).1 ?_
  refine xst 0 fun _ _ _ _ zJ zQ zo zx zy zK=>Vx (t:=3) (k:=(f+k0+i)) (v:=V0 ((l.getD (f+k0+i) 0)+1)) zo zx zy (by kernel_rfl) rfl a0 (by omega) fun i5 b7 g7=>?_
  rw[bumpL_set (l:=l) (f:=f+k0) (j:=i) (by omega)] at g7
  refine zK _ _ ?_
  refine xwm 4 ((i:Int)+1) (↑(i+1):Int) ?_
  have f8:=b7.below a5 (Nat.le_trans hBw (Nk a0))
  have f0:=(Fr.upd_new d7 b7 (Nk a0))
  have g2:=(Zd.upd_new d0 b7 (Nk a0))
  have c6:=b7.own3 d3 (fun j hj e=>h3 _ rfl (e▸hj))
  have c5:=b7.ownRow e0 a0 (by decide)
  have g1:=hW.upd b7 (Nk a0)
  exact ze 2 (h9 _ _ _ ⟨i+1,rfl,rfl,f8,f0,g2,g7,c6,c5,g1,by omega⟩ (by omega))
 refine xc 9 (args:=#[P0 ba,V0 5,.slice po ((Zu l l.length).length) co]) (Gz B ba b g nn cc pa ca f N k0 bs 5 po co (Zu l l.length) (Zu l l.length).length _ rfl hC (hA.below hW.b) (by decide) (by decide) (Ll _ _ (by omega)) (by omega) hf1 (by omega) (by omega) (fun W _ h2=>Ze (Zi e0 h2 (by decide))) (Nat.le_trans hBw a5.size)) ?_
 rintro _ i4 ⟨rfl,f7,d4,e9,b0⟩
 have c9:=Zi a0 d4 (by decide)
 refine xc 20 (args:=#[.slice (S1 gb) l.length cq]) (Cr l.length (S1 gb) cq (Qj l (f+k0) (Yn l)) _ (Qh _ _ _) (by have hh:=Ze c9;rw[show i=Yn l by omega] at hh;exact hh) (by omega) h4) ?_
 rintro _ j7 ⟨pb,cb,gs,k5,j4,rfl,a2,hL,h6⟩
 refine xa 21 [S0] 231 fun g6 j9 a3=>?_
 have a6:=blB (a5.trans f7) hBw a2
 have h1:=a3.ge0 a6
 have d6:=(b0.below a2).below a3.below
 have g3:=hL.below a3.below
 have a9:=blB a6 hBw a3.below
 refine xc 8 (args:=#[P0 ba,.slice pb (bmN l.length) cb,.func (.func 126) #[] #[P0 g6]]) (plot_layMN B ba b g nn cc pa ca f N (k0+(Xn 5 (Zu l l.length).length)) (Xx 5 (Zu l l.length) (f+k0) bs).2 g6 _ pb cb gs (Xi (Zo (Qj l (f+k0) (Yn l))) (bmN l.length)) (bmN l.length) (Jn _ _) _ hC d6 g3 g8 hf1 (by omega) a3.blk (Nat.le_trans hBw h1) (Nat.le_trans hBw a9.size)) ?_
 rintro _ k4 ⟨p8,c8,rfl,d1,g0,f2,b0,i2,i1⟩
 have e4:=(blB a6 hBw a3.below).size
 refine xb 14 0 i2 ?_
 have c1:=Zf i1 e4
 refine xc 0 (args:=#[.slice p8 (bmN l.length) c8]) (slots_PutN (bmN l.length) p8 c8 (Rs (Xi (Zo (Qj l (f+k0) (Yn l))) (bmN l.length)) (f+(k0+(Xn 5 (Zu l l.length).length))) (bmN l.length)) _ (Fc _ _ _) (rs_ok g8 (Jn _ _) (by omega) (by omega) (by omega)) (Rs_sts (Ze c1))) ?_
 rintro _ i6 ⟨_,rfl,a1,pz,cz,rfl,i0⟩
 have g5:=(a9.trans d1).size
 have c2:=b0.below a1
 have b2:=((((d0.trans (d4.wide)).trans (Zd.of_below a2)).trans (Zd.of_below a3.below)).trans (g0.wide)).trans (Zd.of_below a1)
 have c4:=Zf i0 g5
 have d9:=blB (a9.trans d1) hBw a1
 refine xc 21 (args:=#[P0 ba,V0 4,.slice pz 244 cz]) (Pi B ba b g nn cc pa ca f N (k0+(Xn 5 (Zu l l.length).length)+(bmN l.length)) (Vz (Xi (Zo (Qj l (f+k0) (Yn l))) (bmN l.length)) (f+(k0+(Xn 5 (Zu l l.length).length))) (Xx 5 (Zu l l.length) (f+k0) bs).2 (bmN l.length)) 4 pz cz (Cd (Rs (Xi (Zo (Qj l (f+k0) (Yn l))) (bmN l.length)) (f+(k0+(Xn 5 (Zu l l.length).length))) (bmN l.length))) (f+(k0+(Xn 5 (Zu l l.length).length)+(bmN l.length))) 244 _ rfl (Lw (by rw[Fc];omega)) hC c2 (by omega) (by decide) (by decide) (fun W _ b2=>Yi (Ze (Zi c4 b2 (by decide))) (Lw (by rw[Fc];omega))) (by decide) (Nat.le_trans hBw d9.size)) ?_
 rintro _ j1 ⟨rfl,f3,f9,e7,b0⟩
 have e8:=d9.trans f3
 have e6:=b2.trans (f9.wide)
 have f4:=((Fr.trans_new (((d7.trans (e9.mono (by simp))).trans (Fr.of_below a2)).trans (Fr.of_below a3.below)) f2 h1).trans (Fr.of_below a1)).trans (e7.mono (by simp))
 refine xe 27 (.tuple #[V0 (↑(f+(k0+(Xn 5 (Zu l l.length).length)+(bmN l.length))):Int),V0 ((Xx 5 (Zu l l.length) (f+k0) bs).1),.nilIface]) ?_
 have e1:f+(k0+(Xn 5 (Zu l l.length).length)+(bmN l.length))=f+k0+(Xn 5 (Zu l l.length).length)+(bmN l.length):=by omega
 have e2:f+(k0+(Xn 5 (Zu l l.length).length))=f+k0+(Xn 5 (Zu l l.length).length):=by omega
 rw[e1,e2] at b0
 rw[e1]
 have e3:k0+(Xn 5 (Zu l l.length).length)+(bmN l.length)+1=k0+Yn l:=by omega
 rw[e3] at b0
 refine⟨?_,e8,e6,f4,?_⟩
 ·unfold Ch;rw[Zfb]
 ·unfold Ch;rw[Zfb];exact b0
end Go.Proofs.YtceeiinepijokaaGreat
