/- Reference 18: Check, Count. -/
import Derived.ArgAppend
import Derived.Lib.SmallJoins
import Derived.Test.YtegcamkgeacjfaaGreatDoorMg5
namespace Go.Proofs.YtegcamkgeacjfaaGreatDoor
set_option maxHeartbeats 8000000
set_option maxRecDepth 100000
open Go.RowKit Go.Extern.Stop Go.Stop Go.Extern
set_option linter.unusedVariables false
attribute [local irreducible] wpList wpAnyH Code.wp Oper.wp Go
theorem Qm(n lo hi:Int)(w:World) :
 C0 81 #[V0 n,V0 lo,V0 hi] w (Ret (.bool (inZ n lo hi)) w):=by
 refine zin 15 Tryz.func81 ?_
 refine xg 11 [9,10] (decide (n≥lo)) (fun a0=>?_) (fun a0=>?_)
 ·have a0:=of_decide_eq_true a0
  exact xe 8 (.bool (decide (n≤hi))) ⟨by rw[show inZ n lo hi=decide (n≤hi) from by unfold inZ;exact decide_eq_decide.2 (by omega)],(B4 w)⟩
 have a0:=of_decide_eq_false a0
 exact xe 8 (.bool false) ⟨by rw[show inZ n lo hi=false from decide_eq_false (by omega)],(B4 w)⟩
theorem Zav(p:O0)(c n:Nat)(t u v x:Int)(Z:List Zv)(w:World)(hZ:Z.length=n)(hP:DevsR w p c Z) :
 C0 82 #[.agg #[V0 t,V0 u,V0 v,V0 x,.slice p n c]] w (Ret (V0 (Zf1 (Z.map Prod.fst))) w):=by
 have a5:=Sl.len (hP.rowN hZ)
 refine zin 22 Tryz.func82 ?_
 refine xa 2 [V0 t,V0 u,V0 v,V0 x,.slice p n c] 24 fun b1 W1 n1=>?_
 refine zl 15 22 (fun zm a3 V=>∃ (i:Nat),a3=[(1,P0 b1),(2,V0 0),(3,V0 (IntKind.i64.wrap (↑(Km ((Z.map Prod.fst).take i)):Int))),(4,V0 (i:Int))]∧zm=n-((i:Int)).toNat∧B3 w V∧Blk V b1 ([V0 t,V0 u,V0 v,V0 x,.slice p n c]) 24∧i≤n) ⟨0,rfl,rfl,n1.below,n1.blk,Nat.zero_le _⟩ ?_
 rintro _ _ W2 ⟨i,rfl,rfl,a1,a0,hi⟩ J2 a4 r2
 refine xb 5 4 a0 ?_
 refine xid 4 ((i:Int)<(n:Int)) (fun a2=>?_) (fun a2=>?_)
 ·refine xb 7 4 a0 ?_
  refine xx 1 _ n i 5 (hP.someN hZ (i:=i) (by omega)) ?_
  refine xl 1 ((Sts.cell (hP.below a1).row Ye zvD (k:=i) (i:=4) (by omega) rfl).2) ?_
  refine xwm 8 ((i:Int)+1) (↑(i+1):Int) ?_
  refine xv1 2 3 (show(V0 (IntKind.i64.wrap ((IntKind.i64.wrap (↑(Km ((Z.map Prod.fst).take i)):Int))+(↑((Z.getD i zvD).1.2.length):Int))):Value)=V0 (IntKind.i64.wrap (↑(Km ((Z.map Prod.fst).take (i+1))):Int)) from congrArg V0 ((Sz _ _).trans (congrArg IntKind.i64.wrap (by have:=Gl (Z:=Z) (i:=i) (by omega);omega)))) ?_
  exact ze 0 (a4 _ _ _ ⟨i+1,rfl,rfl,a1,a0,by omega⟩ (by omega))
 exact xe 12 (V0 (IntKind.i64.wrap (↑(Km ((Z.map Prod.fst).take i)):Int))) ⟨by unfold Zf1;rw[List.take_of_length_le (by rw[List.length_map];omega)],a1⟩
def Lh(Z:List Zv)(i:Nat):Int:=if i=0 then -1 else(Z.getD (i-1) zvD).1.1.1
def Hf(M:List Mp)(k:Nat):Int:=if k=0 then -1 else(M.getD (k-1) mpD).1
theorem Ti{d:Dv}{last:Int}(h:inZ d.1.1 0 16777215=false∨inZ d.1.2.1 0 2147483647=false∨inZ d.1.2.2.1 0 16777215=false∨inZ d.1.2.2.2 0 16777215=false):dvE d last=2:=dvE_2 (by rcases h with h|h|h|h<;>simp[h])
theorem Ll{data:Int}{m:Mp}{last:Int}(h:inZ m.1 0 281474976710655=false∨inZ m.2.1 0 (data-1)=false∨inZ m.2.2 0 16777215=false):mpE data m last=2:=mpE_2 (by rcases h with h|h|h<;>simp[h])
theorem Rw(Z:List Zv)(i:Nat):Lh Z (i+1)=(Z.getD i zvD).1.1.1:=by unfold Lh;rw[if_neg (by omega)];rfl
theorem Ws(M:List Mp)(k:Nat):Hf M (k+1)=(M.getD k mpD).1:=by unfold Hf;rw[if_neg (by omega)];rfl
theorem Vx(p:O0)(c n:Nat)(t u v x:Int)(Z:List Zv)(w:World)(hZ:Z.length=n)(hP:DevsR w p c Z) :
 C0 35 #[.agg #[V0 t,V0 u,V0 v,V0 x,.slice p n c]] w (Ret (V0 (Xr t u v x (Z.map Prod.fst))) w):=by
 have m1:=Sl.len (hP.rowN hZ)
 refine zin 131 Tryz.func35 ?_
 refine xa 2 [V0 t,V0 u,V0 v,V0 x,.slice p n c] 24 fun b1 W1 n1=>?_
 refine xb 7 0 n1.blk ?_
 refine xr 0 (args:=#[V0 t,V0 0,V0 2147483647]) (Qm t 0 2147483647 _) fun W2 h3=>?_
 refine xg 2 [10,11] (!(inZ t 0 2147483647)) (fun c3=>?_) (fun c3=>?_)
 ·have c3:=Va c3
  have hB:=bln n1.below h3
  exact xe 27 (V0 2) ⟨by rw[Jm (by simp[c3])],hB⟩
 have c3:=Vb c3
 have j8:=n1.blk.below h3
 refine xb 1 1 j8 ?_
 refine xr 0 (args:=#[V0 u,V0 0,V0 16777215]) (Qm u 0 16777215 _) fun W4 h6=>?_
 refine xg 3 [15,16,17] (!(inZ u 0 16777215)) (fun c2=>?_) (fun c2=>?_)
 ·have c2:=Va c2
  have hB:=bln (bln n1.below h3) h6
  exact xe 21 (V0 2) ⟨by rw[Jm (by simp[c2])],hB⟩
 have c2:=Vb c2
 have j3:=j8.below h6
 refine xb 1 2 j3 ?_
 refine xr 0 (args:=#[V0 v,V0 1,V0 65536]) (Qm v 1 65536 _) fun W6 i7=>?_
 refine xg 3 [21,22,23] (!(inZ v 1 65536)) (fun c4=>?_) (fun c4=>?_)
 ·have c4:=Va c4
  have hB:=bln (bln (bln n1.below h3) h6) i7
  exact xe 15 (V0 2) ⟨by rw[Jm (by simp[c4])],hB⟩
 have c4:=Vb c4
 have j7:=j3.below i7
 refine xb 1 3 j7 ?_
 refine xr 0 (args:=#[V0 x,V0 0,V0 65536]) (Qm x 0 65536 _) fun W8 k0=>?_
 refine xi 4 (!(inZ x 0 65536)) (fun b9=>?_) (fun b9=>?_)
 ·have b9:=Va b9
  have hB:=bln (bln (bln (bln n1.below h3) h6) i7) k0
  exact xe 7 (V0 2) ⟨by rw[Jm (by simp[b9])],hB⟩
 have b9:=Vb b9
 have h0:=j7.below k0
 refine xb 6 4 h0 ?_
 refine xg 3 [32,33] (decide ((n:Int)>(4096:Int))) (fun f8=>?_) (fun f8=>?_)
 ·have f8:=of_decide_eq_true f8
  have hB:=bln (bln (bln (bln n1.below h3) h6) i7) k0
  exact xe 14 (V0 2) ⟨by rw[Mo (by rw[c3,c2,c4,b9];rfl) (by rw[List.length_map];omega)],hB⟩
 have f8:=of_decide_eq_false f8
 refine xlv 0 h0.rp ?_
 have hB:=bln (bln (bln (bln n1.below h3) h6) i7) k0
 refine xr 0 (args:=#[.agg #[V0 t,V0 u,V0 v,V0 x,.slice p n c]]) (Zav p c n t u v x Z _ hZ (hP.below hB)) fun o2 h1=>?_
 refine xid 4 ((Zf1 (Z.map Prod.fst))>(16384:Int)) (fun l0=>?_) (fun l0=>?_)
 ·have k4:=bln hB h1
  exact xe 7 (V0 2) ⟨by rw[Mo (by rw[c3,c2,c4,b9];rfl) (by rw[List.length_map];omega)],k4⟩
 have d9:¬ (4096<(Z.map Prod.fst).length∨16384<Zf1 (Z.map Prod.fst)):=by rw[List.length_map];omega
 have k7:=bln hB h1
 have k8:=h0.below h1
 refine zl 9 131 (fun zm i2 V=>∃ (i:Nat),i2=[(1,P0 b1),(3,V0 (i:Int))]∧zm=n-((i:Int)).toNat∧B3 w V∧Blk V b1 ([V0 t,V0 u,V0 v,V0 x,.slice p n c]) 24∧i≤n∧Zb3 x (Z.map Prod.fst) (-1)=Zb3 x ((Z.map Prod.fst).drop i) (Lh Z i)) ⟨0,rfl,rfl,k7,k8,Nat.zero_le _,rfl⟩ ?_
 rintro _ _ m2 ⟨i,rfl,rfl,a4,d0,hi,he⟩ o6 j4 o1
 have hx:=Mn.1 b9
 refine xb 5 4 d0 ?_
 refine xid 4 ((i:Int)<(n:Int)) (fun l5=>?_) (fun l5=>?_)
 ·have hM:=hP.each i (by omega)
  refine xb 7 4 d0 ?_
  refine xx 1 _ n i 5 (hP.someN hZ (i:=i) (by omega)) ?_
  refine xlv 0 (Sts.rp (k:=i) (hP.below a4).row Ye zvD (by omega) (by decide)) ?_
  refine xa 0 [V0 0,V0 0,V0 0,V0 0,S0] 61 fun j9 o3 e4=>?_
  have h8:=e4.ge a4
  refine xsv 0 e4.blk [V0 ((Z.getD i zvD).1.1.1),V0 ((Z.getD i zvD).1.1.2.1),V0 ((Z.getD i zvD).1.1.2.2.1),V0 ((Z.getD i zvD).1.1.2.2.2),.slice ((Z.getD i zvD).2.1) ((Z.getD i zvD).1.2.length) ((Z.getD i zvD).2.2)] fun n7 g3 l8=>?_
  refine xb 6 0 l8 ?_
  refine xr 0 (args:=#[V0 ((Z.getD i zvD).1.1.1),V0 0,V0 16777215]) (Qm ((Z.getD i zvD).1.1.1) 0 16777215 _) fun m9 c9=>?_
  refine xg 2 [53,54] (!(inZ ((Z.getD i zvD).1.1.1) 0 16777215)) (fun a0=>?_) (fun a0=>?_)
  ·have a0:=Va a0
   have k6:=bln (g3.below (bln a4 e4.below) h8) c9
   exact xe 32 (V0 2) (by have b6:dvE (Z.getD i zvD).1 (Lh Z i)=2:=Ti (by first|exact .inl a0|exact .inr (.inl a0)|exact .inr (.inr (.inl a0))|exact .inr (.inr (.inr a0))|exact .inr (.inr a0));exact⟨by rw[Xq (by rw[c3,c2,c4,b9];rfl) d9,he,Xl (by omega),if_pos (by rw[b6];decide),b6],k6⟩)
  have a0:=Vb a0
  have g5:=l8.below c9
  refine xb 1 1 g5 ?_
  refine xr 0 (args:=#[V0 ((Z.getD i zvD).1.1.2.1),V0 0,V0 2147483647]) (Qm ((Z.getD i zvD).1.1.2.1) 0 2147483647 _) fun n5 d6=>?_
  refine xg 3 [58,59,60] (!(inZ ((Z.getD i zvD).1.1.2.1) 0 2147483647)) (fun b3=>?_) (fun b3=>?_)
  ·have b3:=Va b3
   have l4:=bln (bln (g3.below (bln a4 e4.below) h8) c9) d6
   exact xe 26 (V0 2) (by have b6:dvE (Z.getD i zvD).1 (Lh Z i)=2:=Ti (by first|exact .inl b3|exact .inr (.inl b3)|exact .inr (.inr (.inl b3))|exact .inr (.inr (.inr b3))|exact .inr (.inr b3));exact⟨by rw[Xq (by rw[c3,c2,c4,b9];rfl) d9,he,Xl (by omega),if_pos (by rw[b6];decide),b6],l4⟩)
  have b3:=Vb b3
  have g9:=g5.below d6
  refine xb 1 2 g9 ?_
  refine xr 0 (args:=#[V0 ((Z.getD i zvD).1.1.2.2.1),V0 0,V0 16777215]) (Qm ((Z.getD i zvD).1.1.2.2.1) 0 16777215 _) fun n0 d7=>?_
  refine xg 3 [64,65,66] (!(inZ ((Z.getD i zvD).1.1.2.2.1) 0 16777215)) (fun b0=>?_) (fun b0=>?_)
  ·have b0:=Va b0
   have l2:=bln (bln (bln (g3.below (bln a4 e4.below) h8) c9) d6) d7
   exact xe 20 (V0 2) (by have b6:dvE (Z.getD i zvD).1 (Lh Z i)=2:=Ti (by first|exact .inl b0|exact .inr (.inl b0)|exact .inr (.inr (.inl b0))|exact .inr (.inr (.inr b0))|exact .inr (.inr b0));exact⟨by rw[Xq (by rw[c3,c2,c4,b9];rfl) d9,he,Xl (by omega),if_pos (by rw[b6];decide),b6],l2⟩)
  have b0:=Vb b0
  have e5:=g9.below d7
  refine xb 1 3 e5 ?_
  refine xr 0 (args:=#[V0 ((Z.getD i zvD).1.1.2.2.2),V0 0,V0 16777215]) (Qm ((Z.getD i zvD).1.1.2.2.2) 0 16777215 _) fun h7 d8=>?_
  refine xi 4 (!(inZ ((Z.getD i zvD).1.1.2.2.2) 0 16777215)) (fun a6=>?_) (fun a6=>?_)
  ·have a6:=Va a6
   have l3:=bln (bln (bln (bln (g3.below (bln a4 e4.below) h8) c9) d6) d7) d8
   exact xe 12 (V0 2) (by have b6:dvE (Z.getD i zvD).1 (Lh Z i)=2:=Ti (by first|exact .inl a6|exact .inr (.inl a6)|exact .inr (.inr (.inl a6))|exact .inr (.inr (.inr a6))|exact .inr (.inr a6));exact⟨by rw[Xq (by rw[c3,c2,c4,b9];rfl) d9,he,Xl (by omega),if_pos (by rw[b6];decide),b6],l3⟩)
  have a6:=Vb a6
  refine xd 4 .z ?_
  refine xg (.b [0,1,2]) [73,74] (decide ((i:Int)>(0:Int))) (fun f4=>?_) (fun f4=>?_)
  ·have f4:=of_decide_eq_true f4
   have g1:=(e5.below d8).below (Za h7)
   refine xb (.e [3] 4) 0 g1 ?_
   have d4:=(((((g3.blkT (d0.below e4.below) e4.blk (by decide)).below c9).below d6).below d7).below d8).below (Za h7)
   refine xb (.e [5] 6) 4 d4 ?_
   refine xwm (.e [7] 8) ((i:Int)-1) (↑(i-1):Int) ?_
   refine xx (.e [] 9) _ n (i-1) 5 (hP.someN hZ (i:=(i-1)) (by omega)) ?_
   have h4:=bln (bln (bln (bln (bln (g3.below (bln a4 e4.below) h8) c9) d6) d7) d8) (Za h7)
   refine xl (.e [10] 11) ((Sts.cell (hP.below h4).row Ye zvD (k:=(i-1)) (i:=0) (by omega) rfl).2) ?_
   refine xid (.r [12,13] 2) ((Z.getD i zvD).1.1.1≤(Z.getD (i-1) zvD).1.1.1) (fun k1=>?_) (fun k1=>?_)
   ·exact xe 12 (V0 8) (by have b6:dvE (Z.getD i zvD).1 (Lh Z i)=8:=dvE_8 (by rw[a0,b3,b0,a6];rfl) (by have:=Mn.1 a0;unfold Lh;split<;>omega);exact⟨by rw[Xq (by rw[c3,c2,c4,b9];rfl) d9,he,Xl (by omega),if_pos (by rw[b6];decide),b6],h4⟩)
   have b6:dvE (Z.getD i zvD).1 (Lh Z i)=0:=dvE_0 (by rw[a0,b3,b0,a6];rfl) (by have:=Mn.1 a0;unfold Lh;split<;>omega)
   have m0:=Sl.len hM
   refine zl 8 131 (fun zm i2 V=>∃ (k:Nat),i2=[(1,P0 b1),(3,V0 (i:Int)),(4,P0 j9),(5,V0 (k:Int))]∧zm=(Z.getD i zvD).1.2.length-((k:Int)).toNat∧B3 w V∧Blk V b1 ([V0 t,V0 u,V0 v,V0 x,.slice p n c]) 24∧Blk V j9 ([V0 ((Z.getD i zvD).1.1.1),V0 ((Z.getD i zvD).1.1.2.1),V0 ((Z.getD i zvD).1.1.2.2.1),V0 ((Z.getD i zvD).1.1.2.2.2),.slice ((Z.getD i zvD).2.1) ((Z.getD i zvD).1.2.length) ((Z.getD i zvD).2.2)]) 61∧k≤(Z.getD i zvD).1.2.length∧Pc x (Z.getD i zvD).1.2 (-1)=Pc x ((Z.getD i zvD).1.2.drop k) (Hf (Z.getD i zvD).1.2 k)) ⟨0,rfl,rfl,h4,d4,g1,Nat.zero_le _,rfl⟩ ?_
   rintro _ _ n9 ⟨k,rfl,rfl,b4,e6,b7,hk,hm⟩ m7 j6 n8
   refine xb 5 4 b7 ?_
   refine xid 4 ((k:Int)<(↑((Z.getD i zvD).1.2.length):Int)) (fun k9=>?_) (fun k9=>?_)
   ·refine xb 7 4 b7 ?_
    refine xx 1 _ ((Z.getD i zvD).1.2.length) k 3 (Sts.cell hM Xx mpD (k:=k) (i:=0) (by omega) rfl).1 ?_
    refine xlv 0 (Sts.rp (k:=k) (hM.below b4) Xx mpD (by omega) (by decide)) ?_
    refine xa 0 [V0 0,V0 0,V0 0] 164 fun n6 o0 e1=>?_
    have j5:=e1.ge b4
    refine xsv 0 e1.blk [V0 (((Z.getD i zvD).1.2.getD k mpD).1),V0 (((Z.getD i zvD).1.2.getD k mpD).2.1),V0 (((Z.getD i zvD).1.2.getD k mpD).2.2)] fun m4 g2 l9=>?_
    refine xb 6 0 l9 ?_
    refine xr 0 (args:=#[V0 (((Z.getD i zvD).1.2.getD k mpD).1),V0 0,V0 281474976710655]) (Qm (((Z.getD i zvD).1.2.getD k mpD).1) 0 281474976710655 _) fun m3 d1=>?_
    refine xg 2 [101,102] (!(inZ (((Z.getD i zvD).1.2.getD k mpD).1) 0 281474976710655)) (fun a2=>?_) (fun a2=>?_)
    ·have a2:=Va a2
     have k5:=bln (g2.below (bln b4 e1.below) j5) d1
     exact xe 33 (V0 2) (by have a3:mpE x ((Z.getD i zvD).1.2.getD k mpD) (Hf (Z.getD i zvD).1.2 k)=2:=Ll (by first|exact .inl a2|exact .inr (.inl a2)|exact .inr (.inr (.inl a2))|exact .inr (.inr (.inr a2))|exact .inr (.inr a2));have a7:Pc x (Z.getD i zvD).1.2 (-1)=2:=(by rw[hm,Ya (x:=mpD) (by omega),if_pos (by rw[a3];decide),a3]);exact⟨by rw[Xq (by rw[c3,c2,c4,b9];rfl) d9,he,Xl (by omega),if_neg (fun q=>q b6),if_pos (by rw[a7];decide),a7],k5⟩)
    have a2:=Vb a2
    have g0:=l9.below d1
    refine xb 1 1 g0 ?_
    have c1:=(g2.blkT (e6.below e1.below) e1.blk (by decide)).below d1
    refine xb 1 3 c1 ?_
    refine xw 0 (x-1) ?_
    refine xr 0 (args:=#[V0 (((Z.getD i zvD).1.2.getD k mpD).2.1),V0 0,V0 (x-1)]) (Qm (((Z.getD i zvD).1.2.getD k mpD).2.1) 0 (x-1) _) fun o7 c7=>?_
    refine xg 3 [109,110,111] (!(inZ (((Z.getD i zvD).1.2.getD k mpD).2.1) 0 (x-1))) (fun a9=>?_) (fun a9=>?_)
    ·have a9:=Va a9
     have l1:=bln (bln (g2.below (bln b4 e1.below) j5) d1) c7
     exact xe 24 (V0 2) (by have a3:mpE x ((Z.getD i zvD).1.2.getD k mpD) (Hf (Z.getD i zvD).1.2 k)=2:=Ll (by first|exact .inl a9|exact .inr (.inl a9)|exact .inr (.inr (.inl a9))|exact .inr (.inr (.inr a9))|exact .inr (.inr a9));have a7:Pc x (Z.getD i zvD).1.2 (-1)=2:=(by rw[hm,Ya (x:=mpD) (by omega),if_pos (by rw[a3];decide),a3]);exact⟨by rw[Xq (by rw[c3,c2,c4,b9];rfl) d9,he,Xl (by omega),if_neg (fun q=>q b6),if_pos (by rw[a7];decide),a7],l1⟩)
    have a9:=Vb a9
    have f9:=g0.below c7
    refine xb 1 2 f9 ?_
    refine xr 0 (args:=#[V0 (((Z.getD i zvD).1.2.getD k mpD).2.2),V0 0,V0 16777215]) (Qm (((Z.getD i zvD).1.2.getD k mpD).2.2) 0 16777215 _) fun h2 d5=>?_
    refine xi 4 (!(inZ (((Z.getD i zvD).1.2.getD k mpD).2.2) 0 16777215)) (fun a8=>?_) (fun a8=>?_)
    ·have a8:=Va a8
     have j1:=bln (bln (bln (g2.below (bln b4 e1.below) j5) d1) c7) d5
     exact xe 16 (V0 2) (by have a3:mpE x ((Z.getD i zvD).1.2.getD k mpD) (Hf (Z.getD i zvD).1.2 k)=2:=Ll (by first|exact .inl a8|exact .inr (.inl a8)|exact .inr (.inr (.inl a8))|exact .inr (.inr (.inr a8))|exact .inr (.inr a8));have a7:Pc x (Z.getD i zvD).1.2 (-1)=2:=(by rw[hm,Ya (x:=mpD) (by omega),if_pos (by rw[a3];decide),a3]);exact⟨by rw[Xq (by rw[c3,c2,c4,b9];rfl) d9,he,Xl (by omega),if_neg (fun q=>q b6),if_pos (by rw[a7];decide),a7],j1⟩)
    have a8:=Vb a8
    refine xd 3 .z ?_
    refine xg (.b [0,1,2]) [118,119] (decide ((k:Int)>(0:Int))) (fun f5=>?_) (fun f5=>?_)
    ·have f5:=of_decide_eq_true f5
     have h9:=(f9.below d5).below (Za h2)
     refine xb (.e [3] 4) 0 h9 ?_
     have c5:=((((g2.blkT (b7.below e1.below) e1.blk (by decide)).below d1).below c7).below d5).below (Za h2)
     refine xb (.e [5] 6) 4 c5 ?_
     refine xwm (.e [7] 8) ((k:Int)-1) (↑(k-1):Int) ?_
     refine xx (.e [] 9) _ ((Z.getD i zvD).1.2.length) (k-1) 3 (Sts.cell hM Xx mpD (k:=(k-1)) (i:=0) (by omega) rfl).1 ?_
     have f0:=bln (bln (bln (bln (g2.below (bln b4 e1.below) j5) d1) c7) d5) (Za h2)
     refine xl (.e [10] 11) ((Sts.cell (hM.below f0) Xx mpD (k:=(k-1)) (i:=0) (by omega) rfl).2) ?_
     refine xid (.r [12,13] 2) (((Z.getD i zvD).1.2.getD k mpD).1≤((Z.getD i zvD).1.2.getD (k-1) mpD).1) (fun k3=>?_) (fun k3=>?_)
     ·exact xe 15 (V0 8) (by have a3:mpE x ((Z.getD i zvD).1.2.getD k mpD) (Hf (Z.getD i zvD).1.2 k)=8:=mpE_8 (by rw[a2,a9,a8];rfl) (by have:=Mn.1 a2;unfold Hf;split<;>omega);have a7:Pc x (Z.getD i zvD).1.2 (-1)=8:=(by rw[hm,Ya (x:=mpD) (by omega),if_pos (by rw[a3];decide),a3]);exact⟨by rw[Xq (by rw[c3,c2,c4,b9];rfl) d9,he,Xl (by omega),if_neg (fun q=>q b6),if_pos (by rw[a7];decide),a7],f0⟩)
     refine xwm 5 ((k:Int)+1) (↑(k+1):Int) ?_
     have f7:=((c1.below c7).below d5).below (Za h2)
     exact ze 2 (j6 _ _ _ ⟨k+1,rfl,rfl,f0,f7,c5,by omega,(by have a3:mpE x ((Z.getD i zvD).1.2.getD k mpD) (Hf (Z.getD i zvD).1.2 k)=0:=Zgl (by rw[a2,a9,a8];rfl) (by have:=Mn.1 a2;unfold Hf;split<;>omega);rw[hm,Ya (x:=mpD) (by omega),if_neg (fun q=>q a3),Ws])⟩ (by omega))
    have f5:=of_decide_eq_false f5
    refine xwm (.r [3,4,5,6,7,8,9,10,11,12,13] 8) ((k:Int)+1) (↑(k+1):Int) ?_
    have i8:=bln (bln (bln (bln (g2.below (bln b4 e1.below) j5) d1) c7) d5) (Za h2)
    have e9:=((c1.below c7).below d5).below (Za h2)
    have e0:=((((g2.blkT (b7.below e1.below) e1.blk (by decide)).below d1).below c7).below d5).below (Za h2)
    exact ze 2 (j6 _ _ _ ⟨k+1,rfl,rfl,i8,e9,e0,by omega,(by have a3:mpE x ((Z.getD i zvD).1.2.getD k mpD) (Hf (Z.getD i zvD).1.2 k)=0:=Zgl (by rw[a2,a9,a8];rfl) (by have:=Mn.1 a2;unfold Hf;split<;>omega);rw[hm,Ya (x:=mpD) (by omega),if_neg (fun q=>q a3),Ws])⟩ (by omega))
   refine xwm 8 ((i:Int)+1) (↑(i+1):Int) ?_
   exact ze 2 (j4 _ _ _ ⟨i+1,rfl,rfl,b4,e6,by omega,(by have a7:Pc x (Z.getD i zvD).1.2 (-1)=0:=(by rw[hm,To (by omega)]);rw[he,Xl (by omega),if_neg (fun q=>q b6),if_neg (fun q=>q a7),Rw])⟩ (by omega))
  have f4:=of_decide_eq_false f4
  have b6:dvE (Z.getD i zvD).1 (Lh Z i)=0:=dvE_0 (by rw[a0,b3,b0,a6];rfl) (by have:=Mn.1 a0;unfold Lh;split<;>omega)
  have m0:=Sl.len hM
  have i0:=bln (bln (bln (bln (bln (g3.below (bln a4 e4.below) h8) c9) d6) d7) d8) (Za h7)
  have f1:=(((((g3.blkT (d0.below e4.below) e4.blk (by decide)).below c9).below d6).below d7).below d8).below (Za h7)
  have i9:=(e5.below d8).below (Za h7)
  refine zl (.r [3,4,5,6,7,8,9,10,11,12,13] 11) 131 (fun zm i2 V=>∃ (k:Nat),i2=[(1,P0 b1),(3,V0 (i:Int)),(4,P0 j9),(5,V0 (k:Int))]∧zm=(Z.getD i zvD).1.2.length-((k:Int)).toNat∧B3 w V∧Blk V b1 ([V0 t,V0 u,V0 v,V0 x,.slice p n c]) 24∧Blk V j9 ([V0 ((Z.getD i zvD).1.1.1),V0 ((Z.getD i zvD).1.1.2.1),V0 ((Z.getD i zvD).1.1.2.2.1),V0 ((Z.getD i zvD).1.1.2.2.2),.slice ((Z.getD i zvD).2.1) ((Z.getD i zvD).1.2.length) ((Z.getD i zvD).2.2)]) 61∧k≤(Z.getD i zvD).1.2.length∧Pc x (Z.getD i zvD).1.2 (-1)=Pc x ((Z.getD i zvD).1.2.drop k) (Hf (Z.getD i zvD).1.2 k)) ⟨0,rfl,rfl,i0,f1,i9,Nat.zero_le _,rfl⟩ ?_
  rintro _ _ n2 ⟨k,rfl,rfl,b5,e8,b8,hk,hm⟩ m5 i5 m8
  refine xb 5 4 b8 ?_
  refine xid 4 ((k:Int)<(↑((Z.getD i zvD).1.2.length):Int)) (fun l6=>?_) (fun l6=>?_)
  ·refine xb 7 4 b8 ?_
   refine xx 1 _ ((Z.getD i zvD).1.2.length) k 3 (Sts.cell hM Xx mpD (k:=k) (i:=0) (by omega) rfl).1 ?_
   refine xlv 0 (Sts.rp (k:=k) (hM.below b5) Xx mpD (by omega) (by decide)) ?_
   refine xa 0 [V0 0,V0 0,V0 0] 164 fun n3 o4 e3=>?_
   have j2:=e3.ge b5
   refine xsv 0 e3.blk [V0 (((Z.getD i zvD).1.2.getD k mpD).1),V0 (((Z.getD i zvD).1.2.getD k mpD).2.1),V0 (((Z.getD i zvD).1.2.getD k mpD).2.2)] fun n4 g6 l7=>?_
   refine xb 6 0 l7 ?_
   refine xr 0 (args:=#[V0 (((Z.getD i zvD).1.2.getD k mpD).1),V0 0,V0 281474976710655]) (Qm (((Z.getD i zvD).1.2.getD k mpD).1) 0 281474976710655 _) fun m6 c8=>?_
   refine xg 2 [101,102] (!(inZ (((Z.getD i zvD).1.2.getD k mpD).1) 0 281474976710655)) (fun a1=>?_) (fun a1=>?_)
   ·have a1:=Va a1
    have j0:=bln (g6.below (bln b5 e3.below) j2) c8
    exact xe 33 (V0 2) (by have a3:mpE x ((Z.getD i zvD).1.2.getD k mpD) (Hf (Z.getD i zvD).1.2 k)=2:=Ll (by first|exact .inl a1|exact .inr (.inl a1)|exact .inr (.inr (.inl a1))|exact .inr (.inr (.inr a1))|exact .inr (.inr a1));have a7:Pc x (Z.getD i zvD).1.2 (-1)=2:=(by rw[hm,Ya (x:=mpD) (by omega),if_pos (by rw[a3];decide),a3]);exact⟨by rw[Xq (by rw[c3,c2,c4,b9];rfl) d9,he,Xl (by omega),if_neg (fun q=>q b6),if_pos (by rw[a7];decide),a7],j0⟩)
   have a1:=Vb a1
   have g8:=l7.below c8
   refine xb 1 1 g8 ?_
   have c0:=(g6.blkT (e8.below e3.below) e3.blk (by decide)).below c8
   refine xb 1 3 c0 ?_
   refine xw 0 (x-1) ?_
   refine xr 0 (args:=#[V0 (((Z.getD i zvD).1.2.getD k mpD).2.1),V0 0,V0 (x-1)]) (Qm (((Z.getD i zvD).1.2.getD k mpD).2.1) 0 (x-1) _) fun o5 d2=>?_
   refine xg 3 [109,110,111] (!(inZ (((Z.getD i zvD).1.2.getD k mpD).2.1) 0 (x-1))) (fun a5=>?_) (fun a5=>?_)
   ·have a5:=Va a5
    have i1:=bln (bln (g6.below (bln b5 e3.below) j2) c8) d2
    exact xe 24 (V0 2) (by have a3:mpE x ((Z.getD i zvD).1.2.getD k mpD) (Hf (Z.getD i zvD).1.2 k)=2:=Ll (by first|exact .inl a5|exact .inr (.inl a5)|exact .inr (.inr (.inl a5))|exact .inr (.inr (.inr a5))|exact .inr (.inr a5));have a7:Pc x (Z.getD i zvD).1.2 (-1)=2:=(by rw[hm,Ya (x:=mpD) (by omega),if_pos (by rw[a3];decide),a3]);exact⟨by rw[Xq (by rw[c3,c2,c4,b9];rfl) d9,he,Xl (by omega),if_neg (fun q=>q b6),if_pos (by rw[a7];decide),a7],i1⟩)
   have a5:=Vb a5
   have g7:=g8.below d2
   refine xb 1 2 g7 ?_
   refine xr 0 (args:=#[V0 (((Z.getD i zvD).1.2.getD k mpD).2.2),V0 0,V0 16777215]) (Qm (((Z.getD i zvD).1.2.getD k mpD).2.2) 0 16777215 _) fun h5 d3=>?_
   refine xi 4 (!(inZ (((Z.getD i zvD).1.2.getD k mpD).2.2) 0 16777215)) (fun b2=>?_) (fun b2=>?_)
   ·have b2:=Va b2
    have i6:=bln (bln (bln (g6.below (bln b5 e3.below) j2) c8) d2) d3
    exact xe 16 (V0 2) (by have a3:mpE x ((Z.getD i zvD).1.2.getD k mpD) (Hf (Z.getD i zvD).1.2 k)=2:=Ll (by first|exact .inl b2|exact .inr (.inl b2)|exact .inr (.inr (.inl b2))|exact .inr (.inr (.inr b2))|exact .inr (.inr b2));have a7:Pc x (Z.getD i zvD).1.2 (-1)=2:=(by rw[hm,Ya (x:=mpD) (by omega),if_pos (by rw[a3];decide),a3]);exact⟨by rw[Xq (by rw[c3,c2,c4,b9];rfl) d9,he,Xl (by omega),if_neg (fun q=>q b6),if_pos (by rw[a7];decide),a7],i6⟩)
   have b2:=Vb b2
   refine xd 3 .z ?_
   refine xg (.b [0,1,2]) [118,119] (decide ((k:Int)>(0:Int))) (fun f2=>?_) (fun f2=>?_)
   ·have f2:=of_decide_eq_true f2
    have i3:=(g7.below d3).below (Za h5)
    refine xb (.e [3] 4) 0 i3 ?_
    have c6:=((((g6.blkT (b8.below e3.below) e3.blk (by decide)).below c8).below d2).below d3).below (Za h5)
    refine xb (.e [5] 6) 4 c6 ?_
    refine xwm (.e [7] 8) ((k:Int)-1) (↑(k-1):Int) ?_
    refine xx (.e [] 9) _ ((Z.getD i zvD).1.2.length) (k-1) 3 (Sts.cell hM Xx mpD (k:=(k-1)) (i:=0) (by omega) rfl).1 ?_
    have f6:=bln (bln (bln (bln (g6.below (bln b5 e3.below) j2) c8) d2) d3) (Za h5)
    refine xl (.e [10] 11) ((Sts.cell (hM.below f6) Xx mpD (k:=(k-1)) (i:=0) (by omega) rfl).2) ?_
    refine xid (.r [12,13] 2) (((Z.getD i zvD).1.2.getD k mpD).1≤((Z.getD i zvD).1.2.getD (k-1) mpD).1) (fun k2=>?_) (fun k2=>?_)
    ·exact xe 15 (V0 8) (by have a3:mpE x ((Z.getD i zvD).1.2.getD k mpD) (Hf (Z.getD i zvD).1.2 k)=8:=mpE_8 (by rw[a1,a5,b2];rfl) (by have:=Mn.1 a1;unfold Hf;split<;>omega);have a7:Pc x (Z.getD i zvD).1.2 (-1)=8:=(by rw[hm,Ya (x:=mpD) (by omega),if_pos (by rw[a3];decide),a3]);exact⟨by rw[Xq (by rw[c3,c2,c4,b9];rfl) d9,he,Xl (by omega),if_neg (fun q=>q b6),if_pos (by rw[a7];decide),a7],f6⟩)
    refine xwm 5 ((k:Int)+1) (↑(k+1):Int) ?_
    have f3:=((c0.below d2).below d3).below (Za h5)
    exact ze 2 (i5 _ _ _ ⟨k+1,rfl,rfl,f6,f3,c6,by omega,(by have a3:mpE x ((Z.getD i zvD).1.2.getD k mpD) (Hf (Z.getD i zvD).1.2 k)=0:=Zgl (by rw[a1,a5,b2];rfl) (by have:=Mn.1 a1;unfold Hf;split<;>omega);rw[hm,Ya (x:=mpD) (by omega),if_neg (fun q=>q a3),Ws])⟩ (by omega))
   have f2:=of_decide_eq_false f2
   refine xwm (.r [3,4,5,6,7,8,9,10,11,12,13] 8) ((k:Int)+1) (↑(k+1):Int) ?_
   have i4:=bln (bln (bln (bln (g6.below (bln b5 e3.below) j2) c8) d2) d3) (Za h5)
   have e7:=((c0.below d2).below d3).below (Za h5)
   have e2:=((((g6.blkT (b8.below e3.below) e3.blk (by decide)).below c8).below d2).below d3).below (Za h5)
   exact ze 2 (i5 _ _ _ ⟨k+1,rfl,rfl,i4,e7,e2,by omega,(by have a3:mpE x ((Z.getD i zvD).1.2.getD k mpD) (Hf (Z.getD i zvD).1.2 k)=0:=Zgl (by rw[a1,a5,b2];rfl) (by have:=Mn.1 a1;unfold Hf;split<;>omega);rw[hm,Ya (x:=mpD) (by omega),if_neg (fun q=>q a3),Ws])⟩ (by omega))
  refine xwm 8 ((i:Int)+1) (↑(i+1):Int) ?_
  exact ze 2 (j4 _ _ _ ⟨i+1,rfl,rfl,b5,e8,by omega,(by have a7:Pc x (Z.getD i zvD).1.2 (-1)=0:=(by rw[hm,To (by omega)]);rw[he,Xl (by omega),if_neg (fun q=>q b6),if_neg (fun q=>q a7),Rw])⟩ (by omega))
 exact xe 11 (V0 0) ⟨by rw[Xq (by rw[c3,c2,c4,b9];rfl) d9,he,Zbn (by rw[List.length_map];omega)],a4⟩
theorem map_cellB{w:World}{p:O0}{c:Nat}{M:List Mp}(h:Sts mapC w (.slice p M.length c) M){k:Nat}(hk:k<M.length)(h0:0≤(M.getD k mpD).2.1):w.cell? ((Zz p (k*3)).add 1)=some (V0 (((M.getD k mpD).2.1.toNat:Nat):Int)):=by
 rw[Int.toNat_of_nonneg h0];exact(Sts.cell h Xx mpD (k:=k) (i:=1) hk rfl).2
theorem Zhc{x:Nat}{Z:List Zv}{i k:Nat}(hi:i<Z.length)(hk:k<(Z.getD i zvD).1.2.length)(h0:0≤((Z.getD i zvD).1.2.getD k mpD).2.1) :
 ((He (List.replicate x 0) ((Qy 0 (Z.map Prod.fst)).take (Km ((Z.map Prod.fst).take i)+k))).map nv).set (((Z.getD i zvD).1.2.getD k mpD).2.1.toNat) (V0 (((He (List.replicate x 0) ((Qy 0 (Z.map Prod.fst)).take (Km ((Z.map Prod.fst).take i)+k))).getD (((Z.getD i zvD).1.2.getD k mpD).2.1.toNat) 0+1:Nat):Int))=(He (List.replicate x 0) ((Qy 0 (Z.map Prod.fst)).take (Km ((Z.map Prod.fst).take i)+(k+1)))).map nv:=by
 have hz:=zfst hi dvD
 have a0:=Zbk (L:=Z.map Prod.fst) (i:=i) (j:=k) (by rw[List.length_map];exact hi) (by rw[hz];exact hk)
 rw[hz] at a0
 rw[Zgj,Int.toNat_of_nonneg h0,←Nat.add_assoc,Ro _ _ a0];rfl
theorem Zdj{x:Nat}{L:List Dv}(h:DevsOk (x:Int) L)(j b:Nat):(He (List.replicate x 0) ((Qy 0 L).take j)).getD b 0≤16384:=by
 have a:=Pv (He (List.replicate x 0) ((Qy 0 L).take j)) b
 rw[Dq (data:=x) _ (fun y hy=>Tg h 0 y (List.mem_of_mem_take hy)) _ List.length_replicate,List.sum_replicate_nat,List.length_take,Wl] at a
 have:=h.sum
 omega
theorem sumM_all{L:List Dv}{i:Nat}(h:L.length≤i):Km (L.take i)=Km L:=by rw[List.take_of_length_le h]
theorem Mr(p:O0)(c n x:Nat)(t u v:Int)(Z:List Zv)(w:World)(hZ:Z.length=n)(hP:DevsR w p c Z)(hk:PoolOk t u v (x:Int) (Z.map Prod.fst)) :
 C0 96 #[.agg #[V0 t,V0 u,V0 v,V0 (x:Int),.slice p n c]] w (Qn (fun w' r=>∃ q d,r=.slice q x d∧w'.ownsRow w.heap.size 3 1 (.slice q x d) x ((Yk x (Z.map Prod.fst)).map nv)) w):=by
 have hx:x≤65536:=by have:=hk.hdata;omega
 have c2:=Sl.len (hP.rowN hZ)
 refine zin 46 Tryz.func96 ?_
 refine xa 2 [V0 t,V0 u,V0 v,V0 (x:Int),.slice p n c] 24 fun b1 W1 n1=>?_
 refine xlv 6 n1.blk.rp ?_
 refine xr 0 (args:=#[.agg #[V0 t,V0 u,V0 v,V0 (x:Int),.slice p n c]]) (Vx p c n t u v (x:Int) Z _ hZ (hP.below n1.below)) fun W2 b6=>?_
 refine xk 3 (show(((Xr t u v (x:Int) (Z.map Prod.fst)) != (0:Int)):Bool)=false from(by rw[Ks.2 hk];rfl)) ?_
 have a7:=n1.blk.below b6
 refine xb 5 3 a7 ?_
 refine xmk 0 fun _ _ _ _ zJ zQ zo zx zy zK=>Kn x (V0 0) 1 8 ((List.replicate x (0:Nat)).map nv) zo zx zy Tryz.underlying33 (by kernel_rfl) rfl (by omega) (by omega) ((zerosV x)) fun b3 W3 n3=>?_
 have a6:=bln n1.below b6
 have g3:=n3.ge a6
 refine zK _ _ ?_
 have o3:=Zw (size:=1) (n:=x) n3.blk g3 (by rw[List.length_map,List.length_replicate,Nat.mul_one]) (by unfold maxLen;omega)
 have b5:=bln a6 n3.below
 have b2:=a7.below n3.below
 refine zl 10 46 (fun zm a9 V=>∃ (i:Nat),a9=[(1,P0 b1),(2,S0),(3,.slice (S1 b3) x x),(4,V0 (i:Int))]∧zm=n-((i:Int)).toNat∧B3 w V∧Blk V b1 ([V0 t,V0 u,V0 v,V0 (x:Int),.slice p n c]) 24∧V.ownsRow w.heap.size 3 1 (.slice (S1 b3) x x) x ((He (List.replicate x 0) ((Qy 0 (Z.map Prod.fst)).take (Km ((Z.map Prod.fst).take i)))).map nv)∧i≤n) ⟨0,rfl,rfl,b5,b2,o3,Nat.zero_le _⟩ ?_
 rintro _ _ W4 ⟨i,rfl,rfl,a5,a4,hc,hi⟩ J4 c1 r4
 refine xb 5 4 a4 ?_
 refine xid 4 ((i:Int)<(n:Int)) (fun b8=>?_) (fun b8=>?_)
 ·have hM:=hP.each i (by omega)
  have a8:=(hk.devs.each (Z.getD i zvD).1 (by rw[←zfst (show i<Z.length by omega) dvD];exact Nu _ (by rw[List.length_map];omega))).maps
  have c5:=Sl.len hM
  have b7:=Gl (Z:=Z) (i:=i) (by omega)
  refine zl 10 46 (fun zm a9 V=>∃ (k:Nat),a9=[(1,P0 b1),(2,S0),(3,.slice (S1 b3) x x),(4,V0 (i:Int)),(5,V0 (k:Int))]∧zm=(Z.getD i zvD).1.2.length-((k:Int)).toNat∧B3 w V∧Blk V b1 ([V0 t,V0 u,V0 v,V0 (x:Int),.slice p n c]) 24∧V.ownsRow w.heap.size 3 1 (.slice (S1 b3) x x) x ((He (List.replicate x 0) ((Qy 0 (Z.map Prod.fst)).take (Km ((Z.map Prod.fst).take i)+k))).map nv)∧k≤(Z.getD i zvD).1.2.length) ⟨0,rfl,rfl,a5,a4,hc,Nat.zero_le _⟩ ?_
  rintro _ _ W6 ⟨k,rfl,rfl,a2,a0,a1,c3⟩ J6 b9 r6
  refine xb 5 4 a0 ?_
  refine xx 1 _ n i 5 (hP.someN hZ (i:=i) (by omega)) ?_
  refine xl 1 ((Sts.cell (hP.below a2).row Ye zvD (k:=i) (i:=4) (by omega) rfl).2) ?_
  refine xid 4 ((k:Int)<(↑((Z.getD i zvD).1.2.length):Int)) (fun c0=>?_) (fun c0=>?_)
  ·have b0:=a8.each ((Z.getD i zvD).1.2.getD k mpD) (Nu _ (by omega))
   have c6:=Zdj hk.devs (Km ((Z.map Prod.fst).take i)+k) ((Z.getD i zvD).1.2.getD k mpD).2.1.toNat
   have c4:((Z.getD i zvD).1.2.getD k mpD).2.1.toNat<x:=by have:=b0.2.1;omega
   refine xb 7 4 a0 ?_
   refine xx 1 _ n i 5 (hP.someN hZ (i:=i) (by omega)) ?_
   refine xl 1 ((Sts.cell (hP.below a2).row Ye zvD (k:=i) (i:=4) (by omega) rfl).2) ?_
   refine xx 1 _ ((Z.getD i zvD).1.2.length) k 3 (Sts.cell hM Xx mpD (k:=k) (i:=0) (by omega) rfl).1 ?_
   refine xl 1 (map_cellB (hM.below a2) (k:=k) (by omega) b0.2.1.1) ?_
   refine xx 0 _ x (((Z.getD i zvD).1.2.getD k mpD).2.1.toNat) 1 (show(some (⟨b3,0,none⟩:Addr)).isSome=true from rfl) ?_
   refine xl 0 ((Hk (Zf a1) (k:=((Z.getD i zvD).1.2.getD k mpD).2.1.toNat) (by rw[Eh,List.length_replicate];omega)).2) ?_
   refine xwm 0 ((↑((He (List.replicate x 0) ((Qy 0 (Z.map Prod.fst)).take (Km ((Z.map Prod.fst).take i)+k))).getD (((Z.getD i zvD).1.2.getD k mpD).2.1.toNat) 0):Int)+1) (↑(((He (List.replicate x 0) ((Qy 0 (Z.map Prod.fst)).take (Km ((Z.map Prod.fst).take i)+k))).getD (((Z.getD i zvD).1.2.getD k mpD).2.1.toNat) 0)+1):Int) ?_
   refine xx 0 _ x (((Z.getD i zvD).1.2.getD k mpD).2.1.toNat) 1 (show(some (⟨b3,0,none⟩:Addr)).isSome=true from rfl) ?_
   refine xst 0 fun _ _ _ _ zJ zQ zo zx zy zK=>Xz (t:=3) (k:=((Z.getD i zvD).1.2.getD k mpD).2.1.toNat) (v:=V0 (↑(((He (List.replicate x 0) ((Qy 0 (Z.map Prod.fst)).take (Km ((Z.map Prod.fst).take i)+k))).getD (((Z.getD i zvD).1.2.getD k mpD).2.1.toNat) 0)+1):Int)) zo zx zy (by kernel_rfl) rfl a1 (by omega) fun W8 u8 o8=>?_
   rw[Zhc (x:=x) (Z:=Z) (i:=i) (k:=k) (by omega) (by omega) b0.2.1.1] at o8
   refine zK _ _ ?_
   refine xwm 5 ((k:Int)+1) (↑(k+1):Int) ?_
   have b4:=u8.below a2 (Vz a1)
   have a3:=u8.blk a0 (Yx a0 a1 (by decide))
   exact ze 2 (b9 _ _ _ ⟨k+1,rfl,rfl,b4,a3,o8,by omega⟩ (by omega))
  refine xwm 8 ((i:Int)+1) (↑(i+1):Int) ?_
  exact ze 2 (c1 _ _ _ ⟨i+1,rfl,rfl,a2,a0,(by rw[b7,←show k=(Z.getD i zvD).1.2.length by omega];exact a1),by omega⟩ (by omega))
 exact xe 12 (.slice (S1 b3) x x) ⟨_,rfl,a5,_,_,rfl,by have q:=hc;rw[sumM_all (by rw[List.length_map];omega),List.take_of_length_le (by rw[Wl];exact Nat.le_refl _)] at q;exact q⟩
theorem Fe(B bc bm:Nat)(pg:O0)(N cg:Nat)(fa:O0)(mf fc f k0:Nat)(p:O0)(K cI:Nat)(bs:Bl)(a:O0)(c:Nat)(l:List Int)(w:World)(hR:RAl B bc bm pg N cg fa mf fc k0 (Qs f N) w)(h:Sl w (.slice a l.length c) l.length (l.map V0))(hl:l.length≤65536)(ho:(Zm l l.length).length≤32768)(hs:Yu l=0)(hk:k0+Up l≤N)(hf:f+N≤K)(hf1:1≤f)(hK:K≤14400)(hJ:RefI B bm p K cI bs w)(hBw:B≤w.heap.size) :
 C0 95 #[P0 bc,.slice a l.length c] w (RDataP B bc bm pg N cg f k0 p K cI bs l w):=by
 have k8:=Aq hl ho
 have h8:=Gk hs
 have l9:=Ju l l.length
 have k4:Up l=(bmN l.length)+Zy 4 (bmN l.length)+Zy 5 (Zm l l.length).length:=rfl
 have l7:=Yv 4 (bmN l.length)
 have k6:=Yv 5 (Zm l l.length).length
 have j7:=hR.hm
 refine zin 78 Tryz.func95 ?_
 refine xa 4 [S0,V0 0] 35 fun b1 W1 n1=>?_
 refine xc 5 (args:=#[.slice a l.length c]) (Pi a c l _ (h.below n1.below) (by omega) hs) ?_
 rintro _ W2 ⟨pb,cb,gs,po,co,rfl,c7,hL,f1⟩
 have j1:=(blB (Below.refl B w) hBw n1.below).size
 refine xd 21 .z ?_
 have d9:=((hR.below n1.below).below c7).below (Za W2)
 refine xl (.e [0,1,2] 3) (d9.blk.cell (i:=1) rfl) ?_
 refine xr (.o [4,5,6,7,8,11,12] 9) (args:=#[V0 4,V0 (↑(bmN l.length):Int)]) (Qd 4 (bmN l.length) _ (by decide) (by decide) (by omega)) fun W3 b5=>?_
 refine xwm (.e [] 10) ((↑(bmN l.length):Int)+(↑(Zy 4 (bmN l.length)):Int)) (↑((bmN l.length)+(Zy 4 (bmN l.length))):Int) ?_
 refine xr (.o [] 13) (args:=#[V0 5,V0 (↑((Zm l l.length).length):Int)]) (Qd 5 (Zm l l.length).length _ (by decide) (by decide) (by omega)) fun W4 b0=>?_
 refine xwm (.e [] 14) ((↑((bmN l.length)+(Zy 4 (bmN l.length))):Int)+(↑(Zy 5 (Zm l l.length).length):Int)) (↑(((bmN l.length)+(Zy 4 (bmN l.length)))+(Zy 5 (Zm l l.length).length)):Int) ?_
 refine xk (.r [15] 2) (show(decide ((mf:Int)<(↑(((bmN l.length)+(Zy 4 (bmN l.length)))+(Zy 5 (Zm l l.length).length)):Int)):Bool)=false from decide_eq_false (by omega)) ?_
 have g8:=(d9.below b5).below b0
 have h4:=((((hJ.below n1.below).below c7).below (Za W2)).below b5).below b0
 have g2:=((hL.below (Za W2)).below b5).below b0
 have hB:=blB (blB (blB (blB (blB (Below.refl B w) hBw n1.below) hBw c7) hBw (Za W2)) hBw b5) hBw b0
 refine xc 6 (args:=#[P0 bc,.slice pb (bmN l.length) cb]) (Rj (bmN l.length) B bc bm pg N cg fa mf fc f k0 p K cI bs _ pb cb gs (Zl (Zg l) (bmN l.length)) _ (Xk _ _) g8 h4 g2 (Uc h8.2 _) hf (by omega) (by omega) (Nat.le_trans hBw hB.size)) ?_
 rintro _ W5 ⟨a8,c8,j5,j0,i5,rfl,i2,g6,hR,hJ,d1⟩
 have j3:=(blB (blB (blB (blB (blB (Below.refl B w) hBw n1.below) hBw c7) hBw (Za W2)) hBw b5) hBw b0).size
 have e0:=Zi (Zb (Zb (Zb (Ze f1 j1) (Za W2)) b5) b0) g6 (by decide)
 have e7:=Ze d1 j3
 have f4:=hB.trans i2
 have hO:=(((((show Zd [169,9] w _ from(Zd.of_below n1.below)).trans (Zd.of_below c7)).trans (Zd.of_below (Za W2))).trans (Zd.of_below b5)).trans (Zd.of_below b0)).trans g6
 have k1:=((((n1.blk.below c7).below (Za W2)).below b5).below b0).only g6 (by decide)
 refine zl 15 78 (fun zm i3 V=>∃ (i:Nat) (p2:O0) (c2:Nat),i3=[(0,P0 bc),(4,V0 0),(5,V0 0),(6,P0 b1),(8,.slice po ((Zm l l.length).length) co),(10,.slice a8 (bmN l.length) c8),(11,.slice p2 i c2),(12,V0 (i:Int))]∧zm=(bmN l.length)-((i:Int)).toNat∧Below B w V∧Zd [169,9] w V∧Blk V b1 ([S0,V0 0]) 35∧V.ownsRow w.heap.size 123 3 (.slice p2 i c2) i ((Xv (Zl (Zg l) (bmN l.length)) (f+k0) i).flatMap Yj)∧V.ownsRow w.heap.size 123 3 (.slice po ((Zm l l.length).length) co) ((Zm l l.length).length) ((Zm l l.length).flatMap Yj)∧V.ownsRow w.heap.size 252 3 (.slice a8 (bmN l.length) c8) (bmN l.length) ((rsL (Zl (Zg l) (bmN l.length)) (f+k0) (bmN l.length)))∧RAl B bc bm pg N cg j5 j0 i5 (k0+(bmN l.length)) (Qs f N) V∧RefI B bm p K cI (Kl (Zl (Zg l) (bmN l.length)) (f+k0) bs (bmN l.length)) V∧i≤(bmN l.length)∧Ko (.slice p2 i c2) (.slice po (Zm l l.length).length co)) ⟨0,none,0,rfl,rfl,f4,hO,k1,World.ownsRow_nil _ _ _ _,e0,e7,hR,hJ,Nat.zero_le _,Ko.nil _⟩ ?_
 rintro _ _ W6 ⟨i,p2,c2,rfl,rfl,c5,e4,b3,i1,f1,d1,hR,hJ,hi,e9⟩ J6 i6 r6
 refine xid 9 ((i:Int)<(↑(bmN l.length):Int)) (fun j4=>?_) (fun j4=>?_)
 ·refine xx 9 _ (bmN l.length) i 3 (Sts.cell (Zb6 (Zf d1)) We rsD (k:=i) (i:=0) (by rw[Wh];omega) rfl).1 ?_
  refine xlv 0 (Sts.rp (k:=i) (Zb6 (Zf d1)) We rsD (by rw[Wh];omega) (by decide)) ?_
  have h5:((Rs (Zl (Zg l) (bmN l.length)) (f+k0) (bmN l.length)).getD i rsD)=((f+k0)+i,Yb ((Zl (Zg l) (bmN l.length)).getD i []),Xd ((Zl (Zg l) (bmN l.length)).getD i [])):=Zf2 (by omega)
  have i0:=Uc h8.2 (bmN l.length) i (by rw[Xk];omega)
  have l4:Yb ((Zl (Zg l) (bmN l.length)).getD i [])≤960:=Nat.le_trans (Wt _ _) i0.2
  have l2:Xd ((Zl (Zg l) (bmN l.length)).getD i [])≤960:=Nat.le_trans (Nr _) i0.2
  refine xr 0 (args:=#[.agg #[V0 (↑((Rs (Zl (Zg l) (bmN l.length)) (f+k0) (bmN l.length)).getD i rsD).1:Int),V0 (↑((Rs (Zl (Zg l) (bmN l.length)) (f+k0) (bmN l.length)).getD i rsD).2.1:Int),V0 (↑((Rs (Zl (Zg l) (bmN l.length)) (f+k0) (bmN l.length)).getD i rsD).2.2:Int)]]) (Ng (↑((Rs (Zl (Zg l) (bmN l.length)) (f+k0) (bmN l.length)).getD i rsD).1:Int) (↑((Rs (Zl (Zg l) (bmN l.length)) (f+k0) (bmN l.length)).getD i rsD).2.1:Int) (↑((Rs (Zl (Zg l) (bmN l.length)) (f+k0) (bmN l.length)).getD i rsD).2.2:Int) _ (by rw[h5];show 1≤((f+k0+i:Nat):Int)∧((f+k0+i:Nat):Int)≤14399;omega) (by rw[h5];show 0≤((Yb _:Nat):Int)∧((Yb _:Nat):Int)≤960;omega) (by rw[h5];show 0≤((Xd _:Nat):Int)∧((Xd _:Nat):Int)≤960;omega)) fun W8 b4=>?_
  refine xbs 1 1 [V0 (i:Int),.string ⟨(leB (↑((Rs (Zl (Zg l) (bmN l.length)) (f+k0) (bmN l.length)).getD i rsD).1:Int) 8++leB (↑((Rs (Zl (Zg l) (bmN l.length)) (f+k0) (bmN l.length)).getD i rsD).2.1:Int) 4++leB (↑((Rs (Zl (Zg l) (bmN l.length)) (f+k0) (bmN l.length)).getD i rsD).2.2:Int) 4).toArray⟩,V0 0] 123 fun b9 W9 n9=>?_
  have d0:=blB c5 hBw b4
  have g9:=n9.ge0 d0
  have b2:=Zb f1 b4
  have f5:=Zr b2 n9
  have b6:=Zb i1 b4
  have f8:=Zr b6 n9
  have a0:=Zb b6 n9.below
  have c9:=blB d0 hBw n9.below
  refine xbi 0 fun _ _ _ _ zJ zQ zo zx zy zK=>Qh (b:=b9) (c:=1) (m:=1) (news:=[V0 (i:Int),.string ⟨(leB (↑((Rs (Zl (Zg l) (bmN l.length)) (f+k0) (bmN l.length)).getD i rsD).1:Int) 8++leB (↑((Rs (Zl (Zg l) (bmN l.length)) (f+k0) (bmN l.length)).getD i rsD).2.1:Int) 4++leB (↑((Rs (Zl (Zg l) (bmN l.length)) (f+k0) (bmN l.length)).getD i rsD).2.2:Int) 4).toArray⟩,V0 0]) (.agg #[V0 0,.string ⟨#[]⟩,V0 0]) 3 32 (i+1) (((Xv (Zl (Zg l) (bmN l.length)) (f+k0) (i+1)).flatMap Yj)) zo Tryz.underlying88 (by kernel_rfl) rfl (by decide) zx a0 zy n9.blk rfl (by simp[Value.oneCell']) (by unfold maxLen;omega) (by omega) c9.size (by rfl) (slot_row (by omega)) fun j2 i8 k3 i7 a4 f6 h0=>?_
  have b7:=Zb b2 n9.below
  have a7:=e9.row b7 a4
  replace e9:=(e9.grow b7 h0)
  have c3:=a7
  refine zK _ _ ?_
  refine xwm 6 ((i:Int)+1) (↑(i+1):Int) ?_
  have h1:=c9.trans (f6.mono hBw)
  have h3:=(Zd.grown_new ((e4.trans (Zd.of_below b4)).trans (Zd.of_below n9.below)) a4 a0)
  have a9:=((b3.below b4).below n9.below).grown a4 a0 (by decide)
  have e5:=Zo (Zb (Zb d1 b4) n9.below) a4 a0 (by decide)
  have g5:=((hR.below b4).below n9.below).only (Zd.of_grown (T:=[123]) a4 a0 (by decide)) (by decide)
  have f7:=((hJ.below b4).below n9.below).only (Zd.of_grown (T:=[123]) a4 a0 (by decide)) (by decide)
  exact ze 2 (i6 _ _ _ ⟨i+1,_,_,rfl,rfl,h1,h3,a9,i7,c3,e5,g5,f7,by omega,e9⟩ (by omega))
 have h7:i=(bmN l.length):=by omega
 refine xc 9 (args:=#[P0 bc,V0 4,.slice p2 i c2]) (Gz B bc bm pg N cg _ _ _ f (k0+(bmN l.length)) p K cI (Kl (Zl (Zg l) (bmN l.length)) (f+k0) bs (bmN l.length)) 4 p2 c2 i (Xv (Zl (Zg l) (bmN l.length)) (f+k0) (bmN l.length)) _ (by rw[Qi];exact h7.symm) hR (by rw[Qi];omega) (by decide) (by decide) (Rc _ _ _ (by omega)) (by rw[Qi];omega) hf hJ (fun W _ h2=>by have hh:=Zf (Zi i1 h2 (by decide));rw[h7] at hh;rw[Qi];exact hh) (Nat.le_trans hBw c5.size)) ?_
 rintro _ m1 ⟨k5,j9,m0,rfl,f3,b8,hR,hJ⟩
 rw[Qi] at hR
 refine xa 3 [S0,V0 0] 35 fun l1 j8 a5=>?_
 have a2:=b3.only b8 (by decide)
 have c0:=a5.ne a2
 have d7:=c5.trans f3
 have h6:=a5.ge0 d7
 refine xsv 1 a5.blk [S0,V0 0] fun j6 c6 i9=>?_
 have f9:=(hR.below a5.below).only (Zd.of_upd (T:=[35]) c6 a5.blk (by decide)) (by decide)
 have f2:=(hJ.below a5.below).only (Zd.of_upd (T:=[35]) c6 a5.blk (by decide)) (by decide)
 have d3:=c6.own2 (Zb (Zi f1 b8 (by decide)) a5.below) a5.blk (by decide)
 have d8:=c6.below (blB d7 hBw a5.below) (Nat.le_trans hBw h6)
 refine xc 6 (args:=#[P0 bc,V0 5,.slice po ((Zm l l.length).length) co]) (Gz B bc bm pg N cg _ _ _ f (k0+(bmN l.length)+Zy 4 (bmN l.length)) p K cI (Yo 4 (Xv (Zl (Zg l) (bmN l.length)) (f+k0) (bmN l.length)) (f+(k0+(bmN l.length))) (Kl (Zl (Zg l) (bmN l.length)) (f+k0) bs (bmN l.length))).2 5 po co (Zm l l.length).length (Zm l l.length) _ rfl f9 (by omega) (by decide) (by decide) (Mh _ _ (by omega)) (by omega) hf f2 (fun W _ h2=>Zf (Zi d3 h2 (by decide))) (Nat.le_trans hBw d8.size)) ?_
 rintro _ l8 ⟨k2,l3,l0,rfl,g7,c4,hR,hJ⟩
 refine xa 3 [S0,V0 0] 35 fun k9 m2 a6=>?_
 have a3:=(c6.blk (a2.below a5.below) (Ne.symm (Ne.symm c0))).only c4 (by decide)
 have c1:=a6.ne a3
 have e6:=i9.only c4 (by decide)
 have f0:=a6.ne e6
 have d5:=d8.trans g7
 have h9:=a6.ge0 d5
 refine xsv 1 a6.blk [S0,V0 0] fun l5 d4 l6=>?_
 have a1:=d4.blk (a3.below a6.below) (Ne.symm (Ne.symm c1))
 refine xsv 9 a1 [S0,V0 0] fun k7 e8 i4=>?_
 have g1:=n1.ge0 (Below.refl B _)
 have d2:=((hJ.below a6.below).only (Zd.of_upd (T:=[35]) d4 a6.blk (by decide)) (by decide)).only (Zd.of_upd (T:=[35]) e8 a1 (by decide)) (by decide)
 have d6:=((hR.below a6.below).only (Zd.of_upd (T:=[35]) d4 a6.blk (by decide)) (by decide)).only (Zd.of_upd (T:=[35]) e8 a1 (by decide)) (by decide)
 have g3:=e8.below (d4.below (blB d5 hBw a6.below) (Nat.le_trans hBw h9)) (Nat.le_trans hBw g1)
 have g0:=(Zd.upd_new (Zd.upd_new (((Zd.upd_new ((e4.trans b8).trans (Zd.of_below a5.below)) c6 h6).trans c4).trans (Zd.of_below a6.below)) d4 h9) e8 g1)
 refine xec 3 i4 (.tuple #[V0 ((Yo 4 (Xv (Zl (Zg l) (bmN l.length)) (f+k0) (bmN l.length)) (f+(k0+(bmN l.length))) (Kl (Zl (Zg l) (bmN l.length)) (f+k0) bs (bmN l.length))).1),V0 ((Yo 5 (Zm l l.length) (f+(k0+(bmN l.length)+Zy 4 (bmN l.length))) (Yo 4 (Xv (Zl (Zg l) (bmN l.length)) (f+k0) (bmN l.length)) (f+(k0+(bmN l.length))) (Kl (Zl (Zg l) (bmN l.length)) (f+k0) bs (bmN l.length))).2).1),.agg #[S0,V0 0]]) ?_
 have e1:f+(k0+(bmN l.length))=f+k0+(bmN l.length):=by omega
 have e2:f+(k0+(bmN l.length)+Zy 4 (bmN l.length))=f+k0+(bmN l.length)+Zy 4 (bmN l.length):=by omega
 rw[e2,e1] at d2 ⊢
 have e3:k0+(bmN l.length)+Zy 4 (bmN l.length)+Zy 5 (Zm l l.length).length=k0+Up l:=by omega
 rw[e3] at d6
 exact⟨_,_,_,rfl,g3,g0,d6,d2⟩
theorem Ej(B bc bm:Nat)(pg:O0)(N cg:Nat)(fa:O0)(mf fc f k0:Nat)(p:O0)(K cI:Nat)(bs:Bl)(a:O0)(c:Nat)(l:List Int)(w:World)(hR:RAl B bc bm pg N cg fa mf fc k0 (Qs f N) w)(h:Sl w (.slice a l.length c) l.length (l.map V0))(hl:l.length≤3000)(hs:Yu l=0)(hlen:l.length=K)(hk:k0+Xo l≤N)(hf:f+N≤K)(hf1:1≤f)(hfree2:Zb7 l ((f+k0:Nat):Int))(hJ:RefI B bm p K cI bs w)(hBw:B≤w.heap.size) :
 C0 97 #[P0 bc,.slice a l.length c] w (RMetaP B bc bm pg N cg f k0 p K cI bs l w):=by
 have hW:Sin w w:=⟨Below.refl _ _⟩
 have i2:=Gk hs
 have m8:=Ju l l.length
 have k8:Xo l=(Zy 5 (Zm l l.length).length)+(bmN l.length)+1:=rfl
 have l7:=Yv 5 (Zm l l.length).length
 have j9:=hR.hm
 have l5:bmN l.length≤4:=by unfold bmN;omega
 have j6:Yu (Ym l (f+k0) (Xo l))=0:=by unfold Yu;rw[if_neg (by rw[Qe];omega),if_pos (Cq hfree2 i2.2)]
 have i4:=Uc (Cq (n:=Xo l) hfree2 i2.2) (bmN l.length)
 refine zin 113 Tryz.func97 ?_
 refine xa 4 [S0,V0 0] 35 fun b1 W1 n1=>?_
 have b2:=hW.below n1.below
 refine xl 10 ((hR.below b2.b).blk.cell (i:=0) rfl) ?_
 refine xl 2 ((hJ.below b2.b).blk.cell (i:=0) rfl) ?_
 refine xk 4 (show(((l.length:Int) != (K:Int)):Bool)=false from by rw[hlen];simp) ?_
 refine xc 5 (args:=#[.slice a l.length c]) (Lu l.length a c l _ rfl (Sl.below h b2.b) (by omega) hs) ?_
 rintro _ W2 ⟨n7,m4,n9,po,co,rfl,d7,m6,g2⟩
 have j5:=(blB (Below.refl B w) hBw n1.below).size
 refine xr 23 (args:=#[V0 5,V0 (↑((Zm l l.length).length):Int)]) (Qd 5 (Zm l l.length).length _ (by decide) (by decide) (by omega)) fun W3 d2=>?_
 refine xr 2 (args:=#[V0 (l.length:Int)]) (Ss l.length _ (by omega)) fun W4 c7=>?_
 refine xwm 0 ((↑(Zy 5 (Zm l l.length).length):Int)+(↑(bmN l.length):Int)) (↑((Zy 5 (Zm l l.length).length)+(bmN l.length)):Int) ?_
 refine xwm 0 ((↑((Zy 5 (Zm l l.length).length)+(bmN l.length)):Int)+1) (↑(((Zy 5 (Zm l l.length).length)+(bmN l.length))+1):Int) ?_
 have d9:=((b2.below d7).below d2).below c7
 refine xl 9 ((hR.below d9.b).blk.cell (i:=1) rfl) ?_
 refine xk 5 (show(decide ((mf:Int)<(↑(((Zy 5 (Zm l l.length).length)+(bmN l.length))+1):Int)):Bool)=false from decide_eq_false (by omega)) ?_
 refine xb0 4 3 fun b5 W5 n5=>?_
 have o5:=Zw (size:=1) (n:=0) n5.blk (n5.ge0 (blB (blB (blB (blB (Below.refl B w) hBw n1.below) hBw d7) hBw d2) hBw c7)) rfl (by decide)
 have f5:=d9.below n5.below
 have hB:=blB (blB (blB (blB (blB (Below.refl B w) hBw n1.below) hBw d7) hBw d2) hBw c7) hBw n5.below
 refine xbi 1 fun _ _ _ _ zJ zQ zo zx zy zK=>Zn (m:=l.length) (news:=(l.map V0)) (V0 0) 1 8 (l.length) ((l.map V0)) zo Tryz.underlying33 (by kernel_rfl) rfl (by decide) zx o5 zy (Sl.below h f5.b) (by simp) (Co _) (by unfold maxLen;omega) (by omega) hB.size (by omega) (by rfl) fun m2 g3 W6 o6 g6 h8=>?_
 refine zK _ _ ?_
 have c3:=f5.trans h8
 have i6:=c3.b.size
 have h3:=o6
 refine xc 7 (args:=#[P0 bc,V0 (↑(((Zy 5 (Zm l l.length).length)+(bmN l.length))+1):Int)]) (Zef (Xo l) B bc bm pg N cg fa mf fc k0 (Qs f N) _ (hR.below c3.b) (by omega) (by omega)) ?_
 rintro _ W7 ⟨_,rfl,d1,qa,ca,rfl,e8⟩
 have l6:=(hB.trans (h8.mono hBw)).size
 have i9:=Ko.of_lt h3 e8 (Nat.le_refl _)
 have f6:=Ze e8 i6
 have e7:=Zb o6 d1
 obtain⟨gb,rfl,m1⟩:=Qf e7 (by omega)
 have f4:=Zb (Zo (Zb (Zb (Zb (Ze g2 j5) d2) c7) n5.below) g6 o5 (by decide)) d1
 have h6:=c3.below d1
 have h1:=blB (hB.trans (h8.mono hBw)) hBw d1
 have hO:=(Zd.grown_new (((((show Zd [169,9] w _ from(Zd.of_below n1.below)).trans (Zd.of_below d7)).trans (Zd.of_below d2)).trans (Zd.of_below c7)).trans (Zd.of_below n5.below)) g6 o5).trans (Zd.of_below d1)
 have k1:=(((((n1.blk.below d7).below d2).below c7).below n5.below).grown g6 o5 (by decide)).below d1
 refine zl 10 113 (fun zm i8 V=>∃ (i:Nat),i8=[(0,P0 bc),(4,V0 0),(5,V0 0),(6,P0 b1),(8,.slice po ((Zm l l.length).length) co),(10,V0 (↑(((Zy 5 (Zm l l.length).length)+(bmN l.length))+1):Int)),(11,.slice (S1 gb) l.length g3),(12,.slice qa (Xo l) ca),(13,V0 (i:Int))]∧zm=Xo l-((i:Int)).toNat∧Below B w V∧Zd [169,9] w V∧Blk V b1 ([S0,V0 0]) 35∧V.ownsRow w.heap.size 3 1 (.slice (S1 gb) l.length g3) l.length ((Ym l (f+k0) i).map V0)∧V.ownsRow w.heap.size 3 1 (.slice qa (Xo l) ca) (Xo l) ((((Qs f N).drop k0).take (Xo l)).map V0)∧V.ownsRow w.heap.size 123 3 (.slice po ((Zm l l.length).length) co) ((Zm l l.length).length) ((Zm l l.length).flatMap Yj)∧Sin w V∧i≤Xo l) ⟨0,rfl,rfl,h1,hO,k1,(by rw[Rg];exact e7),f6,f4,h6,Nat.zero_le _⟩ ?_
 rintro _ _ W8 ⟨i,rfl,rfl,c6,e5,a7,b0,f6,g2,hW,hi⟩ J8 j7 r8
 have k2:i<Xo l→l.getD (f+k0+i) 0=0:=fun q=>(hfree2 (f+k0+i) (by omega)).1 (by omega)
 refine xid 8 ((i:Int)<(↑(((Zy 5 (Zm l l.length).length)+(bmN l.length))+1):Int)) (fun j4=>?_) (fun j4=>?_)
 ·refine xx 8 _ (Xo l) i 1 (Wx (Zf f6) (by omega) (i:=i) (by omega)).1 ?_
  refine xl 0 ((Wx (Zf f6) (by omega) (i:=i) (by omega)).2) ?_
  refine xx 0 _ l.length (f+k0+i) 1 (Gh (Zf b0) rfl (q:=f+k0) (i:=i) (by omega)).1 ?_
  refine xl 0 ((Gh (Zf b0) rfl (q:=f+k0) (i:=i) (by omega)).2) ?_
  refine xw 0 ((l.getD (f+k0+i) 0)+1) ?_
  refine xx 0 _ l.length (f+k0+i) 1 (Gh (Zf b0) rfl (q:=f+k0) (i:=i) (by omega)).1 ?_
  refine xst 0 fun _ _ _ _ zJ zQ zo zx zy zK=>Xz (t:=3) (k:=(f+k0+i)) (v:=V0 ((l.getD (f+k0+i) 0)+1)) zo zx zy (by kernel_rfl) rfl b0 (by omega) fun k6 d0 i3=>?_
  rw[Ot (l:=l) (f:=f+k0) (j:=i) (by omega)] at i3
  refine zK _ _ ?_
  refine xwm 5 ((i:Int)+1) (↑(i+1):Int) ?_
  have h4:=d0.below c6 (Nat.le_trans hBw (Vz b0))
  have i1:=(Zd.upd_new e5 d0 (Vz b0))
  have b3:=d0.blk a7 (Yx a7 b0 (by decide))
  have d6:=d0.own3 f6 (fun j hj e=>i9 _ rfl (e▸hj))
  have d8:=d0.ownRow g2 b0 (by decide)
  have h0:=hW.upd d0 (Vz b0)
  exact ze 2 (j7 _ _ _ ⟨i+1,rfl,rfl,h4,i1,b3,i3,d6,d8,h0,by omega⟩ (by omega))
 refine xc 9 (args:=#[P0 bc,V0 5,.slice po ((Zm l l.length).length) co]) (Gz B bc bm pg N cg _ _ _ f k0 p K cI bs 5 po co (Zm l l.length).length (Zm l l.length) _ rfl (hR.below hW.b) (by omega) (by decide) (by decide) (Mh _ _ (by omega)) (by omega) hf (hJ.below hW.b) (fun W _ h2=>Zf (Zi g2 h2 (by decide))) (Nat.le_trans hBw c6.size)) ?_
 rintro _ n2 ⟨l2,k5,m9,rfl,g9,b7,d4,e6⟩
 refine xa 3 [S0,V0 0] 35 fun l9 k3 a5=>?_
 have a3:=a7.only b7 (by decide)
 have c1:=a5.ne a3
 have b9:=c6.trans g9
 have g7:=a5.ge0 b9
 refine xsv 1 a5.blk [S0,V0 0] fun j8 c0 j3=>?_
 have d3:=c0.own2 (Zb (Zi b0 b7 (by decide)) a5.below) a5.blk (by decide)
 refine xc 5 (args:=#[.slice (S1 gb) l.length g3]) (Lu l.length (S1 gb) g3 (Ym l (f+k0) (Xo l)) _ (Qe _ _ _) (by have hh:=Zf d3;rw[show i=Xo l by omega] at hh;exact hh) (by omega) j6) ?_
 rintro _ m7 ⟨pb,cb,gs,n0,l3,rfl,a1,hL,j2⟩
 have f7:=((d4.below a5.below).only (Zd.of_upd (T:=[35]) c0 a5.blk (by decide)) (by decide)).below a1
 have e4:=((e6.below a5.below).only (Zd.of_upd (T:=[35]) c0 a5.blk (by decide)) (by decide)).below a1
 have f2:=blB (c0.below (blB b9 hBw a5.below) (Nat.le_trans hBw g7)) hBw a1
 refine xc 23 (args:=#[P0 bc,.slice pb (bmN l.length) cb]) (Rj (bmN l.length) B bc bm pg N cg _ _ _ f (k0+(Zy 5 (Zm l l.length).length)) p K cI (Yo 5 (Zm l l.length) (f+k0) bs).2 _ pb cb gs (Zl (Zg (Ym l (f+k0) (Xo l))) (bmN l.length)) _ (Xk _ _) f7 e4 hL i4 hf (by omega) (by omega) (Nat.le_trans hBw f2.size)) ?_
 rintro _ n3 ⟨a8,c8,n8,m3,l4,rfl,h9,c5,d4,e6,j0⟩
 have g8:=(blB (c0.below (blB b9 hBw a5.below) (Nat.le_trans hBw g7)) hBw a1).size
 have f9:=Ze j0 g8
 refine xc 0 (args:=#[.slice a8 (bmN l.length) c8]) (Zdg (bmN l.length) a8 c8 (Rs (Zl (Zg (Ym l (f+k0) (Xo l))) (bmN l.length)) (f+(k0+(Zy 5 (Zm l l.length).length))) (bmN l.length)) _ (Wh _ _ _) (rs_ok i4 (Xk _ _) (by omega) (by omega) (by omega)) (Zb6 (Zf f9))) ?_
 rintro _ m5 ⟨_,rfl,a4,bz,cz,rfl,j1⟩
 have e9:=d4.below a4
 have d5:=e6.below a4
 have b8:=(((Zd.upd_new ((e5.trans b7).trans (Zd.of_below a5.below)) c0 g7).trans (Zd.of_below a1)).trans c5).trans (Zd.of_below a4)
 have f0:=blB (f2.trans h9) hBw a4
 refine xc 11 (args:=#[P0 bc,V0 4,.slice (S1 bz) ((Rk (Rs (Zl (Zg (Ym l (f+k0) (Xo l))) (bmN l.length)) (f+(k0+(Zy 5 (Zm l l.length).length))) (bmN l.length))).length) cz]) (Zch 4 (by decide) (by decide) B bc bm pg N cg _ _ _ f (k0+(Zy 5 (Zm l l.length).length)+(bmN l.length)) p K cI (Kl (Zl (Zg (Ym l (f+k0) (Xo l))) (bmN l.length)) (f+(k0+(Zy 5 (Zm l l.length).length))) (Yo 5 (Zm l l.length) (f+k0) bs).2 (bmN l.length)) (S1 bz) cz (Rk (Rs (Zl (Zg (Ym l (f+k0) (Xo l))) (bmN l.length)) (f+(k0+(Zy 5 (Zm l l.length).length))) (bmN l.length))).length (Rk (Rs (Zl (Zg (Ym l (f+k0) (Xo l))) (bmN l.length)) (f+(k0+(Zy 5 (Zm l l.length).length))) (bmN l.length))) (f+(k0+(Zy 5 (Zm l l.length).length)+(bmN l.length))) _ rfl rfl (by rw[Cf (by rw[Wh];omega)];decide) (by omega) hf e9 d5 (fun W _ b8=>j1 _ W b8 (by decide)) (Nat.le_trans hBw f0.size)) ?_
 rintro _ l8 ⟨a9,c9,n6,l1,k9,rfl,h7,c2,d4,e6⟩
 refine xa 3 [S0,V0 0] 35 fun k4 k7 a6=>?_
 have a2:=((((c0.blk (a3.below a5.below) (Ne.symm (Ne.symm c1))).below a1).only c5 (by decide)).below a4).only c2 (by decide)
 have c4:=a6.ne a2
 have f8:=(((j3.below a1).only c5 (by decide)).below a4).only c2 (by decide)
 have g0:=a6.ne f8
 have f1:=f0.trans h7
 have i5:=a6.ge0 f1
 refine xsv 1 a6.blk [.slice a9 0 c9,V0 0] fun m0 f3 n4=>?_
 have a0:=f3.blk (a2.below a6.below) (Ne.symm (Ne.symm c4))
 refine xsv 9 a0 [S0,V0 0] fun l0 g5 i7=>?_
 have g1:=n1.ge0 (Below.refl B _)
 have b4:=((e6.below a6.below).only (Zd.of_upd (T:=[35]) f3 a6.blk (by decide)) (by decide)).only (Zd.of_upd (T:=[35]) g5 a0 (by decide)) (by decide)
 have b6:=((d4.below a6.below).only (Zd.of_upd (T:=[35]) f3 a6.blk (by decide)) (by decide)).only (Zd.of_upd (T:=[35]) g5 a0 (by decide)) (by decide)
 have h5:=g5.below (f3.below (blB f1 hBw a6.below) (Nat.le_trans hBw i5)) (Nat.le_trans hBw g1)
 have i0:=(Zd.upd_new (Zd.upd_new ((b8.trans c2).trans (Zd.of_below a6.below)) f3 i5) g5 g1)
 refine xec 3 i7 (.tuple #[V0 (↑(f+(k0+(Zy 5 (Zm l l.length).length)+(bmN l.length))):Int),V0 ((Yo 5 (Zm l l.length) (f+k0) bs).1),.agg #[S0,V0 0]]) ?_
 have e0:Xo l=Xo l:=rfl
 have e1:f+(k0+(Zy 5 (Zm l l.length).length)+(bmN l.length))=f+k0+(Zy 5 (Zm l l.length).length)+(bmN l.length):=by omega
 have e2:f+(k0+(Zy 5 (Zm l l.length).length))=f+k0+(Zy 5 (Zm l l.length).length):=by omega
 rw[e1,e2] at b4
 rw[e1]
 have e3:k0+(Zy 5 (Zm l l.length).length)+(bmN l.length)+1=k0+Xo l:=by omega
 rw[e3] at b6
 refine⟨_,_,_,?_,h5,i0,b6,?_⟩
 ·unfold Ca;rw[Cu]
 ·unfold Ca;rw[Cu];exact b4
theorem Kh(n lo hi:Int)(w:World) :
 C0 247 #[V0 n,V0 lo,V0 hi] w (Ret (.bool (decide (lo≤n∧n≤hi))) w):=by
 refine zin 15 Tryz.func247 ?_
 refine xg 11 [9,10] (decide (n≥lo)) (fun a0=>?_) (fun a0=>?_)
 ·have a0:=of_decide_eq_true a0
  exact xe 8 (.bool (decide (n≤hi))) ⟨by rw[show decide (lo≤n∧n≤hi)=decide (n≤hi) from by simp;omega],(B4 w)⟩
 have a0:=of_decide_eq_false a0
 exact xe 8 (.bool false) ⟨by rw[show decide (lo≤n∧n≤hi)=false from decide_eq_false (by omega)],(B4 w)⟩
theorem Zbf(s:Sup)(w:World)(hb0:0≤s.blocks)(hb1:s.blocks<9223372036854775808) :
 C0 186 #[.agg #[V0 s.tx,V0 s.time,V0 s.unit,V0 s.data,V0 s.blocks,V0 s.top,V0 s.details,V0 s.dslots,V0 s.dover,V0 s.mindex,V0 s.mover]] w (Ret (.bool (Xj s)) w):=by
 refine zin 69 Tryz.func186 ?_
 refine xa 2 [V0 s.tx,V0 s.time,V0 s.unit,V0 s.data,V0 s.blocks,V0 s.top,V0 s.details,V0 s.dslots,V0 s.dover,V0 s.mindex,V0 s.mover] 44 fun b1 W1 n1=>?_
 refine xb 7 0 n1.blk ?_
 refine xr 0 (args:=#[V0 s.tx,V0 0,V0 2147483647]) (Kh s.tx 0 2147483647 _) fun W2 b4=>?_
 refine xg 2 [7,8] (!(decide ((0:Int)≤s.tx∧s.tx≤2147483647))) (fun e7=>?_) (fun e7=>?_)
 ·have f1:(decide ((0:Int)≤s.tx∧s.tx≤2147483647))=false:=Va e7
  have hB:=bln n1.below b4
  refine xe 33 (.bool false) ?_
  have hR:Xj s=false:=by
   unfold Xj
   first|(rw[f1];done)|(rw[f1];rfl)
  rw[hR];exact⟨rfl,hB⟩
 have a5:(decide ((0:Int)≤s.tx∧s.tx≤2147483647))=true:=Vb e7
 have e6:=n1.blk.below b4
 refine xb 1 1 e6 ?_
 refine xr 0 (args:=#[V0 s.time,V0 0,V0 16777215]) (Kh s.time 0 16777215 _) fun W6 b5=>?_
 refine xg 3 [12,13,14] (!(decide ((0:Int)≤s.time∧s.time≤16777215))) (fun e9=>?_) (fun e9=>?_)
 ·have f0:(decide ((0:Int)≤s.time∧s.time≤16777215))=false:=Va e9
  have hB:=bln (bln n1.below b4) b5
  refine xe 27 (.bool false) ?_
  have hR:Xj s=false:=by
   unfold Xj
   first|(rw[a5,f0];done)|(rw[a5,f0];rfl)
  rw[hR];exact⟨rfl,hB⟩
 have a7:(decide ((0:Int)≤s.time∧s.time≤16777215))=true:=Vb e9
 have e2:=e6.below b5
 refine xb 1 2 e2 ?_
 refine xr 0 (args:=#[V0 s.unit,V0 1,V0 65536]) (Kh s.unit 1 65536 _) fun f5 a4=>?_
 refine xg 3 [18,19,20] (!(decide ((1:Int)≤s.unit∧s.unit≤65536))) (fun c8=>?_) (fun c8=>?_)
 ·have d5:(decide ((1:Int)≤s.unit∧s.unit≤65536))=false:=Va c8
  have hB:=bln (bln (bln n1.below b4) b5) a4
  refine xe 21 (.bool false) ?_
  have hR:Xj s=false:=by
   unfold Xj
   first|(rw[a5,a7,d5];done)|(rw[a5,a7,d5];rfl)
  rw[hR];exact⟨rfl,hB⟩
 have a0:(decide ((1:Int)≤s.unit∧s.unit≤65536))=true:=Vb c8
 have d7:=e2.below a4
 refine xb 1 3 d7 ?_
 refine xr 0 (args:=#[V0 s.data,V0 0,V0 65536]) (Kh s.data 0 65536 _) fun g0 a6=>?_
 refine xg 3 [24,25,26] (!(decide ((0:Int)≤s.data∧s.data≤65536))) (fun b9=>?_) (fun b9=>?_)
 ·have d8:(decide ((0:Int)≤s.data∧s.data≤65536))=false:=Va b9
  have hB:=bln (bln (bln (bln n1.below b4) b5) a4) a6
  refine xe 15 (.bool false) ?_
  have hR:Xj s=false:=by
   unfold Xj
   first|(rw[a5,a7,a0,d8];done)|(rw[a5,a7,a0,d8];rfl)
  rw[hR];exact⟨rfl,hB⟩
 have a1:(decide ((0:Int)≤s.data∧s.data≤65536))=true:=Vb b9
 have d2:=d7.below a6
 refine xb 1 4 d2 ?_
 refine xr 0 (args:=#[V0 s.blocks,V0 2,V0 14400]) (Kh s.blocks 2 14400 _) fun f9 a8=>?_
 refine xi 4 (!(decide ((2:Int)≤s.blocks∧s.blocks≤14400))) (fun c4=>?_) (fun c4=>?_)
 ·have e4:(decide ((2:Int)≤s.blocks∧s.blocks≤14400))=false:=Va c4
  have hB:=bln (bln (bln (bln (bln n1.below b4) b5) a4) a6) a8
  refine xe 7 (.bool false) ?_
  have hR:Xj s=false:=by
   unfold Xj
   first|(rw[a5,a7,a0,a1,e4];done)|(rw[a5,a7,a0,a1,e4];rfl)
  rw[hR];exact⟨rfl,hB⟩
 have a2:(decide ((2:Int)≤s.blocks∧s.blocks≤14400))=true:=Vb c4
 have c2:=d2.below a8
 refine xb 5 4 c2 ?_
 refine xw 0 (s.blocks-1) ?_
 refine xb 6 5 c2 ?_
 refine xr 1 (args:=#[V0 s.top,V0 1,V0 (s.blocks-1)]) (Kh s.top 1 (s.blocks-1) _) fun f3 b0=>?_
 refine xg 1 [38,39] (decide ((1:Int)≤s.top∧s.top≤s.blocks-1)) (fun c7=>?_) (fun c7=>?_)
 ·have a3:(decide ((1:Int)≤s.top∧s.top≤s.blocks-1))=true:=c7
  have e1:=c2.below b0
  refine xb 1 6 e1 ?_
  refine xr 1 (args:=#[V0 s.details,V0 1,V0 (s.blocks-1)]) (Kh s.details 1 (s.blocks-1) _) fun f8 b2=>?_
  refine xg 2 [43,44,45] (decide ((1:Int)≤s.details∧s.details≤s.blocks-1)) (fun c1=>?_) (fun c1=>?_)
  ·have a9:(decide ((1:Int)≤s.details∧s.details≤s.blocks-1))=true:=c1
   have e3:=e1.below b2
   refine xb 1 7 e3 ?_
   refine xr 1 (args:=#[V0 s.dslots,V0 1,V0 (s.blocks-1)]) (Kh s.dslots 1 (s.blocks-1) _) fun f6 b6=>?_
   refine xg 2 [49,50,51] (decide ((1:Int)≤s.dslots∧s.dslots≤s.blocks-1)) (fun c5=>?_) (fun c5=>?_)
   ·have b3:(decide ((1:Int)≤s.dslots∧s.dslots≤s.blocks-1))=true:=c5
    have c9:=e3.below b6
    refine xb 1 8 c9 ?_
    refine xr 1 (args:=#[V0 s.dover,V0 1,V0 (s.blocks-1)]) (Kh s.dover 1 (s.blocks-1) _) fun f2 b8=>?_
    refine xg 2 [55,56,57] (decide ((1:Int)≤s.dover∧s.dover≤s.blocks-1)) (fun c6=>?_) (fun c6=>?_)
    ·have b7:(decide ((1:Int)≤s.dover∧s.dover≤s.blocks-1))=true:=c6
     have e5:=c9.below b8
     refine xb 1 9 e5 ?_
     refine xr 1 (args:=#[V0 s.mindex,V0 1,V0 (s.blocks-1)]) (Kh s.mindex 1 (s.blocks-1) _) fun f7 c3=>?_
     refine xg 2 [61,62,63] (decide ((1:Int)≤s.mindex∧s.mindex≤s.blocks-1)) (fun c0=>?_) (fun c0=>?_)
     ·have d0:(decide ((1:Int)≤s.mindex∧s.mindex≤s.blocks-1))=true:=c0
      have d6:=e5.below c3
      refine xb 1 10 d6 ?_
      refine xr 1 (args:=#[V0 s.mover,V0 1,V0 (s.blocks-1)]) (Kh s.mover 1 (s.blocks-1) _) fun f4 e8=>?_
      have hB:=bln (bln (bln (bln (bln (bln (bln (bln (bln (bln (bln n1.below b4) b5) a4) a6) a8) b0) b2) b6) b8) c3) e8
      refine xe 5 (.bool (decide ((1:Int)≤s.mover∧s.mover≤s.blocks-1))) ?_
      have hR:Xj s=(decide ((1:Int)≤s.mover∧s.mover≤s.blocks-1)):=by
       unfold Xj
       first|(rw[a5,a7,a0,a1,a2,a3,a9,b3,b7,d0];done)|(rw[a5,a7,a0,a1,a2,a3,a9,b3,b7,d0];rfl)
      rw[hR];exact⟨rfl,hB⟩
     have d3:(decide ((1:Int)≤s.mindex∧s.mindex≤s.blocks-1))=false:=c0
     have hB:=bln (bln (bln (bln (bln (bln (bln (bln (bln (bln n1.below b4) b5) a4) a6) a8) b0) b2) b6) b8) c3
     refine xe 9 (.bool false) ?_
     have hR:Xj s=false:=by
      unfold Xj
      first|(rw[a5,a7,a0,a1,a2,a3,a9,b3,b7,d3];done)|(rw[a5,a7,a0,a1,a2,a3,a9,b3,b7,d3];rfl)
     rw[hR];exact⟨rfl,hB⟩
    have d4:(decide ((1:Int)≤s.dover∧s.dover≤s.blocks-1))=false:=c6
    have hB:=bln (bln (bln (bln (bln (bln (bln (bln (bln n1.below b4) b5) a4) a6) a8) b0) b2) b6) b8
    refine xe 15 (.bool false) ?_
    have hR:Xj s=false:=by
     unfold Xj
     first|(rw[a5,a7,a0,a1,a2,a3,a9,b3,d4];done)|(rw[a5,a7,a0,a1,a2,a3,a9,b3,d4];rfl)
    rw[hR];exact⟨rfl,hB⟩
   have d9:(decide ((1:Int)≤s.dslots∧s.dslots≤s.blocks-1))=false:=c5
   have hB:=bln (bln (bln (bln (bln (bln (bln (bln n1.below b4) b5) a4) a6) a8) b0) b2) b6
   refine xe 21 (.bool false) ?_
   have hR:Xj s=false:=by
    unfold Xj
    first|(rw[a5,a7,a0,a1,a2,a3,a9,d9];done)|(rw[a5,a7,a0,a1,a2,a3,a9,d9];rfl)
   rw[hR];exact⟨rfl,hB⟩
  have e0:(decide ((1:Int)≤s.details∧s.details≤s.blocks-1))=false:=c1
  have hB:=bln (bln (bln (bln (bln (bln (bln n1.below b4) b5) a4) a6) a8) b0) b2
  refine xe 27 (.bool false) ?_
  have hR:Xj s=false:=by
   unfold Xj
   first|(rw[a5,a7,a0,a1,a2,a3,e0];done)|(rw[a5,a7,a0,a1,a2,a3,e0];rfl)
  rw[hR];exact⟨rfl,hB⟩
 have d1:(decide ((1:Int)≤s.top∧s.top≤s.blocks-1))=false:=c7
 have hB:=bln (bln (bln (bln (bln (bln n1.below b4) b5) a4) a6) a8) b0
 refine xe 33 (.bool false) ?_
 have hR:Xj s=false:=by
  unfold Xj
  first|(rw[a5,a7,a0,a1,a2,d1];done)|(rw[a5,a7,a0,a1,a2,d1];rfl)
 rw[hR];exact⟨rfl,hB⟩
end Go.Proofs.YtegcamkgeacjfaaGreatDoor
namespace Go.Proofs.YtegcamkgeacjfaaGreatDoor
set_option maxHeartbeats 8000000
set_option maxRecDepth 100000
open Go.RowKit Go.Extern.Stop Go.Stop Go.Extern
set_option linter.unusedVariables false
attribute [local irreducible] wpList wpAnyH Code.wp Oper.wp Go
def Zba(W:World)(b:Nat)(cs:List Value)(e:TypeId):Prop:=W.heap[b]? = some (.cells cs.toArray e (cs.length,cs.length+1))
theorem Zba.below{W V:World}{b:Nat}{cs:List Value}{e:TypeId}(h:Zba W b cs e)(hb:B3 W V):Zba V b cs e:=(hb.block b (Array.getElem?_eq_some_iff.1 h).1).trans h
theorem mark_run{P:Program}{w:World}{b n c:Nat}{cs:List Value}{e t:TypeId}(k:Blk w b cs e)(ht:P.underlying t=some (.slice e))(he:P.underlying e=some (.int .u8)) :
 ∃ W,(convert t t (.slice (S1 b) n c)).run P w=.ok (.slice (S1 b) n c) W∧Upd w b W∧Zba W b cs e:=by
 have hk:w.heap[b]? = some (.cells cs.toArray e (0,0)):=k
 have a0:w.shape? b=some (e,cs.length):=by unfold World.shape?;rw[hk];simp
 refine⟨w.freeze ⟨b,cs.length,none⟩ 1,by simp[convert,run_underlying ht,run_underlying he,markStringish,a0],?_,?_⟩
 ·unfold World.freeze
  rw[if_neg (by decide)]
  exact⟨rfl,rfl,rfl,by simp,fun j hj=>by simp[Array.getElem?_modify,Ne.symm hj]⟩
 ·unfold Zba World.freeze
  rw[if_neg (by decide)]
  simp[Array.getElem?_modify,hk]
section
attribute [local semireducible] Oper.wp
theorem op_mark{P:Program}{Q:Exit→Act→World→Prop}{a:Act}{w:World}{K:Act→World→Prop}{o:Oper}{x:Operand}{b n c:Nat}{cs:List Value}{e t:TypeId}(ho:o.op=.convert t t x)(hx:a.eval x=.slice (S1 b) n c)(k:Blk w b cs e)(ht:P.underlying t=some (.slice e))(he:P.underlying e=some (.int .u8))
 (h:∀ W,Upd w b W→Zba W b cs e→K (a.put o.dst (.slice (S1 b) n c)) W):o.wp P a w K Q:=by
 obtain⟨W,h1,h2,h3⟩:=mark_run (n:=n) (c:=c) k ht he
 have h4:(execOp a.eval o).run P w=.ok (.value (.slice (S1 b) n c)) W:=by
  simp only[execOp,ho,hx,Sem.run_bind,h1];rfl
 simp only[Oper.wp,h4,Oper.upon]
 exact h W h2 h3
theorem op_appM{P:Program}{Q:Exit→Act→World→Prop}{a:Act}{w:World}{K:Act→World→Prop}{o:Oper}{s x:Operand}{t e:TypeId}{b n m c:Nat}{p:O0}{cs news:List Value}(n':Nat)(xs':List Value)(ho:o.op=.call { callee:=.builtin .append,args:=#[s,x],argTypes:=#[t,t] })
 (ht:P.underlying t=some (.slice e)) (hi:(P.info? e).map (fun i=>(i.zero,i.size,i.bytes))=some (some (.int .u8 0),1,1)) (hs:a.eval s=.slice (S1 b) n n) (hM:Zba w b cs e) (hn:cs.length=n) (hu:a.eval x=.slice p m c) (hx:Sl w (.slice p m c) m news)
 (hl:news.length=m) (hm:0<m) (h63:n+m≤1000000) (hn':n+m=n') (hxs:cs++news=xs')
 (h:∀ q d W,W.ownsRow w.heap.size e 1 (.slice q n' d) n' xs'→B3 w W→K (a.put o.dst (.slice q n' d)) W):o.wp P a w K Q:=by
 subst hn' hxs
 cases hq:P.info? e with
 | none=>simp[hq] at hi
 | some i =>
  simp only[hq,Option.map_some,Option.some.injEq,Prod.mk.injEq] at hi
  rcases Sl.at hx with q|⟨g,a0,rfl,hc⟩
  ·rw[q] at hl;simp at hl;omega
  ·obtain⟨v',W,h1,h2,h3⟩:=run_append_arg_grows (P:=P) w t o.type e i (.int .u8 0) 1 1 ht hq hi.1 hi.2.1 hi.2.2 rfl (by decide) ⟨b,0,none⟩ n n cs (by omega) (fun j u hj=>by
     have:(⟨b,0,none⟩:Addr).add j=⟨b,j,none⟩:=by unfold Addr.add;split<;>simp_all
     rw[this]
     simp[World.cell?,show w.heap[b]? = _ from hM,hj]) ⟨g,a0,none⟩ m c news (by omega) (fun j u hj=>by rw[Addr.add_mid];exact hc j u hj) (by omega) (by unfold maxLen;omega) (by omega)
   have hv:∃ q d,v'=.slice q (n+m) d:=by
    rcases h2.2 with ⟨rfl,h0⟩|⟨g',a1,a2,rfl,_⟩
    ·omega
    ·exact⟨_,_,rfl⟩
   obtain⟨q,d,rfl⟩:=hv
   unfold Oper.wp execOp
   simp only[ho,resolve,invoke,builtin,Sem.run_bind,Sem.run_pure,Result.andThen_ok,List.map_toArray,List.map_cons,List.map_nil,hs,hu,h1]
   exact h q d W h2 ⟨h3.os,h3.tape,h3.output,h3.size,fun k hk=>h3.block k hk (by simp)⟩
end
end Go.Proofs.YtegcamkgeacjfaaGreatDoor
namespace Go.Proofs.YtegcamkgeacjfaaGreatDoor
set_option maxHeartbeats 8000000
set_option maxRecDepth 100000
open Go.RowKit Go.Extern.Stop Go.Stop Go.Extern
set_option linter.unusedVariables false
attribute [local irreducible] wpList wpAnyH Code.wp Oper.wp Go
theorem Qo{s:Sup}(h:Xj s=true):∀ i,i<12→0≤((1:Int)::Ht s).getD i 0∧((1:Int)::Ht s).getD i 0<9223372036854775808:=by
 unfold Xj at h
 simp only[Bool.and_eq_true,decide_eq_true_eq,true_and] at h
 intro i hi
 obtain rfl|rfl|rfl|rfl|rfl|rfl|rfl|rfl|rfl|rfl|rfl|rfl:i=0∨i=1∨i=2∨i=3∨i=4∨i=5∨i=6∨i=7∨i=8∨i=9∨i=10∨i=11:=by omega
 all_goals simp only[Ht,List.getD_cons_zero,List.getD_cons_succ]
 all_goals omega
theorem nums_take{N:List Int}{i:Nat}(h:i<N.length):Ve (N.take (i+1))=Ve (N.take i)++leB (N.getD i 0) 4:=by
 rw[List.take_succ_eq_append_getElem h]
 unfold Ve
 rw[List.flatMap_append]
 simp[List.getD,h]
theorem Vl{N:List Int}{i:Nat}(h:i<N.length):(Vd++Ve (N.take i)).map bv++(leB (N.getD i 0) 4).map bv=(Vd++Ve (N.take (i+1))).map bv:=by
 rw[nums_take h,←List.map_append,List.append_assoc]
theorem put6_zero(l:Bl)(j:Nat):(l++List.replicate j 0).map bv++[.int .u8 0]=(l++List.replicate (j+1) 0).map bv:=by
 rw[List.replicate_succ',←List.append_assoc,List.map_append (l₁:=l++List.replicate j 0)];rfl
theorem Zc3(s:Sup)(w:World)(hr:Xj s=true)(hb:0≤s.blocks∧s.blocks<9223372036854775808) :
 C0 98 #[.agg #[V0 s.tx,V0 s.time,V0 s.unit,V0 s.data,V0 s.blocks,V0 s.top,V0 s.details,V0 s.dslots,V0 s.dover,V0 s.mindex,V0 s.mover]] w (Qn (fun w' r=>∃ p c,r=.tuple #[.slice p 244 c,V0 0]∧w'.ownsRow w.heap.size 5 1 (.slice p 244 c) 244 ((Ao s).map bv)) w):=by
 refine zin 55 Tryz.func98 ?_
 refine xa 2 [V0 s.tx,V0 s.time,V0 s.unit,V0 s.data,V0 s.blocks,V0 s.top,V0 s.details,V0 s.dslots,V0 s.dover,V0 s.mindex,V0 s.mover] 44 fun b1 W1 n1=>?_
 refine xlv 7 n1.blk.rp ?_
 refine xr 0 (args:=#[.agg #[V0 s.tx,V0 s.time,V0 s.unit,V0 s.data,V0 s.blocks,V0 s.top,V0 s.details,V0 s.dslots,V0 s.dover,V0 s.mindex,V0 s.mover]]) (Zbf s _ hb.1 hb.2) fun W2 k8=>?_
 refine xk 3 (show(!(Xj s):Bool)=false from by rw[hr];rfl) ?_
 have a0:=n1.blk.below k8
 refine xb 5 0 a0 ?_
 refine xb 1 1 a0 ?_
 refine xb 1 2 a0 ?_
 refine xb 1 3 a0 ?_
 refine xb 1 4 a0 ?_
 refine xb 1 5 a0 ?_
 refine xb 1 6 a0 ?_
 refine xb 1 7 a0 ?_
 refine xb 1 8 a0 ?_
 refine xb 1 9 a0 ?_
 refine xb 1 10 a0 ?_
 refine xbs 0 12 [V0 1,V0 s.tx,V0 s.time,V0 s.unit,V0 s.data,V0 s.blocks,V0 s.top,V0 s.details,V0 s.dslots,V0 s.dover,V0 s.mindex,V0 s.mover] 3 fun b3 W3 n3=>?_
 refine xbs 5 8 [.int .u8 83,.int .u8 67,.int .u8 65,.int .u8 78,.int .u8 84,.int .u8 76,.int .u8 73,.int .u8 78] 5 fun b4 W4 n4=>?_
 refine xcf 0 fun _ _ _ zJ zQ zo zx zK=>op_mark (b:=b4) (n:=8) (c:=8) zo zx n4.blk Tryz.underlying40 Tryz.underlying5 ?_
 intro W5 u5 hM
 have g4:=n4.ge (bln (bln n1.below k8) n3.below)
 refine zK _ _ ?_
 refine xu 10 13 ?_
 have k3:=u5.blkT (n3.blk.below n4.below) n4.blk (by decide)
 refine xb 19 0 k3 ?_
 refine xc 0 (args:=#[V0 1,V0 4]) (Xe (1:Int) 4 (4:Int) _ (Qo hr 0 (by decide)).1 (Qo hr 0 (by decide)).2 rfl (by decide)) ?_
 rintro _ W6 ⟨_,rfl,l0,q6,d6,rfl,n0⟩
 have q9:=(u5.below (bln (bln (bln n1.below k8) n3.below) n4.below) g4).size
 have hB:=bln (u5.below (bln (bln (bln n1.below k8) n3.below) n4.below) g4) l0
 have o5:w.heap.size≤(W6).heap.size:=hB.size
 have m4:=hM.below l0
 have g2:=Ze n0 q9
 refine xbi 0 fun _ _ _ _ zJ zQ zo zx zy zK=>op_appM (b:=b4) (n:=8) (m:=4) (p:=q6) (c:=d6) 12 ((Vd++Ve ((1::Ht s).take 1)).map bv) zo Tryz.underlying40 (by kernel_rfl) zx m4 rfl zy (Zf g2) (by rw[List.length_map,Zh]) (by decide) (by decide) rfl (Vl (N:=(1::Ht s)) (i:=0) (show 0<12 by decide)) ?_
 intro p7 c7 W7 o7 k9
 replace o7:=Ze o7 o5
 refine zK _ _ ?_
 have g6:=(k3.below l0).below k9
 refine xb 29 1 g6 ?_
 refine xc 0 (args:=#[V0 s.tx,V0 4]) (Xe s.tx 4 (4:Int) _ (Qo hr 1 (by decide)).1 (Qo hr 1 (by decide)).2 rfl (by decide)) ?_
 rintro _ W8 ⟨_,rfl,l1,q8,d8,rfl,m2⟩
 have q5:=(bln hB k9).size
 have f4:=Ze m2 q5
 have e7:=Zb o7 l1
 have e6:=bln (bln hB k9) l1
 refine xbi 0 fun _ _ _ _ zJ zQ zo zx zy zK=>Zn (m:=4) (news:=((leB s.tx 4).map bv)) (.int .u8 0) 1 1 (16) (((Vd++Ve ((1::Ht s).take 2)).map bv)) zo Tryz.underlying40 (by kernel_rfl) rfl (by decide) zx e7 zy (Zf f4) (by rw[List.length_map,Zh]) (Xs _) (by decide) (by decide) e6.size (by rfl) (Vl (N:=(1::Ht s)) (i:=1) (show 1<12 by decide)) fun w8 v6 W9 o9 n6 n5=>?_
 refine zK _ _ ?_
 have h9:=(g6.below l1).grown n6 e7 (by decide)
 refine xb 29 2 h9 ?_
 refine xc 0 (args:=#[V0 s.time,V0 4]) (Xe s.time 4 (4:Int) _ (Qo hr 2 (by decide)).1 (Qo hr 2 (by decide)).2 rfl (by decide)) ?_
 rintro _ s7 ⟨_,rfl,c0,s9,w4,rfl,h8⟩
 have m1:=(e6.trans n5).size
 have d5:=Ze h8 m1
 have f5:=Zb o9 c0
 have f0:=bln (e6.trans n5) c0
 refine xbi 0 fun _ _ _ _ zJ zQ zo zx zy zK=>Zn (m:=4) (news:=((leB s.time 4).map bv)) (.int .u8 0) 1 1 (20) (((Vd++Ve ((1::Ht s).take 3)).map bv)) zo Tryz.underlying40 (by kernel_rfl) rfl (by decide) zx f5 zy (Zf d5) (by rw[List.length_map,Zh]) (Xs _) (by decide) (by decide) f0.size (by rfl) (Vl (N:=(1::Ht s)) (i:=2) (show 2<12 by decide)) fun o8 q3 w2 q7 j8 g7=>?_
 refine zK _ _ ?_
 have k7:=(h9.below c0).grown j8 f5 (by decide)
 refine xb 29 3 k7 ?_
 refine xc 0 (args:=#[V0 s.unit,V0 4]) (Xe s.unit 4 (4:Int) _ (Qo hr 3 (by decide)).1 (Qo hr 3 (by decide)).2 rfl (by decide)) ?_
 rintro _ s3 ⟨_,rfl,b9,w0,v3,rfl,i9⟩
 have m0:=(f0.trans g7).size
 have d7:=Ze i9 m0
 have b0:=Zb q7 b9
 have e9:=bln (f0.trans g7) b9
 refine xbi 0 fun _ _ _ _ zJ zQ zo zx zy zK=>Zn (m:=4) (news:=((leB s.unit 4).map bv)) (.int .u8 0) 1 1 (24) (((Vd++Ve ((1::Ht s).take 4)).map bv)) zo Tryz.underlying40 (by kernel_rfl) rfl (by decide) zx b0 zy (Zf d7) (by rw[List.length_map,Zh]) (Xs _) (by decide) (by decide) e9.size (by rfl) (Vl (N:=(1::Ht s)) (i:=3) (show 3<12 by decide)) fun o0 r6 r8 o6 h6 h3=>?_
 refine zK _ _ ?_
 have i7:=(k7.below b9).grown h6 b0 (by decide)
 refine xb 29 4 i7 ?_
 refine xc 0 (args:=#[V0 s.data,V0 4]) (Xe s.data 4 (4:Int) _ (Qo hr 4 (by decide)).1 (Qo hr 4 (by decide)).2 rfl (by decide)) ?_
 rintro _ v7 ⟨_,rfl,c9,v1,u2,rfl,j7⟩
 have m7:=(e9.trans h3).size
 have d9:=Ze j7 m7
 have a7:=Zb o6 c9
 have g0:=bln (e9.trans h3) c9
 refine xbi 0 fun _ _ _ _ zJ zQ zo zx zy zK=>Zn (m:=4) (news:=((leB s.data 4).map bv)) (.int .u8 0) 1 1 (28) (((Vd++Ve ((1::Ht s).take 5)).map bv)) zo Tryz.underlying40 (by kernel_rfl) rfl (by decide) zx a7 zy (Zf d9) (by rw[List.length_map,Zh]) (Xs _) (by decide) (by decide) g0.size (by rfl) (Vl (N:=(1::Ht s)) (i:=4) (show 4<12 by decide)) fun r4 p8 w3 q1 g9 i8=>?_
 refine zK _ _ ?_
 have k4:=(i7.below c9).grown g9 a7 (by decide)
 refine xb 29 5 k4 ?_
 refine xc 0 (args:=#[V0 s.blocks,V0 4]) (Xe s.blocks 4 (4:Int) _ (Qo hr 5 (by decide)).1 (Qo hr 5 (by decide)).2 rfl (by decide)) ?_
 rintro _ v0 ⟨_,rfl,c4,u6,u9,rfl,i3⟩
 have l9:=(g0.trans i8).size
 have b7:=Ze i3 l9
 have b2:=Zb q1 c4
 have f7:=bln (g0.trans i8) c4
 refine xbi 0 fun _ _ _ _ zJ zQ zo zx zy zK=>Zn (m:=4) (news:=((leB s.blocks 4).map bv)) (.int .u8 0) 1 1 (32) (((Vd++Ve ((1::Ht s).take 6)).map bv)) zo Tryz.underlying40 (by kernel_rfl) rfl (by decide) zx b2 zy (Zf b7) (by rw[List.length_map,Zh]) (Xs _) (by decide) (by decide) f7.size (by rfl) (Vl (N:=(1::Ht s)) (i:=5) (show 5<12 by decide)) fun o3 n8 t5 p0 h2 i5=>?_
 refine zK _ _ ?_
 have h4:=(k4.below c4).grown h2 b2 (by decide)
 refine xb 29 6 h4 ?_
 refine xc 0 (args:=#[V0 s.top,V0 4]) (Xe s.top 4 (4:Int) _ (Qo hr 6 (by decide)).1 (Qo hr 6 (by decide)).2 rfl (by decide)) ?_
 rintro _ t0 ⟨_,rfl,d1,w1,v9,rfl,h7⟩
 have l3:=(f7.trans i5).size
 have c1:=Ze h7 l3
 have a8:=Zb p0 d1
 have f8:=bln (f7.trans i5) d1
 refine xbi 0 fun _ _ _ _ zJ zQ zo zx zy zK=>Zn (m:=4) (news:=((leB s.top 4).map bv)) (.int .u8 0) 1 1 (36) (((Vd++Ve ((1::Ht s).take 7)).map bv)) zo Tryz.underlying40 (by kernel_rfl) rfl (by decide) zx a8 zy (Zf c1) (by rw[List.length_map,Zh]) (Xs _) (by decide) (by decide) f8.size (by rfl) (Vl (N:=(1::Ht s)) (i:=6) (show 6<12 by decide)) fun p5 r5 u4 p4 g8 j4=>?_
 refine zK _ _ ?_
 have j6:=(h4.below d1).grown g8 a8 (by decide)
 refine xb 29 7 j6 ?_
 refine xc 0 (args:=#[V0 s.details,V0 4]) (Xe s.details 4 (4:Int) _ (Qo hr 7 (by decide)).1 (Qo hr 7 (by decide)).2 rfl (by decide)) ?_
 rintro _ t2 ⟨_,rfl,e0,t4,s6,rfl,g5⟩
 have l6:=(f8.trans j4).size
 have d0:=Ze g5 l6
 have a2:=Zb p4 e0
 have f1:=bln (f8.trans j4) e0
 refine xbi 0 fun _ _ _ _ zJ zQ zo zx zy zK=>Zn (m:=4) (news:=((leB s.details 4).map bv)) (.int .u8 0) 1 1 (40) (((Vd++Ve ((1::Ht s).take 8)).map bv)) zo Tryz.underlying40 (by kernel_rfl) rfl (by decide) zx a2 zy (Zf d0) (by rw[List.length_map,Zh]) (Xs _) (by decide) (by decide) f1.size (by rfl) (Vl (N:=(1::Ht s)) (i:=7) (show 7<12 by decide)) fun q4 o4 t7 p3 i1 j3=>?_
 refine zK _ _ ?_
 have i2:=(j6.below e0).grown i1 a2 (by decide)
 refine xb 29 8 i2 ?_
 refine xc 0 (args:=#[V0 s.dslots,V0 4]) (Xe s.dslots 4 (4:Int) _ (Qo hr 8 (by decide)).1 (Qo hr 8 (by decide)).2 rfl (by decide)) ?_
 rintro _ t9 ⟨_,rfl,c8,v8,w6,rfl,k1⟩
 have m6:=(f1.trans j3).size
 have b8:=Ze k1 m6
 have b5:=Zb p3 c8
 have e8:=bln (f1.trans j3) c8
 refine xbi 0 fun _ _ _ _ zJ zQ zo zx zy zK=>Zn (m:=4) (news:=((leB s.dslots 4).map bv)) (.int .u8 0) 1 1 (44) (((Vd++Ve ((1::Ht s).take 9)).map bv)) zo Tryz.underlying40 (by kernel_rfl) rfl (by decide) zx b5 zy (Zf b8) (by rw[List.length_map,Zh]) (Xs _) (by decide) (by decide) e8.size (by rfl) (Vl (N:=(1::Ht s)) (i:=8) (show 8<12 by decide)) fun r7 r0 s2 r2 h1 k5=>?_
 refine zK _ _ ?_
 have i4:=(i2.below c8).grown h1 b5 (by decide)
 refine xb 29 9 i4 ?_
 refine xc 0 (args:=#[V0 s.dover,V0 4]) (Xe s.dover 4 (4:Int) _ (Qo hr 9 (by decide)).1 (Qo hr 9 (by decide)).2 rfl (by decide)) ?_
 rintro _ u7 ⟨_,rfl,c5,s1,s4,rfl,j5⟩
 have m5:=(e8.trans k5).size
 have c3:=Ze j5 m5
 have a1:=Zb r2 c5
 have f6:=bln (e8.trans k5) c5
 refine xbi 0 fun _ _ _ _ zJ zQ zo zx zy zK=>Zn (m:=4) (news:=((leB s.dover 4).map bv)) (.int .u8 0) 1 1 (48) (((Vd++Ve ((1::Ht s).take 10)).map bv)) zo Tryz.underlying40 (by kernel_rfl) rfl (by decide) zx a1 zy (Zf c3) (by rw[List.length_map,Zh]) (Xs _) (by decide) (by decide) f6.size (by rfl) (Vl (N:=(1::Ht s)) (i:=9) (show 9<12 by decide)) fun q0 r3 u1 p9 i6 h5=>?_
 refine zK _ _ ?_
 have e2:=(i4.below c5).grown i6 a1 (by decide)
 refine xb 29 10 e2 ?_
 refine xc 0 (args:=#[V0 s.mindex,V0 4]) (Xe s.mindex 4 (4:Int) _ (Qo hr 10 (by decide)).1 (Qo hr 10 (by decide)).2 rfl (by decide)) ?_
 rintro _ u0 ⟨_,rfl,d4,t8,w7,rfl,h0⟩
 have m9:=(f6.trans h5).size
 have d2:=Ze h0 m9
 have a5:=Zb p9 d4
 have a6:=bln (f6.trans h5) d4
 refine xbi 0 fun _ _ _ _ zJ zQ zo zx zy zK=>Zn (m:=4) (news:=((leB s.mindex 4).map bv)) (.int .u8 0) 1 1 (52) (((Vd++Ve ((1::Ht s).take 11)).map bv)) zo Tryz.underlying40 (by kernel_rfl) rfl (by decide) zx a5 zy (Zf d2) (by rw[List.length_map,Zh]) (Xs _) (by decide) (by decide) a6.size (by rfl) (Vl (N:=(1::Ht s)) (i:=10) (show 10<12 by decide)) fun p1 n9 v2 n7 j9 k2=>?_
 refine zK _ _ ?_
 have e4:=(e2.below d4).grown j9 a5 (by decide)
 refine xb 29 11 e4 ?_
 refine xc 0 (args:=#[V0 s.mover,V0 4]) (Xe s.mover 4 (4:Int) _ (Qo hr 11 (by decide)).1 (Qo hr 11 (by decide)).2 rfl (by decide)) ?_
 rintro _ s8 ⟨_,rfl,d3,r9,v4,rfl,k6⟩
 have m8:=(a6.trans k2).size
 have c2:=Ze k6 m8
 have a3:=Zb n7 d3
 have e3:=bln (a6.trans k2) d3
 refine xbi 0 fun _ _ _ _ zJ zQ zo zx zy zK=>Zn (m:=4) (news:=((leB s.mover 4).map bv)) (.int .u8 0) 1 1 (56) (((Vd++Ve ((1::Ht s).take 12)).map bv)) zo Tryz.underlying40 (by kernel_rfl) rfl (by decide) zx a3 zy (Zf c2) (by rw[List.length_map,Zh]) (Xs _) (by decide) (by decide) e3.size (by rfl) (Vl (N:=(1::Ht s)) (i:=11) (show 11<12 by decide)) fun f2 f9 v5 o1 j2 l7=>?_
 refine zK _ _ ?_
 have n2:=o1
 rw[show(1::Ht s).take 12=(1::Ht s) from rfl] at n2
 refine xv1 27 5 (show(.slice f2 56 f9:Value)=.slice f2 (56+0) f9 from by rfl) ?_
 have j0:=e3.trans l7
 have m3:=((((((((((((((((((((((((u5.blkT ((a0.below n3.below).below n4.below) n4.blk (by decide)).below l0).below k9).below l1).grown n6 e7 (by decide)).below c0).grown j8 f5 (by decide)).below b9).grown h6 b0 (by decide)).below c9).grown g9 a7 (by decide)).below c4).grown h2 b2 (by decide)).below d1).grown g8 a8 (by decide)).below e0).grown i1 a2 (by decide)).below c8).grown h1 b5 (by decide)).below c5).grown i6 a1 (by decide)).below d4).grown j9 a5 (by decide)).below d3).grown j2 a3 (by decide)
 have k0:=(e4.below d3).grown j2 a3 (by decide)
 refine zl 0 55 (fun zm o2 V=>∃ (j:Nat) (p6:O0) (c6:Nat),o2=[(2,S0),(3,V0 0),(5,.slice p6 (56+j) c6)]∧zm=244-((56+j))∧B3 w V∧Blk V b1 ([V0 s.tx,V0 s.time,V0 s.unit,V0 s.data,V0 s.blocks,V0 s.top,V0 s.details,V0 s.dslots,V0 s.dover,V0 s.mindex,V0 s.mover]) 44∧Blk V b3 ([V0 1,V0 s.tx,V0 s.time,V0 s.unit,V0 s.data,V0 s.blocks,V0 s.top,V0 s.details,V0 s.dslots,V0 s.dover,V0 s.mindex,V0 s.mover]) 3∧V.ownsRow w.heap.size 5 1 (.slice p6 (56+j) c6) (56+j) ((Vd++Ve (1::Ht s)++List.replicate j 0).map bv)∧j≤188) ⟨0,f2,f9,rfl,rfl,j0,m3,k0,(by rw[show List.replicate 0 (0:UInt8)=[] from rfl,List.append_nil];exact n2),Nat.zero_le _⟩ ?_
 rintro _ _ s5 ⟨j,p6,c6,rfl,rfl,a9,e5,f3,hR,hj⟩ t1 l4 u3
 refine xid 8 ((↑(56+j):Int)<(244:Int)) (fun l8=>?_) (fun l8=>?_)
 ·refine xbs 5 1 [.int .u8 0] 5 fun s0 t6 g3=>?_
  have t3:=g3.ge a9
  have l5:=Zr hR g3
  have g1:=Zb hR g3.below
  have e1:=bln a9 g3.below
  refine xbi 0 fun _ _ _ _ zJ zQ zo zx zy zK=>Zn (m:=1) (news:=[.int .u8 0]) (.int .u8 0) 1 1 ((56+(j+1))) (((Vd++Ve (1::Ht s)++List.replicate (j+1) 0).map bv)) zo Tryz.underlying40 (by kernel_rfl) rfl (by decide) zx g1 zy (g3.blk.sl 1 1 (by decide) (by decide)) rfl (by simp[Value.oneCell']) (by unfold maxLen;omega) (by omega) e1.size (by omega) (put6_zero _ _) fun q2 r1 w5 p2 i0 l2=>?_
  refine zK _ _ ?_
  have j1:=e1.trans l2
  have a4:=(e5.below g3.below).grown i0 g1 (by decide)
  have b6:=(f3.below g3.below).grown i0 g1 (by decide)
  exact ze 3 (l4 _ _ _ ⟨j+1,_,_,rfl,rfl,j1,a4,b6,p2,by omega⟩ (by omega))
 exact xe 13 (.tuple #[.slice p6 (56+j) c6,V0 0]) (by obtain rfl:j=188:=(by omega);exact⟨_,rfl,a9,_,_,rfl,hR⟩)
def Mw(B bc bm:Nat)(pg:O0)(N cg k:Nat)(w:World):Prop:=∃ fa m fc,RAl B bc bm pg N cg fa m fc k (Qs 1 N) w
theorem Mw.below{B bc bm:Nat}{pg:O0}{N cg k:Nat}{w W:World}(h:Mw B bc bm pg N cg k w)(hb:B3 w W):Mw B bc bm pg N cg k W:=by obtain⟨a,b,c,h⟩:=h;exact⟨a,b,c,h.below hb⟩
theorem Mw.only{B bc bm:Nat}{pg:O0}{N cg k:Nat}{w W:World}{T:List TypeId}(h:Mw B bc bm pg N cg k w)(hO:Zd T w W)(hT:T.contains 169=false∧T.contains 3=false):Mw B bc bm pg N cg k W:=by obtain⟨a,b,c,h⟩:=h;exact⟨a,b,c,h.only hO hT⟩
theorem Mw.upd{B bc bm:Nat}{pg:O0}{N cg k g n c B2:Nat}{xs:List Value}{w W:World}(h:Mw B bc bm pg N cg k w)(hg:∀ j,(Value.slice pg N cg).ownBlock=some j→j≠g)(u:Upd w g W)(ho:w.ownsRow B2 3 1 (.slice (S1 g) n c) n xs):Mw B bc bm pg N cg k W:=by
 obtain⟨a,b,c,h⟩:=h
 exact⟨a,b,c,u.blk h.blk (Yx h.blk ho (by decide)),u.own3 h.nums hg,h.hfree,h.hm,h.hL,h.hB,h.hN⟩
theorem Mw.used{B bc bm:Nat}{pg:O0}{N cg k:Nat}{w:World}(h:Mw B bc bm pg N cg k w):w.cell? ⟨bc,2,none⟩=some (V0 (k:Int)):=by obtain⟨a,b,c,h⟩:=h;exact h.blk.cell (i:=2) rfl
def RTreeF(B bc bm:Nat)(pg:O0)(N cg:Nat)(p:O0)(K c:Nat)(zs:Bl)(F:List Hg)(w:World)(e:Ending)(w':World):Prop:=e=.returned (.tuple #[V0 (↑(Xc F):Int),.agg #[S0,V0 0]])∧Below B w w'∧Zd [169,9] w w'∧Mw B bc bm pg N cg (Xc F) w'∧RefI B bm p K c (Lz F 1 zs) w'
theorem Dx(B bc bm:Nat)(pg:O0)(N cg:Nat)(p:O0)(K cI:Nat)(zs:Bl)(F:List Hg)(t:Int)(a:O0)(c n:Nat)(l:List Ent)(w:World)(hl:l.length=n)(hR:Mw B bc bm pg N cg (Xc F) w)(hJ:RefI B bm p K cI (Lz F 1 zs) w)(hok:Ns (t,l))(hr:Xc (F++[(t,l)])≤N)(hf:1+N≤K)
 (hin:∀ W,Below B w W→Zd [169,9] w W→Sl W (.slice a n c) n (l.flatMap Yj)) (hBw:B≤w.heap.size) :
 C0 39 #[P0 bc,V0 t,.slice a n c] w (RTreeF B bc bm pg N cg p K cI zs (F++[(t,l)]) w):=by
 subst hl
 obtain⟨fa,mf,fc,hR⟩:=hR
 have hn:=Wo (t,l)
 have e1:Xc (F++[(t,l)])=Xc F+Zy t l.length:=Ka _ _
 have e2:Lz (F++[(t,l)]) 1 zs=(Yo t l (1+Xc F) (Lz F 1 zs)).2:=Of _ _ _ _
 refine(Gz B bc bm pg N cg fa mf fc 1 (Xc F) p K cI (Lz F 1 zs) t a c l.length l w rfl hR hok.2.2.2 hok.1 hok.2.1 hok.2.2.1 (by omega) hf hJ hin hBw).mono ?_
 rintro e w' ⟨a3,m2,a1,rfl,hb,hO,a2,a4⟩
 have a5:1≤Zy t l.length:=hn
 have a0:(Yo t l (1+Xc F) (Lz F 1 zs)).1=((Xc (F++[(t,l)]):Nat):Int):=by
  rw[Gs (by omega),e1]
  omega
 exact⟨by rw[a0],hb,hO,⟨a3,m2,a1,by rw[e1];exact a2⟩,by rw[e2];exact a4⟩
theorem Mc{w:World}{p:O0}{n c:Nat}{L:List Dv}(h:Sl w (.slice p n c) n (((List.range n).map (Ql L)).map nv)){i:Nat}(hi:i<n):p.isSome=true∧w.cell? (Zz p (i*1))=some (V0 (↑(Ql L i):Int)):=by
 have q:=Hk h (k:=i) (by simpa using hi)
 refine⟨q.1,q.2.trans ?_⟩
 simp[List.getD,List.getElem?_range hi]
theorem Ir{w:World}{g n c i:Nat}(h:Sl w (.slice (S1 g) n c) n ((Yd i n).map V0))(hi:i<n):w.cell? (Zz (S1 g) (i*1))=some (V0 0):=by
 have q:=(IntsN.elem h (Xf _ _) hi).2
 rw[Ev hi,if_neg (by omega)] at q
 exact q
theorem Du(t u v:Int)(x k:Nat)(L:List Dv)(w:World)(hr:Xj (Od t u v x L k)=true):C0 98 #[.agg #[V0 t,V0 u,V0 v,V0 (x:Int),V0 (k:Int),V0 (↑(Xc (F1 L)):Int),V0 (↑(Xc (F2 L)):Int),V0 (Qp x L k).1,V0 (Qp x L k).2.1,V0 (Hh x L k).1,V0 (Hh x L k).2.1]] w (Qn (fun w' r=>∃ p c,r=.tuple #[.slice p 244 c,V0 0]∧w'.ownsRow w.heap.size 5 1 (.slice p 244 c) 244 ((Ao (Od t u v x L k)).map bv)) w):=by
 refine Zc3 (Od t u v x L k) w hr ⟨by show(0:Int)≤(k:Int);omega,?_⟩
 unfold Xj Od at hr
 simp only[Bool.and_eq_true,decide_eq_true_eq,true_and] at hr
 show(k:Int)<_
 omega
theorem Uz(B bm:Nat)(p:O0)(k c:Nat)(l:Bl)(a:O0)(ca:Nat)(li:Bl)(w:World)(hI:RefI B bm p k c l w)(hin:Sl w (.slice a 244 ca) 244 (li.map bv))(hl:li.length=244)(hj:0<k)(hBw:B≤w.heap.size) :
 C0 99 #[P0 bm,V0 0,V0 1,.slice a 244 ca] w (fun e w'=>∃ v,e=.returned v∧Below B w w'∧Zd [9] w w'∧RefI B bm p k c (Vc l (0*256) (Xw 1 (0:Nat) li)) w'):=by
 have q:=Po B bm p k c l 0 1 a ca li w hI (Xp (by rw[hl];exact hin) rfl) hBw (by unfold Vv;rw[hl];decide) hj
 rw[hl] at q
 refine q.mono ?_
 rintro e W ⟨x,y,rfl,hb,hO,a0,_⟩
 exact⟨_,rfl,hb,hO,a0⟩
theorem Zes(B bc bm:Nat)(pg:O0)(N cg:Nat)(p:O0)(k cI g:Nat)(pd:O0)(cd n x:Nat)(t u v:Int)(Z:List Zv)(L:List Dv)(rp:O0)(rc:Nat)(w:World)(hZ:Z.length=n)(hL:Z.map Prod.fst=L)(hk:PoolOk t u v (x:Int) L)(hP:∀ W,Below B w W→DevsR W pd cd Z)(hN:N=k-1)(hR:Mw B bc bm pg N cg (Xc (Jd L)) w)(hJ:RefI B bm p k cI (Lz (Jd L) 1 (List.replicate (k*256) (0:UInt8))) w)(hro:w.ownsRow B 3 1 (.slice rp n rc) n (((List.range n).map (Ql L)).map nv))(hc:w.ownsRow B 3 1 (.slice (S1 g) k k) k ((Yd 0 k).map V0))(hpg:∀ j,(Value.slice pg N cg).ownBlock=some j→j≠g)(hr:Kk x L≤k)(hk3:k≤3000)(hBw:B≤w.heap.size) :
 C0 41 #[P0 bm,P0 bc,.agg #[V0 t,V0 u,V0 v,V0 (x:Int),.slice pd n cd],.slice rp n rc,.slice (S1 g) k k] w ((fun e w'=>e=.returned (.tuple #[])∧Below B w w'∧Zd [169,9,3,123] w w'∧RefI B bm p k cI (Je t u v x L k) w')):=by
 have u2:∀ W,Below B w W→Zd [169,9,3,123] w W→DevsR W pd cd Z:=fun W h _=>hP W h
 have dn:L.length=n:=by rw[←hL,List.length_map];exact hZ
 have el:=F1_le L
 have cp:=hk.devs.few
 have hx:x≤65536:=by have:=hk.hdata;omega
 have aw:=Ci hr
 have cy:Hd x L=Xc (F2 L)+Up (Yi x L):=rfl
 have av:=Iy hk hr (by omega)
 have du:=Sl.len ((hP w (Below.refl _ _)).rowN hZ)
 refine zin 119 Tryz.func41 ?_
 refine xa 2 [V0 t,V0 u,V0 v,V0 (x:Int),.slice pd n cd] 24 fun b1 W1 n1=>?_
 refine xd 3 (.t B [169,9,3,123,44]) ?_
 have k1:=n1.blk.below (Za W1)
 refine xbt (.e [0] 1) 0 B [169,9,3,123,44] k1 ?_
 refine xbt (.e [2] 3) 1 B [169,9,3,123,44] k1 ?_
 refine xbt (.e [4] 5) 2 B [169,9,3,123,44] k1 ?_
 refine xbt (.e [6] 7) 3 B [169,9,3,123,44] k1 ?_
 have m4:=(hJ.below n1.below).below (Za W1)
 refine xm2 (.b [8,9,10]) 11 14 ?_ ?_
 ·refine xl 0 (m4.blk.cell (i:=0) rfl) ?_
  refine xa (.o [12,13] 14) [V0 0,V0 0,V0 0,V0 0,V0 0,V0 0,V0 0,V0 0,V0 0,V0 0,V0 0] 44 fun b2 W2 n2=>?_
  have g2:=n2.ge0 (blB (blB (Below.refl B w) hBw n1.below) hBw (Za W1))
  refine ysv (.o [] 15) n2.blk [V0 t,V0 u,V0 v,V0 (x:Int),V0 (k:Int),V0 0,V0 0,V0 0,V0 0,V0 0,V0 0] (.t B [169,9,3,123,44]) fun W3 u3 k3=>⟨(Zx u3 n2.blk (Nat.le_trans hBw g2) (by decide)),?_⟩
  have p6:=u3.own2 (Zb (Zb (Zb hro n1.below) (Za W1)) n2.below) n2.blk (by decide)
  have ai:=u3.own2 (Zb (Zb (Zb hc n1.below) (Za W1)) n2.below) n2.blk (by decide)
  have v9:=(((hR.below n1.below).below (Za W1)).below n2.below).only (Zd.of_upd (T:=[44]) u3 n2.blk (by decide)) (by decide)
  have w9:=(m4.below n2.below).only (Zd.of_upd (T:=[44]) u3 n2.blk (by decide)) (by decide)
  have hB:=u3.below (blB (blB (blB (Below.refl B w) hBw n1.below) hBw (Za W1)) hBw n2.below) (Nat.le_trans hBw g2)
  have hO:=(Zd.upd_new (((show Zd [169,9,3,123] w _ from(Zd.of_below n1.below)).trans (Zd.of_below (Za W1))).trans (Zd.of_below n2.below)) u3 g2)
  have ar:=u3.blkT (k1.below n2.below) n2.blk (by decide)
  refine zl 15 119 (fun zm l3 V=>∃ (i:Nat) (p7:O0) (c7:Nat) (p8:O0) (c8:Nat),l3=[(0,P0 bm),(1,P0 bc),(3,.slice rp n rc),(4,.slice (S1 g) k k),(7,P0 b1),(10,P0 b2),(11,.slice p7 i c7),(12,.slice p8 i c8),(13,V0 (i:Int))]∧zm=n-((i:Int)).toNat∧Below B w V∧Zd [169,9,3,123] w V∧Blk V b1 ([V0 t,V0 u,V0 v,V0 (x:Int),.slice pd n cd]) 24∧Blk V b2 ([V0 t,V0 u,V0 v,V0 (x:Int),V0 (k:Int),V0 0,V0 0,V0 0,V0 0,V0 0,V0 0]) 44∧V.ownsRow w.heap.size 123 3 (.slice p7 i c7) i (((Uj L (Ql L)).take i).flatMap Yj)∧V.ownsRow w.heap.size 123 3 (.slice p8 i c8) i (((Ud L (Kc L)).take i).flatMap Yj)∧V.ownsRow B 3 1 (.slice rp n rc) n (((List.range n).map (Ql L)).map nv)∧V.ownsRow B 3 1 (.slice (S1 g) k k) k ((Yd 0 k).map V0)∧Mw B bc bm pg N cg (Xc (Jd L)) V∧RefI B bm p k cI (Lz (Jd L) 1 (List.replicate (k*256) (0:UInt8))) V∧i≤n∧Ko (.slice p7 i c7) (.slice p8 i c8)) ⟨0,none,0,none,0,rfl,rfl,hB,hO,ar,k3,World.ownsRow_nil _ _ _ _,World.ownsRow_nil _ _ _ _,p6,ai,v9,w9,Nat.zero_le _,Ko.nil _⟩ ?_
  rintro _ _ W4 ⟨i,p7,c7,p8,c8,rfl,rfl,m1,t5,g9,l2,c6,d1,hro,hc,hR,hJ,hi,c5⟩ J4 ca r4
  refine xb 5 4 g9 ?_
  refine xid 4 ((i:Int)<(n:Int)) (fun bq=>?_) (fun bq=>?_)
  ·have i8:=Cr hL (i:=i) (by omega)
   have ac:=Ph (L:=L) (i:=i) (by omega)
   rw[i8] at ac
   have w7:=hk.devs.sum
   have g6:=hk.devs.each (L.getD i dvD) (Nu _ (by omega))
   rw[i8] at g6
   have bw:1≤Ql L i:=Dz (L:=L) (i:=i) (by omega)
   have ci:Ql L i≤Xc (Jd L):=Wn (L:=L) (i+1)
   refine xd 5 (.t B [169,9,3,123]) ?_
   have d6:=g9.below (Za W4)
   refine xbt (.e [0,1] 2) 4 B [169,9,3,123] d6 ?_
   refine xx (.e [3] 4) _ n i 5 ((hP _ (Below.refl _ _)).someN hZ (i:=i) (by omega)) ?_
   have n6:=blB m1 hBw (Za W4)
   have t7:=t5.trans (Zd.of_below (Za W4))
   refine xlt (.e [5] 6) (.t B [169,9,3,123]) (fun V hV=>(Sts.cell (u2 _ (Vr n6 hV hBw) (t7.trans hV.2)).row Ye zvD (k:=i) (i:=0) (by omega) rfl).2) ?_
   have e9:=Zb hro (Za W4)
   refine xx (.e [7,8] 9) _ n i 1 (Mc (Zf e9) (i:=i) (by omega)).1 ?_
   refine xl (.o [] 10) ((Mc (Zf e9) (i:=i) (by omega)).2) ?_
   refine xr (.o [] 11) (args:=#[V0 (↑(Ql L i):Int)]) (Ei (↑(Ql L i):Int) _ ⟨by omega,by omega⟩) fun W6 h6=>?_
   refine xbs (.o [12] 13) 1 [V0 ((Z.getD i zvD).1.1.1),.string ⟨(leB (↑(Ql L i):Int) 4).toArray⟩,V0 0] 123 fun b7 W7 n7=>?_
   have r2:=blB n6 hBw h6
   have g7:=n7.ge0 r2
   have f4:=Zb (Zb c6 (Za W4)) h6
   have u7:=Zr f4 n7
   have g0:=Zb (Zb d1 (Za W4)) h6
   have u6:=Zr g0 n7
   have a1:=Zb f4 n7.below
   have r0:=blB r2 hBw n7.below
   refine ybi (.o [] 14) (.t B [169,9,3,123]) fun _ _ _ _ zJ zQ zo zx zy zK=>Qh (b:=b7) (c:=1) (m:=1) (news:=[V0 ((Z.getD i zvD).1.1.1),.string ⟨(leB (↑(Ql L i):Int) 4).toArray⟩,V0 0]) (.agg #[V0 0,.string ⟨#[]⟩,V0 0]) 3 32 (i+1) ((((Uj L (Ql L)).take (i+1)).flatMap Yj)) zo Tryz.underlying88 (by kernel_rfl) rfl (by decide) zx a1 zy n7.blk rfl (by simp[Value.oneCell']) (by unfold maxLen;omega) (by omega) r0.size (by rfl) (by have e:=Jv (L:=L) (R:=Ql L) (i:=i) (by omega);rw[i8] at e;exact Wf (by rw[Yp];omega) e) fun ek dv W8 o8 i9 az bg=>?_
   have f0:=Zb g0 n7.below
   have i7:=c5.row f0 i9
   replace c5:=(c5.grow f0 bg)
   have m0:=i7
   refine zK _ _ (Zt (az.mono hBw) i9 a1 (by decide)) ?_
   have e2:=((d6.below h6).below n7.below).grown i9 a1 (by decide)
   refine xb (.r [15] 5) 4 e2 ?_
   refine xx 1 _ n i 5 ((hP _ (Below.refl _ _)).someN hZ (i:=i) (by omega)) ?_
   have o2:=r0.trans (az.mono hBw)
   have n8:=(Zd.grown_new ((t7.trans (Zd.of_below h6)).trans (Zd.of_below n7.below)) i9 a1)
   refine xlv 0 (Sts.rp (k:=i) (u2 _ o2 n8).row Ye zvD (by omega) (by decide)) ?_
   refine xr 0 (args:=#[.agg #[V0 ((Z.getD i zvD).1.1.1),V0 ((Z.getD i zvD).1.1.2.1),V0 ((Z.getD i zvD).1.1.2.2.1),V0 ((Z.getD i zvD).1.1.2.2.2),.slice ((Z.getD i zvD).2.1) ((Z.getD i zvD).1.2.length) ((Z.getD i zvD).2.2)]]) (Bb (Z.getD i zvD) (x:Int) _ g6 (by omega)) fun W9 h8=>?_
   refine xbs 0 1 [V0 ((Z.getD i zvD).1.1.1),.string ⟨(Kx (↑(Z.getD i zvD).1.2.length:Int) (Z.getD i zvD).1).toArray⟩,V0 0] 123 fun co em e3=>?_
   have t6:=blB o2 hBw h8
   have ev:=e3.ge0 t6
   have f5:=Zb m0 h8
   have s3:=Zr f5 e3
   have t3:=Zb o8 h8
   have v7:=Zr t3 e3
   have a4:=Zb f5 e3.below
   have o1:=blB t6 hBw e3.below
   refine xbi 0 fun _ _ _ _ zJ zQ zo zx zy zK=>Qh (b:=co) (c:=1) (m:=1) (news:=[V0 ((Z.getD i zvD).1.1.1),.string ⟨(Kx (↑(Z.getD i zvD).1.2.length:Int) (Z.getD i zvD).1).toArray⟩,V0 0]) (.agg #[V0 0,.string ⟨#[]⟩,V0 0]) 3 32 (i+1) ((((Ud L (Kc L)).take (i+1)).flatMap Yj)) zo Tryz.underlying88 (by kernel_rfl) rfl (by decide) zx a4 zy e3.blk rfl (by simp[Value.oneCell']) (by unfold maxLen;omega) (by omega) o1.size (by rfl) (by have e:=Jz (L:=L) (C:=Kc L) (i:=i) (by omega);unfold Kc at e;rw[i8] at e;exact Wf (by rw[Yq];omega) e) fun bx bi eg ce b6 y6 w4=>?_
   have o6:=Zb t3 e3.below
   have l8:=c5.symm.row o6 b6
   replace c5:=(c5.symm.grow o6 w4).symm
   have r6:=l8
   refine zK _ _ ?_
   refine xwm 6 ((i:Int)+1) (↑(i+1):Int) ?_
   have v3:=o1.trans (y6.mono hBw)
   have x8:=(Zd.grown_new ((n8.trans (Zd.of_below h8)).trans (Zd.of_below e3.below)) b6 a4)
   have j0:=((e2.below h8).below e3.below).grown b6 a4 (by decide)
   have j1:=((((((l2.below (Za W4)).below h6).below n7.below).grown i9 a1 (by decide)).below h8).below e3.below).grown b6 a4 (by decide)
   have r9:=Zo (Zb (Zb (Zo (Zb (Zb e9 h6) n7.below) i9 a1 (by decide)) h8) e3.below) b6 a4 (by decide)
   have v4:=Zo (Zb (Zb (Zo (Zb (Zb (Zb hc (Za W4)) h6) n7.below) i9 a1 (by decide)) h8) e3.below) b6 a4 (by decide)
   have ak:=((((((hR.below (Za W4)).below h6).below n7.below).only (Zd.of_grown (T:=[123]) i9 a1 (by decide)) (by decide)).below h8).below e3.below).only (Zd.of_grown (T:=[123]) b6 a4 (by decide)) (by decide)
   have w6:=((((((hJ.below (Za W4)).below h6).below n7.below).only (Zd.of_grown (T:=[123]) i9 a1 (by decide)) (by decide)).below h8).below e3.below).only (Zd.of_grown (T:=[123]) b6 a4 (by decide)) (by decide)
   exact ze 2 (ca _ _ _ ⟨i+1,_,_,_,_,rfl,rfl,v3,x8,j0,j1,r6,ce,r9,v4,ak,w6,by omega,c5⟩ (by omega))
  have bd:i=n:=by omega
  rw[List.take_of_length_le (by rw[Yp];omega)] at c6
  rw[List.take_of_length_le (by rw[Yq];omega)] at d1
  refine xc 9 (args:=#[P0 bc,V0 1,.slice p7 i c7]) (Dx B bc bm pg N cg p k cI (List.replicate (k*256) (0:UInt8)) (Jd L) 1 p7 c7 i (Uj L (Ql L)) _ (by rw[Yp];omega) hR hJ (top_ok hk.devs) (show Xc (F1 L)≤N by omega) (by omega) (fun W _ h2=>Zf (Zi c6 h2 (by decide))) (Nat.le_trans hBw m1.size)) ?_
  rintro _ dy ⟨rfl,w5,h5,hR,hJ⟩
  have a5:=l2.only h5 (by decide)
  refine xs 4 a5 [V0 t,V0 u,V0 v,V0 (x:Int),V0 (k:Int),V0 (↑(Xc (F1 L)):Int),V0 0,V0 0,V0 0,V0 0,V0 0] fun dw m2 bh=>?_
  have l6:=m2.own2 (Zi d1 h5 (by decide)) a5 (by decide)
  have v5:=hR.only (Zd.of_upd (T:=[44]) m2 a5 (by decide)) (by decide)
  have z0:=hJ.only (Zd.of_upd (T:=[44]) m2 a5 (by decide)) (by decide)
  have l4:=m2.below (m1.trans w5) (Nat.le_trans hBw g2)
  refine xc 6 (args:=#[P0 bc,V0 3,.slice p8 i c8]) (Dx B bc bm pg N cg p k cI (List.replicate (k*256) (0:UInt8)) (F1 L) 3 p8 c8 i (Ud L (Kc L)) _ (by rw[Yq];omega) v5 z0 (det_ok hk.devs) (show Xc (F2 L)≤N by omega) (by omega) (fun W _ h2=>Zf (Zi l6 h2 (by decide))) (Nat.le_trans hBw l4.size)) ?_
  rintro _ dd ⟨rfl,p3,h9,hR,hJ⟩
  have b4:=bh.only h9 (by decide)
  refine xs 4 b4 [V0 t,V0 u,V0 v,V0 (x:Int),V0 (k:Int),V0 (↑(Xc (F1 L)):Int),V0 (↑(Xc (F2 L)):Int),V0 0,V0 0,V0 0,V0 0] fun eh l7 cj=>?_
  have e5:=l7.blkT ((m2.blkT (g9.only h5 (by decide)) a5 (by decide)).only h9 (by decide)) b4 (by decide)
  refine xlv 5 e5.rp ?_
  have r8:=l7.below (l4.trans p3) (Nat.le_trans hBw g2)
  refine xc 0 (args:=#[.agg #[V0 t,V0 u,V0 v,V0 (x:Int),.slice pd n cd]]) (by have q:=Mr pd cd n x t u v Z _ hZ (hP _ r8) (by rw[hL];exact hk);rw[hL] at q;exact q) ?_
  rintro _ dt ⟨_,rfl,c9,q9,d9,rfl,al⟩
  have z3:=(l7.below (l4.trans p3) (Nat.le_trans hBw g2)).size
  have q0:=Ze al z3
  have af:=(hR.only (Zd.of_upd (T:=[44]) l7 b4 (by decide)) (by decide)).below c9
  have w1:=(hJ.only (Zd.of_upd (T:=[44]) l7 b4 (by decide)) (by decide)).below c9
  obtain⟨z6,u9,v0,aj⟩:=af
  have k9:=blB r8 hBw c9
  refine xc 0 (args:=#[P0 bc,.slice q9 x d9]) (by have q:=Fe B bc bm pg N cg z6 u9 v0 1 (Xc (F2 L)) p k cI (Da L k) q9 d9 (Yi x L) _ aj (by rw[Xy];have q:=Zf q0;rw[←Ey] at q;exact q) (by rw[Xy];omega) (by rw[Hy];have:=Hm hk.devs;omega) (Jy (by omega) hk.devs) (by omega) (by omega) (by decide) (by omega) w1 (Nat.le_trans hBw k9.size);rw[Xy] at q;exact q) ?_
  rintro _ dm ⟨cq,cn,bu,rfl,z4,i4,y7,hJ⟩
  have hR:Mw B bc bm pg N cg (Hd x L) _:=⟨_,_,_,y7⟩
  have c1:=(cj.below c9).only i4 (by decide)
  refine xs 5 c1 [V0 t,V0 u,V0 v,V0 (x:Int),V0 (k:Int),V0 (↑(Xc (F1 L)):Int),V0 (↑(Xc (F2 L)):Int),V0 ((Qp x L k).1),V0 0,V0 0,V0 0] fun dk n0 t1=>?_
  refine xs 1 t1 [V0 t,V0 u,V0 v,V0 (x:Int),V0 (k:Int),V0 (↑(Xc (F1 L)):Int),V0 (↑(Xc (F2 L)):Int),V0 ((Qp x L k).1),V0 ((Qp x L k).2.1),V0 0,V0 0] fun cz m7 cf=>?_
  have y5:=m7.own2 (n0.own2 (Zi (Zb (l7.own2 (Zi (m2.own2 (Zi hc h5 (by decide)) a5 (by decide)) h9 (by decide)) b4 (by decide)) c9) i4 (by decide)) c1 (by decide)) t1 (by decide)
  have z5:=(hR.only (Zd.of_upd (T:=[44]) n0 c1 (by decide)) (by decide)).only (Zd.of_upd (T:=[44]) m7 t1 (by decide)) (by decide)
  have x6:=(hJ.only (Zd.of_upd (T:=[44]) n0 c1 (by decide)) (by decide)).only (Zd.of_upd (T:=[44]) m7 t1 (by decide)) (by decide)
  have p4:=m7.below (n0.below (k9.trans z4) (Nat.le_trans hBw g2)) (Nat.le_trans hBw g2)
  have x3:=(Zd.upd_new (Zd.upd_new (((Zd.upd_new ((Zd.upd_new (t5.trans (h5.wide (by decide))) m2 g2).trans (h9.wide (by decide))) l7 g2).trans (Zd.of_below c9)).trans (i4.wide (by decide))) n0 g2) m7 g2)
  have i3:=m7.blkT (n0.blkT ((e5.below c9).only i4 (by decide)) c1 (by decide)) t1 (by decide)
  refine zl 9 119 (fun zm l3 V=>∃ (i2:Nat),l3=[(0,P0 bm),(1,P0 bc),(4,.slice (S1 g) k k),(10,P0 b2),(14,V0 (i2:Int))]∧zm=Hd x L+1-((i2:Int)).toNat∧Below B w V∧Zd [169,9,3,123] w V∧Blk V b1 ([V0 t,V0 u,V0 v,V0 (x:Int),.slice pd n cd]) 24∧Blk V b2 ([V0 t,V0 u,V0 v,V0 (x:Int),V0 (k:Int),V0 (↑(Xc (F1 L)):Int),V0 (↑(Xc (F2 L)):Int),V0 ((Qp x L k).1),V0 ((Qp x L k).2.1),V0 0,V0 0]) 44∧V.ownsRow B 3 1 (.slice (S1 g) k k) k ((Yd i2 k).map V0)∧Mw B bc bm pg N cg (Hd x L) V∧RefI B bm p k cI (Qp x L k).2.2 V∧i2≤Hd x L+1) ⟨0,rfl,rfl,p4,x3,i3,cf,y5,z5,x6,Nat.zero_le _⟩ ?_
  rintro _ _ cv ⟨i2,rfl,rfl,d8,j8,f1,d4,hc,hR,hJ,bs⟩ cx w0 ej
  refine xl 7 hR.used ?_
  refine xid 3 ((i2:Int)≤(↑(Hd x L):Int)) (fun y0=>?_) (fun y0=>?_)
  ·refine xx 8 _ k i2 1 (show(some (⟨g,0,none⟩:Addr)).isSome=true from rfl) ?_
   refine xl 0 (Ir (Zf hc) (i:=i2) (by omega)) ?_
   refine xx 7 _ k i2 1 (show(some (⟨g,0,none⟩:Addr)).isSome=true from rfl) ?_
   refine xst 0 fun _ _ _ _ zJ zQ zo zx zy zK=>Xz (t:=3) (k:=i2) (v:=V0 1) zo zx zy (by kernel_rfl) rfl hc (by omega) fun ea m9 bb=>?_
   rw[Sg (i:=i2) (n:=k) (by omega)] at bb
   refine zK _ _ ?_
   refine xwm 5 ((i2:Int)+1) (↑(i2+1):Int) ?_
   have r7:=m9.below d8 (Vz hc)
   have z9:=j8.trans (Zd.of_updRow m9 hc (by decide))
   have f9:=m9.blk f1 (Yx f1 hc (by decide))
   have h0:=m9.blk d4 (Yx d4 hc (by decide))
   have x2:=hR.upd hpg m9 hc
   have aa:=hJ.only (Zd.of_updRow (T:=[3]) m9 hc (by decide)) (by decide)
   exact ze 2 (w0 _ _ _ ⟨i2+1,rfl,rfl,r7,z9,f9,h0,bb,x2,aa,by omega⟩ (by omega))
  have w8:i2=Hd x L+1:=by omega
  rw[w8] at hc
  obtain⟨y1,v2,x1,y9⟩:=hR
  refine xc 9 (args:=#[P0 bc,.slice (S1 g) k k]) (by have q:=Ej B bc bm pg N cg y1 v2 x1 1 (Hd x L) p k cI (Qp x L k).2.2 (S1 g) k (Yd (Hd x L+1) k) _ y9 (by rw[Xf];exact Zf hc) (by rw[Xf];omega) (Jn (by omega)) (Xf _ _) (by rw[Gi];omega) (by omega) (by decide) (by rw[Nat.add_comm 1];exact Gc) hJ (Nat.le_trans hBw d8.size);rw[Xf] at q;exact q) ?_
  rintro _ dh ⟨bp,bn,bk,rfl,o5,s2,_,hJ⟩
  have b9:=d4.only s2 (by decide)
  refine xs 5 b9 [V0 t,V0 u,V0 v,V0 (x:Int),V0 (k:Int),V0 (↑(Xc (F1 L)):Int),V0 (↑(Xc (F2 L)):Int),V0 ((Qp x L k).1),V0 ((Qp x L k).2.1),V0 ((Hh x L k).1),V0 0] fun ed u8 ay=>?_
  refine xs 1 ay [V0 t,V0 u,V0 v,V0 (x:Int),V0 (k:Int),V0 (↑(Xc (F1 L)):Int),V0 (↑(Xc (F2 L)):Int),V0 ((Qp x L k).1),V0 ((Qp x L k).2.1),V0 ((Hh x L k).1),V0 ((Hh x L k).2.1)] fun dr u4 bf=>?_
  refine xlv 4 bf.rp ?_
  refine xc 0 (args:=#[.agg #[V0 t,V0 u,V0 v,V0 (x:Int),V0 (k:Int),V0 (↑(Xc (F1 L)):Int),V0 (↑(Xc (F2 L)):Int),V0 ((Qp x L k).1),V0 ((Qp x L k).2.1),V0 ((Hh x L k).1),V0 ((Hh x L k).2.1)]]) (Du t u v x k L _ av) ?_
  rintro _ eb ⟨_,rfl,m3,q7,d7,rfl,ad⟩
  have w2:=(u4.below (u8.below (d8.trans o5) (Nat.le_trans hBw g2)) (Nat.le_trans hBw g2)).size
  have s6:=Ze ad w2
  have z7:=((hJ.only (Zd.of_upd (T:=[44]) u8 b9 (by decide)) (by decide)).only (Zd.of_upd (T:=[44]) u4 ay (by decide)) (by decide)).below m3
  have j5:=blB (u4.below (u8.below (d8.trans o5) (Nat.le_trans hBw g2)) (Nat.le_trans hBw g2)) hBw m3
  refine xc 10 (args:=#[P0 bm,V0 0,V0 1,.slice q7 244 d7]) (Uz B bm p k cI (Hh x L k).2.2 q7 d7 (Ao (Od t u v x L k)) _ z7 (Zf s6) (Jc _) (by omega) (Nat.le_trans hBw j5.size)) ?_
  rintro _ da ⟨vw,rfl,aq,z1,hI⟩
  have o0:=j5.trans aq
  have y3:=((Zd.upd_new (Zd.upd_new (j8.trans (s2.wide (by decide))) u8 g2) u4 g2).trans (Zd.of_below m3)).trans (z1.wide (by decide))
  exact xe 1 (.tuple #[]) ⟨rfl,o0,y3,hI⟩
 refine xa 0 [V0 0,V0 0,V0 0,V0 0,V0 0,V0 0,V0 0,V0 0,V0 0,V0 0,V0 0] 44 fun u5 dj d0=>?_
 have o3:=m4.below d0.below
 refine xl (.o [] 11) (o3.blk.cell (i:=0) rfl) ?_
 have b3:=d0.ge0 (blB (blB (Below.refl B w) hBw n1.below) hBw (Za W1))
 refine ysv (.o [12,13] 15) d0.blk [V0 t,V0 u,V0 v,V0 (x:Int),V0 (k:Int),V0 0,V0 0,V0 0,V0 0,V0 0,V0 0] (.t B [169,9,3,123,44]) fun db l0 br=>⟨(Zx l0 d0.blk (Nat.le_trans hBw b3) (by decide)),?_⟩
 have s1:=l0.own2 (Zb (Zb (Zb hro n1.below) (Za W1)) d0.below) d0.blk (by decide)
 have x5:=l0.own2 (Zb (Zb (Zb hc n1.below) (Za W1)) d0.below) d0.blk (by decide)
 have ae:=(((hR.below n1.below).below (Za W1)).below d0.below).only (Zd.of_upd (T:=[44]) l0 d0.blk (by decide)) (by decide)
 have s5:=o3.only (Zd.of_upd (T:=[44]) l0 d0.blk (by decide)) (by decide)
 have hB:=l0.below (blB (blB (blB (Below.refl B w) hBw n1.below) hBw (Za W1)) hBw d0.below) (Nat.le_trans hBw b3)
 have hO:=(Zd.upd_new (((show Zd [169,9,3,123] w _ from(Zd.of_below n1.below)).trans (Zd.of_below (Za W1))).trans (Zd.of_below d0.below)) l0 b3)
 have z8:=l0.blkT (k1.below d0.below) d0.blk (by decide)
 refine zl 15 119 (fun zm l3 V=>∃ (i:Nat) (p7:O0) (c7:Nat) (p8:O0) (c8:Nat),l3=[(0,P0 bm),(1,P0 bc),(3,.slice rp n rc),(4,.slice (S1 g) k k),(7,P0 b1),(10,P0 u5),(11,.slice p7 i c7),(12,.slice p8 i c8),(13,V0 (i:Int))]∧zm=n-((i:Int)).toNat∧Below B w V∧Zd [169,9,3,123] w V∧Blk V b1 ([V0 t,V0 u,V0 v,V0 (x:Int),.slice pd n cd]) 24∧Blk V u5 ([V0 t,V0 u,V0 v,V0 (x:Int),V0 (k:Int),V0 0,V0 0,V0 0,V0 0,V0 0,V0 0]) 44∧V.ownsRow w.heap.size 123 3 (.slice p7 i c7) i (((Uj L (Ql L)).take i).flatMap Yj)∧V.ownsRow w.heap.size 123 3 (.slice p8 i c8) i (((Ud L (Kc L)).take i).flatMap Yj)∧V.ownsRow B 3 1 (.slice rp n rc) n (((List.range n).map (Ql L)).map nv)∧V.ownsRow B 3 1 (.slice (S1 g) k k) k ((Yd 0 k).map V0)∧Mw B bc bm pg N cg (Xc (Jd L)) V∧RefI B bm p k cI (Lz (Jd L) 1 (List.replicate (k*256) (0:UInt8))) V∧i≤n∧Ko (.slice p7 i c7) (.slice p8 i c8)) ⟨0,none,0,none,0,rfl,rfl,hB,hO,z8,br,World.ownsRow_nil _ _ _ _,World.ownsRow_nil _ _ _ _,s1,x5,ae,s5,Nat.zero_le _,Ko.nil _⟩ ?_
 rintro _ _ h7 ⟨i,p7,c7,p8,c8,rfl,rfl,g5,j4,d3,e0,c6,d1,hro,hc,hR,hJ,hi,c5⟩ cu y8 ds
 refine xb 5 4 d3 ?_
 refine xid 4 ((i:Int)<(n:Int)) (fun z2=>?_) (fun z2=>?_)
 ·have i8:=Cr hL (i:=i) (by omega)
  have ac:=Ph (L:=L) (i:=i) (by omega)
  rw[i8] at ac
  have w7:=hk.devs.sum
  have g6:=hk.devs.each (L.getD i dvD) (Nu _ (by omega))
  rw[i8] at g6
  have bw:1≤Ql L i:=Dz (L:=L) (i:=i) (by omega)
  have ci:Ql L i≤Xc (Jd L):=Wn (L:=L) (i+1)
  refine xd 5 (.t B [169,9,3,123]) ?_
  have c4:=d3.below (Za h7)
  refine xbt (.e [0,1] 2) 4 B [169,9,3,123] c4 ?_
  refine xx (.e [3] 4) _ n i 5 ((hP _ (Below.refl _ _)).someN hZ (i:=i) (by omega)) ?_
  have k2:=blB g5 hBw (Za h7)
  have o7:=j4.trans (Zd.of_below (Za h7))
  refine xlt (.e [5] 6) (.t B [169,9,3,123]) (fun V hV=>(Sts.cell (u2 _ (Vr k2 hV hBw) (o7.trans hV.2)).row Ye zvD (k:=i) (i:=0) (by omega) rfl).2) ?_
  have g8:=Zb hro (Za h7)
  refine xx (.e [7,8] 9) _ n i 1 (Mc (Zf g8) (i:=i) (by omega)).1 ?_
  refine xl (.o [] 10) ((Mc (Zf g8) (i:=i) (by omega)).2) ?_
  refine xr (.o [] 11) (args:=#[V0 (↑(Ql L i):Int)]) (Ei (↑(Ql L i):Int) _ ⟨by omega,by omega⟩) fun ep a7=>?_
  refine xbs (.o [12] 13) 1 [V0 ((Z.getD i zvD).1.1.1),.string ⟨(leB (↑(Ql L i):Int) 4).toArray⟩,V0 0] 123 fun cb eu e4=>?_
  have k7:=blB k2 hBw a7
  have cs:=e4.ge0 k7
  have h4:=Zb (Zb c6 (Za h7)) a7
  have q3:=Zr h4 e4
  have f3:=Zb (Zb d1 (Za h7)) a7
  have t0:=Zr f3 e4
  have a2:=Zb h4 e4.below
  have k5:=blB k7 hBw e4.below
  refine ybi (.o [] 14) (.t B [169,9,3,123]) fun _ _ _ _ zJ zQ zo zx zy zK=>Qh (b:=cb) (c:=1) (m:=1) (news:=[V0 ((Z.getD i zvD).1.1.1),.string ⟨(leB (↑(Ql L i):Int) 4).toArray⟩,V0 0]) (.agg #[V0 0,.string ⟨#[]⟩,V0 0]) 3 32 (i+1) ((((Uj L (Ql L)).take (i+1)).flatMap Yj)) zo Tryz.underlying88 (by kernel_rfl) rfl (by decide) zx a2 zy e4.blk rfl (by simp[Value.oneCell']) (by unfold maxLen;omega) (by omega) k5.size (by rfl) (by have e:=Jv (L:=L) (R:=Ql L) (i:=i) (by omega);rw[i8] at e;exact Wf (by rw[Yp];omega) e) fun cl bz dq cc a9 q4 v1=>?_
  have f6:=Zb f3 e4.below
  have f7:=c5.row f6 a9
  replace c5:=(c5.grow f6 v1)
  have i5:=f7
  refine zK _ _ (Zt (q4.mono hBw) a9 a2 (by decide)) ?_
  have c3:=((c4.below a7).below e4.below).grown a9 a2 (by decide)
  refine xb (.r [15] 5) 4 c3 ?_
  refine xx 1 _ n i 5 ((hP _ (Below.refl _ _)).someN hZ (i:=i) (by omega)) ?_
  have j3:=k5.trans (q4.mono hBw)
  have q1:=(Zd.grown_new ((o7.trans (Zd.of_below a7)).trans (Zd.of_below e4.below)) a9 a2)
  refine xlv 0 (Sts.rp (k:=i) (u2 _ j3 q1).row Ye zvD (by omega) (by decide)) ?_
  refine xr 0 (args:=#[.agg #[V0 ((Z.getD i zvD).1.1.1),V0 ((Z.getD i zvD).1.1.2.1),V0 ((Z.getD i zvD).1.1.2.2.1),V0 ((Z.getD i zvD).1.1.2.2.2),.slice ((Z.getD i zvD).2.1) ((Z.getD i zvD).1.2.length) ((Z.getD i zvD).2.2)]]) (Bb (Z.getD i zvD) (x:Int) _ g6 (by omega)) fun eo a6=>?_
  refine xbs 0 1 [V0 ((Z.getD i zvD).1.1.1),.string ⟨(Kx (↑(Z.getD i zvD).1.2.length:Int) (Z.getD i zvD).1).toArray⟩,V0 0] 123 fun bo dl d5=>?_
  have k0:=blB j3 hBw a6
  have df:=d5.ge0 k0
  have h3:=Zb i5 a6
  have s9:=Zr h3 d5
  have j6:=Zb cc a6
  have t9:=Zr j6 d5
  have a3:=Zb h3 d5.below
  have l1:=blB k0 hBw d5.below
  refine xbi 0 fun _ _ _ _ zJ zQ zo zx zy zK=>Qh (b:=bo) (c:=1) (m:=1) (news:=[V0 ((Z.getD i zvD).1.1.1),.string ⟨(Kx (↑(Z.getD i zvD).1.2.length:Int) (Z.getD i zvD).1).toArray⟩,V0 0]) (.agg #[V0 0,.string ⟨#[]⟩,V0 0]) 3 32 (i+1) ((((Ud L (Kc L)).take (i+1)).flatMap Yj)) zo Tryz.underlying88 (by kernel_rfl) rfl (by decide) zx a3 zy d5.blk rfl (by simp[Value.oneCell']) (by unfold maxLen;omega) (by omega) l1.size (by rfl) (by have e:=Jz (L:=L) (C:=Kc L) (i:=i) (by omega);unfold Kc at e;rw[i8] at e;exact Wf (by rw[Yq];omega) e) fun cr ch di ck b8 ap ab=>?_
  have k6:=Zb j6 d5.below
  have i0:=c5.symm.row k6 b8
  replace c5:=(c5.symm.grow k6 ab).symm
  have m5:=i0
  refine zK _ _ ?_
  refine xwm 6 ((i:Int)+1) (↑(i+1):Int) ?_
  have n5:=l1.trans (ap.mono hBw)
  have y4:=(Zd.grown_new ((q1.trans (Zd.of_below a6)).trans (Zd.of_below d5.below)) b8 a3)
  have f2:=((c3.below a6).below d5.below).grown b8 a3 (by decide)
  have e7:=((((((e0.below (Za h7)).below a7).below e4.below).grown a9 a2 (by decide)).below a6).below d5.below).grown b8 a3 (by decide)
  have p0:=Zo (Zb (Zb (Zo (Zb (Zb g8 a7) e4.below) a9 a2 (by decide)) a6) d5.below) b8 a3 (by decide)
  have w3:=Zo (Zb (Zb (Zo (Zb (Zb (Zb hc (Za h7)) a7) e4.below) a9 a2 (by decide)) a6) d5.below) b8 a3 (by decide)
  have au:=((((((hR.below (Za h7)).below a7).below e4.below).only (Zd.of_grown (T:=[123]) a9 a2 (by decide)) (by decide)).below a6).below d5.below).only (Zd.of_grown (T:=[123]) b8 a3 (by decide)) (by decide)
  have t4:=((((((hJ.below (Za h7)).below a7).below e4.below).only (Zd.of_grown (T:=[123]) a9 a2 (by decide)) (by decide)).below a6).below d5.below).only (Zd.of_grown (T:=[123]) b8 a3 (by decide)) (by decide)
  exact ze 2 (y8 _ _ _ ⟨i+1,_,_,_,_,rfl,rfl,n5,y4,f2,e7,m5,ck,p0,w3,au,t4,by omega,c5⟩ (by omega))
 have bd:i=n:=by omega
 rw[List.take_of_length_le (by rw[Yp];omega)] at c6
 rw[List.take_of_length_le (by rw[Yq];omega)] at d1
 refine xc 9 (args:=#[P0 bc,V0 1,.slice p7 i c7]) (Dx B bc bm pg N cg p k cI (List.replicate (k*256) (0:UInt8)) (Jd L) 1 p7 c7 i (Uj L (Ql L)) _ (by rw[Yp];omega) hR hJ (top_ok hk.devs) (show Xc (F1 L)≤N by omega) (by omega) (fun W _ h2=>Zf (Zi c6 h2 (by decide))) (Nat.le_trans hBw g5.size)) ?_
 rintro _ ec ⟨rfl,ah,g3,hR,hJ⟩
 have a0:=e0.only g3 (by decide)
 refine xs 4 a0 [V0 t,V0 u,V0 v,V0 (x:Int),V0 (k:Int),V0 (↑(Xc (F1 L)):Int),V0 0,V0 0,V0 0,V0 0,V0 0] fun dp l5 bt=>?_
 have j2:=l5.own2 (Zi d1 g3 (by decide)) a0 (by decide)
 have x9:=hR.only (Zd.of_upd (T:=[44]) l5 a0 (by decide)) (by decide)
 have p2:=hJ.only (Zd.of_upd (T:=[44]) l5 a0 (by decide)) (by decide)
 have e8:=l5.below (g5.trans ah) (Nat.le_trans hBw b3)
 refine xc 6 (args:=#[P0 bc,V0 3,.slice p8 i c8]) (Dx B bc bm pg N cg p k cI (List.replicate (k*256) (0:UInt8)) (F1 L) 3 p8 c8 i (Ud L (Kc L)) _ (by rw[Yq];omega) x9 p2 (det_ok hk.devs) (show Xc (F2 L)≤N by omega) (by omega) (fun W _ h2=>Zf (Zi j2 h2 (by decide))) (Nat.le_trans hBw e8.size)) ?_
 rintro _ dz ⟨rfl,q8,i1,hR,hJ⟩
 have c2:=bt.only i1 (by decide)
 refine xs 4 c2 [V0 t,V0 u,V0 v,V0 (x:Int),V0 (k:Int),V0 (↑(Xc (F1 L)):Int),V0 (↑(Xc (F2 L)):Int),V0 0,V0 0,V0 0,V0 0] fun et l9 bj=>?_
 have c0:=l9.blkT ((l5.blkT (d3.only g3 (by decide)) a0 (by decide)).only i1 (by decide)) c2 (by decide)
 refine xlv 5 c0.rp ?_
 have k8:=l9.below (e8.trans q8) (Nat.le_trans hBw b3)
 refine xc 0 (args:=#[.agg #[V0 t,V0 u,V0 v,V0 (x:Int),.slice pd n cd]]) (by have q:=Mr pd cd n x t u v Z _ hZ (hP _ k8) (by rw[hL];exact hk);rw[hL] at q;exact q) ?_
 rintro _ er ⟨_,rfl,d2,q9,d9,rfl,al⟩
 have v8:=(l9.below (e8.trans q8) (Nat.le_trans hBw b3)).size
 have o4:=Ze al v8
 have p1:=(hR.only (Zd.of_upd (T:=[44]) l9 c2 (by decide)) (by decide)).below d2
 have s8:=(hJ.only (Zd.of_upd (T:=[44]) l9 c2 (by decide)) (by decide)).below d2
 obtain⟨z6,u9,v0,aj⟩:=p1
 have j9:=blB k8 hBw d2
 refine xc 0 (args:=#[P0 bc,.slice q9 x d9]) (by have q:=Fe B bc bm pg N cg z6 u9 v0 1 (Xc (F2 L)) p k cI (Da L k) q9 d9 (Yi x L) _ aj (by rw[Xy];have q:=Zf o4;rw[←Ey] at q;exact q) (by rw[Xy];omega) (by rw[Hy];have:=Hm hk.devs;omega) (Jy (by omega) hk.devs) (by omega) (by omega) (by decide) (by omega) s8 (Nat.le_trans hBw j9.size);rw[Xy] at q;exact q) ?_
 rintro _ en ⟨cq,cn,bu,rfl,x7,i6,y7,hJ⟩
 have hR:Mw B bc bm pg N cg (Hd x L) _:=⟨_,_,_,y7⟩
 have b5:=(bj.below d2).only i6 (by decide)
 refine xs 5 b5 [V0 t,V0 u,V0 v,V0 (x:Int),V0 (k:Int),V0 (↑(Xc (F1 L)):Int),V0 (↑(Xc (F2 L)):Int),V0 ((Qp x L k).1),V0 0,V0 0,V0 0] fun ct n4 p9=>?_
 refine xs 1 p9 [V0 t,V0 u,V0 v,V0 (x:Int),V0 (k:Int),V0 (↑(Xc (F1 L)):Int),V0 (↑(Xc (F2 L)):Int),V0 ((Qp x L k).1),V0 ((Qp x L k).2.1),V0 0,V0 0] fun ei m8 cm=>?_
 have y2:=m8.own2 (n4.own2 (Zi (Zb (l9.own2 (Zi (l5.own2 (Zi hc g3 (by decide)) a0 (by decide)) i1 (by decide)) c2 (by decide)) d2) i6 (by decide)) b5 (by decide)) p9 (by decide)
 have q2:=(hR.only (Zd.of_upd (T:=[44]) n4 b5 (by decide)) (by decide)).only (Zd.of_upd (T:=[44]) m8 p9 (by decide)) (by decide)
 have t2:=(hJ.only (Zd.of_upd (T:=[44]) n4 b5 (by decide)) (by decide)).only (Zd.of_upd (T:=[44]) m8 p9 (by decide)) (by decide)
 have r1:=m8.below (n4.below (j9.trans x7) (Nat.le_trans hBw b3)) (Nat.le_trans hBw b3)
 have q6:=(Zd.upd_new (Zd.upd_new (((Zd.upd_new ((Zd.upd_new (j4.trans (g3.wide (by decide))) l5 b3).trans (i1.wide (by decide))) l9 b3).trans (Zd.of_below d2)).trans (i6.wide (by decide))) n4 b3) m8 b3)
 have g1:=m8.blkT (n4.blkT ((c0.below d2).only i6 (by decide)) b5 (by decide)) p9 (by decide)
 refine zl 9 119 (fun zm l3 V=>∃ (i2:Nat),l3=[(0,P0 bm),(1,P0 bc),(4,.slice (S1 g) k k),(10,P0 u5),(14,V0 (i2:Int))]∧zm=Hd x L+1-((i2:Int)).toNat∧Below B w V∧Zd [169,9,3,123] w V∧Blk V b1 ([V0 t,V0 u,V0 v,V0 (x:Int),.slice pd n cd]) 24∧Blk V u5 ([V0 t,V0 u,V0 v,V0 (x:Int),V0 (k:Int),V0 (↑(Xc (F1 L)):Int),V0 (↑(Xc (F2 L)):Int),V0 ((Qp x L k).1),V0 ((Qp x L k).2.1),V0 0,V0 0]) 44∧V.ownsRow B 3 1 (.slice (S1 g) k k) k ((Yd i2 k).map V0)∧Mw B bc bm pg N cg (Hd x L) V∧RefI B bm p k cI (Qp x L k).2.2 V∧i2≤Hd x L+1) ⟨0,rfl,rfl,r1,q6,g1,cm,y2,q2,t2,Nat.zero_le _⟩ ?_
 rintro _ _ ee ⟨i2,rfl,rfl,e1,j7,f8,b0,hc,hR,hJ,bs⟩ es v6 de
 refine xl 7 hR.used ?_
 refine xid 3 ((i2:Int)≤(↑(Hd x L):Int)) (fun x4=>?_) (fun x4=>?_)
 ·refine xx 8 _ k i2 1 (show(some (⟨g,0,none⟩:Addr)).isSome=true from rfl) ?_
  refine xl 0 (Ir (Zf hc) (i:=i2) (by omega)) ?_
  refine xx 7 _ k i2 1 (show(some (⟨g,0,none⟩:Addr)).isSome=true from rfl) ?_
  refine xst 0 fun _ _ _ _ zJ zQ zo zx zy zK=>Xz (t:=3) (k:=i2) (v:=V0 1) zo zx zy (by kernel_rfl) rfl hc (by omega) fun dc n3 ax=>?_
  rw[Sg (i:=i2) (n:=k) (by omega)] at ax
  refine zK _ _ ?_
  refine xwm 5 ((i2:Int)+1) (↑(i2+1):Int) ?_
  have p5:=n3.below e1 (Vz hc)
  have o9:=j7.trans (Zd.of_updRow n3 hc (by decide))
  have h1:=n3.blk f8 (Yx f8 hc (by decide))
  have e6:=n3.blk b0 (Yx b0 hc (by decide))
  have r3:=hR.upd hpg n3 hc
  have n9:=hJ.only (Zd.of_updRow (T:=[3]) n3 hc (by decide)) (by decide)
  exact ze 2 (v6 _ _ _ ⟨i2+1,rfl,rfl,p5,o9,h1,e6,ax,r3,n9,by omega⟩ (by omega))
 have w8:i2=Hd x L+1:=by omega
 rw[w8] at hc
 obtain⟨y1,v2,x1,y9⟩:=hR
 refine xc 9 (args:=#[P0 bc,.slice (S1 g) k k]) (by have q:=Ej B bc bm pg N cg y1 v2 x1 1 (Hd x L) p k cI (Qp x L k).2.2 (S1 g) k (Yd (Hd x L+1) k) _ y9 (by rw[Xf];exact Zf hc) (by rw[Xf];omega) (Jn (by omega)) (Xf _ _) (by rw[Gi];omega) (by omega) (by decide) (by rw[Nat.add_comm 1];exact Gc) hJ (Nat.le_trans hBw e1.size);rw[Xf] at q;exact q) ?_
 rintro _ ew ⟨bp,bn,bk,rfl,q5,r5,_,hJ⟩
 have a8:=b0.only r5 (by decide)
 refine xs 5 a8 [V0 t,V0 u,V0 v,V0 (x:Int),V0 (k:Int),V0 (↑(Xc (F1 L)):Int),V0 (↑(Xc (F2 L)):Int),V0 ((Qp x L k).1),V0 ((Qp x L k).2.1),V0 ((Hh x L k).1),V0 0] fun cw u0 ba=>?_
 refine xs 1 ba [V0 t,V0 u,V0 v,V0 (x:Int),V0 (k:Int),V0 (↑(Xc (F1 L)):Int),V0 (↑(Xc (F2 L)):Int),V0 ((Qp x L k).1),V0 ((Qp x L k).2.1),V0 ((Hh x L k).1),V0 ((Hh x L k).2.1)] fun dg u1 bl=>?_
 refine xlv 4 bl.rp ?_
 refine xc 0 (args:=#[.agg #[V0 t,V0 u,V0 v,V0 (x:Int),V0 (k:Int),V0 (↑(Xc (F1 L)):Int),V0 (↑(Xc (F2 L)):Int),V0 ((Qp x L k).1),V0 ((Qp x L k).2.1),V0 ((Hh x L k).1),V0 ((Hh x L k).2.1)]]) (Du t u v x k L _ av) ?_
 rintro _ eq ⟨_,rfl,m6,q7,d7,rfl,ad⟩
 have ao:=(u1.below (u0.below (e1.trans q5) (Nat.le_trans hBw b3)) (Nat.le_trans hBw b3)).size
 have s4:=Ze ad ao
 have s0:=((hJ.only (Zd.of_upd (T:=[44]) u0 a8 (by decide)) (by decide)).only (Zd.of_upd (T:=[44]) u1 ba (by decide)) (by decide)).below m6
 have k4:=blB (u1.below (u0.below (e1.trans q5) (Nat.le_trans hBw b3)) (Nat.le_trans hBw b3)) hBw m6
 refine xc 10 (args:=#[P0 bm,V0 0,V0 1,.slice q7 244 d7]) (Uz B bm p k cI (Hh x L k).2.2 q7 d7 (Ao (Od t u v x L k)) _ s0 (Zf s4) (Jc _) (by omega) (Nat.le_trans hBw k4.size)) ?_
 rintro _ ef ⟨vw,rfl,x0,ag,hI⟩
 have s7:=k4.trans x0
 have t8:=((Zd.upd_new (Zd.upd_new (j7.trans (r5.wide (by decide))) u0 b3) u1 b3).trans (Zd.of_below m6)).trans (ag.wide (by decide))
 exact xe 1 (.tuple #[]) ⟨rfl,s7,t8,hI⟩
theorem dev_fewR{data:Int}{Z:List Zv}(hk:DevsOk data (Z.map Prod.fst)){i:Nat}(h:i<Z.length):(Z.getD i zvD).1.2.length≤16384:=by
 have a:=hk.sum
 have b:=Ph (L:=Z.map Prod.fst) (i:=i) (by rw[List.length_map];exact h)
 rw[zfst h] at b
 omega
theorem Ov{Z:List Zv}{i:Nat}(h:i<Z.length):Qu ((Z.map Prod.fst).take (i+1))=Qu ((Z.map Prod.fst).take i)+Zy 2 (Z.getD i zvD).1.2.length:=by
 rw[Zcy (by rw[List.length_map];exact h),zfst h]
theorem Mb(L:List Dv)(i:Nat):Qu (L.take i)≤Qu L:=by
 have e:L=L.take i++L.drop i:=(List.take_append_drop i L).symm
 conv=>rhs;rw[e]
 unfold Qu
 rw[List.map_append,List.sum_append];omega
theorem base_sum{x n o:Nat}{L:List Dv}(h:L.length=n)(ho:Za2 x L=o):1+Zy 3 n+Zy 1 n+Qu L+Zy 4 (bmN x)+Zy 5 o+bmN x=Wi x L:=by
 subst h ho;unfold Wi;omega
theorem r20_quo(n:Nat)(h:n≤1000000):IntKind.i64.wrap (Int.tdiv (↑(n+960-1):Int) 960)=(↑((n+959)/960):Int):=by
 rw[show n+960-1=n+959 by omega,show(960:Int)=((960:Nat):Int) from rfl,←Int.ofNat_tdiv]
 exact IntWalk.i64_in _ (by omega)
theorem Hu(n:Nat)(w:World)(hn:n≤1000000) :
 C0 84 #[V0 (n:Int)] w (Ret (V0 (↑(bmN n):Int)) w):=by
 refine zin 9 Tryz.func84 ?_
 refine xid 12 ((n:Int)<(1:Int)) (fun a0=>?_) (fun a0=>?_)
 ·exact xe 7 (V0 0) ⟨by unfold bmN;exact congrArg (fun z:Int=>Ending.returned (Value.int .i64 z)) (by omega),(B4 w)⟩
 refine xwm 5 ((n:Int)+960) (↑(n+960):Int) ?_
 refine xwm 0 ((↑(n+960):Int)-1) (↑((n+960)-1):Int) ?_
 refine xq 0 (congrArg V0 (show(IntKind.i64.wrap (Int.tdiv (↑((n+960)-1):Int) 960):Int)=(↑((n+959)/960):Int) from r20_quo n hn)) ?_
 exact xe 4 (V0 (↑((n+959)/960):Int)) ⟨by unfold bmN;exact congrArg (fun z:Int=>Ending.returned (Value.int .i64 z)) (by omega),(B4 w)⟩
theorem Zeq(p:O0)(c n x:Nat)(t u v:Int)(Z:List Zv)(w:World)(hZ:Z.length=n)(hP:DevsR w p c Z)(hk:PoolOk t u v (x:Int) (Z.map Prod.fst)) :
 C0 83 #[.agg #[V0 t,V0 u,V0 v,V0 (x:Int),.slice p n c]] w (Ret (V0 (↑(Wi x (Z.map Prod.fst)):Int)) w):=by
 have hx:x≤65536:=by have:=hk.hdata;omega
 have b7:(Z.map Prod.fst).length=n:=by rw[List.length_map];exact hZ
 have d5:=hk.devs.few
 have f4:=hk.devs.sum
 rw[b7] at d5
 have d0:=Hm hk.devs
 have d1:=Tv (L:=(Z.map Prod.fst))
 rw[b7] at d1
 have e3:=Yv 3 n
 have e5:=Yv 1 n
 have e6:bmN x≤69:=by unfold bmN;omega
 have e2:=Yv 4 (bmN x)
 have e1:=Sl.len (hP.rowN hZ)
 refine zin 66 Tryz.func83 ?_
 refine xa 2 [V0 t,V0 u,V0 v,V0 (x:Int),.slice p n c] 24 fun b1 W1 n1=>?_
 refine xlv 6 n1.blk.rp ?_
 refine xr 0 (args:=#[.agg #[V0 t,V0 u,V0 v,V0 (x:Int),.slice p n c]]) (Vx p c n t u v (x:Int) Z _ hZ (hP.below n1.below)) fun W2 c5=>?_
 refine xk 3 (show(((Xr t u v (x:Int) (Z.map Prod.fst)) != (0:Int)):Bool)=false from(by rw[Ks.2 hk];rfl)) ?_
 refine xd 3 .z ?_
 have a7:=(n1.blk.below c5).below (Za W2)
 refine xb (.e [0] 1) 4 a7 ?_
 refine xb (.e [2,5] 6) 4 a7 ?_
 refine xr (.o [7] 3) (args:=#[V0 3,V0 (n:Int)]) (Qd 3 n _ (by decide) (by decide) (by omega)) fun W3 c7=>?_
 refine xwm (.e [] 4) (1+(↑(Zy 3 n):Int)) (↑(1+(Zy 3 n)):Int) ?_
 refine xr (.o [] 8) (args:=#[V0 1,V0 (n:Int)]) (Qd 1 n _ (by decide) (by decide) (by omega)) fun W4 c4=>?_
 refine xwm (.e [] 9) ((↑(1+(Zy 3 n)):Int)+(↑(Zy 1 n):Int)) (↑((1+(Zy 3 n))+(Zy 1 n)):Int) ?_
 have b5:=bln (bln (bln (bln n1.below c5) (Za W2)) c7) c4
 have b8:=(a7.below c7).below c4
 refine zl (.r [10] 9) 66 (fun zm b6 V=>∃ (i:Nat),b6=[(1,P0 b1),(2,V0 0),(3,V0 (↑(1+Zy 3 n+Zy 1 n+Qu ((Z.map Prod.fst).take i)):Int)),(4,V0 (i:Int))]∧zm=n-((i:Int)).toNat∧B3 w V∧Blk V b1 ([V0 t,V0 u,V0 v,V0 (x:Int),.slice p n c]) 24∧i≤n) ⟨0,rfl,rfl,b5,b8,Nat.zero_le _⟩ ?_
 rintro _ _ W5 ⟨i,rfl,rfl,a2,a0,hi⟩ J5 d2 r5
 refine xb 5 4 a0 ?_
 refine xid 4 ((i:Int)<(n:Int)) (fun d6=>?_) (fun d6=>?_)
 ·have e0:=dev_fewR hk.devs (i:=i) (by omega)
  have f0:=Ov (Z:=Z) (i:=i) (by omega)
  have f1:=Yv 2 (Z.getD i zvD).1.2.length
  have d4:=Mb (Z.map Prod.fst) i
  refine xb 7 4 a0 ?_
  refine xx 1 _ n i 5 (hP.someN hZ (i:=i) (by omega)) ?_
  refine xl 1 ((Sts.cell (hP.below a2).row Ye zvD (k:=i) (i:=4) (by omega) rfl).2) ?_
  refine xr 1 (args:=#[V0 2,V0 (↑((Z.getD i zvD).1.2.length):Int)]) (Qd 2 ((Z.getD i zvD).1.2.length) _ (by decide) (by decide) (by omega)) fun W7 c8=>?_
  refine xwm 0 ((↑(1+Zy 3 n+Zy 1 n+Qu ((Z.map Prod.fst).take i)):Int)+(↑(Zy 2 ((Z.getD i zvD).1.2.length)):Int)) (↑((1+Zy 3 n+Zy 1 n+Qu ((Z.map Prod.fst).take i))+(Zy 2 ((Z.getD i zvD).1.2.length))):Int) ?_
  refine xwm 6 ((i:Int)+1) (↑(i+1):Int) ?_
  refine xv1 2 3 (show(V0 (↑((1+Zy 3 n+Zy 1 n+Qu ((Z.map Prod.fst).take i))+(Zy 2 ((Z.getD i zvD).1.2.length))):Int):Value)=V0 (↑(1+Zy 3 n+Zy 1 n+Qu ((Z.map Prod.fst).take (i+1))):Int) from congrArg V0 (by omega)) ?_
  have c2:=bln a2 c8
  have a5:=a0.below c8
  exact ze 0 (d2 _ _ _ ⟨i+1,rfl,rfl,c2,a5,by omega⟩ (by omega))
 refine xlv 7 a0.rp ?_
 refine xc 0 (args:=#[.agg #[V0 t,V0 u,V0 v,V0 (x:Int),.slice p n c]]) (Mr p c n x t u v Z _ hZ (hP.below a2) hk) ?_
 rintro _ W8 ⟨_,rfl,c6,q9,d9,rfl,a8⟩
 have a9:=Ze a8 a2.size
 have c1:=bln a2 c6
 have a4:=a0.below c6
 refine zl 15 66 (fun zm b6 V=>∃ (j:Nat),b6=[(1,P0 b1),(2,V0 0),(3,V0 (↑(1+Zy 3 n+Zy 1 n+Qu ((Z.map Prod.fst).take i)):Int)),(5,.slice q9 x d9),(6,V0 (↑(Ul (Yk x (Z.map Prod.fst)) j):Int)),(7,V0 (j:Int))]∧zm=x-((j:Int)).toNat∧B3 w V∧Blk V b1 ([V0 t,V0 u,V0 v,V0 (x:Int),.slice p n c]) 24∧V.ownsRow w.heap.size 3 1 (.slice q9 x d9) x ((Yk x (Z.map Prod.fst)).map nv)∧j≤x) ⟨0,rfl,rfl,c1,a4,a9,Nat.zero_le _⟩ ?_
 rintro _ _ W9 ⟨j,rfl,rfl,a6,a3,a8,hj⟩ J9 c9 r9
 have e9:i=n:=by omega
 have d4:=Mb (Z.map Prod.fst) i
 refine xid 9 ((j:Int)<(x:Int)) (fun b9=>?_) (fun b9=>?_)
 ·have d3:Ul (Yk x (Z.map Prod.fst)) j≤j:=by unfold Ul;exact Nat.le_trans (List.length_filter_le _ _) (by rw[List.length_take];exact Nat.min_le_left _ _)
  refine xx 8 _ x j 1 (Gq (Zf a8) (Yw _ _) (k:=j) (by omega)).1 ?_
  refine xl 0 ((Gq (Zf a8) (Yw _ _) (k:=j) (by omega)).2) ?_
  refine xid 3 ((↑((Yk x (Z.map Prod.fst)).getD j 0):Int)≥(3:Int)) (fun c3=>?_) (fun c3=>?_)
  ·refine xwm 2 ((↑(Ul (Yk x (Z.map Prod.fst)) j):Int)+1) (↑((Ul (Yk x (Z.map Prod.fst)) j)+1):Int) ?_
   refine xwm 6 ((j:Int)+1) (↑(j+1):Int) ?_
   refine xv1 2 6 (show(V0 (↑((Ul (Yk x (Z.map Prod.fst)) j)+1):Int):Value)=V0 (↑(Ul (Yk x (Z.map Prod.fst)) (j+1)):Int) from by rw[Gr (k:=j) (by rw[Yw];omega),if_pos (by omega)]) ?_
   exact ze 0 (c9 _ _ _ ⟨j+1,rfl,rfl,a6,a3,a8,by omega⟩ (by omega))
  refine xwm 5 ((j:Int)+1) (↑(j+1):Int) ?_
  refine xv1 2 6 (show(V0 (↑(Ul (Yk x (Z.map Prod.fst)) j):Int):Value)=V0 (↑(Ul (Yk x (Z.map Prod.fst)) (j+1)):Int) from by rw[Gr (k:=j) (by rw[Yw];omega),if_neg (by omega),Nat.add_zero]) ?_
  exact ze 0 (c9 _ _ _ ⟨j+1,rfl,rfl,a6,a3,a8,by omega⟩ (by omega))
 have f3:Ul (Yk x (Z.map Prod.fst)) j=Za2 x (Z.map Prod.fst):=by rw[show j=x by omega];rfl
 have d8:=Yv 5 (Ul (Yk x (Z.map Prod.fst)) j)
 have d3:Ul (Yk x (Z.map Prod.fst)) j≤j:=by unfold Ul;exact Nat.le_trans (List.length_filter_le _ _) (by rw[List.length_take];exact Nat.min_le_left _ _)
 refine xd 6 .z ?_
 have a1:=a3.below (Za W9)
 refine xb (.e [0,1] 2) 3 a1 ?_
 refine xb (.e [6,9] 10) 3 a1 ?_
 refine xr (.o [] 3) (args:=#[V0 (x:Int)]) (Hu x _ (by omega)) fun e8 b4=>?_
 refine xr (.o [] 4) (args:=#[V0 4,V0 (↑(bmN x):Int)]) (Qd 4 (bmN x) _ (by decide) (by decide) (by omega)) fun e4 b3=>?_
 refine xwm (.e [] 5) ((↑(1+Zy 3 n+Zy 1 n+Qu ((Z.map Prod.fst).take i)):Int)+(↑(Zy 4 (bmN x)):Int)) (↑((1+Zy 3 n+Zy 1 n+Qu ((Z.map Prod.fst).take i))+(Zy 4 (bmN x))):Int) ?_
 refine xr (.o [] 7) (args:=#[V0 5,V0 (↑(Ul (Yk x (Z.map Prod.fst)) j):Int)]) (Qd 5 (Ul (Yk x (Z.map Prod.fst)) j) _ (by decide) (by decide) (by omega)) fun f2 b0=>?_
 refine xwm (.e [] 8) ((↑((1+Zy 3 n+Zy 1 n+Qu ((Z.map Prod.fst).take i))+(Zy 4 (bmN x))):Int)+(↑(Zy 5 (Ul (Yk x (Z.map Prod.fst)) j)):Int)) (↑(((1+Zy 3 n+Zy 1 n+Qu ((Z.map Prod.fst).take i))+(Zy 4 (bmN x)))+(Zy 5 (Ul (Yk x (Z.map Prod.fst)) j))):Int) ?_
 refine xr (.o [] 11) (args:=#[V0 (x:Int)]) (Hu x _ (by omega)) fun e7 b2=>?_
 refine xwm (.e [] 12) ((↑(((1+Zy 3 n+Zy 1 n+Qu ((Z.map Prod.fst).take i))+(Zy 4 (bmN x)))+(Zy 5 (Ul (Yk x (Z.map Prod.fst)) j))):Int)+(↑(bmN x):Int)) (↑((((1+Zy 3 n+Zy 1 n+Qu ((Z.map Prod.fst).take i))+(Zy 4 (bmN x)))+(Zy 5 (Ul (Yk x (Z.map Prod.fst)) j)))+(bmN x)):Int) ?_
 have c0:=bln (bln (bln (bln (bln a6 (Za W9)) b4) b3) b0) b2
 exact xe (.r [13] 3) (V0 (↑((((1+Zy 3 n+Zy 1 n+Qu ((Z.map Prod.fst).take i))+(Zy 4 (bmN x)))+(Zy 5 (Ul (Yk x (Z.map Prod.fst)) j)))+(bmN x)):Int)) (by obtain rfl:j=x:=(by omega);have d7:=base_sum (x:=j) (n:=n) (L:=(Z.map Prod.fst)) b7 rfl;rw[List.take_of_length_le (show(Z.map Prod.fst).length≤i by omega)];exact⟨congrArg (fun z:Int=>Ending.returned (Value.int .i64 z)) (by rw[←d7];unfold Za2;omega),c0⟩)
theorem Rm(p:O0)(c n x:Nat)(t u v:Int)(Z:List Zv)(w:World)(hZ:Z.length=n)(hP:DevsR w p c Z)(hk:PoolOk t u v (x:Int) (Z.map Prod.fst)) :
 C0 36 #[.agg #[V0 t,V0 u,V0 v,V0 (x:Int),.slice p n c]] w (Ret (V0 (↑(Kk x (Z.map Prod.fst)):Int)) w):=by
 have hx:x≤65536:=by have:=hk.hdata;omega
 have b2:=Tb hx hk.devs
 have a8:Kk x (Z.map Prod.fst)=Uo (Wi x (Z.map Prod.fst)+2):=rfl
 obtain⟨bs,a9⟩:∃ y,Wi x (Z.map Prod.fst)=y:=⟨_,rfl⟩
 rw[a9] at b2 a8
 have b5:bs+2≤Uo (bs+2)∧Uo (bs+2)≤200000:=by unfold Uo;omega
 refine zin 21 Tryz.func36 ?_
 refine xa 2 [V0 t,V0 u,V0 v,V0 (x:Int),.slice p n c] 24 fun b1 W1 n1=>?_
 refine xlv 5 n1.blk.rp ?_
 refine xr 0 (args:=#[.agg #[V0 t,V0 u,V0 v,V0 (x:Int),.slice p n c]]) (by have q:=Zeq p c n x t u v Z _ hZ (hP.below n1.below) hk;rw[a9] at q;exact q) fun W2 b0=>?_
 refine xk 10 (show(((bs:Int)==(0:Int)):Bool)=false from beq_false_of_ne (by omega)) ?_
 refine xwm 5 ((bs:Int)+2) (↑(bs+2):Int) ?_
 have a7:=bln n1.below b0
 have a6:=n1.blk.below b0
 refine zl 5 21 (fun zm b3 V=>∃ (j:Nat),b3=[(2,V0 0),(3,V0 (bs:Int)),(4,V0 (j:Int))]∧zm=200000-((j:Int)).toNat∧B3 w V∧Blk V b1 ([V0 t,V0 u,V0 v,V0 (x:Int),.slice p n c]) 24∧bs+2≤j∧j≤Uo (bs+2)) ⟨(bs+2),rfl,rfl,a7,a6,⟨Nat.le_refl _,b5.1⟩⟩ ?_
 rintro _ _ W3 ⟨j,rfl,rfl,a2,a1,hj⟩ J3 b7 r3
 refine xwm 4 ((bs:Int)+2) (↑(bs+2):Int) ?_
 have b8:bmN j≤1000:=by unfold bmN;omega
 refine xr 1 (args:=#[V0 (j:Int)]) (Hu j _ (by omega)) fun W4 a3=>?_
 refine xwm 0 ((↑(bs+2):Int)+(↑(bmN j):Int)) (↑((bs+2)+(bmN j)):Int) ?_
 refine xid 4 ((↑((bs+2)+(bmN j)):Int)>(j:Int)) (fun b6=>?_) (fun b6=>?_)
 ·refine xwm 5 ((j:Int)+1) (↑(j+1):Int) ?_
  have a5:=bln a2 a3
  have a0:=a1.below a3
  exact ze 3 (b7 _ _ _ ⟨j+1,rfl,rfl,a5,a0,(by refine⟨by omega,?_⟩;rcases Nat.lt_or_ge j (Uo (bs+2)) with q|q;exact q;have:=Oq q;omega)⟩ (by omega))
 have a4:=bln a2 a3
 exact xe 12 (V0 (j:Int)) (by have b4:j=Uo (bs+2):=(by rcases Nat.lt_or_ge j (Uo (bs+2)) with q|q;(have:=Zg5 (show 1≤bs+2 by omega) hj.1 q;omega);omega);exact⟨by rw[a8,←b4],a4⟩)
theorem blk_zero{k i:Nat}(h:i<k):Ct (List.replicate (k*256) (0:UInt8)) i=List.replicate 256 0:=by
 unfold Ct
 rw[List.drop_replicate,List.take_replicate]
 congr 1
 omega
theorem Zc4(k:Nat)(w:World)(hk:k≤14400) :
 C0 37 #[V0 (k:Int)] w (Qn (fun w' r=>∃ bm p c,r=.tuple #[P0 bm,V0 0]∧w.heap.size≤bm∧RefI w.heap.size bm p k c (List.replicate (k*256) (0:UInt8)) w') w):=by
 refine zin 33 Tryz.func37 ?_
 refine xgk 12 [8,9] (show(decide ((k:Int)<(0:Int)):Bool)=false from decide_eq_false (by omega)) ?_
 refine xk 5 (show(decide ((k:Int)>(14400:Int)):Bool)=false from decide_eq_false (by omega)) ?_
 refine xa 5 [S0] 98 fun b2 W2 n2=>?_
 refine xmk 5 fun _ _ _ _ zJ zQ zo zx zy zK=>Kn 256 (.int .u8 0) 1 1 ((List.replicate 256 (0:UInt8)).map bv) zo zx zy Tryz.underlying40 (by kernel_rfl) rfl (by omega) (by omega) ((Dr 256)) fun b3 W3 n3=>?_
 refine zK _ _ ?_
 have o3:=Zw (size:=1) (n:=256) n3.blk (n3.ge n2.below) (by rw[List.length_map,List.length_replicate]) (by unfold maxLen;omega)
 refine xcv0 0 (fun _ _ _ zo zx=>Yn zo zx (Xp (Zf o3) List.length_replicate) List.length_replicate Tryz.underlying40 Tryz.underlying5 Tryz.underlying9) ?_
 have hB:=bln n2.below n3.below
 have k2:=n2.blk.below n3.below
 refine zl 10 33 (fun zm a9 V=>∃ (i:Nat) (p:O0) (cp:Nat),a9=[(0,V0 (k:Int)),(2,.pointer none),(3,V0 0),(4,P0 b2),(5,.string ⟨(List.replicate 256 (0:UInt8)).toArray⟩),(6,V0 (i:Int))]∧zm=k-((i:Int)).toNat∧B3 w V∧Blk V b2 ([.slice p i cp]) 98∧V.ownsRow w.heap.size 9 1 (.slice p i cp) i ((Uu (List.replicate (k*256) (0:UInt8)) i).map sv)∧i≤k) ⟨0,none,0,rfl,rfl,hB,k2,World.ownsRow_nil _ _ _ _,Nat.zero_le _⟩ ?_
 rintro _ _ W4 ⟨i,p,cp,rfl,rfl,a2,a1,ho,hi⟩ J4 b0 r4
 refine xid 8 ((i:Int)<(k:Int)) (fun b4=>?_) (fun b4=>?_)
 ·refine xb 9 0 a1 ?_
  refine xbs 1 1 [.string ⟨(List.replicate 256 (0:UInt8)).toArray⟩] 9 fun b6 W6 n6=>?_
  have g6:=n6.ge a2
  have a7:=Zr ho n6
  have a3:=Zb ho n6.below
  have a4:=bln a2 n6.below
  refine xbi 0 fun _ _ _ _ zJ zQ zo zx zy zK=>Zn (m:=1) (news:=[.string ⟨(List.replicate 256 (0:UInt8)).toArray⟩]) (.string ⟨#[]⟩) 1 16 (i+1) ((Uu (List.replicate (k*256) (0:UInt8)) (i+1)).map sv) zo Tryz.underlying96 (by kernel_rfl) rfl (by decide) zx a3 zy (n6.blk.sl 1 1 (by decide) (by decide)) rfl (by simp[Value.oneCell']) (by unfold maxLen;omega) (by omega) a4.size (by rfl) (by rw[Zfh,List.map_append,blk_zero (by omega)];rfl) fun b7 b5 W7 o7 b1 a8=>?_
  refine zK _ _ ?_
  have a0:=(a1.below n6.below).grown b1 a3 (by decide)
  refine xs 2 a0 [.slice b7 (i+1) b5] fun W8 u8 k8=>?_
  have g2:=n2.ge (B4 w)
  refine xwm 5 ((i:Int)+1) (↑(i+1):Int) ?_
  have a6:=u8.below (a4.trans a8) g2
  have a5:=u8.own2 o7 a0 (by decide)
  exact ze 2 (b0 _ _ _ ⟨i+1,_,_,rfl,rfl,a6,k8,a5,by omega⟩ (by omega))
 have g2:=n2.ge (B4 w)
 exact xe 13 (.tuple #[P0 b2,V0 0]) (by obtain rfl:i=k:=(by omega);exact⟨_,rfl,a2,_,_,_,rfl,g2,a1,ho,hk,List.length_replicate⟩)
def RFromP(bm K:Nat)(L:List Int)(w:World)(e:Ending)(w':World):Prop :=
 (Bz K L≠0∧e=.returned (.tuple #[.pointer none,.agg #[S0,V0 (Bz K L)]])∧B3 w w') ∨
 (Bz K L=0∧∃ bc pg cg,e=.returned (.tuple #[P0 bc,.agg #[S0,V0 0]])∧B3 w w'∧RAl w.heap.size bc bm pg L.length cg pg L.length cg 0 L w')
theorem ref_From(bm:Nat)(p:O0)(K c:Nat)(aL:O0)(cL:Nat)(L:List Int)(w:World)(hk:Blk w bm [.slice p K c] 98)(hK:K≤14400)(h:Sl w (.slice aL L.length cL) L.length (L.map V0))(hLn:L.length≤1000000) :
 C0 85 #[P0 bm,.slice aL L.length cL] w (RFromP bm K L w):=by
 refine zin 56 Tryz.func85 ?_
 refine xa 3 [S0,V0 0] 35 fun b1 W1 n1=>?_
 have d2:=hk.below n1.below
 refine zl 9 56 (fun zm c8 V=>∃ (i:Nat),c8=[(0,P0 bm),(1,.slice aL L.length cL),(5,P0 b1),(6,V0 (i:Int))]∧zm=L.length-((i:Int)).toNat∧B3 w V∧Blk V bm ([.slice p K c]) 98∧Blk V b1 ([S0,V0 0]) 35∧i≤L.length∧(∀ x,x<i→1≤L.getD x 0∧L.getD x 0<(K:Int))) ⟨0,rfl,rfl,n1.below,d2,n1.blk,Nat.zero_le _,?_⟩ ?_
 ·exact fun x hx=>absurd hx (by omega)
 rintro _ _ W2 ⟨i,rfl,rfl,b9,b4,a1,hi,hz⟩ J2 e3 r2
 refine xid 9 ((i:Int)<(L.length:Int)) (fun d5=>?_) (fun d5=>?_)
 ·refine xd 5 .z ?_
  refine xx (.e [0,1] 2) _ L.length i 1 (Ints.elem h (k:=i) (by omega)).1 ?_
  have a3:=bln b9 (Za W2)
  refine xl (.e [] 3) ((Ints.elem (h.below a3) (k:=i) (by omega)).2) ?_
  refine xg (.b [4,5]) [18,19] (decide ((L.getD i 0)<(1:Int))) (fun c1=>?_) (fun c1=>?_)
  ·have c1:=of_decide_eq_true c1
   have b0:=a1.below (Za W2)
   refine xsv (.r [6,7,8,9,10,11,12,13,14,15,16] 7) b0 [S0,V0 1] fun W5 u5 k5=>?_
   have g1:=n1.ge (B4 w)
   have d1:=u5.below a3 g1
   refine xec 8 k5 (.tuple #[.pointer none,.agg #[S0,V0 1]]) ?_
   have he:Bz K L=1:=by unfold Bz;rw[Dk (j:=i) (by omega) (by omega)];rfl
   exact .inl ⟨by rw[he];decide,by rw[he],d1⟩
  have c1:=of_decide_eq_false c1
  refine xx (.e [6,7] 8) _ L.length i 1 (Ints.elem h (k:=i) (by omega)).1 ?_
  refine xl (.e [] 9) ((Ints.elem (h.below a3) (k:=i) (by omega)).2) ?_
  have a2:=b4.below (Za W2)
  refine xb (.e [10,11,12] 13) 0 a2 ?_
  refine xid (.r [14,15,16] 2) ((L.getD i 0)≥(K:Int)) (fun e8=>?_) (fun e8=>?_)
  ·have a6:=a1.below (Za W2)
   refine xsv 4 a6 [S0,V0 1] fun W7 u7 k7=>?_
   have g1:=n1.ge (B4 w)
   have d0:=u7.below a3 g1
   refine xec 8 k7 (.tuple #[.pointer none,.agg #[S0,V0 1]]) ?_
   have he:Bz K L=1:=by unfold Bz;rw[Dk (j:=i) (by omega) (by omega)];rfl
   exact .inl ⟨by rw[he];decide,by rw[he],d0⟩
  refine xwm 5 ((i:Int)+1) (↑(i+1):Int) ?_
  have b2:=a1.below (Za W2)
  exact ze 2 (e3 _ _ _ ⟨i+1,rfl,rfl,a3,a2,b2,by omega,fun x hx=>(Nat.lt_or_ge x i).elim (hz x) (fun q=>by obtain rfl:x=i:=(by omega);omega)⟩ (by omega))
 refine zl 12 56 (fun zm c8 V=>∃ (j:Nat),c8=[(0,P0 bm),(1,.slice aL L.length cL),(5,P0 b1),(7,V0 (j:Int))]∧zm=L.length-((j:Int)).toNat∧B3 w V∧Blk V bm ([.slice p K c]) 98∧Blk V b1 ([S0,V0 0]) 35∧1≤j∧j≤max 1 L.length∧(∀ x,x+1<j→L.getD x 0<L.getD (x+1) 0)) ⟨1,rfl,rfl,b9,b4,a1,Nat.le_refl _,by omega,?_⟩ ?_
 ·exact fun x hx=>absurd hx (by omega)
 rintro _ _ W8 ⟨j,rfl,rfl,b6,c0,a4,e9,hj,d4⟩ J8 e7 r8
 refine xid 9 ((j:Int)<(L.length:Int)) (fun d6=>?_) (fun d6=>?_)
 ·refine xd 5 .z ?_
  refine xx (.e [0,1] 2) _ L.length j 1 (Ints.elem h (k:=j) (by omega)).1 ?_
  have a9:=bln b6 (Za W8)
  refine xl (.e [] 3) ((Ints.elem (h.below a9) (k:=j) (by omega)).2) ?_
  refine xwm (.e [4,5] 6) ((j:Int)-1) (↑(j-1):Int) ?_
  refine xx (.e [] 7) _ L.length (j-1) 1 (Ints.elem h (k:=(j-1)) (by omega)).1 ?_
  refine xl (.e [] 8) ((Ints.elem (h.below a9) (k:=(j-1)) (by omega)).2) ?_
  refine xid (.r [9] 2) ((L.getD j 0)≤(L.getD (j-1) 0)) (fun c9=>?_) (fun c9=>?_)
  ·have b3:=a4.below (Za W8)
   refine xsv 4 b3 [S0,V0 8] fun f1 e6 d9=>?_
   have g1:=n1.ge (B4 w)
   have c7:=e6.below a9 g1
   refine xec 8 d9 (.tuple #[.pointer none,.agg #[S0,V0 8]]) ?_
   have c4:Fl K L=true:=Mx fun x hx=>hz x (by omega)
   have he:Bz K L=8:=by unfold Bz;rw[if_pos c4,Zat (j:=j-1) (by omega) (by rw[show j-1+1=j by omega];omega)];rfl
   exact .inl ⟨by rw[he];decide,by rw[he],c7⟩
  refine xwm 5 ((j:Int)+1) (↑(j+1):Int) ?_
  have a5:=c0.below (Za W8)
  have a7:=a4.below (Za W8)
  exact ze 2 (e7 _ _ _ ⟨j+1,rfl,rfl,a9,a5,a7,by omega,by omega,fun x hx=>(Nat.lt_or_ge (x+1) j).elim (d4 x) (fun q=>by obtain rfl:j=x+1:=(by omega);rw[Nat.add_sub_cancel] at *;omega)⟩ (by omega))
 refine xb0 8 3 fun f5 f3 c2=>?_
 have d3:=Zw (size:=1) (n:=0) c2.blk (c2.ge b6) rfl (by decide)
 have a8:=bln b6 c2.below
 refine xbi 1 fun _ _ _ _ zJ zQ zo zx zy zK=>Zn (m:=L.length) (news:=L.map V0) (V0 0) 1 8 (L.length) (L.map V0) zo Tryz.underlying33 (by kernel_rfl) rfl (by decide) zx d3 zy (h.below a8) (by simp) (Co L) (by unfold maxLen;omega) (by omega) a8.size (by omega) (by rfl) fun d7 e0 f0 d8 c3 b7=>?_
 refine zK _ _ ?_
 refine xa 1 [P0 bm,.slice d7 L.length e0,V0 0] 169 fun e5 f4 b8=>?_
 have a0:=((a4.below c2.below).grown c3 d3 (by decide)).below b8.below
 refine xsv 2 a0 [S0,V0 0] fun f2 c6 e2=>?_
 have g1:=n1.ge (B4 w)
 have c5:=c6.below (bln (a8.trans b7) b8.below) g1
 have e1:=c6.blkT b8.blk a0 (by decide)
 have b5:=c6.own2 (Zb d8 b8.below) a0 (by decide)
 have e4:=b8.ge (a8.trans b7)
 refine xec 3 e2 (.tuple #[P0 e5,.agg #[S0,V0 0]]) ?_
 have c4:Fl K L=true:=Mx fun x hx=>hz x (by omega)
 exact .inr ⟨by unfold Bz;rw[if_pos c4,if_pos (Rq fun x hx=>d4 x (by omega))],_,_,_,rfl,c5,e1,b5,fun hp=>by obtain⟨g,rfl,_⟩:=Qf b5 hp;exact⟨(cutA_zero g _).symm,rfl⟩,rfl,rfl,e4,hLn⟩
theorem rng_good{f K:Nat}(h1:1≤f)(h2:f≤K):Fl K (Qs f (K-f))=true:=Mx fun j hj=>by rw[Nk] at hj;rw[Uh hj];omega
theorem rng_rise(f N:Nat):Zfd (Qs f N)=true:=Rq fun j hj=>by rw[Nk] at hj;rw[Uh (by omega),Uh hj];omega
theorem rng_from{f K:Nat}(h1:1≤f)(h2:f≤K):Bz K (Qs f (K-f))=0:=by unfold Bz;rw[if_pos (rng_good h1 h2),if_pos (rng_rise f _)]
def RNewP(bm f K:Nat)(w:World)(e:Ending)(w':World):Prop :=
 ∃ bc pg cg,e=.returned (.tuple #[P0 bc,.agg #[S0,V0 0]])∧B3 w w'∧RAl w.heap.size bc bm pg (K-f) cg pg (K-f) cg 0 (Qs f (K-f)) w'
theorem Oh(bm:Nat)(p:O0)(f K c N:Nat)(aL:O0)(cL:Nat)(w:World)(hk:Blk w bm [.slice p K c] 98)(hK:K≤14400)(h1:1≤f)(h2:f≤K)(hN:K-f=N)(h:Sl w (.slice aL N cL) N ((Qs f N).map V0)) :
 C0 85 #[P0 bm,.slice aL N cL] w (RNewP bm f K w):=by
 subst hN
 have e:=Nk f (K-f)
 have h':Sl w (.slice aL (Qs f (K-f)).length cL) (Qs f (K-f)).length ((Qs f (K-f)).map V0):=by rw[e];exact h
 have hc:=ref_From bm p K c aL cL (Qs f (K-f)) w hk hK h' (by rw[e];omega)
 rw[e] at hc
 refine hc.mono ?_
 rintro q W (⟨h0,_⟩|⟨_,bc,pg,cg,rfl,hb,hA⟩)
 ·exact absurd (rng_from h1 h2) h0
 ·rw[e] at hA
  exact⟨bc,pg,cg,rfl,hb,hA⟩
theorem ref_New(bm:Nat)(p:O0)(f K c:Nat)(w:World)(hk:Blk w bm [.slice p K c] 98)(hK:K≤14400)(h1:1≤f)(h2:f≤K) :
 C0 38 #[P0 bm,V0 (f:Int)] w (RNewP bm f K w):=by
 refine zin 39 Tryz.func38 ?_
 refine xa 3 [S0,V0 0] 35 fun b1 W1 n1=>?_
 refine xgk 8 [9,10] (show(decide ((f:Int)<(1:Int)):Bool)=false from decide_eq_false (by omega)) ?_
 have a8:=hk.below n1.below
 refine xb 4 0 a8 ?_
 refine xk 5 (show(decide ((f:Int)>(K:Int)):Bool)=false from decide_eq_false (by omega)) ?_
 refine zl 15 39 (fun zm b9 V=>∃ (j:Nat) (pl:O0) (cl:Nat),b9=[(0,P0 bm),(4,.pointer none),(5,P0 b1),(6,.slice pl j cl),(7,V0 (↑(f+j):Int))]∧zm=K-((↑(f+j):Int)).toNat∧B3 w V∧Blk V bm ([.slice p K c]) 98∧Blk V b1 ([S0,V0 0]) 35∧V.ownsRow w.heap.size 3 1 (.slice pl j cl) j ((Qs f j).map V0)∧f+j≤K) ⟨0,_,_,rfl,rfl,n1.below,a8,n1.blk,World.ownsRow_nil _ _ _ _,by omega⟩ ?_
 rintro _ _ W3 ⟨j,pl,cl,rfl,rfl,a6,a1,a4,ho,hj⟩ J3 b8 r3
 refine xb 7 0 a1 ?_
 refine xid 4 ((↑(f+j):Int)<(K:Int)) (fun c1=>?_) (fun c1=>?_)
 ·refine xbs 7 1 [V0 (↑(f+j):Int)] 3 fun b5 W5 n5=>?_
  have b4:=Zr ho n5
  have a5:=Zb ho n5.below
  have a7:=bln a6 n5.below
  refine xbi 0 fun _ _ _ _ zJ zQ zo zx zy zK=>Zn (m:=1) (news:=[V0 (↑(f+j):Int)]) (V0 0) 1 8 (j+1) ((Qs f (j+1)).map V0) zo Tryz.underlying33 (by kernel_rfl) rfl (by decide) zx a5 zy (n5.blk.sl 1 1 (by decide) (by decide)) rfl (by simp[Value.oneCell']) (by unfold maxLen;omega) (by omega) a7.size (by rfl) (by rw[Og];simp) fun p6 c6 W6 o6 b3 b7=>?_
  refine zK _ _ ?_
  refine xwm 6 ((↑(f+j):Int)+1) (↑((f+j)+1):Int) ?_
  have b2:=a7.trans b7
  have a2:=(a1.below n5.below).grown b3 a5 (by decide)
  have a3:=(a4.below n5.below).grown b3 a5 (by decide)
  exact ze 2 (b8 _ _ _ ⟨j+1,_,_,rfl,rfl,b2,a2,a3,o6,by omega⟩ (by omega))
 have c0:K-f=j:=by omega
 have c2:w.heap.size≤(W3).heap.size:=a6.size
 refine xc 9 (args:=#[P0 bm,.slice pl j cl]) (Oh bm p f K c j pl cl _ a1 hK h1 h2 c0 (Zf ho)) ?_
 rintro _ W7 ⟨bc,pg,cg,rfl,b6,hA⟩
 replace hA:=hA.mono c2
 have a0:=a4.below b6
 refine xsv 3 a0 [S0,V0 0] fun W8 u8 k8=>?_
 have g1:=n1.ge (B4 w)
 have b0:=u8.below (bln a6 b6) g1
 have a9:=hA.only (Zd.of_upd (T:=[35]) u8 a0 (by decide)) (by decide)
 exact xec 3 k8 (.tuple #[P0 bc,.agg #[S0,V0 0]]) ⟨_,_,_,rfl,b0,a9⟩
theorem Me(w:World):Ints w (S0) []:=.inl ⟨none,0,rfl,rfl,rfl⟩
theorem ref_NewN(bm:Nat)(p:O0)(K c:Nat)(l:Bl)(B:Nat)(f:Int)(w:World)(hJ:RefI B bm p K c l w)(hf:1≤f∧f≤(K:Int)) :
 C0 38 #[P0 bm,V0 f] w (RNewP bm f.toNat K w):=by
 have h:=ref_New bm p f.toNat K c w hJ.blk hJ.hk (by omega) (by omega)
 rwa [show((f.toNat:Nat):Int)=f by omega] at h
theorem Zcg(er:Int)(v:Value)(w:World)(hg:Zhi w)(hv:Gw w [] (erT er) v):C0 11 #[v] w (Qn (fun w' r=>FltV w' r [] er) w):=by
 have:=Zfv (erT er) [] v w (by decide) hg hv
 rwa [show Br [] (erT er)=er from(by unfold erT;split<;>simp_all [Br,Bw]),show Vo ([]:List (Option Int))=[] from rfl] at this
theorem Mw.nums{B bc bm:Nat}{pg:O0}{N cg k:Nat}{w:World}(h:Mw B bc bm pg N cg k w):w.ownsRow B 3 1 (.slice pg N cg) N ((Qs 1 N).map V0):=by obtain⟨a,b,c,h⟩:=h;exact h.nums
theorem Mw.grown{B bc bm:Nat}{pg:O0}{N cg k B2 n:Nat}{v:Value}{xs:List Value}{w V:World}(h:Mw B bc bm pg N cg k w)(hAp:Ko v (.slice pg N cg))(hg:w.grownBy V v.ownBlock)(ho:w.ownsRow B2 3 1 v n xs):Mw B bc bm pg N cg k V:=by
 obtain⟨a,b,c,h⟩:=h
 exact⟨a,b,c,h.blk.grown hg ho (by decide),hAp.row h.nums hg,h.hfree,h.hm,h.hL,h.hB,h.hN⟩
theorem root_row{L:List Dv}{i:Nat}:((List.range i).map (Ql L)).map nv++[V0 (↑(Xc (Jd (L.take (i+1)))):Int)]=((List.range (i+1)).map (Ql L)).map nv:=by
 rw[List.range_succ,List.map_append,List.map_append];rfl
theorem Zgo{w:World}{B e size n g c:Nat}{p:O0}{xs:List Value}(h:w.ownsRow B e size (.slice p n c) n xs)(hg:w.heap.size≤g):∀ j,(Value.slice p n c).ownBlock=some j→j≠g:=fun j hj q=>by
 have:=(h.lt j hj).2;omega
theorem Zdt(p:O0)(c n:Nat)(t u v x m:Int)(Z:List Zv)(w:World)(hZ:Z.length=n)(hP:DevsR w p c Z)(hk:Xr t u v x (Z.map Prod.fst)≠0) :
 C0 9 #[.agg #[V0 t,V0 u,V0 v,V0 x,.slice p n c],V0 m] w (Ret (.tuple #[.pointer none,.agg #[S0,V0 (Xr t u v x (Z.map Prod.fst))]]) w):=by
 refine zin 74 Tryz.func9 ?_
 refine xa 2 [V0 t,V0 u,V0 v,V0 x,.slice p n c] 24 fun b1 W1 n1=>?_
 refine xa 1 [S0,V0 0] 35 fun b2 W2 n2=>?_
 have k1:=n1.blk.below n2.below
 refine xlv 5 k1.rp ?_
 have hB:=bln n1.below n2.below
 refine xr 0 (args:=#[.agg #[V0 t,V0 u,V0 v,V0 x,.slice p n c]]) (Vx p c n t u v x Z _ hZ (hP.below hB)) fun W3 a3=>?_
 refine xk 3 (show(((Xr t u v x (Z.map Prod.fst)) != (0:Int)):Bool)=true from(by simpa using hk)) ?_
 have a2:=k1.below a3
 refine xlv 2 a2.rp ?_
 have a0:=bln hB a3
 refine xr 0 (args:=#[.agg #[V0 t,V0 u,V0 v,V0 x,.slice p n c]]) (Vx p c n t u v x Z _ hZ (hP.below a0)) fun W4 a4=>?_
 have k2:=(n2.blk.below a3).below a4
 refine xsv 2 k2 [S0,V0 (Xr t u v x (Z.map Prod.fst))] fun W5 u5 k5=>?_
 have g2:=n2.ge n1.below
 have a1:=u5.below (bln a0 a4) g2
 exact xec 4 k5 (.tuple #[.pointer none,.agg #[S0,V0 (Xr t u v x (Z.map Prod.fst))]]) ⟨rfl,a1⟩
theorem Zec(p:O0)(c n:Nat)(t u v x m:Int)(Z:List Zv)(w:World)(hZ:Z.length=n)(hP:DevsR w p c Z)(hk:Xr t u v x (Z.map Prod.fst)=0)(hm:m<0∨14400<m) :
 C0 9 #[.agg #[V0 t,V0 u,V0 v,V0 x,.slice p n c],V0 m] w (Ret (.tuple #[.pointer none,.agg #[S0,V0 2]]) w):=by
 refine zin 74 Tryz.func9 ?_
 refine xa 2 [V0 t,V0 u,V0 v,V0 x,.slice p n c] 24 fun b1 W1 n1=>?_
 refine xa 1 [S0,V0 0] 35 fun b2 W2 n2=>?_
 have k1:=n1.blk.below n2.below
 refine xlv 5 k1.rp ?_
 have hB:=bln n1.below n2.below
 refine xr 0 (args:=#[.agg #[V0 t,V0 u,V0 v,V0 x,.slice p n c]]) (Vx p c n t u v x Z _ hZ (hP.below hB)) fun W3 a1=>?_
 refine xk 3 (show(((Xr t u v x (Z.map Prod.fst)) != (0:Int)):Bool)=false from(by rw[hk];rfl)) ?_
 refine xg 8 [21,22] (decide (m<(0:Int))) (fun a0=>?_) (fun a0=>?_)
 ·have a0:=of_decide_eq_true a0
  have k2:=n2.blk.below a1
  refine xsv 10 k2 [S0,V0 2] fun W5 u5 k5=>?_
  have g2:=n2.ge n1.below
  have a3:=u5.below (bln hB a1) g2
  exact xec 4 k5 (.tuple #[.pointer none,.agg #[S0,V0 2]]) ⟨rfl,a3⟩
 have a0:=of_decide_eq_false a0
 refine xk 5 (show(decide (m>(14400:Int)):Bool)=true from decide_eq_true (by omega)) ?_
 have k2:=n2.blk.below a1
 refine xsv 4 k2 [S0,V0 2] fun W6 u6 k6=>?_
 have g2:=n2.ge n1.below
 have a2:=u6.below (bln hB a1) g2
 exact xec 4 k6 (.tuple #[.pointer none,.agg #[S0,V0 2]]) ⟨rfl,a2⟩
theorem Ze7(p:O0)(c n x k:Nat)(t u v:Int)(Z:List Zv)(w:World)(hZ:Z.length=n)(hP:DevsR w p c Z)(hk:PoolOk t u v (x:Int) (Z.map Prod.fst))(hk2:k≤14400)(hr:k<Kk x (Z.map Prod.fst)) :
 C0 9 #[.agg #[V0 t,V0 u,V0 v,V0 (x:Int),.slice p n c],V0 (k:Int)] w (Ret (.tuple #[.pointer none,.agg #[S0,V0 14]]) w):=by
 obtain⟨nm,a4⟩:∃ y,Kk x (Z.map Prod.fst)=y:=⟨_,rfl⟩
 have a6:=hr
 rw[a4] at a6
 refine zin 74 Tryz.func9 ?_
 refine xa 2 [V0 t,V0 u,V0 v,V0 (x:Int),.slice p n c] 24 fun b1 W1 n1=>?_
 refine xa 1 [S0,V0 0] 35 fun b2 W2 n2=>?_
 have k1:=n1.blk.below n2.below
 refine xlv 5 k1.rp ?_
 have hB:=bln n1.below n2.below
 refine xr 0 (args:=#[.agg #[V0 t,V0 u,V0 v,V0 (x:Int),.slice p n c]]) (Vx p c n t u v (x:Int) Z _ hZ (hP.below hB)) fun W3 a3=>?_
 refine xk 3 (show(((Xr t u v (x:Int) (Z.map Prod.fst)) != (0:Int)):Bool)=false from(by rw[Ks.2 hk];rfl)) ?_
 refine xgk 8 [21,22] (show(decide ((k:Int)<(0:Int)):Bool)=false from decide_eq_false (by omega)) ?_
 refine xk 5 (show(decide ((k:Int)>(14400:Int)):Bool)=false from decide_eq_false (by omega)) ?_
 have a2:=k1.below a3
 refine xlv 6 a2.rp ?_
 have a0:=bln hB a3
 refine xr 0 (args:=#[.agg #[V0 t,V0 u,V0 v,V0 (x:Int),.slice p n c]]) (by have q:=Rm p c n x t u v Z _ hZ (hP.below a0) hk;rw[a4] at q;exact q) fun W5 a5=>?_
 refine xk 3 (show(decide ((k:Int)<(nm:Int)):Bool)=true from decide_eq_true (by omega)) ?_
 have k2:=(n2.blk.below a3).below a5
 refine xsv 4 k2 [S0,V0 14] fun W6 u6 k6=>?_
 have g2:=n2.ge n1.below
 have a1:=u6.below (bln a0 a5) g2
 exact xec 4 k6 (.tuple #[.pointer none,.agg #[S0,V0 14]]) ⟨rfl,a1⟩
theorem Zeh(p:O0)(c n x k:Nat)(t u v:Int)(Z:List Zv)(w:World)(hZ:Z.length=n)(hP:DevsR w p c Z)(hk:PoolOk t u v (x:Int) (Z.map Prod.fst))(hk3:k≤3000)(hr:Kk x (Z.map Prod.fst)≤k) :
 C0 9 #[.agg #[V0 t,V0 u,V0 v,V0 (x:Int),.slice p n c],V0 (k:Int)] w ((fun e w'=>∃ bm p c,e=.returned (.tuple #[P0 bm,.agg #[S0,V0 0]])∧B3 w w'∧RefI w.heap.size bm p k c (Je t u v x (Z.map Prod.fst) k) w')):=by
 have k3:k≤14400:=by omega
 have j3:=Ci hr
 have m8:=F1_le (Z.map Prod.fst)
 have l4:(Z.map Prod.fst).length=n:=by rw[List.length_map];exact hZ
 have m1:=hk.devs.few
 have hx:x≤65536:=by have:=hk.hdata;omega
 have m2:=Sl.len (hP.rowN hZ)
 obtain⟨nm,j2⟩:∃ y,Kk x (Z.map Prod.fst)=y:=⟨_,rfl⟩
 have l1:=hr
 rw[j2] at l1
 refine zin 74 Tryz.func9 ?_
 refine xa 2 [V0 t,V0 u,V0 v,V0 (x:Int),.slice p n c] 24 fun b1 W1 n1=>?_
 refine xa 1 [S0,V0 0] 35 fun b2 W2 n2=>?_
 have k1:=n1.blk.below n2.below
 refine xlv 5 k1.rp ?_
 have hB:=bln n1.below n2.below
 refine xr 0 (args:=#[.agg #[V0 t,V0 u,V0 v,V0 (x:Int),.slice p n c]]) (Vx p c n t u v (x:Int) Z _ hZ (hP.below hB)) fun W3 g5=>?_
 refine xk 3 (show(((Xr t u v (x:Int) (Z.map Prod.fst)) != (0:Int)):Bool)=false from(by rw[Ks.2 hk];rfl)) ?_
 refine xgk 8 [21,22] (show(decide ((k:Int)<(0:Int)):Bool)=false from decide_eq_false (by omega)) ?_
 refine xk 5 (show(decide ((k:Int)>(14400:Int)):Bool)=false from decide_eq_false (by omega)) ?_
 have f5:=k1.below g5
 refine xlv 6 f5.rp ?_
 have d4:=bln hB g5
 refine xr 0 (args:=#[.agg #[V0 t,V0 u,V0 v,V0 (x:Int),.slice p n c]]) (by have q:=Rm p c n x t u v Z _ hZ (hP.below d4) hk;rw[j2] at q;exact q) fun W5 f6=>?_
 refine xk 3 (show(decide ((k:Int)<(nm:Int)):Bool)=false from decide_eq_false (by omega)) ?_
 have e0:=bln d4 f6
 have l8:=e0.size
 refine xc 5 (args:=#[V0 (k:Int)]) (Zc4 k _ k3) ?_
 rintro _ W6 ⟨_,rfl,g0,bm,pI,cI,rfl,gI,hJ⟩
 replace hJ:=hJ.mono l8
 have d8:=bln e0 g0
 have l0:=d8.size
 refine xc 10 (args:=#[P0 bm,V0 1]) (ref_NewN bm pI k cI (List.replicate (k*256) (0:UInt8)) w.heap.size (1:Int) _ hJ ⟨by decide,by omega⟩) ?_
 rintro _ W7 ⟨bc,pg,cg,rfl,e5,l3⟩
 have hR:Mw w.heap.size bc bm pg (k-1) cg (Xc (Jd ((Z.map Prod.fst).take 0))) _:=⟨_,_,_,l3.mono l0⟩
 have f8:=hR.nums
 refine xa 3 [S0,V0 0] 35 fun b8 W8 n8=>?_
 have k2:=(((n2.blk.below g5).below f6).below g0).below e5
 have f2:=n8.ne k2
 have f1:=bln d8 e5
 have g8:=n8.ge f1
 refine xsv 1 n8.blk [S0,V0 0] fun W9 u9 k9=>?_
 have e6:=u9.own2 (Zb f8 n8.below) n8.blk (by decide)
 have i5:=(hR.below n8.below).only (Zd.of_upd (T:=[35]) u9 n8.blk (by decide)) (by decide)
 have i9:=((hJ.below e5).below n8.below).only (Zd.of_upd (T:=[35]) u9 n8.blk (by decide)) (by decide)
 have i3:=u9.below (bln f1 n8.below) g8
 have hO:=(Zd.upd_new (((((((show Zd [169,9,3,123] w _ from(Zd.of_below n1.below)).trans (Zd.of_below n2.below)).trans (Zd.of_below g5)).trans (Zd.of_below f6)).trans (Zd.of_below g0)).trans (Zd.of_below e5)).trans (Zd.of_below n8.below)) u9 g8)
 have i4:=u9.blkT ((((f5.below f6).below g0).below e5).below n8.below) n8.blk (by decide)
 have h5:=u9.blk (k2.below n8.below) (Ne.symm (Ne.symm f2))
 refine zl 14 74 (fun zm k8 V=>∃ (i:Nat) (rp:O0) (rc:Nat),k8=[(1,V0 (k:Int)),(2,P0 b1),(4,.pointer none),(5,P0 b2),(6,P0 bm),(8,P0 bc),(10,.slice rp i rc),(11,V0 (i:Int))]∧zm=n-((i:Int)).toNat∧B3 w V∧Zd [169,9,3,123] w V∧Blk V b1 ([V0 t,V0 u,V0 v,V0 (x:Int),.slice p n c]) 24∧Blk V b2 ([S0,V0 0]) 35∧Blk V b8 ([S0,V0 0]) 35∧V.ownsRow w.heap.size 3 1 (.slice rp i rc) i (((List.range i).map (Ql (Z.map Prod.fst))).map nv)∧V.ownsRow w.heap.size 3 1 (.slice pg (k-1) cg) (k-1) ((Qs 1 (k-1)).map V0)∧Mw w.heap.size bc bm pg (k-1) cg (Xc (Jd ((Z.map Prod.fst).take i))) V∧RefI w.heap.size bm pI k cI (Lz (Jd ((Z.map Prod.fst).take i)) 1 (List.replicate (k*256) (0:UInt8))) V∧i≤n∧Ko (.slice rp i rc) (.slice pg (k-1) cg)) ⟨0,none,0,rfl,rfl,i3,hO,i4,h5,k9,World.ownsRow_nil _ _ _ _,e6,i5,i9,Nat.zero_le _,Ko.nil _⟩ ?_
 rintro _ _ d0 ⟨i,rp,rc,rfl,rfl,a7,e3,a2,b6,d3,j4,f8,hR,hJ,hi,d9⟩ m4 j0 n3
 refine xb 5 4 a2 ?_
 refine xid 4 ((i:Int)<(n:Int)) (fun i0=>?_) (fun i0=>?_)
 ·have hM:=hP.each i (by omega)
  have g6:=Cr (rfl:Z.map Prod.fst=(Z.map Prod.fst)) (i:=i) (by omega)
  have k0:=Ph (L:=(Z.map Prod.fst)) (i:=i) (by omega)
  rw[g6] at k0
  have k6:=hk.devs.sum
  have e1:=(hk.devs.each ((Z.map Prod.fst).getD i dvD) (Nu _ (by omega))).maps
  rw[g6] at e1
  have j9:Jd ((Z.map Prod.fst).take i)++[(2,Hp (Z.getD i zvD).1.2)]=Jd ((Z.map Prod.fst).take (i+1)):=by rw[Et (by omega),g6]
  have l7:Ns (2,Hp (Z.getD i zvD).1.2):=by rw[←g6];exact Fx hk.devs (by omega)
  have m7:=Wn (L:=(Z.map Prod.fst)) (i+1)
  refine xb 8 4 a2 ?_
  refine xx 1 _ n i 5 (hP.someN hZ (i:=i) (by omega)) ?_
  refine xl 1 ((Sts.cell (hP.below a7).row Ye zvD (k:=i) (i:=4) (by omega) rfl).2) ?_
  refine xc 0 (args:=#[.slice ((Z.getD i zvD).2.1) ((Z.getD i zvD).1.2.length) ((Z.getD i zvD).2.2)]) (Tr (Z.getD i zvD).2.1 (Z.getD i zvD).2.2 (x:Int) (Z.getD i zvD).1.2 _ (hM.below a7) e1 (by omega) (by omega)) ?_
  rintro _ m5 ⟨_,rfl,a1,ql,dl,rfl,l6⟩
  have e7:=Ze l6 a7.size
  have i2:=hR.below a1
  have h3:=hJ.below a1
  have f0:=bln a7 a1
  refine xc 0 (args:=#[P0 bc,V0 2,.slice ql ((Z.getD i zvD).1.2.length) dl]) (by have q:=Dx w.heap.size bc bm pg (k-1) cg pI k cI (List.replicate (k*256) (0:UInt8)) (Jd ((Z.map Prod.fst).take i)) 2 ql dl (Z.getD i zvD).1.2.length (Hp (Z.getD i zvD).1.2) _ (by rw[Qr]) i2 h3 l7 (by rw[j9];omega) (by omega) (fun W _ h2=>Zf (Zi e7 h2 (by decide))) f0.size;rw[j9] at q;exact q) ?_
  rintro _ m3 ⟨rfl,h7,a9,hR,hJ⟩
  refine xa 3 [S0,V0 0] 35 fun n7 o0 a3=>?_
  have a6:=(b6.below a1).only a9 (by decide)
  have d1:=a3.ne a6
  have a4:=(d3.below a1).only a9 (by decide)
  have c9:=a3.ne a4
  have e2:=f0.trans h7
  have j1:=a3.ge e2
  refine xsv 1 a3.blk [S0,V0 0] fun o1 c3 n5=>?_
  refine xbs 5 1 [V0 (↑(Xc (Jd ((Z.map Prod.fst).take (i+1)))):Int)] 3 fun m0 n9 b0=>?_
  have d7:=c3.below (bln e2 a3.below) j1
  have m6:=b0.ge d7
  have c4:=c3.own2 (Zb (Zi (Zb f8 a1) a9 (by decide)) a3.below) a3.blk (by decide)
  have f9:=Zr c4 b0
  have c6:=c3.own2 (Zb (Zi (Zb j4 a1) a9 (by decide)) a3.below) a3.blk (by decide)
  have f7:=Zr c6 b0
  have g9:=d9
  have a0:=Zb c6 b0.below
  have e8:=bln d7 b0.below
  refine xbi 0 fun _ _ _ _ zJ zQ zo zx zy zK=>Qh (b:=m0) (c:=1) (m:=1) (news:=[V0 (↑(Xc (Jd ((Z.map Prod.fst).take (i+1)))):Int)]) (V0 0) 1 8 (i+1) ((((List.range (i+1)).map (Ql (Z.map Prod.fst))).map nv)) zo Tryz.underlying33 (by kernel_rfl) rfl (by decide) zx a0 zy b0.blk rfl (by simp[Value.oneCell']) (by unfold maxLen;omega) (by omega) e8.size (by rfl) (root_row) fun l2 k4 n4 l5 a8 i1 h8=>?_
  have c8:=Zb c4 b0.below
  have c2:=d9.row c8 a8
  replace d9:=(d9.grow c8 h8)
  have d2:=c2
  refine zK _ _ ?_
  refine xwm 6 ((i:Int)+1) (↑(i+1):Int) ?_
  have e9:=e8.trans i1
  have i7:=(Zd.grown_new ((Zd.upd_new (((e3.trans (Zd.of_below a1)).trans (a9.wide (by decide))).trans (Zd.of_below a3.below)) c3 j1).trans (Zd.of_below b0.below)) a8 a0)
  have c0:=((c3.blkT (((a2.below a1).only a9 (by decide)).below a3.below) a3.blk (by decide)).below b0.below).grown a8 a0 (by decide)
  have b9:=((c3.blk (a6.below a3.below) (Ne.symm (Ne.symm d1))).below b0.below).grown a8 a0 (by decide)
  have c1:=((c3.blk (a4.below a3.below) (Ne.symm (Ne.symm c9))).below b0.below).grown a8 a0 (by decide)
  have h9:=(((hR.below a3.below).only (Zd.of_upd (T:=[35]) c3 a3.blk (by decide)) (by decide)).below b0.below).grown g9 a8 a0
  have g7:=(((hJ.below a3.below).only (Zd.of_upd (T:=[35]) c3 a3.blk (by decide)) (by decide)).below b0.below).only (Zd.of_grown (T:=[3]) a8 a0 (by decide)) (by decide)
  exact ze 2 (j0 _ _ _ ⟨i+1,_,_,rfl,rfl,e9,i7,c0,b9,c1,l5,d2,h9,g7,by omega,d9⟩ (by omega))
 have h1:i=n:=by omega
 refine xv1 6 10 (show(.slice rp i rc:Value)=.slice rp n rc from by rw[h1]) ?_
 refine xd 0 (.t w.heap.size [169,9,3,123]) ?_
 have b4:=a2.below (Za d0)
 refine xlvt (.e [0,1] 2) (.t w.heap.size [169,9,3,123]) (fun V hV=>(b4.only hV.2 (by decide)).rp) ?_
 have b5:=Zb f8 (Za d0)
 refine ymk (.o [3,4] 5) (.t w.heap.size [169,9,3,123]) fun _ _ _ _ zJ zQ zo zx zy zK=>Kn k (V0 0) 1 8 ((Yd 0 k).map V0) zo zx zy Tryz.underlying33 (by kernel_rfl) rfl (by omega) (by omega) ((Io k)) fun h0 m9 b3=>?_
 have c5:=bln a7 (Za d0)
 have l9:=b3.ge c5
 have g1:=Zr b5 b3
 have c7:=Zb j4 (Za d0)
 have g3:=Zr c7 b3
 refine zK _ _ (SF.of_below _ b3.below) ?_
 have f4:=Zb c7 b3.below
 have j8:=Zb b5 b3.below
 have k5:=Zw (size:=1) (n:=k) b3.blk l9 (by rw[List.length_map,Xf,Nat.mul_one]) (by unfold maxLen;omega)
 have h4:=(hR.below (Za d0)).below b3.below
 have h6:=(hJ.below (Za d0)).below b3.below
 have i6:=Zgo (g:=h0) b5 (by have:=b3.at_;omega)
 have j5:=h4
 have j6:=h6
 have e4:=f4
 rw[h1,take_devs _ rfl l4] at j5 j6
 rw[h1] at e4
 have b7:=bln c5 b3.below
 refine yc (.o [] 6) (args:=#[P0 bm,P0 bc,.agg #[V0 t,V0 u,V0 v,V0 (x:Int),.slice p n c],.slice rp n rc,.slice (S1 h0) k k]) (.t w.heap.size [169,9,3,123]) (by have q:=Zes w.heap.size bc bm pg (k-1) cg pI k cI h0 p c n x t u v Z (Z.map Prod.fst) rp rc _ hZ rfl hk (fun W h=>hP.below (b7.trans h)) rfl j5 j6 e4 k5 i6 hr hk3 b7.size;exact q) ?_
 rintro _ n6 ⟨rfl,f3,d6,hI⟩
 refine⟨(Ki f3 d6),?_⟩
 have a5:=((b6.below (Za d0)).below b3.below).only d6 (by decide)
 refine xsv 7 a5 [S0,V0 0] fun n0 j7 k7=>?_
 have g2:=n2.ge n1.below
 have i8:=hI.only (Zd.of_upd (T:=[35]) j7 a5 (by decide)) (by decide)
 have d5:=j7.below (b7.trans f3) g2
 exact xec 3 k7 (.tuple #[P0 bm,.agg #[S0,V0 0]]) ⟨_,_,_,rfl,d5,i8⟩
theorem law18_Few(p:O0)(c n:Nat)(t u v x:Int)(Z:List Zv)(w:World)(hZ:Z.length=n)(hP:DevsR w p c Z) :
 C0 6 #[.agg #[V0 t,V0 u,V0 v,V0 x,.slice p n c]] w ((fun e w'=>(e=.returned (V0 0)∧B3 w w')∨(e=.returned (V0 1)∧B3 w w'))):=by
 have b0:=Sl.len (hP.rowN hZ)
 refine zin 33 Tryz.func6 ?_
 refine xa 2 [V0 t,V0 u,V0 v,V0 x,.slice p n c] 24 fun b1 W1 n1=>?_
 refine zl 15 33 (fun zm a6 V=>∃ (i:Nat),a6=[(1,P0 b1),(2,V0 0),(3,V0 (IntKind.i64.wrap (↑(Km ((Z.map Prod.fst).take i)):Int))),(4,V0 (i:Int))]∧zm=n-((i:Int)).toNat∧B3 w V∧Blk V b1 ([V0 t,V0 u,V0 v,V0 x,.slice p n c]) 24∧i≤n) ⟨0,rfl,rfl,n1.below,n1.blk,Nat.zero_le _⟩ ?_
 rintro _ _ W2 ⟨i,rfl,rfl,a0,a1,hi⟩ J2 a9 r2
 refine xb 5 4 a1 ?_
 refine xg 3 [9,10] (decide ((i:Int)<(n:Int))) (fun a2=>?_) (fun a2=>?_)
 ·have a2:=of_decide_eq_true a2
  refine xid 5 ((i:Int)<(201:Int)) (fun a5=>?_) (fun a5=>?_)
  ·refine xb 7 4 a1 ?_
   refine xx 1 _ n i 5 (hP.someN hZ (i:=i) (by omega)) ?_
   refine xl 1 ((Sts.cell (hP.below a0).row Ye zvD (k:=i) (i:=4) (by omega) rfl).2) ?_
   refine xwm 8 ((i:Int)+1) (↑(i+1):Int) ?_
   refine xv1 2 3 (show(V0 (IntKind.i64.wrap ((IntKind.i64.wrap (↑(Km ((Z.map Prod.fst).take i)):Int))+(↑((Z.getD i zvD).1.2.length):Int))):Value)=V0 (IntKind.i64.wrap (↑(Km ((Z.map Prod.fst).take (i+1))):Int)) from congrArg V0 ((Sz _ _).trans (congrArg IntKind.i64.wrap (by have:=Gl (Z:=Z) (i:=i) (by omega);omega)))) ?_
   exact ze 0 (a9 _ _ _ ⟨i+1,rfl,rfl,a0,a1,by omega⟩ (by omega))
  refine xb 9 4 a1 ?_
  refine xg 3 [28,29] (decide ((n:Int)≤(200:Int))) (fun a3=>?_) (fun a3=>?_)
  ·have a3:=of_decide_eq_true a3
   refine xid 5 ((IntKind.i64.wrap (↑(Km ((Z.map Prod.fst).take i)):Int))≤(2000:Int)) (fun a7=>?_) (fun a7=>?_)
   ·exact xe 7 (V0 1) (.inr ⟨rfl,a0⟩)
   exact xe 8 (V0 0) (.inl ⟨rfl,a0⟩)
  have a3:=of_decide_eq_false a3
  exact xe 14 (V0 0) (.inl ⟨rfl,a0⟩)
 have a2:=of_decide_eq_false a2
 refine xb 15 4 a1 ?_
 refine xg 3 [28,29] (decide ((n:Int)≤(200:Int))) (fun a4=>?_) (fun a4=>?_)
 ·have a4:=of_decide_eq_true a4
  refine xid 5 ((IntKind.i64.wrap (↑(Km ((Z.map Prod.fst).take i)):Int))≤(2000:Int)) (fun a8=>?_) (fun a8=>?_)
  ·exact xe 7 (V0 1) (.inr ⟨rfl,a0⟩)
  exact xe 8 (V0 0) (.inl ⟨rfl,a0⟩)
 have a4:=of_decide_eq_false a4
 exact xe 14 (V0 0) (.inl ⟨rfl,a0⟩)
def Wc(t u v x m:Int)(L:List Dv):Int:=if Xr t u v x L≠0 then Xr t u v x L else if m<0∨14400<m then 2 else if m.toNat<Kk x.toNat L then 14 else 0
theorem Zgn(p:O0)(c n:Nat)(t u v x m:Int)(Z:List Zv)(w:World)(hZ:Z.length=n)(hP:DevsR w p c Z)(hm:m≤3000∨14400<m):C0 8 #[.agg #[V0 t,V0 u,V0 v,V0 x,.slice p n c],V0 m] w (fun e w'=>(Wc t u v x m (Z.map Prod.fst)≠0∧LayE (Wc t u v x m (Z.map Prod.fst)) w e w')∨(Wc t u v x m (Z.map Prod.fst)=0∧LayO (Je t u v x.toNat (Z.map Prod.fst) m.toNat) m.toNat w e w')):=by
 by_cases h1:Xr t u v x (Z.map Prod.fst)=0
 ·have hk:=Ks.1 h1
  obtain⟨X,rfl⟩:∃ X:Nat,x=(X:Int):=⟨x.toNat,by have:=hk.hdata;omega⟩
  by_cases h2:m<0∨14400<m
  ·have e:Wc t u v (X:Int) m (Z.map Prod.fst)=2:=by unfold Wc;rw[if_neg (fun q=>q h1),if_pos h2]
   rw[e]
   exact(lay_LayR p c n t u v (X:Int) m Z w hZ hP h1 h2).mono fun _ _ q=>.inl ⟨by decide,q⟩
  ·obtain⟨k,rfl⟩:∃ k:Nat,m=(k:Int):=⟨m.toNat,by omega⟩
   by_cases h3:k<Kk X (Z.map Prod.fst)
   ·have e:Wc t u v (X:Int) (k:Int) (Z.map Prod.fst)=14:=by unfold Wc;rw[if_neg (fun q=>q h1),if_neg h2,Int.toNat_natCast,Int.toNat_natCast,if_pos h3]
    rw[e]
    exact(lay_LayN p c n X k t u v Z w hZ hP hk (by omega) h3).mono fun _ _ q=>.inl ⟨by decide,q⟩
   ·have e:Wc t u v (X:Int) (k:Int) (Z.map Prod.fst)=0:=by unfold Wc;rw[if_neg (fun q=>q h1),if_neg h2,Int.toNat_natCast,Int.toNat_natCast,if_neg h3]
    rw[e,Int.toNat_natCast,Int.toNat_natCast]
    exact(Zb0 p c n X k t u v Z w hZ hP hk (by omega) (by omega)).mono fun _ _ q=>.inr ⟨rfl,q⟩
 ·have e:Wc t u v x m (Z.map Prod.fst)=Xr t u v x (Z.map Prod.fst):=by unfold Wc;rw[if_pos h1]
  rw[e]
  exact(lay_LayC p c n t u v x m Z w hZ hP h1).mono fun _ _ q=>.inl ⟨h1,q⟩
theorem Aw(p:O0)(c n:Nat)(t u v x m:Int)(Z:List Zv)(w:World)(hZ:Z.length=n)(hP:DevsR w p c Z)(hm:m≤3000∨14400<m):C0 9 #[.agg #[V0 t,V0 u,V0 v,V0 x,.slice p n c],V0 m] w (fun e w'=>(Wc t u v x m (Z.map Prod.fst)≠0∧Ret (.tuple #[.pointer none,.agg #[S0,V0 (Wc t u v x m (Z.map Prod.fst))]]) w e w')∨(Wc t u v x m (Z.map Prod.fst)=0∧∃ bm q d,e=.returned (.tuple #[P0 bm,.agg #[S0,V0 0]])∧B3 w w'∧RefI w.heap.size bm q m.toNat d (Je t u v x.toNat (Z.map Prod.fst) m.toNat) w')):=by
 by_cases h1:Xr t u v x (Z.map Prod.fst)=0
 ·have hk:=Ks.1 h1
  obtain⟨X,rfl⟩:∃ X:Nat,x=(X:Int):=⟨x.toNat,by have:=hk.hdata;omega⟩
  by_cases h2:m<0∨14400<m
  ·have e:Wc t u v (X:Int) m (Z.map Prod.fst)=2:=by unfold Wc;rw[if_neg (fun q=>q h1),if_pos h2]
   rw[e]
   exact(Zec p c n t u v (X:Int) m Z w hZ hP h1 h2).mono fun _ _ q=>.inl ⟨by decide,q⟩
  ·obtain⟨k,rfl⟩:∃ k:Nat,m=(k:Int):=⟨m.toNat,by omega⟩
   by_cases h3:k<Kk X (Z.map Prod.fst)
   ·have e:Wc t u v (X:Int) (k:Int) (Z.map Prod.fst)=14:=by unfold Wc;rw[if_neg (fun q=>q h1),if_neg h2,Int.toNat_natCast,Int.toNat_natCast,if_pos h3]
    rw[e]
    exact(Ze7 p c n X k t u v Z w hZ hP hk (by omega) h3).mono fun _ _ q=>.inl ⟨by decide,q⟩
   ·have e:Wc t u v (X:Int) (k:Int) (Z.map Prod.fst)=0:=by unfold Wc;rw[if_neg (fun q=>q h1),if_neg h2,Int.toNat_natCast,Int.toNat_natCast,if_neg h3]
    rw[e,Int.toNat_natCast,Int.toNat_natCast]
    refine(Zeh p c n X k t u v Z w hZ hP hk (by omega) (by omega)).mono ?_
    rintro e' W ⟨bm,q,d,rfl,hb,hI⟩
    exact .inr ⟨rfl,bm,q,d,rfl,hb,hI⟩
 ·have e:Wc t u v x m (Z.map Prod.fst)=Xr t u v x (Z.map Prod.fst):=by unfold Wc;rw[if_pos h1]
  rw[e]
  exact(Zdt p c n t u v x m Z w hZ hP h1).mono fun _ _ q=>.inl ⟨h1,q⟩
theorem Rh(p:O0)(c n:Nat)(t u v x m:Int)(Z:List Zv)(w:World)(hZ:Z.length=n)(hP:DevsR w p c Z)(hm:m≤3000∨14400<m)(he:Wc t u v x m (Z.map Prod.fst)≠0):C0 9 #[.agg #[V0 t,V0 u,V0 v,V0 x,.slice p n c],V0 m] w (Ret (.tuple #[.pointer none,.agg #[S0,V0 (Wc t u v x m (Z.map Prod.fst))]]) w):=(Aw p c n t u v x m Z w hZ hP hm).mono fun e W q=>by
 rcases q with ⟨_,q⟩|⟨q,_⟩
 ·exact q
 ·exact absurd q he
theorem Ru(p:O0)(c n:Nat)(t u v x m:Int)(Z:List Zv)(w:World)(hZ:Z.length=n)(hP:DevsR w p c Z)(hm:m≤3000∨14400<m)(he:Wc t u v x m (Z.map Prod.fst)=0):C0 9 #[.agg #[V0 t,V0 u,V0 v,V0 x,.slice p n c],V0 m] w (fun e w'=>∃ bm q d,e=.returned (.tuple #[P0 bm,.agg #[S0,V0 0]])∧B3 w w'∧RefI w.heap.size bm q m.toNat d (Je t u v x.toNat (Z.map Prod.fst) m.toNat) w'):=(Aw p c n t u v x m Z w hZ hP hm).mono fun e W q=>by
 rcases q with ⟨q,_⟩|⟨_,q⟩
 ·exact absurd he q
 ·exact q
theorem Ok(p:O0)(c n:Nat)(t u v x m:Int)(Z:List Zv)(w:World)(hlv:∀ w,C0 7 #[] w (Ret (.bool true) w))(hg:Zhi w)(hZ:Z.length=n)(hP:DevsR w p c Z) :
 C0 3 #[.agg #[V0 t,V0 u,V0 v,V0 x,.slice p n c],V0 m] w (Ret (.bool true) w):=by
 refine zin 58 Tryz.func3 ?_
 refine xa 2 [V0 t,V0 u,V0 v,V0 x,.slice p n c] 24 fun b1 W1 n1=>?_
 refine xlv 6 n1.blk.rp ?_
 refine xc 0 (args:=#[.agg #[V0 t,V0 u,V0 v,V0 x,.slice p n c]]) (law18_Few p c n t u v x Z _ hZ (hP.below n1.below)) ?_
 rintro e W2 k9
 rcases k9 with ⟨rfl,c4⟩|⟨rfl,c4⟩
 ·refine xr 14 (args:=#[]) (hlv _) fun W3 k6=>?_
  have g2:=bln (bln n1.below c4) k6
  exact xe 5 (.bool true) ⟨rfl,g2⟩
 refine xg 5 [14,15] (decide (m>(400:Int))) (fun d8=>?_) (fun d8=>?_)
 ·have d8:=of_decide_eq_true d8
  refine xid 6 (m≤(14400:Int)) (fun j6=>?_) (fun j6=>?_)
  ·refine xr 2 (args:=#[]) (hlv _) fun W6 j8=>?_
   have g6:=bln (bln n1.below c4) j8
   exact xe 5 (.bool true) ⟨rfl,g6⟩
  have c8:=n1.blk.below c4
  refine xlv 4 c8.rp ?_
  have b2:=bln n1.below c4
  have k1:=b2.size
  have c7:m≤3000∨14400<m:=by omega
  refine xc 1 (args:=#[.agg #[V0 t,V0 u,V0 v,V0 x,.slice p n c],V0 m]) (Zgn p c n t u v x m Z _ hZ (hP.below b2) c7) ?_
  rintro e W7 j1
  rcases j1 with ⟨he,rfl,d7⟩|⟨he,bi,g,ci,rfl,d7,hI⟩
  ·have i4:=c8.below d7
   refine xlv 9 i4.rp ?_
   have f2:=bln b2 d7
   refine xr 1 (args:=#[.agg #[V0 t,V0 u,V0 v,V0 x,.slice p n c],V0 m]) (Rh p c n t u v x m Z _ hZ (hP.below f2) c7 he) fun W8 k0=>?_
   refine xa 3 [S0,V0 0] 35 fun b9 W9 n9=>?_
   have f0:=bln f2 k0
   have g9:=n9.ge f0
   refine xsv 1 n9.blk [S0,V0 (Wc t u v x m (Z.map Prod.fst))] fun i8 j5 j3=>?_
   refine xd 4 .z ?_
   have f5:=j3.below (Za i8)
   refine xlv (.e [0] 2) f5.rp ?_
   have f1:=bln (j5.below (bln f0 n9.below) g9) (Za i8)
   refine yc (.o [] 1) (args:=#[.iface 63 (V0 (Wc t u v x m (Z.map Prod.fst)))]) .z (Zcg (Wc t u v x m (Z.map Prod.fst)) _ _ (hg.below f1) (by rw[erT,if_neg he];exact rfl)) ?_
   rintro _ n0 ⟨e5,rfl,d2,hq⟩
   refine⟨d2,?_⟩
   refine xr (.o [] 3) (args:=#[e5,.agg #[S0,V0 (Wc t u v x m (Z.map Prod.fst))]]) (Wr [] (Wc t u v x m (Z.map Prod.fst)) e5 _ _ hq ⟨_,rfl,Me _⟩) fun l3 g1=>?_
   refine xr (.r [4,5,6,7,8,9,10,11] 15) (args:=#[]) (hlv _) fun l0 g7=>?_
   have h1:=bln (bln (bln f1 d2) g1) g7
   exact xe 5 (.bool true) ⟨rfl,h1⟩
  have i6:=c8.below d7
  refine xlv 9 i6.rp ?_
  have d3:=bln b2 d7
  refine xc 1 (args:=#[.agg #[V0 t,V0 u,V0 v,V0 x,.slice p n c],V0 m]) (Ru p c n t u v x m Z _ hZ (hP.below d3) c7 he) ?_
  rintro _ m9 ⟨bm,q5,d5,rfl,e3,hJ⟩
  refine xa 3 [S0,V0 0] 35 fun m2 n2 c5=>?_
  have e8:=bln d3 e3
  have j9:=c5.ge e8
  refine xsv 1 c5.blk [S0,V0 0] fun f9 g8 k2=>?_
  refine xd 4 .z ?_
  have d9:=k2.below (Za f9)
  refine xlv (.e [0] 2) d9.rp ?_
  have a2:=bln (g8.below (bln e8 c5.below) j9) (Za f9)
  refine yc (.o [] 1) (args:=#[.nilIface]) .z (Zcg 0 .nilIface _ (hg.below a2) rfl) ?_
  rintro _ l9 ⟨f3,rfl,a7,hq⟩
  refine⟨a7,?_⟩
  refine xr (.o [] 3) (args:=#[f3,.agg #[S0,V0 0]]) (Wr [] 0 f3 _ _ hq ⟨_,rfl,Me _⟩) fun d4 a8=>?_
  refine xd (.r [4,5,6,7,8,9,10,11] 16) .z ?_
  have b6:=((((((hI.below e3).below c5.below).only (Zd.of_upd (T:=[35]) g8 c5.blk (by decide)) (by decide)).below (Za f9)).below a7).below a8).below (Za d4)
  have a0:(Je t u v x.toNat (Z.map Prod.fst) m.toNat).length=m.toNat*256:=b6.len
  refine yc (.o [0,3] 1) (args:=#[P0 bi]) .z (Db bi _ (m.toNat*256) ci (Je t u v x.toNat (Z.map Prod.fst) m.toNat) _ b6.blk (Xp (Zf b6.row) a0) a0 (by have:=b6.hn;omega)) ?_
  rintro _ m4 ⟨_,rfl,b5,g0⟩
  have g3:=(bln (bln (bln a2 a7) a8) (Za d4)).size
  refine⟨b5,?_⟩
  have a4:=Ze g0 g3
  unfold Pe at a4
  rw[a0] at a4
  obtain⟨j0,k3,rfl⟩:=(Zf a4).slice
  refine xcv (.e [] 2) (fun _ _ _ zo zx V hV=>Yn zo zx (Xp (Zf (Zb a4 hV)) a0) a0 Tryz.underlying40 Tryz.underlying5 Tryz.underlying9) ?_
  have i5:=((((((hJ.below c5.below).only (Zd.of_upd (T:=[35]) g8 c5.blk (by decide)) (by decide)).below (Za f9)).below a7).below a8).below (Za d4)).below b5
  refine yc (.o [] 4) (args:=#[P0 bm]) .z (Bm _ bm q5 m.toNat d5 (Je t u v x.toNat (Z.map Prod.fst) m.toNat) _ i5) ?_
  rintro _ l6 ⟨_,rfl,f7,j4,j7,rfl,h5⟩
  have h6:=(bln (bln (bln (bln a2 a7) a8) (Za d4)) b5).size
  refine⟨f7,?_⟩
  have e6:=Ze h5 h6
  refine xcv (.e [] 5) (fun _ _ _ zo zx V hV=>Yn zo zx (Xp (Zf (Zb e6 hV)) a0) a0 Tryz.underlying40 Tryz.underlying5 Tryz.underlying9) ?_
  refine xgk (.b [6,7]) [54,55] (show(((⟨(Je t u v x.toNat (Z.map Prod.fst) m.toNat).toArray⟩:ByteArray).toList==(⟨(Je t u v x.toNat (Z.map Prod.fst) m.toNat).toArray⟩:ByteArray).toList):Bool)=true from by simp) ?_
  refine xr (.o [] 8) (args:=#[]) (hlv _) fun m1 i0=>?_
  have e4:=bln (bln (bln (bln (bln (bln a2 a7) a8) (Za d4)) b5) f7) i0
  exact xe (.r [9,10] 3) (.bool true) ⟨rfl,e4⟩
 have d8:=of_decide_eq_false d8
 have c3:=n1.blk.below c4
 refine xlv 11 c3.rp ?_
 have a1:=bln n1.below c4
 have k1:=a1.size
 have c7:m≤3000∨14400<m:=by omega
 refine xc 1 (args:=#[.agg #[V0 t,V0 u,V0 v,V0 x,.slice p n c],V0 m]) (Zgn p c n t u v x m Z _ hZ (hP.below a1) c7) ?_
 rintro e l2 h9
 rcases h9 with ⟨he,rfl,b0⟩|⟨he,bi,g,ci,rfl,b0,hI⟩
 ·have h3:=c3.below b0
  refine xlv 9 h3.rp ?_
  have b7:=bln a1 b0
  refine xr 1 (args:=#[.agg #[V0 t,V0 u,V0 v,V0 x,.slice p n c],V0 m]) (Rh p c n t u v x m Z _ hZ (hP.below b7) c7 he) fun m6 h7=>?_
  refine xa 3 [S0,V0 0] 35 fun m0 m3 h2=>?_
  have c1:=bln b7 h7
  have k8:=h2.ge c1
  refine xsv 1 h2.blk [S0,V0 (Wc t u v x m (Z.map Prod.fst))] fun i9 k7 j2=>?_
  refine xd 4 .z ?_
  have e7:=j2.below (Za i9)
  refine xlv (.e [0] 2) e7.rp ?_
  have b8:=bln (k7.below (bln c1 h2.below) k8) (Za i9)
  refine yc (.o [] 1) (args:=#[.iface 63 (V0 (Wc t u v x m (Z.map Prod.fst)))]) .z (Zcg (Wc t u v x m (Z.map Prod.fst)) _ _ (hg.below b8) (by rw[erT,if_neg he];exact rfl)) ?_
  rintro _ m7 ⟨d0,rfl,f6,hq⟩
  refine⟨f6,?_⟩
  refine xr (.o [] 3) (args:=#[d0,.agg #[S0,V0 (Wc t u v x m (Z.map Prod.fst))]]) (Wr [] (Wc t u v x m (Z.map Prod.fst)) d0 _ _ hq ⟨_,rfl,Me _⟩) fun l5 i3=>?_
  refine xr (.r [4,5,6,7,8,9,10,11] 15) (args:=#[]) (hlv _) fun m8 h8=>?_
  have e2:=bln (bln (bln b8 f6) i3) h8
  exact xe 5 (.bool true) ⟨rfl,e2⟩
 have i7:=c3.below b0
 refine xlv 9 i7.rp ?_
 have c2:=bln a1 b0
 refine xc 1 (args:=#[.agg #[V0 t,V0 u,V0 v,V0 x,.slice p n c],V0 m]) (Ru p c n t u v x m Z _ hZ (hP.below c2) c7 he) ?_
 rintro _ l4 ⟨bm,q5,d5,rfl,d6,hJ⟩
 refine xa 3 [S0,V0 0] 35 fun n3 l1 c6=>?_
 have c0:=bln c2 d6
 have k5:=c6.ge c0
 refine xsv 1 c6.blk [S0,V0 0] fun f8 h4 k4=>?_
 refine xd 4 .z ?_
 have d1:=k4.below (Za f8)
 refine xlv (.e [0] 2) d1.rp ?_
 have a5:=bln (h4.below (bln c0 c6.below) k5) (Za f8)
 refine yc (.o [] 1) (args:=#[.nilIface]) .z (Zcg 0 .nilIface _ (hg.below a5) rfl) ?_
 rintro _ n4 ⟨e1,rfl,a6,hq⟩
 refine⟨a6,?_⟩
 refine xr (.o [] 3) (args:=#[e1,.agg #[S0,V0 0]]) (Wr [] 0 e1 _ _ hq ⟨_,rfl,Me _⟩) fun e0 a9=>?_
 refine xd (.r [4,5,6,7,8,9,10,11] 16) .z ?_
 have b3:=((((((hI.below d6).below c6.below).only (Zd.of_upd (T:=[35]) h4 c6.blk (by decide)) (by decide)).below (Za f8)).below a6).below a9).below (Za e0)
 have a0:(Je t u v x.toNat (Z.map Prod.fst) m.toNat).length=m.toNat*256:=b3.len
 refine yc (.o [0,3] 1) (args:=#[P0 bi]) .z (Db bi _ (m.toNat*256) ci (Je t u v x.toNat (Z.map Prod.fst) m.toNat) _ b3.blk (Xp (Zf b3.row) a0) a0 (by have:=b3.hn;omega)) ?_
 rintro _ l7 ⟨_,rfl,b4,g0⟩
 have i2:=(bln (bln (bln a5 a6) a9) (Za e0)).size
 refine⟨b4,?_⟩
 have a3:=Ze g0 i2
 unfold Pe at a3
 rw[a0] at a3
 obtain⟨j0,k3,rfl⟩:=(Zf a3).slice
 refine xcv (.e [] 2) (fun _ _ _ zo zx V hV=>Yn zo zx (Xp (Zf (Zb a3 hV)) a0) a0 Tryz.underlying40 Tryz.underlying5 Tryz.underlying9) ?_
 have g5:=((((((hJ.below c6.below).only (Zd.of_upd (T:=[35]) h4 c6.blk (by decide)) (by decide)).below (Za f8)).below a6).below a9).below (Za e0)).below b4
 refine yc (.o [] 4) (args:=#[P0 bm]) .z (Bm _ bm q5 m.toNat d5 (Je t u v x.toNat (Z.map Prod.fst) m.toNat) _ g5) ?_
 rintro _ l8 ⟨_,rfl,e9,j4,j7,rfl,h5⟩
 have i1:=(bln (bln (bln (bln a5 a6) a9) (Za e0)) b4).size
 refine⟨e9,?_⟩
 have c9:=Ze h5 i1
 refine xcv (.e [] 5) (fun _ _ _ zo zx V hV=>Yn zo zx (Xp (Zf (Zb c9 hV)) a0) a0 Tryz.underlying40 Tryz.underlying5 Tryz.underlying9) ?_
 refine xgk (.b [6,7]) [54,55] (show(((⟨(Je t u v x.toNat (Z.map Prod.fst) m.toNat).toArray⟩:ByteArray).toList==(⟨(Je t u v x.toNat (Z.map Prod.fst) m.toNat).toArray⟩:ByteArray).toList):Bool)=true from by simp) ?_
 refine xr (.o [] 8) (args:=#[]) (hlv _) fun m5 h0=>?_
 have f4:=bln (bln (bln (bln (bln (bln a5 a6) a9) (Za e0)) b4) e9) h0
 exact xe (.r [9,10] 3) (.bool true) ⟨rfl,f4⟩
theorem entsNil(w:Nat):EntsOk w []:=⟨fun i hi=>absurd hi (by simp),fun j hj=>absurd hj (by simp),fun i hi=>absurd hi (by simp)⟩
def leaf0(t:Int)(q:Nat):Bl:=Xw 2 ((q:Nat):Int) (Zed t true (Qq t true) (Pj t true) (Zj [] (Qq t true) 0))
theorem ov0(t:Int):ovN 0 (Qq t true)=1:=by
 have hp:=Vf 0 (Qq t true)
 have hm:=(Yt t true).1
 have h1:ovN 0 (Qq t true)≤1:=by
  unfold ovN
  have:(0+Qq t true-1)/Qq t true=0:=Nat.div_eq_of_lt (by omega)
  omega
 omega
theorem Zgy(t:Int):Zy t 0=1:=by
 unfold Zy Qw
 rw[ov0,Kq (by decide)];rfl
theorem tree0(t:Int)(q:Nat)(bs:Bl):Yo t [] q bs=((q:Int),Vc bs (q*256) (leaf0 t q)):=by
 unfold Yo
 rw[show([]:List Ent).length=0 from rfl,ov0,Pd (by rw[Xh];exact Nat.le_refl _)]
 rfl
theorem nod0_ok{t:Int}(h1:1≤t)(h2:t≤5):NodeOk t true (Zj [] (Qq t true) 0).length (Qq t true) (Pj t true) (Xm (Zj [] (Qq t true) 0)) (Yg (Zj [] (Qq t true) 0)) :=
 Pf (l:=[]) (entsNil _) h1 h2 rfl rfl (fun h=>by cases h) (i:=0) (by rw[show([]:List Ent).length=0 from rfl,ov0];decide)
theorem raw_lt8(l:Bl)(k:Nat){w:Nat}(hw:w≤4):Vt l k w<9223372036854775808:=by
 have h:=Sy l w k
 have h2:256 ^ w≤256 ^ 4:=Nat.pow_le_pow_right (by decide) hw
 have h3:(256:Nat) ^ 4=4294967296:=rfl
 omega
theorem Zfj(a:O0)(c k m:Nat)(l:Bl)(w:World)(hm:m=1∨m=2∨m=4∨m=8)(hm4:m≤4)(hk:k+m≤l.length)(hl:l.length≤100000000)(h:Bys w (.slice a l.length c) l) :
 C0 66 #[.slice a l.length c,V0 (k:Int),V0 (m:Int)] w (Ret (V0 (↑(Vt l k m):Int)) w):=by
 refine zin 17 Tryz.func66 ?_
 refine xr 10 (args:=#[.slice a l.length c,V0 (k:Int),V0 (m:Int)]) (Get_ok a c k m l _ hm hk hl (h.below (B4 w)) (raw_lt8 l k hm4)) fun W1 a0=>?_
 exact xe 14 (V0 (↑(Vt l k m):Int)) ⟨rfl,a0⟩
theorem Dg(a:O0)(c k m:Nat)(ki mi:Int)(l:Bl)(w:World)(hki:ki=(k:Int))(hmi:mi=(m:Int))(hl:l.length=256)(hm:m=2∨m=4)(hk:k+m≤256)(h:Bys w (.slice a 256 c) l):C0 66 #[.slice a 256 c,V0 ki,V0 mi] w (Ret (V0 (↑(Vt l k m):Int)) w):=by
 subst hki hmi
 have q:=Zfj a c k m l w (by omega) (by omega) (by omega) (by omega) (by rw[hl];exact h)
 rw[hl] at q
 exact q
theorem Ze3(kind no:Int)(a:O0)(c:Nat)(l:Bl)(w:World)(hl:l.length=256)(h:Bys w (.slice a 256 c) l)(ho:Hr kind no l=0):C0 67 #[.slice a 256 c,V0 kind,V0 no] w (Qn (fun w' r=>∃ p d,r=.tuple #[.slice p 244 d,V0 0]) w):=by
 have q:=Zf4 kind no a c l w (by rw[hl];exact h)
 rw[hl] at q
 refine q.mono ?_
 rintro e W (⟨hx,_⟩|⟨_,p,d,rfl,hb,_⟩)
 ·exact absurd ho hx
 ·exact⟨_,rfl,hb,p,d,rfl⟩
theorem Zdw{kind no:Int}{li:Bl}(h1:1≤kind)(h2:kind≤4)(h3:0≤no)(h4:no<14400)(hl:li.length≤244):(Vt (Xw kind no li) 0 4:Int)=no∧(Vt (Xw kind no li) 4 2:Int)=kind:=by
 have l1:=Js hl
 have l2:=Hc (no:=no) hl
 have l3:=Vh (kind:=kind) (no:=no) hl
 constructor
 ·unfold Xw
  rw[Xt (by rw[Zh];omega) (.inl (by omega))]
  unfold Hv
  rw[Xt (by rw[Zh];omega) (.inl (by omega))]
  unfold Sr
  exact Ma (by omega) (by omega) (by omega)
 ·unfold Xw
  rw[Xt (by rw[Zh];omega) (.inl (by omega))]
  unfold Hv
  exact Ma (by omega) (by omega) (by omega)
theorem Zdd(a:O0)(c:Nat)(l:Bl)(w:World)(hl:l.length=256)(h:Bys w (.slice a 256 c) l)(ho:Hr (↑(Vt l 4 2):Int) (↑(Vt l 0 4):Int) l=0) :
 C0 27 #[.slice a 256 c] w (Ret (.tuple #[V0 (↑(Vt l 4 2):Int),V0 (↑(Vt l 0 4):Int),.bool true]) w):=by
 refine zin 27 Tryz.func27 ?_
 refine xr 21 (args:=#[.slice a 256 c,V0 4,V0 2]) (Dg a c 4 2 4 2 l _ rfl rfl hl (by decide) (by decide) (h.below (B4 w))) fun W1 a2=>?_
 refine xr 1 (args:=#[.slice a 256 c,V0 0,V0 4]) (Dg a c 0 4 0 4 l _ rfl rfl hl (by decide) (by decide) (h.below a2)) fun W2 a3=>?_
 have a0:=bln a2 a3
 refine xc 10 (args:=#[.slice a 256 c,V0 (↑(Vt l 4 2):Int),V0 (↑(Vt l 0 4):Int)]) (Ze3 (↑(Vt l 4 2):Int) (↑(Vt l 0 4):Int) a c l _ hl (h.below a0) ho) ?_
 rintro _ W3 ⟨_,rfl,a4,p5,c5,rfl⟩
 have a1:=bln a0 a4
 exact xe 26 (.tuple #[V0 (↑(Vt l 4 2):Int),V0 (↑(Vt l 0 4):Int),.bool true]) ⟨rfl,a1⟩
def Hl(l:Bl)(i:Nat):Prop:=∃ kind li,1≤kind∧kind≤4∧li.length≤244∧Ct l i=Xw kind (i:Int) li
theorem Wv{l:Bl}{k:Nat}{kind:Int}{li:Bl}{n:Nat}(hl:l.length=n*256)(hk:k<n)(h1:1≤kind)(h2:kind≤4)(h3:li.length≤244) :
 (Vc l (k*256) (Xw kind (k:Int) li)).length=n*256∧Hl (Vc l (k*256) (Xw kind (k:Int) li)) k∧∀ j,j<n→Hl l j→Hl (Vc l (k*256) (Xw kind (k:Int) li)) j:=by
 have hs:(Xw kind (k:Int) li).length=256:=Uv h3
 have hd:l.length/256=n:=by omega
 have h0:Hl (Vc l (k*256) (Xw kind (k:Int) li)) k:=⟨kind,li,h1,h2,h3,Zb9 hs (by omega)⟩
 refine⟨by rw[Vp (by rw[hs,hl];omega),hl],h0,fun j hj q=>?_⟩
 by_cases e:j=k
 ·subst e;exact h0
 ·obtain⟨a,b,c,d,f,g⟩:=q
  exact⟨a,b,c,d,f,(Pr hs (by omega) e (by omega)).trans g⟩
theorem Jt{l:Bl}{k n:Nat}{t:Int}(hl:l.length=n*256)(hk:k<n)(h1:1≤t)(h2:t≤5):(Yo t [] k l).2.length=n*256∧Hl (Yo t [] k l).2 k∧∀ j,j<n→Hl l j→Hl (Yo t [] k l).2 j:=by
 rw[tree0]
 exact Wv hl hk (by decide) (by decide) (by rw[Wz (nod0_ok h1 h2)];decide)
abbrev Z26:Bl:=List.replicate (8*256) 0
theorem lay26_1:Da [] 8=(Yo 3 [] 2 (Yo 1 [] 1 Z26).2).2:=by
 show Lz [(1,[]),(3,[])] 1 Z26=_
 have e:By ((1:Int),([]:List Ent))=1:=Zgy 1
 rw[Lz,Lz,Lz,e]
theorem lay26_n:Xc (F2 [])=2:=by
 show Zy 1 0+(Zy 3 0+0)=2
 rw[Zgy,Zgy]
theorem lay26_D:(Qp 0 [] 8).2.2=(Yo 5 [] 4 (Yo 4 [] 3 (Da [] 8)).2).2:=by
 unfold Qp
 rw[lay26_n]
 show(Yo 5 [] (1+2+0+Zy 4 0) (Yo 4 [] (1+2+0) (Da [] 8)).2).2=_
 rw[Zgy]
theorem lay26_K:Hd 0 []=4:=by
 unfold Hd
 rw[lay26_n]
 show 2+(0+Zy 4 0+Zy 5 0)=4
 rw[Zgy,Zgy]
theorem lay26_s:∃ b1 b2,b1.length≤244∧b2.length≤244∧(Hh 0 [] 8).2.2=Vc (Vc (Yo 5 [] 5 (Qp 0 [] 8).2.2).2 (6*256) (Xw 3 ((6:Nat):Int) b1)) (7*256) (Xw 4 ((7:Nat):Int) b2):=by
 have hb:bmN (Ym (Yd (4+1) 8) (1+4) (Xo (Yd (4+1) 8))).length=1:=by rw[Qe,Xf];rfl
 unfold Hh
 rw[lay26_K]
 unfold Ca
 rw[hb,Lk,List.length_nil,Zgy]
 refine⟨Ia ((Zl (Zg (Ym (Yd (4+1) 8) (1+4) (Xo (Yd (4+1) 8)))) 1).getD 0 []),Rk (Rs (Zl (Zg (Ym (Yd (4+1) 8) (1+4) (Xo (Yd (4+1) 8)))) 1) (1+4+1) 1),by unfold Ia;rw[Kt];decide,by rw[Cf (by rw[Wh];decide)];decide,rfl⟩
theorem Lr:(Je 0 0 1 0 [] 8).length=8*256∧∀ i,i<8→Hl (Je 0 0 1 0 [] 8) i:=by
 have h1:=Jt (l:=Z26) (k:=1) (n:=8) (t:=1) List.length_replicate (by decide) (by decide) (by decide)
 have h2:=Jt (k:=2) (n:=8) (t:=3) h1.1 (by decide) (by decide) (by decide)
 rw[←lay26_1] at h2
 have h3:=Jt (k:=3) (n:=8) (t:=4) h2.1 (by decide) (by decide) (by decide)
 have h4:=Jt (k:=4) (n:=8) (t:=5) h3.1 (by decide) (by decide) (by decide)
 rw[←lay26_D] at h4
 have h5:=Jt (k:=5) (n:=8) (t:=5) h4.1 (by decide) (by decide) (by decide)
 obtain⟨b1,b2,l1,l2,e⟩:=lay26_s
 have h6:=Wv (k:=6) (n:=8) (kind:=3) h5.1 (by decide) (by decide) (by decide) l1
 have h7:=Wv (k:=7) (n:=8) (kind:=4) h6.1 (by decide) (by decide) (by decide) l2
 rw[←e] at h7
 have h0:=Wv (k:=0) (n:=8) (kind:=1) h7.1 (by decide) (by decide) (by decide) (show(Ao (Od 0 0 1 0 [] 8)).length≤244 by rw[Jc];decide)
 refine⟨h0.1,fun i hi=>?_⟩
 have a0:=fun j (hj:j<8) q=>h0.2.2 j hj (h7.2.2 j hj (h6.2.2 j hj (h5.2.2 j hj q)))
 obtain rfl|rfl|rfl|rfl|rfl|rfl|rfl|rfl:i=0∨i=1∨i=2∨i=3∨i=4∨i=5∨i=6∨i=7:=by omega
 ·exact h0.2.1
 ·exact a0 1 hi (h4.2.2 1 hi (h3.2.2 1 hi (h2.2.2 1 hi h1.2.1)))
 ·exact a0 2 hi (h4.2.2 2 hi (h3.2.2 2 hi h2.2.1))
 ·exact a0 3 hi (h4.2.2 3 hi h3.2.1)
 ·exact a0 4 hi h4.2.1
 ·exact h0.2.2 5 hi (h7.2.2 5 hi (h6.2.2 5 hi h5.2.1))
 ·exact h0.2.2 6 hi (h7.2.2 6 hi h6.2.1)
 ·exact h0.2.2 7 hi h7.2.1
theorem Zdq:Kk 0 []=8:=by
 unfold Kk Uo Wi Qu
 rw[show([]:List Dv).length=0 from rfl,Zgy,Zgy,show bmN 0=0 from rfl,Zgy,show Za2 0 []=0 from rfl,Zgy]
 rfl
theorem lay26_Lay(w:World):C0 8 #[.agg #[V0 0,V0 0,V0 1,V0 0,S0],V0 8] w (LayO (Je 0 0 1 0 [] 8) 8 w) :=
 Zb0 none 0 0 0 8 0 0 1 [] w rfl ⟨.inl ⟨none,0,rfl,rfl,rfl⟩,fun i hi=>absurd hi (Nat.not_lt_zero _)⟩ ⟨by decide,by decide,by decide,by decide,DevsOk.nil _⟩ (by decide) (by rw[show([]:List Zv).map Prod.fst=[] from rfl,Zdq];exact Nat.le_refl _)
theorem which26(a:O0)(c i:Nat)(l:Bl)(w:World)(hi:i<8)(hl:l.length=256)(hs:∃ kind li,1≤kind∧kind≤4∧li.length≤244∧l=Xw kind (i:Int) li)(h:Bys w (.slice a 256 c) l):C0 27 #[.slice a 256 c] w (Qn (fun w' r=>∃ kind,r=.tuple #[V0 kind,V0 (i:Int),.bool true]) w):=by
 obtain⟨kind,li,h1,h2,h3,e⟩:=hs
 have hr:=Zdw (kind:=kind) (no:=(i:Int)) (li:=li) h1 h2 (by omega) (by omega) h3
 rw[←e] at hr
 have ho:Hr (↑(Vt l 4 2):Int) (↑(Vt l 0 4):Int) l=0:=by rw[hr.1,hr.2,e];exact Zgz h1 h2 (by omega) (by omega) h3
 refine(Zdd a c l w hl h ho).mono ?_
 rintro e' W ⟨rfl,hb⟩
 exact⟨_,rfl,hb,_,by rw[hr.1]⟩
theorem lives26(w:World) :
 C0 7 #[] w (Ret (.bool true) w):=by
 refine zin 48 Tryz.func7 ?_
 refine xc 8 (args:=#[.agg #[V0 0,V0 0,V0 1,V0 0,S0],V0 8]) (lay26_Lay _) ?_
 rintro _ W1 ⟨bi,g,ci,rfl,b2,hI⟩
 refine xr 18 (args:=#[P0 bi]) (by have q:=Ys bi _ (8*256) _ _ hI.blk (by decide);exact q) fun W2 a6=>?_
 have a1:=hI.below a6
 have hB:=bln b2 a6
 refine zl 14 48 (fun zm b0 V=>∃ (i:Nat),b0=[(1,P0 bi),(3,V0 (i:Int))]∧zm=8-((i:Int)).toNat∧B3 w V∧ImgR w.heap.size bi (S1 g) (8*256) ci (Je 0 0 1 0 [] 8) V∧i≤8) ⟨0,rfl,rfl,hB,a1,by decide⟩ ?_
 rintro _ _ W3 ⟨i,rfl,rfl,a0,hI,hi⟩ J3 b3 r3
 obtain⟨g0,b4,b1⟩:=hI.base (by decide)
 refine xid 7 ((i:Int)<(8:Int)) (fun a9=>?_) (fun a9=>?_)
 ·refine xc 8 (args:=#[P0 bi,V0 (i:Int)]) (Tw _ bi g (8*256) ci (Je 0 0 1 0 [] 8) i _ hI (by omega) b1) ?_
  rintro _ W5 ⟨_,rfl,a8,p5,c5,rfl,h5⟩
  have a4:=Ze h5 a0.size
  have a7:(Ct (Je 0 0 1 0 [] 8) i).length=256:=Hj (by rw[Lr.1];omega)
  refine xc 10 (args:=#[.slice p5 256 c5]) (which26 p5 c5 i (Ct (Je 0 0 1 0 [] 8) i) _ (by omega) a7 (Lr.2 i (by omega)) (Xp (Zf a4) a7)) ?_
  rintro _ W6 ⟨_,rfl,a5,kd,rfl⟩
  refine xk 20 (show(((i:Int) != (i:Int)):Bool)=false from by simp) ?_
  refine xwm 5 ((i:Int)+1) (↑(i+1):Int) ?_
  have a3:=bln (bln a0 a8) a5
  have a2:=(hI.below a8).below a5
  exact ze 2 (b3 _ _ _ ⟨i+1,rfl,rfl,a3,a2,by omega⟩ (by omega))
 exact xe 11 (.bool true) ⟨rfl,a0⟩
end Go.Proofs.YtegcamkgeacjfaaGreatDoor
namespace Go.Proofs.YtegcamkgeacjfaaGreatDoor
set_option maxHeartbeats 8000000
set_option maxRecDepth 100000
open Go.ChangeShapes Go.WideShapes Go.ChangeAt Go.RowKit Go.Joins Go.Deep
set_option linter.unusedVariables false
attribute [local irreducible] wpList wpAnyH Code.wp Oper.wp Go
theorem flatm{α:Type}{f:α→List Value}{m:Nat}(hf:∀ x,(f x).length=m):∀ (T:List α) (j:Nat) (x:Value),(T.flatMap f)[j]? = some x→∃ i,∃ h:i<T.length,∃ r,r<m∧j=i*m+r∧(f T[i])[r]? = some x
 | [],j,x,h=>by simp at h
 | y::T,j,x,h=>by
  rw[List.flatMap_cons,List.getElem?_append] at h
  by_cases hj:j<m
  ·rw[if_pos (by rw[hf];exact hj)] at h
   exact⟨0,by simp,j,hj,by omega,by simpa using h⟩
  ·rw[if_neg (by rw[hf];exact hj),hf] at h
   obtain⟨i,hi,r,hr,e,hx⟩:=flatm hf T (j-m) x h
   exact⟨i+1,by simpa using hi,r,hr,by rw[Nat.add_mul];omega,by simpa using hx⟩
theorem Ic{α H:Type}{enc:TypeId×Value→H}{P:Program}{W:World}{t e:TypeId}{v:Value}{y:DataW H×List MemPlace}{fuel m:Nat}{f:α→List Value}{G:α→Prop}(hf:∀ x,(f x).length=m)(hm:0<m)(ht:P.underlying t=some (.slice e))(hC:P.cellsOf e=m)
 (each:∀ n cs z,cs.length=m→DataW.trod enc P W 0 (fun _=>true) true n e cs=some z→∃ q,cs=f q∧G q) (h:DataW.trod enc P W 0 (fun _=>true) true fuel t [v]=some y) :
 ∃ (L:List α) (a:O0) (c:Nat),v=.slice a L.length c∧Sl W (.slice a L.length c) L.length (L.flatMap f)∧∀ q∈L,G q:=by
 rcases open_slice ht h with ⟨a3,_⟩|⟨x,l,c,k,n,D,Pl,a3,_,hl,b1,a9,_,hi⟩
 ·simp at a3
  subst a3
  exact⟨[],none,0,rfl,.inl ⟨none,0,rfl,rfl,rfl⟩,fun q hq=>by cases hq⟩
 ·simp at a3
  subst a3
  obtain⟨b,a4,a6⟩:=x
  have b2:l≤k:=by rw[a9];simp;omega
  by_cases hlen:l=0
  ·subst hlen
   exact⟨[],_,_,rfl,.inl ⟨_,_,rfl,rfl,rfl⟩,fun q hq=>by cases hq⟩
  have a2:a6=none:=by
   obtain⟨cs,hc,a7⟩:=hi 0 (by omega)
   rw[hC] at hc
   obtain⟨_,a8,a5⟩:=World.cells?_some hc
   have a0:=a5 0 (by omega)
   rw[List.getElem?_eq_getElem (by omega)] at a0
   simpa [Addr.add] using World.cell?_spot a0
  subst a2
  have eA:∀ o n,(⟨b,o,none⟩:Addr).add n=⟨b,o+n,none⟩:=by intro o n;unfold Addr.add;split<;>simp_all
  have a1:∀ i:Fin l,∃ q:α,(∀ r x,(f q)[r]? = some x→W.cell? ⟨b,a4+(i.val*m+r),none⟩=some x)∧G q:=by
   intro i
   obtain⟨cs,hc,a7⟩:=hi i.val (by have:=i.2;omega)
   rw[hC] at hc
   obtain⟨_,a8,a5⟩:=World.cells?_some hc
   obtain⟨q,hq,hG⟩:=each n cs _ a8 a7
   refine⟨q,fun r x hr=>?_,hG⟩
   rw[←hq] at hr
   have b0:r<m:=by have:=(List.getElem?_eq_some_iff.1 hr).1;omega
   have a0:=a5 r b0
   rw[hr,eA,eA] at a0
   rw[←Nat.add_assoc];exact a0
  refine⟨List.ofFn fun i=>Classical.choose (a1 i),some ⟨b,a4,none⟩,c,by rw[List.length_ofFn],?_,fun q hq=>?_⟩
  ·rw[List.length_ofFn]
   refine .inr ⟨b,a4,c,rfl,hl,b1,fun j x hj=>?_⟩
   obtain⟨i,hi,r,hr,e,hx⟩:=flatm hf _ j x hj
   rw[List.getElem_ofFn] at hx
   rw[e]
   exact(Classical.choose_spec (a1 ⟨i,by simpa using hi⟩)).1 r x hx
  ·obtain⟨i,rfl⟩:=List.mem_ofFn.1 hq
   exact(Classical.choose_spec (a1 i)).2
theorem map_each{H:Type}{enc:TypeId×Value→H}{P:Program}{W:World}{e:TypeId}{f0 f1 f2:Field}(he:P.underlying e=some (.struct #[f0,f1,f2]))(hone:oneCellFields P #[f0,f1,f2]=true)(h0:P.underlying f0.type=some (.int .i64))(h1:P.underlying f1.type=some (.int .i64))(h2:P.underlying f2.type=some (.int .i64)) :
 ∀ n cs z,cs.length=3→DataW.trod enc P W 0 (fun _=>true) true n e cs=some z→∃ q:Mp,cs=mapC q∧True:=by
 intro n cs z a4 a3
 obtain⟨y0,y1,y2,n',_,_,t0,t1,t2⟩:=trod_struct3 he a3
 obtain⟨o0,k0⟩:=hone_of hone 0 f0 rfl
 obtain⟨o1,k1⟩:=hone_of hone 1 f1 rfl
 obtain⟨o2,k2⟩:=hone_of hone 2 f2 rfl
 match cs,a4 with
 | [c0,c1,c2],_ =>
  rw[o0,k0] at t0
  rw[o1,k1] at t1
  rw[o2,k2] at t2
  obtain⟨z0,a1,_,_⟩:=DataW.trod_int (cs:=[c0]) h0 (by simpa using t0)
  obtain⟨z1,a2,_,_⟩:=DataW.trod_int (cs:=[c1]) h1 (by simpa using t1)
  obtain⟨z2,a0,_,_⟩:=DataW.trod_int (cs:=[c2]) h2 (by simpa using t2)
  simp only[List.cons.injEq,and_true] at a1 a2 a0
  subst a1 a2 a0
  exact⟨(z0,z1,z2),rfl,trivial⟩
theorem dev_each{H:Type}{enc:TypeId×Value→H}{P:Program}{W:World}{e em:TypeId}{f0 f1 f2 f3 f4 m0 m1 m2:Field}(he:P.underlying e=some (.struct #[f0,f1,f2,f3,f4]))(hone:oneCellFields P #[f0,f1,f2,f3,f4]=true)(h0:P.underlying f0.type=some (.int .i64))(h1:P.underlying f1.type=some (.int .i64))(h2:P.underlying f2.type=some (.int .i64))(h3:P.underlying f3.type=some (.int .i64))(h4:P.underlying f4.type=some (.slice em))
 (hme:P.underlying em=some (.struct #[m0,m1,m2])) (hmone:oneCellFields P #[m0,m1,m2]=true) (hmC:P.cellsOf em=3) (hm0:P.underlying m0.type=some (.int .i64)) (hm1:P.underlying m1.type=some (.int .i64)) (hm2:P.underlying m2.type=some (.int .i64)) :
 ∀ n cs z,cs.length=5→DataW.trod enc P W 0 (fun _=>true) true n e cs=some z→∃ q:Zv,cs=devZ q∧Sts mapC W (.slice q.2.1 q.1.2.length q.2.2) q.1.2:=by
 intro n cs z a6 a5
 obtain⟨xs,n',_,rfl,hl,a0,hf⟩:=DataW.trod_struct he a5
 obtain⟨o0,k0⟩:=hone_of hone 0 f0 rfl
 obtain⟨o1,k1⟩:=hone_of hone 1 f1 rfl
 obtain⟨o2,k2⟩:=hone_of hone 2 f2 rfl
 obtain⟨o3,k3⟩:=hone_of hone 3 f3 rfl
 obtain⟨o4,k4⟩:=hone_of hone 4 f4 rfl
 match xs,a0 with
 | [y0,y1,y2,y3,y4],_ =>
  have t0:=hf 0 f0 rfl
  have t1:=hf 1 f1 rfl
  have t2:=hf 2 f2 rfl
  have t3:=hf 3 f3 rfl
  have t4:=hf 4 f4 rfl
  match cs,a6 with
  | [c0,c1,c2,c3,c4],_ =>
   rw[o0,k0] at t0
   rw[o1,k1] at t1
   rw[o2,k2] at t2
   rw[o3,k3] at t3
   rw[o4,k4] at t4
   obtain⟨z0,a3,_,_⟩:=DataW.trod_int (cs:=[c0]) h0 (by simpa using t0)
   obtain⟨z1,a4,_,_⟩:=DataW.trod_int (cs:=[c1]) h1 (by simpa using t1)
   obtain⟨z2,a2,_,_⟩:=DataW.trod_int (cs:=[c2]) h2 (by simpa using t2)
   obtain⟨z3,a1,_,_⟩:=DataW.trod_int (cs:=[c3]) h3 (by simpa using t3)
   obtain⟨M,a,c,rfl,hM,_⟩:=Ic (v:=c4) (G:=fun _:Mp=>True) Xx (by decide) h4 hmC (map_each hme hmone hm0 hm1 hm2) (by simpa using t4)
   simp only[List.cons.injEq,and_true] at a3 a4 a2 a1
   subst a3 a4 a2 a1
   exact⟨(((z0,z1,z2,z3),M),a,c),rfl,hM⟩
theorem Zgq{H:Type}{enc:TypeId×Value→H}{P:Program}{W:World}{r:Reach}{b0:Nat}{t:TypeId}{fs:Array Field}{v:Value}{d:DataW H}{p:List MemPlace}(hs:P.underlying t=some (.struct fs))(h5:fs.size=5)(hone:oneCellFields P fs=true)(hC:P.cellsOf t=5)(hv:Value.okWide P W r b0 t v)(h:DataW.Trod enc P W 0 (fun _=>true) true t v d p) :
 ∃ c0 c1 c2 c3 c4 n,v=.agg #[c0,c1,c2,c3,c4]∧∀ i f,fs[i]? = some f→∃ y,DataW.trod enc P W 0 (fun _=>true) true n f.type (([c0,c1,c2,c3,c4].drop i).take 1)=some y:=by
 obtain⟨cs,rfl,a5⟩:=okWide_struct hs hv
 obtain⟨a2,hx⟩:=h
 obtain⟨xs,n,_,_,hl,a1,a0⟩:=DataW.trod_struct hs hx
 have a3:cs.toList.length=5:=by simp;omega
 obtain⟨L⟩:=cs
 match L,a3 with
 | [c0,c1,c2,c3,c4],_ =>
  refine⟨c0,c1,c2,c3,c4,n,rfl,fun i f hi=>?_⟩
  obtain⟨o,k⟩:=hone_of hone i f hi
  have hq:=a0 i f hi
  rw[o,k] at hq
  have a4:i<fs.size:=(Array.getElem?_eq_some_iff.1 hi).1
  refine⟨xs[i]'(by omega),?_⟩
  rw[List.getElem?_eq_getElem (by omega)] at hq
  exact hq
theorem Zgx{H:Type}{enc:TypeId×Value→H}{P:Program}{W:World}{r:Reach}{b0:Nat}{t ed em:TypeId}{p0 p1 p2 p3 p4 f0 f1 f2 f3 f4 m0 m1 m2:Field}{v:Value}{d:DataW H}{p:List MemPlace}(hs:P.underlying t=some (.struct #[p0,p1,p2,p3,p4]))(hsone:oneCellFields P #[p0,p1,p2,p3,p4]=true)(hsC:P.cellsOf t=5)
  (g0:P.underlying p0.type=some (.int .i64)) (g1:P.underlying p1.type=some (.int .i64)) (g2:P.underlying p2.type=some (.int .i64)) (g3:P.underlying p3.type=some (.int .i64)) (g4:P.underlying p4.type=some (.slice ed))
  (he:P.underlying ed=some (.struct #[f0,f1,f2,f3,f4])) (hone:oneCellFields P #[f0,f1,f2,f3,f4]=true) (hC:P.cellsOf ed=5) (h0:P.underlying f0.type=some (.int .i64)) (h1:P.underlying f1.type=some (.int .i64)) (h2:P.underlying f2.type=some (.int .i64)) (h3:P.underlying f3.type=some (.int .i64)) (h4:P.underlying f4.type=some (.slice em))
  (hme:P.underlying em=some (.struct #[m0,m1,m2])) (hmone:oneCellFields P #[m0,m1,m2]=true) (hmC:P.cellsOf em=3) (hm0:P.underlying m0.type=some (.int .i64)) (hm1:P.underlying m1.type=some (.int .i64)) (hm2:P.underlying m2.type=some (.int .i64))
  (hv:Value.okWide P W r b0 t v) (h:DataW.Trod enc P W 0 (fun _=>true) true t v d p) :
  ∃ (tx time unit data:Int) (q:O0) (c:Nat) (Z:List Zv),v=.agg #[V0 tx,V0 time,V0 unit,V0 data,.slice q Z.length c]∧DevsR W q c Z:=by
 obtain⟨c0,c1,c2,c3,c4,n,rfl,hf⟩:=Zgq hs rfl hsone hsC hv h
 obtain⟨_,t0⟩:=hf 0 p0 rfl
 obtain⟨_,t1⟩:=hf 1 p1 rfl
 obtain⟨_,t2⟩:=hf 2 p2 rfl
 obtain⟨_,t3⟩:=hf 3 p3 rfl
 obtain⟨_,t4⟩:=hf 4 p4 rfl
 obtain⟨z0,a1,_,_⟩:=DataW.trod_int (cs:=[c0]) g0 (by simpa using t0)
 obtain⟨z1,a3,_,_⟩:=DataW.trod_int (cs:=[c1]) g1 (by simpa using t1)
 obtain⟨z2,a2,_,_⟩:=DataW.trod_int (cs:=[c2]) g2 (by simpa using t2)
 obtain⟨z3,a0,_,_⟩:=DataW.trod_int (cs:=[c3]) g3 (by simpa using t3)
 obtain⟨Z,a,c,rfl,hZ,hG⟩:=Ic (v:=c4) (f:=devZ) (G:=fun q:Zv=>Sts mapC W (.slice q.2.1 q.1.2.length q.2.2) q.1.2) Ye (by decide) g4 hC (dev_each he hone h0 h1 h2 h3 h4 hme hmone hmC hm0 hm1 hm2) (by simpa using t4)
 simp only[List.cons.injEq,and_true] at a1 a3 a2 a0
 subst a1 a3 a2 a0
 exact⟨z0,z1,z2,z3,a,c,Z,rfl,hZ,fun i hi=>hG _ (by simp[List.getD,hi])⟩
end Go.Proofs.YtegcamkgeacjfaaGreatDoor
