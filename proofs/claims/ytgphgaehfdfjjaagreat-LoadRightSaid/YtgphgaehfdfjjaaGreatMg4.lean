/- Mappings and devices told, by the program. -/
import Derived.Laws.StructEq
import Derived.RangeFuncNested
import Derived.RangeFuncBound
import Derived.RangeFuncCalls
import Derived.RangeFuncLeaves
import Derived.OwnWalkIn
import Derived.OrdersIn
import Derived.Shelf.Abstract
import Derived.Shelf.RegionOpen
import Derived.TacticsInMore
import Derived.LoopNIn
import Derived.LoopIn
import Derived.Sort.BigQuietIn
import Derived.Test.YtgphgaehfdfjjaaGreatMg3
namespace Go.Proofs.YtgphgaehfdfjjaaGreat
set_option maxHeartbeats 8000000
set_option maxRecDepth 100000
open Go.RowKit Go.Extern.Stop Go.Stop Go.Extern
set_option linter.unusedVariables false
attribute [local irreducible] wpList wpAnyH Code.wp Oper.wp Go
theorem Vv(no er:Int)(w:World)(he:er≠0) :
 C0 35 #[V0 no,V0 er] w ((fun e w'=>∃ ty x,e=.returned (.iface ty x)∧B0 w w'∧Qw w' (([no]:List Int).map some) (some er) (.iface ty x))):=by
 refine zin 11 Tryz.func35 ?_
 refine xk 12 (show((er==(0:Int)):Bool)=false from beq_false_of_ne he) ?_
 refine xc 7 (args:=#[V0 no,.iface 26 (V0 er)]) (Rx no er [] _ _ rfl) ?_
 rintro _ W1 ⟨a1,v1,rfl,a2,a0⟩
 exact xe 4 (.iface a1 (v1)) ⟨_,_,rfl,a2,a0⟩
def MapP(data:Int)(x:Ent)(w:World)(e:Ending)(w':World):Prop :=
 (Fd data x.2.1≠0∧∃ ty v,e=.returned (.tuple #[.agg #[V0 0,V0 0,V0 0],.iface ty v])∧B0 w w'∧Qw w' (([x.2.2]:List Int).map some) (some (Fd data x.2.1)) (.iface ty v)) ∨
 (Fd data x.2.1=0∧e=.returned (.tuple #[.agg #[V0 x.1,V0 (Ni x.2.1:Int),V0 (Bw x.2.1:Int)],.nilIface])∧B0 w w')
theorem Lm{data:Int}{v:Bl}(h:Xt Hu v≠0):Fd data v=Xt Hu v:=if_pos h
theorem Eb{data:Int}{v:Bl}(h:Xt Hu v=0)(h2:data≤(Ni v:Int)):Fd data v=2:=by unfold Fd;rw[if_neg (fun q=>q h),if_pos h2]
theorem Tf{data:Int}{v:Bl}(h:Xt Hu v=0)(h2:¬ data≤(Ni v:Int)):Fd data v=0:=by unfold Fd;rw[if_neg (fun q=>q h),if_neg h2]
theorem Pw(bx b:Nat)(data fuel sum:Int)(x:Ent)(w:World)(hk:Blk w bx [P0 b,V0 data,V0 fuel,V0 sum] 97)(hs:x.2.1.length≤1000) :
 C0 78 #[P0 bx,.agg #[V0 x.1,.string ⟨x.2.1.toArray⟩,V0 x.2.2]] w (MapP data x w):=by
 refine zin 38 Tryz.func78 ?_
 refine xa 2 [V0 x.1,.string ⟨x.2.1.toArray⟩,V0 x.2.2] 45 fun b1 W1 n1=>?_
 refine xa 0 [V0 0,V0 0,V0 0] 42 fun b2 W2 n2=>?_
 have k1:=n1.blk.below n2.below
 refine xb 6 1 k1 ?_
 refine xr 0 (args:=#[.string ⟨x.2.1.toArray⟩]) (Dy x.2.1 _ hs) fun W3 a0=>?_
 refine xg 15 [17,18] ((Xt Hu x.2.1)==(0:Int)) (fun a5=>?_) (fun a5=>?_)
 ·have a5:=eq_of_beq a5
  have b5:=((hk.below n1.below).below n2.below).below a0
  refine xb 4 1 b5 ?_
  refine xid 4 ((↑(Ni x.2.1):Int)≥data) (fun d0=>?_) (fun d0=>?_)
  ·have b0:=k1.below a0
   refine xb 16 2 b0 ?_
   refine xc 1 (args:=#[V0 x.2.2,V0 2]) (Vv x.2.2 2 _ (by omega)) ?_
   rintro _ W6 ⟨c4,v6,rfl,b8,a4⟩
   have k2:=(n2.blk.below a0).below b8
   refine xsv 0 k2 [V0 0,V0 0,V0 0] fun W7 u7 k7=>?_
   have g2:=n2.ge n1.below
   have hB:=u7.below (bln (bln (bln n1.below n2.below) a0) b8) g2
   have a3:=a4.only (Ze.of_upd (T:=[42]) u7 k2 (by decide)) (by decide)
   refine xec 5 k7 (.tuple #[.agg #[V0 0,V0 0,V0 0],.iface c4 (v6)]) ?_
   first|(have e9:=Eb (data:=data) (v:=x.2.1) (by omega) (by omega);exact .inl ⟨by rw[e9];decide,_,_,rfl,hB,by rw[e9];exact a3⟩)|(have e9:=Lm (data:=data) (v:=x.2.1) (by omega);exact .inl ⟨by rw[e9];omega,_,_,rfl,hB,by rw[e9];exact a3⟩)
  refine xin 9 (Xt Hu x.2.1) (0:Int) (fun c3=>?_) (fun c3=>?_)
  ·have a8:=k1.below a0
   refine xb 4 2 a8 ?_
   refine xc 1 (args:=#[V0 x.2.2,V0 (Xt Hu x.2.1)]) (Vv x.2.2 (Xt Hu x.2.1) _ (by omega)) ?_
   rintro _ W9 ⟨c8,v9,rfl,c0,a4⟩
   have k2:=(n2.blk.below a0).below c0
   refine xsv 0 k2 [V0 0,V0 0,V0 0] fun d4 b7 c1=>?_
   have g2:=n2.ge n1.below
   have hB:=b7.below (bln (bln (bln n1.below n2.below) a0) c0) g2
   have a2:=a4.only (Ze.of_upd (T:=[42]) b7 k2 (by decide)) (by decide)
   refine xec 5 c1 (.tuple #[.agg #[V0 0,V0 0,V0 0],.iface c8 (v9)]) ?_
   first|(have e9:=Eb (data:=data) (v:=x.2.1) (by omega) (by omega);exact .inl ⟨by rw[e9];decide,_,_,rfl,hB,by rw[e9];exact a2⟩)|(have e9:=Lm (data:=data) (v:=x.2.1) (by omega);exact .inl ⟨by rw[e9];omega,_,_,rfl,hB,by rw[e9];exact a2⟩)
  have b3:=k1.below a0
  refine xb 5 0 b3 ?_
  have k2:=n2.blk.below a0
  refine xsv 3 k2 [V0 x.1,V0 (↑(Ni x.2.1):Int),V0 (↑(Bw x.2.1):Int)] fun d2 c7 c6=>?_
  have g2:=n2.ge n1.below
  have hB:=c7.below (bln (bln n1.below n2.below) a0) g2
  exact xec 4 c6 (.tuple #[.agg #[V0 x.1,V0 (↑(Ni x.2.1):Int),V0 (↑(Bw x.2.1):Int)],.nilIface]) (.inr ⟨Tf (by omega) (by omega),rfl,hB⟩)
 have a5:=Yc a5
 refine xin 19 (Xt Hu x.2.1) (0:Int) (fun a7=>?_) (fun a7=>?_)
 ·have b6:=k1.below a0
  refine xb 4 2 b6 ?_
  refine xc 1 (args:=#[V0 x.2.2,V0 (Xt Hu x.2.1)]) (Vv x.2.2 (Xt Hu x.2.1) _ (by omega)) ?_
  rintro _ d3 ⟨b4,c5,rfl,a6,a4⟩
  have k2:=(n2.blk.below a0).below a6
  refine xsv 0 k2 [V0 0,V0 0,V0 0] fun d6 b9 c9=>?_
  have g2:=n2.ge n1.below
  have hB:=b9.below (bln (bln (bln n1.below n2.below) a0) a6) g2
  have a1:=a4.only (Ze.of_upd (T:=[42]) b9 k2 (by decide)) (by decide)
  refine xec 5 c9 (.tuple #[.agg #[V0 0,V0 0,V0 0],.iface b4 (c5)]) ?_
  first|(have e9:=Eb (data:=data) (v:=x.2.1) (by omega) (by omega);exact .inl ⟨by rw[e9];decide,_,_,rfl,hB,by rw[e9];exact a1⟩)|(have e9:=Lm (data:=data) (v:=x.2.1) (by omega);exact .inl ⟨by rw[e9];omega,_,_,rfl,hB,by rw[e9];exact a1⟩)
 have a9:=k1.below a0
 refine xb 5 0 a9 ?_
 have k2:=n2.blk.below a0
 refine xsv 3 k2 [V0 x.1,V0 (↑(Ni x.2.1):Int),V0 (↑(Bw x.2.1):Int)] fun d5 d1 c2=>?_
 have g2:=n2.ge n1.below
 have hB:=d1.below (bln (bln n1.below n2.below) a0) g2
 exact xec 4 c2 (.tuple #[.agg #[V0 x.1,V0 (↑(Ni x.2.1):Int),V0 (↑(Bw x.2.1):Int)],.nilIface]) (.inr ⟨Tf (by omega) (by omega),rfl,hB⟩)
def TellP(O:List Int×Int×List Mp)(w:World)(e:Ending)(w':World):Prop :=
 (O.2.1≠0∧∃ ty v,e=.returned (.tuple #[S0,.iface ty v])∧B0 w w'∧Qw w' (O.1.map some) (some O.2.1) (.iface ty v)) ∨
 (O.2.1=0∧∃ p c,e=.returned (.tuple #[.slice p O.2.2.length c,.nilIface])∧B0 w w'∧w'.ownsRow w.heap.size 42 3 (.slice p O.2.2.length c) O.2.2.length (O.2.2.flatMap Uf))
theorem Ny{O:List Int×Int×List Mp}{bl:List Int}{er:Int}{w W:World}{ty:TypeId}{v:Value}(h:O=(bl,er,[]))(her:er≠0)(hb:B0 w W)(hv:Qw W (bl.map some) (some er) (.iface ty v)):TellP O w (.returned (.tuple #[S0,.iface ty v])) W:=by
 subst h;exact .inl ⟨her,ty,v,rfl,hb,hv⟩
theorem Zfd{O:List Int×Int×List Mp}{L:List Mp}{n:Nat}{w W:World}{p:O0}{c:Nat}(h:O=([],0,L))(hn:L.length=n)(hb:B0 w W)(ho:W.ownsRow w.heap.size 42 3 (.slice p n c) n (L.flatMap Uf)):TellP O w (.returned (.tuple #[.slice p n c,.nilIface])) W:=by
 subst h hn;exact .inr ⟨rfl,p,c,rfl,hb,ho⟩
theorem Ss{es:List Ent}{i:Nat}(hi:i<es.length):((es.take (i+1)).map Zcl).flatMap Uf=((es.take i).map Zcl).flatMap Uf++Uf (Zcl (es.getD i Zm)):=by
 rw[List.take_succ_eq_append_getElem hi,List.map_append,List.flatMap_append,show es.getD i Zm=es[i] from by simp[List.getD,hi]]
 simp only[List.map_cons,List.map_nil,List.flatMap_cons,List.flatMap_nil,List.append_nil]
theorem Zet(Bi bx b:Nat)(pi:O0)(ni ci:Nat)(l:Bl)(data fuel sum root:Int)(w:World)(hI:ImgR Bi b pi ni ci l w)(hk:Blk w bx [P0 b,V0 data,V0 fuel,V0 sum] 97)(hfu:fuel≤1000) :
 C0 59 #[P0 bx,V0 root] w (TellP (Su l root data fuel) w):=by
 have m3:=(Hm l root 2 fuel hfu).1
 refine zin 51 Tryz.func59 ?_
 refine xd 7 (.t w.heap.size [87]) ?_
 have c5:=hk.below (Za w)
 refine xbt (.e [0,1,2] 3) 0 w.heap.size [87] c5 ?_
 refine xbt (.e [4,5,6,7] 8) 2 w.heap.size [87] c5 ?_
 refine xm2 0 9 13 ?_ ?_
 ·have hB:=(Za w)
  refine yc 0 (args:=#[P0 b,V0 root,V0 2,V0 fuel]) (.t w.heap.size [87]) (Hg Bi b pi ni ci l root 2 fuel _ hfu (hI.below hB)) ?_
  rintro e W1 l8
  rcases l8 with ⟨b0,pe,ce,pb,cb,pf,cf,j5,vw,rfl,e4,d5⟩|⟨b0,pe,ce,pb,nb,cb,dp,lk,pf,cf,rfl,e4,a8⟩
  ·refine⟨(SF.of_below _ e4),?_⟩
   refine xa (.o [10,11,12] 13) [S0,S0,V0 0,V0 0,S0] 87 fun b2 W2 n2=>?_
   have f9:=bln hB e4
   have g2:=n2.ge f9
   refine ysv (.o [] 14) n2.blk [.slice pe 0 ce,.slice pb 0 cb,V0 0,V0 0,.slice pf 0 cf] (.t w.heap.size [87]) fun W3 u3 k3=>⟨(Zw u3 n2.blk g2 (by decide)),?_⟩
   have g7:=(d5.below n2.below).only (Ze.of_upd (T:=[87]) u3 n2.blk (by decide)) (by decide)
   have j0:=u3.below (bln f9 n2.below) g2
   exact xe (.r [15] 19) (.tuple #[S0,.iface j5 (vw)]) (Ny (Sa b0) (Wh b0) j0 g7)
  have m5:=(Za w).size
  refine⟨(SF.of_below _ e4),?_⟩
  refine xa (.o [10,11,12] 13) [S0,S0,V0 0,V0 0,S0] 87 fun b4 W4 n4=>?_
  have g5:=bln hB e4
  have g4:=n4.ge g5
  refine ysv (.o [] 14) n4.blk [.slice pe ((Zd l root 2 fuel).es.length) ce,.slice pb nb cb,V0 dp,V0 lk,.slice pf 0 cf] (.t w.heap.size [87]) fun W5 u5 k5=>⟨(Zw u5 n4.blk g4 (by decide)),?_⟩
  refine xb (.r [15] 21) 0 k5 ?_
  have h2:=u5.own2 (Zb (Zh a8 m5) n4.below) n4.blk (by decide)
  have h9:=u5.below (bln g5 n4.below) g4
  have j3:=u5.blkT ((c5.below e4).below n4.below) n4.blk (by decide)
  refine zl 5 51 (fun zm k0 V=>∃ (i:Nat) (p:O0) (c:Nat),k0=[(0,P0 bx),(8,.slice p i c),(30,.slice pe ((Zd l root 2 fuel).es.length) ce),(31,V0 (↑((Zd l root 2 fuel).es.length):Int)),(32,V0 (i:Int))]∧zm=(Zd l root 2 fuel).es.length-((i:Int)).toNat∧B0 w V∧Blk V bx ([P0 b,V0 data,V0 fuel,V0 sum]) 97∧Blk V b4 ([.slice pe ((Zd l root 2 fuel).es.length) ce,.slice pb nb cb,V0 dp,V0 lk,.slice pf 0 cf]) 87∧V.ownsRow w.heap.size 45 3 (.slice pe (Zd l root 2 fuel).es.length ce) (Zd l root 2 fuel).es.length ((Zd l root 2 fuel).es.flatMap Hl)∧V.ownsRow w.heap.size 42 3 (.slice p i c) i ((((Zd l root 2 fuel).es.take i).map Zcl).flatMap Uf)∧i≤(Zd l root 2 fuel).es.length∧Za2 data (Zd l root 2 fuel).es i) ⟨0,none,0,rfl,rfl,h9,j3,k5,h2,World.ownsRow_nil _ _ _ _,Nat.zero_le _,fun j hj=>absurd hj (by omega)⟩ ?_
  rintro _ _ W6 ⟨i,p,c,rfl,rfl,c2,h4,e7,a8,ho,hi,d4⟩ J6 l9 r6
  refine xid 6 ((i:Int)<(↑((Zd l root 2 fuel).es.length):Int)) (fun m4=>?_) (fun m4=>?_)
  ·refine xx 6 _ ((Zd l root 2 fuel).es.length) i 3 (Sts.cell (f:=Hl) (Zg a8) Yg Zm (k:=i) (i:=0) (by omega) rfl).1 ?_
   refine xlv 0 (Sts.rp (k:=i) (Zg a8) Yg Zm (by omega) (by decide)) ?_
   refine xa 0 [V0 0,.string ⟨#[]⟩,V0 0] 45 fun b8 W8 n8=>?_
   have g8:=n8.ge c2
   have d9:=Xd a8 n8
   refine xsv 0 n8.blk [V0 (((Zd l root 2 fuel).es.getD i Zm).1),.string ⟨(((Zd l root 2 fuel).es.getD i Zm).2.1).toArray⟩,V0 (((Zd l root 2 fuel).es.getD i Zm).2.2)] fun W9 u9 k9=>?_
   refine xlv 5 k9.rp ?_
   have a6:=u9.blkT (h4.below n8.below) n8.blk (by decide)
   refine xc 0 (args:=#[P0 bx,.agg #[V0 (((Zd l root 2 fuel).es.getD i Zm).1),.string ⟨(((Zd l root 2 fuel).es.getD i Zm).2.1).toArray⟩,V0 (((Zd l root 2 fuel).es.getD i Zm).2.2)]]) (Pw bx b data fuel sum ((Zd l root 2 fuel).es.getD i Zm) _ a6 (Kn _ _ _ _ i (by omega))) ?_
   rintro e n1 j8
   rcases j8 with ⟨c3,i8,vm,rfl,a3,d5⟩|⟨c3,rfl,a3⟩
   ·refine xa 3 [V0 0,V0 0,V0 0] 42 fun p0 o2 e2=>?_
    have e8:=bln (u9.below (bln c2 n8.below) g8) a3
    have m0:=e2.ge e8
    have k1:=Zb (u9.own2 (Zb ho n8.below) n8.blk (by decide)) a3
    have j9:=Xd k1 e2
    refine xsv 0 e2.blk [V0 0,V0 0,V0 0] fun o1 k4 m8=>?_
    have e5:=(d5.below e2.below).only (Ze.of_upd (T:=[42]) k4 e2.blk (by decide)) (by decide)
    have j4:=k4.below (bln e8 e2.below) m0
    exact xe 25 (.tuple #[S0,.iface i8 (vm)]) (Ny ((Wc b0).trans (Se (by omega) d4 c3)) c3 j4 e5)
   refine xa 3 [V0 0,V0 0,V0 0] 42 fun p2 m9 a9=>?_
   have e6:=bln (u9.below (bln c2 n8.below) g8) a3
   have m7:=a9.ge e6
   have h1:=Zb (u9.own2 (Zb ho n8.below) n8.blk (by decide)) a3
   have e1:=Xd h1 a9
   refine xsv 0 a9.blk [V0 (((Zd l root 2 fuel).es.getD i Zm).1),V0 (↑(Ni ((Zd l root 2 fuel).es.getD i Zm).2.1):Int),V0 (↑(Bw ((Zd l root 2 fuel).es.getD i Zm).2.1):Int)] fun q3 g6 k6=>?_
   refine xlv 15 k6.rp ?_
   refine xbs 0 1 [V0 (((Zd l root 2 fuel).es.getD i Zm).1),V0 (↑(Ni ((Zd l root 2 fuel).es.getD i Zm).2.1):Int),V0 (↑(Bw ((Zd l root 2 fuel).es.getD i Zm).2.1):Int)] 42 fun p1 n6 c6=>?_
   have h7:=c6.ne k6
   have h5:=g6.below (bln e6 a9.below) m7
   have p5:=c6.ge h5
   have g1:=g6.own3 (Zb h1 a9.below) e1
   have j2:=Xd g1 c6
   have b6:=Zb g1 c6.below
   have g3:=bln h5 c6.below
   refine xbi 0 fun _ _ _ _ zJ zQ zo zx zy zK=>Xk (m:=1) (news:=[V0 (((Zd l root 2 fuel).es.getD i Zm).1),V0 (↑(Ni ((Zd l root 2 fuel).es.getD i Zm).2.1):Int),V0 (↑(Bw ((Zd l root 2 fuel).es.getD i Zm).2.1):Int)]) (.agg #[V0 0,V0 0,V0 0]) 3 24 (i+1) (((((Zd l root 2 fuel).es.take (i+1)).map Zcl).flatMap Uf)) zo Tryz.underlying38 (by kernel_rfl) rfl (by decide) zx b6 zy (c6.blk.sl 1 1 (by decide) (by decide)) rfl (by simp[Value.oneCell']) (by unfold maxLen;omega) (by omega) g3.size (rfl) (by rw[Ss (by omega)];rfl) fun l4 l6 o5 m2 d3 i5=>?_
   refine zK _ _ ?_
   refine xwm 5 ((i:Int)+1) (↑(i+1):Int) ?_
   have f3:=g3.trans i5
   have b7:=((g6.blkT ((a6.below a3).below a9.below) a9.blk (by decide)).below c6.below).grown d3 b6 (by decide)
   have c1:=((g6.blkT (((u9.blkT (e7.below n8.below) n8.blk (by decide)).below a3).below a9.below) a9.blk (by decide)).below c6.below).grown d3 b6 (by decide)
   have f8:=Xb (Zb (g6.own2 (Zb (Zb (u9.own3 (Zb a8 n8.below) d9) a3) a9.below) a9.blk (by decide)) c6.below) d3 b6 (by decide)
   exact ze 2 (l9 _ _ _ ⟨i+1,_,_,rfl,rfl,f3,b7,c1,f8,m2,by omega,Ce d4 c3⟩ (by omega))
  refine xe 13 (.tuple #[.slice p i c,.nilIface]) ?_
  obtain rfl:i=(Zd l root 2 fuel).es.length:=by omega
  rw[List.take_of_length_le (Nat.le_refl _)] at ho
  exact Zfd ((Wc b0).trans (Ev d4)) (List.length_map _) c2 ho
 refine xa 0 [S0,S0,V0 0,V0 0,S0] 87 fun l3 p7 e0=>?_
 have hB:=bln (Za w) e0.below
 refine yc (.o [] 9) (args:=#[P0 b,V0 root,V0 2,V0 fuel]) (.t w.heap.size [87]) (Hg Bi b pi ni ci l root 2 fuel _ hfu (hI.below hB)) ?_
 rintro e p8 i0
 rcases i0 with ⟨b0,pe,ce,pb,cb,pf,cf,j5,vw,rfl,a1,d5⟩|⟨b0,pe,ce,pb,nb,cb,dp,lk,pf,cf,rfl,a1,a8⟩
 ·refine⟨(SF.of_below _ a1),?_⟩
  have d1:=e0.blk.below a1
  have f0:=e0.ge (Za w)
  refine ysv (.o [10,11,12] 14) d1 [.slice pe 0 ce,.slice pb 0 cb,V0 0,V0 0,.slice pf 0 cf] (.t w.heap.size [87]) fun o3 i9 o0=>⟨(Zw i9 d1 f0 (by decide)),?_⟩
  have h3:=d5.only (Ze.of_upd (T:=[87]) i9 d1 (by decide)) (by decide)
  have g9:=i9.below (bln hB a1) f0
  exact xe (.r [15] 19) (.tuple #[S0,.iface j5 (vw)]) (Ny (Sa b0) (Wh b0) g9 h3)
 have j6:=(bln (Za w) e0.below).size
 refine⟨(SF.of_below _ a1),?_⟩
 have d1:=e0.blk.below a1
 have f0:=e0.ge (Za w)
 refine ysv (.o [10,11,12] 14) d1 [.slice pe ((Zd l root 2 fuel).es.length) ce,.slice pb nb cb,V0 dp,V0 lk,.slice pf 0 cf] (.t w.heap.size [87]) fun o6 h8 k2=>⟨(Zw h8 d1 f0 (by decide)),?_⟩
 refine xb (.r [15] 21) 0 k2 ?_
 have f1:=h8.own2 (Zh a8 j6) d1 (by decide)
 have f2:=h8.below (bln hB a1) f0
 have j7:=h8.blkT ((c5.below e0.below).below a1) d1 (by decide)
 refine zl 5 51 (fun zm k0 V=>∃ (i:Nat) (p:O0) (c:Nat),k0=[(0,P0 bx),(8,.slice p i c),(30,.slice pe ((Zd l root 2 fuel).es.length) ce),(31,V0 (↑((Zd l root 2 fuel).es.length):Int)),(32,V0 (i:Int))]∧zm=(Zd l root 2 fuel).es.length-((i:Int)).toNat∧B0 w V∧Blk V bx ([P0 b,V0 data,V0 fuel,V0 sum]) 97∧Blk V l3 ([.slice pe ((Zd l root 2 fuel).es.length) ce,.slice pb nb cb,V0 dp,V0 lk,.slice pf 0 cf]) 87∧V.ownsRow w.heap.size 45 3 (.slice pe (Zd l root 2 fuel).es.length ce) (Zd l root 2 fuel).es.length ((Zd l root 2 fuel).es.flatMap Hl)∧V.ownsRow w.heap.size 42 3 (.slice p i c) i ((((Zd l root 2 fuel).es.take i).map Zcl).flatMap Uf)∧i≤(Zd l root 2 fuel).es.length∧Za2 data (Zd l root 2 fuel).es i) ⟨0,none,0,rfl,rfl,f2,j7,k2,f1,World.ownsRow_nil _ _ _ _,Nat.zero_le _,fun j hj=>absurd hj (by omega)⟩ ?_
 rintro _ _ n5 ⟨i,p,c,rfl,rfl,a5,d7,b9,a8,ho,hi,d4⟩ q1 i2 o9
 refine xid 6 ((i:Int)<(↑((Zd l root 2 fuel).es.length):Int)) (fun i1=>?_) (fun i1=>?_)
 ·refine xx 6 _ ((Zd l root 2 fuel).es.length) i 3 (Sts.cell (f:=Hl) (Zg a8) Yg Zm (k:=i) (i:=0) (by omega) rfl).1 ?_
  refine xlv 0 (Sts.rp (k:=i) (Zg a8) Yg Zm (by omega) (by decide)) ?_
  refine xa 0 [V0 0,.string ⟨#[]⟩,V0 0] 45 fun q0 p3 a4=>?_
  have k8:=a4.ge a5
  have b5:=Xd a8 a4
  refine xsv 0 a4.blk [V0 (((Zd l root 2 fuel).es.getD i Zm).1),.string ⟨(((Zd l root 2 fuel).es.getD i Zm).2.1).toArray⟩,V0 (((Zd l root 2 fuel).es.getD i Zm).2.2)] fun q2 d8 l7=>?_
  refine xlv 5 l7.rp ?_
  have a2:=d8.blkT (d7.below a4.below) a4.blk (by decide)
  refine xc 0 (args:=#[P0 bx,.agg #[V0 (((Zd l root 2 fuel).es.getD i Zm).1),.string ⟨(((Zd l root 2 fuel).es.getD i Zm).2.1).toArray⟩,V0 (((Zd l root 2 fuel).es.getD i Zm).2.2)]]) (Pw bx b data fuel sum ((Zd l root 2 fuel).es.getD i Zm) _ a2 (Kn _ _ _ _ i (by omega))) ?_
  rintro e n7 i3
  rcases i3 with ⟨c3,i8,vm,rfl,a0,d5⟩|⟨c3,rfl,a0⟩
  ·refine xa 3 [V0 0,V0 0,V0 0] 42 fun o7 o4 e3=>?_
   have c7:=bln (d8.below (bln a5 a4.below) k8) a0
   have m1:=e3.ge c7
   have i4:=Zb (d8.own2 (Zb ho a4.below) a4.blk (by decide)) a0
   have j1:=Xd i4 e3
   refine xsv 0 e3.blk [V0 0,V0 0,V0 0] fun p9 k7 p6=>?_
   have f7:=(d5.below e3.below).only (Ze.of_upd (T:=[42]) k7 e3.blk (by decide)) (by decide)
   have f6:=k7.below (bln c7 e3.below) m1
   exact xe 25 (.tuple #[S0,.iface i8 (vm)]) (Ny ((Wc b0).trans (Se (by omega) d4 c3)) c3 f6 f7)
  refine xa 3 [V0 0,V0 0,V0 0] 42 fun p4 n9 b1=>?_
  have c8:=bln (d8.below (bln a5 a4.below) k8) a0
  have m6:=b1.ge c8
  have h0:=Zb (d8.own2 (Zb ho a4.below) a4.blk (by decide)) a0
  have d2:=Xd h0 b1
  refine xsv 0 b1.blk [V0 (((Zd l root 2 fuel).es.getD i Zm).1),V0 (↑(Ni ((Zd l root 2 fuel).es.getD i Zm).2.1):Int),V0 (↑(Bw ((Zd l root 2 fuel).es.getD i Zm).2.1):Int)] fun q4 g0 l0=>?_
  refine xlv 15 l0.rp ?_
  refine xbs 0 1 [V0 (((Zd l root 2 fuel).es.getD i Zm).1),V0 (↑(Ni ((Zd l root 2 fuel).es.getD i Zm).2.1):Int),V0 (↑(Bw ((Zd l root 2 fuel).es.getD i Zm).2.1):Int)] 42 fun n3 n0 c4=>?_
  have h6:=c4.ne l0
  have c9:=g0.below (bln c8 b1.below) m6
  have o8:=c4.ge c9
  have f4:=g0.own3 (Zb h0 b1.below) d2
  have i6:=Xd f4 c4
  have c0:=Zb f4 c4.below
  have d0:=bln c9 c4.below
  refine xbi 0 fun _ _ _ _ zJ zQ zo zx zy zK=>Xk (m:=1) (news:=[V0 (((Zd l root 2 fuel).es.getD i Zm).1),V0 (↑(Ni ((Zd l root 2 fuel).es.getD i Zm).2.1):Int),V0 (↑(Bw ((Zd l root 2 fuel).es.getD i Zm).2.1):Int)]) (.agg #[V0 0,V0 0,V0 0]) 3 24 (i+1) (((((Zd l root 2 fuel).es.take (i+1)).map Zcl).flatMap Uf)) zo Tryz.underlying38 (by kernel_rfl) rfl (by decide) zx c0 zy (c4.blk.sl 1 1 (by decide) (by decide)) rfl (by simp[Value.oneCell']) (by unfold maxLen;omega) (by omega) d0.size (rfl) (by rw[Ss (by omega)];rfl) fun l2 l1 q5 l5 d6 i7=>?_
  refine zK _ _ ?_
  refine xwm 5 ((i:Int)+1) (↑(i+1):Int) ?_
  have f5:=d0.trans i7
  have b3:=((g0.blkT ((a2.below a0).below b1.below) b1.blk (by decide)).below c4.below).grown d6 c0 (by decide)
  have a7:=((g0.blkT (((d8.blkT (b9.below a4.below) a4.blk (by decide)).below a0).below b1.below) b1.blk (by decide)).below c4.below).grown d6 c0 (by decide)
  have e9:=Xb (Zb (g0.own2 (Zb (Zb (d8.own3 (Zb a8 a4.below) b5) a0) b1.below) b1.blk (by decide)) c4.below) d6 c0 (by decide)
  exact ze 2 (i2 _ _ _ ⟨i+1,_,_,rfl,rfl,f5,b3,a7,e9,l5,by omega,Ce d4 c3⟩ (by omega))
 refine xe 13 (.tuple #[.slice p i c,.nilIface]) ?_
 obtain rfl:i=(Zd l root 2 fuel).es.length:=by omega
 rw[List.take_of_length_le (Nat.le_refl _)] at ho
 exact Zfd ((Wc b0).trans (Ev d4)) (List.length_map _) a5 ho
theorem Zb9(Bi bx b:Nat)(pi:O0)(ni ci:Nat)(l:Bl)(data fuel sum:Int)(y:Ent)(w:World)(hI:ImgR Bi b pi ni ci l w)(hk:Blk w bx [P0 b,V0 data,V0 fuel,V0 sum] 97)(hfu:fuel≤1000):C0 59 #[P0 bx,V0 (↑(Kq y.2.1):Int)] w (TellP (Vm l y data fuel) w):=Zet Bi bx b pi ni ci l data fuel sum (↑(Kq y.2.1):Int) w hI hk hfu
theorem own_few(l:Bl)(y:Ent)(data fuel:Int)(hf:fuel≤1000):(Vm l y data fuel).2.2.length≤1000000:=by
 have h:=(Hm l (Kq y.2.1:Int) 2 fuel hf).1
 unfold Vm Su Ea
 split
 ·exact Nat.zero_le _
 ·split
  ·exact Nat.zero_le _
  ·rw[List.length_map];exact h
theorem dev_1{l:Bl}{x y:Ent}{data fuel:Int}{sum:Nat}(h:16777215<x.1):Nh l x y data fuel sum=([x.2.2],9):=if_pos h
theorem dev_2{l:Bl}{x y:Ent}{data fuel:Int}{sum:Nat}(h:¬ 16777215<x.1)(h2:Xt Ku x.2.1≠0):Nh l x y data fuel sum=([x.2.2],Xt Ku x.2.1):=by unfold Nh;rw[if_neg h,if_pos h2]
theorem dev_3{l:Bl}{x y:Ent}{data fuel:Int}{sum:Nat}(h:¬ 16777215<x.1)(h2:Xt Ku x.2.1=0)(h3:Yo y.2.1≠0):Nh l x y data fuel sum=([y.2.2],Yo y.2.1):=by unfold Nh;rw[if_neg h,if_neg (fun q=>q h2),if_pos h3]
theorem dev_4{l:Bl}{x y:Ent}{data fuel:Int}{sum:Nat}(h:¬ 16777215<x.1)(h2:Xt Ku x.2.1=0)(h3:Yo y.2.1=0)(h4:(Vm l y data fuel).2.1≠0):Nh l x y data fuel sum=(y.2.2::(Vm l y data fuel).1,(Vm l y data fuel).2.1):=by unfold Nh;rw[if_neg h,if_neg (fun q=>q h2),if_neg (fun q=>q h3),if_pos h4]
theorem dev_5{l:Bl}{x y:Ent}{data fuel:Int}{sum:Nat}(h:¬ 16777215<x.1)(h2:Xt Ku x.2.1=0)(h3:Yo y.2.1=0)(h4:(Vm l y data fuel).2.1=0)(h5:(Vm l y data fuel).2.2.length≠Yk x.2.1 0):Nh l x y data fuel sum=([x.2.2],13):=by unfold Nh;rw[if_neg h,if_neg (fun q=>q h2),if_neg (fun q=>q h3),if_neg (fun q=>q h4),if_pos h5]
theorem dev_6{l:Bl}{x y:Ent}{data fuel:Int}{sum:Nat}(h:¬ 16777215<x.1)(h2:Xt Ku x.2.1=0)(h3:Yo y.2.1=0)(h4:(Vm l y data fuel).2.1=0)(h5:(Vm l y data fuel).2.2.length=Yk x.2.1 0)(h6:16384<sum+(Vm l y data fuel).2.2.length):Nh l x y data fuel sum=([y.2.2],2):=by unfold Nh;rw[if_neg h,if_neg (fun q=>q h2),if_neg (fun q=>q h3),if_neg (fun q=>q h4),if_neg (fun q=>q h5),if_pos h6]
theorem dev_7{l:Bl}{x y:Ent}{data fuel:Int}{sum:Nat}(h:¬ 16777215<x.1)(h2:Xt Ku x.2.1=0)(h3:Yo y.2.1=0)(h4:(Vm l y data fuel).2.1=0)(h5:(Vm l y data fuel).2.2.length=Yk x.2.1 0)(h6:¬ 16384<sum+(Vm l y data fuel).2.2.length):Nh l x y data fuel sum=([],0):=by unfold Nh;rw[if_neg h,if_neg (fun q=>q h2),if_neg (fun q=>q h3),if_neg (fun q=>q h4),if_neg (fun q=>q h5),if_neg h6]
def DevP(B bx b:Nat)(l:Bl)(x y:Ent)(data fuel:Int)(sum:Nat)(w:World)(e:Ending)(w':World):Prop :=
 ((Nh l x y data fuel sum).2≠0∧∃ ty v,e=.returned (.tuple #[.agg #[V0 0,V0 0,V0 0,V0 0,S0],.iface ty v])∧Below B w w'∧Ze [97] w w'∧Fr [bx] w w'∧Qw w' ((Nh l x y data fuel sum).1.map some) (some (Nh l x y data fuel sum).2) (.iface ty v)) ∨
 ((Nh l x y data fuel sum).2=0∧∃ p c,e=.returned (.tuple #[.agg #[V0 x.1,V0 (Yk x.2.1 1:Int),V0 (Yk x.2.1 2:Int),V0 (Yk x.2.1 3:Int),.slice p (Vm l y data fuel).2.2.length c],.nilIface])∧Below B w w'∧Ze [97] w w'∧Fr [bx] w w'∧Blk w' bx [P0 b,V0 data,V0 fuel,V0 ((sum+(Vm l y data fuel).2.2.length:Nat):Int)] 97∧w'.ownsRow w.heap.size 42 3 (.slice p (Vm l y data fuel).2.2.length c) (Vm l y data fuel).2.2.length ((Vm l y data fuel).2.2.flatMap Uf))
theorem Gr{B bx b:Nat}{l:Bl}{x y:Ent}{data fuel:Int}{sum:Nat}{w W:World}{ty:TypeId}{v:Value}{bl:List Int}{er:Int}(h:Nh l x y data fuel sum=(bl,er))(her:er≠0)(hb:Below B w W)(hO:Ze [97] w W)(hX:Fr [bx] w W)(hv:Qw W (bl.map some) (some er) (.iface ty v)):DevP B bx b l x y data fuel sum w (.returned (.tuple #[.agg #[V0 0,V0 0,V0 0,V0 0,S0],.iface ty v])) W:=by
 unfold DevP;rw[h];exact .inl ⟨her,ty,v,rfl,hb,hO,hX,hv⟩
theorem Lz(B Bi bx b:Nat)(pi:O0)(ni ci:Nat)(l:Bl)(data fuel:Int)(sum:Nat)(x y:Ent)(w:World)(hI:ImgR Bi b pi ni ci l w)(hk:Blk w bx [P0 b,V0 data,V0 fuel,V0 (sum:Int)] 97)(hfu:fuel≤1000)(hx:x.2.1.length≤1000)(hy:y.2.1.length≤1000)(hsm:sum≤16384)(hB0:B≤bx)(hBw:B≤w.heap.size) :
 C0 37 #[P0 bx,.agg #[V0 x.1,.string ⟨x.2.1.toArray⟩,V0 x.2.2],.agg #[V0 y.1,.string ⟨y.2.1.toArray⟩,V0 y.2.2]] w (DevP B bx b l x y data fuel sum w):=by
 have h1:=own_few l y data fuel hfu
 refine zin 96 Tryz.func37 ?_
 refine xa 2 [V0 x.1,.string ⟨x.2.1.toArray⟩,V0 x.2.2] 45 fun b1 W1 n1=>?_
 refine xa 0 [V0 y.1,.string ⟨y.2.1.toArray⟩,V0 y.2.2] 45 fun b2 W2 n2=>?_
 have f4:=n2.ne n1.blk
 refine xa 0 [V0 0,V0 0,V0 0,V0 0,S0] 40 fun b3 W3 n3=>?_
 have a4:=(n1.blk.below n2.below).below n3.below
 refine xb 7 0 a4 ?_
 refine xid 3 (x.1>(16777215:Int)) (fun f8=>?_) (fun f8=>?_)
 ·refine xb 4 2 a4 ?_
  refine xc 0 (args:=#[V0 x.2.2,V0 9]) (Vv x.2.2 9 _ (by omega)) ?_
  rintro _ W5 ⟨g9,v5,rfl,d4,a6⟩
  have k3:=n3.blk.below d4
  refine xsv 0 k3 [V0 0,V0 0,V0 0,V0 0,S0] fun W6 u6 k6=>?_
  have g3:=n3.ge0 (blB (blB (Below.refl B w) hBw n1.below) hBw n2.below)
  have b9:=a6.only (Ze.of_upd (T:=[40]) u6 k3 (by decide)) (by decide)
  have hB:=u6.below (blB (blB (blB (blB (Below.refl B w) hBw n1.below) hBw n2.below) hBw n3.below) hBw d4) (Nat.le_trans hBw g3)
  have hO:=(Ze.upd_new ((((show Ze [97] w _ from(Ze.of_below n1.below)).trans (Ze.of_below n2.below)).trans (Ze.of_below n3.below)).trans (Ze.of_below d4)) u6 g3)
  have hX:=(Fr.upd_new ((((show Fr [bx] w _ from(Fr.of_below n1.below)).trans (Fr.of_below n2.below)).trans (Fr.of_below n3.below)).trans (Fr.of_below d4)) u6 g3)
  exact xec 5 k6 (.tuple #[.agg #[V0 0,V0 0,V0 0,V0 0,S0],.iface g9 (v5)]) (Gr (dev_1 (by omega)) (by decide) hB hO hX b9)
 refine xb 5 1 a4 ?_
 refine xr 0 (args:=#[.string ⟨x.2.1.toArray⟩]) (Nj x.2.1 _ hx) fun W7 a2=>?_
 refine xa 3 [V0 0,V0 0,V0 0,V0 0] 51 fun b8 W8 n8=>?_
 refine xsv 0 n8.blk [V0 (↑(Yk x.2.1 0):Int),V0 (↑(Yk x.2.1 1):Int),V0 (↑(Yk x.2.1 2):Int),V0 (↑(Yk x.2.1 3):Int)] fun W9 u9 k9=>?_
 have g8:=n8.ge0 (blB (blB (blB (blB (Below.refl B w) hBw n1.below) hBw n2.below) hBw n3.below) hBw a2)
 refine xin 10 (Xt Ku x.2.1) (0:Int) (fun e8=>?_) (fun e8=>?_)
 ·have e2:=u9.blkT ((a4.below a2).below n8.below) n8.blk (by decide)
  refine xb 4 2 e2 ?_
  refine xc 1 (args:=#[V0 x.2.2,V0 (Xt Ku x.2.1)]) (Vv x.2.2 (Xt Ku x.2.1) _ (by omega)) ?_
  rintro _ h9 ⟨e1,g7,rfl,b4,a6⟩
  have k3:=(u9.blkT ((n3.blk.below a2).below n8.below) n8.blk (by decide)).below b4
  refine xsv 0 k3 [V0 0,V0 0,V0 0,V0 0,S0] fun h8 c9 f5=>?_
  have g3:=n3.ge0 (blB (blB (Below.refl B w) hBw n1.below) hBw n2.below)
  have c6:=a6.only (Ze.of_upd (T:=[40]) c9 k3 (by decide)) (by decide)
  have hB:=c9.below (blB (u9.below (blB (blB (blB (blB (blB (Below.refl B w) hBw n1.below) hBw n2.below) hBw n3.below) hBw a2) hBw n8.below) (Nat.le_trans hBw g8)) hBw b4) (Nat.le_trans hBw g3)
  have hO:=(Ze.upd_new ((Ze.upd_new (((((show Ze [97] w _ from(Ze.of_below n1.below)).trans (Ze.of_below n2.below)).trans (Ze.of_below n3.below)).trans (Ze.of_below a2)).trans (Ze.of_below n8.below)) u9 g8).trans (Ze.of_below b4)) c9 g3)
  have hX:=(Fr.upd_new ((Fr.upd_new (((((show Fr [bx] w _ from(Fr.of_below n1.below)).trans (Fr.of_below n2.below)).trans (Fr.of_below n3.below)).trans (Fr.of_below a2)).trans (Fr.of_below n8.below)) u9 g8).trans (Fr.of_below b4)) c9 g3)
  exact xec 5 f5 (.tuple #[.agg #[V0 0,V0 0,V0 0,V0 0,S0],.iface e1 (g7)]) (Gr (dev_2 (by omega) (by omega)) (by omega) hB hO hX c6)
 have k2:=u9.blkT (((n2.blk.below n3.below).below a2).below n8.below) n8.blk (by decide)
 refine xb 5 1 k2 ?_
 refine xr 0 (args:=#[.string ⟨y.2.1.toArray⟩]) (Gz y.2.1 _ hy) fun h4 a0=>?_
 refine xin 14 (Yo y.2.1) (0:Int) (fun d5=>?_) (fun d5=>?_)
 ·have e9:=k2.below a0
  refine xb 4 2 e9 ?_
  refine xc 1 (args:=#[V0 y.2.2,V0 (Yo y.2.1)]) (Vv y.2.2 (Yo y.2.1) _ (by omega)) ?_
  rintro _ h6 ⟨e6,g6,rfl,b0,a6⟩
  have k3:=((u9.blkT ((n3.blk.below a2).below n8.below) n8.blk (by decide)).below a0).below b0
  refine xsv 0 k3 [V0 0,V0 0,V0 0,V0 0,S0] fun i2 d0 h0=>?_
  have g3:=n3.ge0 (blB (blB (Below.refl B w) hBw n1.below) hBw n2.below)
  have c2:=a6.only (Ze.of_upd (T:=[40]) d0 k3 (by decide)) (by decide)
  have hB:=d0.below (blB (blB (u9.below (blB (blB (blB (blB (blB (Below.refl B w) hBw n1.below) hBw n2.below) hBw n3.below) hBw a2) hBw n8.below) (Nat.le_trans hBw g8)) hBw a0) hBw b0) (Nat.le_trans hBw g3)
  have hO:=(Ze.upd_new (((Ze.upd_new (((((show Ze [97] w _ from(Ze.of_below n1.below)).trans (Ze.of_below n2.below)).trans (Ze.of_below n3.below)).trans (Ze.of_below a2)).trans (Ze.of_below n8.below)) u9 g8).trans (Ze.of_below a0)).trans (Ze.of_below b0)) d0 g3)
  have hX:=(Fr.upd_new (((Fr.upd_new (((((show Fr [bx] w _ from(Fr.of_below n1.below)).trans (Fr.of_below n2.below)).trans (Fr.of_below n3.below)).trans (Fr.of_below a2)).trans (Fr.of_below n8.below)) u9 g8).trans (Fr.of_below a0)).trans (Fr.of_below b0)) d0 g3)
  exact xec 5 h0 (.tuple #[.agg #[V0 0,V0 0,V0 0,V0 0,S0],.iface e6 (g6)]) (Gr (dev_3 (by omega) (by omega) (by omega)) (by omega) hB hO hX c2)
 have e7:=((((((hI.below n1.below).below n2.below).below n3.below).below a2).below n8.below).only (Ze.of_upd (T:=[51]) u9 n8.blk (by decide)) (by decide)).below a0
 have c7:=(u9.blkT (((((hk.below n1.below).below n2.below).below n3.below).below a2).below n8.below) n8.blk (by decide)).below a0
 refine xc 6 (args:=#[P0 bx,V0 (↑(Kq y.2.1):Int)]) (Zb9 Bi bx b pi ni ci l data fuel (sum:Int) y _ e7 c7 hfu) ?_
 rintro e i4 e3
 rcases e3 with ⟨b6,h3,vo,rfl,a1,f7⟩|⟨b6,po,co,rfl,a1,g2⟩
 ·have e5:=(k2.below a0).below a1
  refine xb 19 2 e5 ?_
  refine xc 1 (args:=#[V0 y.2.2,.iface h3 (vo)]) (Rx y.2.2 (Vm l y data fuel).2.1 (Vm l y data fuel).1 _ _ f7) ?_
  rintro _ i5 ⟨e0,g4,rfl,a8,a6⟩
  have k3:=(((u9.blkT ((n3.blk.below a2).below n8.below) n8.blk (by decide)).below a0).below a1).below a8
  refine xsv 0 k3 [V0 0,V0 0,V0 0,V0 0,S0] fun i0 d1 g0=>?_
  have g3:=n3.ge0 (blB (blB (Below.refl B w) hBw n1.below) hBw n2.below)
  have c5:=a6.only (Ze.of_upd (T:=[40]) d1 k3 (by decide)) (by decide)
  have hB:=d1.below (blB (blB (blB (u9.below (blB (blB (blB (blB (blB (Below.refl B w) hBw n1.below) hBw n2.below) hBw n3.below) hBw a2) hBw n8.below) (Nat.le_trans hBw g8)) hBw a0) hBw a1) hBw a8) (Nat.le_trans hBw g3)
  have hO:=(Ze.upd_new ((((Ze.upd_new (((((show Ze [97] w _ from(Ze.of_below n1.below)).trans (Ze.of_below n2.below)).trans (Ze.of_below n3.below)).trans (Ze.of_below a2)).trans (Ze.of_below n8.below)) u9 g8).trans (Ze.of_below a0)).trans (Ze.of_below a1)).trans (Ze.of_below a8)) d1 g3)
  have hX:=(Fr.upd_new ((((Fr.upd_new (((((show Fr [bx] w _ from(Fr.of_below n1.below)).trans (Fr.of_below n2.below)).trans (Fr.of_below n3.below)).trans (Fr.of_below a2)).trans (Fr.of_below n8.below)) u9 g8).trans (Fr.of_below a0)).trans (Fr.of_below a1)).trans (Fr.of_below a8)) d1 g3)
  exact xec 5 g0 (.tuple #[.agg #[V0 0,V0 0,V0 0,V0 0,S0],.iface e0 (g4)]) (Gr (dev_4 (by omega) (by omega) (by omega) b6) b6 hB hO hX c5)
 have d6:=(blB (u9.below (blB (blB (blB (blB (blB (Below.refl B w) hBw n1.below) hBw n2.below) hBw n3.below) hBw a2) hBw n8.below) (Nat.le_trans hBw g8)) hBw a0).size
 have c0:=(k9.below a0).below a1
 refine xb 23 0 c0 ?_
 refine xin 3 (↑((Vm l y data fuel).2.2.length):Int) (↑(Yk x.2.1 0):Int) (fun d9=>?_) (fun d9=>?_)
 ·have e4:=((u9.blkT ((a4.below a2).below n8.below) n8.blk (by decide)).below a0).below a1
  refine xb 4 2 e4 ?_
  refine xc 0 (args:=#[V0 x.2.2,V0 13]) (Vv x.2.2 13 _ (by omega)) ?_
  rintro _ h5 ⟨f2,f9,rfl,a9,a6⟩
  have k3:=(((u9.blkT ((n3.blk.below a2).below n8.below) n8.blk (by decide)).below a0).below a1).below a9
  refine xsv 0 k3 [V0 0,V0 0,V0 0,V0 0,S0] fun i7 d2 g5=>?_
  have g3:=n3.ge0 (blB (blB (Below.refl B w) hBw n1.below) hBw n2.below)
  have c1:=a6.only (Ze.of_upd (T:=[40]) d2 k3 (by decide)) (by decide)
  have hB:=d2.below (blB (blB (blB (u9.below (blB (blB (blB (blB (blB (Below.refl B w) hBw n1.below) hBw n2.below) hBw n3.below) hBw a2) hBw n8.below) (Nat.le_trans hBw g8)) hBw a0) hBw a1) hBw a9) (Nat.le_trans hBw g3)
  have hO:=(Ze.upd_new ((((Ze.upd_new (((((show Ze [97] w _ from(Ze.of_below n1.below)).trans (Ze.of_below n2.below)).trans (Ze.of_below n3.below)).trans (Ze.of_below a2)).trans (Ze.of_below n8.below)) u9 g8).trans (Ze.of_below a0)).trans (Ze.of_below a1)).trans (Ze.of_below a9)) d2 g3)
  have hX:=(Fr.upd_new ((((Fr.upd_new (((((show Fr [bx] w _ from(Fr.of_below n1.below)).trans (Fr.of_below n2.below)).trans (Fr.of_below n3.below)).trans (Fr.of_below a2)).trans (Fr.of_below n8.below)) u9 g8).trans (Fr.of_below a0)).trans (Fr.of_below a1)).trans (Fr.of_below a9)) d2 g3)
  exact xec 5 g5 (.tuple #[.agg #[V0 0,V0 0,V0 0,V0 0,S0],.iface f2 (f9)]) (Gr (dev_5 (by omega) (by omega) (by omega) b6 (by omega)) (by decide) hB hO hX c1)
 have a3:=c7.below a1
 refine xb 8 3 a3 ?_
 refine xwm 2 ((sum:Int)+(↑((Vm l y data fuel).2.2.length):Int)) (↑(sum+((Vm l y data fuel).2.2.length)):Int) ?_
 refine xs 2 a3 [P0 b,V0 data,V0 fuel,V0 (↑(sum+((Vm l y data fuel).2.2.length)):Int)] fun i3 a5 f3=>?_
 refine xb 7 3 f3 ?_
 refine xid 3 ((↑(sum+((Vm l y data fuel).2.2.length)):Int)>(16384:Int)) (fun f1=>?_) (fun f1=>?_)
 ·have f0:=a5.blkT ((k2.below a0).below a1) a3 (by decide)
  refine xb 4 2 f0 ?_
  refine xc 0 (args:=#[V0 y.2.2,V0 2]) (Vv y.2.2 2 _ (by omega)) ?_
  rintro _ h7 ⟨d7,f6,rfl,a7,a6⟩
  have k3:=(a5.blkT (((u9.blkT ((n3.blk.below a2).below n8.below) n8.blk (by decide)).below a0).below a1) a3 (by decide)).below a7
  refine xsv 0 k3 [V0 0,V0 0,V0 0,V0 0,S0] fun i1 d3 g1=>?_
  have g3:=n3.ge0 (blB (blB (Below.refl B w) hBw n1.below) hBw n2.below)
  have c3:=a6.only (Ze.of_upd (T:=[40]) d3 k3 (by decide)) (by decide)
  have hB:=d3.below (blB (a5.below (blB (blB (u9.below (blB (blB (blB (blB (blB (Below.refl B w) hBw n1.below) hBw n2.below) hBw n3.below) hBw a2) hBw n8.below) (Nat.le_trans hBw g8)) hBw a0) hBw a1) hB0) hBw a7) (Nat.le_trans hBw g3)
  have hO:=(Ze.upd_new (((((Ze.upd_new (((((show Ze [97] w _ from(Ze.of_below n1.below)).trans (Ze.of_below n2.below)).trans (Ze.of_below n3.below)).trans (Ze.of_below a2)).trans (Ze.of_below n8.below)) u9 g8).trans (Ze.of_below a0)).trans (Ze.of_below a1)).trans (Ze.of_upd a5 a3 (by decide))).trans (Ze.of_below a7)) d3 g3)
  have hX:=(Fr.upd_new (((((Fr.upd_new (((((show Fr [bx] w _ from(Fr.of_below n1.below)).trans (Fr.of_below n2.below)).trans (Fr.of_below n3.below)).trans (Fr.of_below a2)).trans (Fr.of_below n8.below)) u9 g8).trans (Fr.of_below a0)).trans (Fr.of_below a1)).trans (Fr.of_upd a5 (by simp))).trans (Fr.of_below a7)) d3 g3)
  exact xec 5 g1 (.tuple #[.agg #[V0 0,V0 0,V0 0,V0 0,S0],.iface d7 (f6)]) (Gr (dev_6 (by omega) (by omega) (by omega) b6 (by omega) (by omega)) (by decide) hB hO hX c3)
 have d8:=a5.blkT (((u9.blkT ((a4.below a2).below n8.below) n8.blk (by decide)).below a0).below a1) a3 (by decide)
 refine xb 5 0 d8 ?_
 have b5:=a5.blkT c0 a3 (by decide)
 refine xb 1 1 b5 ?_
 refine xb 1 2 b5 ?_
 refine xb 1 3 b5 ?_
 have k3:=a5.blkT (((u9.blkT ((n3.blk.below a2).below n8.below) n8.blk (by decide)).below a0).below a1) a3 (by decide)
 refine xsv 2 k3 [V0 x.1,V0 (↑(Yk x.2.1 1):Int),V0 (↑(Yk x.2.1 2):Int),V0 (↑(Yk x.2.1 3):Int),.slice po ((Vm l y data fuel).2.2.length) co] fun i6 c4 h2=>?_
 have g3:=n3.ge0 (blB (blB (Below.refl B w) hBw n1.below) hBw n2.below)
 have b7:=c4.blkT f3 k3 (by decide)
 have hB:=c4.below (a5.below (blB (blB (u9.below (blB (blB (blB (blB (blB (Below.refl B w) hBw n1.below) hBw n2.below) hBw n3.below) hBw a2) hBw n8.below) (Nat.le_trans hBw g8)) hBw a0) hBw a1) hB0) (Nat.le_trans hBw g3)
 have hO:=(Ze.upd_new ((((Ze.upd_new (((((show Ze [97] w _ from(Ze.of_below n1.below)).trans (Ze.of_below n2.below)).trans (Ze.of_below n3.below)).trans (Ze.of_below a2)).trans (Ze.of_below n8.below)) u9 g8).trans (Ze.of_below a0)).trans (Ze.of_below a1)).trans (Ze.of_upd a5 a3 (by decide))) c4 g3)
 have hX:=(Fr.upd_new ((((Fr.upd_new (((((show Fr [bx] w _ from(Fr.of_below n1.below)).trans (Fr.of_below n2.below)).trans (Fr.of_below n3.below)).trans (Fr.of_below a2)).trans (Fr.of_below n8.below)) u9 g8).trans (Fr.of_below a0)).trans (Fr.of_below a1)).trans (Fr.of_upd a5 (by simp))) c4 g3)
 have c8:=c4.own2 (a5.own2 (Zh g2 d6) a3 (by decide)) k3 (by decide)
 exact xec 4 h2 (.tuple #[.agg #[V0 x.1,V0 (↑(Yk x.2.1 1):Int),V0 (↑(Yk x.2.1 2):Int),V0 (↑(Yk x.2.1 3):Int),.slice po ((Vm l y data fuel).2.2.length) co],.nilIface]) (.inr ⟨by rw[dev_7 (by omega) (by omega) (by omega) b6 (by omega) (by omega)],_,_,rfl,hB,hO,hX,b7,c8⟩)
def mpD:Mp:=(0,0,0)
theorem Zff{a:Act}{o:Oper}{p q:Operand}(x:Mp)(ho:o.op=.binOp .neq 42 p q 42)(hx:a.eval p=.agg (Uf x).toArray)(hy:a.eval q=.agg (Uf x).toArray)(V:World) :
 (execOp a.eval o).run Tryz.prog V=.ok (.value (.bool false)) V:=by
 have h1:=Tryz.underlying42
 have h2:=Tryz.underlying3
 have h4:Tryz.prog.stoodInHeld 42=false:=by kernel_rfl
 have hb:(binOp .neq 42 (.agg (Uf x).toArray) (.agg (Uf x).toArray)).run Tryz.prog V=.ok (.bool false) V:=by
  obtain⟨x0,x1,x2⟩:=x
  simp[go_sem,Program.fieldsOf,h1,h2,h4,Op.eqFields,Uf]
 have hg:=run_eqGuard_agg (P:=Tryz.prog) (w:=V) .neq 42 p q (Uf x).toArray (Uf x).toArray (by kernel_rfl)
 simp only[execOp,ho,hx,hy,Sem.run_bind,hg,Result.andThen_ok,hb]
 rfl
abbrev Zv:=Dv×O0×Nat
def zvD:Zv:=(((0,0,0,0),[]),none,0)
def Ca(z:Zv):List Value:=[V0 z.1.1.1,V0 z.1.1.2.1,V0 z.1.1.2.2.1,V0 z.1.1.2.2.2,.slice z.2.1 z.1.2.length z.2.2]
theorem Vc(z:Zv):(Ca z).length=5:=rfl
structure DevsR(w:World)(p:Option Addr)(c:Nat)(Z:List Zv):Prop where
 row:Sts Ca w (.slice p Z.length c) Z
 each:∀ i,i<Z.length→Sts Uf w (.slice (Z.getD i zvD).2.1 (Z.getD i zvD).1.2.length (Z.getD i zvD).2.2) (Z.getD i zvD).1.2
theorem DevsR.below{w W:World}{p:O0}{c:Nat}{Z:List Zv}(h:DevsR w p c Z)(hb:B0 w W):DevsR W p c Z:=⟨h.row.below hb,fun i hi=>(h.each i hi).below hb⟩
theorem DevsR.rowN{w:World}{p:O0}{c n:Nat}{Z:List Zv}(h:DevsR w p c Z)(hn:Z.length=n):Sl w (.slice p n c) n (Z.flatMap Ca):=by subst hn;exact h.row
theorem DevsR.someN{w:World}{p:O0}{c n i:Nat}{Z:List Zv}(h:DevsR w p c Z)(hn:Z.length=n)(hi:i<n):p.isSome=true:=by subst hn;exact(Sts.cell h.row Vc zvD (k:=i) (i:=0) hi rfl).1
def Xl(B:Nat)(w:World)(Z:List Zv):Prop:=∀ i,i<Z.length→w.ownsRow B 42 3 (.slice (Z.getD i zvD).2.1 (Z.getD i zvD).1.2.length (Z.getD i zvD).2.2) (Z.getD i zvD).1.2.length ((Z.getD i zvD).1.2.flatMap Uf)
theorem Xl.nil(B:Nat)(w:World):Xl B w []:=fun i hi=>absurd hi (by simp)
theorem Xl.below{B:Nat}{w W:World}{Z:List Zv}(h:Xl B w Z)(hb:B0 w W):Xl B W Z:=fun i hi=>Zb (h i hi) hb
theorem Xl.only{B:Nat}{w W:World}{Z:List Zv}{T:List TypeId}(h:Xl B w Z)(hO:Ze T w W)(hT:T.contains 42=false):Xl B W Z:=fun i hi=>Zi (h i hi) hO hT
theorem Xl.snoc{B n:Nat}{w:World}{Z:List Zv}{d:Dv}{p:O0}{c:Nat}(h:Xl B w Z)(hn:d.2.length=n)(ho:w.ownsRow B 42 3 (.slice p n c) n (d.2.flatMap Uf)):Xl B w (Z++[(d,p,c)]):=by
 subst hn
 intro i hi
 by_cases e:i<Z.length
 ·have:=h i e
  rw[show(Z++[(d,p,c)]).getD i zvD=Z.getD i zvD from by simp[List.getD,List.getElem?_append_left e]];exact this
 ·obtain rfl:i=Z.length:=by simp at hi;omega
  rw[show(Z++[(d,p,c)]).getD Z.length zvD=(d,p,c) from by simp[List.getD]];exact ho
theorem Zfn{B:Nat}{w:World}{p:O0}{c:Nat}{Z:List Zv}(hM:Xl B w Z)(ho:w.ownsRow B 40 5 (.slice p Z.length c) Z.length (Z.flatMap Ca)):DevsR w p c Z:=⟨Zg ho,fun i hi=>Zg (hM i hi)⟩
theorem devsO_d{l:Bl}{top details data fuel:Int}(h:(Zd l details 3 fuel).fs≠[]):Qp l top details data fuel=((Qz (Zd l details 3 fuel)).1,(Qz (Zd l details 3 fuel)).2,[]):=if_pos h
theorem devsO_t{l:Bl}{top details data fuel:Int}(h:(Zd l details 3 fuel).fs=[])(h2:(Zd l top 1 fuel).fs≠[]):Qp l top details data fuel=((Qz (Zd l top 1 fuel)).1,(Qz (Zd l top 1 fuel)).2,[]):=by unfold Qp;rw[if_neg (fun q=>q h),if_pos h2]
theorem Zb1{l:Bl}{top details data fuel:Int}(h:(Zd l details 3 fuel).fs=[])(h2:(Zd l top 1 fuel).fs=[])(h3:4096<(Zd l details 3 fuel).es.length):Qp l top details data fuel=([details],2,[]):=by unfold Qp;rw[if_neg (fun q=>q h),if_neg (fun q=>q h2),if_pos h3]
theorem Oo{l:Bl}{top details data fuel:Int}(h:(Zd l details 3 fuel).fs=[])(h2:(Zd l top 1 fuel).fs=[])(h3:¬ 4096<(Zd l details 3 fuel).es.length)(h4:Hj (Zd l details 3 fuel).es (Zd l top 1 fuel).es=1):Qp l top details data fuel=([details],18,[]):=by unfold Qp;rw[if_neg (fun q=>q h),if_neg (fun q=>q h2),if_neg h3,if_pos h4]
theorem devsO_p2{l:Bl}{top details data fuel:Int}(h:(Zd l details 3 fuel).fs=[])(h2:(Zd l top 1 fuel).fs=[])(h3:¬ 4096<(Zd l details 3 fuel).es.length)(h4:Hj (Zd l details 3 fuel).es (Zd l top 1 fuel).es=2):Qp l top details data fuel=([top],18,[]):=by unfold Qp;rw[if_neg (fun q=>q h),if_neg (fun q=>q h2),if_neg h3,if_neg (by omega),if_pos h4]
theorem Hr{l:Bl}{top details data fuel:Int}(h:(Zd l details 3 fuel).fs=[])(h2:(Zd l top 1 fuel).fs=[])(h3:¬ 4096<(Zd l details 3 fuel).es.length)(h4:Hj (Zd l details 3 fuel).es (Zd l top 1 fuel).es=0):Qp l top details data fuel=Sr l (Zd l details 3 fuel).es (Zd l top 1 fuel).es data fuel:=by unfold Qp;rw[if_neg (fun q=>q h),if_neg (fun q=>q h2),if_neg h3,if_neg (by omega),if_neg (by omega)]
end Go.Proofs.YtgphgaehfdfjjaaGreat
namespace Go.Proofs.YtgphgaehfdfjjaaGreat
set_option maxHeartbeats 8000000
set_option maxRecDepth 100000
open Go.RowKit
set_option linter.unusedVariables false
theorem rows_in{n:Nat}{P:Program}{row:String}{args:Array Value}{w:World}{R:Value→World→Prop}(h:Rows P row args w R):RowsIn Fence.wide n P row args w R :=
 fun c cs _=>let ⟨v,w',r,q⟩:=h c cs;⟨v,w',r,stepsIn_wide.2 q⟩
theorem Ze4{P:Program}{l n:Nat}{o:Oper}{a:Act}{w:World}{K:Act→World→Prop}{Q:Exit→Act→World→Prop}(hd:∀ c,o.op≠.defer c)(h:o.wp P a w K Q):o.wpIn (Fence.wide.inRound l) n P a w K Q:=by
 unfold Oper.wpIn
 refine⟨fun f _=>trivial,?_⟩
 rw[Oper.semAt_plain _ _ _ hd]
 unfold Oper.wp at h
 generalize (execOp a.eval o).run P w=r at *
 cases r with
 | ok nx w' =>
  cases nx with
  | value v=>exact h
  | skip=>exact h
  | defer d=>exact h
  | enter f args=>exact⟨(fun q=>by cases q),callsIn_wide.2 h⟩
  | row r args=>exact⟨(fun q=>by cases q),rows_in h⟩
  | _=>exact h.elim
 | halt hh w' =>
  cases hh with
  | panic v=>exact h
  | _=>exact h.elim
theorem op_in{P:Program}{l n i:Nat}{ops:Array Oper}{a:Act}{w:World}{K K':Act→World→Prop}{Q:Exit→Act→World→Prop}(hQ:¬ LetsOut Q)(hd:∀ o∈ops.toList,∀ c,o.op≠.defer c)(hK:∀ a w,K a w→K' a w)(h:wpOp P ops Q i K a w):wpOpIn (Fence.wide.inRound l) n P ops Q i K' a w:=by
 unfold wpOp at h
 unfold wpOpIn
 cases ho:ops[i]? with
 | none=>rw[ho] at h;exact hK _ _ h
 | some o =>
  rw[ho] at h
  dsimp only at h ⊢
  split at h
  ·rename_i hw
   rw[if_pos hw]
   have a0:o∈ops.toList:=by
    obtain⟨hi,e⟩:=Array.getElem?_eq_some_iff.1 ho
    rw[←e];exact Array.mem_toList_iff.2 (Array.getElem_mem hi)
   exact Oper.wpIn_mono hK (Ze4 (hd o a0) (h.resolve_right fun q=>hQ q.2))
  ·rename_i hw
   rw[if_neg hw]
   exact⟨fun f _=>trivial,hK _ _ h⟩
theorem any_in{P:Program}{l n:Nat}{md:Region.Mode}{ops:Array Oper}{Q:Exit→Act→World→Prop}(hQ:¬ LetsOut Q)(hd:∀ o∈ops.toList,∀ c,o.op≠.defer c):∀ (fuel:Nat) (L:Array Bool) (a:Act) (w:World),wpAny P md ops Q fuel L a w→wpAnyIn (Fence.wide.inRound l) n P md ops Q fuel L a w
 | 0,_,_,_,h=>h
 | fuel+1,L,a,w,h=>⟨h.1,fun i hi=>op_in hQ hd (fun a w=>any_in hQ hd fuel _ a w) (h.2 i hi)⟩
theorem h_regIn{P:Program}{l0 n0 id:Nat}{l:List Oper}{Q:Exit→Act→World→Prop}{a:Act}{w:World}(S:World→Prop)(n:Nat)(hn:l.toArray.size=n)(L:Array Bool)(hL:Array.replicate n false=L)(hm:P.follows .mixedOrders=true)(hQ:¬ LetsOut Q)(hd:∀ o∈l,∀ c,o.op≠.defer c)(hS:S w.drew)(h:S w.drew→wpAnyH P .any l.toArray Q S n L a w.drew):(Code.region id l.toArray true).wpIn (Fence.wide.inRound l0) n0 P Q a w :=
 wpIn_region_any hm (any_in hQ (by simpa using hd) _ _ _ _ (wpAny_of_held _ _ _ _ (by rw[hn,hL];exact h hS)))
def SeqL{α:Type}(P:Program)(g:Nat)(lb:Array Value)(encs:α→Array Value)(Kp:World→World→Prop)(q:Nat→Prop)(R:List α)(w:World):Prop :=
 ∀ (l:Nat) (J Jx:Nat→World→Prop) (W:World),B0 w W →
  (∀ k A B row,J k A→A.grownBy B row→(∀ r,row=some r→q r)→J k B) →
  (∀ k x V,R[k]? = some x→J k V→YieldAt Fence.wide 2 P l (encs x) V fun e U =>
   (e=.returned (.bool true)∧J (k+1) U∧Kp V U)∨(e=.returned (.bool false)∧Jx k U)) →
  J 0 W →
  CallsIn Fence.wide 3 P g (#[.func (.yield l) #[] #[]]++lb) W fun e U=>(∃ v,e=.returned v)∧(J R.length U∨∃ k,k<R.length∧Jx k U)
def rdPost(B:Nat)(Kp:World→World→Prop)(I:Nat→World→Prop)(Ix:Code→Nat→World→Prop)(k:Nat)(W:World):Exit→Act→World→Prop
 | .normal,_,V=>KeepsFrom B W V∧Kp W V∧I (k+1) V
 | .ret,_,V=>KeepsFrom B W V∧Ix .ret k V
 | .exit id,_,V=>KeepsFrom B W V∧Ix (.exit id) k V
 | .goto _,_,_=>False
 | .panic _,_,_=>False
 | .outgrown,_,_=>False
structure RecAt(n:Nat)(r:Loop)(W:World):Prop where
 l:W.heap[n+1]? = some (.loop r)
 d:W.heap[n]? = some (.deferred (some []))
theorem RecAt.lt{n:Nat}{r:Loop}{W:World}(h:RecAt n r W):n+1<W.heap.size:=(Array.getElem?_eq_some_iff.1 h.l).1
theorem RecAt.kept{n:Nat}{r:Loop}{A B:World}{row:Option Nat}(h:RecAt n r A)(hg:A.grownBy B row)(hr:∀ k,row=some k→k<n):RecAt n r B :=
 ⟨(hg.block _ h.lt (fun e=>by have:=hr _ e.symm;omega)).trans h.l,(hg.block _ (by have:=h.lt;omega) (fun e=>by have:=hr _ e.symm;omega)).trans h.d⟩
theorem RecAt.from{n:Nat}{r:Loop}{A B:World}(h:RecAt n r A)(k:KeepsFrom n A B):RecAt n r B:=⟨k.same _ _ (by omega) h.l rfl,k.same _ _ (Nat.le_refl _) h.d rfl⟩
theorem RecAt.put{n:Nat}{r:Loop}{A:World}(h:RecAt n r A)(r':Loop):RecAt n r' (A.putObj (n+1) (.loop r')) :=
 ⟨World.putObj_heap_same h.lt,(World.putObj_heap_other (by omega)).trans h.d⟩
theorem Rn{α:Type}{P:Program}{g:Operand}{ps:Array Tmp}{assign body:Code}{Q:Exit→Act→World→Prop}{a:Act}{w:World}{gf:Nat}{lb:Array Value}
  (hg:a.eval g=.func (.func gf) #[] lb) (eg:∀ args w,(callFunc gf args).run P w=.ok (.enter gf args) w) {encs:α→Array Value} {R:List α} (p q:Nat→Prop) (hp:∀ b,p b→b<w.heap.size) (hq:∀ b,q b→b<w.heap.size)
  (hseq:SeqL P gf lb encs (Keeps p) q R w) (hps:∀ x,(encs x).size=ps.size)
  (I:Nat→World→Prop) (Ix:Code→Nat→World→Prop) (hI:∀ k A B row,I k A→A.grownBy B row→(∀ r,row=some r→q r∨w.heap.size≤r∧∃ o:Obj,A.heap[r]? = some o∧o.isCells=false)→I k B)
  (hIx:∀ c k A B row,Ix c k A→A.grownBy B row→(∀ r,row=some r→w.heap.size≤r∧∃ o:Obj,A.heap[r]? = some o∧o.isCells=false)→Ix c k B) (h0:I 0 w) (a₁:α→Act)
  (hassign:∀ (l k:Nat) (x:α) (W:World) (K:Act→World→Prop),R[k]? = some x→K (a₁ x) W →
   assign.wpIn (Fence.wide.inRound l) 2 P (Exit.then K (fun _ _ _=>False)) { tmps:=(ps.zip (encs x)).foldl (fun t (p,v)=>t.setIfInBounds p v) a.tmps,defers:=[] } W)
  (hbody:∀ (l k:Nat) (x:α) (W:World),w.heap.size≤l→R[k]? = some x→I k W→body.wpIn (Fence.wide.inRound l) 2 P (rdPost w.heap.size (Keeps p) I Ix k W) (a₁ x) W)
  (hdone:∀ (D:Nat) (W:World),w.heap.size≤D→I R.length W→W.heap[D]? = some (.deferred (some []))→Q .normal { a with defers:={ target:=.collected D,args:=#[] }::a.defers } W)
  (hstop:∀ (D:Nat) (c:Code) (k:Nat) (W:World),w.heap.size≤D→k<R.length→Ix c k W→W.heap[D]? = some (.deferred (some []))→c.wp P Q { a with defers:={ target:=.collected D,args:=#[] }::a.defers } W) :
  (Code.rangeFunc g ps assign body).wp P Q a w:=by
 refine(wpIn_wide (n:=4)).1 (wpIn_rangeFunc fun fn _=>?_)
 obtain⟨a2,a0⟩:∃ a2:LoopState→Option Code→Loop,a2=fun st pe=>{ state:=st,pending:=pe,fn,tmps:=a.tmps,params:=ps,assign,body,defers:=w.heap.size }:=⟨_,rfl⟩
 obtain⟨W1,b0⟩:∃ W1,(w.alloc (.deferred (some []))).alloc (.loop (a2 .ready none))=W1:=⟨_,rfl⟩
 have b5:RecAt w.heap.size (a2 .ready none) W1:=by
  rw[←b0]
  refine⟨?_,(Below.heap_alloc _ _ _ (by simp)).trans (World.alloc_heap_new w _)⟩
  have:=World.alloc_heap_new (w.alloc (.deferred (some []))) (.loop (a2 .ready none))
  rwa [World.size_alloc] at this
 have b9:I 0 W1:=by
  rw[←b0]
  exact hI _ _ _ none (hI _ _ _ none h0 (World.grownBy_alloc _ _ _) (fun _ e=>by cases e)) (World.grownBy_alloc _ _ _) (fun _ e=>by cases e)
 have b7:B0 w W1:=by
  rw[←b0];exact((Below.refl _ w).alloc (Nat.le_refl _) _).alloc (by simp) _
 refine⟨w.heap.size+1,[{ target:=.collected w.heap.size,args:=#[] }],W1,{ target:=.fn (.func gf) lb,args:=#[.func (.yield (w.heap.size+1)) #[] #[]] },W1,gf,
  #[.func (.yield (w.heap.size+1)) #[] #[]]++lb,W1,?_,?_,fun _ _=>trivial,?_,fun _=>by omega,?_⟩
 ·rw[←b0,a0];exact run_enterLoop_outer _ _ _ _ _
 ·simp only[resolve,hg]
  simp[go_sem]
 ·simp[invoke,go_sem,eg]
 refine(hseq (w.heap.size+1) (fun k W=>I k W∧RecAt w.heap.size (a2 .ready none) W) (fun k W=>∃ c,Ix c k W∧RecAt w.heap.size (a2 .done (some c)) W) W1 b7
  (fun k A B row hs b4 hr=>⟨hI _ _ _ _ hs.1 b4 (fun r e=>.inl (hr r e)),hs.2.kept b4 (fun r e=>hq r (hr r e))⟩) ?_ ⟨b9,b5⟩).mono ?_
 ·rintro k x W hx ⟨hi,hl⟩
  have hy:=run_yield (P:=P) (args:=encs x) hl.l (by rw[a0];exact hps x)
  rw[a0] at hy
  refine⟨fn,_,assign,body,hy,roundIn_of_wpIn trivial (hassign _ k x W _ hx ⟨_,run_beginRound hl.l (by rw[a0]),?_⟩)⟩
  obtain⟨Wb,a6⟩:∃ Wb,W.putObj (w.heap.size+1) (.loop { a2 .ready none with state:=.busy })=Wb:=⟨_,rfl⟩
  have c0:RecAt w.heap.size (a2 .busy none) Wb:=by
   have:=hl.put (a2 .busy none)
   rw[a0] at this a6
   rw[a6] at this
   rw[a0]
   exact this
  have b6:I k Wb:=by
   rw[←a6]
   exact hI _ _ _ _ hi (grownBy_putObj' W _ _) (fun r e=>.inr (by cases e;exact⟨by omega,_,hl.l,rfl⟩))
  have b8:Keeps p W Wb:=by
   rw[←a6]
   exact Av hp W _ _ _ (by omega) hl.l rfl rfl
  rw[a6]
  refine wpIn_mono (hbody _ k x Wb (by omega) hx b6) ?_
  have b2:∀ (a1:Option Code) (V:World),KeepsFrom w.heap.size Wb V→RecAt w.heap.size (a2 .busy none) V∧∃ U,U=V.putObj (w.heap.size+1) (.loop (a2 (if a1.isNone then .ready else .done) a1)) ∧
    (Instr.endRound (w.heap.size+1) a1).run P V=.ok (.bool a1.isNone) U∧RecAt w.heap.size (a2 (if a1.isNone then .ready else .done) a1) U:=fun a1 V hk=>by
   have hv:=c0.from hk
   have he:=run_endRound (P:=P) a1 hv.l
   refine⟨hv,_,rfl,?_,hv.put _⟩
   rw[a0] at he ⊢
   exact he
  have b3:∀ {V:World} {r r':Loop} {k:Nat},RecAt w.heap.size r V→I k V→I k (V.putObj (w.heap.size+1) (.loop r')):=fun hv h=>hI _ _ _ _ h (grownBy_putObj' _ _ _) (fun r e=>.inr (by cases e;exact⟨by omega,_,hv.l,rfl⟩))
  have a5:∀ {V:World} {r r':Loop} {c:Code} {k:Nat},RecAt w.heap.size r V→Ix c k V→Ix c k (V.putObj (w.heap.size+1) (.loop r')):=fun hv h=>hIx _ _ _ _ _ h (grownBy_putObj' _ _ _) (fun r e=>by cases e;exact⟨by omega,_,hv.l,rfl⟩)
  rintro e a3 V a4
  cases e with
  | normal =>
   obtain⟨a9,b1,a8⟩:=a4
   obtain⟨hv,U,rfl,hr,a7⟩:=b2 none V a9
   exact⟨_,_,hr,.inl ⟨rfl,⟨b3 hv a8,a7⟩,(b8.trans b1).trans (Av hp V _ _ _ (by omega) hv.l rfl rfl)⟩⟩
  | ret =>
   obtain⟨a9,a8⟩:=a4
   obtain⟨hv,U,rfl,hr,a7⟩:=b2 (some .ret) V a9
   exact⟨_,_,hr,.inr ⟨rfl,.ret,a5 hv a8,a7⟩⟩
  | exit id =>
   obtain⟨a9,a8⟩:=a4
   obtain⟨hv,U,rfl,hr,a7⟩:=b2 (some (.exit id)) V a9
   exact⟨_,_,hr,.inr ⟨rfl,.exit id,a5 hv a8,a7⟩⟩
  | goto t=>exact a4.elim
  | panic ch=>exact a4.elim
  | outgrown=>exact a4.elim
 ·rintro e W2 ⟨⟨v,rfl⟩,(⟨hi,hl⟩|⟨k,hk,c,hi,hl⟩)⟩
  ·have he:=run_endLoop (P:=P) hl.l (by rw[a0];simp)
   rw[show(a2 .ready none).pending=none by rw[a0]] at he
   exact⟨none,_,he,hdone _ _ (Nat.le_refl _) (hI _ _ _ _ hi (grownBy_putObj' _ _ _) (fun r e=>.inr (by cases e;exact⟨by omega,_,hl.l,rfl⟩))) ((World.putObj_heap_other (by omega)).trans hl.d)⟩
  ·have he:=run_endLoop (P:=P) hl.l (by rw[a0];simp)
   rw[show(a2 .done (some c)).pending=some c by rw[a0]] at he
   exact⟨some c,_,he,wpIn_wide.2 (hstop _ c k _ (Nat.le_refl _) hk (hIx _ _ _ _ _ hi (grownBy_putObj' _ _ _) (fun r e=>by cases e;exact⟨by omega,_,hl.l,rfl⟩)) ((World.putObj_heap_other (by omega)).trans hl.d))⟩
end Go.Proofs.YtgphgaehfdfjjaaGreat
namespace Go.Proofs.YtgphgaehfdfjjaaGreat
set_option maxHeartbeats 8000000
set_option maxRecDepth 100000
open Go.RowKit Go.Extern.Stop Go.Stop Go.Extern
set_option linter.unusedVariables false
attribute [local irreducible] wpList wpAnyH Code.wp Oper.wp Go
abbrev Rnd:=Option Nat×Option Nat
def Xe(i j:Nat)(a b:List Ent):List Rnd :=
 match a,b with
 | [],[]=>[]
 | [],_::b=>(none,some j)::Xe i (j+1) [] b
 | _::a,[]=>(some i,none)::Xe (i+1) j a []
 | x::a,y::b =>
  if x.1=y.1 then(some i,some j)::Xe (i+1) (j+1) a b
  else if x.1<y.1 then(some i,none)::Xe (i+1) j a (y::b)
  else(none,some j)::Xe i (j+1) (x::a) b
termination_by a.length+b.length
theorem Lu(i j:Nat):Xe i j [] []=[]:=by rw[Xe]
theorem Mg(i j:Nat)(y:Ent)(b:List Ent):Xe i j [] (y::b)=(none,some j)::Xe i (j+1) [] b:=by rw[Xe]
theorem Mw(i j:Nat)(x:Ent)(a:List Ent):Xe i j (x::a) []=(some i,none)::Xe (i+1) j a []:=by rw[Xe]
theorem Nz{i j:Nat}{x y:Ent}{a b:List Ent}(h:x.1=y.1):Xe i j (x::a) (y::b)=(some i,some j)::Xe (i+1) (j+1) a b:=by rw[Xe,if_pos h]
theorem La{i j:Nat}{x y:Ent}{a b:List Ent}(h:x.1<y.1):Xe i j (x::a) (y::b)=(some i,none)::Xe (i+1) j a (y::b):=by rw[Xe,if_neg (by omega),if_pos h]
theorem Mj{i j:Nat}{x y:Ent}{a b:List Ent}(h:y.1<x.1):Xe i j (x::a) (y::b)=(none,some j)::Xe i (j+1) (x::a) b:=by rw[Xe,if_neg (by omega),if_neg (by omega)]
def Sv(r:Rnd):Bool:=r.1.isSome&&r.2.isSome
theorem Bf:∀ (a b:List Ent) (i j:Nat),(Xe i j a b).all Sv=true→Hj a b=0∧Xe i j a b=(List.range a.length).map fun k=>(some (i+k),some (j+k))
 | [],[],i,j,_=>⟨rfl,by rw[Lu];rfl⟩
 | [],y::b,i,j,h=>by rw[Mg] at h;simp[Sv] at h
 | x::a,[],i,j,h=>by rw[Mw] at h;simp[Sv] at h
 | x::a,y::b,i,j,h=>by
  by_cases e:x.1=y.1
  ·rw[Nz e] at h ⊢
   rw[List.all_cons] at h
   obtain⟨h1,h2⟩:=Bf a b (i+1) (j+1) (by simpa [Sv] using h)
   refine⟨?_,?_⟩
   ·show(if x.1=y.1 then Hj a b else _)=0
    rw[if_pos e,h1]
   ·rw[h2,List.length_cons,List.range_succ_eq_map,List.map_cons,List.map_map]
    congr 1
    apply List.map_congr_left
    intro k _
    simp only[Function.comp,Nat.succ_eq_add_one]
    congr 2<;>omega
  ·by_cases q:x.1<y.1
   ·rw[La q] at h;simp[Sv] at h
   ·rw[Mj (by omega)] at h;simp[Sv] at h
theorem Hh:∀ (a b:List Ent) (i j k:Nat) (r:Rnd),((Xe i j a b).take k).all Sv=true→(Xe i j a b)[k]? = some r→Sv r=false→Hj a b=(if r.1=none then 1 else 2)
 | [],[],i,j,k,r,_,h,_=>by rw[Lu] at h;simp at h
 | [],y::b,i,j,k,r,hp,h,hr=>by
  rw[Mg] at hp h
  cases k with
  | zero=>simp at h;subst h;rfl
  | succ k=>simp[Sv] at hp
 | x::a,[],i,j,k,r,hp,h,hr=>by
  rw[Mw] at hp h
  cases k with
  | zero=>simp at h;subst h;rfl
  | succ k=>simp[Sv] at hp
 | x::a,y::b,i,j,k,r,hp,h,hr=>by
  by_cases e:x.1=y.1
  ·rw[Nz e] at hp h
   cases k with
   | zero=>simp at h;subst h;simp[Sv] at hr
   | succ k =>
    have ih:=Hh a b (i+1) (j+1) k r (by simpa [Sv] using hp) (by simpa using h) hr
    show(if x.1=y.1 then Hj a b else _)=_
    rw[if_pos e,ih]
  ·by_cases q:x.1<y.1
   ·rw[La q] at hp h
    cases k with
    | zero =>
     simp at h;subst h
     show(if x.1=y.1 then Hj a b else if x.1<y.1 then 2 else 1)=2
     rw[if_neg e,if_pos q]
    | succ k=>simp[Sv] at hp
   ·rw[Mj (by omega)] at hp h
    cases k with
    | zero =>
     simp at h;subst h
     show(if x.1=y.1 then Hj a b else if x.1<y.1 then 2 else 1)=1
     rw[if_neg e,if_neg q]
    | succ k=>simp[Sv] at hp
end Go.Proofs.YtgphgaehfdfjjaaGreat
namespace Go.Proofs.YtgphgaehfdfjjaaGreat
set_option maxHeartbeats 8000000
set_option maxRecDepth 100000
open Go.RowKit
set_option linter.unusedVariables false
attribute [local go_sem] Oper.semAt_some
def Tb(g off n cap:Nat)(i:Nat)(v:Value):Prop:=(i=n∧∃ a c,v=.slice a 0 c)∨(i<n∧n≤cap∧v=.slice (some ⟨g,off+3*i,none⟩) (n-i) (cap-i))
def Nr(g off:Nat):Option Nat→Value
 | none=>.pointer none
 | some i=>.pointer (some ⟨g,off+3*i,none⟩)
def encR(ga oa gb ob:Nat)(r:Rnd):Array Value:=#[Nr ga oa r.1,Nr gb ob r.2]
def lenAt(W:World)(b:Nat):Nat:=match W.cell? ⟨b,0,none⟩ with
 | some (.slice _ n _)=>n
 | _=>0
theorem Xp{W:World}{b n c:Nat}{a:O0}{t:TypeId}(h:Blk W b [.slice a n c] t):lenAt W b=n:=by
 unfold lenAt
 rw[h.cell (i:=0) rfl]
theorem Gh{α:Type}{L:List α}{k:Nat}{x:α}{r:List α}(h:L.drop k=x::r):L[k]? = some x∧k<L.length∧L.drop (k+1)=r:=by
 have h1:k<L.length:=by
  rcases Nat.lt_or_ge k L.length with q|q
  ·exact q
  ·rw[List.drop_eq_nil_of_le q] at h;cases h
 rw[List.drop_eq_getElem_cons h1] at h
 simp only[List.cons.injEq] at h
 exact⟨by rw[List.getElem?_eq_getElem h1,h.1],h1,h.2⟩
theorem Jc{A:List Ent}{i n:Nat}(hA:A.length=n)(hi:i<n):A.drop i=A.getD i Zm::A.drop (i+1):=by
 subst hA
 rw[List.drop_eq_getElem_cons hi,show A.getD i Zm=A[i] from by simp[List.getD,hi]]
theorem Gs{T:Nat→Prop}{W X V:World}{B k B1 B2:Nat}{u x:Value}{t:TypeId}{J:Nat→World→Prop}(hV:X.setCell ⟨B,0,none⟩ u=V)(m:Blk X B [x] t)(hT:¬ T B)(hB:B=B1∨B=B2)
 (hJ:∀ k X Y row,J k X→X.grownBy Y row→(∀ r,row=some r→r=B1∨r=B2)→J k Y) (hK:Keeps T W X) (h:J k X):Blk V B [u] t∧Keeps T W V∧J k V∧∀ b cs t',b≠B→Blk X b cs t'→Blk V b cs t':=by
 subst hV
 exact⟨m.set 0 u,hK.setCell hT u,hJ _ _ _ _ h (grownBy_setCell' X B u) (fun r e=>by cases e;exact hB),fun b cs t' hb h'=>h'.other (p:=⟨B,0,none⟩) hb u⟩
theorem Jh{T:Nat→Prop}{W X:World}{N k B1 B2:Nat}{J:Nat→World→Prop}(hJ:∀ k X Y row,J k X→X.grownBy Y row→(∀ r,row=some r→r=B1∨r=B2)→J k Y)(hK:Keeps T W X)(h:J k X):Keeps T W (X.drewN N)∧J k (X.drewN N) :=
 ⟨hK.trans ⟨Nat.le_refl _,fun _ _=>rfl⟩,hJ _ _ _ none h ⟨rfl,rfl,rfl,Nat.le_refl _,fun _ _ _=>rfl⟩ (fun _ e=>by cases e)⟩
theorem Vr{g off n cap i m:Nat}(hi:i<n)(hm:n-i=m+1)(hc:n≤cap):(cap-i=1→Tb g off n cap (i+1) (.slice (some ⟨g,off+3*i,none⟩) m 0))∧(Tb g off n cap (i+1) (.slice (some ⟨g,off+3*i+3,none⟩) m (cap-i-1))):=by
 refine⟨fun h=>?_,?_⟩
 ·obtain rfl:m=0:=by omega
  exact .inl ⟨by omega,_,_,rfl⟩
 ·by_cases h:m=0
  ·subst h;exact .inl ⟨by omega,_,_,rfl⟩
  ·refine .inr ⟨by omega,hc,?_⟩
   rw[show off+3*(i+1)=off+3*i+3 by omega,show n-(i+1)=m by omega,show cap-(i+1)=cap-i-1 by omega]
theorem Qk{T:Nat→Prop}{V U:World}{b:Nat}{cs:List Value}{t:TypeId}(h:Keeps T V U)(hb:T b)(m:Blk V b cs t):Blk U b cs t:=(h.block b hb).trans m
theorem Zgh(l B1 B2:Nat)(ga oa na ca gb ob nb cb:Nat)(A E:List Ent)(hA:A.length=na)(hE:E.length=nb)(hna:na≤1000000)(hnb:nb≤1000000)(hB:B1≠B2)(T:Nat→Prop)(hT1:¬ T B1)(hT2:¬ T B2)
  (J Jx:Nat→World→Prop)
  (hJ:∀ k X Y row,J k X→X.grownBy Y row→(∀ r,row=some r→r=B1∨r=B2)→J k Y)
  (hY:∀ k x V,(Xe 0 0 A E)[k]? = some x→J k V→YieldAt Fence.wide 2 Tryz.prog l (encR ga oa gb ob x) V fun e U =>
   (e=.returned (.bool true)∧J (k+1) U∧Keeps (fun b=>b=B1∨b=B2∨T b) V U)∨(e=.returned (.bool false)∧Jx k U))
  (W:World) (va vb:Value) (k1:Blk W B1 [va] 37) (k2:Blk W B2 [vb] 37) (hva:Tb ga oa na ca 0 va) (hvb:Tb gb ob nb cb 0 vb)
  (hkA:∀ i,i<na→W.cell? ⟨ga,oa+3*i,none⟩=some (V0 (A.getD i Zm).1)∧T ga) (hkE:∀ i,i<nb→W.cell? ⟨gb,ob+3*i,none⟩=some (V0 (E.getD i Zm).1)∧T gb) (h0:J 0 W) :
  CallsIn Fence.wide 3 Tryz.prog 56 #[.func (.yield l) #[] #[],P0 B1,P0 B2] W fun e W'=>(∃ v,e=.returned v)∧(J (Xe 0 0 A E).length W'∨∃ k,k<(Xe 0 0 A E).length∧Jx k W'):=by
 refine callsIn_of_wp Tryz.func56 rfl trivial ?_ rfl
 simp only[Tryz.ntmps56,List.size_toArray,List.length_cons,List.length_nil,Nat.reduceAdd,Nat.reduceSub,Array.replicate_succ,Array.replicate_zero,List.push_toArray,List.append_toArray,List.nil_append,List.cons_append]
 gi_wp2
 gi_loopw [] (fun wr=>∃ (k i j:Nat) (va vb:Value),i≤na∧j≤nb∧k≤(Xe 0 0 A E).length∧(Xe 0 0 A E).drop k=Xe i j (A.drop i) (E.drop j)∧Blk wr B1 [va] 37∧Blk wr B2 [vb] 37∧Tb ga oa na ca i va∧Tb gb ob nb cb j vb∧J k wr∧Keeps T W wr)
  (fun wr=>lenAt wr B1+lenAt wr B2)
 case atStart=>exact⟨0,0,0,va,vb,Nat.zero_le _,Nat.zero_le _,Nat.zero_le _,by simp,k1,k2,hva,hvb,h0,Keeps.refl _ _⟩
 case round =>
  obtain⟨k,i,j,va,vb,hi,hj,hk,d4,m1,m2,hva,hvb,b3,a8⟩:=hrel
  have c8:=hva
  have c5:=hvb
  rcases hva with ⟨rfl,a1,c1,rfl⟩|⟨a4,b6,rfl⟩
  ·rcases hvb with ⟨rfl,a2,c2,rfl⟩|⟨a3,d6,rfl⟩
   ·have e4:(Xe 0 0 A E).drop k=[]:=by rw[d4,show A.drop i=[] from List.drop_eq_nil_of_le (by omega),show E.drop j=[] from List.drop_eq_nil_of_le (by omega),Lu]
    have e0:k=(Xe 0 0 A E).length:=by
     have:=List.drop_eq_nil_iff.1 e4;omega
    have z1:=m1.cell (i:=0) rfl
    have z2:=m2.cell (i:=0) rfl
    have f1:=m1.frozen 0
    have f2:=m2.frozen 0
    gi_wp2
    go_end0
    exact⟨⟨_,rfl⟩,.inl (e0▸b3)⟩
   ·have c0:(Xe 0 0 A E).drop k=(none,some j)::Xe i (j+1) (A.drop i) (E.drop (j+1)):=by rw[d4,show A.drop i=[] from List.drop_eq_nil_of_le (by omega),Jc hE a3,Mg]
    obtain⟨hx,a9,a7⟩:=Gh c0
    obtain⟨p,hp⟩:∃ m,nb-j=m+1:=⟨nb-j-1,by omega⟩
    rw[hp] at m2
    have d3:=Vr (g:=gb) (off:=ob) a3 hp d6
    have d7:=Lib.hid hp;clear hp
    have y2:wr.cell? ⟨gb,ob+3*j,none⟩=some (V0 (E.getD j Zm).1):=(a8.cell (hkE j a3).2).trans (hkE j a3).1
    have c3:=Xp m1
    have c4:=Xp m2
    have z1:=m1.cell (i:=0) rfl
    have z2:=m2.cell (i:=0) rfl
    have f1:=m1.frozen 0
    have f2:=m2.frozen 0
    gi_wp2
    gi_big_quiet_th (fail)
    gi_wp2
    gi_big_quiet_th (fail)
    gi_wp2
    all_goals
     generalize hV:World.setCell _ _ _=V
     obtain⟨q2,c6,b7,b4⟩:=Gs (x:=_) (B1:=B1) (B2:=B2) hV m2 hT2 (.inr rfl) hJ (Jh hJ a8 b3).1 (Jh hJ a8 b3).2
     have q1:=b4 _ _ _ hB m1
     obtain⟨fn,b5,a5,d0,hy,hR⟩:=hY k (none,some j) V hx b7
     have b0:=hy;clear hy
     simp only[encR,Nr] at b0
     rw[b0]
     refine⟨fun _=>by omega,hR.mono ?_⟩
     rintro e U (⟨rfl,c7,a0⟩|⟨rfl,a6⟩)
     ·have r1:=Qk a0 (.inl rfl) q1
      have r2:=Qk a0 (.inr (.inl rfl)) q2
      have c9:=Xp r1
      have b9:=Xp r2
      gi_wp2
      go_roundw
      case rel =>
       exact⟨k+1,_,j+1,_,_,hi,a3,a9,a7,r1,r2,(by first|exact c8|(rw[←d5.out];exact c8)),(by first|exact d3.2|exact d3.1 (by omega)),c7,c6.trans ⟨a0.size,fun b hb=>a0.block b (.inr (.inr hb))⟩⟩
      case measure=>rw[c9,b9,c3,c4];omega
     ·gi_wp2
      refine bodyPost_ret (results_none rfl _ _ _) rfl ?_
      exact⟨⟨_,rfl⟩,.inr ⟨k,a9,a6⟩⟩
  ·rcases hvb with ⟨rfl,a2,c2,rfl⟩|⟨a3,d6,rfl⟩
   ·have c0:(Xe 0 0 A E).drop k=(some i,none)::Xe (i+1) j (A.drop (i+1)) (E.drop j):=by rw[d4,show E.drop j=[] from List.drop_eq_nil_of_le (by omega),Jc hA a4,Mw]
    obtain⟨hx,a9,a7⟩:=Gh c0
    obtain⟨m,hm⟩:∃ m,na-i=m+1:=⟨na-i-1,by omega⟩
    rw[hm] at m1
    have b8:=Vr (g:=ga) (off:=oa) a4 hm b6
    have d5:=Lib.hid hm;clear hm
    have y1:wr.cell? ⟨ga,oa+3*i,none⟩=some (V0 (A.getD i Zm).1):=(a8.cell (hkA i a4).2).trans (hkA i a4).1
    have c3:=Xp m1
    have c4:=Xp m2
    have z1:=m1.cell (i:=0) rfl
    have z2:=m2.cell (i:=0) rfl
    have f1:=m1.frozen 0
    have f2:=m2.frozen 0
    gi_wp2
    gi_big_quiet_th (fail)
    gi_wp2
    gi_big_quiet_th (fail)
    gi_wp2
    all_goals
     generalize hV:World.setCell _ _ _=V
     obtain⟨q1,c6,b7,b4⟩:=Gs (x:=_) (B1:=B1) (B2:=B2) hV m1 hT1 (.inl rfl) hJ (Jh hJ a8 b3).1 (Jh hJ a8 b3).2
     have q2:=b4 _ _ _ (Ne.symm hB) m2
     obtain⟨fn,b5,a5,d0,hy,hR⟩:=hY k (some i,none) V hx b7
     have b0:=hy;clear hy
     simp only[encR,Nr] at b0
     rw[b0]
     refine⟨fun _=>by omega,hR.mono ?_⟩
     rintro e U (⟨rfl,c7,a0⟩|⟨rfl,a6⟩)
     ·have r1:=Qk a0 (.inl rfl) q1
      have r2:=Qk a0 (.inr (.inl rfl)) q2
      have c9:=Xp r1
      have b9:=Xp r2
      gi_wp2
      go_roundw
      case rel =>
       exact⟨k+1,i+1,_,_,_,a4,hj,a9,a7,r1,r2,(by first|exact b8.2|exact b8.1 (by omega)),(by first|exact c5|(rw[←d7.out];exact c5)),c7,c6.trans ⟨a0.size,fun b hb=>a0.block b (.inr (.inr hb))⟩⟩
      case measure=>rw[c9,b9,c3,c4];omega
     ·gi_wp2
      refine bodyPost_ret (results_none rfl _ _ _) rfl ?_
      exact⟨⟨_,rfl⟩,.inr ⟨k,a9,a6⟩⟩
   ·by_cases hc:(A.getD i Zm).1=(E.getD j Zm).1
    ·have c0:(Xe 0 0 A E).drop k=(some i,some j)::Xe (i+1) (j+1) (A.drop (i+1)) (E.drop (j+1)):=by rw[d4,Jc hA a4,Jc hE a3,Nz hc]
     obtain⟨hx,a9,a7⟩:=Gh c0
     obtain⟨m,hm⟩:∃ m,na-i=m+1:=⟨na-i-1,by omega⟩
     rw[hm] at m1
     have b8:=Vr (g:=ga) (off:=oa) a4 hm b6
     have d5:=Lib.hid hm;clear hm
     have y1:wr.cell? ⟨ga,oa+3*i,none⟩=some (V0 (A.getD i Zm).1):=(a8.cell (hkA i a4).2).trans (hkA i a4).1
     obtain⟨p,hp⟩:∃ m,nb-j=m+1:=⟨nb-j-1,by omega⟩
     rw[hp] at m2
     have d3:=Vr (g:=gb) (off:=ob) a3 hp d6
     have d7:=Lib.hid hp;clear hp
     have y2:wr.cell? ⟨gb,ob+3*j,none⟩=some (V0 (E.getD j Zm).1):=(a8.cell (hkE j a3).2).trans (hkE j a3).1
     have c3:=Xp m1
     have c4:=Xp m2
     obtain⟨ya,b1⟩:∃ y,(A.getD i Zm).1=y:=⟨_,rfl⟩
     obtain⟨yb,b2⟩:∃ y,(E.getD j Zm).1=y:=⟨_,rfl⟩
     rw[b1] at y1
     rw[b2] at y2
     have d1:decide (ya≤yb)=true:=by simp;omega
     have d2:decide (yb≤ya)=true:=by simp;omega
     have w1:(ya≤yb)=True:=by simp;omega
     have w2:(yb≤ya)=True:=by simp;omega
     have e1:((p:Int)+1==0)=false:=beq_false_of_ne (by omega)
     have e2:((m:Int)+1==0)=false:=beq_false_of_ne (by omega)
     have b1:=Lib.hid b1
     have b2:=Lib.hid b2
     clear d1 d2
     have z1:=m1.cell (i:=0) rfl
     have z2:=m2.cell (i:=0) rfl
     have f1:=m1.frozen 0
     have f2:=m2.frozen 0
     gi_wp2
     gi_big_quiet_th (fail)
     gi_wp2
     gi_big_quiet_th (fail)
     gi_wp2
     all_goals
      generalize hV:World.setCell (World.setCell _ _ _) _ _=V
      generalize hX:World.setCell (World.drewN _ _) _ _=X at hV
      obtain⟨q1,d9,e3,d8⟩:=Gs (x:=_) (B1:=B1) (B2:=B2) hX m1 hT1 (.inl rfl) hJ (Jh hJ a8 b3).1 (Jh hJ a8 b3).2
      obtain⟨q2,c6,b7,b4⟩:=Gs (x:=_) (B1:=B1) (B2:=B2) hV (d8 _ _ _ (Ne.symm hB) m2) hT2 (.inr rfl) hJ d9 e3
      replace q1:=b4 _ _ _ hB q1
      obtain⟨fn,b5,a5,d0,hy,hR⟩:=hY k (some i,some j) V hx b7
      have b0:=hy;clear hy
      simp only[encR,Nr] at b0
      rw[b0]
      refine⟨fun _=>by omega,hR.mono ?_⟩
      rintro e U (⟨rfl,c7,a0⟩|⟨rfl,a6⟩)
      ·have r1:=Qk a0 (.inl rfl) q1
       have r2:=Qk a0 (.inr (.inl rfl)) q2
       have c9:=Xp r1
       have b9:=Xp r2
       gi_wp2
       go_roundw
       case rel =>
        exact⟨k+1,i+1,j+1,_,_,a4,a3,a9,a7,r1,r2,(by first|exact b8.2|exact b8.1 (by omega)),(by first|exact d3.2|exact d3.1 (by omega)),c7,c6.trans ⟨a0.size,fun b hb=>a0.block b (.inr (.inr hb))⟩⟩
       case measure=>rw[c9,b9,c3,c4];omega
      ·gi_wp2
       refine bodyPost_ret (results_none rfl _ _ _) rfl ?_
       exact⟨⟨_,rfl⟩,.inr ⟨k,a9,a6⟩⟩
    ·by_cases hl:(A.getD i Zm).1<(E.getD j Zm).1
     ·have c0:(Xe 0 0 A E).drop k=(some i,none)::Xe (i+1) j (A.drop (i+1)) (E.drop j):=by rw[d4,Jc hA a4,Jc hE a3,La hl]
      obtain⟨hx,a9,a7⟩:=Gh c0
      obtain⟨m,hm⟩:∃ m,na-i=m+1:=⟨na-i-1,by omega⟩
      rw[hm] at m1
      have b8:=Vr (g:=ga) (off:=oa) a4 hm b6
      have d5:=Lib.hid hm;clear hm
      have y1:wr.cell? ⟨ga,oa+3*i,none⟩=some (V0 (A.getD i Zm).1):=(a8.cell (hkA i a4).2).trans (hkA i a4).1
      obtain⟨p,hp⟩:∃ m,nb-j=m+1:=⟨nb-j-1,by omega⟩
      rw[hp] at m2
      have d3:=Vr (g:=gb) (off:=ob) a3 hp d6
      have d7:=Lib.hid hp;clear hp
      have y2:wr.cell? ⟨gb,ob+3*j,none⟩=some (V0 (E.getD j Zm).1):=(a8.cell (hkE j a3).2).trans (hkE j a3).1
      have c3:=Xp m1
      have c4:=Xp m2
      obtain⟨ya,b1⟩:∃ y,(A.getD i Zm).1=y:=⟨_,rfl⟩
      obtain⟨yb,b2⟩:∃ y,(E.getD j Zm).1=y:=⟨_,rfl⟩
      rw[b1] at y1
      rw[b2] at y2
      have d1:decide (ya≤yb)=true:=by simp;omega
      have d2:decide (yb≤ya)=false:=by simp;omega
      have w1:(ya≤yb)=True:=by simp;omega
      have w2:(yb≤ya)=False:=by simp;omega
      have e1:((p:Int)+1==0)=false:=beq_false_of_ne (by omega)
      have e2:((m:Int)+1==0)=false:=beq_false_of_ne (by omega)
      have b1:=Lib.hid b1
      have b2:=Lib.hid b2
      clear d1 d2
      have z1:=m1.cell (i:=0) rfl
      have z2:=m2.cell (i:=0) rfl
      have f1:=m1.frozen 0
      have f2:=m2.frozen 0
      gi_wp2
      gi_big_quiet_th (fail)
      gi_wp2
      gi_big_quiet_th (fail)
      gi_wp2
      all_goals
       generalize hV:World.setCell _ _ _=V
       obtain⟨q1,c6,b7,b4⟩:=Gs (x:=_) (B1:=B1) (B2:=B2) hV m1 hT1 (.inl rfl) hJ (Jh hJ a8 b3).1 (Jh hJ a8 b3).2
       have q2:=b4 _ _ _ (Ne.symm hB) m2
       obtain⟨fn,b5,a5,d0,hy,hR⟩:=hY k (some i,none) V hx b7
       have b0:=hy;clear hy
       simp only[encR,Nr] at b0
       rw[b0]
       refine⟨fun _=>by omega,hR.mono ?_⟩
       rintro e U (⟨rfl,c7,a0⟩|⟨rfl,a6⟩)
       ·have r1:=Qk a0 (.inl rfl) q1
        have r2:=Qk a0 (.inr (.inl rfl)) q2
        have c9:=Xp r1
        have b9:=Xp r2
        gi_wp2
        go_roundw
        case rel =>
         exact⟨k+1,i+1,_,_,_,a4,hj,a9,a7,r1,r2,(by first|exact b8.2|exact b8.1 (by omega)),(by first|exact c5|(rw[←d7.out];exact c5)),c7,c6.trans ⟨a0.size,fun b hb=>a0.block b (.inr (.inr hb))⟩⟩
        case measure=>rw[c9,b9,c3,c4];omega
       ·gi_wp2
        refine bodyPost_ret (results_none rfl _ _ _) rfl ?_
        exact⟨⟨_,rfl⟩,.inr ⟨k,a9,a6⟩⟩
     ·have c0:(Xe 0 0 A E).drop k=(none,some j)::Xe i (j+1) (A.drop i) (E.drop (j+1)):=by rw[d4,Jc hA a4,Jc hE a3,Mj (show(E.getD j Zm).1<(A.getD i Zm).1 by omega)]
      obtain⟨hx,a9,a7⟩:=Gh c0
      obtain⟨m,hm⟩:∃ m,na-i=m+1:=⟨na-i-1,by omega⟩
      rw[hm] at m1
      have b8:=Vr (g:=ga) (off:=oa) a4 hm b6
      have d5:=Lib.hid hm;clear hm
      have y1:wr.cell? ⟨ga,oa+3*i,none⟩=some (V0 (A.getD i Zm).1):=(a8.cell (hkA i a4).2).trans (hkA i a4).1
      obtain⟨p,hp⟩:∃ m,nb-j=m+1:=⟨nb-j-1,by omega⟩
      rw[hp] at m2
      have d3:=Vr (g:=gb) (off:=ob) a3 hp d6
      have d7:=Lib.hid hp;clear hp
      have y2:wr.cell? ⟨gb,ob+3*j,none⟩=some (V0 (E.getD j Zm).1):=(a8.cell (hkE j a3).2).trans (hkE j a3).1
      have c3:=Xp m1
      have c4:=Xp m2
      obtain⟨ya,b1⟩:∃ y,(A.getD i Zm).1=y:=⟨_,rfl⟩
      obtain⟨yb,b2⟩:∃ y,(E.getD j Zm).1=y:=⟨_,rfl⟩
      rw[b1] at y1
      rw[b2] at y2
      have d1:decide (ya≤yb)=false:=by simp;omega
      have d2:decide (yb≤ya)=true:=by simp;omega
      have w1:(ya≤yb)=False:=by simp;omega
      have w2:(yb≤ya)=True:=by simp;omega
      have e1:((p:Int)+1==0)=false:=beq_false_of_ne (by omega)
      have e2:((m:Int)+1==0)=false:=beq_false_of_ne (by omega)
      have b1:=Lib.hid b1
      have b2:=Lib.hid b2
      clear d1 d2
      have z1:=m1.cell (i:=0) rfl
      have z2:=m2.cell (i:=0) rfl
      have f1:=m1.frozen 0
      have f2:=m2.frozen 0
      gi_wp2
      gi_big_quiet_th (fail)
      gi_wp2
      gi_big_quiet_th (fail)
      gi_wp2
      all_goals
       generalize hV:World.setCell _ _ _=V
       obtain⟨q2,c6,b7,b4⟩:=Gs (x:=_) (B1:=B1) (B2:=B2) hV m2 hT2 (.inr rfl) hJ (Jh hJ a8 b3).1 (Jh hJ a8 b3).2
       have q1:=b4 _ _ _ hB m1
       obtain⟨fn,b5,a5,d0,hy,hR⟩:=hY k (none,some j) V hx b7
       have b0:=hy;clear hy
       simp only[encR,Nr] at b0
       rw[b0]
       refine⟨fun _=>by omega,hR.mono ?_⟩
       rintro e U (⟨rfl,c7,a0⟩|⟨rfl,a6⟩)
       ·have r1:=Qk a0 (.inl rfl) q1
        have r2:=Qk a0 (.inr (.inl rfl)) q2
        have c9:=Xp r1
        have b9:=Xp r2
        gi_wp2
        go_roundw
        case rel =>
         exact⟨k+1,_,j+1,_,_,hi,a3,a9,a7,r1,r2,(by first|exact c8|(rw[←d5.out];exact c8)),(by first|exact d3.2|exact d3.1 (by omega)),c7,c6.trans ⟨a0.size,fun b hb=>a0.block b (.inr (.inr hb))⟩⟩
        case measure=>rw[c9,b9,c3,c4];omega
       ·gi_wp2
        refine bodyPost_ret (results_none rfl _ _ _) rfl ?_
        exact⟨⟨_,rfl⟩,.inr ⟨k,a9,a6⟩⟩
theorem Zc2(a:O0)(n c:Nat)(b:O0)(m d:Nat)(w:World):C0 36 #[.slice a n c,.slice b m d] w fun e w' =>
 e=.returned (.func (.func 56) #[] #[.pointer (some ⟨w.heap.size,0,none⟩),.pointer (some ⟨w.heap.size+1,0,none⟩)]) ∧
 w'=(w.alloc (.cells #[.slice a n c] 37)).alloc (.cells #[.slice b m d] 37):=by
 go_enter Tryz.func36,Tryz.ntmps36
 go_wp2
 go_ret
 exact⟨rfl,rfl⟩
theorem Zdo{w W:World}{p:O0}{n c:Nat}{A:List Ent}(hA:A.length=n)(s:Sts Hl w (.slice p n c) A)(hb:B0 w W) :
 ∃ g o,Tb g o n c 0 (.slice p n c)∧(∀ i,i<n→W.cell? ⟨g,o+3*i,none⟩=some (V0 (A.getD i Zm).1)∧g<w.heap.size)∧(n≠0→p=some ⟨g,o,none⟩):=by
 subst hA
 by_cases h0:A.length=0
 ·exact⟨0,0,.inl ⟨h0.symm,p,c,by rw[h0]⟩,fun i hi=>by omega,fun h=>absurd h0 h⟩
 ·have s':Sl w (.slice p A.length c) A.length (A.flatMap Hl):=s
  rcases s' with ⟨a,d,h1,h2,_⟩|⟨g,o,a0,h1,h2,_,h4⟩
  ·simp only[Value.slice.injEq] at h1;omega
  ·simp only[Value.slice.injEq] at h1
   obtain⟨rfl,_,rfl⟩:=h1
   refine⟨g,o,.inr ⟨by omega,h2,by simp⟩,fun i hi=>?_,fun _=>rfl⟩
   have hc:=Ew Yg A i 0 Zm hi (by decide)
   have h5:=h4 (i*3+0) (V0 (A.getD i Zm).1) (hc.trans rfl)
   rw[show o+(i*3+0)=o+3*i by omega] at h5
   refine⟨Mt hb h5,?_⟩
   rcases Nat.lt_or_ge g w.heap.size with q|q
   ·exact q
   ·rw[World.cell?,Array.getElem?_eq_none q] at h5;simp at h5
theorem Mk(a:O0)(n c:Nat)(b:O0)(m d:Nat)(w:World):C0 36 #[.slice a n c,.slice b m d] w (fun e w'=>∃ b1 b2,e=.returned (.func (.func 56) #[] #[P0 b1,P0 b2])∧B0 w w'∧w.heap.size≤b1∧w.heap.size≤b2∧b1≠b2∧Blk w' b1 [.slice a n c] 37∧Blk w' b2 [.slice b m d] 37) :=
 (Zc2 a n c b m d w).mono fun e w' ⟨h1,h2⟩=>by
  subst h1 h2
  have h3:(w.alloc (.cells #[.slice a n c] 37)).heap.size=w.heap.size+1:=World.size_alloc _ _
  have k2:=Blk.new (w.alloc (.cells #[.slice a n c] 37)) [.slice b m d] 37
  rw[h3] at k2
  exact⟨_,_,rfl,((Below.refl _ w).alloc (Nat.le_refl _) _).alloc (by simp) _,Nat.le_refl _,Nat.le_succ _,by omega,(Blk.new w [.slice a n c] 37).alloc _,k2⟩
theorem Sc{w W:World}{B1 B2 na ca nb cb:Nat}{pa pb:O0}{A E:List Ent}(hA:A.length=na)(hE:E.length=nb)(hna:na≤1000000)(hnb:nb≤1000000)(sA:Sts Hl w (.slice pa na ca) A)(sE:Sts Hl w (.slice pb nb cb) E)
 (hb:B0 w W) (g1:w.heap.size≤B1) (g2:w.heap.size≤B2) (hB:B1≠B2) (k1:Blk W B1 [.slice pa na ca] 37) (k2:Blk W B2 [.slice pb nb cb] 37) :
 ∃ ga oa gb ob,SeqL Tryz.prog 56 #[P0 B1,P0 B2] (encR ga oa gb ob) (Keeps fun b=>b=B1∨b=B2∨(na≠0∧b=ga)∨(nb≠0∧b=gb)) (fun r=>r=B1∨r=B2) (Xe 0 0 A E) W∧(na≠0→pa=some ⟨ga,oa,none⟩)∧(nb≠0→pb=some ⟨gb,ob,none⟩):=by
 obtain⟨ga,oa,ra,ka,ea⟩:=Zdo hA sA hb
 obtain⟨gb,ob,rb,kb,eb⟩:=Zdo hE sE hb
 refine⟨ga,oa,gb,ob,?_,ea,eb⟩
 intro l J Jx V hV hJ hY h0
 have ha:na≠0→ga<w.heap.size:=fun h=>(ka 0 (by omega)).2
 have he:nb≠0→gb<w.heap.size:=fun h=>(kb 0 (by omega)).2
 have hT:¬ ((na≠0∧B1=ga)∨(nb≠0∧B1=gb)):=by
  rintro(⟨h,e⟩|⟨h,e⟩)
  ·have:=ha h;omega
  ·have:=he h;omega
 have a2:¬ ((na≠0∧B2=ga)∨(nb≠0∧B2=gb)):=by
  rintro(⟨h,e⟩|⟨h,e⟩)
  ·have:=ha h;omega
  ·have:=he h;omega
 have a1:Blk V B1 _ _:=k1.below hV
 have a0:Blk V B2 _ _:=k2.below hV
 exact Zgh l B1 B2 ga oa na ca gb ob nb cb A E hA hE hna hnb hB (fun b=>(na≠0∧b=ga)∨(nb≠0∧b=gb)) hT a2 J Jx hJ hY V _ _ a1 a0 ra rb
  (fun i hi=>⟨Mt hV (ka i hi).1,.inl ⟨by omega,rfl⟩⟩) (fun i hi=>⟨Mt hV (kb i hi).1,.inr ⟨by omega,rfl⟩⟩) h0
end Go.Proofs.YtgphgaehfdfjjaaGreat
namespace Go.Proofs.YtgphgaehfdfjjaaGreat
set_option maxHeartbeats 8000000
set_option maxRecDepth 100000
open Go.RowKit
set_option linter.unusedVariables false
theorem Sz{P:Program}{l n:Nat}{ops:Array Oper}{Q:Exit→Act→World→Prop}(hQ:¬ LetsOut Q):∀ (r:List Oper) (a:Act) (w:World),(∀ o∈r,∀ c,o.op≠.defer c)→wpList P ops Q r a w→wpListIn (Fence.wide.inRound l) n P ops Q r a w
 | [],_,_,_,h=>h
 | o::r,a,w,hd,h=>by
  unfold wpList at h
  unfold wpListIn
  split at h
  ·rename_i hw
   rw[if_pos hw]
   exact Oper.wpIn_mono (fun a w=>Sz hQ r a w (fun o ho=>hd o (by simp[ho]))) (Ze4 (hd o (by simp)) (h.resolve_right fun q=>hQ q.2))
  ·rename_i hw
   rw[if_neg hw]
   exact⟨fun _ _=>trivial,Sz hQ r _ _ (fun o ho=>hd o (by simp[ho])) h⟩
theorem Qh{P:Program}{l0 n0 id:Nat}{l:List Oper}{Q:Exit→Act→World→Prop}{a:Act}{w:World}(hQ:¬ LetsOut Q)(hd:∀ o∈l,∀ c,o.op≠.defer c)(h:wpList P l.toArray Q l a w):(Code.region id l.toArray false).wpIn (Fence.wide.inRound l0) n0 P Q a w :=
 wpIn_region_lit (Sz hQ l a w hd h)
structure RdS(w0:World)(S:List Nat)(W V:World):Prop where
 ko:KeepsOthers W V
 fr:∀ k,k<w0.heap.size→k∉S→V.heap[k]? = W.heap[k]?
 le:W.heap.size≤V.heap.size
 l0:w0.heap.size≤W.heap.size
theorem RdS.refl{w0 W:World}(S:List Nat)(h:w0.heap.size≤W.heap.size):RdS w0 S W W:=⟨⟨Nat.le_refl _,fun _ _ h _=>h⟩,fun _ _ _=>rfl,Nat.le_refl _,h⟩
theorem RdS.below{w0 W V U:World}{S:List Nat}(h:RdS w0 S W V)(hb:Below V.heap.size V U):RdS w0 S W U :=
 ⟨h.ko.trans (Pd hb),fun k hk hn=>(hb.block k (Nat.lt_of_lt_of_le hk (Nat.le_trans h.l0 h.le))).trans (h.fr k hk hn),Nat.le_trans h.le hb.size,h.l0⟩
theorem RdS.upd{w0 W V U:World}{S:List Nat}{b:Nat}{cs:List Value}{t:TypeId}(h:RdS w0 S W V)(u:Upd V b U)(k:Blk V b cs t)(hb:b∈S∨w0.heap.size≤b):RdS w0 S W U :=
 ⟨h.ko.trans (Za3 u k),fun i hi hn=>(u.block i (fun e=>by subst e;rcases hb with hb|hb;exact hn hb;omega)).trans (h.fr i hi hn),Nat.le_trans h.le (Nat.le_of_eq u.size.symm),h.l0⟩
theorem RdS.frm{w0 W V U:World}{S:List Nat}{b:Nat}{cs:List Value}{t:TypeId}(h:RdS w0 S W V)(u:Fr [b] V U)(k:Blk V b cs t)(hb:b∈S):RdS w0 S W U :=
 ⟨h.ko.trans ⟨u.size,fun i o hi ho=>(u.block i (Array.getElem?_eq_some_iff.1 hi).1 (by
  simp only[List.mem_singleton]
  rintro rfl
  rw[show V.heap[i]? = _ from k] at hi
  cases hi;cases ho)).trans hi⟩,fun i hi hn=>(u.block i (Nat.lt_of_lt_of_le hi (Nat.le_trans h.l0 h.le)) (by simp only[List.mem_singleton];rintro rfl;exact hn hb)).trans (h.fr i hi hn),Nat.le_trans h.le u.size,h.l0⟩
theorem RdS.grown{w0 W V U:World}{S:List Nat}{size n:Nat}{e:TypeId}{v:Value}{xs:List Value}(h:RdS w0 S W V)(hg:V.grownBy U v.ownBlock)(k:V.ownsRow w0.heap.size e size v n xs):RdS w0 S W U :=
 ⟨h.ko.trans ⟨hg.size,fun i o hi ho=>by
   rw[hg.block i (Array.getElem?_eq_some_iff.1 hi).1 (fun q=>by
    rcases k.2 with ⟨rfl,_⟩|⟨g,a0,a1,rfl,_,hh,_⟩
    ·cases q
    ·simp only[Value.ownBlock,Option.some.injEq] at q
     subst q
     rw[hh] at hi
     cases hi
     cases ho)]
   exact hi⟩,
  fun i hi hn=>(hg.block i (Nat.lt_of_lt_of_le hi (Nat.le_trans h.l0 h.le)) (fun e=>by have:=(k.lt i e.symm).1;omega)).trans (h.fr i hi hn),Nat.le_trans h.le hg.size,h.l0⟩
def Zel(q:Nat→Prop)(n:Nat)(A:World)(row:Option Nat):Prop:=∀ r,row=some r→q r∨n≤r∧∃ o:Obj,A.heap[r]? = some o∧o.isCells=false
theorem fr_ab{S:List Nat}{q:Nat→Prop}{w0 A B:World}{row:Option Nat}(h:Fr S w0 A)(hg:A.grownBy B row)(hr:Zel q w0.heap.size A row)(hq:∀ r,q r→r∈S):Fr S w0 B :=
 ⟨Nat.le_trans h.size hg.size,fun k hk hn=>(hg.block k (Nat.lt_of_lt_of_le hk h.size) (fun e=>by
  rcases hr k e.symm with h1|h1
  ·exact hn (hq _ h1)
  ·omega)).trans (h.block k hk hn)⟩
theorem Zae{n m:Nat}{q:Nat→Prop}{w A B:World}{row:Option Nat}(h:Below n w A)(hg:A.grownBy B row)(hr:Zel q m A row)(hn:n≤w.heap.size)(hm:n≤m)(hq:∀ r,q r→n≤r):Below n w B :=
 h.grown hg (Nat.le_trans hn h.size) (fun r e=>by rcases hr r e with h1|h1;exact hq _ h1;omega)
theorem own_ab{q:Nat→Prop}{A B:World}{row:Option Nat}{base size n m:Nat}{e:TypeId}{v:Value}{xs:List Value}(k:A.ownsRow base e size v n xs)(hg:A.grownBy B row)(hr:Zel q m A row)(hq:∀ r,q r→r<base):B.ownsRow base e size v n xs:=by
 obtain⟨h1,h2⟩:=k
 refine⟨h1,?_⟩
 rcases h2 with h2|⟨g,a0,a1,hv,hb,hh,r⟩
 ·exact Or.inl h2
 ·refine Or.inr ⟨g,a0,a1,hv,hb,?_,r⟩
  rw[hg.block g (Array.getElem?_eq_some_iff.1 hh).1 (fun q=>by
   rcases hr g q.symm with h3|⟨_,o,ho,hc⟩
   ·have:=hq _ h3;omega
   ·rw[hh] at ho
    cases ho
    cases hc)]
  exact hh
theorem blk_ab{q:Nat→Prop}{A B:World}{row:Option Nat}{b m:Nat}{cs:List Value}{t:TypeId}(k:Blk A b cs t)(hg:A.grownBy B row)(hr:Zel q m A row)(hq:∀ r,q r→b≠r):Blk B b cs t :=
 k.kept hg (fun e'=>by
  rcases hr b e'.symm with h3|⟨_,o,ho,hc⟩
  ·exact hq _ h3 rfl
  ·rw[show A.heap[b]? = _ from k] at ho;cases ho;cases hc)
theorem Ti{F:Fence}{n:Nat}{P:Program}{c:Code}{Q:Exit→Act→World→Prop}{a:Act}{w:World}(a':Act)(h:a=a')(k:c.wpIn F n P Q a' w):c.wpIn F n P Q a w:=h▸k
theorem Zdn{S S2:List Nat}{w0 W V:World}(h:Fr S w0 W)(z:RdS w0 S2 W V)(hs:∀ k,k∈S2→k∈S∨V.heap[k]? = w0.heap[k]?):Fr S w0 V :=
 ⟨Nat.le_trans h.size z.le,fun k hk hn=>by
  by_cases h2:k∈S2
  ·exact(hs k h2).resolve_left hn
  ·exact(z.fr k hk h2).trans (h.block k hk hn)⟩
theorem Dfr.put{D D2:Nat}{w:World}(h:Dfr D w)(hne:D≠D2)(o:Obj):Dfr D (w.putObj D2 o):=(World.putObj_heap_other hne).trans h
theorem Qw.pt{D:Nat}{w:World}{l:List (Option Int)}{c:Option Int}{v:Value}(h:Qw w l c v)(hK:Dfr D w)(o:Obj):Qw (w.putObj D o) l c v:=h.kept fun _ _ k=>k.put hK rfl o
theorem Zec{D:Nat}{w:World}{base size n:Nat}{e:TypeId}{v:Value}{xs:List Value}(k:w.ownsRow base e size v n xs)(hK:Dfr D w)(o:Obj):(w.putObj D o).ownsRow base e size v n xs:=(Upd.of_put w D o).own3 k (hK.row k)
theorem Wo{n D:Nat}{w W:World}(h:Below n w W)(hn:n≤W.heap.size)(hD:n≤D)(o:Obj):Below n w (W.putObj D o):=h.grown (grownBy_putObj' W D o) hn (fun r e=>by cases e;exact hD)
theorem ret0{P:Program}{fn:Func}{R:Ending→World→Prop}{a:Act}{w:World}{v:Value}{b10 b11:Nat}{x y:Value}{t t':TypeId}(k10:Blk w b10 [x] t)(k11:Blk w b11 [y] t')(hr:∀ U,Blk U b10 [x] t→Blk U b11 [y] t'→(results fn a.tmps).run P U=.ok v U)(hd:a.defers=[])(h:R (.returned v) w):bodyPostM Fence.wide 4 P fn R .ret a w:=by
 show LeavesInM _ _ _ _ a.tmps R a.defers .returning w
 rw[hd]
 exact⟨v,hr w k10 k11,h⟩
theorem ret1{P:Program}{fn:Func}{R:Ending→World→Prop}{a:Act}{w:World}{v:Value}{b10 b11 D:Nat}{x y:Value}{t t':TypeId}(k10:Blk w b10 [x] t)(k11:Blk w b11 [y] t')(hK:Dfr D w)(hr:∀ U,Blk U b10 [x] t→Blk U b11 [y] t'→(results fn a.tmps).run P U=.ok v U)(hd:a.defers=[{ target:=.collected D,args:=#[] }])(h:R (.returned v) (w.putObj D (.deferred none))):bodyPostM Fence.wide 4 P fn R .ret a w:=by
 show LeavesInM _ _ _ _ a.tmps R a.defers .returning w
 rw[hd]
 exact⟨by simp,.inl ⟨_,_,rfl,run_takeDeferred hK,v,hr _ (k10.put hK rfl _) (k11.put hK rfl _),h⟩⟩
theorem ret2{P:Program}{fn:Func}{R:Ending→World→Prop}{a:Act}{w:World}{v:Value}{b10 b11 D E:Nat}{x y:Value}{t t':TypeId}(k10:Blk w b10 [x] t)(k11:Blk w b11 [y] t')(hK:Dfr D w)(hE:Dfr E w)(hne:D≠E)(hr:∀ U,Blk U b10 [x] t→Blk U b11 [y] t'→(results fn a.tmps).run P U=.ok v U)(hd:a.defers=[{ target:=.collected E,args:=#[] },{ target:=.collected D,args:=#[] }])(h:R (.returned v) ((w.putObj E (.deferred none)).putObj D (.deferred none))):bodyPostM Fence.wide 4 P fn R .ret a w:=by
 have hD:=hK.put hne (.deferred none)
 show LeavesInM _ _ _ _ a.tmps R a.defers .returning w
 rw[hd]
 exact⟨by simp,.inl ⟨_,_,rfl,run_takeDeferred hE,by simp,.inl ⟨_,_,rfl,run_takeDeferred hD,v,hr _ ((k10.put hE rfl _).put hD rfl _) ((k11.put hE rfl _).put hD rfl _),h⟩⟩⟩
end Go.Proofs.YtgphgaehfdfjjaaGreat
namespace Go.Proofs.YtgphgaehfdfjjaaGreat
set_option maxHeartbeats 8000000
set_option maxRecDepth 100000
open Go.RowKit Go.Extern.Stop Go.Stop Go.Extern
set_option linter.unusedVariables false
attribute [local irreducible] wpList wpAnyH Code.wp Oper.wp Go
def Zdz(O:List Int×Int×List Dv)(w:World)(e:Ending)(w':World):Prop :=
 (O.2.1≠0∧∃ ty v,e=.returned (.tuple #[S0,.iface ty v])∧B0 w w'∧Qw w' (O.1.map some) (some O.2.1) (.iface ty v)) ∨
 (O.2.1=0∧∃ p c Z,e=.returned (.tuple #[.slice p O.2.2.length c,.nilIface])∧B0 w w'∧Z.map Prod.fst=O.2.2∧Xl w.heap.size w' Z∧w'.ownsRow w.heap.size 40 5 (.slice p O.2.2.length c) O.2.2.length (Z.flatMap Ca))
theorem Hs{O:List Int×Int×List Dv}{bl:List Int}{er:Int}{w W:World}{ty:TypeId}{v:Value}(h:O=(bl,er,[]))(her:er≠0)(hb:B0 w W)(hv:Qw W (bl.map some) (some er) (.iface ty v)):Zdz O w (.returned (.tuple #[S0,.iface ty v])) W:=by
 subst h;exact .inl ⟨her,ty,v,rfl,hb,hv⟩
theorem ldevs_ok{O:List Int×Int×List Dv}{L:List Dv}{Z:List Zv}{n c:Nat}{w W:World}{p:O0}(h:O=([],0,L))(hn:Z.length=n)(hZ:Z.map Prod.fst=L)(hb:B0 w W)(hM:Xl w.heap.size W Z)(ho:W.ownsRow w.heap.size 40 5 (.slice p n c) n (Z.flatMap Ca)):Zdz O w (.returned (.tuple #[.slice p n c,.nilIface])) W:=by
 subst h
 have hl:L.length=n:=by rw[←hZ,List.length_map,hn]
 subst hl
 exact .inr ⟨rfl,p,c,Z,rfl,hb,hZ,hM,ho⟩
theorem Xl.mono{B B':Nat}{w:World}{Z:List Zv}(h:Xl B' w Z)(hB:B≤B'):Xl B w Z:=fun i hi=>Zh (h i hi) hB
theorem Xl.ab{q:Nat→Prop}{A C:World}{row:Option Nat}{B m:Nat}{Z:List Zv}(h:Xl B A Z)(hg:A.grownBy C row)(hr:Zel q m A row)(hq:∀ r,q r→r<B):Xl B C Z:=fun i hi=>own_ab (h i hi) hg hr hq
theorem Xl.pt{D B:Nat}{w:World}{Z:List Zv}(h:Xl B w Z)(hK:Dfr D w)(o:Obj):Xl B (w.putObj D o) Z:=fun i hi=>Zec (h i hi) hK o
theorem Za1{B1 B2:Nat}{a:O0}{n c:Nat}{y:Value}{t t':TypeId}(hy:y=.nilIface∨∃ ty v,y=.iface ty v){tmps:Array Value}(e:tmps.getD 10 undef=P0 B1)(e2:tmps.getD 11 undef=P0 B2) :
 ∀ U,Blk U B1 [.slice a n c] t→Blk U B2 [y] t'→(results Tryz.f14 tmps).run Tryz.prog U=.ok (.tuple #[.slice a n c,y]) U:=by
 intro U h h2
 have c0:=h.cell (i:=0) rfl
 have c1:=h2.cell (i:=0) rfl
 have e':tmps[10]?.getD undef=P0 B1:=by simpa using e
 have a0:tmps[11]?.getD undef=P0 B2:=by simpa using e2
 rcases hy with rfl|⟨ty,v,rfl⟩<;>simp[results,Tryz.results14,go_sem,c0,c1,e',a0]
def Zdl(O:List Int×Int×List Dv)(w:World)(b10 b11:Nat)(V:World):Prop :=
 ∃ ty v bl er,O=(bl,er,[])∧er≠0∧Blk V b10 [S0] 22∧Blk V b11 [.iface ty v] 31∧Qw V (bl.map some) (some er) (.iface ty v)∧B0 w V
theorem Zdl.ab{q:Nat→Prop}{O:List Int×Int×List Dv}{w A B:World}{row:Option Nat}{b10 b11 m:Nat}(h:Zdl O w b10 b11 A)(hg:A.grownBy B row)(hr:∀ r,row=some r→m≤r∧∃ o:Obj,A.heap[r]? = some o∧o.isCells=false)(hm:w.heap.size≤m):Zdl O w b10 b11 B:=by
 obtain⟨ty,v,bl,er,h1,h2,k1,k2,hv,hb⟩:=h
 have ht:∀ r,row=some r→∃ o:Obj,A.heap[r]? = some o∧o.isCells=false:=fun r e=>(hr r e).2
 exact⟨ty,v,bl,er,h1,h2,k1.turn hg ht,k2.turn hg ht,hv.turn hg ht,hb.grown hg hb.size (fun r e=>Nat.le_trans hm (hr r e).1)⟩
theorem Dh{A E:List Ent}(h:(Xe 0 0 A E).all Sv=true):(Xe 0 0 A E).length=A.length∧∀ k x,(Xe 0 0 A E)[k]? = some x→k<A.length∧x=(some k,some k):=by
 obtain⟨_,h2⟩:=Bf A E 0 0 h
 rw[h2]
 refine⟨by simp,fun k x hx=>?_⟩
 rw[List.getElem?_map] at hx
 by_cases hk:k<A.length
 ·rw[List.getElem?_range hk] at hx
  simp only[Option.map_some,Option.some.injEq,Nat.zero_add] at hx
  exact⟨hk,hx.symm⟩
 ·rw[List.getElem?_eq_none (by simp;omega)] at hx;cases hx
theorem Et{α:Type}{L:List α}{p:α→Bool}{k:Nat}{x:α}(h:(L.take k).all p=true)(hx:L[k]? = some x)(hp:p x=true):(L.take (k+1)).all p=true:=by
 obtain⟨hk,rfl⟩:=List.getElem?_eq_some_iff.1 hx
 rw[List.take_succ_eq_append_getElem hk,List.all_append,h];simpa using hp
theorem Zdb{l:Bl}{x y:Ent}{data fuel:Int}{sum:Nat}(h:(Nh l x y data fuel sum).2=0):sum+(Vm l y data fuel).2.2.length≤16384:=by
 unfold Nh at h
 repeat' split at h
 all_goals first|omega|(simp at h;done)|(exact absurd h (by assumption))
theorem Zal{ga oa i:Nat}{p:O0}(h:p=some ⟨ga,oa,none⟩):Nr ga oa (some i)=.pointer (some (Xa p (i*3))):=by
 subst h
 show Value.pointer (some ⟨ga,oa+3*i,none⟩)=_
 simp[Xa,Addr.add_mid,Nat.mul_comm]
theorem Pg(Bi b:Nat)(pi:O0)(ni ci:Nat)(l:Bl)(top details data fuel:Int)(w:World)(hI:ImgR Bi b pi ni ci l w)(hfu:fuel≤1000) :
 C0 14 #[P0 b,V0 top,V0 details,V0 data,V0 fuel] w (Zdz (Qp l top details data fuel) w):=by
 have ky:=(Hm l details 3 fuel hfu).1
 have jn:=(Hm l top 1 fuel hfu).1
 refine Jf Tryz.func14 rfl ?_
 refine g_fr ⟨#[P0 b,V0 top,V0 details,V0 data,V0 fuel,undef,undef,undef,undef,undef,undef,undef,undef,undef,undef,undef,undef,undef,undef,undef,undef,undef,undef,undef,undef,undef,undef,undef,undef,undef,undef,undef,undef,undef,undef,undef,undef,undef,undef,undef,undef,undef,undef,undef,undef,undef,undef,undef,undef,undef,undef,undef,undef,undef,undef,undef,undef,undef,undef,undef,undef,undef,undef,undef,undef,undef,undef,undef,undef,undef,undef,undef,undef,undef,undef,undef,undef,undef,undef,undef,undef,undef,undef,undef,undef,undef,undef,undef,undef,undef,undef,undef,undef,undef,undef,undef,undef],[]⟩ (by kernel_rfl) ?_
 refine wp_seq ?_
 refine wp_region_lit ?_
 refine Qf (by kernel_rfl) (Sq [V0 top] rfl (by kernel_rfl) ?_)
 intro b1 W1 n1
 have g1:=n1.ge (B3 w)
 have hB:=n1.below
 have k1:=n1.blk
 refine Qf (by kernel_rfl) (Sq [V0 details] rfl (by kernel_rfl) ?_)
 intro b2 W2 n2
 have jv:=n2.ne k1
 have g2:=n2.ge hB
 replace hB:=bln hB n2.below
 replace k1:=k1.below n2.below
 have k2:=n2.blk
 refine Qf (by kernel_rfl) (Qm [S0] rfl (by kernel_rfl) ?_)
 intro b3 W3 n3
 have j6:=n3.ne k1
 have j9:=n3.ne k2
 have g3:=n3.ge hB
 replace hB:=bln hB n3.below
 replace k1:=k1.below n3.below
 replace k2:=k2.below n3.below
 have k3:=n3.blk
 refine Qf (by kernel_rfl) (Qm [.nilIface] rfl (by kernel_rfl) ?_)
 intro b4 W4 n4
 have j5:=n4.ne k1
 have j8:=n4.ne k2
 have c7:=n4.ne k3
 have g4:=n4.ge hB
 replace hB:=bln hB n4.below
 replace k1:=k1.below n4.below
 replace k2:=k2.below n4.below
 replace k3:=k3.below n4.below
 have k4:=n4.blk
 refine wpList_nil ?_
 refine wp_seq ?_
 refine wp_region_lit ?_
 refine Jl 1 [(24,P0 b)] (by kernel_rfl) ?_
 refine Qf (by kernel_rfl) (Ye ⟨b2,0,none⟩ (V0 details) rfl (by kernel_rfl) (by kernel_rfl) (k2.cell (i:=0) rfl) ?_)
 refine Jl 1 [(26,V0 fuel)] (by kernel_rfl) ?_
 have kx:w.heap.size≤(W4).heap.size:=hB.size
 refine Qf (by kernel_rfl) (Vw (lb:=#[]) 34 #[P0 b,V0 details,V0 3,V0 fuel] rfl (by kernel_rfl) (fun _ _=>by kernel_rfl) (by kernel_rfl) ((Hg Bi b pi ni ci l details 3 fuel _ hfu (hI.below hB)).mono ?_))
 rintro e W5 kg
 rcases kg with ⟨v3,pe,ce,pb,cb,pf,cf,p4,vw,rfl,v1,e0⟩|⟨v3,pd,cd,e3,d9,e2,d8,e4,e5,e1,rfl,v1,hd⟩
 ·refine⟨_,rfl,?_⟩
  replace hB:=bln hB v1
  replace k1:=k1.below v1
  replace k2:=k2.below v1
  replace k3:=k3.below v1
  replace k4:=k4.below v1
  refine Jl 3 [(23,.tuple #[.agg #[.slice pe 0 ce,.slice pb 0 cb,V0 0,V0 0,.slice pf 0 cf],.iface p4 (vw)]),(28,.agg #[.slice pe 0 ce,.slice pb 0 cb,V0 0,V0 0,.slice pf 0 cf]),(29,.iface p4 (vw))] (by kernel_rfl) ?_
  refine Qf (by kernel_rfl) (Qm [S0,S0,V0 0,V0 0,S0] rfl (by kernel_rfl) ?_)
  intro b6 W6 n6
  have ij:=n6.ne k1
  have ji:=n6.ne k2
  have dl:=n6.ne k3
  have dd:=n6.ne k4
  have g6:=n6.ge hB
  replace hB:=bln hB n6.below
  replace k3:=k3.below n6.below
  replace k4:=k4.below n6.below
  replace e0:=e0.below n6.below
  have k6:=n6.blk
  refine Qf (by kernel_rfl) (Ve (b:=b6) (off:=0) [.slice pe 0 ce,.slice pb 0 cb,V0 0,V0 0,.slice pf 0 cf] rfl (by kernel_rfl) (by kernel_rfl) (by kernel_rfl) (by first|decide|simp[Value.oneCell']) k6 (by first|decide|simp) ?_)
  intro W7 u7 k7
  change Blk _ _ [.slice pe 0 ce,.slice pb 0 cb,V0 0,V0 0,.slice pf 0 cf] _ at k7
  replace hB:=u7.below hB g6
  replace k3:=u7.blk k3 (Ne.symm (Ne.symm dl))
  replace k4:=u7.blk k4 (Ne.symm (Ne.symm dd))
  replace e0:=e0.only (Ze.of_upd (T:=[87]) u7 k6 (by decide)) (by decide)
  refine Jl 1 [(13,.iface p4 (vw))] (by kernel_rfl) ?_
  refine wpList_nil ?_
  refine wp_seq ?_
  refine wp_seq ?_
  refine wp_region_lit ?_
  refine Jl 2 [(30,.iface p4 (vw)),(31,.bool true)] (by kernel_rfl) ?_
  refine wpList_nil ?_
  refine wp_cond_true (by kernel_rfl) ?_
  refine wp_seq ?_
  refine wp_region_lit ?_
  refine Jl 1 [(32,.iface p4 (vw))] (by kernel_rfl) ?_
  refine Qf (by kernel_rfl) (Xh (v:=S0) (b:=b3) (off:=0) rfl (by kernel_rfl) (by kernel_rfl) (by kernel_rfl) rfl k3 (by first|decide|simp) ?_)
  intro W8 u8 k8
  change Blk _ _ [S0] _ at k8
  replace hB:=u8.below hB g3
  replace k4:=u8.blk k4 (Ne.symm c7)
  replace e0:=e0.only (Ze.of_upd (T:=[22]) u8 k3 (by decide)) (by decide)
  refine Qf (by kernel_rfl) (Xh (v:=.iface p4 (vw)) (b:=b4) (off:=0) rfl (by kernel_rfl) (by kernel_rfl) (by kernel_rfl) rfl k4 (by first|decide|simp) ?_)
  intro W9 u9 k9
  change Blk _ _ [.iface p4 (vw)] _ at k9
  replace hB:=u9.below hB g4
  replace k8:=u9.blk k8 (Ne.symm (Ne.symm c7))
  replace e0:=e0.only (Ze.of_upd (T:=[31]) u9 k4 (by decide)) (by decide)
  refine wpList_nil ?_
  exact wp_ret (ret0 k8 k9 (Za1 (.inr ⟨_,_,rfl⟩) (by kernel_rfl) (by kernel_rfl)) rfl (Hs (devsO_d v3) (Wh v3) hB e0))
 ·refine⟨_,rfl,?_⟩
  replace hB:=bln hB v1
  replace k1:=k1.below v1
  replace k2:=k2.below v1
  replace k3:=k3.below v1
  replace k4:=k4.below v1
  replace hd:=Zh hd kx
  refine Jl 3 [(23,.tuple #[.agg #[.slice pd ((Zd l details 3 fuel).es.length) cd,.slice e3 d9 e2,V0 d8,V0 e4,.slice e5 0 e1],.nilIface]),(28,.agg #[.slice pd ((Zd l details 3 fuel).es.length) cd,.slice e3 d9 e2,V0 d8,V0 e4,.slice e5 0 e1]),(29,.nilIface)] (by kernel_rfl) ?_
  refine Qf (by kernel_rfl) (Qm [S0,S0,V0 0,V0 0,S0] rfl (by kernel_rfl) ?_)
  intro d5 mh s4
  have bt:=s4.ne k1
  have bq:=s4.ne k2
  have f1:=s4.ne k3
  have e9:=s4.ne k4
  have kk:=s4.ge hB
  replace hB:=bln hB s4.below
  replace k1:=k1.below s4.below
  replace k2:=k2.below s4.below
  replace k3:=k3.below s4.below
  replace k4:=k4.below s4.below
  replace hd:=Zb hd s4.below
  have ca:=s4.blk
  refine Qf (by kernel_rfl) (Ve (b:=d5) (off:=0) [.slice pd ((Zd l details 3 fuel).es.length) cd,.slice e3 d9 e2,V0 d8,V0 e4,.slice e5 0 e1] rfl (by kernel_rfl) (by kernel_rfl) (by kernel_rfl) (by first|decide|simp[Value.oneCell']) ca (by first|decide|simp) ?_)
  intro kw cj j2
  change Blk _ _ [.slice pd ((Zd l details 3 fuel).es.length) cd,.slice e3 d9 e2,V0 d8,V0 e4,.slice e5 0 e1] _ at j2
  replace hB:=cj.below hB kk
  replace k1:=cj.blk k1 (Ne.symm (Ne.symm bt))
  replace k2:=cj.blk k2 (Ne.symm (Ne.symm bq))
  replace k3:=cj.blk k3 (Ne.symm (Ne.symm f1))
  replace k4:=cj.blk k4 (Ne.symm (Ne.symm e9))
  replace hd:=cj.own2 hd ca (by decide)
  refine Jl 1 [(13,.nilIface)] (by kernel_rfl) ?_
  refine wpList_nil ?_
  refine wp_seq ?_
  refine wp_seq ?_
  refine wp_region_lit ?_
  refine Jl 2 [(30,.nilIface),(31,.bool false)] (by kernel_rfl) ?_
  refine wpList_nil ?_
  refine wp_cond_false (by kernel_rfl) ?_
  refine wp_skip ?_
  refine wp_seq ?_
  refine wp_region_lit ?_
  refine Jl 1 [(34,P0 b)] (by kernel_rfl) ?_
  refine Qf (by kernel_rfl) (Ye ⟨b1,0,none⟩ (V0 top) rfl (by kernel_rfl) (by kernel_rfl) (k1.cell (i:=0) rfl) ?_)
  refine Jl 1 [(36,V0 fuel)] (by kernel_rfl) ?_
  have gl:w.heap.size≤(kw).heap.size:=hB.size
  refine Qf (by kernel_rfl) (Vw (lb:=#[]) 34 #[P0 b,V0 top,V0 1,V0 fuel] rfl (by kernel_rfl) (fun _ _=>by kernel_rfl) (by kernel_rfl) ((Hg Bi b pi ni ci l top 1 fuel _ hfu (hI.below hB)).mono ?_))
  rintro e lf hh
  rcases hh with ⟨w3,pe,ce,pb,cb,pf,cf,p4,vw,rfl,f8,e0⟩|⟨w3,pt,ct,b9,a9,b5,c0,b8,b7,b0,rfl,f8,ht⟩
  ·refine⟨_,rfl,?_⟩
   replace hB:=bln hB f8
   replace k1:=k1.below f8
   replace k2:=k2.below f8
   replace k3:=k3.below f8
   replace k4:=k4.below f8
   replace j2:=j2.below f8
   refine Jl 3 [(33,.tuple #[.agg #[.slice pe 0 ce,.slice pb 0 cb,V0 0,V0 0,.slice pf 0 cf],.iface p4 (vw)]),(38,.agg #[.slice pe 0 ce,.slice pb 0 cb,V0 0,V0 0,.slice pf 0 cf]),(39,.iface p4 (vw))] (by kernel_rfl) ?_
   refine Qf (by kernel_rfl) (Qm [S0,S0,V0 0,V0 0,S0] rfl (by kernel_rfl) ?_)
   intro kq mf t6
   have gg:=t6.ne k1
   have gb:=t6.ne k2
   have bk:=t6.ne k3
   have ae:=t6.ne k4
   have el:=t6.ne j2
   have kt:=t6.ge hB
   replace hB:=bln hB t6.below
   replace k3:=k3.below t6.below
   replace k4:=k4.below t6.below
   replace e0:=e0.below t6.below
   have jr:=t6.blk
   refine Qf (by kernel_rfl) (Ve (b:=kq) (off:=0) [.slice pe 0 ce,.slice pb 0 cb,V0 0,V0 0,.slice pf 0 cf] rfl (by kernel_rfl) (by kernel_rfl) (by kernel_rfl) (by first|decide|simp[Value.oneCell']) jr (by first|decide|simp) ?_)
   intro mw fd kp
   change Blk _ _ [.slice pe 0 ce,.slice pb 0 cb,V0 0,V0 0,.slice pf 0 cf] _ at kp
   replace hB:=fd.below hB kt
   replace k3:=fd.blk k3 (Ne.symm (Ne.symm bk))
   replace k4:=fd.blk k4 (Ne.symm (Ne.symm ae))
   replace e0:=e0.only (Ze.of_upd (T:=[87]) fd jr (by decide)) (by decide)
   refine Jl 1 [(13,.iface p4 (vw))] (by kernel_rfl) ?_
   refine wpList_nil ?_
   refine wp_seq ?_
   refine wp_seq ?_
   refine wp_region_lit ?_
   refine Jl 2 [(40,.iface p4 (vw)),(41,.bool true)] (by kernel_rfl) ?_
   refine wpList_nil ?_
   refine wp_cond_true (by kernel_rfl) ?_
   refine wp_seq ?_
   refine wp_region_lit ?_
   refine Jl 1 [(42,.iface p4 (vw))] (by kernel_rfl) ?_
   refine Qf (by kernel_rfl) (Xh (v:=S0) (b:=b3) (off:=0) rfl (by kernel_rfl) (by kernel_rfl) (by kernel_rfl) rfl k3 (by first|decide|simp) ?_)
   intro lq hy dt
   change Blk _ _ [S0] _ at dt
   replace hB:=hy.below hB g3
   replace k4:=hy.blk k4 (Ne.symm c7)
   replace e0:=e0.only (Ze.of_upd (T:=[22]) hy k3 (by decide)) (by decide)
   refine Qf (by kernel_rfl) (Xh (v:=.iface p4 (vw)) (b:=b4) (off:=0) rfl (by kernel_rfl) (by kernel_rfl) (by kernel_rfl) rfl k4 (by first|decide|simp) ?_)
   intro lx gi jm
   change Blk _ _ [.iface p4 (vw)] _ at jm
   replace hB:=gi.below hB g4
   replace dt:=gi.blk dt (Ne.symm (Ne.symm c7))
   replace e0:=e0.only (Ze.of_upd (T:=[31]) gi k4 (by decide)) (by decide)
   refine wpList_nil ?_
   exact wp_ret (ret0 dt jm (Za1 (.inr ⟨_,_,rfl⟩) (by kernel_rfl) (by kernel_rfl)) rfl (Hs (devsO_t v3 w3) (Wh w3) hB e0))
  ·refine⟨_,rfl,?_⟩
   replace hB:=bln hB f8
   replace k1:=k1.below f8
   replace k2:=k2.below f8
   replace k3:=k3.below f8
   replace k4:=k4.below f8
   replace j2:=j2.below f8
   replace hd:=Zb hd f8
   replace ht:=Zh ht gl
   refine Jl 3 [(33,.tuple #[.agg #[.slice pt ((Zd l top 1 fuel).es.length) ct,.slice b9 a9 b5,V0 c0,V0 b8,.slice b7 0 b0],.nilIface]),(38,.agg #[.slice pt ((Zd l top 1 fuel).es.length) ct,.slice b9 a9 b5,V0 c0,V0 b8,.slice b7 0 b0]),(39,.nilIface)] (by kernel_rfl) ?_
   refine Qf (by kernel_rfl) (Qm [S0,S0,V0 0,V0 0,S0] rfl (by kernel_rfl) ?_)
   intro e6 lz p0
   have bc:=p0.ne k1
   have bp:=p0.ne k2
   have e8:=p0.ne k3
   have f2:=p0.ne k4
   have w8:=p0.ne j2
   have ke:=p0.ge hB
   replace hB:=bln hB p0.below
   replace k1:=k1.below p0.below
   replace k2:=k2.below p0.below
   replace k3:=k3.below p0.below
   replace k4:=k4.below p0.below
   replace j2:=j2.below p0.below
   replace hd:=Zb hd p0.below
   replace ht:=Zb ht p0.below
   have gu:=p0.blk
   refine Qf (by kernel_rfl) (Ve (b:=e6) (off:=0) [.slice pt ((Zd l top 1 fuel).es.length) ct,.slice b9 a9 b5,V0 c0,V0 b8,.slice b7 0 b0] rfl (by kernel_rfl) (by kernel_rfl) (by kernel_rfl) (by first|decide|simp[Value.oneCell']) gu (by first|decide|simp) ?_)
   intro mv z1 cc
   change Blk _ _ [.slice pt ((Zd l top 1 fuel).es.length) ct,.slice b9 a9 b5,V0 c0,V0 b8,.slice b7 0 b0] _ at cc
   replace hB:=z1.below hB ke
   replace k1:=z1.blk k1 (Ne.symm (Ne.symm bc))
   replace k2:=z1.blk k2 (Ne.symm (Ne.symm bp))
   replace k3:=z1.blk k3 (Ne.symm (Ne.symm e8))
   replace k4:=z1.blk k4 (Ne.symm (Ne.symm f2))
   replace j2:=z1.blk j2 (Ne.symm (Ne.symm w8))
   replace hd:=z1.own2 hd gu (by decide)
   replace ht:=z1.own2 ht gu (by decide)
   refine Jl 1 [(13,.nilIface)] (by kernel_rfl) ?_
   refine wpList_nil ?_
   refine wp_seq ?_
   refine wp_seq ?_
   refine wp_region_lit ?_
   refine Jl 2 [(40,.nilIface),(41,.bool false)] (by kernel_rfl) ?_
   refine wpList_nil ?_
   refine wp_cond_false (by kernel_rfl) ?_
   refine wp_skip ?_
   refine wp_seq ?_
   refine wp_seq ?_
   refine wp_region_lit ?_
   refine Jl 1 [(43,P0 d5)] (by kernel_rfl) ?_
   refine Qf (by kernel_rfl) (Ye ⟨d5,0,none⟩ (.slice pd ((Zd l details 3 fuel).es.length) cd) rfl (by kernel_rfl) (by kernel_rfl) (j2.cell (i:=0) rfl) ?_)
   refine Jl 2 [(45,V0 (↑((Zd l details 3 fuel).es.length):Int)),(46,.bool (decide ((↑((Zd l details 3 fuel).es.length):Int)>(4096:Int))))] (by kernel_rfl) ?_
   refine wpList_nil ?_
   refine wp_cond_split (t:=decide ((↑((Zd l details 3 fuel).es.length):Int)>(4096:Int))) (by kernel_rfl) (fun u0=>?_) (fun u0=>?_)
   ·have u0:=of_decide_eq_true u0
    refine wp_seq ?_
    refine wp_region_lit ?_
    refine Qf (by kernel_rfl) (Ye ⟨b2,0,none⟩ (V0 details) rfl (by kernel_rfl) (by kernel_rfl) (k2.cell (i:=0) rfl) ?_)
    refine Qf (by kernel_rfl) (Vw (lb:=#[]) 35 #[V0 details,V0 2] rfl (by kernel_rfl) (fun _ _=>by kernel_rfl) (by kernel_rfl) ((Vv details 2 _ (by omega)).mono ?_))
    rintro e ms ⟨dg,jg,rfl,bu,i4⟩
    refine⟨_,rfl,?_⟩
    replace hB:=bln hB bu
    replace k3:=k3.below bu
    replace k4:=k4.below bu
    refine Qf (by kernel_rfl) (Xh (v:=S0) (b:=b3) (off:=0) rfl (by kernel_rfl) (by kernel_rfl) (by kernel_rfl) rfl k3 (by first|decide|simp) ?_)
    intro lc hw ev
    change Blk _ _ [S0] _ at ev
    replace hB:=hw.below hB g3
    replace k4:=hw.blk k4 (Ne.symm c7)
    replace i4:=i4.only (Ze.of_upd (T:=[22]) hw k3 (by decide)) (by decide)
    refine Qf (by kernel_rfl) (Xh (v:=.iface dg (jg)) (b:=b4) (off:=0) rfl (by kernel_rfl) (by kernel_rfl) (by kernel_rfl) rfl k4 (by first|decide|simp) ?_)
    intro mm gp jj
    change Blk _ _ [.iface dg (jg)] _ at jj
    replace hB:=gp.below hB g4
    replace ev:=gp.blk ev (Ne.symm (Ne.symm c7))
    replace i4:=i4.only (Ze.of_upd (T:=[31]) gp k4 (by decide)) (by decide)
    refine wpList_nil ?_
    exact wp_ret (ret0 ev jj (Za1 (.inr ⟨_,_,rfl⟩) (by kernel_rfl) (by kernel_rfl)) rfl (Hs (Zb1 v3 w3 (by omega)) (by decide) hB i4))
   ·have u0:=of_decide_eq_false u0
    refine wp_skip ?_
    refine wp_seq ?_
    refine wp_seq ?_
    refine wp_region_lit ?_
    refine Jl 1 [(49,P0 d5)] (by kernel_rfl) ?_
    refine Qf (by kernel_rfl) (Ye ⟨d5,0,none⟩ (.slice pd ((Zd l details 3 fuel).es.length) cd) rfl (by kernel_rfl) (by kernel_rfl) (j2.cell (i:=0) rfl) ?_)
    refine Jl 1 [(51,P0 e6)] (by kernel_rfl) ?_
    refine Qf (by kernel_rfl) (Ye ⟨e6,0,none⟩ (.slice pt ((Zd l top 1 fuel).es.length) ct) rfl (by kernel_rfl) (by kernel_rfl) (cc.cell (i:=0) rfl) ?_)
    have gn:=Zg hd
    have gs:=Zg ht
    have dh:=hB.size
    have gh:=k1.lt
    have hf:=k2.lt
    have fz:=k3.lt
    have ga:=k4.lt
    have fb:=j2.lt
    have ef:=cc.lt
    refine Qf (by kernel_rfl) (Vw (lb:=#[]) 36 #[.slice pd ((Zd l details 3 fuel).es.length) cd,.slice pt ((Zd l top 1 fuel).es.length) ct] rfl (by kernel_rfl) (fun _ _=>by kernel_rfl) (by kernel_rfl) ((Mk pd (Zd l details 3 fuel).es.length cd pt (Zd l top 1 fuel).es.length ct _).mono ?_))
    rintro e aw ⟨p1,q1,rfl,j3,cr,dk,gq,af,av⟩
    refine⟨_,rfl,?_⟩
    replace hB:=bln hB j3
    replace k1:=k1.below j3
    replace k2:=k2.below j3
    replace k3:=k3.below j3
    replace k4:=k4.below j3
    replace j2:=j2.below j3
    replace cc:=cc.below j3
    replace hd:=Zb hd j3
    replace ht:=Zb ht j3
    refine wpList_nil ?_
    refine wp_block ?_
    obtain⟨s0,w0,s5,x2,hp,bs,bf⟩:=Sc (A:=(Zd l details 3 fuel).es) (E:=(Zd l top 1 fuel).es) rfl rfl (by omega) (by omega) gn gs j3 cr dk gq af av
    have l5:w.heap.size≤aw.heap.size:=hB.size
    have ks:w.heap.size≤p1:=Nat.le_trans dh cr
    have kv:w.heap.size≤q1:=Nat.le_trans dh dk
    have cz:=af.lt
    have cx:=av.lt
    have ic:=hB
    have m7:=k1
    have o2:=k2
    have i6:=k3
    have i9:=k4
    have i1:=j2
    have i8:=cc
    have z0:=af
    have z2:=av
    have cg:=hd
    have bx:=ht
    have fw:∀ d,(fun d=>d=p1∨d=q1∨((Zd l details 3 fuel).es.length≠0∧d=s0)∨((Zd l top 1 fuel).es.length≠0∧d=s5)) d→d<aw.heap.size:=by
     rintro d (rfl|rfl|⟨h,rfl⟩|⟨h,rfl⟩)
     ·exact cz
     ·exact cx
     ·exact(cg.lt _ (by rw[bs h];rfl)).2
     ·exact(bx.lt _ (by rw[bf h];rfl)).2
    have kn:∀ d,(fun d=>d=p1∨d=q1∨((Zd l details 3 fuel).es.length≠0∧d=s0)∨((Zd l top 1 fuel).es.length≠0∧d=s5)) d→d∉[b3,b4]:=by
     rintro d (rfl|rfl|⟨h,rfl⟩|⟨h,rfl⟩)<;>simp only[List.mem_cons,List.not_mem_nil,or_false]
     ·omega
     ·omega
     ·rintro(h9|h9)
      ·exact Xc cg i6 (by decide) _ (by rw[bs h];rfl) h9
      ·exact Xc cg i9 (by decide) _ (by rw[bs h];rfl) h9
     ·rintro(h9|h9)
      ·exact Xc bx i6 (by decide) _ (by rw[bf h];rfl) h9
      ·exact Xc bx i9 (by decide) _ (by rw[bf h];rfl) h9
    refine g_fr ⟨#[P0 b,V0 top,V0 details,V0 data,V0 fuel,undef,P0 b1,P0 b2,undef,undef,P0 b3,P0 b4,P0 d5,.nilIface,P0 e6,undef,undef,undef,undef,undef,undef,undef,undef,.tuple #[.agg #[.slice pd ((Zd l details 3 fuel).es.length) cd,.slice e3 d9 e2,V0 d8,V0 e4,.slice e5 0 e1],.nilIface],P0 b,V0 details,V0 fuel,.tuple #[.agg #[.slice pd ((Zd l details 3 fuel).es.length) cd,.slice e3 d9 e2,V0 d8,V0 e4,.slice e5 0 e1],.nilIface],.agg #[.slice pd ((Zd l details 3 fuel).es.length) cd,.slice e3 d9 e2,V0 d8,V0 e4,.slice e5 0 e1],.nilIface,.nilIface,.bool false,undef,.tuple #[.agg #[.slice pt ((Zd l top 1 fuel).es.length) ct,.slice b9 a9 b5,V0 c0,V0 b8,.slice b7 0 b0],.nilIface],P0 b,V0 top,V0 fuel,.tuple #[.agg #[.slice pt ((Zd l top 1 fuel).es.length) ct,.slice b9 a9 b5,V0 c0,V0 b8,.slice b7 0 b0],.nilIface],.agg #[.slice pt ((Zd l top 1 fuel).es.length) ct,.slice b9 a9 b5,V0 c0,V0 b8,.slice b7 0 b0],.nilIface,.nilIface,.bool false,undef,P0 d5,.slice pd ((Zd l details 3 fuel).es.length) cd,V0 (↑((Zd l details 3 fuel).es.length):Int),.bool (decide ((↑((Zd l details 3 fuel).es.length):Int)>(4096:Int))),undef,undef,P0 d5,.slice pd ((Zd l details 3 fuel).es.length) cd,P0 e6,.slice pt ((Zd l top 1 fuel).es.length) ct,.func (.func 56) #[] #[P0 p1,P0 q1],undef,undef,undef,undef,undef,undef,undef,undef,undef,undef,undef,undef,undef,undef,undef,undef,undef,undef,undef,undef,undef,undef,undef,undef,undef,undef,undef,undef,undef,undef,undef,undef,undef,undef,undef,undef,undef,undef,undef,undef,undef,undef,undef],[]⟩ (by kernel_rfl) ?_
    refine Rn (g:=.tmp 53) (gf:=56) (lb:=#[P0 p1,P0 q1]) rfl (enters_of Tryz.func56 (by kernel_rfl) rfl) (fun d=>d=p1∨d=q1∨((Zd l details 3 fuel).es.length≠0∧d=s0)∨((Zd l top 1 fuel).es.length≠0∧d=s5)) (fun d=>d=p1∨d=q1) fw (fun d h=>h.elim (fun q=>q▸cz) (fun q=>q▸cx)) hp (fun _=>rfl)
     (fun i V=>B0 w V∧Fr [p1,q1] aw V∧((Xe 0 0 (Zd l details 3 fuel).es (Zd l top 1 fuel).es).take i).all Sv=true)
     (fun c i V=>c=.ret∧Zdl (Qp l top details data fuel) w b3 b4 V) ?own (fun c k A B fs h hg hr=>⟨h.1,h.2.ab (q:=fun _=>False) hg hr l5⟩) ?start
     (fun x=>{ tmps:=#[P0 b,V0 top,V0 details,V0 data,V0 fuel,undef,P0 b1,P0 b2,undef,undef,P0 b3,P0 b4,P0 d5,.nilIface,P0 e6,(Nr s0 w0 x.1),(Nr s5 x2 x.2),undef,undef,undef,undef,undef,undef,.tuple #[.agg #[.slice pd ((Zd l details 3 fuel).es.length) cd,.slice e3 d9 e2,V0 d8,V0 e4,.slice e5 0 e1],.nilIface],P0 b,V0 details,V0 fuel,.tuple #[.agg #[.slice pd ((Zd l details 3 fuel).es.length) cd,.slice e3 d9 e2,V0 d8,V0 e4,.slice e5 0 e1],.nilIface],.agg #[.slice pd ((Zd l details 3 fuel).es.length) cd,.slice e3 d9 e2,V0 d8,V0 e4,.slice e5 0 e1],.nilIface,.nilIface,.bool false,undef,.tuple #[.agg #[.slice pt ((Zd l top 1 fuel).es.length) ct,.slice b9 a9 b5,V0 c0,V0 b8,.slice b7 0 b0],.nilIface],P0 b,V0 top,V0 fuel,.tuple #[.agg #[.slice pt ((Zd l top 1 fuel).es.length) ct,.slice b9 a9 b5,V0 c0,V0 b8,.slice b7 0 b0],.nilIface],.agg #[.slice pt ((Zd l top 1 fuel).es.length) ct,.slice b9 a9 b5,V0 c0,V0 b8,.slice b7 0 b0],.nilIface,.nilIface,.bool false,undef,P0 d5,.slice pd ((Zd l details 3 fuel).es.length) cd,V0 (↑((Zd l details 3 fuel).es.length):Int),.bool (decide ((↑((Zd l details 3 fuel).es.length):Int)>(4096:Int))),undef,undef,P0 d5,.slice pd ((Zd l details 3 fuel).es.length) cd,P0 e6,.slice pt ((Zd l top 1 fuel).es.length) ct,.func (.func 56) #[] #[P0 p1,P0 q1],(Nr s0 w0 x.1),(Nr s5 x2 x.2),undef,undef,undef,undef,undef,undef,undef,undef,undef,undef,undef,undef,undef,undef,undef,undef,undef,undef,undef,undef,undef,undef,undef,undef,undef,undef,undef,undef,undef,undef,undef,undef,undef,undef,undef,undef,undef,undef,undef,undef,undef],defers:=[] }) ?assign ?body ?done ?stop
    case own =>
     exact fun k A B fs h hg hr=>⟨Zae h.1 hg hr (Nat.le_refl _) l5 (fun r q=>by rcases q with rfl|rfl;exact ks;exact kv),fr_ab h.2.1 hg hr (fun r h=>by rcases h with rfl|rfl<;>simp),h.2.2⟩
    case start =>
     exact⟨ic,Fr.refl _ _,by simp⟩
    case assign =>
     intro lr i x W K hx hK
     refine Ti { tmps:=#[P0 b,V0 top,V0 details,V0 data,V0 fuel,undef,P0 b1,P0 b2,undef,undef,P0 b3,P0 b4,P0 d5,.nilIface,P0 e6,undef,undef,undef,undef,undef,undef,undef,undef,.tuple #[.agg #[.slice pd ((Zd l details 3 fuel).es.length) cd,.slice e3 d9 e2,V0 d8,V0 e4,.slice e5 0 e1],.nilIface],P0 b,V0 details,V0 fuel,.tuple #[.agg #[.slice pd ((Zd l details 3 fuel).es.length) cd,.slice e3 d9 e2,V0 d8,V0 e4,.slice e5 0 e1],.nilIface],.agg #[.slice pd ((Zd l details 3 fuel).es.length) cd,.slice e3 d9 e2,V0 d8,V0 e4,.slice e5 0 e1],.nilIface,.nilIface,.bool false,undef,.tuple #[.agg #[.slice pt ((Zd l top 1 fuel).es.length) ct,.slice b9 a9 b5,V0 c0,V0 b8,.slice b7 0 b0],.nilIface],P0 b,V0 top,V0 fuel,.tuple #[.agg #[.slice pt ((Zd l top 1 fuel).es.length) ct,.slice b9 a9 b5,V0 c0,V0 b8,.slice b7 0 b0],.nilIface],.agg #[.slice pt ((Zd l top 1 fuel).es.length) ct,.slice b9 a9 b5,V0 c0,V0 b8,.slice b7 0 b0],.nilIface,.nilIface,.bool false,undef,P0 d5,.slice pd ((Zd l details 3 fuel).es.length) cd,V0 (↑((Zd l details 3 fuel).es.length):Int),.bool (decide ((↑((Zd l details 3 fuel).es.length):Int)>(4096:Int))),undef,undef,P0 d5,.slice pd ((Zd l details 3 fuel).es.length) cd,P0 e6,.slice pt ((Zd l top 1 fuel).es.length) ct,.func (.func 56) #[] #[P0 p1,P0 q1],(Nr s0 w0 x.1),(Nr s5 x2 x.2),undef,undef,undef,undef,undef,undef,undef,undef,undef,undef,undef,undef,undef,undef,undef,undef,undef,undef,undef,undef,undef,undef,undef,undef,undef,undef,undef,undef,undef,undef,undef,undef,undef,undef,undef,undef,undef,undef,undef,undef,undef],defers:=[] } (by kernel_rfl) ?_
     refine wpIn_seq ?_
     refine Qh (fun⟨_,_,q⟩=>q) (by simp) ?_
     refine Jl 1 [(15,(Nr s0 w0 x.1))] (by kernel_rfl) ?_
     refine wpList_nil ?_
     refine Qh (fun⟨_,_,q⟩=>q) (by simp) ?_
     refine Jl 1 [(16,(Nr s5 x2 x.2))] (by kernel_rfl) ?_
     refine wpList_nil ?_
     exact hK
    case body =>
     rintro lr i x W kh hx ⟨o6,hF,eo⟩
     obtain⟨xa,xb⟩:=x
     rcases xa with _|ja<;>rcases xb with _|jb
     ·
      have g8:w.heap.size≤W.heap.size:=Nat.le_trans l5 hF.size
      have dy:=hI.below o6
      have hZ:RdS aw [b3,b4] W W:=RdS.refl _ hF.size
      have c3:=m7.fr hF (by simp only[List.mem_cons,List.not_mem_nil,or_false];omega)
      have c2:=o2.fr hF (by simp only[List.mem_cons,List.not_mem_nil,or_false];omega)
      have c8:=i6.fr hF (by simp only[List.mem_cons,List.not_mem_nil,or_false];omega)
      have c1:=i9.fr hF (by simp only[List.mem_cons,List.not_mem_nil,or_false];omega)
      have a8:=i1.fr hF (by simp only[List.mem_cons,List.not_mem_nil,or_false];omega)
      have a7:=i8.fr hF (by simp only[List.mem_cons,List.not_mem_nil,or_false];omega)
      refine Ti { tmps:=#[P0 b,V0 top,V0 details,V0 data,V0 fuel,undef,P0 b1,P0 b2,undef,undef,P0 b3,P0 b4,P0 d5,.nilIface,P0 e6,.pointer none,.pointer none,undef,undef,undef,undef,undef,undef,.tuple #[.agg #[.slice pd ((Zd l details 3 fuel).es.length) cd,.slice e3 d9 e2,V0 d8,V0 e4,.slice e5 0 e1],.nilIface],P0 b,V0 details,V0 fuel,.tuple #[.agg #[.slice pd ((Zd l details 3 fuel).es.length) cd,.slice e3 d9 e2,V0 d8,V0 e4,.slice e5 0 e1],.nilIface],.agg #[.slice pd ((Zd l details 3 fuel).es.length) cd,.slice e3 d9 e2,V0 d8,V0 e4,.slice e5 0 e1],.nilIface,.nilIface,.bool false,undef,.tuple #[.agg #[.slice pt ((Zd l top 1 fuel).es.length) ct,.slice b9 a9 b5,V0 c0,V0 b8,.slice b7 0 b0],.nilIface],P0 b,V0 top,V0 fuel,.tuple #[.agg #[.slice pt ((Zd l top 1 fuel).es.length) ct,.slice b9 a9 b5,V0 c0,V0 b8,.slice b7 0 b0],.nilIface],.agg #[.slice pt ((Zd l top 1 fuel).es.length) ct,.slice b9 a9 b5,V0 c0,V0 b8,.slice b7 0 b0],.nilIface,.nilIface,.bool false,undef,P0 d5,.slice pd ((Zd l details 3 fuel).es.length) cd,V0 (↑((Zd l details 3 fuel).es.length):Int),.bool (decide ((↑((Zd l details 3 fuel).es.length):Int)>(4096:Int))),undef,undef,P0 d5,.slice pd ((Zd l details 3 fuel).es.length) cd,P0 e6,.slice pt ((Zd l top 1 fuel).es.length) ct,.func (.func 56) #[] #[P0 p1,P0 q1],.pointer none,.pointer none,undef,undef,undef,undef,undef,undef,undef,undef,undef,undef,undef,undef,undef,undef,undef,undef,undef,undef,undef,undef,undef,undef,undef,undef,undef,undef,undef,undef,undef,undef,undef,undef,undef,undef,undef,undef,undef,undef,undef,undef,undef],defers:=[] } rfl ?_
      refine wpIn_block ?_
      refine wpIn_block ?_
      refine wpIn_seq ?_
      refine Qh (fun⟨_,_,q⟩=>q) (by simp) ?_
      refine Jl 3 [(57,.pointer none),(58,.bool true),(56,.bool true)] (by kernel_rfl) ?_
      refine wpList_nil ?_
      refine wpIn_cond_true (by kernel_rfl) ?_
      refine wpIn_seq ?_
      refine Qh (fun⟨_,_,q⟩=>q) (by simp) ?_
      refine Qf (by kernel_rfl) (Ye ⟨b2,0,none⟩ (V0 details) rfl (by kernel_rfl) (by kernel_rfl) (c2.cell (i:=0) rfl) ?_)
      refine Qf (by kernel_rfl) (Vw (lb:=#[]) 35 #[V0 details,V0 18] rfl (by kernel_rfl) (fun _ _=>by kernel_rfl) (by kernel_rfl) ((Vv details 18 _ (by omega)).mono ?_))
      rintro e ll ⟨ck,jh,rfl,m8,i4⟩
      refine⟨_,rfl,?_⟩
      have hB:=blB (Below.refl w.heap.size W) g8 m8
      replace c3:=c3.below m8
      replace c2:=c2.below m8
      replace c8:=c8.below m8
      replace c1:=c1.below m8
      replace a8:=a8.below m8
      replace a7:=a7.below m8
      replace hZ:=hZ.below m8
      refine Qf (by kernel_rfl) (Xh (v:=S0) (b:=b3) (off:=0) rfl (by kernel_rfl) (by kernel_rfl) (by kernel_rfl) rfl c8 (by first|decide|simp) ?_)
      intro mi z5 eu
      change Blk _ _ [S0] _ at eu
      replace hB:=z5.below hB g3
      replace c3:=z5.blk c3 (Ne.symm (Ne.symm j6))
      replace c2:=z5.blk c2 (Ne.symm (Ne.symm j9))
      replace c1:=z5.blk c1 (Ne.symm c7)
      replace a8:=z5.blk a8 (Ne.symm f1)
      replace a7:=z5.blk a7 (Ne.symm e8)
      replace hZ:=hZ.upd z5 c8 (.inl (by simp))
      replace i4:=i4.only (Ze.of_upd (T:=[22]) z5 c8 (by decide)) (by decide)
      refine Qf (by kernel_rfl) (Xh (v:=.iface ck (jh)) (b:=b4) (off:=0) rfl (by kernel_rfl) (by kernel_rfl) (by kernel_rfl) rfl c1 (by first|decide|simp) ?_)
      intro lw y8 iw
      change Blk _ _ [.iface ck (jh)] _ at iw
      replace hB:=y8.below hB g4
      replace c3:=y8.blk c3 (Ne.symm (Ne.symm j5))
      replace c2:=y8.blk c2 (Ne.symm (Ne.symm j8))
      replace eu:=y8.blk eu (Ne.symm (Ne.symm c7))
      replace a8:=y8.blk a8 (Ne.symm e9)
      replace a7:=y8.blk a7 (Ne.symm f2)
      replace hZ:=hZ.upd y8 c1 (.inl (by simp))
      replace i4:=i4.only (Ze.of_upd (T:=[31]) y8 c1 (by decide)) (by decide)
      refine wpList_nil ?_
      refine wpIn_ret (Xy (Xy ?_))
      exact⟨hZ.ko.from _,rfl,_,_,_,_,(Oo v3 w3 (by omega) ((Hh _ _ 0 0 i _ eo hx rfl).trans rfl)),(by decide),eu,iw,i4,o6.trans hB⟩
     ·
      have g8:w.heap.size≤W.heap.size:=Nat.le_trans l5 hF.size
      have dy:=hI.below o6
      have hZ:RdS aw [b3,b4] W W:=RdS.refl _ hF.size
      have c3:=m7.fr hF (by simp only[List.mem_cons,List.not_mem_nil,or_false];omega)
      have c2:=o2.fr hF (by simp only[List.mem_cons,List.not_mem_nil,or_false];omega)
      have c8:=i6.fr hF (by simp only[List.mem_cons,List.not_mem_nil,or_false];omega)
      have c1:=i9.fr hF (by simp only[List.mem_cons,List.not_mem_nil,or_false];omega)
      have a8:=i1.fr hF (by simp only[List.mem_cons,List.not_mem_nil,or_false];omega)
      have a7:=i8.fr hF (by simp only[List.mem_cons,List.not_mem_nil,or_false];omega)
      refine Ti { tmps:=#[P0 b,V0 top,V0 details,V0 data,V0 fuel,undef,P0 b1,P0 b2,undef,undef,P0 b3,P0 b4,P0 d5,.nilIface,P0 e6,.pointer none,.pointer (some ⟨s5,x2+3*jb,none⟩),undef,undef,undef,undef,undef,undef,.tuple #[.agg #[.slice pd ((Zd l details 3 fuel).es.length) cd,.slice e3 d9 e2,V0 d8,V0 e4,.slice e5 0 e1],.nilIface],P0 b,V0 details,V0 fuel,.tuple #[.agg #[.slice pd ((Zd l details 3 fuel).es.length) cd,.slice e3 d9 e2,V0 d8,V0 e4,.slice e5 0 e1],.nilIface],.agg #[.slice pd ((Zd l details 3 fuel).es.length) cd,.slice e3 d9 e2,V0 d8,V0 e4,.slice e5 0 e1],.nilIface,.nilIface,.bool false,undef,.tuple #[.agg #[.slice pt ((Zd l top 1 fuel).es.length) ct,.slice b9 a9 b5,V0 c0,V0 b8,.slice b7 0 b0],.nilIface],P0 b,V0 top,V0 fuel,.tuple #[.agg #[.slice pt ((Zd l top 1 fuel).es.length) ct,.slice b9 a9 b5,V0 c0,V0 b8,.slice b7 0 b0],.nilIface],.agg #[.slice pt ((Zd l top 1 fuel).es.length) ct,.slice b9 a9 b5,V0 c0,V0 b8,.slice b7 0 b0],.nilIface,.nilIface,.bool false,undef,P0 d5,.slice pd ((Zd l details 3 fuel).es.length) cd,V0 (↑((Zd l details 3 fuel).es.length):Int),.bool (decide ((↑((Zd l details 3 fuel).es.length):Int)>(4096:Int))),undef,undef,P0 d5,.slice pd ((Zd l details 3 fuel).es.length) cd,P0 e6,.slice pt ((Zd l top 1 fuel).es.length) ct,.func (.func 56) #[] #[P0 p1,P0 q1],.pointer none,.pointer (some ⟨s5,x2+3*jb,none⟩),undef,undef,undef,undef,undef,undef,undef,undef,undef,undef,undef,undef,undef,undef,undef,undef,undef,undef,undef,undef,undef,undef,undef,undef,undef,undef,undef,undef,undef,undef,undef,undef,undef,undef,undef,undef,undef,undef,undef,undef,undef],defers:=[] } rfl ?_
      refine wpIn_block ?_
      refine wpIn_block ?_
      refine wpIn_seq ?_
      refine Qh (fun⟨_,_,q⟩=>q) (by simp) ?_
      refine Jl 3 [(57,.pointer none),(58,.bool true),(56,.bool true)] (by kernel_rfl) ?_
      refine wpList_nil ?_
      refine wpIn_cond_true (by kernel_rfl) ?_
      refine wpIn_seq ?_
      refine Qh (fun⟨_,_,q⟩=>q) (by simp) ?_
      refine Qf (by kernel_rfl) (Ye ⟨b2,0,none⟩ (V0 details) rfl (by kernel_rfl) (by kernel_rfl) (c2.cell (i:=0) rfl) ?_)
      refine Qf (by kernel_rfl) (Vw (lb:=#[]) 35 #[V0 details,V0 18] rfl (by kernel_rfl) (fun _ _=>by kernel_rfl) (by kernel_rfl) ((Vv details 18 _ (by omega)).mono ?_))
      rintro e lj ⟨cu,jp,rfl,o1,i4⟩
      refine⟨_,rfl,?_⟩
      have hB:=blB (Below.refl w.heap.size W) g8 o1
      replace c3:=c3.below o1
      replace c2:=c2.below o1
      replace c8:=c8.below o1
      replace c1:=c1.below o1
      replace a8:=a8.below o1
      replace a7:=a7.below o1
      replace hZ:=hZ.below o1
      refine Qf (by kernel_rfl) (Xh (v:=S0) (b:=b3) (off:=0) rfl (by kernel_rfl) (by kernel_rfl) (by kernel_rfl) rfl c8 (by first|decide|simp) ?_)
      intro ls aa fm
      change Blk _ _ [S0] _ at fm
      replace hB:=aa.below hB g3
      replace c3:=aa.blk c3 (Ne.symm (Ne.symm j6))
      replace c2:=aa.blk c2 (Ne.symm (Ne.symm j9))
      replace c1:=aa.blk c1 (Ne.symm c7)
      replace a8:=aa.blk a8 (Ne.symm f1)
      replace a7:=aa.blk a7 (Ne.symm e8)
      replace hZ:=hZ.upd aa c8 (.inl (by simp))
      replace i4:=i4.only (Ze.of_upd (T:=[22]) aa c8 (by decide)) (by decide)
      refine Qf (by kernel_rfl) (Xh (v:=.iface cu (jp)) (b:=b4) (off:=0) rfl (by kernel_rfl) (by kernel_rfl) (by kernel_rfl) rfl c1 (by first|decide|simp) ?_)
      intro mc y7 jd
      change Blk _ _ [.iface cu (jp)] _ at jd
      replace hB:=y7.below hB g4
      replace c3:=y7.blk c3 (Ne.symm (Ne.symm j5))
      replace c2:=y7.blk c2 (Ne.symm (Ne.symm j8))
      replace fm:=y7.blk fm (Ne.symm (Ne.symm c7))
      replace a8:=y7.blk a8 (Ne.symm e9)
      replace a7:=y7.blk a7 (Ne.symm f2)
      replace hZ:=hZ.upd y7 c1 (.inl (by simp))
      replace i4:=i4.only (Ze.of_upd (T:=[31]) y7 c1 (by decide)) (by decide)
      refine wpList_nil ?_
      refine wpIn_ret (Xy (Xy ?_))
      exact⟨hZ.ko.from _,rfl,_,_,_,_,(Oo v3 w3 (by omega) ((Hh _ _ 0 0 i _ eo hx rfl).trans rfl)),(by decide),fm,jd,i4,o6.trans hB⟩
     ·
      have g8:w.heap.size≤W.heap.size:=Nat.le_trans l5 hF.size
      have dy:=hI.below o6
      have hZ:RdS aw [b3,b4] W W:=RdS.refl _ hF.size
      have c3:=m7.fr hF (by simp only[List.mem_cons,List.not_mem_nil,or_false];omega)
      have c2:=o2.fr hF (by simp only[List.mem_cons,List.not_mem_nil,or_false];omega)
      have c8:=i6.fr hF (by simp only[List.mem_cons,List.not_mem_nil,or_false];omega)
      have c1:=i9.fr hF (by simp only[List.mem_cons,List.not_mem_nil,or_false];omega)
      have a8:=i1.fr hF (by simp only[List.mem_cons,List.not_mem_nil,or_false];omega)
      have a7:=i8.fr hF (by simp only[List.mem_cons,List.not_mem_nil,or_false];omega)
      refine Ti { tmps:=#[P0 b,V0 top,V0 details,V0 data,V0 fuel,undef,P0 b1,P0 b2,undef,undef,P0 b3,P0 b4,P0 d5,.nilIface,P0 e6,.pointer (some ⟨s0,w0+3*ja,none⟩),.pointer none,undef,undef,undef,undef,undef,undef,.tuple #[.agg #[.slice pd ((Zd l details 3 fuel).es.length) cd,.slice e3 d9 e2,V0 d8,V0 e4,.slice e5 0 e1],.nilIface],P0 b,V0 details,V0 fuel,.tuple #[.agg #[.slice pd ((Zd l details 3 fuel).es.length) cd,.slice e3 d9 e2,V0 d8,V0 e4,.slice e5 0 e1],.nilIface],.agg #[.slice pd ((Zd l details 3 fuel).es.length) cd,.slice e3 d9 e2,V0 d8,V0 e4,.slice e5 0 e1],.nilIface,.nilIface,.bool false,undef,.tuple #[.agg #[.slice pt ((Zd l top 1 fuel).es.length) ct,.slice b9 a9 b5,V0 c0,V0 b8,.slice b7 0 b0],.nilIface],P0 b,V0 top,V0 fuel,.tuple #[.agg #[.slice pt ((Zd l top 1 fuel).es.length) ct,.slice b9 a9 b5,V0 c0,V0 b8,.slice b7 0 b0],.nilIface],.agg #[.slice pt ((Zd l top 1 fuel).es.length) ct,.slice b9 a9 b5,V0 c0,V0 b8,.slice b7 0 b0],.nilIface,.nilIface,.bool false,undef,P0 d5,.slice pd ((Zd l details 3 fuel).es.length) cd,V0 (↑((Zd l details 3 fuel).es.length):Int),.bool (decide ((↑((Zd l details 3 fuel).es.length):Int)>(4096:Int))),undef,undef,P0 d5,.slice pd ((Zd l details 3 fuel).es.length) cd,P0 e6,.slice pt ((Zd l top 1 fuel).es.length) ct,.func (.func 56) #[] #[P0 p1,P0 q1],.pointer (some ⟨s0,w0+3*ja,none⟩),.pointer none,undef,undef,undef,undef,undef,undef,undef,undef,undef,undef,undef,undef,undef,undef,undef,undef,undef,undef,undef,undef,undef,undef,undef,undef,undef,undef,undef,undef,undef,undef,undef,undef,undef,undef,undef,undef,undef,undef,undef,undef,undef],defers:=[] } rfl ?_
      refine wpIn_block ?_
      refine wpIn_block ?_
      refine wpIn_seq ?_
      refine Qh (fun⟨_,_,q⟩=>q) (by simp) ?_
      refine Jl 3 [(57,.pointer (some ⟨s0,w0+3*ja,none⟩)),(58,.bool false),(56,.bool false)] (by kernel_rfl) ?_
      refine wpList_nil ?_
      refine wpIn_cond_false (by kernel_rfl) ?_
      refine wpIn_seq ?_
      refine Qh (fun⟨_,_,q⟩=>q) (by simp) ?_
      refine Jl 3 [(62,.pointer none),(63,.bool true),(61,.bool true)] (by kernel_rfl) ?_
      refine wpList_nil ?_
      refine wpIn_cond_true (by kernel_rfl) ?_
      refine wpIn_seq ?_
      refine Qh (fun⟨_,_,q⟩=>q) (by simp) ?_
      refine Qf (by kernel_rfl) (Ye ⟨b1,0,none⟩ (V0 top) rfl (by kernel_rfl) (by kernel_rfl) (c3.cell (i:=0) rfl) ?_)
      refine Qf (by kernel_rfl) (Vw (lb:=#[]) 35 #[V0 top,V0 18] rfl (by kernel_rfl) (fun _ _=>by kernel_rfl) (by kernel_rfl) ((Vv top 18 _ (by omega)).mono ?_))
      rintro e mo ⟨dj,iu,rfl,n8,i4⟩
      refine⟨_,rfl,?_⟩
      have hB:=blB (Below.refl w.heap.size W) g8 n8
      replace c3:=c3.below n8
      replace c2:=c2.below n8
      replace c8:=c8.below n8
      replace c1:=c1.below n8
      replace a8:=a8.below n8
      replace a7:=a7.below n8
      replace hZ:=hZ.below n8
      refine Qf (by kernel_rfl) (Xh (v:=S0) (b:=b3) (off:=0) rfl (by kernel_rfl) (by kernel_rfl) (by kernel_rfl) rfl c8 (by first|decide|simp) ?_)
      intro lm z3 du
      change Blk _ _ [S0] _ at du
      replace hB:=z3.below hB g3
      replace c3:=z3.blk c3 (Ne.symm (Ne.symm j6))
      replace c2:=z3.blk c2 (Ne.symm (Ne.symm j9))
      replace c1:=z3.blk c1 (Ne.symm c7)
      replace a8:=z3.blk a8 (Ne.symm f1)
      replace a7:=z3.blk a7 (Ne.symm e8)
      replace hZ:=hZ.upd z3 c8 (.inl (by simp))
      replace i4:=i4.only (Ze.of_upd (T:=[22]) z3 c8 (by decide)) (by decide)
      refine Qf (by kernel_rfl) (Xh (v:=.iface dj (iu)) (b:=b4) (off:=0) rfl (by kernel_rfl) (by kernel_rfl) (by kernel_rfl) rfl c1 (by first|decide|simp) ?_)
      intro ly y9 js
      change Blk _ _ [.iface dj (iu)] _ at js
      replace hB:=y9.below hB g4
      replace c3:=y9.blk c3 (Ne.symm (Ne.symm j5))
      replace c2:=y9.blk c2 (Ne.symm (Ne.symm j8))
      replace du:=y9.blk du (Ne.symm (Ne.symm c7))
      replace a8:=y9.blk a8 (Ne.symm e9)
      replace a7:=y9.blk a7 (Ne.symm f2)
      replace hZ:=hZ.upd y9 c1 (.inl (by simp))
      replace i4:=i4.only (Ze.of_upd (T:=[31]) y9 c1 (by decide)) (by decide)
      refine wpList_nil ?_
      refine wpIn_ret (Xy (Xy ?_))
      exact⟨hZ.ko.from _,rfl,_,_,_,_,(devsO_p2 v3 w3 (by omega) ((Hh _ _ 0 0 i _ eo hx rfl).trans rfl)),(by decide),du,js,i4,o6.trans hB⟩
     ·
      have g8:w.heap.size≤W.heap.size:=Nat.le_trans l5 hF.size
      have dy:=hI.below o6
      have hZ:RdS aw [b3,b4] W W:=RdS.refl _ hF.size
      have c3:=m7.fr hF (by simp only[List.mem_cons,List.not_mem_nil,or_false];omega)
      have c2:=o2.fr hF (by simp only[List.mem_cons,List.not_mem_nil,or_false];omega)
      have c8:=i6.fr hF (by simp only[List.mem_cons,List.not_mem_nil,or_false];omega)
      have c1:=i9.fr hF (by simp only[List.mem_cons,List.not_mem_nil,or_false];omega)
      have a8:=i1.fr hF (by simp only[List.mem_cons,List.not_mem_nil,or_false];omega)
      have a7:=i8.fr hF (by simp only[List.mem_cons,List.not_mem_nil,or_false];omega)
      refine Ti { tmps:=#[P0 b,V0 top,V0 details,V0 data,V0 fuel,undef,P0 b1,P0 b2,undef,undef,P0 b3,P0 b4,P0 d5,.nilIface,P0 e6,.pointer (some ⟨s0,w0+3*ja,none⟩),.pointer (some ⟨s5,x2+3*jb,none⟩),undef,undef,undef,undef,undef,undef,.tuple #[.agg #[.slice pd ((Zd l details 3 fuel).es.length) cd,.slice e3 d9 e2,V0 d8,V0 e4,.slice e5 0 e1],.nilIface],P0 b,V0 details,V0 fuel,.tuple #[.agg #[.slice pd ((Zd l details 3 fuel).es.length) cd,.slice e3 d9 e2,V0 d8,V0 e4,.slice e5 0 e1],.nilIface],.agg #[.slice pd ((Zd l details 3 fuel).es.length) cd,.slice e3 d9 e2,V0 d8,V0 e4,.slice e5 0 e1],.nilIface,.nilIface,.bool false,undef,.tuple #[.agg #[.slice pt ((Zd l top 1 fuel).es.length) ct,.slice b9 a9 b5,V0 c0,V0 b8,.slice b7 0 b0],.nilIface],P0 b,V0 top,V0 fuel,.tuple #[.agg #[.slice pt ((Zd l top 1 fuel).es.length) ct,.slice b9 a9 b5,V0 c0,V0 b8,.slice b7 0 b0],.nilIface],.agg #[.slice pt ((Zd l top 1 fuel).es.length) ct,.slice b9 a9 b5,V0 c0,V0 b8,.slice b7 0 b0],.nilIface,.nilIface,.bool false,undef,P0 d5,.slice pd ((Zd l details 3 fuel).es.length) cd,V0 (↑((Zd l details 3 fuel).es.length):Int),.bool (decide ((↑((Zd l details 3 fuel).es.length):Int)>(4096:Int))),undef,undef,P0 d5,.slice pd ((Zd l details 3 fuel).es.length) cd,P0 e6,.slice pt ((Zd l top 1 fuel).es.length) ct,.func (.func 56) #[] #[P0 p1,P0 q1],.pointer (some ⟨s0,w0+3*ja,none⟩),.pointer (some ⟨s5,x2+3*jb,none⟩),undef,undef,undef,undef,undef,undef,undef,undef,undef,undef,undef,undef,undef,undef,undef,undef,undef,undef,undef,undef,undef,undef,undef,undef,undef,undef,undef,undef,undef,undef,undef,undef,undef,undef,undef,undef,undef,undef,undef,undef,undef],defers:=[] } rfl ?_
      refine wpIn_block ?_
      refine wpIn_block ?_
      refine wpIn_seq ?_
      refine Qh (fun⟨_,_,q⟩=>q) (by simp) ?_
      refine Jl 3 [(57,.pointer (some ⟨s0,w0+3*ja,none⟩)),(58,.bool false),(56,.bool false)] (by kernel_rfl) ?_
      refine wpList_nil ?_
      refine wpIn_cond_false (by kernel_rfl) ?_
      refine wpIn_seq ?_
      refine Qh (fun⟨_,_,q⟩=>q) (by simp) ?_
      refine Jl 3 [(62,.pointer (some ⟨s5,x2+3*jb,none⟩)),(63,.bool false),(61,.bool false)] (by kernel_rfl) ?_
      refine wpList_nil ?_
      refine wpIn_cond_false (by kernel_rfl) ?_
      refine wpIn_skip ?_
      exact⟨KeepsFrom.refl _ _,Keeps.refl _ _,o6,hF,Et eo hx rfl⟩
    case stop =>
     rintro D c k V hD hk ⟨rfl,ty,v,bl,er,hO,fp,ca,j2,hv,hb⟩ x4
     have hK:Dfr D V:=x4
     refine wp_ret (Xy (Nx ?_))
     exact ret1 ca j2 hK (Za1 (.inr ⟨_,_,rfl⟩) (by kernel_rfl) (by kernel_rfl)) rfl (Hs hO fp (Wo hb hb.size (Nat.le_trans l5 hD) _) (hv.pt hK _))
    case done =>
     rintro D1 W9 iy ⟨km,z9,ap⟩ x4
     have hK:Dfr D1 W9:=x4;clear x4
     rw[List.take_length] at ap
     have cy:=ap
     have ek:=(Bf _ _ 0 0 ap).1
     have kb:=(Zb8 ek).1
     have d1:=m7.fr z9 (by simp only[List.mem_cons,List.not_mem_nil,or_false];omega)
     have d4:=o2.fr z9 (by simp only[List.mem_cons,List.not_mem_nil,or_false];omega)
     have d2:=i6.fr z9 (by simp only[List.mem_cons,List.not_mem_nil,or_false];omega)
     have d3:=i9.fr z9 (by simp only[List.mem_cons,List.not_mem_nil,or_false];omega)
     have c5:=i1.fr z9 (by simp only[List.mem_cons,List.not_mem_nil,or_false];omega)
     have c4:=i8.fr z9 (by simp only[List.mem_cons,List.not_mem_nil,or_false];omega)
     have s9:=Cx cg z9 (fun d hd=>by simp only[List.mem_cons,List.not_mem_nil,or_false];rintro(h|h);exact Xc cg z0 (by decide) d hd h;exact Xc cg z2 (by decide) d hd h)
     have s6:=Cx bx z9 (fun d hd=>by simp only[List.mem_cons,List.not_mem_nil,or_false];rintro(h|h);exact Xc bx z0 (by decide) d hd h;exact Xc bx z2 (by decide) d hd h)
     replace hB:=km
     refine wp_seq ?_
     refine wp_region_lit ?_
     refine Jl 4 [(66,P0 b),(67,V0 data),(68,V0 fuel),(69,.agg #[P0 b,V0 data,V0 fuel,V0 0])] (by kernel_rfl) ?_
     refine Qf (by kernel_rfl) (Sq [P0 b,V0 data,V0 fuel,V0 0] rfl (by kernel_rfl) ?_)
     intro g9 li m4
     have ac:=m4.ne d1
     have bg:=m4.ne d4
     have bj:=m4.ne d2
     have ad:=m4.ne d3
     have y0:=m4.ne c5
     have x1:=m4.ne c4
     have ka:=m4.ge hB
     replace hB:=bln hB m4.below
     replace d1:=d1.below m4.below
     replace d4:=d4.below m4.below
     replace d2:=d2.below m4.below
     replace d3:=d3.below m4.below
     replace c5:=c5.below m4.below
     replace c4:=c4.below m4.below
     replace s9:=Zb s9 m4.below
     replace s6:=Zb s6 m4.below
     replace hK:=hK.below m4.below
     have s1:=m4.blk
     refine Qf (by kernel_rfl) (Qm [.pointer none] rfl (by kernel_rfl) ?_)
     intro z8 mb j7
     have bh:=j7.ne d1
     have au:=j7.ne d4
     have k5:=j7.ne d2
     have l3:=j7.ne d3
     have w5:=j7.ne c5
     have y4:=j7.ne c4
     have q5:=j7.ne s1
     have jz:=j7.ge hB
     replace hB:=bln hB j7.below
     replace d1:=d1.below j7.below
     replace d4:=d4.below j7.below
     replace d2:=d2.below j7.below
     replace d3:=d3.below j7.below
     replace c5:=c5.below j7.below
     replace c4:=c4.below j7.below
     replace s1:=s1.below j7.below
     replace s9:=Zb s9 j7.below
     replace s6:=Zb s6 j7.below
     replace hK:=hK.below j7.below
     have fk:=j7.blk
     refine Qf (by kernel_rfl) (Xh (v:=P0 g9) (b:=z8) (off:=0) rfl (by kernel_rfl) (by kernel_rfl) (by kernel_rfl) rfl fk (by first|decide|simp) ?_)
     intro lp t4 y6
     change Blk _ _ [P0 g9] _ at y6
     replace hB:=t4.below hB jz
     replace d1:=t4.blk d1 (Ne.symm (Ne.symm bh))
     replace d4:=t4.blk d4 (Ne.symm (Ne.symm au))
     replace d2:=t4.blk d2 (Ne.symm (Ne.symm k5))
     replace d3:=t4.blk d3 (Ne.symm (Ne.symm l3))
     replace c5:=t4.blk c5 (Ne.symm (Ne.symm w5))
     replace c4:=t4.blk c4 (Ne.symm (Ne.symm y4))
     replace s1:=t4.blk s1 (Ne.symm (Ne.symm q5))
     replace s9:=t4.own2 s9 fk (by decide)
     replace s6:=t4.own2 s6 fk (by decide)
     replace hK:=hK.upd t4 fk
     refine wpList_nil ?_
     refine wp_seq ?_
     refine wp_region_lit ?_
     refine Qf (by kernel_rfl) (Qm [S0] rfl (by kernel_rfl) ?_)
     intro i2 mp j0
     have p3:=j0.ne d1
     have o9:=j0.ne d4
     have g7:=j0.ne d2
     have g5:=j0.ne d3
     have m0:=j0.ne c5
     have l8:=j0.ne c4
     have r7:=j0.ne s1
     have l7:=j0.ne y6
     have iv:=j0.ge hB
     replace hB:=bln hB j0.below
     replace d1:=d1.below j0.below
     replace d4:=d4.below j0.below
     replace d2:=d2.below j0.below
     replace d3:=d3.below j0.below
     replace c5:=c5.below j0.below
     replace c4:=c4.below j0.below
     replace s1:=s1.below j0.below
     replace y6:=y6.below j0.below
     replace s9:=Zb s9 j0.below
     replace s6:=Zb s6 j0.below
     replace hK:=hK.below j0.below
     have dp:=j0.blk
     refine wpList_nil ?_
     refine wp_seq ?_
     refine wp_seq ?_
     refine wp_region_lit ?_
     refine Jl 1 [(71,P0 d5)] (by kernel_rfl) ?_
     refine Qf (by kernel_rfl) (Ye ⟨d5,0,none⟩ (.slice pd ((Zd l details 3 fuel).es.length) cd) rfl (by kernel_rfl) (by kernel_rfl) (c5.cell (i:=0) rfl) ?_)
     refine Jl 1 [(73,P0 e6)] (by kernel_rfl) ?_
     refine Qf (by kernel_rfl) (Ye ⟨e6,0,none⟩ (.slice pt ((Zd l top 1 fuel).es.length) ct) rfl (by kernel_rfl) (by kernel_rfl) (c4.cell (i:=0) rfl) ?_)
     have ft:=Zg s9
     have gr:=Zg s6
     have di:=hB.size
     have fx:=d1.lt
     have fv:=d4.lt
     have hn:=d2.lt
     have gz:=d3.lt
     have ew:=c5.lt
     have ez:=c4.lt
     have eh:=s1.lt
     have ej:=y6.lt
     have dv:=dp.lt
     refine Qf (by kernel_rfl) (Vw (lb:=#[]) 36 #[.slice pd ((Zd l details 3 fuel).es.length) cd,.slice pt ((Zd l top 1 fuel).es.length) ct] rfl (by kernel_rfl) (fun _ _=>by kernel_rfl) (by kernel_rfl) ((Mk pd (Zd l details 3 fuel).es.length cd pt (Zd l top 1 fuel).es.length ct _).mono ?_))
     rintro e ao ⟨p2,q2,rfl,f9,co,dr,hl,ay,ak⟩
     refine⟨_,rfl,?_⟩
     replace hB:=bln hB f9
     replace d1:=d1.below f9
     replace d4:=d4.below f9
     replace d2:=d2.below f9
     replace d3:=d3.below f9
     replace c5:=c5.below f9
     replace c4:=c4.below f9
     replace s1:=s1.below f9
     replace y6:=y6.below f9
     replace dp:=dp.below f9
     replace s9:=Zb s9 f9
     replace s6:=Zb s6 f9
     replace hK:=hK.below f9
     refine wpList_nil ?_
     refine wp_block ?_
     obtain⟨br,et,bb,ed,hq,s3,s2⟩:=Sc (A:=(Zd l details 3 fuel).es) (E:=(Zd l top 1 fuel).es) rfl rfl (by omega) (by omega) ft gr f9 co dr hl ay ak
     have m1:w.heap.size≤ao.heap.size:=hB.size
     have jw:w.heap.size≤p2:=Nat.le_trans di co
     have kz:w.heap.size≤q2:=Nat.le_trans di dr
     have x0:=ay.lt
     have x8:=ak.lt
     have hs:=hB
     have z6:=d1
     have z7:=d4
     have j4:=d2
     have k0:=d3
     have t0:=c5
     have u6:=c4
     have i5:=s1
     have t9:=y6
     have i3:=dp
     have v4:=ay
     have t7:=ak
     have v9:=s9
     have w2:=s6
     have ii:w.heap.size≤g9:=ka
     have r4:b1≠g9:=(Ne.symm (Ne.symm ac))
     have q4:b1≠i2:=(Ne.symm (Ne.symm p3))
     have q6:b2≠g9:=(Ne.symm (Ne.symm bg))
     have q7:b2≠i2:=(Ne.symm (Ne.symm o9))
     have r0:b3≠g9:=(Ne.symm (Ne.symm bj))
     have r3:b3≠i2:=(Ne.symm (Ne.symm g7))
     have r2:b4≠g9:=(Ne.symm (Ne.symm ad))
     have r8:b4≠i2:=(Ne.symm (Ne.symm g5))
     have m5:d5≠g9:=(Ne.symm (Ne.symm y0))
     have n9:d5≠i2:=(Ne.symm (Ne.symm m0))
     have n7:e6≠g9:=(Ne.symm (Ne.symm x1))
     have o0:e6≠i2:=(Ne.symm (Ne.symm l8))
     have n5:z8≠g9:=(Ne.symm q5)
     have m6:z8≠i2:=(Ne.symm (Ne.symm l7))
     have kc:g9≠p2:=by omega
     have ku:g9≠q2:=by omega
     have kd:i2≠p2:=by omega
     have kj:i2≠q2:=by omega
     have aq:∀ d,(fun d=>d=p2∨d=q2∨((Zd l details 3 fuel).es.length≠0∧d=br)∨((Zd l top 1 fuel).es.length≠0∧d=bb)) d→d<ao.heap.size:=by
      rintro d (rfl|rfl|⟨h,rfl⟩|⟨h,rfl⟩)
      ·exact x0
      ·exact x8
      ·exact(v9.lt _ (by rw[s3 h];rfl)).2
      ·exact(w2.lt _ (by rw[s2 h];rfl)).2
     have cs:∀ d,(fun d=>d=p2∨d=q2∨((Zd l details 3 fuel).es.length≠0∧d=br)∨((Zd l top 1 fuel).es.length≠0∧d=bb)) d→d∉[b3,b4,g9,i2]:=by
      rintro d (rfl|rfl|⟨h,rfl⟩|⟨h,rfl⟩)<;>simp only[List.mem_cons,List.not_mem_nil,or_false]
      ·omega
      ·omega
      ·rintro(h9|h9|h9|h9)
       ·exact Xc v9 j4 (by decide) _ (by rw[s3 h];rfl) h9
       ·exact Xc v9 k0 (by decide) _ (by rw[s3 h];rfl) h9
       ·exact Xc v9 i5 (by decide) _ (by rw[s3 h];rfl) h9
       ·exact Xc v9 i3 (by decide) _ (by rw[s3 h];rfl) h9
      ·rintro(h9|h9|h9|h9)
       ·exact Xc w2 j4 (by decide) _ (by rw[s2 h];rfl) h9
       ·exact Xc w2 k0 (by decide) _ (by rw[s2 h];rfl) h9
       ·exact Xc w2 i5 (by decide) _ (by rw[s2 h];rfl) h9
       ·exact Xc w2 i3 (by decide) _ (by rw[s2 h];rfl) h9
     have bi:D1<ao.heap.size:=(Array.getElem?_eq_some_iff.1 hK).1
     have ha:D1∉[p2,q2,g9,i2]:=by simp only[List.mem_cons,List.not_mem_nil,or_false];rintro(h9|h9|h9|h9);exact(hK.ne v4) h9.symm;exact(hK.ne t7) h9.symm;exact(hK.ne i5) h9.symm;exact(hK.ne i3) h9.symm
     have hu:=hK
     refine g_fr ⟨#[P0 b,V0 top,V0 details,V0 data,V0 fuel,undef,P0 b1,P0 b2,undef,undef,P0 b3,P0 b4,P0 d5,.nilIface,P0 e6,undef,undef,P0 z8,P0 i2,undef,undef,undef,undef,.tuple #[.agg #[.slice pd ((Zd l details 3 fuel).es.length) cd,.slice e3 d9 e2,V0 d8,V0 e4,.slice e5 0 e1],.nilIface],P0 b,V0 details,V0 fuel,.tuple #[.agg #[.slice pd ((Zd l details 3 fuel).es.length) cd,.slice e3 d9 e2,V0 d8,V0 e4,.slice e5 0 e1],.nilIface],.agg #[.slice pd ((Zd l details 3 fuel).es.length) cd,.slice e3 d9 e2,V0 d8,V0 e4,.slice e5 0 e1],.nilIface,.nilIface,.bool false,undef,.tuple #[.agg #[.slice pt ((Zd l top 1 fuel).es.length) ct,.slice b9 a9 b5,V0 c0,V0 b8,.slice b7 0 b0],.nilIface],P0 b,V0 top,V0 fuel,.tuple #[.agg #[.slice pt ((Zd l top 1 fuel).es.length) ct,.slice b9 a9 b5,V0 c0,V0 b8,.slice b7 0 b0],.nilIface],.agg #[.slice pt ((Zd l top 1 fuel).es.length) ct,.slice b9 a9 b5,V0 c0,V0 b8,.slice b7 0 b0],.nilIface,.nilIface,.bool false,undef,P0 d5,.slice pd ((Zd l details 3 fuel).es.length) cd,V0 (↑((Zd l details 3 fuel).es.length):Int),.bool (decide ((↑((Zd l details 3 fuel).es.length):Int)>(4096:Int))),undef,undef,P0 d5,.slice pd ((Zd l details 3 fuel).es.length) cd,P0 e6,.slice pt ((Zd l top 1 fuel).es.length) ct,.func (.func 56) #[] #[P0 p1,P0 q1],undef,undef,undef,undef,undef,undef,undef,undef,undef,undef,undef,undef,P0 b,V0 data,V0 fuel,.agg #[P0 b,V0 data,V0 fuel,V0 0],P0 g9,P0 d5,.slice pd ((Zd l details 3 fuel).es.length) cd,P0 e6,.slice pt ((Zd l top 1 fuel).es.length) ct,.func (.func 56) #[] #[P0 p2,P0 q2],undef,undef,undef,undef,undef,undef,undef,undef,undef,undef,undef,undef,undef,undef,undef,undef,undef,undef,undef,undef,undef],[{ target:=.collected D1,args:=#[] }]⟩ (by kernel_rfl) ?_
     refine Rn (g:=.tmp 75) (gf:=56) (lb:=#[P0 p2,P0 q2]) rfl (enters_of Tryz.func56 (by kernel_rfl) rfl) (fun d=>d=p2∨d=q2∨((Zd l details 3 fuel).es.length≠0∧d=br)∨((Zd l top 1 fuel).es.length≠0∧d=bb)) (fun d=>d=p2∨d=q2) aq (fun d h=>h.elim (fun q=>q▸x0) (fun q=>q▸x8)) hq (fun _=>rfl)
      (fun i V=>B0 w V∧Fr [p2,q2,g9,i2] ao V∧Blk V g9 [P0 b,V0 data,V0 fuel,V0 (↑(sumL l (Zd l top 1 fuel).es data fuel i):Int)] 97∧(sumL l (Zd l top 1 fuel).es data fuel i)≤16384∧devK l (Zd l details 3 fuel).es (Zd l top 1 fuel).es data fuel i∧∃ (p:O0) (c:Nat) (Z:List Zv),Blk V i2 [.slice p i c] 22∧V.ownsRow ao.heap.size 40 5 (.slice p i c) i (Z.flatMap Ca)∧Xl ao.heap.size V Z∧Z.length=i∧Z.map Prod.fst=Zgk l (Zd l details 3 fuel).es (Zd l top 1 fuel).es data fuel i)
      (fun c i V=>c=.ret∧Dfr D1 V∧Zdl (Qp l top details data fuel) w b3 b4 V) ?own (fun c k A B fs h hg hr=>⟨h.1,(hg.block D1 (Array.getElem?_eq_some_iff.1 h.2.1).1 (fun e=>by have:=(hr _ e.symm).1;omega)).trans h.2.1,h.2.2.ab (q:=fun _=>False) hg hr m1⟩) ?start
      (fun x=>{ tmps:=#[P0 b,V0 top,V0 details,V0 data,V0 fuel,undef,P0 b1,P0 b2,undef,undef,P0 b3,P0 b4,P0 d5,.nilIface,P0 e6,undef,undef,P0 z8,P0 i2,(Nr br et x.1),(Nr bb ed x.2),undef,undef,.tuple #[.agg #[.slice pd ((Zd l details 3 fuel).es.length) cd,.slice e3 d9 e2,V0 d8,V0 e4,.slice e5 0 e1],.nilIface],P0 b,V0 details,V0 fuel,.tuple #[.agg #[.slice pd ((Zd l details 3 fuel).es.length) cd,.slice e3 d9 e2,V0 d8,V0 e4,.slice e5 0 e1],.nilIface],.agg #[.slice pd ((Zd l details 3 fuel).es.length) cd,.slice e3 d9 e2,V0 d8,V0 e4,.slice e5 0 e1],.nilIface,.nilIface,.bool false,undef,.tuple #[.agg #[.slice pt ((Zd l top 1 fuel).es.length) ct,.slice b9 a9 b5,V0 c0,V0 b8,.slice b7 0 b0],.nilIface],P0 b,V0 top,V0 fuel,.tuple #[.agg #[.slice pt ((Zd l top 1 fuel).es.length) ct,.slice b9 a9 b5,V0 c0,V0 b8,.slice b7 0 b0],.nilIface],.agg #[.slice pt ((Zd l top 1 fuel).es.length) ct,.slice b9 a9 b5,V0 c0,V0 b8,.slice b7 0 b0],.nilIface,.nilIface,.bool false,undef,P0 d5,.slice pd ((Zd l details 3 fuel).es.length) cd,V0 (↑((Zd l details 3 fuel).es.length):Int),.bool (decide ((↑((Zd l details 3 fuel).es.length):Int)>(4096:Int))),undef,undef,P0 d5,.slice pd ((Zd l details 3 fuel).es.length) cd,P0 e6,.slice pt ((Zd l top 1 fuel).es.length) ct,.func (.func 56) #[] #[P0 p1,P0 q1],undef,undef,undef,undef,undef,undef,undef,undef,undef,undef,undef,undef,P0 b,V0 data,V0 fuel,.agg #[P0 b,V0 data,V0 fuel,V0 0],P0 g9,P0 d5,.slice pd ((Zd l details 3 fuel).es.length) cd,P0 e6,.slice pt ((Zd l top 1 fuel).es.length) ct,.func (.func 56) #[] #[P0 p2,P0 q2],(Nr br et x.1),(Nr bb ed x.2),undef,undef,undef,undef,undef,undef,undef,undef,undef,undef,undef,undef,undef,undef,undef,undef,undef,undef,undef],defers:=[] }) ?assign ?body ?done ?stop
     case own =>
      rintro k A B fs ⟨h1,h2,h3,h4,h5,p,c,Z,h6,h7,h8,h9,jx⟩ hg hr
      exact⟨Zae h1 hg hr (Nat.le_refl _) m1 (fun r q=>by rcases q with rfl|rfl;exact jw;exact kz),fr_ab h2 hg hr (fun r h=>by rcases h with rfl|rfl<;>simp),blk_ab h3 hg hr (fun r q=>by rcases q with rfl|rfl;exact kc;exact ku),h4,h5,p,c,Z,blk_ab h6 hg hr (fun r q=>by rcases q with rfl|rfl;exact kd;exact kj),own_ab h7 hg hr (fun r q=>by rcases q with rfl|rfl;exact x0;exact x8),h8.ab hg hr (fun r q=>by rcases q with rfl|rfl;exact x0;exact x8),h9,jx⟩
     case start =>
      exact⟨hs,Fr.refl _ _,s1,Nat.zero_le _,fun j hj=>absurd hj (by omega),none,0,[],dp,World.ownsRow_nil _ _ _ _,Xl.nil _ _,rfl,rfl⟩
     case assign =>
      intro lr i x W K hx hK
      refine Ti { tmps:=#[P0 b,V0 top,V0 details,V0 data,V0 fuel,undef,P0 b1,P0 b2,undef,undef,P0 b3,P0 b4,P0 d5,.nilIface,P0 e6,undef,undef,P0 z8,P0 i2,undef,undef,undef,undef,.tuple #[.agg #[.slice pd ((Zd l details 3 fuel).es.length) cd,.slice e3 d9 e2,V0 d8,V0 e4,.slice e5 0 e1],.nilIface],P0 b,V0 details,V0 fuel,.tuple #[.agg #[.slice pd ((Zd l details 3 fuel).es.length) cd,.slice e3 d9 e2,V0 d8,V0 e4,.slice e5 0 e1],.nilIface],.agg #[.slice pd ((Zd l details 3 fuel).es.length) cd,.slice e3 d9 e2,V0 d8,V0 e4,.slice e5 0 e1],.nilIface,.nilIface,.bool false,undef,.tuple #[.agg #[.slice pt ((Zd l top 1 fuel).es.length) ct,.slice b9 a9 b5,V0 c0,V0 b8,.slice b7 0 b0],.nilIface],P0 b,V0 top,V0 fuel,.tuple #[.agg #[.slice pt ((Zd l top 1 fuel).es.length) ct,.slice b9 a9 b5,V0 c0,V0 b8,.slice b7 0 b0],.nilIface],.agg #[.slice pt ((Zd l top 1 fuel).es.length) ct,.slice b9 a9 b5,V0 c0,V0 b8,.slice b7 0 b0],.nilIface,.nilIface,.bool false,undef,P0 d5,.slice pd ((Zd l details 3 fuel).es.length) cd,V0 (↑((Zd l details 3 fuel).es.length):Int),.bool (decide ((↑((Zd l details 3 fuel).es.length):Int)>(4096:Int))),undef,undef,P0 d5,.slice pd ((Zd l details 3 fuel).es.length) cd,P0 e6,.slice pt ((Zd l top 1 fuel).es.length) ct,.func (.func 56) #[] #[P0 p1,P0 q1],undef,undef,undef,undef,undef,undef,undef,undef,undef,undef,undef,undef,P0 b,V0 data,V0 fuel,.agg #[P0 b,V0 data,V0 fuel,V0 0],P0 g9,P0 d5,.slice pd ((Zd l details 3 fuel).es.length) cd,P0 e6,.slice pt ((Zd l top 1 fuel).es.length) ct,.func (.func 56) #[] #[P0 p2,P0 q2],(Nr br et x.1),(Nr bb ed x.2),undef,undef,undef,undef,undef,undef,undef,undef,undef,undef,undef,undef,undef,undef,undef,undef,undef,undef,undef],defers:=[] } (by kernel_rfl) ?_
      refine wpIn_seq ?_
      refine Qh (fun⟨_,_,q⟩=>q) (by simp) ?_
      refine Jl 1 [(19,(Nr br et x.1))] (by kernel_rfl) ?_
      refine wpList_nil ?_
      refine Qh (fun⟨_,_,q⟩=>q) (by simp) ?_
      refine Jl 1 [(20,(Nr bb ed x.2))] (by kernel_rfl) ?_
      refine wpList_nil ?_
      exact hK
     case body =>
      rintro lr i x W kh hx ⟨o6,hF,kl,gc,ar,p,cp,Z,k8,ho,d0,cq,dq⟩
      obtain⟨md,rfl⟩:=(Dh cy).2 _ _ hx
      have mn:(Zd l details 3 fuel).es.length=(Zd l top 1 fuel).es.length:=kb
      have g8:w.heap.size≤W.heap.size:=Nat.le_trans m1 hF.size
      have dy:=hI.below o6
      have hZ:RdS ao [b3,b4,g9,i2] W W:=RdS.refl _ hF.size
      have a6:=z6.fr hF (by simp only[List.mem_cons,List.not_mem_nil,or_false];rintro(h|h|h|h);omega;omega;exact r4 h;exact q4 h)
      have a5:=z7.fr hF (by simp only[List.mem_cons,List.not_mem_nil,or_false];rintro(h|h|h|h);omega;omega;exact q6 h;exact q7 h)
      have a4:=j4.fr hF (by simp only[List.mem_cons,List.not_mem_nil,or_false];rintro(h|h|h|h);omega;omega;exact r0 h;exact r3 h)
      have a3:=k0.fr hF (by simp only[List.mem_cons,List.not_mem_nil,or_false];rintro(h|h|h|h);omega;omega;exact r2 h;exact r8 h)
      have a0:=t0.fr hF (by simp only[List.mem_cons,List.not_mem_nil,or_false];rintro(h|h|h|h);omega;omega;exact m5 h;exact n9 h)
      have a1:=u6.fr hF (by simp only[List.mem_cons,List.not_mem_nil,or_false];rintro(h|h|h|h);omega;omega;exact n7 h;exact o0 h)
      have a2:=t9.fr hF (by simp only[List.mem_cons,List.not_mem_nil,or_false];rintro(h|h|h|h);omega;omega;exact n5 h;exact m6 h)
      have ea:=Zal (i:=i) (s3 (by omega))
      have eb:=Zal (i:=i) (s2 (by omega))
      refine Ti { tmps:=#[P0 b,V0 top,V0 details,V0 data,V0 fuel,undef,P0 b1,P0 b2,undef,undef,P0 b3,P0 b4,P0 d5,.nilIface,P0 e6,undef,undef,P0 z8,P0 i2,.pointer (some (Xa pd (i*3))),.pointer (some (Xa pt (i*3))),undef,undef,.tuple #[.agg #[.slice pd ((Zd l details 3 fuel).es.length) cd,.slice e3 d9 e2,V0 d8,V0 e4,.slice e5 0 e1],.nilIface],P0 b,V0 details,V0 fuel,.tuple #[.agg #[.slice pd ((Zd l details 3 fuel).es.length) cd,.slice e3 d9 e2,V0 d8,V0 e4,.slice e5 0 e1],.nilIface],.agg #[.slice pd ((Zd l details 3 fuel).es.length) cd,.slice e3 d9 e2,V0 d8,V0 e4,.slice e5 0 e1],.nilIface,.nilIface,.bool false,undef,.tuple #[.agg #[.slice pt ((Zd l top 1 fuel).es.length) ct,.slice b9 a9 b5,V0 c0,V0 b8,.slice b7 0 b0],.nilIface],P0 b,V0 top,V0 fuel,.tuple #[.agg #[.slice pt ((Zd l top 1 fuel).es.length) ct,.slice b9 a9 b5,V0 c0,V0 b8,.slice b7 0 b0],.nilIface],.agg #[.slice pt ((Zd l top 1 fuel).es.length) ct,.slice b9 a9 b5,V0 c0,V0 b8,.slice b7 0 b0],.nilIface,.nilIface,.bool false,undef,P0 d5,.slice pd ((Zd l details 3 fuel).es.length) cd,V0 (↑((Zd l details 3 fuel).es.length):Int),.bool (decide ((↑((Zd l details 3 fuel).es.length):Int)>(4096:Int))),undef,undef,P0 d5,.slice pd ((Zd l details 3 fuel).es.length) cd,P0 e6,.slice pt ((Zd l top 1 fuel).es.length) ct,.func (.func 56) #[] #[P0 p1,P0 q1],undef,undef,undef,undef,undef,undef,undef,undef,undef,undef,undef,undef,P0 b,V0 data,V0 fuel,.agg #[P0 b,V0 data,V0 fuel,V0 0],P0 g9,P0 d5,.slice pd ((Zd l details 3 fuel).es.length) cd,P0 e6,.slice pt ((Zd l top 1 fuel).es.length) ct,.func (.func 56) #[] #[P0 p2,P0 q2],.pointer (some (Xa pd (i*3))),.pointer (some (Xa pt (i*3))),undef,undef,undef,undef,undef,undef,undef,undef,undef,undef,undef,undef,undef,undef,undef,undef,undef,undef,undef],defers:=[] } (by simp only[ea,eb]) ?_
      have d6:=Cx v9 hF (fun d hd=>by simp only[List.mem_cons,List.not_mem_nil,or_false];rintro(h|h|h|h);exact Xc v9 v4 (by decide) d hd h;exact Xc v9 t7 (by decide) d hd h;exact Xc v9 i5 (by decide) d hd h;exact Xc v9 i3 (by decide) d hd h)
      have d7:=Cx w2 hF (fun d hd=>by simp only[List.mem_cons,List.not_mem_nil,or_false];rintro(h|h|h|h);exact Xc w2 v4 (by decide) d hd h;exact Xc w2 t7 (by decide) d hd h;exact Xc w2 i5 (by decide) d hd h;exact Xc w2 i3 (by decide) d hd h)
      refine wpIn_block ?_
      refine wpIn_seq ?_
      have hB:=blB (Below.refl w.heap.size W) g8 (Za W)
      replace a6:=a6.below (Za W)
      replace a5:=a5.below (Za W)
      replace a4:=a4.below (Za W)
      replace a3:=a3.below (Za W)
      replace a0:=a0.below (Za W)
      replace a1:=a1.below (Za W)
      replace kl:=kl.below (Za W)
      replace a2:=a2.below (Za W)
      replace k8:=k8.below (Za W)
      replace hZ:=hZ.below (Za W)
      replace d6:=Zb d6 (Za W)
      replace d7:=Zb d7 (Za W)
      replace ho:=Zb ho (Za W)
      replace d0:=d0.below (Za W)
      refine h_regIn (fun V=>Below w.heap.size (W.drew) V∧Ze [97] (W.drew) V) 14 rfl #[false,false,false,false,false,false,false,false,false,false,false,false,false,false] rfl (by kernel_rfl) (fun⟨_,_,q⟩=>q) (by simp) ⟨Below.refl _ _,Ze.refl _ _⟩ ?_
      intro i0
      have u4:=hB
      have ey:=a6
      have ex:=a5
      have ep:=a4
      have ff:=a3
      have cw:=a0
      have cl:=a1
      have de:=kl
      have t1:=a2
      have da:=k8
      have ag:=d6
      have ai:=d7
      have iz:=ho
      refine h_load 0 13 rfl ⟨z8,0,none⟩ (P0 g9) rfl (by kernel_rfl) (by kernel_rfl) (by kernel_rfl) (fun _ _ _ _ _ h=>h) (by kernel_rfl) rfl (by kernel_rfl) (by kernel_rfl) (fun V hV=>((t1.only hV.2 (by decide)).cell (i:=0) rfl)) i0 ?_
      refine Ob [1,2] 11 rfl #[true,true,true,false,false,false,false,false,false,false,false,false,false,false] [(80,.pointer (some (Xa pd (i*3)))),(81,.pointer (some (Xa pd (i*3))))] (by kernel_rfl) (fun _ _ _ _ _ h=>h) (by kernel_rfl) i0 ?_
      refine h_val 3 10 rfl (.agg #[V0 (((Zd l details 3 fuel).es.getD i Zm).1),.string ⟨(((Zd l details 3 fuel).es.getD i Zm).2.1).toArray⟩,V0 (((Zd l details 3 fuel).es.getD i Zm).2.2)]) rfl (by kernel_rfl) (by kernel_rfl) (by kernel_rfl) (fun _ _ _ _ _ h=>h) (by kernel_rfl) (fun V hV=>Df (k:=i) Yg Zm _ rfl (by kernel_rfl) (Zg (Zi ag hV.2 (by decide))) (by omega) (by decide) Tryz.underlying45 rfl (by kernel_rfl)) i0 ?_
      refine Ob [4,5] 8 rfl #[true,true,true,true,true,true,false,false,false,false,false,false,false,false] [(83,.pointer (some (Xa pt (i*3)))),(84,.pointer (some (Xa pt (i*3))))] (by kernel_rfl) (fun _ _ _ _ _ h=>h) (by kernel_rfl) i0 ?_
      refine h_val 6 7 rfl (.agg #[V0 (((Zd l top 1 fuel).es.getD i Zm).1),.string ⟨(((Zd l top 1 fuel).es.getD i Zm).2.1).toArray⟩,V0 (((Zd l top 1 fuel).es.getD i Zm).2.2)]) rfl (by kernel_rfl) (by kernel_rfl) (by kernel_rfl) (fun _ _ _ _ _ h=>h) (by kernel_rfl) (fun V hV=>Df (k:=i) Yg Zm _ rfl (by kernel_rfl) (Zg (Zi ai hV.2 (by decide))) (by omega) (by decide) Tryz.underlying45 rfl (by kernel_rfl)) i0 ?_
      refine h_two 7 11 6 rfl (by kernel_rfl) rfl rfl (by kernel_rfl) (by kernel_rfl) ?_ ?_
      ·have dn:=kl
       have ib:=Nat.le_trans hF.size hZ.le
       refine Vw (lb:=#[]) 37 #[P0 g9,.agg #[V0 (((Zd l details 3 fuel).es.getD i Zm).1),.string ⟨(((Zd l details 3 fuel).es.getD i Zm).2.1).toArray⟩,V0 (((Zd l details 3 fuel).es.getD i Zm).2.2)],.agg #[V0 (((Zd l top 1 fuel).es.getD i Zm).1),.string ⟨(((Zd l top 1 fuel).es.getD i Zm).2.1).toArray⟩,V0 (((Zd l top 1 fuel).es.getD i Zm).2.2)]] rfl (by kernel_rfl) (fun _ _=>by kernel_rfl) (by kernel_rfl) ((Lz w.heap.size Bi g9 b pi ni ci l data fuel (sumL l (Zd l top 1 fuel).es data fuel i) ((Zd l details 3 fuel).es.getD i Zm) ((Zd l top 1 fuel).es.getD i Zm) _ (hI.below (o6.trans hB)) kl hfu (Kn _ _ _ _ i (by omega)) (Kn _ _ _ _ i (by omega)) gc ii (Nat.le_trans g8 hB.size)).mono ?_)
       rintro e ee ia
       rcases ia with ⟨u1,p6,vd,rfl,t2,c9,bm,e0⟩|⟨u1,pm,cm,rfl,t2,c9,bm,g0,h0⟩
       ·refine⟨_,rfl,?_⟩
        replace hB:=hB.trans t2
        replace a6:=a6.only c9 (by decide)
        replace a5:=a5.only c9 (by decide)
        replace a4:=a4.only c9 (by decide)
        replace a3:=a3.only c9 (by decide)
        replace a0:=a0.only c9 (by decide)
        replace a1:=a1.only c9 (by decide)
        replace a2:=a2.only c9 (by decide)
        replace k8:=k8.only c9 (by decide)
        replace hZ:=hZ.frm bm dn (by simp)
        replace d6:=Zi d6 c9 (by decide)
        replace d7:=Zi d7 c9 (by decide)
        replace ho:=Zi ho c9 (by decide)
        replace d0:=d0.only c9 (by decide)
        have v0:Below w.heap.size (W.drew) (ee)∧Ze [97] (W.drew) (ee):=⟨i0.1.trans t2,i0.2.trans c9⟩
        refine⟨v0,?_⟩
        refine Ob [8,9,10] 3 rfl #[true,true,true,true,true,true,true,true,true,true,true,false,false,false] [(78,.tuple #[.agg #[V0 0,V0 0,V0 0,V0 0,S0],.iface p6 (vd)]),(87,.agg #[V0 0,V0 0,V0 0,V0 0,S0]),(88,.iface p6 (vd))] (by kernel_rfl) (fun _ _ _ _ _ h=>h) (by kernel_rfl) v0 ?_
        refine Gd 11 2 rfl (by kernel_rfl) rfl (by kernel_rfl) (Qm [V0 0,V0 0,V0 0,V0 0,S0] rfl (by kernel_rfl) ?_)
        intro jo ip f7
        have al:=f7.ne a6
        have ba:=f7.ne a5
        have v5:=f7.ne a4
        have u5:=f7.ne a3
        have w9:=f7.ne a0
        have x9:=f7.ne a1
        have w7:=f7.ne a2
        have w6:=f7.ne k8
        have ir:=f7.ge0 hB
        have ah:=Xd ho f7
        have t5:(W.drew).heap.size≤jo:=by have:=v0.1.size;have:=f7.at_;omega
        replace hB:=blB hB g8 f7.below
        replace a6:=a6.below f7.below
        replace a5:=a5.below f7.below
        replace a4:=a4.below f7.below
        replace a3:=a3.below f7.below
        replace a0:=a0.below f7.below
        replace a1:=a1.below f7.below
        replace a2:=a2.below f7.below
        replace k8:=k8.below f7.below
        replace hZ:=hZ.below f7.below
        replace d6:=Zb d6 f7.below
        replace d7:=Zb d7 f7.below
        replace ho:=Zb ho f7.below
        replace d0:=d0.below f7.below
        replace e0:=e0.below f7.below
        have ch:=f7.blk
        have ax:Below w.heap.size (W.drew) (ip)∧Ze [97] (W.drew) (ip):=⟨blB v0.1 (Nat.le_trans g8 u4.size) f7.below,v0.2.trans (Ze.of_below f7.below)⟩
        refine⟨ax,?_⟩
        refine Gd 12 1 rfl (by kernel_rfl) rfl (by kernel_rfl) (Ve (b:=jo) (off:=0) [V0 0,V0 0,V0 0,V0 0,S0] rfl (by kernel_rfl) (by kernel_rfl) (by kernel_rfl) (by first|decide|simp[Value.oneCell']) ch (by first|decide|simp) ?_)
        intro ik m9 cv
        change Blk _ _ [V0 0,V0 0,V0 0,V0 0,S0] _ at cv
        replace hB:=m9.below hB (Nat.le_trans g8 ir)
        replace a6:=m9.blk a6 (Ne.symm (Ne.symm al))
        replace a5:=m9.blk a5 (Ne.symm (Ne.symm ba))
        replace a4:=m9.blk a4 (Ne.symm (Ne.symm v5))
        replace a3:=m9.blk a3 (Ne.symm (Ne.symm u5))
        replace a0:=m9.blk a0 (Ne.symm (Ne.symm w9))
        replace a1:=m9.blk a1 (Ne.symm (Ne.symm x9))
        replace a2:=m9.blk a2 (Ne.symm (Ne.symm w7))
        replace k8:=m9.blk k8 (Ne.symm (Ne.symm w6))
        replace hZ:=hZ.upd m9 ch (.inr (Nat.le_trans hF.size t5))
        replace d6:=m9.own2 d6 ch (by decide)
        replace d7:=m9.own2 d7 ch (by decide)
        replace ho:=m9.own3 ho ah
        replace d0:=d0.only (Ze.of_upd (T:=[40]) m9 ch (by decide)) (by decide)
        replace e0:=e0.only (Ze.of_upd (T:=[40]) m9 ch (by decide)) (by decide)
        have cn:Below w.heap.size (W.drew) (ik)∧Ze [97] (W.drew) (ik):=⟨m9.below ax.1 (Nat.le_trans g8 ir),Ze.upd_new ax.2 m9 t5⟩
        refine⟨cn,?_⟩
        refine Ob [13] 0 rfl #[true,true,true,true,true,true,true,true,true,true,true,true,true,true] [(22,.iface p6 (vd))] (by kernel_rfl) (fun _ _ _ _ _ h=>h) (by kernel_rfl) cn ?_
        refine Ly _ (by kernel_rfl) ?_
        refine wpIn_seq ?_
        refine wpIn_seq ?_
        refine Qh (fun⟨_,_,q⟩=>q) (by simp) ?_
        refine Jl 2 [(89,.iface p6 (vd)),(90,.bool true)] (by kernel_rfl) ?_
        refine wpList_nil ?_
        refine wpIn_cond_true (by kernel_rfl) ?_
        refine wpIn_seq ?_
        refine Qh (fun⟨_,_,q⟩=>q) (by simp) ?_
        refine Jl 1 [(91,.iface p6 (vd))] (by kernel_rfl) ?_
        refine Qf (by kernel_rfl) (Xh (v:=S0) (b:=b3) (off:=0) rfl (by kernel_rfl) (by kernel_rfl) (by kernel_rfl) rfl a4 (by first|decide|simp) ?_)
        intro mr p9 ec
        change Blk _ _ [S0] _ at ec
        replace hB:=p9.below hB g3
        replace a6:=p9.blk a6 (Ne.symm (Ne.symm j6))
        replace a5:=p9.blk a5 (Ne.symm (Ne.symm j9))
        replace a3:=p9.blk a3 (Ne.symm c7)
        replace a0:=p9.blk a0 (Ne.symm f1)
        replace a1:=p9.blk a1 (Ne.symm e8)
        replace a2:=p9.blk a2 (Ne.symm k5)
        replace k8:=p9.blk k8 (Ne.symm g7)
        replace cv:=p9.blk cv (Ne.symm v5)
        replace hZ:=hZ.upd p9 a4 (.inl (by simp))
        replace d6:=p9.own2 d6 a4 (by decide)
        replace d7:=p9.own2 d7 a4 (by decide)
        replace ho:=p9.own2 ho a4 (by decide)
        replace d0:=d0.only (Ze.of_upd (T:=[22]) p9 a4 (by decide)) (by decide)
        replace e0:=e0.only (Ze.of_upd (T:=[22]) p9 a4 (by decide)) (by decide)
        refine Qf (by kernel_rfl) (Xh (v:=.iface p6 (vd)) (b:=b4) (off:=0) rfl (by kernel_rfl) (by kernel_rfl) (by kernel_rfl) rfl a3 (by first|decide|simp) ?_)
        intro la p5 ie
        change Blk _ _ [.iface p6 (vd)] _ at ie
        replace hB:=p5.below hB g4
        replace a6:=p5.blk a6 (Ne.symm (Ne.symm j5))
        replace a5:=p5.blk a5 (Ne.symm (Ne.symm j8))
        replace ec:=p5.blk ec (Ne.symm (Ne.symm c7))
        replace a0:=p5.blk a0 (Ne.symm e9)
        replace a1:=p5.blk a1 (Ne.symm f2)
        replace a2:=p5.blk a2 (Ne.symm l3)
        replace k8:=p5.blk k8 (Ne.symm g5)
        replace cv:=p5.blk cv (Ne.symm u5)
        replace hZ:=hZ.upd p5 a3 (.inl (by simp))
        replace d6:=p5.own2 d6 a3 (by decide)
        replace d7:=p5.own2 d7 a3 (by decide)
        replace ho:=p5.own2 ho a3 (by decide)
        replace d0:=d0.only (Ze.of_upd (T:=[31]) p5 a3 (by decide)) (by decide)
        replace e0:=e0.only (Ze.of_upd (T:=[31]) p5 a3 (by decide)) (by decide)
        refine wpList_nil ?_
        refine wpIn_ret (Nx (Xy ?_))
        exact⟨hZ.ko.from _,rfl,hZ.ko.same D1 _ ((hF.block D1 bi ha).trans hu) rfl,_,_,_,_,((Hr v3 w3 (by omega) ek).trans (Sb (i:=i) (by omega) ar u1)),u1,ec,ie,e0,o6.trans hB⟩
       ·refine⟨_,rfl,?_⟩
        replace hB:=hB.trans t2
        replace a6:=a6.only c9 (by decide)
        replace a5:=a5.only c9 (by decide)
        replace a4:=a4.only c9 (by decide)
        replace a3:=a3.only c9 (by decide)
        replace a0:=a0.only c9 (by decide)
        replace a1:=a1.only c9 (by decide)
        replace a2:=a2.only c9 (by decide)
        replace k8:=k8.only c9 (by decide)
        replace hZ:=hZ.frm bm dn (by simp)
        replace d6:=Zi d6 c9 (by decide)
        replace d7:=Zi d7 c9 (by decide)
        replace ho:=Zi ho c9 (by decide)
        replace d0:=d0.only c9 (by decide)
        replace h0:=Zh h0 ib
        have v6:Below w.heap.size (W.drew) (ee)∧Ze [97] (W.drew) (ee):=⟨i0.1.trans t2,i0.2.trans c9⟩
        refine⟨v6,?_⟩
        refine Ob [8,9,10] 3 rfl #[true,true,true,true,true,true,true,true,true,true,true,false,false,false] [(78,.tuple #[.agg #[V0 (((Zd l details 3 fuel).es.getD i Zm).1),V0 (↑(Yk ((Zd l details 3 fuel).es.getD i Zm).2.1 1):Int),V0 (↑(Yk ((Zd l details 3 fuel).es.getD i Zm).2.1 2):Int),V0 (↑(Yk ((Zd l details 3 fuel).es.getD i Zm).2.1 3):Int),.slice pm ((Vm l ((Zd l top 1 fuel).es.getD i Zm) data fuel).2.2.length) cm],.nilIface]),(87,.agg #[V0 (((Zd l details 3 fuel).es.getD i Zm).1),V0 (↑(Yk ((Zd l details 3 fuel).es.getD i Zm).2.1 1):Int),V0 (↑(Yk ((Zd l details 3 fuel).es.getD i Zm).2.1 2):Int),V0 (↑(Yk ((Zd l details 3 fuel).es.getD i Zm).2.1 3):Int),.slice pm ((Vm l ((Zd l top 1 fuel).es.getD i Zm) data fuel).2.2.length) cm]),(88,.nilIface)] (by kernel_rfl) (fun _ _ _ _ _ h=>h) (by kernel_rfl) v6 ?_
        refine Gd 11 2 rfl (by kernel_rfl) rfl (by kernel_rfl) (Qm [V0 0,V0 0,V0 0,V0 0,S0] rfl (by kernel_rfl) ?_)
        intro fq ix f0
        have bd:=f0.ne a6
        have az:=f0.ne a5
        have bo:=f0.ne a4
        have bw:=f0.ne a3
        have y3:=f0.ne a0
        have x3:=f0.ne a1
        have y5:=f0.ne g0
        have x6:=f0.ne a2
        have q8:=f0.ne k8
        have jf:=f0.ge0 hB
        have v8:=Xd ho f0
        have t3:(W.drew).heap.size≤fq:=by have:=v6.1.size;have:=f0.at_;omega
        replace hB:=blB hB g8 f0.below
        replace a6:=a6.below f0.below
        replace a5:=a5.below f0.below
        replace a4:=a4.below f0.below
        replace a3:=a3.below f0.below
        replace a0:=a0.below f0.below
        replace a1:=a1.below f0.below
        replace g0:=g0.below f0.below
        replace a2:=a2.below f0.below
        replace k8:=k8.below f0.below
        replace hZ:=hZ.below f0.below
        replace d6:=Zb d6 f0.below
        replace d7:=Zb d7 f0.below
        replace ho:=Zb ho f0.below
        replace d0:=d0.below f0.below
        replace h0:=Zb h0 f0.below
        have bz:=f0.blk
        have aj:Below w.heap.size (W.drew) (ix)∧Ze [97] (W.drew) (ix):=⟨blB v6.1 (Nat.le_trans g8 u4.size) f0.below,v6.2.trans (Ze.of_below f0.below)⟩
        refine⟨aj,?_⟩
        refine Gd 12 1 rfl (by kernel_rfl) rfl (by kernel_rfl) (Ve (b:=fq) (off:=0) [V0 (((Zd l details 3 fuel).es.getD i Zm).1),V0 (↑(Yk ((Zd l details 3 fuel).es.getD i Zm).2.1 1):Int),V0 (↑(Yk ((Zd l details 3 fuel).es.getD i Zm).2.1 2):Int),V0 (↑(Yk ((Zd l details 3 fuel).es.getD i Zm).2.1 3):Int),.slice pm ((Vm l ((Zd l top 1 fuel).es.getD i Zm) data fuel).2.2.length) cm] rfl (by kernel_rfl) (by kernel_rfl) (by kernel_rfl) (by first|decide|simp[Value.oneCell']) bz (by first|decide|simp) ?_)
        intro je m2 x5
        change Blk _ _ [V0 (((Zd l details 3 fuel).es.getD i Zm).1),V0 (↑(Yk ((Zd l details 3 fuel).es.getD i Zm).2.1 1):Int),V0 (↑(Yk ((Zd l details 3 fuel).es.getD i Zm).2.1 2):Int),V0 (↑(Yk ((Zd l details 3 fuel).es.getD i Zm).2.1 3):Int),.slice pm ((Vm l ((Zd l top 1 fuel).es.getD i Zm) data fuel).2.2.length) cm] _ at x5
        replace hB:=m2.below hB (Nat.le_trans g8 jf)
        replace a6:=m2.blk a6 (Ne.symm (Ne.symm bd))
        replace a5:=m2.blk a5 (Ne.symm (Ne.symm az))
        replace a4:=m2.blk a4 (Ne.symm (Ne.symm bo))
        replace a3:=m2.blk a3 (Ne.symm (Ne.symm bw))
        replace a0:=m2.blk a0 (Ne.symm (Ne.symm y3))
        replace a1:=m2.blk a1 (Ne.symm (Ne.symm x3))
        replace g0:=m2.blk g0 (Ne.symm (Ne.symm y5))
        replace a2:=m2.blk a2 (Ne.symm (Ne.symm x6))
        replace k8:=m2.blk k8 (Ne.symm (Ne.symm q8))
        replace hZ:=hZ.upd m2 bz (.inr (Nat.le_trans hF.size t3))
        replace d6:=m2.own2 d6 bz (by decide)
        replace d7:=m2.own2 d7 bz (by decide)
        replace ho:=m2.own3 ho v8
        replace d0:=d0.only (Ze.of_upd (T:=[40]) m2 bz (by decide)) (by decide)
        replace h0:=m2.own2 h0 bz (by decide)
        have dm:Below w.heap.size (W.drew) (je)∧Ze [97] (W.drew) (je):=⟨m2.below aj.1 (Nat.le_trans g8 jf),Ze.upd_new aj.2 m2 t3⟩
        refine⟨dm,?_⟩
        refine Ob [13] 0 rfl #[true,true,true,true,true,true,true,true,true,true,true,true,true,true] [(22,.nilIface)] (by kernel_rfl) (fun _ _ _ _ _ h=>h) (by kernel_rfl) dm ?_
        refine Ly _ (by kernel_rfl) ?_
        refine wpIn_seq ?_
        refine wpIn_seq ?_
        refine Qh (fun⟨_,_,q⟩=>q) (by simp) ?_
        refine Jl 2 [(89,.nilIface),(90,.bool false)] (by kernel_rfl) ?_
        refine wpList_nil ?_
        refine wpIn_cond_false (by kernel_rfl) ?_
        refine wpIn_skip ?_
        refine Qh (fun⟨_,_,q⟩=>q) (by simp) ?_
        refine Qf (by kernel_rfl) (Ye ⟨i2,0,none⟩ (.slice p i cp) rfl (by kernel_rfl) (by kernel_rfl) (k8.cell (i:=0) rfl) ?_)
        refine Qf (by kernel_rfl) (Zac (b:=fq) (off:=0) [V0 (((Zd l details 3 fuel).es.getD i Zm).1),V0 (↑(Yk ((Zd l details 3 fuel).es.getD i Zm).2.1 1):Int),V0 (↑(Yk ((Zd l details 3 fuel).es.getD i Zm).2.1 2):Int),V0 (↑(Yk ((Zd l details 3 fuel).es.getD i Zm).2.1 3):Int),.slice pm ((Vm l ((Zd l top 1 fuel).es.getD i Zm) data fuel).2.2.length) cm] _ rfl (by kernel_rfl) Tryz.underlying40 rfl (by kernel_rfl) x5.whole ?_)
        refine Qf (by kernel_rfl) (Qc 40 [V0 (((Zd l details 3 fuel).es.getD i Zm).1),V0 (↑(Yk ((Zd l details 3 fuel).es.getD i Zm).2.1 1):Int),V0 (↑(Yk ((Zd l details 3 fuel).es.getD i Zm).2.1 2):Int),V0 (↑(Yk ((Zd l details 3 fuel).es.getD i Zm).2.1 3):Int),.slice pm ((Vm l ((Zd l top 1 fuel).es.getD i Zm) data fuel).2.2.length) cm] rfl (by kernel_rfl) ?_)
        intro lg mq f4
        have gm:=f4.ne a6
        have gj:=f4.ne a5
        have hi:=f4.ne a4
        have gx:=f4.ne a3
        have fa:=f4.ne a0
        have fj:=f4.ne a1
        have fo:=f4.ne g0
        have fg:=f4.ne a2
        have ds:=f4.ne k8
        have fi:=f4.ne x5
        have ma:=f4.ge0 hB
        have hc:=Xd ho f4
        replace hB:=blB hB g8 f4.below
        replace a6:=a6.below f4.below
        replace a5:=a5.below f4.below
        replace a4:=a4.below f4.below
        replace a3:=a3.below f4.below
        replace a0:=a0.below f4.below
        replace a1:=a1.below f4.below
        replace g0:=g0.below f4.below
        replace a2:=a2.below f4.below
        replace k8:=k8.below f4.below
        replace x5:=x5.below f4.below
        replace hZ:=hZ.below f4.below
        replace d6:=Zb d6 f4.below
        replace d7:=Zb d7 f4.below
        replace ho:=Zb ho f4.below
        replace d0:=d0.below f4.below
        replace h0:=Zb h0 f4.below
        have kr:=f4.blk
        refine Qf (by kernel_rfl) (Xk (e:=40) (n:=i) (xs:=(Z.flatMap Ca)) (m:=1) (news:=[V0 (((Zd l details 3 fuel).es.getD i Zm).1),V0 (↑(Yk ((Zd l details 3 fuel).es.getD i Zm).2.1 1):Int),V0 (↑(Yk ((Zd l details 3 fuel).es.getD i Zm).2.1 2):Int),V0 (↑(Yk ((Zd l details 3 fuel).es.getD i Zm).2.1 3):Int),.slice pm ((Vm l ((Zd l top 1 fuel).es.getD i Zm) data fuel).2.2.length) cm]) (.agg #[V0 0,V0 0,V0 0,V0 0,S0]) 5 56 (i+1) (((Z++[(devX l ((Zd l details 3 fuel).es.getD i Zm) ((Zd l top 1 fuel).es.getD i Zm) data fuel,pm,cm)]).flatMap Ca)) rfl Tryz.underlying22 (by kernel_rfl) rfl (by decide) (by kernel_rfl) ho (by kernel_rfl) (kr.sl 1 1 (by decide) (by decide)) rfl (by simp[Value.oneCell']) (by unfold maxLen;omega) (by omega) (Nat.le_trans hZ.l0 hZ.le) (rfl) (by rw[List.flatMap_append];rfl) ?_)
        intro ju jq lh fu e7 gw
        replace a6:=a6.grown e7 ho (by decide)
        replace a5:=a5.grown e7 ho (by decide)
        replace a4:=a4.grown e7 ho (by decide)
        replace a3:=a3.grown e7 ho (by decide)
        replace a0:=a0.grown e7 ho (by decide)
        replace a1:=a1.grown e7 ho (by decide)
        replace g0:=g0.grown e7 ho (by decide)
        replace a2:=a2.grown e7 ho (by decide)
        replace k8:=k8.grown e7 ho (by decide)
        replace x5:=x5.grown3 e7 v8
        replace hZ:=hZ.grown e7 ho
        replace d6:=Xb d6 e7 ho (by decide)
        replace d7:=Xb d7 e7 ho (by decide)
        replace d0:=d0.only (Ze.of_grown (T:=[40]) e7 ho (by decide)) (by decide)
        replace h0:=Xb h0 e7 ho (by decide)
        replace hB:=hB.trans (gw.mono m1)
        refine Qf (by kernel_rfl) (Xh (v:=.slice ju (i+1) jq) (b:=i2) (off:=0) rfl (by kernel_rfl) (by kernel_rfl) (by kernel_rfl) rfl k8 (by first|decide|simp) ?_)
        intro mt o4 il
        change Blk _ _ [.slice ju (i+1) jq] _ at il
        replace hB:=o4.below hB iv
        replace a6:=o4.blk a6 (Ne.symm (Ne.symm p3))
        replace a5:=o4.blk a5 (Ne.symm (Ne.symm o9))
        replace a4:=o4.blk a4 (Ne.symm (Ne.symm g7))
        replace a3:=o4.blk a3 (Ne.symm (Ne.symm g5))
        replace a0:=o4.blk a0 (Ne.symm (Ne.symm m0))
        replace a1:=o4.blk a1 (Ne.symm (Ne.symm l8))
        replace g0:=o4.blk g0 (Ne.symm (Ne.symm r7))
        replace a2:=o4.blk a2 (Ne.symm (Ne.symm l7))
        replace x5:=o4.blk x5 (Ne.symm q8)
        replace hZ:=hZ.upd o4 k8 (.inl (by simp))
        replace d6:=o4.own2 d6 k8 (by decide)
        replace d7:=o4.own2 d7 k8 (by decide)
        replace d0:=d0.only (Ze.of_upd (T:=[22]) o4 k8 (by decide)) (by decide)
        replace h0:=o4.own2 h0 k8 (by decide)
        replace fu:=o4.own2 fu k8 (by decide)
        refine wpList_nil ?_
        exact⟨hZ.ko.from _,⟨hZ.le,fun d hd=>hZ.fr d (aq d hd) (cs d hd)⟩,o6.trans hB,Zdn hF hZ (fun k hk=>by simp only[List.mem_cons,List.not_mem_nil,or_false] at hk ⊢;rcases hk with rfl|rfl|rfl|rfl;exact .inr ((show _=_ from a4).trans (show _=_ from j4).symm);exact .inr ((show _=_ from a3).trans (show _=_ from k0).symm);exact .inl (by simp);exact .inl (by simp)),g0,Zdb u1,Sh ar u1,_,_,_,il,fu,(d0.snoc (d:=devX l ((Zd l details 3 fuel).es.getD i Zm) ((Zd l top 1 fuel).es.getD i Zm) data fuel) rfl h0),by simp[cq],by rw[List.map_append,dq,Be];rfl⟩
      ·refine Qm [V0 0,V0 0,V0 0,V0 0,S0] rfl (by kernel_rfl) ?_
       intro fe jl f6
       have v2:=f6.ne a6
       have v7:=f6.ne a5
       have p8:=f6.ne a4
       have q0:=f6.ne a3
       have q9:=f6.ne a0
       have r5:=f6.ne a1
       have y1:=f6.ne kl
       have r9:=f6.ne a2
       have l9:=f6.ne k8
       have ei:=f6.ge0 hB
       have o8:=Xd ho f6
       have l2:(W.drew).heap.size≤fe:=by have:=i0.1.size;have:=f6.at_;omega
       replace hB:=blB hB g8 f6.below
       replace a6:=a6.below f6.below
       replace a5:=a5.below f6.below
       replace a4:=a4.below f6.below
       replace a3:=a3.below f6.below
       replace a0:=a0.below f6.below
       replace a1:=a1.below f6.below
       replace kl:=kl.below f6.below
       replace a2:=a2.below f6.below
       replace k8:=k8.below f6.below
       replace hZ:=hZ.below f6.below
       replace d6:=Zb d6 f6.below
       replace d7:=Zb d7 f6.below
       replace ho:=Zb ho f6.below
       replace d0:=d0.below f6.below
       have o5:=f6.blk
       have u2:Below w.heap.size (W.drew) (jl)∧Ze [97] (W.drew) (jl):=⟨blB i0.1 (Nat.le_trans g8 u4.size) f6.below,i0.2.trans (Ze.of_below f6.below)⟩
       refine⟨u2,?_⟩
       have dn:=kl
       have ib:=Nat.le_trans hF.size hZ.le
       refine Gd 7 5 rfl (by kernel_rfl) rfl (by kernel_rfl) (Vw (lb:=#[]) 37 #[P0 g9,.agg #[V0 (((Zd l details 3 fuel).es.getD i Zm).1),.string ⟨(((Zd l details 3 fuel).es.getD i Zm).2.1).toArray⟩,V0 (((Zd l details 3 fuel).es.getD i Zm).2.2)],.agg #[V0 (((Zd l top 1 fuel).es.getD i Zm).1),.string ⟨(((Zd l top 1 fuel).es.getD i Zm).2.1).toArray⟩,V0 (((Zd l top 1 fuel).es.getD i Zm).2.2)]] rfl (by kernel_rfl) (fun _ _=>by kernel_rfl) (by kernel_rfl) ((Lz w.heap.size Bi g9 b pi ni ci l data fuel (sumL l (Zd l top 1 fuel).es data fuel i) ((Zd l details 3 fuel).es.getD i Zm) ((Zd l top 1 fuel).es.getD i Zm) _ (hI.below (o6.trans hB)) kl hfu (Kn _ _ _ _ i (by omega)) (Kn _ _ _ _ i (by omega)) gc ii (Nat.le_trans g8 hB.size)).mono ?_))
       rintro e dz hz
       rcases hz with ⟨u1,p6,vd,rfl,u3,c6,bn,e0⟩|⟨u1,pm,cm,rfl,u3,c6,bn,j1,h0⟩
       ·refine⟨_,rfl,?_⟩
        replace hB:=hB.trans u3
        replace a6:=a6.only c6 (by decide)
        replace a5:=a5.only c6 (by decide)
        replace a4:=a4.only c6 (by decide)
        replace a3:=a3.only c6 (by decide)
        replace a0:=a0.only c6 (by decide)
        replace a1:=a1.only c6 (by decide)
        replace a2:=a2.only c6 (by decide)
        replace k8:=k8.only c6 (by decide)
        replace o5:=o5.only c6 (by decide)
        replace hZ:=hZ.frm bn dn (by simp)
        replace d6:=Zi d6 c6 (by decide)
        replace d7:=Zi d7 c6 (by decide)
        replace ho:=Zi ho c6 (by decide)
        replace d0:=d0.only c6 (by decide)
        have y2:Below w.heap.size (W.drew) (dz)∧Ze [97] (W.drew) (dz):=⟨u2.1.trans u3,u2.2.trans c6⟩
        refine⟨y2,?_⟩
        refine Ob [8,9,10] 2 rfl #[true,true,true,true,true,true,true,true,true,true,true,true,false,false] [(78,.tuple #[.agg #[V0 0,V0 0,V0 0,V0 0,S0],.iface p6 (vd)]),(87,.agg #[V0 0,V0 0,V0 0,V0 0,S0]),(88,.iface p6 (vd))] (by kernel_rfl) (fun _ _ _ _ _ h=>h) (by kernel_rfl) y2 ?_
        refine Gd 12 1 rfl (by kernel_rfl) rfl (by kernel_rfl) (Ve (b:=fe) (off:=0) [V0 0,V0 0,V0 0,V0 0,S0] rfl (by kernel_rfl) (by kernel_rfl) (by kernel_rfl) (by first|decide|simp[Value.oneCell']) o5 (by first|decide|simp) ?_)
        intro jt o3 dc
        change Blk _ _ [V0 0,V0 0,V0 0,V0 0,S0] _ at dc
        replace hB:=o3.below hB (Nat.le_trans g8 ei)
        replace a6:=o3.blk a6 (Ne.symm (Ne.symm v2))
        replace a5:=o3.blk a5 (Ne.symm (Ne.symm v7))
        replace a4:=o3.blk a4 (Ne.symm (Ne.symm p8))
        replace a3:=o3.blk a3 (Ne.symm (Ne.symm q0))
        replace a0:=o3.blk a0 (Ne.symm (Ne.symm q9))
        replace a1:=o3.blk a1 (Ne.symm (Ne.symm r5))
        replace a2:=o3.blk a2 (Ne.symm (Ne.symm r9))
        replace k8:=o3.blk k8 (Ne.symm (Ne.symm l9))
        replace hZ:=hZ.upd o3 o5 (.inr (Nat.le_trans hF.size l2))
        replace d6:=o3.own2 d6 o5 (by decide)
        replace d7:=o3.own2 d7 o5 (by decide)
        replace ho:=o3.own3 ho o8
        replace d0:=d0.only (Ze.of_upd (T:=[40]) o3 o5 (by decide)) (by decide)
        replace e0:=e0.only (Ze.of_upd (T:=[40]) o3 o5 (by decide)) (by decide)
        have df:Below w.heap.size (W.drew) (jt)∧Ze [97] (W.drew) (jt):=⟨o3.below y2.1 (Nat.le_trans g8 ei),Ze.upd_new y2.2 o3 l2⟩
        refine⟨df,?_⟩
        refine Ob [13] 0 rfl #[true,true,true,true,true,true,true,true,true,true,true,true,true,true] [(22,.iface p6 (vd))] (by kernel_rfl) (fun _ _ _ _ _ h=>h) (by kernel_rfl) df ?_
        refine Ly _ (by kernel_rfl) ?_
        refine wpIn_seq ?_
        refine wpIn_seq ?_
        refine Qh (fun⟨_,_,q⟩=>q) (by simp) ?_
        refine Jl 2 [(89,.iface p6 (vd)),(90,.bool true)] (by kernel_rfl) ?_
        refine wpList_nil ?_
        refine wpIn_cond_true (by kernel_rfl) ?_
        refine wpIn_seq ?_
        refine Qh (fun⟨_,_,q⟩=>q) (by simp) ?_
        refine Jl 1 [(91,.iface p6 (vd))] (by kernel_rfl) ?_
        refine Qf (by kernel_rfl) (Xh (v:=S0) (b:=b3) (off:=0) rfl (by kernel_rfl) (by kernel_rfl) (by kernel_rfl) rfl a4 (by first|decide|simp) ?_)
        intro ml p7 eg
        change Blk _ _ [S0] _ at eg
        replace hB:=p7.below hB g3
        replace a6:=p7.blk a6 (Ne.symm (Ne.symm j6))
        replace a5:=p7.blk a5 (Ne.symm (Ne.symm j9))
        replace a3:=p7.blk a3 (Ne.symm c7)
        replace a0:=p7.blk a0 (Ne.symm f1)
        replace a1:=p7.blk a1 (Ne.symm e8)
        replace a2:=p7.blk a2 (Ne.symm k5)
        replace k8:=p7.blk k8 (Ne.symm g7)
        replace dc:=p7.blk dc (Ne.symm p8)
        replace hZ:=hZ.upd p7 a4 (.inl (by simp))
        replace d6:=p7.own2 d6 a4 (by decide)
        replace d7:=p7.own2 d7 a4 (by decide)
        replace ho:=p7.own2 ho a4 (by decide)
        replace d0:=d0.only (Ze.of_upd (T:=[22]) p7 a4 (by decide)) (by decide)
        replace e0:=e0.only (Ze.of_upd (T:=[22]) p7 a4 (by decide)) (by decide)
        refine Qf (by kernel_rfl) (Xh (v:=.iface p6 (vd)) (b:=b4) (off:=0) rfl (by kernel_rfl) (by kernel_rfl) (by kernel_rfl) rfl a3 (by first|decide|simp) ?_)
        intro lu q3 ih
        change Blk _ _ [.iface p6 (vd)] _ at ih
        replace hB:=q3.below hB g4
        replace a6:=q3.blk a6 (Ne.symm (Ne.symm j5))
        replace a5:=q3.blk a5 (Ne.symm (Ne.symm j8))
        replace eg:=q3.blk eg (Ne.symm (Ne.symm c7))
        replace a0:=q3.blk a0 (Ne.symm e9)
        replace a1:=q3.blk a1 (Ne.symm f2)
        replace a2:=q3.blk a2 (Ne.symm l3)
        replace k8:=q3.blk k8 (Ne.symm g5)
        replace dc:=q3.blk dc (Ne.symm q0)
        replace hZ:=hZ.upd q3 a3 (.inl (by simp))
        replace d6:=q3.own2 d6 a3 (by decide)
        replace d7:=q3.own2 d7 a3 (by decide)
        replace ho:=q3.own2 ho a3 (by decide)
        replace d0:=d0.only (Ze.of_upd (T:=[31]) q3 a3 (by decide)) (by decide)
        replace e0:=e0.only (Ze.of_upd (T:=[31]) q3 a3 (by decide)) (by decide)
        refine wpList_nil ?_
        refine wpIn_ret (Nx (Xy ?_))
        exact⟨hZ.ko.from _,rfl,hZ.ko.same D1 _ ((hF.block D1 bi ha).trans hu) rfl,_,_,_,_,((Hr v3 w3 (by omega) ek).trans (Sb (i:=i) (by omega) ar u1)),u1,eg,ih,e0,o6.trans hB⟩
       ·refine⟨_,rfl,?_⟩
        replace hB:=hB.trans u3
        replace a6:=a6.only c6 (by decide)
        replace a5:=a5.only c6 (by decide)
        replace a4:=a4.only c6 (by decide)
        replace a3:=a3.only c6 (by decide)
        replace a0:=a0.only c6 (by decide)
        replace a1:=a1.only c6 (by decide)
        replace a2:=a2.only c6 (by decide)
        replace k8:=k8.only c6 (by decide)
        replace o5:=o5.only c6 (by decide)
        replace hZ:=hZ.frm bn dn (by simp)
        replace d6:=Zi d6 c6 (by decide)
        replace d7:=Zi d7 c6 (by decide)
        replace ho:=Zi ho c6 (by decide)
        replace d0:=d0.only c6 (by decide)
        replace h0:=Zh h0 ib
        have x7:Below w.heap.size (W.drew) (dz)∧Ze [97] (W.drew) (dz):=⟨u2.1.trans u3,u2.2.trans c6⟩
        refine⟨x7,?_⟩
        refine Ob [8,9,10] 2 rfl #[true,true,true,true,true,true,true,true,true,true,true,true,false,false] [(78,.tuple #[.agg #[V0 (((Zd l details 3 fuel).es.getD i Zm).1),V0 (↑(Yk ((Zd l details 3 fuel).es.getD i Zm).2.1 1):Int),V0 (↑(Yk ((Zd l details 3 fuel).es.getD i Zm).2.1 2):Int),V0 (↑(Yk ((Zd l details 3 fuel).es.getD i Zm).2.1 3):Int),.slice pm ((Vm l ((Zd l top 1 fuel).es.getD i Zm) data fuel).2.2.length) cm],.nilIface]),(87,.agg #[V0 (((Zd l details 3 fuel).es.getD i Zm).1),V0 (↑(Yk ((Zd l details 3 fuel).es.getD i Zm).2.1 1):Int),V0 (↑(Yk ((Zd l details 3 fuel).es.getD i Zm).2.1 2):Int),V0 (↑(Yk ((Zd l details 3 fuel).es.getD i Zm).2.1 3):Int),.slice pm ((Vm l ((Zd l top 1 fuel).es.getD i Zm) data fuel).2.2.length) cm]),(88,.nilIface)] (by kernel_rfl) (fun _ _ _ _ _ h=>h) (by kernel_rfl) x7 ?_
        refine Gd 12 1 rfl (by kernel_rfl) rfl (by kernel_rfl) (Ve (b:=fe) (off:=0) [V0 (((Zd l details 3 fuel).es.getD i Zm).1),V0 (↑(Yk ((Zd l details 3 fuel).es.getD i Zm).2.1 1):Int),V0 (↑(Yk ((Zd l details 3 fuel).es.getD i Zm).2.1 2):Int),V0 (↑(Yk ((Zd l details 3 fuel).es.getD i Zm).2.1 3):Int),.slice pm ((Vm l ((Zd l top 1 fuel).es.getD i Zm) data fuel).2.2.length) cm] rfl (by kernel_rfl) (by kernel_rfl) (by kernel_rfl) (by first|decide|simp[Value.oneCell']) o5 (by first|decide|simp) ?_)
        intro iq m3 w4
        change Blk _ _ [V0 (((Zd l details 3 fuel).es.getD i Zm).1),V0 (↑(Yk ((Zd l details 3 fuel).es.getD i Zm).2.1 1):Int),V0 (↑(Yk ((Zd l details 3 fuel).es.getD i Zm).2.1 2):Int),V0 (↑(Yk ((Zd l details 3 fuel).es.getD i Zm).2.1 3):Int),.slice pm ((Vm l ((Zd l top 1 fuel).es.getD i Zm) data fuel).2.2.length) cm] _ at w4
        replace hB:=m3.below hB (Nat.le_trans g8 ei)
        replace a6:=m3.blk a6 (Ne.symm (Ne.symm v2))
        replace a5:=m3.blk a5 (Ne.symm (Ne.symm v7))
        replace a4:=m3.blk a4 (Ne.symm (Ne.symm p8))
        replace a3:=m3.blk a3 (Ne.symm (Ne.symm q0))
        replace a0:=m3.blk a0 (Ne.symm (Ne.symm q9))
        replace a1:=m3.blk a1 (Ne.symm (Ne.symm r5))
        replace j1:=m3.blk j1 (Ne.symm (Ne.symm y1))
        replace a2:=m3.blk a2 (Ne.symm (Ne.symm r9))
        replace k8:=m3.blk k8 (Ne.symm (Ne.symm l9))
        replace hZ:=hZ.upd m3 o5 (.inr (Nat.le_trans hF.size l2))
        replace d6:=m3.own2 d6 o5 (by decide)
        replace d7:=m3.own2 d7 o5 (by decide)
        replace ho:=m3.own3 ho o8
        replace d0:=d0.only (Ze.of_upd (T:=[40]) m3 o5 (by decide)) (by decide)
        replace h0:=m3.own2 h0 o5 (by decide)
        have db:Below w.heap.size (W.drew) (iq)∧Ze [97] (W.drew) (iq):=⟨m3.below x7.1 (Nat.le_trans g8 ei),Ze.upd_new x7.2 m3 l2⟩
        refine⟨db,?_⟩
        refine Ob [13] 0 rfl #[true,true,true,true,true,true,true,true,true,true,true,true,true,true] [(22,.nilIface)] (by kernel_rfl) (fun _ _ _ _ _ h=>h) (by kernel_rfl) db ?_
        refine Ly _ (by kernel_rfl) ?_
        refine wpIn_seq ?_
        refine wpIn_seq ?_
        refine Qh (fun⟨_,_,q⟩=>q) (by simp) ?_
        refine Jl 2 [(89,.nilIface),(90,.bool false)] (by kernel_rfl) ?_
        refine wpList_nil ?_
        refine wpIn_cond_false (by kernel_rfl) ?_
        refine wpIn_skip ?_
        refine Qh (fun⟨_,_,q⟩=>q) (by simp) ?_
        refine Qf (by kernel_rfl) (Ye ⟨i2,0,none⟩ (.slice p i cp) rfl (by kernel_rfl) (by kernel_rfl) (k8.cell (i:=0) rfl) ?_)
        refine Qf (by kernel_rfl) (Zac (b:=fe) (off:=0) [V0 (((Zd l details 3 fuel).es.getD i Zm).1),V0 (↑(Yk ((Zd l details 3 fuel).es.getD i Zm).2.1 1):Int),V0 (↑(Yk ((Zd l details 3 fuel).es.getD i Zm).2.1 2):Int),V0 (↑(Yk ((Zd l details 3 fuel).es.getD i Zm).2.1 3):Int),.slice pm ((Vm l ((Zd l top 1 fuel).es.getD i Zm) data fuel).2.2.length) cm] _ rfl (by kernel_rfl) Tryz.underlying40 rfl (by kernel_rfl) w4.whole ?_)
        refine Qf (by kernel_rfl) (Qc 40 [V0 (((Zd l details 3 fuel).es.getD i Zm).1),V0 (↑(Yk ((Zd l details 3 fuel).es.getD i Zm).2.1 1):Int),V0 (↑(Yk ((Zd l details 3 fuel).es.getD i Zm).2.1 2):Int),V0 (↑(Yk ((Zd l details 3 fuel).es.getD i Zm).2.1 3):Int),.slice pm ((Vm l ((Zd l top 1 fuel).es.getD i Zm) data fuel).2.2.length) cm] rfl (by kernel_rfl) ?_)
        intro mj ln f5
        have hm:=f5.ne a6
        have fy:=f5.ne a5
        have gv:=f5.ne a4
        have gt:=f5.ne a3
        have eq:=f5.ne a0
        have fh:=f5.ne a1
        have en:=f5.ne j1
        have fn:=f5.ne a2
        have fc:=f5.ne k8
        have dw:=f5.ne w4
        have ld:=f5.ge0 hB
        have gk:=Xd ho f5
        replace hB:=blB hB g8 f5.below
        replace a6:=a6.below f5.below
        replace a5:=a5.below f5.below
        replace a4:=a4.below f5.below
        replace a3:=a3.below f5.below
        replace a0:=a0.below f5.below
        replace a1:=a1.below f5.below
        replace j1:=j1.below f5.below
        replace a2:=a2.below f5.below
        replace k8:=k8.below f5.below
        replace w4:=w4.below f5.below
        replace hZ:=hZ.below f5.below
        replace d6:=Zb d6 f5.below
        replace d7:=Zb d7 f5.below
        replace ho:=Zb ho f5.below
        replace d0:=d0.below f5.below
        replace h0:=Zb h0 f5.below
        have kf:=f5.blk
        refine Qf (by kernel_rfl) (Xk (e:=40) (n:=i) (xs:=(Z.flatMap Ca)) (m:=1) (news:=[V0 (((Zd l details 3 fuel).es.getD i Zm).1),V0 (↑(Yk ((Zd l details 3 fuel).es.getD i Zm).2.1 1):Int),V0 (↑(Yk ((Zd l details 3 fuel).es.getD i Zm).2.1 2):Int),V0 (↑(Yk ((Zd l details 3 fuel).es.getD i Zm).2.1 3):Int),.slice pm ((Vm l ((Zd l top 1 fuel).es.getD i Zm) data fuel).2.2.length) cm]) (.agg #[V0 0,V0 0,V0 0,V0 0,S0]) 5 56 (i+1) (((Z++[(devX l ((Zd l details 3 fuel).es.getD i Zm) ((Zd l top 1 fuel).es.getD i Zm) data fuel,pm,cm)]).flatMap Ca)) rfl Tryz.underlying22 (by kernel_rfl) rfl (by decide) (by kernel_rfl) ho (by kernel_rfl) (kf.sl 1 1 (by decide) (by decide)) rfl (by simp[Value.oneCell']) (by unfold maxLen;omega) (by omega) (Nat.le_trans hZ.l0 hZ.le) (rfl) (by rw[List.flatMap_append];rfl) ?_)
        intro jk im lo gy f3 gd
        replace a6:=a6.grown f3 ho (by decide)
        replace a5:=a5.grown f3 ho (by decide)
        replace a4:=a4.grown f3 ho (by decide)
        replace a3:=a3.grown f3 ho (by decide)
        replace a0:=a0.grown f3 ho (by decide)
        replace a1:=a1.grown f3 ho (by decide)
        replace j1:=j1.grown f3 ho (by decide)
        replace a2:=a2.grown f3 ho (by decide)
        replace k8:=k8.grown f3 ho (by decide)
        replace w4:=w4.grown3 f3 o8
        replace hZ:=hZ.grown f3 ho
        replace d6:=Xb d6 f3 ho (by decide)
        replace d7:=Xb d7 f3 ho (by decide)
        replace d0:=d0.only (Ze.of_grown (T:=[40]) f3 ho (by decide)) (by decide)
        replace h0:=Xb h0 f3 ho (by decide)
        replace hB:=hB.trans (gd.mono m1)
        refine Qf (by kernel_rfl) (Xh (v:=.slice jk (i+1) im) (b:=i2) (off:=0) rfl (by kernel_rfl) (by kernel_rfl) (by kernel_rfl) rfl k8 (by first|decide|simp) ?_)
        intro lk o7 jc
        change Blk _ _ [.slice jk (i+1) im] _ at jc
        replace hB:=o7.below hB iv
        replace a6:=o7.blk a6 (Ne.symm (Ne.symm p3))
        replace a5:=o7.blk a5 (Ne.symm (Ne.symm o9))
        replace a4:=o7.blk a4 (Ne.symm (Ne.symm g7))
        replace a3:=o7.blk a3 (Ne.symm (Ne.symm g5))
        replace a0:=o7.blk a0 (Ne.symm (Ne.symm m0))
        replace a1:=o7.blk a1 (Ne.symm (Ne.symm l8))
        replace j1:=o7.blk j1 (Ne.symm (Ne.symm r7))
        replace a2:=o7.blk a2 (Ne.symm (Ne.symm l7))
        replace w4:=o7.blk w4 (Ne.symm l9)
        replace hZ:=hZ.upd o7 k8 (.inl (by simp))
        replace d6:=o7.own2 d6 k8 (by decide)
        replace d7:=o7.own2 d7 k8 (by decide)
        replace d0:=d0.only (Ze.of_upd (T:=[22]) o7 k8 (by decide)) (by decide)
        replace h0:=o7.own2 h0 k8 (by decide)
        replace gy:=o7.own2 gy k8 (by decide)
        refine wpList_nil ?_
        exact⟨hZ.ko.from _,⟨hZ.le,fun d hd=>hZ.fr d (aq d hd) (cs d hd)⟩,o6.trans hB,Zdn hF hZ (fun k hk=>by simp only[List.mem_cons,List.not_mem_nil,or_false] at hk ⊢;rcases hk with rfl|rfl|rfl|rfl;exact .inr ((show _=_ from a4).trans (show _=_ from j4).symm);exact .inr ((show _=_ from a3).trans (show _=_ from k0).symm);exact .inl (by simp);exact .inl (by simp)),j1,Zdb u1,Sh ar u1,_,_,_,jc,gy,(d0.snoc (d:=devX l ((Zd l details 3 fuel).es.getD i Zm) ((Zd l top 1 fuel).es.getD i Zm) data fuel) rfl h0),by simp[cq],by rw[List.map_append,dq,Be];rfl⟩
     case stop =>
      rintro D c k V hD hk ⟨rfl,hK,ty,v,bl,er,hO,fp,ca,j2,hv,hb⟩ x4
      have w1:Dfr D V:=x4
      have t8:D1≠D:=by omega
      refine wp_ret (Xy (Nx ?_))
      exact ret2 ca j2 hK w1 t8 (Za1 (.inr ⟨_,_,rfl⟩) (by kernel_rfl) (by kernel_rfl)) rfl (Hs hO fp (Wo (Wo hb hb.size (Nat.le_trans m1 hD) _) (by simpa [World.putObj] using hb.size) (Nat.le_trans l5 iy) _) ((hv.pt w1 _).pt (hK.put t8 _) _))
     case done =>
      rintro D2 W8 jy ⟨ki,z4,mu,gc,ar,p,cp,Z,k8,ho,d0,cq,dq⟩ x4
      have w1:Dfr D2 W8:=x4;clear x4
      have hK:Dfr D1 W8:=(z4.block D1 bi ha).trans hu
      have t8:D1≠D2:=by omega
      rw[(Dh cy).1] at ar k8 ho cq dq
      have r6:=z6.fr z4 (by simp only[List.mem_cons,List.not_mem_nil,or_false];rintro(h|h|h|h);omega;omega;exact r4 h;exact q4 h)
      have r1:=z7.fr z4 (by simp only[List.mem_cons,List.not_mem_nil,or_false];rintro(h|h|h|h);omega;omega;exact q6 h;exact q7 h)
      have n0:=j4.fr z4 (by simp only[List.mem_cons,List.not_mem_nil,or_false];rintro(h|h|h|h);omega;omega;exact r0 h;exact r3 h)
      have i7:=k0.fr z4 (by simp only[List.mem_cons,List.not_mem_nil,or_false];rintro(h|h|h|h);omega;omega;exact r2 h;exact r8 h)
      have l1:=t0.fr z4 (by simp only[List.mem_cons,List.not_mem_nil,or_false];rintro(h|h|h|h);omega;omega;exact m5 h;exact n9 h)
      have l6:=u6.fr z4 (by simp only[List.mem_cons,List.not_mem_nil,or_false];rintro(h|h|h|h);omega;omega;exact n7 h;exact o0 h)
      have l4:=t9.fr z4 (by simp only[List.mem_cons,List.not_mem_nil,or_false];rintro(h|h|h|h);omega;omega;exact n5 h;exact m6 h)
      replace hB:=ki
      refine wp_seq ?_
      refine wp_region_lit ?_
      refine Qf (by kernel_rfl) (Ye ⟨i2,0,none⟩ (.slice p ((Zd l details 3 fuel).es.length) cp) rfl (by kernel_rfl) (by kernel_rfl) (k8.cell (i:=0) rfl) ?_)
      refine Qf (by kernel_rfl) (Xh (v:=.slice p ((Zd l details 3 fuel).es.length) cp) (b:=b3) (off:=0) rfl (by kernel_rfl) (by kernel_rfl) (by kernel_rfl) rfl n0 (by first|decide|simp) ?_)
      intro lv s8 em
      change Blk _ _ [.slice p ((Zd l details 3 fuel).es.length) cp] _ at em
      replace hB:=s8.below hB g3
      replace r6:=s8.blk r6 (Ne.symm (Ne.symm j6))
      replace r1:=s8.blk r1 (Ne.symm (Ne.symm j9))
      replace i7:=s8.blk i7 (Ne.symm c7)
      replace l1:=s8.blk l1 (Ne.symm f1)
      replace l6:=s8.blk l6 (Ne.symm e8)
      replace l4:=s8.blk l4 (Ne.symm k5)
      replace k8:=s8.blk k8 (Ne.symm g7)
      replace ho:=s8.own2 ho n0 (by decide)
      replace d0:=d0.only (Ze.of_upd (T:=[22]) s8 n0 (by decide)) (by decide)
      replace hK:=hK.upd s8 n0
      replace w1:=w1.upd s8 n0
      refine Qf (by kernel_rfl) (Xh (v:=.nilIface) (b:=b4) (off:=0) rfl (by kernel_rfl) (by kernel_rfl) (by kernel_rfl) rfl i7 (by first|decide|simp) ?_)
      intro mg s7 io
      change Blk _ _ [.nilIface] _ at io
      replace hB:=s7.below hB g4
      replace r6:=s7.blk r6 (Ne.symm (Ne.symm j5))
      replace r1:=s7.blk r1 (Ne.symm (Ne.symm j8))
      replace em:=s7.blk em (Ne.symm (Ne.symm c7))
      replace l1:=s7.blk l1 (Ne.symm e9)
      replace l6:=s7.blk l6 (Ne.symm f2)
      replace l4:=s7.blk l4 (Ne.symm l3)
      replace k8:=s7.blk k8 (Ne.symm g5)
      replace ho:=s7.own2 ho i7 (by decide)
      replace d0:=d0.only (Ze.of_upd (T:=[31]) s7 i7 (by decide)) (by decide)
      replace hK:=hK.upd s7 i7
      replace w1:=w1.upd s7 i7
      refine wpList_nil ?_
      have ig:=hK.put t8 (.deferred none)
      refine wp_ret ?_
      refine ret2 em io hK w1 t8 (Za1 (.inl rfl) (by kernel_rfl) (by kernel_rfl)) rfl ?_
      refine ldevs_ok ((Hr v3 w3 (by omega) ek).trans (Fh ar)) cq dq (Wo (Wo hB hB.size (Nat.le_trans m1 jy) _) (by simpa [World.putObj] using hB.size) (Nat.le_trans l5 iy) _) ((((d0.mono m1).pt w1 _).pt ig _)) (Zec (Zec (Zh ho m1) w1 _) ig _)
theorem getD_app{P Q:Bl}{k i:Nat}(hk:P.length=k):(P++Q).getD (k+i) 0=Q.getD i 0:=by
 subst hk
 simp[List.getD,List.getElem?_append_right]
theorem getD_hd{P Q:Bl}{i:Nat}(hi:i<P.length):(P++Q).getD i 0=P.getD i 0:=by
 simp[List.getD,List.getElem?_append_left hi]
theorem Jd{P Q:Bl}{k w:Nat}{x:Int}(hk:P.length=k)(h0:0≤x)(hb:x.toNat<256 ^ w):(Zl (P++(leB x w++Q)) k w:Int)=x:=by
 rw[Gk w k x.toNat,Nat.mod_eq_of_lt hb]
 ·omega
 ·intro i hi
  rw[getD_app hk,getD_hd (by rw[Zj];exact hi)]
  simp[leB,Zp,List.getD,List.getElem?_range hi]
theorem Dk{P Q:Bl}{k:Nat}(hk:P.length=k):(P++Q).drop k=Q:=List.drop_left' hk
theorem Rt(n m:Nat):Kc ((List.replicate n (0:UInt8)).take m)=true:=by
 unfold Kc;rw[List.all_eq_true]
 intro x hx
 have:=List.mem_of_mem_take hx
 rw[(List.mem_replicate.1 this).2];rfl
theorem Lb(K:List Int)(n j:Nat):∀ d,∃ X,Yf K n (j+d)=Yf K n j++X
 | 0=>⟨[],by simp⟩
 | d+1=>by
  obtain⟨X,hX⟩:=Lb K n j d
  exact⟨_,by rw[←Nat.add_assoc,Qo,hX,List.append_assoc]⟩
theorem Lr(Vs:List Bl)(j:Nat):∀ d,∃ X,Qe Vs (j+d)=Qe Vs j++X
 | 0=>⟨[],by simp⟩
 | d+1=>by
  obtain⟨X,hX⟩:=Lr Vs j d
  exact⟨_,by rw[←Nat.add_assoc,Jw,hX,List.append_assoc]⟩
theorem Pk{l:Bl}:∀ {n:Nat},(∀ i,i<n→Ey l i=0)→Xz l n=0
 | 0,_=>rfl
 | n+1,h=>Hx (Pk fun i hi=>h i (by omega)) (h n (by omega))
theorem getD_ext{l l':List Int}(h:l.length=l'.length)(h2:∀ j,j<l.length→l.getD j 0=l'.getD j 0):l=l':=by
 apply List.ext_getElem h
 intro j h3 h4
 have:=h2 j h3
 simpa [List.getD,h3,h4] using this
theorem Ze0{l l':List Bl}(h:l.length=l'.length)(h2:∀ j,j<l.length→l.getD j []=l'.getD j []):l=l':=by
 apply List.ext_getElem h
 intro j h3 h4
 have:=h2 j h3
 simpa [List.getD,h3,h4] using this
structure NodBack(b:List UInt8)(t:Int)(leaf:Bool)(n m v:Nat)(K:List Int)(Vs:List (List UInt8)):Prop where
 len:b.length=244
 e:Ke b=0
 t:Yq b=t
 l:Xm b=leaf
 c:Zr b=n
 k:Qy b n=K
 v:Jr b n=Vs
theorem Fi{t:Int}{leaf:Bool}{n m v:Nat}{K:List Int}{Vs:List Bl}(N:NodeOk t leaf n m v K Vs):NodBack (Ky m v (Vg t leaf n m v) K Vs n) t leaf n m v K Vs:=by
 have b0:=Xv t leaf
 rw[N.hm] at b0
 have a9:=Ba t leaf
 rw[N.hv] at a9
 have a1:=fitN t leaf
 rw[N.hm,N.hv] at a1
 have a7:=N.ht1
 have a8:=N.ht2
 have a4:=N.hn
 have a0:=Dd (H:=Vg t leaf n m v) (K:=K) (Vs:=Vs) (Vd _ _ _ _ _) a1 a4 (fun j hj=>N.hw j hj)
 have a3:=Mn (H:=Vg t leaf n m v) (K:=K) (Vs:=Vs) (Vd _ _ _ _ _) a1 a4 (fun j hj=>N.hw j hj)
 generalize Ky m v (Vg t leaf n m v) K Vs n=b at a0 a3
 obtain⟨R,hR⟩:∃ R,b=Vg t leaf n m v++R:=⟨_,by rw[a0,List.append_assoc,List.append_assoc]⟩
 have b1:=Dp leaf
 have r0:(Zl b 0 1:Int)=Ha leaf:=by
  rw[hR,Vg];simp only[List.append_assoc]
  exact Jd (P:=[]) (k:=0) (w:=1) (x:=Ha leaf) rfl b1.1 (Nat.lt_of_le_of_lt (show(Ha leaf).toNat≤255 by omega) (by decide))
 have r1:(Zl b 1 1:Int)=t:=by
  rw[hR,Vg];simp only[List.append_assoc]
  exact Jd (P:=leB (Ha leaf) 1) (by rw[Zj]) (by omega) (by omega)
 have r2:(Zl b 2 2:Int)=(n:Int):=by
  rw[hR,Vg];simp only[List.append_assoc]
  rw[←List.append_assoc]
  exact Jd (P:=leB (Ha leaf) 1++leB t 1) (by simp[Zj]) (by omega) (by omega)
 have r4:(Zl b 4 2:Int)=(v:Int):=by
  rw[hR,Vg];simp only[List.append_assoc]
  rw[←List.append_assoc,←List.append_assoc]
  exact Jd (P:=leB (Ha leaf) 1++leB t 1++leB (n:Int) 2) (by simp[Zj]) (by omega) (by omega)
 have r6:(Zl b 6 2:Int)=(m:Int):=by
  rw[hR,Vg];simp only[List.append_assoc]
  rw[←List.append_assoc,←List.append_assoc,←List.append_assoc]
  exact Jd (P:=leB (Ha leaf) 1++leB t 1++leB (n:Int) 2++leB (v:Int) 2) (by simp[Zj]) (by omega) (by omega)
 have r8:(Zl b 8 4:Int)=0:=by
  rw[hR,Vg];simp only[List.append_assoc]
  rw[←List.append_assoc,←List.append_assoc,←List.append_assoc,←List.append_assoc]
  exact Jd (P:=leB (Ha leaf) 1++leB t 1++leB (n:Int) 2++leB (v:Int) 2++leB (m:Int) 2) (by simp[Zj]) (by omega) (by decide)
 have eT:Yq b=t:=r1
 have eL:Xm b=leaf:=by
  unfold Xm;rw[r0];cases leaf<;>rfl
 have eC:Zr b=n:=by unfold Zr;omega
 have eW:Qj b=v:=by unfold Qj;rw[eT,eL,widG,if_pos ⟨a7,a8⟩];exact N.hv
 have eM:Vi b=m:=by unfold Vi;rw[eT,eL,Zdi,if_pos ⟨a7,a8⟩];exact N.hm
 have a2:∀ i,i<n→(Fl b i:Int)=K.getD i 0:=by
  intro i hi
  obtain⟨X,hX⟩:=Lb K n (i+1) (m-(i+1))
  rw[show i+1+(m-(i+1))=m by omega,Qo,if_pos hi] at hX
  unfold Fl
  rw[a0,hX]
  have hk:=N.hk0 i hi
  have:=Jd (P:=Vg t leaf n m v++Yf K n i) (Q:=X++(Qe Vs n++List.replicate (232-m*8-n*v) 0)) (k:=12+i*8) (w:=8) (x:=K.getD i 0) (by rw[List.length_append,Vd,Kl]) hk.1 (Nat.lt_of_le_of_lt (show(K.getD i 0).toNat≤281474976710655 by omega) (by decide))
  simp only[List.append_assoc] at this ⊢
  exact this
 have a5:∀ i,i<n→Zbz b i=Vs.getD i []:=by
  intro i hi
  obtain⟨X,hX⟩:=Lr Vs (i+1) (n-(i+1))
  rw[show i+1+(n-(i+1))=n by omega,Jw] at hX
  have a6:(Qe Vs i).length=i*v:=Gn fun j hj=>N.hw j (by omega)
  unfold Zbz
  rw[eM,eW,a0,hX]
  have:=Dk (P:=Vg t leaf n m v++Yf K n m++Qe Vs i) (Q:=Vs.getD i []++(X++List.replicate (232-m*8-n*v) 0)) (k:=12+m*8+i*v) (by rw[List.length_append,List.length_append,Vd,Kl,a6])
  simp only[List.append_assoc] at this ⊢
  rw[this]
  exact List.take_left' (N.hw i hi)
 have b2:n*v≤m*v:=Nat.mul_le_mul_right v a4
 refine⟨a3,?_,eT,eL,eC,?_,?_⟩
 ·have hs:Ld b=true:=by
   unfold Ld
   rw[eW,eM]
   refine decide_eq_true ⟨?_,by omega,by omega,by omega,by omega,by omega,?_⟩
   ·cases leaf<;>simp only[Ha] at r0<;>simp at r0<;>omega
   ·cases leaf with
    | true=>left;simp only[Ha] at r0;simp at r0;omega
    | false=>right;have:=N.hl rfl;omega
  have hz:Ih b=true:=by
   unfold Ih Ex Za0 Ep
   rw[eC,eM,eW,Bool.and_eq_true]
   constructor
   ·have hk:=Kv K n (m-n)
    rw[show n+(m-n)=m by omega] at hk
    have:=Dk (P:=Vg t leaf n m v++Yf K n n) (Q:=List.replicate ((m-n)*8) 0++(Qe Vs n++List.replicate (232-m*8-n*v) 0)) (k:=12+n*8) (by rw[List.length_append,Vd,Kl])
    rw[a0,hk]
    simp only[List.append_assoc] at this ⊢
    rw[this,List.take_append_of_le_length (by rw[List.length_replicate];omega)]
    exact Rt _ _
   ·have a6:(Qe Vs n).length=n*v:=Gn fun j hj=>N.hw j hj
    have:=Dk (P:=Vg t leaf n m v++Yf K n m++Qe Vs n) (Q:=List.replicate (232-m*8-n*v) 0) (k:=12+m*8+n*v) (by rw[List.length_append,List.length_append,Vd,Kl,a6])
    rw[a0,this]
    exact Rt _ _
  unfold Ke
  rw[if_pos hs,if_pos hz,eC]
  refine Pk fun i hi=>?_
  have h1:=a2 i hi
  have h2:=N.hk0 i hi
  unfold Ey
  rw[if_neg (by omega),if_neg ?_]
  rintro⟨h3,h4⟩
  have h5:=a2 (i-1) (by omega)
  have h6:=N.hk1 (i-1) (by omega)
  rw[show i-1+1=i by omega] at h6
  omega
 ·exact getD_ext (by rw[Hz,N.hK]) fun j hj=>by rw[Hz] at hj;rw[Sj b hj];exact a2 j hj
 ·exact Ze0 (by rw[Mi,N.hV]) fun j hj=>by rw[Mi] at hj;rw[So b hj];exact a5 j hj
theorem Zad{t:Int}{leaf:Bool}{n m v:Nat}{K:List Int}{Vs:List Bl}(N:NodeOk t leaf n m v K Vs){l:Bl}{j len:Nat}(hl:l.length=len)(hj:j<len/256)(h4:j<14400)(hb:Jb l j=Yp 2 (j:Int) (Ky m v (Vg t leaf n m v) K Vs n))(tree:Int)(ht:tree=0∨t=tree) :
 Xi l (j:Int) tree=0∧inB l (j:Int)=Ky m v (Vg t leaf n m v) K Vs n:=by
 have B:=Fi N
 have a0:inB l (j:Int)=Ky m v (Vg t leaf n m v) K Vs n:=by
  rw[Zfe (no:=(j:Int)) (j:=j) rfl,hb,in_seal (by rw[B.len];decide)]
  unfold Og;rw[B.len];simp
 refine⟨?_,a0⟩
 unfold Xi
 rw[Zes (no:=(j:Int)) (j:=j) hl rfl hj,hb,if_pos (Zej (by decide) (by decide) (by omega) (by omega) (by rw[B.len];decide)),a0]
 unfold Qd
 rw[if_pos B.e,if_pos (by rw[B.t];exact ht)]
theorem root_leB{q:Nat}(h1:1≤q)(h2:q≤14399):Yo (leB (q:Int) 4)=0∧(Kq (leB (q:Int) 4):Int)=(q:Int):=by
 have hr:(Zl (leB (q:Int) 4) 0 4:Int)=(q:Int):=by
  have:=Jd (P:=[]) (Q:=[]) (k:=0) (w:=4) (x:=(q:Int)) rfl (by omega) (Nat.lt_of_le_of_lt (show(q:Int).toNat≤14399 by omega) (by decide))
  simpa using this
 have he:Yo (leB (q:Int) 4)=0:=by
  unfold Yo;rw[if_pos (Zj _ _),if_pos (by omega)]
 exact⟨he,by unfold Kq;rw[if_pos he];exact hr⟩
end Go.Proofs.YtgphgaehfdfjjaaGreat
