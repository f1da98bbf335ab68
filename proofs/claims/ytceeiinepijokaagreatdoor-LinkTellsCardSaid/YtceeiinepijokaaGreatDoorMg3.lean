/- Package value: put and read, for any parts. -/
import Derived.Test.YtceeiinepijokaaGreatDoorRows
import Derived.RangeFuncNested
import Derived.RangeFuncBound
import Derived.RangeFuncCalls
import Derived.RangeFuncLeaves
import Derived.Shelf.Abstract
import Derived.Shelf.RegionOpen
import Derived.OwnWalkIn
import Derived.TacticsInMore
import Derived.LoopNIn
import Derived.LoopIn
import Derived.Test.YtceeiinepijokaaGreatDoorMg2
namespace Go.Proofs.YtceeiinepijokaaGreatDoor
set_option maxHeartbeats 8000000
set_option maxRecDepth 100000
open Go.RowKit Go.Extern.Stop Go.Stop Go.Extern
set_option linter.unusedVariables false
attribute [local irreducible] wpList wpAnyH Code.wp Oper.wp Go
abbrev Nz:=Nat×Int×Int
def Zey(p:Nz):List Value:=[V0 (p.1:Int),V0 p.2.1,V0 p.2.2]
theorem Ud(p:Nz):(Zey p).length=3:=rfl
def Ym:Nz:=(4,0,0)
def Hn(ps:List Nz):Prop:=ps.length≤1000∧∀ i,i<ps.length→((ps.getD i Ym).1=4∨(ps.getD i Ym).1=8)∧0≤(ps.getD i Ym).2.1∧(ps.getD i Ym).2.2<9223372036854775808∧((ps.getD i Ym).1=4→(ps.getD i Ym).2.2<4294967296)
def inP (p:Nz)(n:Int):Bool:=decide (p.2.1≤n∧n≤p.2.2)
def Pe(ps:List Nz)(N:List Int)(k:Nat):Bool:=(List.range k).all fun i=>inP (ps.getD i Ym) (N.getD i 0)
theorem allIn_succ(ps:List Nz)(N:List Int)(k:Nat):Pe ps N (k+1)=(Pe ps N k&&inP (ps.getD k Ym) (N.getD k 0)):=by simp[Pe,List.range_succ]
theorem Ip{ps:List Nz}{N:List Int}{i k:Nat}(hi:i<k)(h:inP (ps.getD i Ym) (N.getD i 0)=false):Pe ps N k=false:=by
 unfold Pe
 rw[List.all_eq_false]
 exact⟨i,List.mem_range.2 hi,by rw[h];decide⟩
def putL(ps:List Nz)(N:List Int)(k:Nat):Bl:=(List.range k).flatMap fun i=>leB (N.getD i 0) (ps.getD i Ym).1
theorem Tv(ps:List Nz)(N:List Int)(k:Nat):putL ps N (k+1)=putL ps N k++leB (N.getD k 0) (ps.getD k Ym).1:=by simp[putL,List.range_succ]
def Wc(ps:List Nz)(k:Nat):List Nat:=(List.range k).map fun i=>(ps.getD i Ym).1
theorem Jt(ps:List Nz)(k:Nat):Wc ps (k+1)=Wc ps k++[(ps.getD k Ym).1]:=by simp[Wc,List.range_succ]
theorem Cp(ps:List Nz)(k:Nat):(Wc ps k).length=k:=by simp[Wc]
theorem wids_get(ps:List Nz){k i:Nat}(h:i<k):(Wc ps k).getD i 0=(ps.getD i Ym).1:=by simp[Wc,List.getD,List.getElem?_range h]
theorem Rf(ps:List Nz)(N:List Int)(k:Nat):(putL ps N k).length=(Wc ps k).sum:=by
 induction k with
 | zero=>rfl
 | succ k ih=>rw[Tv,Jt,List.length_append,Zi,ih];simp
theorem Pack_48(g w:Nat)(n:Int)(W:World)(hw:w=4∨w=8)(h0:0≤n)(hb:w=4→n<4294967296)(hk:Blk W g [V0 (w:Int),V0 n] 292):C0 168 #[.slice (S1 g) 1 1] W (Qe (fun w' r=>∃ p c,r=.tuple #[.slice p w c,V0 0]∧w'.ownsRow W.heap.size 5 1 (.slice p w c) w ((leB n w).map bv)) W):=by
 rcases hw with rfl|rfl
 ·exact Ep g n h0 (hb rfl) W hk
 ·exact Pack_8 g n h0 W hk
def ValPutP(ps:List Nz)(N:List Int)(w:World)(e:Ending)(w':World):Prop :=
 (Pe ps N ps.length=false∧e=.returned (.string ⟨#[]⟩)∧B3 w w')∨(Pe ps N ps.length=true∧e=.returned (.string ⟨(putL ps N ps.length).toArray⟩)∧B3 w w')
theorem value_putG(ps:List Nz)(N:List Int)(gl gn:O0)(cl cn:Nat)(w:World)(hps:Hn ps)(hNl:N.length=ps.length)(hP:Sts Zey w (.slice gl ps.length cl) ps)(hN:Sl w (.slice gn ps.length cn) ps.length (N.map V0)) :
 C0 181 #[.slice gl ps.length cl,.slice gn ps.length cn] w (ValPutP ps N w):=by
 have c1:=hps.1
 refine zin 51 Tryz.func181 ?_
 have hB:=Below.refl w.heap.size w
 refine zl 19 51 (fun zm b2 V=>∃ (i m:Nat) (q:O0) (d:Nat),b2=[(1,.slice gn ps.length cn),(5,.slice q m d),(10,.slice gl ps.length cl),(11,V0 (ps.length:Int)),(12,V0 (i:Int))]∧zm=ps.length-((i:Int)).toNat∧B3 w V∧V.ownsRow w.heap.size 5 1 (.slice q m d) m ((putL ps N i).map bv)∧i≤ps.length∧m=(Wc ps i).sum∧m≤i*8∧Pe ps N i=true) ⟨0,0,_,_,rfl,rfl,hB,World.ownsRow_nil _ _ _ _,Nat.zero_le _,rfl,Nat.zero_le _,rfl⟩ ?_
 rintro _ _ W1 ⟨i,m,q,d,rfl,rfl,a2,ho,hi,hm,c0,a6⟩ J1 b4 r1
 refine xid 6 ((i:Int)<(ps.length:Int)) (fun b9=>?_) (fun b9=>?_)
 ·refine xx 7 _ ps.length i 3 (Sts.cell hP Ud Ym (k:=i) (i:=0) (by omega) rfl).1 ?_
  refine xlv 0 (Sts.rp (k:=i) (hP.below a2) Ud Ym (by omega) (by decide)) ?_
  refine xa 0 [V0 0,V0 0,V0 0] 312 fun b3 W3 n3=>?_
  have g3:=n3.ge a2
  refine xsv 1 n3.blk [V0 (↑(ps.getD i Ym).1:Int),V0 ((ps.getD i Ym).2.1),V0 ((ps.getD i Ym).2.2)] fun W4 u4 k4=>?_
  refine xd 4 .z ?_
  refine xx (.e [0,1] 2) _ ps.length i 1 (IntsN.elem hN hNl (k:=i) (by omega)).1 ?_
  have a0:=bln (u4.below (bln a2 n3.below) g3) (Za W4)
  refine xl (.e [] 3) ((IntsN.elem (hN.below a0) hNl (k:=i) (by omega)).2) ?_
  have a3:=k4.below (Za W4)
  refine xb (.e [4] 5) 1 a3 ?_
  refine xg (.b [6,7]) [23,24] (decide ((N.getD i 0)<(ps.getD i Ym).2.1)) (fun a5=>?_) (fun a5=>?_)
  ·have a5:=of_decide_eq_true a5
   exact xe (.r [8,9,10,11,12,13,14,15] 15) (.string ⟨#[]⟩) (.inl ⟨Ip (i:=i) (by omega) (decide_eq_false (by omega)),rfl,a0⟩)
  have a5:=of_decide_eq_false a5
  refine xx (.e [8,9] 10) _ ps.length i 1 (IntsN.elem hN hNl (k:=i) (by omega)).1 ?_
  refine xl (.e [] 11) ((IntsN.elem (hN.below a0) hNl (k:=i) (by omega)).2) ?_
  refine xb (.e [12] 13) 2 a3 ?_
  refine xid (.r [14,15] 2) ((N.getD i 0)>(ps.getD i Ym).2.2) (fun b6=>?_) (fun b6=>?_)
  ·exact xe 12 (.string ⟨#[]⟩) (.inl ⟨Ip (i:=i) (by omega) (decide_eq_false (by omega)),rfl,a0⟩)
  refine xd 3 .z ?_
  have b1:=a3.below (Za W4.drew)
  refine xb (.e [0] 1) 0 b1 ?_
  refine xx (.e [2,3] 4) _ ps.length i 1 (IntsN.elem hN hNl (k:=i) (by omega)).1 ?_
  have a1:=bln a0 (Za W4.drew)
  refine xl (.e [] 5) ((IntsN.elem (hN.below a1) hNl (k:=i) (by omega)).2) ?_
  refine xbs (.o [6] 7) 1 [V0 (↑(ps.getD i Ym).1:Int),V0 (N.getD i 0)] 292 fun b7 W7 n7=>?_
  have g7:=n7.ge a1
  refine yc (.o [] 8) (args:=#[.slice (S1 b7) 1 1]) .z (Pack_48 b7 (ps.getD i Ym).1 (N.getD i 0) _ (hps.2 i (by omega)).1 (by have:=(hps.2 i (by omega)).2.1;omega) (fun q=>by have:=(hps.2 i (by omega)).2.2.2 q;omega) n7.blk) ?_
  rintro _ W8 ⟨_,rfl,a8,p2,c2,rfl,h2⟩
  have b5:=(bln a1 n7.below).size
  refine⟨a8,?_⟩
  have a7:=Zb (Zb (Zb (Zb (u4.own2 (Zb ho n3.below) n3.blk (by decide)) (Za W4)) (Za W4.drew)) n7.below) a8
  have b0:=Zd h2 b5
  have a4:=bln (bln a1 n7.below) a8
  refine xbi (.r [9,10,11,12,13] 5) fun _ _ _ _ zJ zQ zo zx zy zK=>Zr (m:=(ps.getD i Ym).1) (news:=(leB (N.getD i 0) (ps.getD i Ym).1).map bv) (.int .u8 0) 1 1 ((m+(ps.getD i Ym).1)) (((putL ps N (i+1)).map bv)) zo Tryz.underlying22 (by kernel_rfl) rfl (by decide) zx a7 zy (Ze b0) (by simp[Zi]) (Qk _) (by unfold maxLen;have:=(hps.2 i (by omega)).1;omega) (by have:=(hps.2 i (by omega)).1;omega) a4.size (by rfl) (by rw[Tv,List.map_append]) fun c4 c5 W9 o9 c3 b8=>?_
  refine zK _ _ ?_
  refine xwm 5 ((i:Int)+1) (↑(i+1):Int) ?_
  have a9:=a4.trans b8
  exact ze 2 (b4 _ _ _ ⟨i+1,_,_,_,rfl,rfl,a9,o9,by omega,by rw[Jt,hm];simp,by have:=(hps.2 i (by omega)).1;omega,by rw[allIn_succ,a6];exact decide_eq_true ⟨by omega,by omega⟩⟩ (by omega))
 refine xcv0 8 (fun _ _ _ zo zx=>Yz zo zx (Yk (Ze ho) (by rw[Rf];exact hm.symm)) (by rw[Rf];exact hm.symm) Tryz.underlying22 Tryz.underlying5 Tryz.underlying9) ?_
 refine xe 4 (.string ⟨(putL ps N i).toArray⟩) ?_
 obtain rfl:i=ps.length:=by omega
 exact .inr ⟨a6,rfl,a2⟩
def Fu(ps:List Nz)(s:Bl):List Nat:=Je s 0 (Wc ps ps.length)
theorem Zco(ps:List Nz)(s:Bl):(Fu ps s).length=ps.length:=by rw[Fu,Zar,Cp]
def Pa(ps:List Nz)(s:Bl):Bool:=Pe ps ((Fu ps s).map fun n:Nat=>(n:Int)) ps.length
def Ye(ps:List Nz)(s:Bl):Int:=if s.length=(Wc ps ps.length).sum then(if Pa ps s then 0 else 2) else 7
def Yo(ps:List Nz)(s:Bl):List Nat:=if Ye ps s=0 then Fu ps s else List.replicate ps.length 0
theorem Ux(ps:List Nz)(s:Bl):(Yo ps s).length=ps.length:=by
 unfold Yo;split
 ·exact Zco ps s
 ·simp
theorem readOk_lt{ps:List Nz}{s:Bl}(hp:Hn ps)(h:Pa ps s=true):∀ i,i<(Wc ps ps.length).length→(Je s 0 (Wc ps ps.length)).getD i 0<9223372036854775808:=by
 intro i hi
 rw[Cp] at hi
 unfold Pa Pe at h
 rw[List.all_eq_true] at h
 have h1:=of_decide_eq_true (h i (List.mem_range.2 hi))
 have h2:=(hp.2 i hi).2.2.1
 rw[show((Fu ps s).map fun n:Nat=>(n:Int)).getD i 0=(((Fu ps s).getD i 0:Nat):Int) by simp[List.getD,show i<(Fu ps s).length by rw[Zco];exact hi]] at h1
 change (Fu ps s).getD i 0<_
 omega
theorem map_nv(l:List Nat):l.map nv=(l.map fun n:Nat=>(n:Int)).map V0:=by simp[nv]
theorem putL_ne{ps:List Nz}{N:List Int}(hp:Hn ps)(h0:0<ps.length):((⟨(putL ps N ps.length).toArray⟩:ByteArray).toList==(⟨#[]⟩:ByteArray).toList)=false:=by
 rw[show(⟨#[]⟩:ByteArray)=⟨([]:Bl).toArray⟩ from rfl,Wk]
 apply beq_false_of_ne
 intro q
 have h1:=congrArg List.length q
 obtain⟨k,hk⟩:∃ k,ps.length=k+1:=⟨ps.length-1,by omega⟩
 rw[hk,Tv,List.length_append,Zi] at h1
 rw[List.length_nil] at h1
 have:=(hp.2 k (by omega)).1
 omega
theorem Zbg(n:Nat):Hy (Value.int .i64 0).cells.toList n=(List.replicate n 0).map nv:=by
 rw[show(Value.int .i64 0).cells.toList=[Value.int .i64 0] from rfl,Hy,List.map_replicate]
 induction n with
 | zero=>rfl
 | succ n ih=>rw[List.replicate_succ,List.flatten_cons,ih,List.replicate_succ];rfl
theorem Ts(ps:List Nz)(s:Bl)(gl:O0)(cl:Nat)(w:World)(hps:Hn ps)(h0:0<ps.length)(hs:s.length≤100000)(hP:Sts Zey w (.slice gl ps.length cl) ps)(hsl:s.length≠(Wc ps ps.length).sum) :
 C0 111 #[.slice gl ps.length cl,.string ⟨s.toArray⟩] w (Qe (fun w' r=>∃ p c,r=.tuple #[.slice p ps.length c,V0 (Ye ps s)]∧w'.ownsRow w.heap.size 3 1 (.slice p ps.length c) ps.length ((Yo ps s).map nv)) w):=by
 have c0:=hps.1
 refine zin 54 Tryz.func111 ?_
 have hB:=Below.refl w.heap.size w
 refine zl 25 54 (fun zm b0 V=>∃ (i:Nat) (q:O0) (d:Nat),b0=[(0,.slice gl ps.length cl),(1,.string ⟨s.toArray⟩),(4,S0),(5,V0 0),(6,.slice q i d),(7,V0 (↑(Wc ps i).sum:Int)),(12,.slice gl ps.length cl),(13,V0 (ps.length:Int)),(14,V0 (i:Int))]∧zm=ps.length-((i:Int)).toNat∧B3 w V∧V.ownsRow w.heap.size 3 1 (.slice q i d) i ((Wc ps i).map nv)∧i≤ps.length∧(Wc ps i).sum≤i*8) ⟨0,_,_,rfl,rfl,hB,World.ownsRow_nil _ _ _ _,Nat.zero_le _,Nat.zero_le _⟩ ?_
 rintro _ _ W1 ⟨i,q,d,rfl,rfl,a0,ho,hi,b9⟩ J1 b1 r1
 have b8:i<ps.length→(ps.getD i Ym).1≤8:=fun q=>by have:=(hps.2 i q).1;omega
 refine xid 6 ((i:Int)<(ps.length:Int)) (fun b6=>?_) (fun b6=>?_)
 ·refine xx 6 _ ps.length i 3 (Sts.cell hP Ud Ym (k:=i) (i:=0) (by omega) rfl).1 ?_
  refine xlv 0 (Sts.rp (k:=i) (hP.below a0) Ud Ym (by omega) (by decide)) ?_
  refine xa 0 [V0 0,V0 0,V0 0] 312 fun b3 W3 n3=>?_
  have g3:=n3.ge a0
  refine xsv 0 n3.blk [V0 (↑(ps.getD i Ym).1:Int),V0 ((ps.getD i Ym).2.1),V0 ((ps.getD i Ym).2.2)] fun W4 u4 k4=>?_
  refine xb 6 0 k4 ?_
  refine xbs 0 1 [V0 (↑(ps.getD i Ym).1:Int)] 3 fun b5 W5 n5=>?_
  have a2:=u4.below (bln a0 n3.below) g3
  have g5:=n5.ge a2
  have a3:=u4.own2 (Zb ho n3.below) n3.blk (by decide)
  have a8:=Zn a3 n5
  have a1:=Zb a3 n5.below
  have a4:=bln a2 n5.below
  refine xbi 0 fun _ _ _ _ zJ zQ zo zx zy zK=>Zr (m:=1) (news:=[V0 (↑(ps.getD i Ym).1:Int)]) (V0 0) 1 8 (i+1) (((Wc ps (i+1)).map nv)) zo Tryz.underlying34 (by kernel_rfl) rfl (by decide) zx a1 zy (n5.blk.sl 1 1 (by decide) (by decide)) rfl (by simp[Value.oneCell']) (by unfold maxLen;omega) (by omega) a4.size (by rfl) (by rw[Jt,List.map_append];rfl) fun c2 c1 W6 o6 b4 b2=>?_
  refine zK _ _ ?_
  have a7:=(k4.below n5.below).grown b4 a1 (by decide)
  refine xb 6 0 a7 ?_
  refine xwm 0 ((↑(Wc ps i).sum:Int)+(↑(ps.getD i Ym).1:Int)) (↑((Wc ps i).sum+((ps.getD i Ym).1)):Int) ?_
  refine xwm 5 ((i:Int)+1) (↑(i+1):Int) ?_
  refine xv1 2 7 (show(V0 (↑((Wc ps i).sum+((ps.getD i Ym).1)):Int):Value)=V0 (↑(Wc ps (i+1)).sum:Int) from by rw[Jt];simp) ?_
  have a5:=a4.trans b2
  exact ze 0 (b1 _ _ _ ⟨i+1,_,_,rfl,rfl,a5,o6,by omega,by rw[Jt,List.sum_append,List.sum_cons,List.sum_nil];have:=b8 (by omega);omega⟩ (by omega))
 refine xk 14 (show(((s.length:Int) != (↑(Wc ps i).sum:Int)):Bool)=true from bne_iff_ne.2 (by rw[show i=ps.length by omega];omega)) ?_
 refine xmk 4 fun _ _ _ _ zJ zQ zo zx zy zK=>Kf ps.length (V0 0) 1 8 ((List.replicate ps.length 0).map nv) zo zx zy Tryz.underlying34 (by kernel_rfl) rfl (by omega) (by omega) (Zbg _) fun b7 W7 n7=>?_
 have g7:=n7.ge a0
 have a9:=Zn ho n7
 refine zK _ _ ?_
 have a6:=bln a0 n7.below
 have o7:=Xb (size:=1) (n:=ps.length) n7.blk g7 (by simp) (by unfold maxLen;omega)
 refine xe 6 (.tuple #[.slice (S1 b7) ps.length ps.length,V0 7]) ?_
 have he:Ye ps s=7:=if_neg hsl
 exact⟨_,rfl,a6,_,_,by rw[he],by rw[Yo,if_neg (by rw[he];decide)];exact o7⟩
def UnpP(s:Bl)(ws:List Nat)(n:Nat)(W:World)(e:Ending)(w':World):Prop :=
 ((¬ ∀ i,i<ws.length→(Je s 0 ws).getD i 0<9223372036854775808)∧e=.returned (.tuple #[S0,V0 2])∧B3 W w') ∨
 ((∀ i,i<ws.length→(Je s 0 ws).getD i 0<9223372036854775808)∧∃ p c,e=.returned (.tuple #[.slice p n c,V0 0])∧B3 W w'∧w'.ownsRow W.heap.size 3 1 (.slice p n c) n ((Je s 0 ws).map nv))
theorem Unpack_P(a:O0)(n c m:Nat)(s:Bl)(aw:O0)(cw:Nat)(ws:List Nat)(W:World)(hn:s.length=n)(hm:ws.length=m)(hk:∀ i,i<ws.length→ws.getD i 0=1∨ws.getD i 0=2∨ws.getD i 0=4∨ws.getD i 0=8)(hs:ws.sum≤n)(hl:n≤100000000)(hw:m≤1000)(h:Bys W (.slice a n c) s)(hws:Sl W (.slice aw m cw) m (ws.map nv)) :
 C0 180 #[.slice a n c,.slice aw m cw] W (UnpP s ws m W):=by
 subst hn hm
 by_cases hq:∀ i,i<ws.length→(Je s 0 ws).getD i 0<9223372036854775808
 ·refine(Zcq a c s aw cw ws W hk hs hl hw h hws hq).mono ?_
  rintro e V ⟨_,rfl,hb,p,c2,rfl,ho⟩
  exact .inr ⟨hq,p,c2,rfl,hb,ho⟩
 ·refine(Unpack_bad a c s aw cw ws W hk hs hl hw h hws hq).mono ?_
  rintro e V ⟨rfl,hb⟩
  exact .inl ⟨hq,rfl,hb⟩
theorem rawsI_len(ps:List Nz)(s:Bl)(k:Nat):((Je s 0 (Wc ps k)).map fun n:Nat=>(n:Int)).length=k:=by rw[List.length_map,Zar,Cp]
theorem Se(ps:List Nz)(N:List Int)(gl gn:O0)(cl cn n:Nat)(w:World)(hps:Hn ps)(hn:n=ps.length)(hNl:N.length=n)(hP:Sts Zey w (.slice gl ps.length cl) ps)(hN:Sl w (.slice gn n cn) n (N.map V0)) :
 C0 181 #[.slice gl ps.length cl,.slice gn n cn] w (fun e w'=>(Pe ps N n=false∧e=.returned (.string ⟨#[]⟩)∧B3 w w')∨(Pe ps N n=true∧e=.returned (.string ⟨(putL ps N ps.length).toArray⟩)∧B3 w w')):=by
 subst hn;exact value_putG ps N gl gn cl cn w hps hNl hP hN
theorem As(ps:List Nz)(s:Bl)(gl:O0)(cl:Nat)(w:World)(hps:Hn ps)(h0:0<ps.length)(hs:s.length≤100000)(hP:Sts Zey w (.slice gl ps.length cl) ps)(hsl:s.length=(Wc ps ps.length).sum) :
 C0 111 #[.slice gl ps.length cl,.string ⟨s.toArray⟩] w (Qe (fun w' r=>∃ p c,r=.tuple #[.slice p ps.length c,V0 (Ye ps s)]∧w'.ownsRow w.heap.size 3 1 (.slice p ps.length c) ps.length ((Yo ps s).map nv)) w):=by
 have f0:=hps.1
 refine zin 54 Tryz.func111 ?_
 have hB:=Below.refl w.heap.size w
 refine zl 25 54 (fun zm d6 V=>∃ (i:Nat) (q:O0) (d:Nat),d6=[(0,.slice gl ps.length cl),(1,.string ⟨s.toArray⟩),(4,S0),(5,V0 0),(6,.slice q i d),(7,V0 (↑(Wc ps i).sum:Int)),(12,.slice gl ps.length cl),(13,V0 (ps.length:Int)),(14,V0 (i:Int))]∧zm=ps.length-((i:Int)).toNat∧B3 w V∧V.ownsRow w.heap.size 3 1 (.slice q i d) i ((Wc ps i).map nv)∧i≤ps.length∧(Wc ps i).sum≤i*8) ⟨0,_,_,rfl,rfl,hB,World.ownsRow_nil _ _ _ _,Nat.zero_le _,Nat.zero_le _⟩ ?_
 rintro _ _ W1 ⟨i,q,d,rfl,rfl,a0,ho,hi,e9⟩ J1 d7 r1
 have e8:i<ps.length→(ps.getD i Ym).1≤8:=fun q=>by have:=(hps.2 i q).1;omega
 refine xid 6 ((i:Int)<(ps.length:Int)) (fun e7=>?_) (fun e7=>?_)
 ·refine xx 6 _ ps.length i 3 (Sts.cell hP Ud Ym (k:=i) (i:=0) (by omega) rfl).1 ?_
  refine xlv 0 (Sts.rp (k:=i) (hP.below a0) Ud Ym (by omega) (by decide)) ?_
  refine xa 0 [V0 0,V0 0,V0 0] 312 fun b3 W3 n3=>?_
  have g3:=n3.ge a0
  refine xsv 0 n3.blk [V0 (↑(ps.getD i Ym).1:Int),V0 ((ps.getD i Ym).2.1),V0 ((ps.getD i Ym).2.2)] fun W4 u4 k4=>?_
  refine xb 6 0 k4 ?_
  refine xbs 0 1 [V0 (↑(ps.getD i Ym).1:Int)] 3 fun b5 W5 n5=>?_
  have a7:=u4.below (bln a0 n3.below) g3
  have g5:=n5.ge a7
  have a8:=u4.own2 (Zb ho n3.below) n3.blk (by decide)
  have d5:=Zn a8 n5
  have a6:=Zb a8 n5.below
  have b0:=bln a7 n5.below
  refine xbi 0 fun _ _ _ _ zJ zQ zo zx zy zK=>Zr (m:=1) (news:=[V0 (↑(ps.getD i Ym).1:Int)]) (V0 0) 1 8 (i+1) (((Wc ps (i+1)).map nv)) zo Tryz.underlying34 (by kernel_rfl) rfl (by decide) zx a6 zy (n5.blk.sl 1 1 (by decide) (by decide)) rfl (by simp[Value.oneCell']) (by unfold maxLen;omega) (by omega) b0.size (by rfl) (by rw[Jt,List.map_append];rfl) fun f3 f1 W6 o6 e6 e5=>?_
  refine zK _ _ ?_
  have d3:=(k4.below n5.below).grown e6 a6 (by decide)
  refine xb 6 0 d3 ?_
  refine xwm 0 ((↑(Wc ps i).sum:Int)+(↑(ps.getD i Ym).1:Int)) (↑((Wc ps i).sum+((ps.getD i Ym).1)):Int) ?_
  refine xwm 5 ((i:Int)+1) (↑(i+1):Int) ?_
  refine xv1 2 7 (show(V0 (↑((Wc ps i).sum+((ps.getD i Ym).1)):Int):Value)=V0 (↑(Wc ps (i+1)).sum:Int) from by rw[Jt];simp) ?_
  have c6:=b0.trans e5
  exact ze 0 (d7 _ _ _ ⟨i+1,_,_,rfl,rfl,c6,o6,by omega,by rw[Jt,List.sum_append,List.sum_cons,List.sum_nil];have:=e8 (by omega);omega⟩ (by omega))
 refine xk 14 (show(((s.length:Int) != (↑(Wc ps i).sum:Int)):Bool)=false from by rw[show i=ps.length by omega,hsl];simp) ?_
 refine xcf 5 fun _ _ _ zJ zQ zo zx zK=>Kq s zo zx Tryz.underlying9 Tryz.underlying22 Tryz.underlying5 (by omega) ?_
 intro bz cz W7 b6 e4
 refine zK _ _ ?_
 have a2:=Zb ho b6
 refine xc 1 (args:=#[.slice (S1 bz) s.length cz,.slice q i d]) (Unpack_P (S1 bz) s.length cz i s q d (Wc ps i) _ rfl (Cp ps i) (fun j hj=>by rw[Cp] at hj;rw[wids_get ps hj];have:=(hps.2 j (by omega)).1;omega) (by rw[show i=ps.length by omega];omega) (by omega) (by omega) e4 (Ze a2)) ?_
 rintro e W8 e3
 rcases e3 with ⟨hq,rfl,a9⟩|⟨hq,p5,c5,rfl,a9,h5⟩
 ·have a5:i=ps.length:=by omega
  have c3:Pa ps s=false:=by rw[←Bool.not_eq_true];intro q;exact hq (by rw[a5];exact readOk_lt hps q)
  refine xmk 25 fun _ _ _ _ zJ zQ zo zx zy zK=>Kf ps.length (V0 0) 1 8 ((List.replicate ps.length 0).map nv) zo zx zy Tryz.underlying34 (by kernel_rfl) rfl (by omega) (by omega) (Zbg _) fun b9 W9 n9=>?_
  have b1:=bln (bln a0 b6) a9
  have g9:=n9.ge b1
  have d0:=Zb a2 a9
  have d4:=Zn d0 n9
  refine zK _ _ ?_
  have c7:=bln b1 n9.below
  have o9:=Xb (size:=1) (n:=ps.length) n9.blk g9 (by simp) (by unfold maxLen;omega)
  refine xe 6 (.tuple #[.slice (S1 b9) ps.length ps.length,V0 2]) ?_
  have he:Ye ps s=2:=by unfold Ye;rw[if_pos hsl,if_neg (by rw[c3];decide)]
  exact⟨_,rfl,c7,_,_,by rw[he],by rw[Yo,if_neg (by rw[he];decide)];exact o9⟩
 have d8:=(bln a0 b6).size
 have a5:i=ps.length:=by omega
 have a4:=Zd h5 d8
 have e1:Sl (W8) (.slice p5 i c5) i (((Je s 0 (Wc ps i)).map fun n:Nat=>(n:Int)).map V0):=by have q:=Ze a4;rw[map_nv] at q;exact q
 have a3:=bln (bln a0 b6) a9
 refine xc 15 (args:=#[.slice gl ps.length cl,.slice p5 i c5]) (Se ps ((Je s 0 (Wc ps i)).map fun n:Nat=>(n:Int)) gl p5 cl c5 i _ hps a5 (rawsI_len ps s i) (hP.below a3) e1) ?_
 rintro e f2 c1
 rcases c1 with ⟨c9,rfl,a1⟩|⟨c9,rfl,a1⟩
 ·have c3:Pa ps s=false:=by unfold Pa Fu;rw[←a5];exact c9
  refine xmk 9 fun _ _ _ _ zJ zQ zo zx zy zK=>Kf ps.length (V0 0) 1 8 ((List.replicate ps.length 0).map nv) zo zx zy Tryz.underlying34 (by kernel_rfl) rfl (by omega) (by omega) (Zbg _) fun d9 f4 b2=>?_
  have b4:=bln a3 a1
  have e0:=b2.ge b4
  have c0:=Zb (Zb a2 a9) a1
  have c4:=Zn c0 b2
  have d1:=Zb a4 a1
  have c8:=Zn d1 b2
  refine zK _ _ ?_
  have b7:=bln b4 b2.below
  have e2:=Xb (size:=1) (n:=ps.length) b2.blk e0 (by simp) (by unfold maxLen;omega)
  refine xe 6 (.tuple #[.slice (S1 d9) ps.length ps.length,V0 2]) ?_
  have he:Ye ps s=2:=by unfold Ye;rw[if_pos hsl,if_neg (by rw[c3];decide)]
  exact⟨_,rfl,b7,_,_,by rw[he],by rw[Yo,if_neg (by rw[he];decide)];exact e2⟩
 have c2:Pa ps s=true:=by unfold Pa Fu;rw[←a5];exact c9
 refine xk 4 (show(((⟨(putL ps ((Je s 0 (Wc ps i)).map fun n:Nat=>(n:Int)) ps.length).toArray⟩:ByteArray).toList==(⟨#[]⟩:ByteArray).toList):Bool)=false from putL_ne hps h0) ?_
 have d2:=bln a3 a1
 have b8:=Zb a4 a1
 refine xe 10 (.tuple #[.slice p5 i c5,V0 0]) ?_
 have he:Ye ps s=0:=by unfold Ye;rw[if_pos hsl,if_pos c2]
 subst a5
 exact⟨_,rfl,d2,_,_,by rw[he],by rw[Yo,if_pos he];exact b8⟩
theorem Zf5(ps:List Nz)(s:Bl)(gl:O0)(cl:Nat)(w:World)(hps:Hn ps)(h0:0<ps.length)(hs:s.length≤100000)(hP:Sts Zey w (.slice gl ps.length cl) ps) :
 C0 111 #[.slice gl ps.length cl,.string ⟨s.toArray⟩] w (Qe (fun w' r=>∃ p c,r=.tuple #[.slice p ps.length c,V0 (Ye ps s)]∧w'.ownsRow w.heap.size 3 1 (.slice p ps.length c) ps.length ((Yo ps s).map nv)) w):=by
 by_cases h:s.length=(Wc ps ps.length).sum
 ·exact As ps s gl cl w hps h0 hs hP h
 ·exact Ts ps s gl cl w hps h0 hs hP h
end Go.Proofs.YtceeiinepijokaaGreatDoor
namespace Go.Proofs.YtceeiinepijokaaGreatDoor
set_option maxHeartbeats 8000000
set_option maxRecDepth 100000
open Go.RowKit
set_option linter.unusedVariables false
section
variable {P:Program} {a:Act}
theorem str_ext(l:Bl)(b c:Nat):(ByteArray.mk l.toArray).extract b c=ByteArray.mk ((l.drop b).take (c-b)).toArray:=ByteArray.extract_mk l b c
theorem run_strH{o:Oper}{t:TypeId}{x y:Operand}{l:Bl}{k:Nat}{j:Int}{kj:IntKind}(ho:o.op=.slice t x none (some y) none)(hx:a.eval x=.string ⟨l.toArray⟩)(hy:a.eval y=.int kj j)(hj:j=(k:Int))(hk:k≤l.length)
 (ht:P.underlying t=some .string) (w:World):(execOp a.eval o).run P w=.ok (.value (.string ⟨(l.take k).toArray⟩)) w:=by
 subst hj
 have hs:((k:Int))≤((⟨l.toArray⟩:ByteArray).size:Int):=by simp[ByteArray.size];omega
 have h:=run_slice_string_h (P:=P) (w:=w) (t:=t) (s:=⟨l.toArray⟩) ht kj (k:Int) (by omega) hs
 rw[str_ext,List.drop_zero,Int.toNat_natCast,Nat.sub_zero] at h
 simp only[execOp,ho,hx,Option.map_some,Option.map_none,hy]
 simp[run_sliceAt_string,ht,h]
theorem run_strL{o:Oper}{t:TypeId}{x y:Operand}{l:Bl}{k:Nat}{j:Int}{kj:IntKind}(ho:o.op=.slice t x (some y) none none)(hx:a.eval x=.string ⟨l.toArray⟩)(hy:a.eval y=.int kj j)(hj:j=(k:Int))(hk:k≤l.length)
 (ht:P.underlying t=some .string) (w:World):(execOp a.eval o).run P w=.ok (.value (.string ⟨(l.drop k).toArray⟩)) w:=by
 subst hj
 have hs:((k:Int))≤((⟨l.toArray⟩:ByteArray).size:Int):=by simp[ByteArray.size];omega
 have h:=run_slice_string_l (P:=P) (w:=w) (t:=t) (s:=⟨l.toArray⟩) ht kj (k:Int) (by omega) hs
 rw[str_ext,Int.toNat_natCast,show(⟨l.toArray⟩:ByteArray).size=l.length by simp[ByteArray.size],List.take_of_length_le (by simp)] at h
 simp only[execOp,ho,hx,Option.map_some,Option.map_none,hy]
 simp[run_sliceAt_string,ht,h]
end
end Go.Proofs.YtceeiinepijokaaGreatDoor
namespace Go.Proofs.YtceeiinepijokaaGreatDoor
set_option maxHeartbeats 8000000
set_option maxRecDepth 100000
open Go.RowKit Go.Extern.Stop Go.Stop Go.Extern
set_option linter.unusedVariables false
attribute [local irreducible] wpList wpAnyH Code.wp Oper.wp Go
theorem Oj(kind no:Int)(a:O0)(n c:Nat)(l:Bl)(w:World)(hn:l.length=n)(h:Bys w (.slice a n c) l):C0 92 #[.slice a n c,V0 kind,V0 no] w (OpenP kind no l w):=by
 subst hn;exact Zcu kind no a c l w h
def Qn(l:Bl)(tree:Int):Int:=if Qd l=0 then(if tree=0∨Xz l=tree then 0 else 6) else Qd l
def Xl(l:Bl)(no tree:Int):Int:=if inE l 2 no=0 then Qn (inB l no) tree else inE l 2 no
def Node1P(l:Bl)(tree:Int)(w:World)(e:Ending)(w':World):Prop :=
 (Qn l tree≠0∧∃ a b kp n1 kc vp n2 vc,e=.returned (.tuple #[.agg #[V0 a,.bool b,.slice kp n1 kc,.slice vp n2 vc],V0 (Qn l tree)])∧B3 w w') ∨
 (Qn l tree=0∧∃ kp kc vp vc,e=.returned (.tuple #[.agg #[V0 (Xz l),.bool (Yi l),.slice kp (Xh l) kc,.slice vp (Xh l) vc],V0 0])∧B3 w w' ∧
  w'.ownsRow w.heap.size 3 1 (.slice kp (Xh l) kc) (Xh l) ((Ha l (Xh l)).map V0)∧w'.ownsRow w.heap.size 9 1 (.slice vp (Xh l) vc) (Xh l) ((He l (Xh l)).map sv))
def BlkNodeP(l:Bl)(no tree:Int)(w:World)(e:Ending)(w':World):Prop :=
 (Xl l no tree≠0∧∃ b,e=.returned (.tuple #[.agg #[V0 0,.bool false,S0,S0],.iface 188 (P0 b)])∧B3 w w'∧Hb w' [some no] (some (Xl l no tree)) (.iface 188 (P0 b))) ∨
 (Xl l no tree=0∧∃ kp kc vp vc,e=.returned (.tuple #[.agg #[V0 (Xz (inB l no)),.bool (Yi (inB l no)),.slice kp (Xh (inB l no)) kc,.slice vp (Xh (inB l no)) vc],.nilIface])∧B3 w w' ∧
  w'.ownsRow w.heap.size 3 1 (.slice kp (Xh (inB l no)) kc) (Xh (inB l no)) ((Ha (inB l no) (Xh (inB l no))).map V0)∧w'.ownsRow w.heap.size 9 1 (.slice vp (Xh (inB l no)) vc) (Xh (inB l no)) ((He (inB l no) (Xh (inB l no))).map sv))
theorem node_1(tree:Int)(bt:Nat)(a:O0)(c:Nat)(l:Bl)(w:World)(kt:Blk w bt [V0 tree] 3)(hl:l.length=244)(h:Bys w (.slice a 244 c) l) :
 C0 202 #[.slice a 244 c,P0 bt] w (Node1P l tree w):=by
 refine zin 27 Tryz.func202 ?_
 refine xa 2 [V0 0,.bool false,S0,S0] 181 fun b1 W1 n1=>?_
 refine xc 6 (args:=#[.slice a 244 c]) (node_Read a c l _ hl (h.below n1.below)) ?_
 rintro e W2 d0
 rcases d0 with ⟨hz,rfl,a4⟩|⟨hz,kp,kc,vp,vc,rfl,a4,hk,c5⟩
 ·refine xa 3 [V0 0,.bool false,S0,S0] 181 fun b3 W3 n3=>?_
  have k1:=n1.blk.below a4
  have a7:=n3.ne k1
  have a5:=bln n1.below a4
  have g3:=n3.ge a5
  refine xsv 0 n3.blk [V0 0,.bool false,S0,S0] fun W4 u4 k4=>?_
  refine xgk 9 [13,14] (show(((Qd l)==(0:Int)):Bool)=false from beq_false_of_ne hz) ?_
  refine xlv 16 k4.rp ?_
  have b5:=u4.blk (k1.below n3.below) (Ne.symm (Ne.symm a7))
  refine xsv 1 b5 [V0 0,.bool false,S0,S0] fun W6 u6 k6=>?_
  have g1:=n1.ge (B4 w)
  have b9:=u6.below (u4.below (bln a5 n3.below) g3) g1
  exact xec 4 k6 (.tuple #[.agg #[V0 0,.bool false,S0,S0],V0 (Qd l)]) (.inl ⟨by unfold Qn;rw[if_neg hz];exact hz,_,_,_,_,_,_,_,_,by unfold Qn;rw[if_neg hz],b9⟩)
 refine xa 3 [V0 0,.bool false,S0,S0] 181 fun b7 W7 n7=>?_
 have k1:=n1.blk.below a4
 have a0:=n7.ne k1
 have a1:=bln n1.below a4
 have g7:=n7.ge a1
 refine xsv 0 n7.blk [V0 (Xz l),.bool (Yi l),.slice kp (Xh l) kc,.slice vp (Xh l) vc] fun W8 u8 k8=>?_
 have b0:=u8.blkT (((kt.below n1.below).below a4).below n7.below) n7.blk (by decide)
 refine xb 9 0 b0 ?_
 refine xg 3 [16,17,18] (tree != (0:Int)) (fun a8=>?_) (fun a8=>?_)
 ·have a8:=Jf a8
  refine xb 1 0 k8 ?_
  refine xb 0 0 b0 ?_
  refine xin 4 (Xz l) tree (fun c4=>?_) (fun c4=>?_)
  ·refine xlv 2 k8.rp ?_
   have c3:=u8.blk (k1.below n7.below) (Ne.symm (Ne.symm a0))
   refine xsv 0 c3 [V0 (Xz l),.bool (Yi l),.slice kp (Xh l) kc,.slice vp (Xh l) vc] fun d2 c9 c8=>?_
   have g1:=n1.ge (B4 w)
   have c0:=c9.below (u8.below (bln a1 n7.below) g7) g1
   exact xec 5 c8 (.tuple #[.agg #[V0 (Xz l),.bool (Yi l),.slice kp (Xh l) kc,.slice vp (Xh l) vc],V0 6]) (.inl ⟨by unfold Qn;rw[if_pos hz,if_neg (by omega)];decide,_,_,_,_,_,_,_,_,by unfold Qn;rw[if_pos hz,if_neg (by omega)],c0⟩)
  refine xlv 4 k8.rp ?_
  have a3:=u8.blk (k1.below n7.below) (Ne.symm (Ne.symm a0))
  refine xsv 1 a3 [V0 (Xz l),.bool (Yi l),.slice kp (Xh l) kc,.slice vp (Xh l) vc] fun d1 c2 c7=>?_
  have g1:=n1.ge (B4 w)
  have b6:=c2.below (u8.below (bln a1 n7.below) g7) g1
  have b2:=c2.own2 (u8.own2 (Zb (Zd hk n1.below.size) n7.below) n7.blk (by decide)) a3 (by decide)
  have a6:=c2.own2 (u8.own2 (Zb (Zd c5 n1.below.size) n7.below) n7.blk (by decide)) a3 (by decide)
  exact xec 4 c7 (.tuple #[.agg #[V0 (Xz l),.bool (Yi l),.slice kp (Xh l) kc,.slice vp (Xh l) vc],V0 0]) (.inr ⟨by unfold Qn;rw[if_pos hz,if_pos (by omega)],_,_,_,_,rfl,b6,b2,a6⟩)
 have a8:=Yb a8
 refine xlv 12 k8.rp ?_
 have a2:=u8.blk (k1.below n7.below) (Ne.symm (Ne.symm a0))
 refine xsv 1 a2 [V0 (Xz l),.bool (Yi l),.slice kp (Xh l) kc,.slice vp (Xh l) vc] fun d3 b4 c6=>?_
 have g1:=n1.ge (B4 w)
 have b8:=b4.below (u8.below (bln a1 n7.below) g7) g1
 have c1:=b4.own2 (u8.own2 (Zb (Zd hk n1.below.size) n7.below) n7.blk (by decide)) a2 (by decide)
 have a9:=b4.own2 (u8.own2 (Zb (Zd c5 n1.below.size) n7.below) n7.blk (by decide)) a2 (by decide)
 exact xec 4 c6 (.tuple #[.agg #[V0 (Xz l),.bool (Yi l),.slice kp (Xh l) kc,.slice vp (Xh l) vc],V0 0]) (.inr ⟨by unfold Qn;rw[if_pos hz,if_pos (by omega)],_,_,_,_,rfl,b8,c1,a9⟩)
theorem readNode(B b:Nat)(p:O0)(n c:Nat)(l:Bl)(no tree:Int)(w:World)(hI:ImgR B b p n c l w)(bt:Nat)(kt:Blk w bt [V0 tree] 3) :
 C0 201 #[P0 b,V0 no,V0 2,.func (.func 202) #[] #[P0 bt]] w (BlkNodeP l no tree w):=by
 refine zin 56 Tryz.func201 ?_
 refine xa 2 [V0 0,.bool false,S0,S0] 181 fun b1 W1 n1=>?_
 refine xa 5 [V0 0,.bool false,S0,S0] 181 fun b2 W2 n2=>?_
 have i0:=n2.ne n1.blk
 have hB:=bln n1.below n2.below
 refine xc 6 (args:=#[P0 b,V0 no]) (Eh B b p n c l no _ (hI.below hB)) ?_
 rintro e W3 i3
 rcases i3 with ⟨ho,vr,rfl,a0⟩|⟨j,hk,hj,p2,c2,rfl,a0,ho⟩
 ·refine xd 16 (.t w.heap.size [181]) ?_
  refine xm2 (.b [1,2,3]) 0 4 ?_ ?_
  ·have k2:=(n2.blk.below a0).below (Za W3)
   refine xlv 0 k2.rp ?_
   refine yc (.o [] 4) (args:=#[V0 no,.iface 50 (V0 3)]) (.t w.heap.size [181]) (Yp no 3 _) ?_
   rintro _ W4 ⟨_,rfl,h1,f4⟩
   refine⟨(SF.of_below _ h1),?_⟩
   rw[if_neg (by decide),if_neg (by decide)] at f4
   have i5:=f4
   obtain⟨j8,l9,rfl,_,_⟩:=i5
   have c5:=(((n1.blk.below n2.below).below a0).below (Za W3)).below h1
   have g1:=n1.ge (B4 w)
   refine ysv (.o [] 5) c5 [V0 0,.bool false,S0,S0] (.t w.heap.size [181]) fun W5 u5 k5=>⟨(Zl u5 c5 g1 (by decide)),?_⟩
   have e8:=u5.below (bln (bln (bln hB a0) (Za W3)) h1) g1
   have e2:=f4.upd u5 c5 (by decide)
   refine xec (.r [6] 4) k5 (.tuple #[.agg #[V0 0,.bool false,S0,S0],.iface 188 (P0 j8)]) ?_
   have he:Xl l no tree=3:=by unfold Xl;rw[Sg hI.len ho];rfl
   exact .inl ⟨by rw[he];decide,_,rfl,e8,by rw[he];exact e2⟩
  refine yc 0 (args:=#[V0 no,.iface 50 (V0 3)]) (.t w.heap.size [181]) (Yp no 3 _) ?_
  rintro _ W6 ⟨_,rfl,e5,h0⟩
  refine⟨(SF.of_below _ e5),?_⟩
  rw[if_neg (by decide),if_neg (by decide)] at h0
  have j3:=h0
  obtain⟨k3,k8,rfl,_,_⟩:=j3
  have k2:=((n2.blk.below a0).below (Za W3)).below e5
  refine xlv (.o [] 0) k2.rp ?_
  have d2:=(((n1.blk.below n2.below).below a0).below (Za W3)).below e5
  have g1:=n1.ge (B4 w)
  refine ysv (.o [] 5) d2 [V0 0,.bool false,S0,S0] (.t w.heap.size [181]) fun W7 u7 k7=>⟨(Zl u7 d2 g1 (by decide)),?_⟩
  have f2:=u7.below (bln (bln (bln hB a0) (Za W3)) e5) g1
  have e0:=h0.upd u7 d2 (by decide)
  refine xec (.r [6] 4) k7 (.tuple #[.agg #[V0 0,.bool false,S0,S0],.iface 188 (P0 k3)]) ?_
  have he:Xl l no tree=3:=by unfold Xl;rw[Sg hI.len ho];rfl
  exact .inl ⟨by rw[he];decide,_,rfl,f2,by rw[he];exact e0⟩
 have i8:=(bln n1.below n2.below).size
 have k4:j<l.length/256:=by rw[hI.len];exact hj
 have i1:=Vi k4
 have d6:=Zaa (l:=l) (kind:=2) hI.len hk hj
 have f8:=Zd ho i8
 refine xc 22 (args:=#[.slice p2 256 c2,V0 2,V0 no]) (Oj 2 no p2 256 c2 (Yx l j) _ i1 (Yk (Ze f8) i1)) ?_
 rintro e W8 k1
 rcases k1 with ⟨hs,rfl,a2⟩|⟨hs,p3,c3,rfl,a2,h3⟩
 ·refine xk 14 (show(((Yg 2 no (Yx l j)) != (0:Int)):Bool)=true from bne_iff_ne.2 hs) ?_
  refine xd 1 (.t w.heap.size [181]) ?_
  refine xm2 (.b [1,2,3]) 0 4 ?_ ?_
  ·have k2:=((n2.blk.below a0).below a2).below (Za W8)
   refine xlv 0 k2.rp ?_
   refine yc (.o [] 4) (args:=#[V0 no,.iface 50 (V0 (Yg 2 no (Yx l j)))]) (.t w.heap.size [181]) (Yp no (Yg 2 no (Yx l j)) _) ?_
   rintro _ W9 ⟨_,rfl,h6,g9⟩
   refine⟨(SF.of_below _ h6),?_⟩
   rw[if_neg hs,if_neg hs] at g9
   have j7:=g9
   obtain⟨j4,l3,rfl,_,_⟩:=j7
   have c6:=((((n1.blk.below n2.below).below a0).below a2).below (Za W8)).below h6
   have g1:=n1.ge (B4 w)
   refine ysv (.o [] 5) c6 [V0 0,.bool false,S0,S0] (.t w.heap.size [181]) fun k9 g7 j1=>⟨(Zl g7 c6 g1 (by decide)),?_⟩
   have f0:=g7.below (bln (bln (bln (bln hB a0) a2) (Za W8)) h6) g1
   have d5:=g9.upd g7 c6 (by decide)
   refine xec (.r [6] 4) j1 (.tuple #[.agg #[V0 0,.bool false,S0,S0],.iface 188 (P0 j4)]) ?_
   have he:Xl l no tree=Yg 2 no (Yx l j):=by unfold Xl;rw[d6,if_neg hs]
   exact .inl ⟨by rw[he];exact hs,_,rfl,f0,by rw[he];exact d5⟩
  refine yc 0 (args:=#[V0 no,.iface 50 (V0 (Yg 2 no (Yx l j)))]) (.t w.heap.size [181]) (Yp no (Yg 2 no (Yx l j)) _) ?_
  rintro _ l1 ⟨_,rfl,a9,c0⟩
  refine⟨(SF.of_below _ a9),?_⟩
  rw[if_neg hs,if_neg hs] at c0
  have h4:=c0
  obtain⟨g3,j0,rfl,_,_⟩:=h4
  have k2:=(((n2.blk.below a0).below a2).below (Za W8)).below a9
  refine xlv (.o [] 0) k2.rp ?_
  have b3:=((((n1.blk.below n2.below).below a0).below a2).below (Za W8)).below a9
  have g1:=n1.ge (B4 w)
  refine ysv (.o [] 5) b3 [V0 0,.bool false,S0,S0] (.t w.heap.size [181]) fun l7 f3 i7=>⟨(Zl f3 b3 g1 (by decide)),?_⟩
  have f9:=f3.below (bln (bln (bln (bln hB a0) a2) (Za W8)) a9) g1
  have c4:=c0.upd f3 b3 (by decide)
  refine xec (.r [6] 4) i7 (.tuple #[.agg #[V0 0,.bool false,S0,S0],.iface 188 (P0 g3)]) ?_
  have he:Xl l no tree=Yg 2 no (Yx l j):=by unfold Xl;rw[d6,if_neg hs]
  exact .inl ⟨by rw[he];exact hs,_,rfl,f9,by rw[he];exact c4⟩
 have i9:=(bln hB a0).size
 have e4:=Zd h3 i9
 have j9:((Yx l j).drop 8).take 244=inB l no:=(Oc hk).symm
 have h8:=Zfo hI.len hk hj
 rw[j9] at e4
 have c7:=bln (bln hB a0) a2
 refine xc 21 (args:=#[.slice p3 244 c3,P0 bt]) (node_1 tree bt p3 c3 (inB l no) _ (kt.below c7) h8 (Yk (Ze e4) h8)) ?_
 rintro e l2 f5
 rcases f5 with ⟨hz,a5,b5,kp,m1,kc,vp,m2,vc,rfl,a1⟩|⟨hz,kp,kc,vp,vc,rfl,a1,hk,k0⟩
 ·refine xa 3 [V0 0,.bool false,S0,S0] 181 fun l5 l0 a7=>?_
  have b6:=(((n1.blk.below n2.below).below a0).below a2).below a1
  have a4:=a7.ne b6
  have k2:=((n2.blk.below a0).below a2).below a1
  have a3:=a7.ne k2
  have d1:=bln c7 a1
  have h9:=a7.ge d1
  refine xsv 0 a7.blk [V0 a5,.bool b5,.slice kp m1 kc,.slice vp m2 vc] fun d4 d3 l6=>?_
  refine xk 10 (show(((Qn (inB l no) tree) != (0:Int)):Bool)=true from bne_iff_ne.2 hz) ?_
  refine xd 1 (.t w.heap.size [181]) ?_
  refine xm2 (.b [1,2,3]) 0 4 ?_ ?_
  ·have f7:=(d3.blk (k2.below a7.below) (Ne.symm (Ne.symm a3))).below (Za d4)
   refine xlv 0 f7.rp ?_
   refine yc (.o [] 4) (args:=#[V0 no,.iface 50 (V0 (Qn (inB l no) tree))]) (.t w.heap.size [181]) (Yp no (Qn (inB l no) tree) _) ?_
   rintro _ m3 ⟨_,rfl,c1,b0⟩
   refine⟨(SF.of_below _ c1),?_⟩
   rw[if_neg hz,if_neg hz] at b0
   have e9:=b0
   obtain⟨g2,i6,rfl,_,_⟩:=e9
   have b9:=((d3.blk (b6.below a7.below) (Ne.symm (Ne.symm a4))).below (Za d4)).below c1
   have g1:=n1.ge (B4 w)
   refine ysv (.o [] 5) b9 [V0 0,.bool false,S0,S0] (.t w.heap.size [181]) fun l4 g6 i4=>⟨(Zl g6 b9 g1 (by decide)),?_⟩
   have f6:=g6.below (bln (bln (d3.below (bln d1 a7.below) h9) (Za d4)) c1) g1
   have d0:=b0.upd g6 b9 (by decide)
   refine xec (.r [6] 4) i4 (.tuple #[.agg #[V0 0,.bool false,S0,S0],.iface 188 (P0 g2)]) ?_
   have he:Xl l no tree=Qn (inB l no) tree:=by unfold Xl;rw[d6,if_pos hs]
   exact .inl ⟨by rw[he];exact hz,_,rfl,f6,by rw[he];exact d0⟩
  refine yc 0 (args:=#[V0 no,.iface 50 (V0 (Qn (inB l no) tree))]) (.t w.heap.size [181]) (Yp no (Qn (inB l no) tree) _) ?_
  rintro _ m4 ⟨_,rfl,a8,b4⟩
  refine⟨(SF.of_below _ a8),?_⟩
  rw[if_neg hz,if_neg hz] at b4
  have g5:=b4
  obtain⟨g0,i2,rfl,_,_⟩:=g5
  have h2:=((d3.blk (k2.below a7.below) (Ne.symm (Ne.symm a3))).below (Za d4)).below a8
  refine xlv (.o [] 0) h2.rp ?_
  have b8:=((d3.blk (b6.below a7.below) (Ne.symm (Ne.symm a4))).below (Za d4)).below a8
  have g1:=n1.ge (B4 w)
  refine ysv (.o [] 5) b8 [V0 0,.bool false,S0,S0] (.t w.heap.size [181]) fun m7 f1 j2=>⟨(Zl f1 b8 g1 (by decide)),?_⟩
  have e7:=f1.below (bln (bln (d3.below (bln d1 a7.below) h9) (Za d4)) a8) g1
  have c8:=b4.upd f1 b8 (by decide)
  refine xec (.r [6] 4) j2 (.tuple #[.agg #[V0 0,.bool false,S0,S0],.iface 188 (P0 g0)]) ?_
  have he:Xl l no tree=Qn (inB l no) tree:=by unfold Xl;rw[d6,if_pos hs]
  exact .inl ⟨by rw[he];exact hz,_,rfl,e7,by rw[he];exact c8⟩
 have d7:=(bln (bln hB a0) a2).size
 refine xa 3 [V0 0,.bool false,S0,S0] 181 fun m5 m6 a6=>?_
 have d8:=(((n1.blk.below n2.below).below a0).below a2).below a1
 have b7:=a6.ne d8
 have k2:=((n2.blk.below a0).below a2).below a1
 have h5:=a6.ne k2
 have d9:=bln c7 a1
 have j6:=a6.ge d9
 refine xsv 0 a6.blk [V0 (Xz (inB l no)),.bool (Yi (inB l no)),.slice kp (Xh (inB l no)) kc,.slice vp (Xh (inB l no)) vc] fun m0 e6 k6=>?_
 refine xlv 15 k6.rp ?_
 have c9:=e6.blk (d8.below a6.below) (Ne.symm (Ne.symm b7))
 refine xsv 0 c9 [V0 (Xz (inB l no)),.bool (Yi (inB l no)),.slice kp (Xh (inB l no)) kc,.slice vp (Xh (inB l no)) vc] fun l8 h7 j5=>?_
 have g1:=n1.ge (B4 w)
 have e1:=h7.below (e6.below (bln d9 a6.below) j6) g1
 have g8:=h7.own2 (e6.own2 (Zb (Zd hk d7) a6.below) a6.blk (by decide)) c9 (by decide)
 have e3:=h7.own2 (e6.own2 (Zb (Zd k0 d7) a6.below) a6.blk (by decide)) c9 (by decide)
 exact xec 4 j5 (.tuple #[.agg #[V0 (Xz (inB l no)),.bool (Yi (inB l no)),.slice kp (Xh (inB l no)) kc,.slice vp (Xh (inB l no)) vc],.nilIface]) (.inr ⟨by unfold Xl;rw[d6,if_pos hs,hz],_,_,_,_,rfl,e1,g8,e3⟩)
theorem block_Node(B b:Nat)(p:O0)(n c:Nat)(l:Bl)(no tree:Int)(w:World)(hI:ImgR B b p n c l w) :
 C0 134 #[P0 b,V0 no,V0 tree] w (BlkNodeP l no tree w):=by
 refine zin 14 Tryz.func134 ?_
 refine xa 2 [V0 tree] 3 fun b1 W1 n1=>?_
 refine xa 0 [V0 0,.bool false,S0,S0] 181 fun b2 W2 n2=>?_
 have hB:=bln n1.below n2.below
 have k1:=n1.blk.below n2.below
 refine xc 8 (args:=#[P0 b,V0 no,V0 2,.func (.func 202) #[] #[P0 b1]]) (readNode B b p n c l no tree _ (hI.below hB) b1 k1) ?_
 rintro e W3 a8
 rcases a8 with ⟨he,bf,rfl,a1,hv⟩|⟨he,kp,kc,vp,vc,rfl,a1,hk,a7⟩
 ·have k2:=n2.blk.below a1
  refine xsv 2 k2 [V0 0,.bool false,S0,S0] fun W4 u4 k4=>?_
  have g2:=n2.ge n1.below
  have a5:=u4.below (bln hB a1) g2
  have a4:=hv.upd u4 k2 (by decide)
  exact xec 4 k4 (.tuple #[.agg #[V0 0,.bool false,S0,S0],.iface 188 (P0 bf)]) (.inl ⟨he,_,rfl,a5,a4⟩)
 have a6:=(bln n1.below n2.below).size
 have k2:=n2.blk.below a1
 refine xsv 2 k2 [V0 (Xz (inB l no)),.bool (Yi (inB l no)),.slice kp (Xh (inB l no)) kc,.slice vp (Xh (inB l no)) vc] fun W5 u5 k5=>?_
 have g2:=n2.ge n1.below
 have a3:=u5.below (bln hB a1) g2
 have a2:=u5.own2 (Zd hk a6) k2 (by decide)
 have a0:=u5.own2 (Zd a7 a6) k2 (by decide)
 exact xec 4 k5 (.tuple #[.agg #[V0 (Xz (inB l no)),.bool (Yi (inB l no)),.slice kp (Xh (inB l no)) kc,.slice vp (Xh (inB l no)) vc],.nilIface]) (.inr ⟨he,_,_,_,_,rfl,a3,a2,a0⟩)
def Xk:List Nz:=[(8,1,14399),(4,0,960),(4,0,960)]
theorem slotP_ok:Hn Xk:=by
 refine⟨by decide,fun i hi=>?_⟩
 have a0:i<3:=hi
 obtain rfl|rfl|rfl:i=0∨i=1∨i=2:=by omega
 all_goals simp[Xk,List.getD]
def Qy(l:Bl)(i:Nat):Bl:=(l.drop (4+i*16)).take 16
def Qj(l:Bl)(i k:Nat):Nat:=(Yo Xk (Qy l i)).getD k 0
def Zfq(x:Nat×Nat×Nat):List Value:=[V0 (x.1:Int),V0 (x.2.1:Int),V0 (x.2.2:Int)]
theorem Rg(x:Nat×Nat×Nat):(Zfq x).length=3:=rfl
def sltX(l:Bl)(i:Nat):Nat×Nat×Nat:=(Qj l i 0,Qj l i 1,Qj l i 2)
def Mk(l:Bl)(n:Nat):List (Nat×Nat×Nat):=(List.range n).map (sltX l)
theorem Ij(l:Bl)(n:Nat):Mk l (n+1)=Mk l n++[sltX l n]:=by simp[Mk,List.range_succ]
theorem Zc0(l:Bl)(n:Nat):(Mk l n).length=n:=by simp[Mk]
def Pm(l:Bl):Nat→Int
 | 0=>0
 | i+1=>if Pm l i≠0 then Pm l i else Ye Xk (Qy l i)
theorem Zad{l:Bl}{i:Nat}(h:Pm l i≠0):∀ n,i≤n→Pm l n=Pm l i
 | 0,h2=>by
  obtain rfl:i=0:=by omega
  rfl
 | n+1,h2=>by
   by_cases e:i=n+1
   ·rw[e]
   ·have ih:=Zad h n (by omega)
    rw[Pm,if_pos (by rw[ih];exact h),ih]
theorem Zhg{l:Bl}{i n:Nat}(h:Pm l i=0)(he:Ye Xk (Qy l i)≠0)(hi:i<n):Pm l n=Ye Xk (Qy l i):=by
 have e:Pm l (i+1)=Ye Xk (Qy l i):=by rw[Pm,if_neg (by rw[h];decide)]
 rw[Zad (by rw[e];exact he) n hi,e]
theorem Cy{l:Bl}{i:Nat}(h:Pm l i=0)(he:Ye Xk (Qy l i)=0):Pm l (i+1)=0:=by rw[Pm,if_neg (by rw[h];decide),he]
theorem Br{l:Bl}{i:Nat}(hl:l.length=244)(hi:i<15):(Qy l i).length=16:=by simp[Qy];omega
theorem slot_two{l:Bl}{i:Nat}(hl:l.length=244)(hi:i<15):Ye Xk (Qy l i)=0∨Ye Xk (Qy l i)=2:=by
 unfold Ye
 rw[if_pos (by rw[Br hl hi];rfl)]
 split
 ·exact .inl rfl
 ·exact .inr rfl
def Ls(l:Bl):Bool:=decide (Zg l 0 4≤15)&&Yt (l.drop (4+Zg l 0 4*16))
def Mz(l:Bl):Int:=if Ls l then Pm l (Zg l 0 4) else 7
def SlotsP(l:Bl)(w:World)(e:Ending)(w':World):Prop :=
 (Mz l≠0∧e=.returned (.tuple #[S0,V0 (Mz l)])∧B3 w w') ∨
 (Mz l=0∧∃ p c,e=.returned (.tuple #[.slice p (Zg l 0 4) c,V0 0])∧B3 w w'∧w'.ownsRow w.heap.size 134 3 (.slice p (Zg l 0 4) c) (Zg l 0 4) ((Mk l (Zg l 0 4)).flatMap Zfq))
theorem Zfa(w:World) :
 C0 112 #[] w (Qe (fun w' r=>∃ b,r=.slice (S1 b) 3 3∧w.heap.size≤b∧Blk w' b [V0 8,V0 1,V0 14399,V0 4,V0 0,V0 960,V0 4,V0 0,V0 960] 312) w):=by
 refine zin 5 Tryz.func112 ?_
 refine xbs 10 3 [V0 8,V0 1,V0 14399,V0 4,V0 0,V0 960,V0 4,V0 0,V0 960] 312 fun b1 W1 n1=>?_
 have g1:=n1.ge (B4 w)
 exact xe 4 (.slice (S1 b1) 3 3) ⟨_,rfl,n1.below,_,rfl,g1,n1.blk⟩
theorem Ms(s:Bl)(w:World)(hs:s.length≤1000) :
 C0 62 #[.string ⟨s.toArray⟩] w (Ret (.tuple #[.agg #[V0 (↑((Yo Xk s).getD 0 0):Int),V0 (↑((Yo Xk s).getD 1 0):Int),V0 (↑((Yo Xk s).getD 2 0):Int)],V0 (Ye Xk s)]) w):=by
 refine zin 23 Tryz.func62 ?_
 refine xa 2 [V0 0,V0 0,V0 0] 134 fun b1 W1 n1=>?_
 refine xc 5 (args:=#[]) (Zfa _) ?_
 rintro _ W2 ⟨_,rfl,a1,gl,rfl,gg,kl⟩
 refine xc 1 (args:=#[.slice (S1 gl) 3 3,.string ⟨s.toArray⟩]) (Zf5 Xk s (S1 gl) 3 _ slotP_ok (by decide) (by omega) (kl.sl 3 3 (by decide) (by decide))) ?_
 rintro _ W3 ⟨_,rfl,a2,p5,c5,rfl,h5⟩
 have a3:=(bln n1.below a1).size
 refine xd 8 (.t w.heap.size [134]) ?_
 have a0:=Zb (Zd h5 a3) (Za W3)
 refine xx (.e [0] 1) _ 3 0 1 (Zh (l:=Yo Xk s) (Ze a0) (Ux _ _) (k:=0) (by decide)).1 ?_
 refine xlt (.e [] 2) (.t w.heap.size [134]) (fun V hV=>(Zh (l:=Yo Xk s) (Ze (Zj a0 hV.2 (by decide))) (Ux _ _) (k:=0) (by decide)).2) ?_
 refine xx (.e [3] 4) _ 3 1 1 (Zh (l:=Yo Xk s) (Ze a0) (Ux _ _) (k:=1) (by decide)).1 ?_
 refine xlt (.e [] 5) (.t w.heap.size [134]) (fun V hV=>(Zh (l:=Yo Xk s) (Ze (Zj a0 hV.2 (by decide))) (Ux _ _) (k:=1) (by decide)).2) ?_
 refine xx (.e [6] 7) _ 3 2 1 (Zh (l:=Yo Xk s) (Ze a0) (Ux _ _) (k:=2) (by decide)).1 ?_
 refine xlt (.e [] 8) (.t w.heap.size [134]) (fun V hV=>(Zh (l:=Yo Xk s) (Ze (Zj a0 hV.2 (by decide))) (Ux _ _) (k:=2) (by decide)).2) ?_
 have k1:=((n1.blk.below a1).below a2).below (Za W3)
 have g1:=n1.ge (B4 w)
 refine ysv (.o [9,10] 11) k1 [V0 (↑((Yo Xk s).getD 0 0):Int),V0 (↑((Yo Xk s).getD 1 0):Int),V0 (↑((Yo Xk s).getD 2 0):Int)] (.t w.heap.size [134]) fun W4 u4 k4=>⟨(Zl u4 k1 g1 (by decide)),?_⟩
 have hB:=u4.below (bln (bln (bln n1.below a1) a2) (Za W3)) g1
 exact xec (.r [12] 3) k4 (.tuple #[.agg #[V0 (↑((Yo Xk s).getD 0 0):Int),V0 (↑((Yo Xk s).getD 1 0):Int),V0 (↑((Yo Xk s).getD 2 0):Int)],V0 (Ye Xk s)]) ⟨rfl,hB⟩
theorem slots_next(B bt:Nat)(x:Bl)(w:World)(hBw:B≤w.heap.size)(hBt:B≤bt)(kt:Blk w bt [.string ⟨x.toArray⟩] 9)(hx:16≤x.length) :
 C0 186 #[P0 bt] w ((fun e w'=>e=.returned (.string ⟨(x.take 16).toArray⟩)∧Below B w w'∧Zf [9] w w'∧Blk w' bt [.string ⟨(x.drop 16).toArray⟩] 9)):=by
 refine zin 8 Tryz.func186 ?_
 refine xb 7 0 kt ?_
 refine xsH 0 (fun _ _ _ _ zo zx zy V=>run_strH (k:=16) (j:=16) (kj:=.i64) zo zx zy rfl hx Tryz.underlying9 V) ?_
 refine xb 5 0 kt ?_
 refine xsL 0 (fun _ _ _ _ zo zx zy V=>run_strL (k:=16) (j:=16) (kj:=.i64) zo zx zy rfl hx Tryz.underlying9 V) ?_
 refine xs 0 kt [.string ⟨(x.drop 16).toArray⟩] fun W1 u1 k1=>?_
 have hB:=u1.below (Below.refl B w) hBt
 have hO:=(show Zf [9] w _ from(Zf.of_upd u1 kt (by decide)))
 exact xe 9 (.string ⟨(x.take 16).toArray⟩) ⟨rfl,hB,hO,k1⟩
theorem Ry(l:Bl)(i:Nat)(w:World)(hs:(Qy l i).length≤1000):C0 62 #[.string ⟨(Qy l i).toArray⟩] w (fun e w' =>
 (Ye Xk (Qy l i)=0∧e=.returned (.tuple #[.agg #[V0 (Qj l i 0:Int),V0 (Qj l i 1:Int),V0 (Qj l i 2:Int)],V0 0])∧B3 w w') ∨
 (Ye Xk (Qy l i)≠0∧e=.returned (.tuple #[.agg #[V0 (Qj l i 0:Int),V0 (Qj l i 1:Int),V0 (Qj l i 2:Int)],V0 (Ye Xk (Qy l i))])∧B3 w w')):=by
 refine(Ms (Qy l i) w hs).mono ?_
 rintro e W ⟨rfl,hb⟩
 by_cases h:Ye Xk (Qy l i)=0
 ·exact .inl ⟨h,by rw[h];rfl,hb⟩
 ·exact .inr ⟨h,rfl,hb⟩
theorem bysK{w:World}{a:O0}{c k:Nat}{l:Bl}(h:Bys w (.slice a 244 c) l)(hl:l.length=244)(hk:k≤244):Bys w (.slice (Qu a k c 1) (244-k) (c-k)) (l.drop k):=by
 have:=Bys.cut h hl k 244 hk (by decide)
 rwa [List.take_of_length_le (by simp;omega)] at this
theorem slots_Read(a:O0)(c:Nat)(l:Bl)(w:World)(hl:l.length=244)(h:Bys w (.slice a 244 c) l) :
 C0 116 #[.slice a 244 c] w (SlotsP l w):=by
 have e2:=Bys.cap h hl
 refine zin 52 Tryz.func116 ?_
 refine xr 20 (args:=#[.slice a 244 c,V0 0,V0 4]) (Get_okN a 244 c 0 4 0 4 l _ hl rfl rfl (by decide) (by decide) (by decide) (h.below (B4 w))) fun W1 c1=>?_
 refine xg 13 [20,21] (decide ((↑(Zg l 0 4):Int)>(15:Int))) (fun b7=>?_) (fun b7=>?_)
 ·have b7:=of_decide_eq_true b7
  refine xe 19 (.tuple #[S0,V0 7]) ?_
  have he:Mz l=7:=by unfold Mz Ls;rw[decide_eq_false (by omega),Bool.false_and,if_neg (by decide)]
  exact .inl ⟨by rw[he];decide,by rw[he],c1⟩
 have b7:=of_decide_eq_false b7
 refine xwm 2 ((↑(Zg l 0 4):Int)*16) (↑((Zg l 0 4)*16):Int) ?_
 refine xwm 0 (4+(↑((Zg l 0 4)*16):Int)) (↑(4+((Zg l 0 4)*16)):Int) ?_
 refine xsL 0 (fun _ _ _ _ zo zx zy V=>Xv (k:=(4+((Zg l 0 4)*16))) (b:=a) (n:=244) (c:=c) (i:=(↑(4+((Zg l 0 4)*16)):Int)) (ki:=.i64) 1 zo zx zy rfl (by omega) Tryz.underlying22 (by kernel_rfl) V) ?_
 refine xr 0 (args:=#[.slice (Qu a (4+((Zg l 0 4)*16)) c 1) (244-(4+((Zg l 0 4)*16))) (c-(4+((Zg l 0 4)*16)))]) (Cs (Qu a (4+((Zg l 0 4)*16)) c 1) (244-(4+((Zg l 0 4)*16))) (c-(4+((Zg l 0 4)*16))) (l.drop (4+Zg l 0 4*16)) _ (by simp;omega) (by omega) ((bysK (k:=4+Zg l 0 4*16) h hl (by omega)).below c1)) fun W3 d6=>?_
 refine xi 4 (!(Yt (l.drop (4+Zg l 0 4*16)))) (fun d0=>?_) (fun d0=>?_)
 ·have c0:Yt (l.drop (4+Zg l 0 4*16))=false:=Kb d0
  have c5:=bln c1 d6
  refine xe 8 (.tuple #[S0,V0 7]) ?_
  have he:Mz l=7:=by unfold Mz Ls;rw[c0,Bool.and_false,if_neg (by decide)]
  exact .inl ⟨by rw[he];decide,by rw[he],c5⟩
 have c0:Yt (l.drop (4+Zg l 0 4*16))=true:=Ka d0
 refine xsL 5 (fun _ _ _ _ zo zx zy V=>Xv (k:=4) (b:=a) (n:=244) (c:=c) (i:=4) (ki:=.i64) 1 zo zx zy rfl (by omega) Tryz.underlying22 (by kernel_rfl) V) ?_
 have a4:=bln c1 d6
 refine xcv0 0 (fun _ _ _ zo zx=>Yz zo zx ((bysK (k:=4) h hl (by decide)).below a4) (by simp;omega) Tryz.underlying22 Tryz.underlying5 Tryz.underlying9) ?_
 refine xa 0 [.string ⟨#[]⟩] 9 fun b5 W5 n5=>?_
 have g5:=n5.ge a4
 refine xs 0 n5.blk [.string ⟨(l.drop 4).toArray⟩] fun W6 u6 k6=>?_
 have e5:Blk _ _ [.string ⟨((l.drop (4+0*16))).toArray⟩] _:=k6
 have c6:=u6.below (bln a4 n5.below) g5
 refine zl 21 52 (fun zm e1 V=>∃ (i:Nat) (q:O0) (d:Nat),e1=[(7,.func (.func 186) #[] #[P0 b5]),(8,.slice q i d),(34,V0 (↑(Zg l 0 4):Int)),(35,V0 (i:Int))]∧zm=(Zg l 0 4)-((i:Int)).toNat∧B3 w V∧Blk V b5 ([.string ⟨(l.drop (4+i*16)).toArray⟩]) 9∧V.ownsRow w.heap.size 134 3 (.slice q i d) i ((Mk l i).flatMap Zfq)∧i≤(Zg l 0 4)∧Pm l i=0) ⟨0,_,_,rfl,rfl,c6,e5,World.ownsRow_nil _ _ _ _,Nat.zero_le _,rfl⟩ ?_
 rintro _ _ W7 ⟨i,q,d,rfl,rfl,a1,b4,ho,hi,hz⟩ J7 f0 r7
 refine xid 6 ((i:Int)<(↑(Zg l 0 4):Int)) (fun e7=>?_) (fun e7=>?_)
 ·refine xc 7 (args:=#[P0 b5]) (slots_next w.heap.size b5 (l.drop (4+i*16)) _ a1.size g5 b4 (by simp;omega)) ?_
  rintro _ W9 ⟨rfl,d8,d7,d9⟩
  rw[List.drop_drop,show 4+i*16+16=4+(i+1)*16 by omega] at d9
  refine xc 0 (args:=#[.string ⟨(Qy l i).toArray⟩]) (Ry l i _ (by rw[Br hl (by omega)];decide)) ?_
  rintro e f6 c3
  rcases c3 with ⟨a8,rfl,a0⟩|⟨a8,rfl,a0⟩
  ·refine xa 3 [V0 0,V0 0,V0 0] 134 fun f2 g1 a5=>?_
   have b3:=bln (a1.trans d8) a0
   have e3:=a5.ge b3
   have b0:=Zb (Zj ho d7 (by decide)) a0
   have a2:=Zn b0 a5
   refine xsv 0 a5.blk [V0 (↑(Qj l i 0):Int),V0 (↑(Qj l i 1):Int),V0 (↑(Qj l i 2):Int)] fun f1 c8 d5=>?_
   refine xlv 15 d5.rp ?_
   refine xbs 0 1 [V0 (↑(Qj l i 0):Int),V0 (↑(Qj l i 1):Int),V0 (↑(Qj l i 2):Int)] 134 fun f7 g2 a3=>?_
   have b9:=a3.ne d5
   have b1:=c8.below (bln b3 a5.below) e3
   have f4:=a3.ge b1
   have a7:=c8.own3 (Zb b0 a5.below) a2
   have d2:=Zn a7 a3
   have a9:=Zb a7 a3.below
   have b2:=bln b1 a3.below
   refine xbi 0 fun _ _ _ _ zJ zQ zo zx zy zK=>Zr (m:=1) (news:=[V0 (↑(Qj l i 0):Int),V0 (↑(Qj l i 1):Int),V0 (↑(Qj l i 2):Int)]) (.agg #[V0 0,V0 0,V0 0]) 3 24 (i+1) (((Mk l (i+1)).flatMap Zfq)) zo Tryz.underlying140 (by kernel_rfl) rfl (by decide) zx a9 zy (a3.blk.sl 1 1 (by decide) (by decide)) rfl (by simp[Value.oneCell']) (by unfold maxLen;omega) (by omega) b2.size (by rfl) (by rw[Ij,List.flatMap_append];rfl) fun e8 e4 f8 e6 c4 c7=>?_
   refine zK _ _ ?_
   refine xwm 5 ((i:Int)+1) (↑(i+1):Int) ?_
   have d3:=b2.trans c7
   have b6:=((c8.blkT ((d9.below a0).below a5.below) a5.blk (by decide)).below a3.below).grown c4 a9 (by decide)
   exact ze 2 (f0 _ _ _ ⟨i+1,_,_,rfl,rfl,d3,b6,e6,by omega,Cy hz a8⟩ (by omega))
  refine xa 3 [V0 0,V0 0,V0 0] 134 fun f3 g0 b8=>?_
  have a6:=bln (a1.trans d8) a0
  have e0:=b8.ge a6
  have c9:=Zb (Zj ho d7 (by decide)) a0
  have c2:=Zn c9 b8
  refine xsv 0 b8.blk [V0 (↑(Qj l i 0):Int),V0 (↑(Qj l i 1):Int),V0 (↑(Qj l i 2):Int)] fun f9 e9 f5=>?_
  refine xk 10 (show(((Ye Xk (Qy l i)) != (0:Int)):Bool)=true from bne_iff_ne.2 a8) ?_
  have d1:=e9.below (bln a6 b8.below) e0
  refine xe 14 (.tuple #[S0,V0 (Ye Xk (Qy l i))]) ?_
  have d4:Ls l=true:=by unfold Ls;rw[c0,decide_eq_true (by omega)];rfl
  have he:Mz l=Ye Xk (Qy l i):=by unfold Mz;rw[if_pos d4,Zhg hz a8 (by omega)]
  exact .inl ⟨by rw[he];exact a8,by rw[he],d1⟩
 refine xe 13 (.tuple #[.slice q i d,V0 0]) ?_
 have d4:Ls l=true:=by unfold Ls;rw[c0,decide_eq_true (by omega)];rfl
 obtain rfl:i=Zg l 0 4:=by omega
 exact .inr ⟨by unfold Mz;rw[if_pos d4,hz],_,_,rfl,a1,ho⟩
def Xy(l:Bl)(no:Int):Int:=if inE l 4 no=0 then Mz (inB l no) else inE l 4 no
def BlkIdxP(l:Bl)(no:Int)(w:World)(e:Ending)(w':World):Prop :=
 (Xy l no≠0∧∃ b,e=.returned (.tuple #[S0,.iface 188 (P0 b)])∧B3 w w'∧Hb w' [some no] (some (Xy l no)) (.iface 188 (P0 b))) ∨
 (Xy l no=0∧∃ p c,e=.returned (.tuple #[.slice p (Zg (inB l no) 0 4) c,.nilIface])∧B3 w w'∧w'.ownsRow w.heap.size 134 3 (.slice p (Zg (inB l no) 0 4) c) (Zg (inB l no) 0 4) ((Mk (inB l no) (Zg (inB l no) 0 4)).flatMap Zfq))
theorem readIdx(B b:Nat)(p:O0)(n c:Nat)(l:Bl)(no:Int)(w:World)(hI:ImgR B b p n c l w) :
 C0 115 #[P0 b,V0 no,V0 4,.func (.func 116) #[] #[]] w (BlkIdxP l no w):=by
 refine zin 56 Tryz.func115 ?_
 refine xc 15 (args:=#[P0 b,V0 no]) (Eh B b p n c l no _ (hI.below (B4 w))) ?_
 rintro e W1 b7
 rcases b7 with ⟨ho,vr,rfl,a0⟩|⟨j,hk,hj,p2,c2,rfl,a0,ho⟩
 ·refine xc 21 (args:=#[V0 no,.iface 50 (V0 3)]) (Yp no 3 _) ?_
  rintro _ W2 ⟨_,rfl,b2,a4⟩
  rw[if_neg (by decide),if_neg (by decide)] at a4
  have c9:=a4
  obtain⟨b8,d1,rfl,_,_⟩:=c9
  have hB:=bln a0 b2
  refine xe 6 (.tuple #[S0,.iface 188 (P0 b8)]) ?_
  have he:Xy l no=3:=by unfold Xy;rw[Sg hI.len ho];rfl
  exact .inl ⟨by rw[he];decide,_,rfl,hB,by rw[he];exact a4⟩
 have c1:=Nat.le_refl w.heap.size
 have c6:j<l.length/256:=by rw[hI.len];exact hj
 have b0:=Vi c6
 have a7:=Zaa (l:=l) (kind:=4) hI.len hk hj
 have a5:=Zd ho c1
 refine xc 22 (args:=#[.slice p2 256 c2,V0 4,V0 no]) (Oj 4 no p2 256 c2 (Yx l j) _ b0 (Yk (Ze a5) b0)) ?_
 rintro e W3 b5
 rcases b5 with ⟨hs,rfl,a2⟩|⟨hs,p3,c3,rfl,a2,h3⟩
 ·refine xk 14 (show(((Yg 4 no (Yx l j)) != (0:Int)):Bool)=true from bne_iff_ne.2 hs) ?_
  refine xc 6 (args:=#[V0 no,.iface 50 (V0 (Yg 4 no (Yx l j)))]) (Yp no (Yg 4 no (Yx l j)) _) ?_
  rintro _ W4 ⟨_,rfl,c7,a8⟩
  rw[if_neg hs,if_neg hs] at a8
  have c8:=a8
  obtain⟨b3,d2,rfl,_,_⟩:=c8
  have hB:=bln (bln a0 a2) c7
  refine xe 6 (.tuple #[S0,.iface 188 (P0 b3)]) ?_
  have he:Xy l no=Yg 4 no (Yx l j):=by unfold Xy;rw[a7,if_neg hs]
  exact .inl ⟨by rw[he];exact hs,_,rfl,hB,by rw[he];exact a8⟩
 have a1:=Zd h3 a0.size
 have c0:((Yx l j).drop 8).take 244=inB l no:=(Oc hk).symm
 have b1:=Zfo hI.len hk hj
 rw[c0] at a1
 refine xc 21 (args:=#[.slice p3 244 c3]) (slots_Read p3 c3 (inB l no) _ b1 (Yk (Ze a1) b1)) ?_
 rintro e W5 b4
 rcases b4 with ⟨hz,rfl,a9⟩|⟨hz,p4,c4,rfl,a9,h4⟩
 ·refine xk 14 (show(((Mz (inB l no)) != (0:Int)):Bool)=true from bne_iff_ne.2 hz) ?_
  refine xc 6 (args:=#[V0 no,.iface 50 (V0 (Mz (inB l no)))]) (Yp no (Mz (inB l no)) _) ?_
  rintro _ W6 ⟨_,rfl,d0,a6⟩
  rw[if_neg hz,if_neg hz] at a6
  have b9:=a6
  obtain⟨c5,d3,rfl,_,_⟩:=b9
  have hB:=bln (bln (bln a0 a2) a9) d0
  refine xe 6 (.tuple #[S0,.iface 188 (P0 c5)]) ?_
  have he:Xy l no=Mz (inB l no):=by unfold Xy;rw[a7,if_pos hs]
  exact .inl ⟨by rw[he];exact hz,_,rfl,hB,by rw[he];exact a6⟩
 have b6:=(bln a0 a2).size
 have hB:=bln (bln a0 a2) a9
 have a3:=Zd h4 b6
 exact xe 25 (.tuple #[.slice p4 (Zg (inB l no) 0 4) c4,.nilIface]) (.inr ⟨by unfold Xy;rw[a7,if_pos hs,hz],_,_,rfl,hB,a3⟩)
theorem Zgf(B b:Nat)(p:O0)(n c:Nat)(l:Bl)(no:Int)(w:World)(hI:ImgR B b p n c l w) :
 C0 64 #[P0 b,V0 no] w (BlkIdxP l no w):=by
 refine zin 11 Tryz.func64 ?_
 refine xc 10 (args:=#[P0 b,V0 no,V0 4,.func (.func 116) #[] #[]]) (readIdx B b p n c l no _ (hI.below (B4 w))) ?_
 rintro e W1 a3
 rcases a3 with ⟨he,bf,rfl,a0,hv⟩|⟨he,p4,c4,rfl,a0,h4⟩
 ·exact xe 7 (.tuple #[S0,.iface 188 (P0 bf)]) (.inl ⟨he,_,rfl,a0,hv⟩)
 have a2:=Nat.le_refl w.heap.size
 have a1:=Zd h4 a2
 exact xe 7 (.tuple #[.slice p4 (Zg (inB l no) 0 4) c4,.nilIface]) (.inr ⟨he,_,_,rfl,a0,a1⟩)
theorem rawN_hi(l:Bl):∀ (j k r:Nat),Zg l (k+j) r≤Zg l k (j+r)
 | 0,k,r=>by simp
 | j+1,k,r=>by
  have ih:=rawN_hi l j (k+1) r
  rw[show j+1+r=(j+r)+1 by omega,Zg,show k+(j+1)=k+1+j by omega]
  omega
theorem raw8(l:Bl)(k:Nat):Zg l k 8<9223372036854775808↔(l.getD (k+7) 0).toNat<128:=by
 have h:∀ i,(l.getD i 0).toNat<256:=fun i=>(l.getD i 0).toNat_lt
 have h0:=h k
 have h1:=h (k+1)
 have h2:=h (k+2)
 have h3:=h (k+3)
 have h4:=h (k+4)
 have h5:=h (k+5)
 have h6:=h (k+6)
 have h7:=h (k+7)
 simp only[Zg,Nat.add_assoc,Nat.reduceAdd]
 omega
theorem Zcs{l:Bl}{k w j r:Nat}(h:Zg l k w<9223372036854775808)(hj:0<j)(e:j+r=w):(l.getD (k+(j-1)) 0).toNat+256*Zg l (k+j) r<9223372036854775808∧Zg l (k+(j-1)) (r+1)=Zg l (k+j) r*256+(l.getD (k+(j-1)) 0).toNat:=by
 have h1:=rawN_hi l (j-1) k (r+1)
 rw[show j-1+(r+1)=w by omega,Zg,show k+(j-1)+1=k+j by omega] at h1
 refine⟨by omega,?_⟩
 rw[Zg,show k+(j-1)+1=k+j by omega];omega
theorem ref_width1(w:World) :
 C0 270 #[V0 1] w (Ret (.bool true) w):=by
 refine zin 17 Tryz.func270 ?_
 exact xe 25 (.bool true) ⟨rfl,(B4 w)⟩
theorem ref_width2(w:World) :
 C0 270 #[V0 2] w (Ret (.bool true) w):=by
 refine zin 17 Tryz.func270 ?_
 exact xe 25 (.bool true) ⟨rfl,(B4 w)⟩
theorem ref_width4(w:World) :
 C0 270 #[V0 4] w (Ret (.bool true) w):=by
 refine zin 17 Tryz.func270 ?_
 exact xe 25 (.bool true) ⟨rfl,(B4 w)⟩
theorem ref_width8(w:World) :
 C0 270 #[V0 8] w (Ret (.bool true) w):=by
 refine zin 17 Tryz.func270 ?_
 exact xe 25 (.bool true) ⟨rfl,(B4 w)⟩
theorem ref_width(k:Nat)(hw:k=1∨k=2∨k=4∨k=8)(w:World):C0 270 #[V0 (k:Int)] w (Ret (.bool true) w):=by
 rcases hw with rfl|rfl|rfl|rfl
 ·exact ref_width1 w
 ·exact ref_width2 w
 ·exact ref_width4 w
 ·exact ref_width8 w
theorem ref_room(a:O0)(m c k w:Nat)(W:World)(hw:w=1∨w=2∨w=4∨w=8)(hk:k+w≤m)(hm:m≤100000000) :
 C0 241 #[.slice a m c,V0 (k:Int),V0 (w:Int)] W (Ret (V0 0) W):=by
 refine zin 26 Tryz.func241 ?_
 refine xr 9 (args:=#[V0 (w:Int)]) (ref_width w hw _) fun W1 a0=>?_
 refine xgk 12 [11,12] (show(decide ((k:Int)<(0:Int)):Bool)=false from decide_eq_false (by omega)) ?_
 refine xgk 6 [16,17,18] (show(decide ((k:Int)>(m:Int)):Bool)=false from decide_eq_false (by omega)) ?_
 refine xwm 3 ((m:Int)-(k:Int)) (↑(m-k):Int) ?_
 refine xk 5 (show(decide ((↑(m-k):Int)<(w:Int)):Bool)=false from decide_eq_false (by omega)) ?_
 exact xe 8 (V0 0) ⟨rfl,a0⟩
theorem Ti(a:O0)(c k w:Nat)(l:Bl)(W:World)(hw:w=1∨w=2∨w=4∨w=8)(hk:k+w≤l.length)(hl:l.length≤100000000)(h:Bys W (.slice a l.length c) l)(hq:¬ Zg l k w<9223372036854775808) :
 C0 198 #[.slice a l.length c,V0 (k:Int),V0 (w:Int)] W (Ret (.tuple #[V0 0,V0 2]) W):=by
 have a1:w=8:=by
  rcases hw with h1|h1|h1|h1
  ·have:=Yn l k w (by omega);omega
  ·have:=Yn l k w (by omega);omega
  ·have:=Yn l k w (by omega);omega
  ·exact h1
 have a2:=(not_congr (raw8 l k)).1 (by rw[←a1];exact hq)
 refine zin 45 Tryz.func198 ?_
 refine xr 11 (args:=#[.slice a l.length c,V0 (k:Int),V0 (w:Int)]) (ref_room a l.length c k w _ hw hk hl) fun W1 a0=>?_
 refine xgk 19 [19,20] (show(((w:Int)==(8:Int)):Bool)=true from by rw[a1];rfl) ?_
 refine xwm 2 ((k:Int)+7) (↑(k+7):Int) ?_
 refine xx 0 _ l.length (k+7) 1 (Bys.elem h (k:=(k+7)) (by omega)).1 ?_
 refine xl 0 ((Bys.elem (h.below a0) (k:=(k+7)) (by omega)).2) ?_
 refine xk 4 (show(decide ((↑(l.getD (k+7) 0).toNat:Int)≥(128:Int)):Bool)=true from decide_eq_true (by omega)) ?_
 exact xe 8 (.tuple #[V0 0,V0 2]) ⟨rfl,a0⟩
theorem Eg(a:O0)(c k w:Nat)(l:Bl)(W:World)(hw:w=1∨w=2∨w=4∨w=8)(hk:k+w≤l.length)(hl:l.length≤100000000)(h:Bys W (.slice a l.length c) l)(hq:Zg l k w<9223372036854775808) :
 C0 198 #[.slice a l.length c,V0 (k:Int),V0 (w:Int)] W (Ret (.tuple #[V0 (Zg l k w:Int),V0 0]) W):=by
 refine zin 45 Tryz.func198 ?_
 refine xr 11 (args:=#[.slice a l.length c,V0 (k:Int),V0 (w:Int)]) (ref_room a l.length c k w _ hw hk hl) fun W1 a6=>?_
 refine xg 19 [19,20] ((w:Int)==(8:Int)) (fun a2=>?_) (fun a2=>?_)
 ·have a2:=eq_of_beq a2
  refine xwm 2 ((k:Int)+7) (↑(k+7):Int) ?_
  refine xx 0 _ l.length (k+7) 1 (Bys.elem h (k:=(k+7)) (by omega)).1 ?_
  refine xl 0 ((Bys.elem (h.below a6) (k:=(k+7)) (by omega)).2) ?_
  refine xk 4 (show(decide ((↑(l.getD (k+7) 0).toNat:Int)≥(128:Int)):Bool)=false from decide_eq_false (by have:=(raw8 l k).1 (by rw[←show w=8 by omega];exact hq);omega)) ?_
  refine xwm 11 ((w:Int)-1) (↑(w-1):Int) ?_
  refine xv1 4 10 (show(V0 (↑(w-1):Int):Value)=V0 ((w:Int)-1) from congrArg V0 (by omega)) ?_
  refine zl 0 45 (fun zm a5 V=>∃ (j r:Nat),a5=[(0,.slice a l.length c),(1,V0 (k:Int)),(6,V0 0),(7,V0 0),(9,V0 (↑(Zg l (k+j) r):Int)),(10,V0 ((j:Int)-1))]∧zm=(((j:Int)-1)+1).toNat∧B3 W V∧j+r=w) ⟨w,0,rfl,rfl,a6,by omega⟩ ?_
  rintro _ _ W3 ⟨j,r,rfl,rfl,a0,a4⟩ J3 a7 r3
  have a3:0<j→_:=fun hj=>Zcs hq hj a4
  refine xid 7 ((j:Int)-1≥(0:Int)) (fun b0=>?_) (fun b0=>?_)
  ·refine xwm 6 ((↑(Zg l (k+j) r):Int)*256) (↑((Zg l (k+j) r)*256):Int) ?_
   refine xq 3 (congrArg V0 (show IntKind.i64.wrap ((k:Int)+((j:Int)-1))=(↑(k+(j-1)):Int) from(show IntKind.i64.wrap ((k:Int)+((j:Int)-1))=((k:Int)+((j:Int)-1)) from by first|exact IntWalk.i64_in _ (by omega)|(simp only[IntKind.wrap];omega)).trans (by omega))) ?_
   refine xx 0 _ l.length (k+(j-1)) 1 (Bys.elem h (k:=(k+(j-1))) (by omega)).1 ?_
   refine xl 0 ((Bys.elem (h.below a0) (k:=(k+(j-1))) (by omega)).2) ?_
   refine xq 0 (congrArg V0 (show(IntKind.i64.wrap (↑(l.getD (k+(j-1)) 0).toNat:Int):Int)=(↑(l.getD (k+(j-1)) 0).toNat:Int) from Kw (by have:=(l.getD (k+(j-1)) 0).toNat_lt;omega))) ?_
   refine xw 0 ((↑((Zg l (k+j) r)*256):Int)+(↑(l.getD (k+(j-1)) 0).toNat:Int)) ?_
   refine xq 6 (congrArg V0 (show IntKind.i64.wrap ((j:Int)-1-1)=((↑(j-1:Nat):Int)-1) from(show IntKind.i64.wrap ((j:Int)-1-1)=((j:Int)-1-1) from by first|exact IntWalk.i64_in _ (by omega)|(simp only[IntKind.wrap];omega)).trans (by omega))) ?_
   refine xv1 2 9 (show(V0 ((↑((Zg l (k+j) r)*256):Int)+(↑(l.getD (k+(j-1)) 0).toNat:Int)):Value)=V0 (↑(Zg l (k+(j-1)) (r+1)):Int) from by rw[(a3 (by omega)).2];rfl) ?_
   exact ze 0 (a7 _ _ _ ⟨j-1,r+1,rfl,rfl,a0,by omega⟩ (by omega))
  refine xe 13 (.tuple #[V0 (↑(Zg l (k+j) r):Int),V0 0]) ?_
  rw[show Zg l (k+j) r=Zg l k w from by rw[show j=0 by omega,show r=w by omega];rfl];exact⟨rfl,a0⟩
 have a2:=Yq a2
 refine xwm 21 ((w:Int)-1) (↑(w-1):Int) ?_
 refine xv1 4 10 (show(V0 (↑(w-1):Int):Value)=V0 ((w:Int)-1) from congrArg V0 (by omega)) ?_
 refine zl 0 45 (fun zm a5 V=>∃ (j r:Nat),a5=[(0,.slice a l.length c),(1,V0 (k:Int)),(6,V0 0),(7,V0 0),(9,V0 (↑(Zg l (k+j) r):Int)),(10,V0 ((j:Int)-1))]∧zm=(((j:Int)-1)+1).toNat∧B3 W V∧j+r=w) ⟨w,0,rfl,rfl,a6,by omega⟩ ?_
 rintro _ _ W5 ⟨j,r,rfl,rfl,a1,a4⟩ J5 a9 r5
 have a3:0<j→_:=fun hj=>Zcs hq hj a4
 refine xid 7 ((j:Int)-1≥(0:Int)) (fun a8=>?_) (fun a8=>?_)
 ·refine xwm 6 ((↑(Zg l (k+j) r):Int)*256) (↑((Zg l (k+j) r)*256):Int) ?_
  refine xq 3 (congrArg V0 (show IntKind.i64.wrap ((k:Int)+((j:Int)-1))=(↑(k+(j-1)):Int) from(show IntKind.i64.wrap ((k:Int)+((j:Int)-1))=((k:Int)+((j:Int)-1)) from by first|exact IntWalk.i64_in _ (by omega)|(simp only[IntKind.wrap];omega)).trans (by omega))) ?_
  refine xx 0 _ l.length (k+(j-1)) 1 (Bys.elem h (k:=(k+(j-1))) (by omega)).1 ?_
  refine xl 0 ((Bys.elem (h.below a1) (k:=(k+(j-1))) (by omega)).2) ?_
  refine xq 0 (congrArg V0 (show(IntKind.i64.wrap (↑(l.getD (k+(j-1)) 0).toNat:Int):Int)=(↑(l.getD (k+(j-1)) 0).toNat:Int) from Kw (by have:=(l.getD (k+(j-1)) 0).toNat_lt;omega))) ?_
  refine xw 0 ((↑((Zg l (k+j) r)*256):Int)+(↑(l.getD (k+(j-1)) 0).toNat:Int)) ?_
  refine xq 6 (congrArg V0 (show IntKind.i64.wrap ((j:Int)-1-1)=((↑(j-1:Nat):Int)-1) from(show IntKind.i64.wrap ((j:Int)-1-1)=((j:Int)-1-1) from by first|exact IntWalk.i64_in _ (by omega)|(simp only[IntKind.wrap];omega)).trans (by omega))) ?_
  refine xv1 2 9 (show(V0 ((↑((Zg l (k+j) r)*256):Int)+(↑(l.getD (k+(j-1)) 0).toNat:Int)):Value)=V0 (↑(Zg l (k+(j-1)) (r+1)):Int) from by rw[(a3 (by omega)).2];rfl) ?_
  exact ze 0 (a9 _ _ _ ⟨j-1,r+1,rfl,rfl,a1,by omega⟩ (by omega))
 refine xe 13 (.tuple #[V0 (↑(Zg l (k+j) r):Int),V0 0]) ?_
 rw[show Zg l (k+j) r=Zg l k w from by rw[show j=0 by omega,show r=w by omega];rfl];exact⟨rfl,a1⟩
theorem ref_Get(a:O0)(c k w:Nat)(l:Bl)(W:World)(hw:w=1∨w=2∨w=4∨w=8)(hk:k+w≤l.length)(hl:l.length≤100000000)(h:Bys W (.slice a l.length c) l) :
 C0 198 #[.slice a l.length c,V0 (k:Int),V0 (w:Int)] W (Ret (.tuple #[V0 (getV l k w),V0 (Zet l k w)]) W):=by
 by_cases hq:Zg l k w<9223372036854775808
 ·rw[Dz hq,Zbe hq];exact Eg a c k w l W hw hk hl h hq
 ·rw[getV,Zet,if_neg hq,if_neg hq];exact Ti a c k w l W hw hk hl h hq
theorem Cd(a:O0)(n c k w:Nat)(ki wi:Int)(l:Bl)(W:World)(hn:l.length=n)(hki:ki=(k:Int))(hwi:wi=(w:Int))(hw:w=1∨w=2∨w=4)(hk:k+w≤n)(hl:n≤100000000)(h:Bys W (.slice a n c) l) :
 C0 198 #[.slice a n c,V0 ki,V0 wi] W (Ret (.tuple #[V0 (Zg l k w:Int),V0 0]) W):=by
 subst hn hki hwi;exact Eg a c k w l W (by omega) hk hl h (by have:=Yn l k w (by omega);omega)
theorem Bp(a:O0)(c:Nat)(l:Bl)(aw:O0)(cw:Nat)(ws:List Nat)(W:World)(hk:∀ i,i<ws.length→ws.getD i 0=1∨ws.getD i 0=2∨ws.getD i 0=4∨ws.getD i 0=8)(hs:ws.sum≤l.length)(hl:l.length≤100000000)(hw:ws.length≤1000)(h:Bys W (.slice a l.length c) l)(hws:Sl W (.slice aw ws.length cw) ws.length (ws.map nv))(hq:∀ i,i<ws.length→(Je l 0 ws).getD i 0<9223372036854775808) :
 C0 128 #[.slice a l.length c,.slice aw ws.length cw] W (Qe (fun w' r=>∃ p c,r=.tuple #[.slice p ws.length c,V0 0]∧w'.ownsRow W.heap.size 3 1 (.slice p ws.length c) ws.length ((Je l 0 ws).map nv)) W):=by
 refine zin 41 Tryz.func128 ?_
 have hB:=Below.refl W.heap.size W
 refine zl 23 41 (fun zm b1 V=>∃ (i:Nat) (p:O0) (c2:Nat),b1=[(0,.slice a l.length c),(1,.slice aw ws.length cw),(6,.slice p i c2),(7,V0 (↑(ws.take i).sum:Int)),(8,V0 (i:Int))]∧zm=ws.length-((i:Int)).toNat∧B3 W V∧V.ownsRow W.heap.size 3 1 (.slice p i c2) i ((Je l 0 (ws.take i)).map nv)∧i≤ws.length) ⟨0,_,_,rfl,rfl,hB,World.ownsRow_nil _ _ _ _,Nat.zero_le _⟩ ?_
 rintro _ _ W1 ⟨i,p,c2,rfl,rfl,a0,ho,hi⟩ J1 b0 r1
 have b3:i<ws.length→(ws.take i).sum+ws.getD i 0≤ws.sum:=Wt
 have a7:i<ws.length→(Je l 0 ws).getD i 0=Zg l (ws.take i).sum (ws.getD i 0):=fun h=>by rw[Nv l ws 0 i h,Nat.zero_add]
 refine xid 9 ((i:Int)<(ws.length:Int)) (fun b2=>?_) (fun b2=>?_)
 ·refine xx 10 _ ws.length i 1 (Zh hws rfl (k:=i) (by omega)).1 ?_
  refine xl 0 ((Zh (hws.below a0) rfl (k:=i) (by omega)).2) ?_
  refine xr 0 (args:=#[.slice a l.length c,V0 (↑(ws.take i).sum:Int),V0 (↑(ws.getD i 0):Int)]) (ref_Get a c (ws.take i).sum (ws.getD i 0) l _ (hk i (by omega)) (by omega) hl (h.below a0)) fun W3 a6=>?_
  refine xk 14 (show(((Zet l (ws.take i).sum (ws.getD i 0)) != (0:Int)):Bool)=false from by rw[Zbe (by rw[←a7 (by omega)];exact hq i (by omega))];rfl) ?_
  refine xbs 6 1 [V0 (getV l (ws.take i).sum (ws.getD i 0))] 3 fun b4 W4 n4=>?_
  have a3:=bln a0 a6
  have g4:=n4.ge a3
  have a4:=Zb ho a6
  have a8:=Zn a4 n4
  have a5:=Zb a4 n4.below
  have a1:=bln a3 n4.below
  refine xbi 0 fun _ _ _ _ zJ zQ zo zx zy zK=>Zr (m:=1) (news:=[V0 (getV l (ws.take i).sum (ws.getD i 0))]) (V0 0) 1 8 (i+1) ((Je l 0 (ws.take (i+1))).map nv) zo Tryz.underlying34 (by kernel_rfl) rfl (by decide) zx a5 zy (n4.blk.sl 1 1 (by decide) (by decide)) rfl (by simp[Value.oneCell']) (by unfold maxLen;omega) (by omega) a1.size (by rfl) (by rw[Jl (by omega),Po,Nat.zero_add,List.map_append];simp only[List.map_cons,List.map_nil,nv];rw[Dz (by rw[←a7 (by omega)];exact hq i (by omega))]) fun b6 b7 W5 o5 b5 a9=>?_
  refine zK _ _ ?_
  refine xx 7 _ ws.length i 1 (Zh hws rfl (k:=i) (by omega)).1 ?_
  have a2:=a1.trans a9
  refine xl 0 ((Zh (hws.below a2) rfl (k:=i) (by omega)).2) ?_
  refine xwm 0 ((↑(ws.take i).sum:Int)+(↑(ws.getD i 0):Int)) (↑((ws.take i).sum+(ws.getD i 0)):Int) ?_
  refine xwm 6 ((i:Int)+1) (↑(i+1):Int) ?_
  refine xv1 2 7 (show(V0 (↑((ws.take i).sum+(ws.getD i 0)):Int):Value)=V0 (↑(ws.take (i+1)).sum:Int) from by rw[Jl (by omega),List.sum_append];simp) ?_
  exact ze 0 (b0 _ _ _ ⟨i+1,_,_,rfl,rfl,a2,o5,by omega⟩ (by omega))
 refine xe 13 (.tuple #[.slice p i c2,V0 0]) ?_
 obtain rfl:i=ws.length:=by omega
 rw[List.take_length] at ho
 exact⟨_,rfl,a0,_,_,rfl,ho⟩
theorem Ar(a:O0)(c:Nat)(l:Bl)(aw:O0)(cw:Nat)(ws:List Nat)(W:World)(hk:∀ i,i<ws.length→ws.getD i 0=1∨ws.getD i 0=2∨ws.getD i 0=4∨ws.getD i 0=8)(hs:ws.sum≤l.length)(hl:l.length≤100000000)(hw:ws.length≤1000)(h:Bys W (.slice a l.length c) l)(hws:Sl W (.slice aw ws.length cw) ws.length (ws.map nv))(hq:¬ ∀ i,i<ws.length→(Je l 0 ws).getD i 0<9223372036854775808) :
 C0 128 #[.slice a l.length c,.slice aw ws.length cw] W (Ret (.tuple #[S0,V0 2]) W):=by
 refine zin 41 Tryz.func128 ?_
 have hB:=Below.refl W.heap.size W
 refine zl 23 41 (fun zm b2 V=>∃ (i:Nat) (p:O0) (c2:Nat),b2=[(0,.slice a l.length c),(1,.slice aw ws.length cw),(6,.slice p i c2),(7,V0 (↑(ws.take i).sum:Int)),(8,V0 (i:Int))]∧zm=ws.length-((i:Int)).toNat∧B3 W V∧V.ownsRow W.heap.size 3 1 (.slice p i c2) i ((Je l 0 (ws.take i)).map nv)∧i≤ws.length∧(∀ j,j<i→(Je l 0 ws).getD j 0<9223372036854775808)) ⟨0,_,_,rfl,rfl,hB,World.ownsRow_nil _ _ _ _,Nat.zero_le _,?_⟩ ?_
 ·exact fun j hj=>absurd hj (by omega)
 rintro _ _ W1 ⟨i,p,c2,rfl,rfl,a0,ho,hi,a5⟩ J1 b3 r1
 have c0:i<ws.length→(ws.take i).sum+ws.getD i 0≤ws.sum:=Wt
 have b4:i<ws.length→(Je l 0 ws).getD i 0=Zg l (ws.take i).sum (ws.getD i 0):=fun h=>by rw[Nv l ws 0 i h,Nat.zero_add]
 refine xid 9 ((i:Int)<(ws.length:Int)) (fun b7=>?_) (fun b7=>?_)
 ·refine xx 10 _ ws.length i 1 (Zh hws rfl (k:=i) (by omega)).1 ?_
  refine xl 0 ((Zh (hws.below a0) rfl (k:=i) (by omega)).2) ?_
  refine xr 0 (args:=#[.slice a l.length c,V0 (↑(ws.take i).sum:Int),V0 (↑(ws.getD i 0):Int)]) (ref_Get a c (ws.take i).sum (ws.getD i 0) l _ (hk i (by omega)) (by omega) hl (h.below a0)) fun W3 b0=>?_
  refine xin 14 (Zet l (ws.take i).sum (ws.getD i 0)) (0:Int) (fun a9=>?_) (fun a9=>?_)
  ·have a6:=Zhd a9
   have a8:=bln a0 b0
   refine xe 14 (.tuple #[S0,V0 (Zet l (ws.take i).sum (ws.getD i 0))]) ?_
   rw[a6.2];exact⟨rfl,a8⟩
  have a6:=Zd7 a9
  refine xbs 6 1 [V0 (getV l (ws.take i).sum (ws.getD i 0))] 3 fun b5 W5 n5=>?_
  have a3:=bln a0 b0
  have g5:=n5.ge a3
  have a2:=Zb ho b0
  have b1:=Zn a2 n5
  have a7:=Zb a2 n5.below
  have a1:=bln a3 n5.below
  refine xbi 0 fun _ _ _ _ zJ zQ zo zx zy zK=>Zr (m:=1) (news:=[V0 (getV l (ws.take i).sum (ws.getD i 0))]) (V0 0) 1 8 (i+1) ((Je l 0 (ws.take (i+1))).map nv) zo Tryz.underlying34 (by kernel_rfl) rfl (by decide) zx a7 zy (n5.blk.sl 1 1 (by decide) (by decide)) rfl (by simp[Value.oneCell']) (by unfold maxLen;omega) (by omega) a1.size (by rfl) (by rw[Jl (by omega),Po,Nat.zero_add,List.map_append];simp only[List.map_cons,List.map_nil,nv];rw[Dz a6]) fun b9 b8 W6 o6 c1 b6=>?_
  refine zK _ _ ?_
  refine xx 7 _ ws.length i 1 (Zh hws rfl (k:=i) (by omega)).1 ?_
  have a4:=a1.trans b6
  refine xl 0 ((Zh (hws.below a4) rfl (k:=i) (by omega)).2) ?_
  refine xwm 0 ((↑(ws.take i).sum:Int)+(↑(ws.getD i 0):Int)) (↑((ws.take i).sum+(ws.getD i 0)):Int) ?_
  refine xwm 6 ((i:Int)+1) (↑(i+1):Int) ?_
  refine xv1 2 7 (show(V0 (↑((ws.take i).sum+(ws.getD i 0)):Int):Value)=V0 (↑(ws.take (i+1)).sum:Int) from by rw[Jl (by omega),List.sum_append];simp) ?_
  exact ze 0 (b3 _ _ _ ⟨i+1,_,_,rfl,rfl,a4,o6,by omega,fun j hj=>(Nat.lt_or_ge j i).elim (fun q=>a5 j q) (fun q=>by obtain rfl:j=i:=(by omega);rw[b4 (by omega)];exact a6)⟩ (by omega))
 refine xe 13 (.tuple #[.slice p i c2,V0 0]) ?_
 exact absurd (fun j hj=>a5 j (by omega)) hq
theorem Tb(a:O0)(n c:Nat)(l:Bl)(aw:O0)(cw m:Nat)(ws:List Nat)(xs:List Nat)(W:World)(hn:l.length=n)(hm:ws.length=m)(hx:Je l 0 ws=xs)(hk:∀ i,i<ws.length→ws.getD i 0=1∨ws.getD i 0=2∨ws.getD i 0=4∨ws.getD i 0=8)(hs:ws.sum≤n)(hl:n≤100000000)(hw:ws.length≤1000)(h:Bys W (.slice a n c) l)(hws:Sl W (.slice aw m cw) m (ws.map nv))(hq:∀ i,i<ws.length→(Je l 0 ws).getD i 0<9223372036854775808) :
 C0 128 #[.slice a n c,.slice aw m cw] W (Qe (fun w' r=>∃ p c,r=.tuple #[.slice p m c,V0 0]∧w'.ownsRow W.heap.size 3 1 (.slice p m c) m (xs.map nv)) W):=by
 subst hn hm hx;exact Bp a c l aw cw ws W hk hs hl hw h hws hq
theorem ref_Zero(a:O0)(c:Nat)(l:Bl)(w:World)(hl:l.length≤100000000)(h:Bys w (.slice a l.length c) l) :
 C0 129 #[.slice a l.length c] w (Ret (.bool (Yt l)) w):=by
 refine zin 15 Tryz.func129 ?_
 have hB:=Below.refl w.heap.size w
 refine zl 12 15 (fun zm a3 V=>∃ (i:Nat),a3=[(0,.slice a l.length c),(3,V0 (i:Int))]∧zm=l.length-((i:Int)).toNat∧B3 w V∧i≤l.length∧(∀ j,j<i→l.getD j 0=0)) ⟨0,rfl,rfl,hB,Nat.zero_le _,?_⟩ ?_
 ·exact fun j hj=>absurd hj (by omega)
 rintro _ _ W1 ⟨i,rfl,rfl,a0,hi,hz⟩ J1 a4 r1
 refine xid 9 ((i:Int)<(l.length:Int)) (fun a2=>?_) (fun a2=>?_)
 ·refine xx 8 _ l.length i 1 (Bys.elem h (k:=i) (by omega)).1 ?_
  refine xl 0 ((Bys.elem (h.below a0) (k:=i) (by omega)).2) ?_
  refine xin 3 (↑(l.getD i 0).toNat:Int) (0:Int) (fun a1=>?_) (fun a1=>?_)
  ·refine xe 11 (.bool false) ?_
   rw[Rw (j:=i) (by omega) (by assumption)];exact⟨rfl,a0⟩
  refine xwm 5 ((i:Int)+1) (↑(i+1):Int) ?_
  exact ze 2 (a4 _ _ _ ⟨i+1,rfl,rfl,a0,by omega,fun j hj=>(Nat.lt_or_ge j i).elim (hz j) (fun q=>by obtain rfl:j=i:=(by omega);exact Zcn (by assumption))⟩ (by omega))
 refine xe 11 (.bool true) ?_
 rw[Dc (fun j hj=>hz j (by omega))];exact⟨rfl,a0⟩
theorem Ue(a:O0)(n c:Nat)(l:Bl)(w:World)(hn:l.length=n)(hl:n≤100000000)(h:Bys w (.slice a n c) l):C0 129 #[.slice a n c] w (Ret (.bool (Yt l)) w):=by
 subst hn;exact ref_Zero a c l w hl h
end Go.Proofs.YtceeiinepijokaaGreatDoor
namespace Go.Proofs.YtceeiinepijokaaGreatDoor
set_option maxHeartbeats 8000000
set_option maxRecDepth 100000
open Go.RowKit Go.Extern.Stop Go.Stop Go.Extern
set_option linter.unusedVariables false
def FltV(w:World)(v:Value)(l:List Int)(c:Int):Prop:=∃ s,v=.agg #[s,V0 c]∧Ints w s l
theorem FltV.below{w w':World}{v:Value}{l:List Int}{c:Int}(h:FltV w v l c)(hb:B3 w w'):FltV w' v l c:=by
 obtain⟨s,rfl,hs⟩:=h
 exact⟨s,rfl,hs.below hb⟩
theorem res_told{w:World}{B:Nat}{s:Value}{c:Int}{t:TypeId}(h:Blk w B [s,V0 c] t)(hs:∃ a n m,s=.slice a n m){tmps:Array Value}(e:tmps.getD 2 undef=P0 B) :
 (results Tryz.f13 tmps).run Tryz.prog w=.ok (.agg #[s,V0 c]) w:=by
 obtain⟨a,n,m,rfl⟩:=hs
 have c0:=h.cell (i:=0) rfl
 have c1:=h.cell (i:=1) rfl
 have e':tmps[2]?.getD undef=P0 B:=by simpa using e
 simp[results,Tryz.results13,go_sem,c0,c1,e']
theorem Ob(t:Option Int)(l:List (Option Int))(v:Value)(w:World)(hlen:l.length≤1000000)(hg:ErrT w)(hv:Hb w l t v) :
 C0 13 #[v] w (Qe (fun w' r=>FltV w' r (Vk l) (Fk l t)) w):=by
 have hB:=blx w (.cells #[S0,V0 0] 36)
 have k0:=Blk.new w [S0,V0 0] 36
 rcases hv.nil_or with ⟨hz,rfl⟩|⟨hz,ty,x,rfl⟩
 ·obtain⟨rfl,rfl⟩:=Ir hz
  go_enter Tryz.func13,Tryz.ntmps13
  go_wp2_with fail
  exact bodyPost_ret (res_told k0 ⟨_,_,_,rfl⟩ rfl) rfl ⟨_,rfl,hB,_,rfl,.inl ⟨_,_,rfl,rfl,rfl⟩⟩
 ·go_enter Tryz.func13,Tryz.ntmps13
  have a3:=hv.below hB
  go_wp2_with fail
  refine(Zes t l _ _ hlen a3).mono ?_
  rintro e w1 ⟨r,rfl,a2,h1⟩
  have a1:=bln hB a2
  go_wp2_with fail
  refine(fault_Code t l _ w1 (hg.below a1) (hv.below a1)).mono ?_
  rintro e w2 ⟨rfl,a0⟩
  have k2:=(k0.below a2).below a0
  obtain⟨a,m,rfl⟩:=(Ze h1).slice
  have d0:=k2.cell (i:=0) rfl
  have d1:=k2.cell (i:=1) rfl
  have f0:=k2.frozen 0
  have f1:=k2.frozen 1
  have a4:=bln a1 a0
  have a5:B3 w ((w2.setCell ⟨w.heap.size,0,none⟩ (.slice a (Vk l).length m)).setCell ⟨w.heap.size,1,none⟩ (V0 (Fk l t))):=(a4.setCell (Nat.le_refl _) _).setCell (Nat.le_refl _) _
  have h3:=ownsRow_setCell_below (ownsRow_setCell_below (Zb h1 a0) (a:=⟨w.heap.size,0,none⟩) (by simp) (.slice a (Vk l).length m)) (a:=⟨w.heap.size,1,none⟩) (by simp) (V0 (Fk l t))
  go_wp2_with fail
  exact bodyPost_ret (res_told ((k2.set 0 _).set 1 _) ⟨_,_,_,rfl⟩ rfl) rfl ⟨_,rfl,a5,_,rfl,Ze h3⟩
theorem Du(l:List Int)(c:Int)(v1 v2:Value)(w:World)(h1:FltV w v1 l c)(h2:FltV w v2 l c) :
 C0 12 #[v1,v2] w (Ret (.bool true) w):=by
 obtain⟨s1,rfl,k1⟩:=h1
 obtain⟨s2,rfl,k2⟩:=h2
 obtain⟨a1,p1,rfl⟩:=k1.slice
 obtain⟨a2,p2,rfl⟩:=k2.slice
 have a5:=k1.len
 have hB:B3 w ((w.alloc (.cells #[.slice a1 l.length p1,V0 c] 36)).alloc (.cells #[.slice a2 l.length p2,V0 c] 36)):=bln (blx _ _) (blx _ _)
 have b1:Blk ((w.alloc (.cells #[.slice a1 l.length p1,V0 c] 36)).alloc (.cells #[.slice a2 l.length p2,V0 c] 36)) w.heap.size [.slice a1 l.length p1,V0 c] 36:=(Blk.new _ _ _).alloc _
 have b2:=Blk.new (w.alloc (.cells #[.slice a1 l.length p1,V0 c] 36)) [.slice a2 l.length p2,V0 c] 36
 simp only[World.size_alloc] at b2
 go_enter Tryz.func12,Tryz.ntmps12
 go_wp2_with fail
 obtain⟨W,hW⟩:∃ W,(w.alloc (.cells #[.slice a1 l.length p1,V0 c] 36)).alloc (.cells #[.slice a2 l.length p2,V0 c] 36)=W:=⟨_,rfl⟩
 change Blk ((w.alloc (.cells #[.slice a1 l.length p1,V0 c] 36)).alloc (.cells #[.slice a2 l.length p2,V0 c] 36)) _ _ _ at b2
 rw[hW] at hB b1 b2 ⊢
 have k1:=k1.below hB
 have k2:=k2.below hB
 clear hW
 go_loopw [5] (fun i wr=>∃ k:Nat,k≤l.length∧i=V0 k∧B3 W wr) (fun i _=>l.length-(intOf i).toNat)
 case atStart=>exact⟨0,by omega,rfl,Below.refl _ _⟩
 case round =>
  obtain⟨k,hk,rfl,a0⟩:=hrel
  have q1:=b1.below a0
  have q2:=b2.below a0
  have c1:=q1.cell (i:=0) rfl
  have c2:=q2.cell (i:=0) rfl
  by_cases hlt:k<l.length
  ·rcases Sl.at (k1.below a0) with h0|⟨g1,o1,rfl,a4⟩
   ·rw[List.map_eq_nil_iff] at h0;subst h0;exact absurd hlt (by simp)
   rcases Sl.at (k2.below a0) with h0|⟨g2,o2,rfl,a3⟩
   ·rw[List.map_eq_nil_iff] at h0;subst h0;exact absurd hlt (by simp)
   have e1:∀ z:Ext wr,z.val.cell? ⟨w.heap.size,0,none⟩=some (.slice (some ⟨g1,o1,none⟩) l.length p1):=fun z=>z.get c1
   have e2:∀ z:Ext wr,z.val.cell? ⟨w.heap.size+1,0,none⟩=some (.slice (some ⟨g2,o2,none⟩) l.length p2):=fun z=>z.get c2
   have e3:∀ z:Ext wr,z.val.cell? ⟨g1,o1+k,none⟩=some (V0 l[k]):=fun z=>z.get (a4 k _ (by simp[hlt]))
   have e4:∀ z:Ext wr,z.val.cell? ⟨g2,o2+k,none⟩=some (V0 l[k]):=fun z=>z.get (a3 k _ (by simp[hlt]))
   have i1:(0:Int)≤(k:Int):=by omega
   have i2:(k:Int)<(l.length:Int):=by omega
   clear a4 a3
   go_wp2_with fail
   refine Zb0 (by kernel_rfl) (by kernel_rfl) ?_
   repeat (go_big_quiet_step (fail))
   refine wpQuiet_nil ?_
   intro wx
   go_wp2_with fail
   exact⟨⟨k+1,by omega,by go_num,bln a0 wx.below⟩,by simp[intOf];omega⟩
  ·go_wp2_with fail
   go_ret
   exact⟨rfl,bln hB a0⟩
end Go.Proofs.YtceeiinepijokaaGreatDoor
namespace Go.Proofs.YtceeiinepijokaaGreatDoor
set_option maxHeartbeats 8000000
set_option maxRecDepth 100000
open Go.RowKit Go.Extern.Stop Go.Stop Go.Extern
set_option linter.unusedVariables false
attribute [local irreducible] wpList wpAnyH Code.wp Oper.wp Go
def Pu(l:Bl)(k:Nat):List Bl:=(List.range k).map (Yx l)
theorem Zcy(l:Bl)(k:Nat):(Pu l k).length=k:=by simp[Pu]
theorem Iz(l:Bl)(k:Nat):Pu l (k+1)=Pu l k++[Yx l k]:=by simp[Pu,List.range_succ]
theorem blksL_get(l:Bl){k i:Nat}(h:i<k):(Pu l k).getD i []=Yx l i:=by simp[Pu,List.getD,List.getElem?_range h]
theorem blkB_take{l:Bl}{i m:Nat}(h:i<m):Yx (l.take (m*256)) i=Yx l i:=by
 unfold Yx
 rw[List.drop_take,List.take_take,Nat.min_eq_left (by omega)]
theorem Zac{l:Bl}{k:Nat}:Pu (l.take (k*256)) k=Pu l k:=List.map_congr_left fun i hi=>blkB_take (List.mem_range.1 hi)
structure RefI(B bm:Nat)(p:Option Addr)(k c:Nat)(l:List UInt8)(w:World):Prop where
 blk:Blk w bm [.slice p k c] 91
 row:w.ownsRow B 9 1 (.slice p k c) k ((Pu l k).map sv)
 hk:k≤14400
 hl:l.length=k*256
theorem RefI.below{B bm:Nat}{p:O0}{k c:Nat}{l:Bl}{w W:World}(h:RefI B bm p k c l w)(hb:B3 w W):RefI B bm p k c l W:=⟨h.blk.below hb,Zb h.row hb,h.hk,h.hl⟩
theorem RefI.only{B bm:Nat}{p:O0}{k c:Nat}{l:Bl}{w W:World}{T:List TypeId}(h:RefI B bm p k c l w)(hO:Zf T w W)(hT:T.contains 91=false∧T.contains 9=false):RefI B bm p k c l W:=⟨h.blk.only hO hT.1,Zj h.row hO hT.2,h.hk,h.hl⟩
theorem RefI.mono{B B' bm:Nat}{p:O0}{k c:Nat}{l:Bl}{w:World}(h:RefI B bm p k c l w)(hB:B'≤B):RefI B' bm p k c l w:=⟨h.blk,Zd h.row hB,h.hk,h.hl⟩
theorem RefI.base{B bm:Nat}{p:O0}{k c:Nat}{l:Bl}{w:World}(h:RefI B bm p k c l w)(hn:0<k):∃ g,p=some ⟨g,0,none⟩:=by
 rcases h.row.2 with ⟨_,h0⟩|⟨g,a1,a0,hv,_,_,hc,_⟩
 ·omega
 ·simp only[Value.slice.injEq] at hv
  obtain⟨rfl,_,rfl⟩:=hv
  exact⟨g,rfl⟩
theorem ref_Of(a:O0)(c:Nat)(l:Bl)(w:World)(h:Bys w (.slice a l.length c) l)(hl:l.length≤100000000) :
 C0 9 #[.slice a l.length c] w (Qe (fun w' r=>∃ bm p c2,r=P0 bm∧w.heap.size≤bm∧RefI w.heap.size bm p (min (l.length/256) 14400) c2 (l.take (min (l.length/256) 14400*256)) w') w):=by
 refine zin 32 Tryz.func9 ?_
 refine xa 8 [S0] 91 fun b1 W1 n1=>?_
 refine zl 5 32 (fun zm d3 V=>∃ (k:Nat) (p:O0) (cp:Nat) (a2:O0) (c2:Nat) (l2:Bl),d3=[(0,.slice a2 l2.length c2),(2,.pointer none),(3,P0 b1)]∧zm=l2.length∧B3 w V∧Blk V b1 ([.slice p k cp]) 91∧V.ownsRow w.heap.size 9 1 (.slice p k cp) k ((Pu l k).map sv)∧Bys w (.slice a2 l2.length c2) l2∧l2=l.drop (k*256)∧k*256≤l.length∧k≤14400) ⟨0,none,0,a,c,l,rfl,rfl,n1.below,n1.blk,World.ownsRow_nil _ _ _ _,h,by simp,by omega,by decide⟩ ?_
 rintro _ _ W2 ⟨k,p,cp,a2,c2,l2,rfl,rfl,a8,a3,ho,b9,b7,e4,e2⟩ J2 d0 r2
 have d4:=b9.cap rfl
 have d8:l2.length=l.length-k*256:=by rw[b7];simp
 refine xg 7 [8,9] (decide ((l2.length:Int)≥(256:Int))) (fun b0=>?_) (fun b0=>?_)
 ·have b0:=of_decide_eq_true b0
  refine xb 3 0 a3 ?_
  refine xid 5 ((k:Int)<(14400:Int)) (fun d9=>?_) (fun d9=>?_)
  ·refine xd 4 (.t w.heap.size [9,91]) ?_
   refine xsH (.e [0,1,2,3,5] 6) (fun _ _ _ _ zo zx zy V=>Vm (k:=256) (b:=a2) (n:=l2.length) (c:=c2) (i:=256) (ki:=.i64) zo zx zy rfl (by omega) Tryz.underlying22 (by kernel_rfl) V) ?_
   have a6:=bln a8 (Za W2)
   refine xcvt (.e [] 7) (.t w.heap.size [9,91]) (fun _ _ _ zo zx V hV=>Yz zo zx ((Bys.take b9 rfl 256 (by omega)).below (Wi a6 hV (Nat.le_refl _))) (by simp;omega) Tryz.underlying22 Tryz.underlying5 Tryz.underlying9) ?_
   refine xm2 0 4 8 ?_ ?_
   ·have a4:=a3.below (Za W2)
    refine xb 0 0 a4 ?_
    refine xbs (.o [] 8) 1 [.string ⟨(l2.take 256).toArray⟩] 9 fun b5 W5 n5=>?_
    have g5:=n5.ge a6
    have b3:=Zb ho (Za W2)
    have c6:=Zn b3 n5
    have a7:=Zb b3 n5.below
    have b4:=bln a6 n5.below
    refine ybi (.o [] 9) (.t w.heap.size [9,91]) fun _ _ _ _ zJ zQ zo zx zy zK=>Zr (m:=1) (news:=[.string ⟨(l2.take 256).toArray⟩]) (.string ⟨#[]⟩) 1 16 (k+1) ((Pu l (k+1)).map sv) zo Tryz.underlying89 (by kernel_rfl) rfl (by decide) zx a7 zy (n5.blk.sl 1 1 (by decide) (by decide)) rfl (by simp[Value.oneCell']) (by unfold maxLen;omega) (by omega) b4.size (by rfl) (by rw[Iz,List.map_append,show Yx l k=l2.take 256 from by rw[b7];rfl];rfl) fun e1 d6 W6 o6 d2 d1=>?_
    refine zK _ _ (Zx d1 d2 a7 (by decide)) ?_
    have a1:=(a4.below n5.below).grown d2 a7 (by decide)
    have g1:=n1.ge (B4 w)
    refine ys (.o [10,11] 12) a1 [.slice e1 (k+1) d6] (.t w.heap.size [9,91]) fun W7 u7 k7=>⟨(Zl u7 a1 g1 (by decide)),?_⟩
    refine xsL 4 (fun _ _ _ _ zo zx zy V=>Xv (k:=256) (b:=a2) (n:=l2.length) (c:=c2) (i:=256) (ki:=.i64) 1 zo zx zy rfl (by omega) Tryz.underlying22 (by kernel_rfl) V) ?_
    refine xv1 3 0 (show(.slice (Qu a2 256 c2 1) (l2.length-256) (c2-256):Value)=.slice (Qu a2 256 c2 1) ((l2.drop 256).length) (c2-256) from by rw[List.length_drop]) ?_
    have c3:=u7.below (b4.trans d1) g1
    have c4:=u7.own2 o6 a1 (by decide)
    refine ze 0 (d0 _ _ _ ⟨k+1,_,_,_,_,(l2.drop 256),rfl,rfl,c3,k7,c4,(by have:=Bys.cut b9 rfl 256 l2.length (by omega) (Nat.le_refl _);rw[List.take_of_length_le (by simp)] at this;rwa [show(l2.drop 256).length=l2.length-256 by simp]),by rw[b7,List.drop_drop,Nat.add_mul,Nat.one_mul],by omega,by omega⟩ ?_)
    show((l2.drop 256).length)<l2.length
    rw[List.length_drop];omega
   refine xbs 0 1 [.string ⟨(l2.take 256).toArray⟩] 9 fun b8 W8 n8=>?_
   have g8:=n8.ge a6
   have b2:=Zb ho (Za W2)
   have c8:=Zn b2 n8
   have a5:=(a3.below (Za W2)).below n8.below
   refine xb (.o [] 4) 0 a5 ?_
   have a9:=Zb b2 n8.below
   have b6:=bln a6 n8.below
   refine ybi (.o [] 9) (.t w.heap.size [9,91]) fun _ _ _ _ zJ zQ zo zx zy zK=>Zr (m:=1) (news:=[.string ⟨(l2.take 256).toArray⟩]) (.string ⟨#[]⟩) 1 16 (k+1) ((Pu l (k+1)).map sv) zo Tryz.underlying89 (by kernel_rfl) rfl (by decide) zx a9 zy (n8.blk.sl 1 1 (by decide) (by decide)) rfl (by simp[Value.oneCell']) (by unfold maxLen;omega) (by omega) b6.size (by rfl) (by rw[Iz,List.map_append,show Yx l k=l2.take 256 from by rw[b7];rfl];rfl) fun d7 e0 W9 o9 c7 c9=>?_
   refine zK _ _ (Zx c9 c7 a9 (by decide)) ?_
   have a0:=a5.grown c7 a9 (by decide)
   have g1:=n1.ge (B4 w)
   refine ys (.o [10,11] 12) a0 [.slice d7 (k+1) e0] (.t w.heap.size [9,91]) fun e3 c0 d5=>⟨(Zl c0 a0 g1 (by decide)),?_⟩
   refine xsL 4 (fun _ _ _ _ zo zx zy V=>Xv (k:=256) (b:=a2) (n:=l2.length) (c:=c2) (i:=256) (ki:=.i64) 1 zo zx zy rfl (by omega) Tryz.underlying22 (by kernel_rfl) V) ?_
   refine xv1 3 0 (show(.slice (Qu a2 256 c2 1) (l2.length-256) (c2-256):Value)=.slice (Qu a2 256 c2 1) ((l2.drop 256).length) (c2-256) from by rw[List.length_drop]) ?_
   have c5:=c0.below (b6.trans c9) g1
   have c1:=c0.own2 o9 a0 (by decide)
   refine ze 0 (d0 _ _ _ ⟨k+1,_,_,_,_,(l2.drop 256),rfl,rfl,c5,d5,c1,(by have:=Bys.cut b9 rfl 256 l2.length (by omega) (Nat.le_refl _);rw[List.take_of_length_le (by simp)] at this;rwa [show(l2.drop 256).length=l2.length-256 by simp]),by rw[b7,List.drop_drop,Nat.add_mul,Nat.one_mul],by omega,by omega⟩ ?_)
   show((l2.drop 256).length)<l2.length
   rw[List.length_drop];omega
  have g1:=n1.ge (B4 w)
  refine xe 12 (P0 b1) ?_
  obtain rfl:k=min (l.length/256) 14400:=by omega
  exact⟨_,rfl,a8,_,_,_,rfl,g1,a3,by rw[Zac];exact ho,by omega,by simp;omega⟩
 have b0:=of_decide_eq_false b0
 have g1:=n1.ge (B4 w)
 refine xe 22 (P0 b1) ?_
 obtain rfl:k=min (l.length/256) 14400:=by omega
 exact⟨_,rfl,a8,_,_,_,rfl,g1,a3,by rw[Zac];exact ho,by omega,by simp;omega⟩
def Gr(no er:Int):List Int:=if er=0 then [] else [no]
theorem Cx{no er:Int}(h:er≠0):Gr no er=[no]:=if_neg h
theorem ref05_At_z(no:Int)(w:World) :
 C0 83 #[V0 no,.agg #[S0,V0 0]] w (Ret (.agg #[S0,V0 0]) w):=by
 refine zin 17 Tryz.func83 ?_
 refine xa 2 [S0,V0 0] 36 fun b1 W1 n1=>?_
 refine xa 0 [S0,V0 0] 36 fun b2 W2 n2=>?_
 have a1:=n2.ne n1.blk
 have a0:=n1.blk.below n2.below
 refine xb 6 1 a0 ?_
 refine xsv 7 n2.blk [S0,V0 0] fun W3 u3 k3=>?_
 have g2:=n2.ge n1.below
 have hB:=u3.below (bln n1.below n2.below) g2
 exact xec 4 k3 (.agg #[S0,V0 0]) ⟨rfl,hB⟩
theorem ref05_At_n(no er:Int)(w:World)(he:er≠0) :
 C0 83 #[V0 no,.agg #[S0,V0 er]] w (Qe (fun w' r=>∃ a c,r=.agg #[.slice a 1 c,V0 er]∧w'.ownsRow w.heap.size 3 1 (.slice a 1 c) 1 [V0 no]) w):=by
 refine zin 17 Tryz.func83 ?_
 refine xa 2 [S0,V0 er] 36 fun b1 W1 n1=>?_
 refine xa 0 [S0,V0 0] 36 fun b2 W2 n2=>?_
 have h8:=n2.ne n1.blk
 have a0:=n1.blk.below n2.below
 refine xb 6 1 a0 ?_
 refine xk 3 (show((er==(0:Int)):Bool)=false from beq_false_of_ne he) ?_
 refine xd 3 (.t w.heap.size [3,36]) ?_
 refine xm3 (.b [0,2,5]) 1 3 6 ?_ ?_ ?_
 ·refine xbs 0 1 [V0 no] 3 fun b3 W3 n3=>?_
  refine xm2 0 3 6 ?_ ?_
  ·have a5:=(a0.below (Za W2)).below n3.below
   refine xb 0 0 a5 ?_
   refine xm2 0 4 6 ?_ ?_
   ·have g3:=n3.ge (bln (bln n1.below n2.below) (Za W2))
    have o4:=Xb (size:=1) (n:=1) n3.blk g3 rfl (by decide)
    have hB:=bln (bln (bln n1.below n2.below) (Za W2)) n3.below
    refine ybi 0 (.t w.heap.size [3,36]) fun _ _ _ _ zJ zQ zo zx zy zK=>Zr (m:=0) (news:=[]) (V0 0) 1 8 (1) ([V0 no]) zo Tryz.underlying34 (by kernel_rfl) rfl (by decide) zx o4 zy (.inl ⟨none,0,rfl,rfl,rfl⟩) rfl (by simp) (by unfold maxLen;omega) (by omega) hB.size (by rfl) (by rfl) fun h4 h5 W5 o5 f2 h6=>?_
    refine zK _ _ (Zx h6 f2 o4 (by decide)) ?_
    have f9:=a5.grown f2 o4 (by decide)
    refine xb (.o [] 6) 1 f9 ?_
    have k2:=((n2.blk.below (Za W2)).below n3.below).grown f2 o4 (by decide)
    have g2:=n2.ge n1.below
    refine ysv (.o [7] 8) k2 [.slice h4 1 h5,V0 er] (.t w.heap.size [3,36]) fun W6 u6 k6=>⟨(Zl u6 k2 g2 (by decide)),?_⟩
    have e4:=u6.below (hB.trans h6) g2
    have h1:=u6.own2 o5 k2 (by decide)
    exact xec 3 k6 (.agg #[.slice h4 1 h5,V0 er]) ⟨_,rfl,e4,_,_,rfl,h1⟩
   refine xb 0 1 a5 ?_
   have g3:=n3.ge (bln (bln n1.below n2.below) (Za W2))
   have o7:=Xb (size:=1) (n:=1) n3.blk g3 rfl (by decide)
   have hB:=bln (bln (bln n1.below n2.below) (Za W2)) n3.below
   refine ybi (.o [] 4) (.t w.heap.size [3,36]) fun _ _ _ _ zJ zQ zo zx zy zK=>Zr (m:=0) (news:=[]) (V0 0) 1 8 (1) ([V0 no]) zo Tryz.underlying34 (by kernel_rfl) rfl (by decide) zx o7 zy (.inl ⟨none,0,rfl,rfl,rfl⟩) rfl (by simp) (by unfold maxLen;omega) (by omega) hB.size (by rfl) (by rfl) fun h3 i0 W8 o8 h7 h9=>?_
   refine zK _ _ (Zx h9 h7 o7 (by decide)) ?_
   have k2:=((n2.blk.below (Za W2)).below n3.below).grown h7 o7 (by decide)
   have g2:=n2.ge n1.below
   refine ysv (.o [7] 8) k2 [.slice h3 1 i0,V0 er] (.t w.heap.size [3,36]) fun W9 u9 k9=>⟨(Zl u9 k2 g2 (by decide)),?_⟩
   have e7:=u9.below (hB.trans h9) g2
   have g0:=u9.own2 o8 k2 (by decide)
   exact xec 3 k9 (.agg #[.slice h3 1 i0,V0 er]) ⟨_,rfl,e7,_,_,rfl,g0⟩
  have a8:=(a0.below (Za W2)).below n3.below
  refine xb 0 1 a8 ?_
  refine xb (.o [] 3) 0 a8 ?_
  have g3:=n3.ge (bln (bln n1.below n2.below) (Za W2))
  have g9:=Xb (size:=1) (n:=1) n3.blk g3 rfl (by decide)
  have hB:=bln (bln (bln n1.below n2.below) (Za W2)) n3.below
  refine ybi (.o [] 4) (.t w.heap.size [3,36]) fun _ _ _ _ zJ zQ zo zx zy zK=>Zr (m:=0) (news:=[]) (V0 0) 1 8 (1) ([V0 no]) zo Tryz.underlying34 (by kernel_rfl) rfl (by decide) zx g9 zy (.inl ⟨none,0,rfl,rfl,rfl⟩) rfl (by simp) (by unfold maxLen;omega) (by omega) hB.size (by rfl) (by rfl) fun b7 c8 j7 i2 a7 d2=>?_
  refine zK _ _ (Zx d2 a7 g9 (by decide)) ?_
  have k2:=((n2.blk.below (Za W2)).below n3.below).grown a7 g9 (by decide)
  have g2:=n2.ge n1.below
  refine ysv (.o [7] 8) k2 [.slice b7 1 c8,V0 er] (.t w.heap.size [3,36]) fun k4 e8 i4=>⟨(Zl e8 k2 g2 (by decide)),?_⟩
  have e5:=e8.below (hB.trans d2) g2
  have c2:=e8.own2 i2 k2 (by decide)
  exact xec 3 i4 (.agg #[.slice b7 1 c8,V0 er]) ⟨_,rfl,e5,_,_,rfl,c2⟩
 ·have a2:=a0.below (Za W2)
  refine xb 0 0 a2 ?_
  refine xm2 0 1 6 ?_ ?_
  ·refine xbs 0 1 [V0 no] 3 fun k7 j8 a1=>?_
   refine xm2 0 4 6 ?_ ?_
   ·have f4:=a1.ge (bln (bln n1.below n2.below) (Za W2))
    have e0:=Xb (size:=1) (n:=1) a1.blk f4 rfl (by decide)
    have hB:=bln (bln (bln n1.below n2.below) (Za W2)) a1.below
    refine ybi 0 (.t w.heap.size [3,36]) fun _ _ _ _ zJ zQ zo zx zy zK=>Zr (m:=0) (news:=[]) (V0 0) 1 8 (1) ([V0 no]) zo Tryz.underlying34 (by kernel_rfl) rfl (by decide) zx e0 zy (.inl ⟨none,0,rfl,rfl,rfl⟩) rfl (by simp) (by unfold maxLen;omega) (by omega) hB.size (by rfl) (by rfl) fun b9 d8 l6 j2 a3 b4=>?_
    refine zK _ _ (Zx b4 a3 e0 (by decide)) ?_
    have f3:=(a2.below a1.below).grown a3 e0 (by decide)
    refine xb (.o [] 6) 1 f3 ?_
    have k2:=((n2.blk.below (Za W2)).below a1.below).grown a3 e0 (by decide)
    have g2:=n2.ge n1.below
    refine ysv (.o [7] 8) k2 [.slice b9 1 d8,V0 er] (.t w.heap.size [3,36]) fun l0 e9 i1=>⟨(Zl e9 k2 g2 (by decide)),?_⟩
    have f5:=e9.below (hB.trans b4) g2
    have c1:=e9.own2 j2 k2 (by decide)
    exact xec 3 i1 (.agg #[.slice b9 1 d8,V0 er]) ⟨_,rfl,f5,_,_,rfl,c1⟩
   have f0:=a2.below a1.below
   refine xb 0 1 f0 ?_
   have f4:=a1.ge (bln (bln n1.below n2.below) (Za W2))
   have f7:=Xb (size:=1) (n:=1) a1.blk f4 rfl (by decide)
   have hB:=bln (bln (bln n1.below n2.below) (Za W2)) a1.below
   refine ybi (.o [] 4) (.t w.heap.size [3,36]) fun _ _ _ _ zJ zQ zo zx zy zK=>Zr (m:=0) (news:=[]) (V0 0) 1 8 (1) ([V0 no]) zo Tryz.underlying34 (by kernel_rfl) rfl (by decide) zx f7 zy (.inl ⟨none,0,rfl,rfl,rfl⟩) rfl (by simp) (by unfold maxLen;omega) (by omega) hB.size (by rfl) (by rfl) fun c9 d3 l1 i3 d0 a6=>?_
   refine zK _ _ (Zx a6 d0 f7 (by decide)) ?_
   have k2:=((n2.blk.below (Za W2)).below a1.below).grown d0 f7 (by decide)
   have g2:=n2.ge n1.below
   refine ysv (.o [7] 8) k2 [.slice c9 1 d3,V0 er] (.t w.heap.size [3,36]) fun l7 e6 i7=>⟨(Zl e6 k2 g2 (by decide)),?_⟩
   have g1:=e6.below (hB.trans a6) g2
   have c4:=e6.own2 i3 k2 (by decide)
   exact xec 3 i7 (.agg #[.slice c9 1 d3,V0 er]) ⟨_,rfl,g1,_,_,rfl,c4⟩
  refine xb 0 1 a2 ?_
  refine xbs (.o [] 1) 1 [V0 no] 3 fun l3 l5 e1=>?_
  have i9:=e1.ge (bln (bln n1.below n2.below) (Za W2))
  have f8:=Xb (size:=1) (n:=1) e1.blk i9 rfl (by decide)
  have hB:=bln (bln (bln n1.below n2.below) (Za W2)) e1.below
  refine ybi (.o [] 4) (.t w.heap.size [3,36]) fun _ _ _ _ zJ zQ zo zx zy zK=>Zr (m:=0) (news:=[]) (V0 0) 1 8 (1) ([V0 no]) zo Tryz.underlying34 (by kernel_rfl) rfl (by decide) zx f8 zy (.inl ⟨none,0,rfl,rfl,rfl⟩) rfl (by simp) (by unfold maxLen;omega) (by omega) hB.size (by rfl) (by rfl) fun d7 d6 k5 i8 b0 a9=>?_
  refine zK _ _ (Zx a9 b0 f8 (by decide)) ?_
  have k2:=((n2.blk.below (Za W2)).below e1.below).grown b0 f8 (by decide)
  have g2:=n2.ge n1.below
  refine ysv (.o [7] 8) k2 [.slice d7 1 d6,V0 er] (.t w.heap.size [3,36]) fun k0 g7 i5=>⟨(Zl g7 k2 g2 (by decide)),?_⟩
  have h0:=g7.below (hB.trans a9) g2
  have b8:=g7.own2 i8 k2 (by decide)
  exact xec 3 i5 (.agg #[.slice d7 1 d6,V0 er]) ⟨_,rfl,h0,_,_,rfl,b8⟩
 have a4:=a0.below (Za W2)
 refine xb 0 1 a4 ?_
 refine xm2 0 1 3 ?_ ?_
 ·refine xbs 0 1 [V0 no] 3 fun j6 k8 c3=>?_
  have g6:=a4.below c3.below
  refine xb (.o [] 3) 0 g6 ?_
  have i6:=c3.ge (bln (bln n1.below n2.below) (Za W2))
  have h2:=Xb (size:=1) (n:=1) c3.blk i6 rfl (by decide)
  have hB:=bln (bln (bln n1.below n2.below) (Za W2)) c3.below
  refine ybi (.o [] 4) (.t w.heap.size [3,36]) fun _ _ _ _ zJ zQ zo zx zy zK=>Zr (m:=0) (news:=[]) (V0 0) 1 8 (1) ([V0 no]) zo Tryz.underlying34 (by kernel_rfl) rfl (by decide) zx h2 zy (.inl ⟨none,0,rfl,rfl,rfl⟩) rfl (by simp) (by unfold maxLen;omega) (by omega) hB.size (by rfl) (by rfl) fun c7 b5 k1 j0 c5 c0=>?_
  refine zK _ _ (Zx c0 c5 h2 (by decide)) ?_
  have k2:=((n2.blk.below (Za W2)).below c3.below).grown c5 h2 (by decide)
  have g2:=n2.ge n1.below
  refine ysv (.o [7] 8) k2 [.slice c7 1 b5,V0 er] (.t w.heap.size [3,36]) fun l2 g8 j5=>⟨(Zl g8 k2 g2 (by decide)),?_⟩
  have f1:=g8.below (hB.trans c0) g2
  have d1:=g8.own2 j0 k2 (by decide)
  exact xec 3 j5 (.agg #[.slice c7 1 b5,V0 er]) ⟨_,rfl,f1,_,_,rfl,d1⟩
 refine xb 0 0 a4 ?_
 refine xbs (.o [] 1) 1 [V0 no] 3 fun l4 l8 e2=>?_
 have j3:=e2.ge (bln (bln n1.below n2.below) (Za W2))
 have f6:=Xb (size:=1) (n:=1) e2.blk j3 rfl (by decide)
 have hB:=bln (bln (bln n1.below n2.below) (Za W2)) e2.below
 refine ybi (.o [] 4) (.t w.heap.size [3,36]) fun _ _ _ _ zJ zQ zo zx zy zK=>Zr (m:=0) (news:=[]) (V0 0) 1 8 (1) ([V0 no]) zo Tryz.underlying34 (by kernel_rfl) rfl (by decide) zx f6 zy (.inl ⟨none,0,rfl,rfl,rfl⟩) rfl (by simp) (by unfold maxLen;omega) (by omega) hB.size (by rfl) (by rfl) fun c6 d9 k3 j1 d4 d5=>?_
 refine zK _ _ (Zx d5 d4 f6 (by decide)) ?_
 have k2:=((n2.blk.below (Za W2)).below e2.below).grown d4 f6 (by decide)
 have g2:=n2.ge n1.below
 refine ysv (.o [7] 8) k2 [.slice c6 1 d9,V0 er] (.t w.heap.size [3,36]) fun j9 g5 j4=>⟨(Zl g5 k2 g2 (by decide)),?_⟩
 have e3:=g5.below (hB.trans d5) g2
 have b6:=g5.own2 j1 k2 (by decide)
 exact xec 3 j4 (.agg #[.slice c6 1 d9,V0 er]) ⟨_,rfl,e3,_,_,rfl,b6⟩
def FltO(no er:Int)(w:World)(e:Ending)(w':World):Prop:=∃ a c,e=.returned (.agg #[.slice a (Gr no er).length c,V0 er])∧B3 w w'∧w'.ownsRow w.heap.size 3 1 (.slice a (Gr no er).length c) (Gr no er).length ((Gr no er).map V0)
theorem ref05_AtP(no er:Int)(w:World):C0 83 #[V0 no,.agg #[S0,V0 er]] w (FltO no er w):=by
 by_cases he:er=0
 ·subst he
  refine(ref05_At_z no w).mono ?_
  rintro e W ⟨rfl,hb⟩
  exact⟨none,0,rfl,hb,World.ownsRow_nil _ _ _ _⟩
 ·refine(ref05_At_n no er w he).mono ?_
  rintro e W ⟨_,rfl,hb,a,c,rfl,ho⟩
  rw[FltO,Cx he]
  exact⟨a,c,rfl,hb,ho⟩
theorem Ws(no er:Int)(w:World) :
 C0 38 #[V0 no,V0 er] w (FltO no er w):=by
 refine zin 9 Tryz.func38 ?_
 refine xa 2 [S0,V0 0] 36 fun b1 W1 n1=>?_
 refine xc 7 (args:=#[V0 no,.agg #[S0,V0 er]]) (ref05_AtP no er _) ?_
 rintro _ W2 ⟨a5,c5,rfl,a1,a2⟩
 have k1:=n1.blk.below a1
 refine xsv 0 k1 [.slice a5 ((Gr no er).length) c5,V0 er] fun W3 u3 k3=>?_
 have g1:=n1.ge (B4 w)
 have hB:=u3.below (bln n1.below a1) g1
 have a0:=u3.own2 (Zd a2 n1.below.size) k1 (by decide)
 exact xec 3 k3 (.agg #[.slice a5 ((Gr no er).length) c5,V0 er]) ⟨_,_,rfl,hB,a0⟩
theorem raw1(l:Bl)(k:Nat):Zg l k 1=(l.getD k 0).toNat:=by simp[Zg]
theorem raw2(l:Bl)(k:Nat):Zg l k 2=(l.getD k 0).toNat+256*(l.getD (k+1) 0).toNat:=by simp[Zg]
theorem BysM.elem{w:World}{a:O0}{n c:Nat}{l:Bl}(h:Bys w (.slice a n c) l)(hl:l.length=n){k:Nat}(hk:k<n):a.isSome=true∧w.cell? (Xd a (k*1))=some (.int .u8 (↑(l.getD k 0).toNat:Int)):=by
 subst hl;exact Bys.elem h hk
theorem slN_of{w:World}{v:Value}{n:Nat}{l:Bl}(h:Bys w v l)(hl:l.length=n):Sl w v n (l.map bv):=by subst hl;exact h
theorem Zai{l:Bl}{k m n:Nat}(h:l.length=n)(hk:k≤m)(hm:m≤n):((l.drop k).take (m-k)).length=m-k:=by simp;omega
theorem ask_sum{kind no:Int}{l:Bl}(hl:l.length=256):(!(((l.drop 252).take 4)==leB ((Ed l kind:Nat):Int) 4))=Hx kind no l 2:=by
 have h1:=Ze6 (l:=l) (k:=252) (w:=4) (by omega)
 have hs:Ed l kind<256 ^ 4:=by
  have:=Nat.xor_lt_two_pow (n:=32) (Uk (l.take 252)) (Ci kind)
  unfold Ed;exact this
 have hr:=Rv l 4 252
 show _=((Zg l 252 4:Int) != (Ed l kind:Int))
 rw[←h1]
 by_cases e:Zg l 252 4=Ed l kind
 ·rw[e];simp
 ·have e2:leB (Zg l 252 4:Int) 4≠leB (Ed l kind:Int) 4:=fun h=>e (leB_inj hr hs h)
  rw[beq_false_of_ne e2,bne_iff_ne.2 (by omega)];rfl
theorem Zfh(kind no:Int)(a:O0)(c:Nat)(l:Bl)(w:World)(hl:l.length≠256)(h:Bys w (.slice a l.length c) l) :
 C0 127 #[.slice a l.length c,V0 kind,V0 no] w (OpenP kind no l w):=by
 refine zin 61 Tryz.func127 ?_
 refine xr 11 (args:=#[V0 kind,V0 no]) (Zcc kind no _) fun W1 a2=>?_
 refine xi 3 (!(Km kind no)) (fun a0=>?_) (fun a0=>?_)
 ·have a1:Hx kind no l 0=true:=a0
  refine xe 8 (.tuple #[S0,V0 1]) ?_
  have he:Yg kind no l=1:=by simp[Yg,a1]
  exact .inl ⟨by rw[he];decide,by rw[he],a2⟩
 have a1:Hx kind no l 0=false:=a0
 have a4:Km kind no=true:=by simpa using a0
 refine xk 10 (show(((l.length:Int) != (256:Int)):Bool)=true from bne_iff_ne.2 (by omega)) ?_
 refine xe 8 (.tuple #[S0,V0 7]) ?_
 have a3:Hx kind no l 1=true:=bne_iff_ne.2 (by omega)
 have he:Yg kind no l=7:=by simp[Yg,a1,a3]
 exact .inl ⟨by rw[he];decide,by rw[he],a2⟩
theorem Zcb(kind no:Int)(a:O0)(c:Nat)(l:Bl)(w:World)(hl256:l.length=256)(h:Bys w (.slice a 256 c) l) :
 C0 127 #[.slice a 256 c,V0 kind,V0 no] w (OpenP kind no l w):=by
 have d7:=h.cap hl256
 have a8:Hx kind no l 1=false:=bne_eq_false_iff_eq.2 (by rw[hl256];rfl)
 refine zin 61 Tryz.func127 ?_
 refine xr 11 (args:=#[V0 kind,V0 no]) (Zcc kind no _) fun W1 d5=>?_
 refine xi 3 (!(Km kind no)) (fun b4=>?_) (fun b4=>?_)
 ·have a2:Hx kind no l 0=true:=b4
  refine xe 8 (.tuple #[S0,V0 1]) ?_
  have he:Yg kind no l=1:=by simp[Yg,a2]
  exact .inl ⟨by rw[he];decide,by rw[he],d5⟩
 have a2:Hx kind no l 0=false:=b4
 have d3:Km kind no=true:=by simpa using b4
 refine xd 15 .z ?_
 refine xsL (.e [0] 1) (fun _ _ _ _ zo zx zy V=>Xv (k:=252) (b:=a) (n:=256) (c:=c) (i:=252) (ki:=.i64) 1 zo zx zy rfl (by omega) Tryz.underlying22 (by kernel_rfl) V) ?_
 have hB:=bln d5 (Za W1)
 refine xcv (.e [] 2) (fun _ _ _ zo zx V hV=>Yz zo zx ((Bys.cut h hl256 252 256 (by decide) (Nat.le_refl _)).below (bln hB hV)) (Zai (m:=256) hl256 (by decide) (by decide)) Tryz.underlying22 Tryz.underlying5 Tryz.underlying9) ?_
 refine xsH (.e [3] 4) (fun _ _ _ _ zo zx zy V=>Vm (k:=252) (b:=a) (n:=256) (c:=c) (i:=252) (ki:=.i64) zo zx zy rfl (by omega) Tryz.underlying22 (by kernel_rfl) V) ?_
 refine xr (.o [6] 5) (args:=#[.slice a 252 c]) (ref_SumN a 252 c (l.take 252) _ (by simp;omega) (by decide) ((Bys.take h hl256 252 (by omega)).below hB)) fun W3 b7=>?_
 refine xr (.o [] 7) (args:=#[V0 kind]) (ref_Salt kind (Ok d3).1 (Ok d3).2.1 _) fun W4 d0=>?_
 refine xq (.e [] 8) (congrArg V0 (show(IntKind.i64.wrap (↑(BitVec.ofInt 64 (↑(Gg (l.take 252)):Int) ^^^ BitVec.ofInt 64 (↑(Mg kind):Int)).toNat:Int):Int)=(↑(Ed l kind):Int) from Sr (Uk (l.take 252)) (Ci kind))) ?_
 refine yc (.o [] 9) (args:=#[V0 (↑(Ed l kind):Int),V0 4]) .z (De (↑(Ed l kind):Int) 4 4 _ (Int.natCast_nonneg _) (by have:=Nat.xor_lt_two_pow (n:=32) (Uk (l.take 252)) (Ci kind);unfold Ed;omega) rfl (by decide)) ?_
 rintro _ W5 ⟨_,rfl,d2,p4,c4,rfl,h4⟩
 have d8:=(bln (bln hB b7) d0).size
 refine⟨d2,?_⟩
 have b0:=Zd h4 d8
 refine xcv (.e [] 10) (fun _ _ _ zo zx V hV=>Yz zo zx (Yk (Ze (Zb b0 hV)) (Zi _ _)) (Zi _ _) Tryz.underlying22 Tryz.underlying5 Tryz.underlying9) ?_
 refine xi (.r [11] 2) (!((⟨((l.drop 252).take 4).toArray⟩:ByteArray).toList==(⟨(leB (↑(Ed l kind):Int) 4).toArray⟩:ByteArray).toList)) (fun c5=>?_) (fun c5=>?_)
 ·have a5:Hx kind no l 2=true:=by rw[←ask_sum hl256,←Wk];exact c5
  have b6:=bln (bln (bln hB b7) d0) d2
  refine xe 8 (.tuple #[S0,V0 4]) ?_
  have he:Yg kind no l=4:=by simp[Yg,a2,a8,a5]
  exact .inl ⟨by rw[he];decide,by rw[he],b6⟩
 have a5:Hx kind no l 2=false:=by rw[←ask_sum hl256,←Wk];exact c5
 have a3:=bln (bln (bln hB b7) d0) d2
 refine xr 5 (args:=#[.slice a 256 c,V0 0,V0 4]) (Cd a 256 c 0 4 0 4 l _ hl256 rfl rfl (by decide) (by decide) (by decide) (h.below a3)) fun W7 c2=>?_
 refine xin 15 (↑(Zg l 0 4):Int) no (fun c6=>?_) (fun c6=>?_)
 ·have a9:Hx kind no l 3=true:=bne_iff_ne.2 c6
  have b8:=bln a3 c2
  refine xe 8 (.tuple #[S0,V0 5]) ?_
  have he:Yg kind no l=5:=by simp[Yg,a2,a8,a5,a9]
  exact .inl ⟨by rw[he];decide,by rw[he],b8⟩
 have a9:Hx kind no l 3=false:=bne_eq_false_iff_eq.2 c6
 have a4:=bln a3 c2
 refine xr 5 (args:=#[.slice a 256 c,V0 4,V0 2]) (Cd a 256 c 4 2 4 2 l _ hl256 rfl rfl (by decide) (by decide) (by decide) (h.below a4)) fun W9 c9=>?_
 refine xin 15 (↑(Zg l 4 2):Int) kind (fun a6=>?_) (fun a6=>?_)
 ·have b2:Hx kind no l 4=true:=bne_iff_ne.2 a6
  have c1:=bln a4 c9
  refine xe 8 (.tuple #[S0,V0 6]) ?_
  have he:Yg kind no l=6:=by simp[Yg,a2,a8,a5,a9,b2]
  exact .inl ⟨by rw[he];decide,by rw[he],c1⟩
 have b2:Hx kind no l 4=false:=bne_eq_false_iff_eq.2 a6
 refine xx 6 _ 256 6 1 (BysM.elem h hl256 (k:=6) (by omega)).1 ?_
 have a0:=bln a4 c9
 refine xl 0 ((BysM.elem (h.below a0) hl256 (k:=6) (by omega)).2) ?_
 refine xg 2 [50,51] ((↑(l.getD 6 0).toNat:Int) != (0:Int)) (fun a1=>?_) (fun a1=>?_)
 ·have a1:=Jf a1
  refine xe 16 (.tuple #[S0,V0 7]) ?_
  have b1:Hx kind no l 5=true:=bne_iff_ne.2 (by have d4:Zg l 6 2=(l.getD 6 0).toNat+256*(l.getD 7 0).toNat:=raw2 l 6;omega)
  have he:Yg kind no l=7:=by simp[Yg,a2,a8,a5,a9,b2,b1]
  exact .inl ⟨by rw[he];decide,by rw[he],a0⟩
 have a1:=Yb a1
 refine xx 1 _ 256 7 1 (BysM.elem h hl256 (k:=7) (by omega)).1 ?_
 refine xl 0 ((BysM.elem (h.below a0) hl256 (k:=7) (by omega)).2) ?_
 refine xin 4 (↑(l.getD 7 0).toNat:Int) (0:Int) (fun c0=>?_) (fun c0=>?_)
 ·refine xe 8 (.tuple #[S0,V0 7]) ?_
  have b1:Hx kind no l 5=true:=bne_iff_ne.2 (by have d4:Zg l 6 2=(l.getD 6 0).toNat+256*(l.getD 7 0).toNat:=raw2 l 6;omega)
  have he:Yg kind no l=7:=by simp[Yg,a2,a8,a5,a9,b2,b1]
  exact .inl ⟨by rw[he];decide,by rw[he],a0⟩
 refine xb0 4 5 fun e2 e4 b3=>?_
 have d9:=b3.ge a0
 have c8:=Zb (Zb b0 c2) c9
 have d1:=Zn c8 b3
 refine xsB 1 (fun _ _ _ _ _ zo zx zy zz V=>Yv (k:=8) (h:=252) (b:=a) (n:=256) (c:=c) (i:=8) (ki:=.i64) (j:=252) (kj:=.i64) 1 zo zx zy rfl zz rfl (by omega) (by omega) Tryz.underlying22 (by kernel_rfl) V) ?_
 have e0:=Xb (size:=1) (n:=0) b3.blk d9 rfl (by decide)
 have a7:=bln a0 b3.below
 refine xbi 0 fun _ _ _ _ zJ zQ zo zx zy zK=>Zr (m:=(252-8)) (news:=(((l.drop 8).take (252-8)).map bv)) (.int .u8 0) 1 1 (244) ((((l.drop 8).take 244).map bv)) zo Tryz.underlying22 (by kernel_rfl) rfl (by decide) zx e0 zy (slN_of ((Bys.cut h hl256 8 252 (by decide) (by decide)).below a7) (by simp;omega)) (by simp;omega) (Qk _) (by unfold maxLen;omega) (by omega) a7.size (by rfl) (by rfl) fun c7 b9 e3 e1 d6 c3=>?_
 refine zK _ _ ?_
 have b5:=a7.trans c3
 refine xe 5 (.tuple #[.slice c7 244 b9,V0 0]) ?_
 have b1:Hx kind no l 5=false:=by have d4:Zg l 6 2=(l.getD 6 0).toNat+256*(l.getD 7 0).toNat:=raw2 l 6;exact bne_eq_false_iff_eq.2 (by omega)
 exact .inr ⟨by simp[Yg,a2,a8,a5,a9,b2,b1],_,_,rfl,b5,e1⟩
theorem ref_Open(kind no:Int)(a:O0)(n c:Nat)(l:Bl)(w:World)(hn:l.length=n)(h:Bys w (.slice a n c) l):C0 127 #[.slice a n c,V0 kind,V0 no] w (OpenP kind no l w):=by
 by_cases hl:l.length=256
 ·obtain rfl:n=256:=by omega
  exact Zcb kind no a c l w hl h
 ·subst hn;exact Zfh kind no a c l w hl h
theorem Rz(B bm:Nat)(p:O0)(k c:Nat)(l:Bl)(w:World)(hI:RefI B bm p k c l w)(no:Int)(ho:¬ (0≤no∧no<(k:Int))) :
 C0 126 #[P0 bm,V0 no] w (Ret (.tuple #[S0,V0 3]) w):=by
 have hk:=hI.blk
 have a1:=hI.hk
 have a2:=hI.hl
 refine zin 25 Tryz.func126 ?_
 refine xg 12 [7,8] (decide (no<(0:Int))) (fun a0=>?_) (fun a0=>?_)
 ·have a0:=of_decide_eq_true a0
  exact xe 19 (.tuple #[S0,V0 3]) ⟨rfl,(B4 w)⟩
 have a0:=of_decide_eq_false a0
 refine xb 4 0 hk ?_
 refine xk 5 (show(decide (no≥(k:Int)):Bool)=true from decide_eq_true (by omega)) ?_
 exact xe 8 (.tuple #[S0,V0 3]) ⟨rfl,(B4 w)⟩
theorem Ig(B bm:Nat)(p:O0)(k c:Nat)(l:Bl)(w:World)(hI:RefI B bm p k c l w)(j:Nat)(hj:j<k) :
 C0 126 #[P0 bm,V0 (j:Int)] w (Qe (fun w' r=>∃ b c2,r=.tuple #[.slice (S1 b) 256 c2,V0 0]∧Bys w' (.slice (S1 b) 256 c2) (Yx l j)) w):=by
 have hk:=hI.blk
 have a4:=hI.hk
 have a5:=hI.hl
 have hr:=Ze hI.row
 have a1:(Pu l k).getD j []=Yx l j:=blksL_get l hj
 have a2:((Pu l k).getD j []).length=256:=by rw[a1];exact Vi (by omega)
 refine zin 25 Tryz.func126 ?_
 refine xgk 12 [7,8] (show(decide ((j:Int)<(0:Int)):Bool)=false from decide_eq_false (by omega)) ?_
 refine xb 4 0 hk ?_
 refine xk 5 (show(decide ((j:Int)≥(k:Int)):Bool)=false from decide_eq_false (by omega)) ?_
 refine xb 7 0 hk ?_
 refine xx 1 _ k j 1 (Strs.elem hr (Zcy l k) (k:=j) (by omega)).1 ?_
 refine xl 0 ((Strs.elem hr (Zcy l k) (k:=j) (by omega)).2) ?_
 refine xcf 0 fun _ _ _ zJ zQ zo zx zK=>Kq ((Pu l k).getD j []) zo zx Tryz.underlying9 Tryz.underlying22 Tryz.underlying5 (by omega) ?_
 intro bz cz W2 a3 a0
 refine zK _ _ ?_
 refine xe 5 (.tuple #[.slice (S1 bz) (((Pu l k).getD j []).length) cz,V0 0]) ?_
 rw[a2]
 rw[a2,a1] at a0
 exact⟨_,rfl,a3,_,_,rfl,a0⟩
def RReadP(k:Nat)(l:Bl)(no:Int)(w:World)(e:Ending)(w':World):Prop :=
 (¬ (0≤no∧no<(k:Int))∧e=.returned (.tuple #[S0,V0 3])∧B3 w w') ∨
 (∃ j:Nat,no=(j:Int)∧j<k∧∃ b c,e=.returned (.tuple #[.slice (S1 b) 256 c,V0 0])∧B3 w w'∧Bys w' (.slice (S1 b) 256 c) (Yx l j))
theorem Zgj(B bm:Nat)(p:O0)(k c:Nat)(l:Bl)(w:World)(hI:RefI B bm p k c l w)(no:Int) :
 C0 126 #[P0 bm,V0 no] w (RReadP k l no w):=by
 by_cases h:0≤no∧no<(k:Int)
 ·obtain⟨j,rfl⟩:∃ j:Nat,no=j:=⟨no.toNat,by omega⟩
  refine(Ig B bm p k c l w hI j (by omega)).mono ?_
  rintro e W ⟨_,rfl,hb,b,c2,rfl,ho⟩
  exact .inr ⟨j,rfl,by omega,_,_,rfl,hb,ho⟩
 ·refine(Rz B bm p k c l w hI no h).mono ?_
  rintro e W ⟨rfl,hb⟩
  exact .inl ⟨h,rfl,hb⟩
def RInP(l:Bl)(kind no:Int)(w:World)(e:Ending)(w':World):Prop :=
 (inE l kind no≠0∧e=.returned (.tuple #[S0,V0 (inE l kind no)])∧B3 w w') ∨
 (inE l kind no=0∧(inB l no).length=244∧∃ p c,e=.returned (.tuple #[.slice p 244 c,V0 0])∧B3 w w'∧w'.ownsRow w.heap.size 5 1 (.slice p 244 c) 244 ((inB l no).map bv))
theorem Re(B bm:Nat)(p:O0)(k c:Nat)(l:Bl)(w:World)(hI:RefI B bm p k c l w)(no:Int)(kind:Int) :
 C0 74 #[P0 bm,V0 no,V0 kind] w (RInP l kind no w):=by
 have a9:=hI.hl
 refine zin 25 Tryz.func74 ?_
 refine xc 10 (args:=#[P0 bm,V0 no]) (Zgj B bm p k c l _ (hI.below (B4 w)) no) ?_
 rintro e W1 a8
 rcases a8 with ⟨ho,rfl,a0⟩|⟨j,a4,hj,b3,c3,rfl,a0,a6⟩
 ·refine xe 24 (.tuple #[S0,V0 3]) ?_
  have he:inE l kind no=3:=Sg (n:=k*256) hI.hl (by omega)
  exact .inl ⟨by rw[he];decide,by rw[he],a0⟩
 have a2:inE l kind no=Yg kind no (Yx l j):=Zaa (n:=k*256) hI.hl a4 (by omega)
 have a5:inB l no=((Yx l j).drop 8).take 244:=Oc a4
 refine xc 22 (args:=#[.slice (S1 b3) 256 c3,V0 kind,V0 no]) (ref_Open kind no _ 256 c3 (Yx l j) _ (Vi (by omega)) a6) ?_
 rintro e W2 a7
 rcases a7 with ⟨hs,rfl,a1⟩|⟨hs,p2,c2,rfl,a1,h2⟩
 ·have hB:=bln a0 a1
  exact xe 7 (.tuple #[S0,V0 (Yg kind no (Yx l j))]) (.inl ⟨by rw[a2];exact hs,by rw[a2],hB⟩)
 have hB:=bln a0 a1
 have a3:=Zd h2 a0.size
 exact xe 7 (.tuple #[.slice p2 244 c2,V0 0]) (.inr ⟨by rw[a2,hs],by rw[a5];simp[Vi (show j<l.length/256 by omega)],_,_,rfl,hB,by rw[a5];exact a3⟩)
def Kk(t:Int)(leaf:Bool)(n m v:Nat):Bl:=leB (Wf leaf) 1++leB t 1++leB (n:Int) 2++leB (v:Int) 2++leB (m:Int) 2++leB 0 4
theorem Ki(t:Int)(leaf:Bool)(n m v:Nat):(Kk t leaf n m v).length=12:=by simp[Kk,Zi]
def Gd(m v:Nat)(H:Bl)(K:List Int)(Vs:List Bl):Nat→Bl
 | 0=>Vq (List.replicate 244 0) 0 H
 | i+1=>Vq (Vq (Gd m v H K Vs i) (12+i*8) (leB (K.getD i 0) 8)) (12+m*8+i*v) (Vs.getD i [])
theorem Sd{m v:Nat}{H:Bl}{K:List Int}{Vs:List Bl}(hH:H.length=12)(hf:12+m*8+m*v≤244):∀ {i:Nat},i≤m→(∀ j,j<i→(Vs.getD j []).length=v)→(Gd m v H K Vs i).length=244
 | 0,_,_=>by rw[Gd,Qt (by rw[List.length_replicate];omega),List.length_replicate]
 | i+1,hi,hV=>by
  have ih:=Sd (K:=K) hH hf (i:=i) (by omega) (fun j hj=>hV j (by omega))
  have h1:=hV i (by omega)
  have h2:(i+1)*v≤m*v:=Nat.mul_le_mul_right v hi
  rw[Nat.add_mul,Nat.one_mul] at h2
  have h3:(Vq (Gd m v H K Vs i) (12+i*8) (leB (K.getD i 0) 8)).length=244:=by rw[Qt (by rw[Zi,ih];omega),ih]
  rw[Gd,Qt (by rw[h1,h3];omega),h3]
theorem node_Put(t:Int)(leaf:Bool)(n m v:Nat)(K:List Int)(Vs:List Bl)(ak av:O0)(ck cv:Nat)(w:World)(N:NodeOk t leaf n m v K Vs)(hKs:Sl w (.slice ak n ck) n (K.map V0))(hVs:Sl w (.slice av n cv) n (Vs.map sv)) :
 C0 260 #[.agg #[V0 t,.bool leaf,.slice ak n ck,.slice av n cv]] w (Qe (fun w' r=>∃ p c,r=.tuple #[.slice p 244 c,V0 0]∧w'.ownsRow w.heap.size 5 1 (.slice p 244 c) 244 ((Gd m v (Kk t leaf n m v) K Vs n).map bv)) w):=by
 have e8:=N.ht1
 have e2:=N.ht2
 have g0:=N.hn
 have f5:=Si t leaf
 rw[N.hv] at f5
 have f6:=Qq t leaf
 rw[N.hm] at f6
 have d7:=fitN t leaf
 rw[N.hm,N.hv] at d7
 have f1:=Sl.cap hKs
 refine zin 90 Tryz.func260 ?_
 refine xa 2 [V0 t,.bool leaf,.slice ak n ck,.slice av n cv] 181 fun b1 W1 n1=>?_
 refine xlv 7 n1.blk.rp ?_
 refine xr 0 (args:=#[.agg #[V0 t,.bool leaf,.slice ak n ck,.slice av n cv]]) (node_Right t leaf n m v K Vs ak av ck cv _ N (hKs.below n1.below) (hVs.below n1.below)) fun W2 e0=>?_
 refine xd 7 .z ?_
 have a3:=(n1.blk.below e0).below (Za W2)
 refine xb (.e [0] 1) 0 a3 ?_
 refine xb (.e [2] 3) 1 a3 ?_
 refine xb (.e [5] 6) 0 a3 ?_
 refine xb (.e [7] 8) 1 a3 ?_
 refine xr (.o [] 4) (args:=#[V0 t,.bool leaf]) (Lg t leaf v N.hv e8 e2 _) fun W3 e1=>?_
 refine xr (.o [] 9) (args:=#[V0 t,.bool leaf]) (Tl t leaf m N.hm e8 e2 _) fun W4 e7=>?_
 refine xd (.r [10,11] 3) .z ?_
 have a8:=((a3.below e1).below e7).below (Za W4)
 refine xb (.e [0] 1) 1 a8 ?_
 refine xb (.e [4] 5) 0 a8 ?_
 refine xb (.e [6,7] 8) 2 a8 ?_
 refine xr (.o [9,10,11,12,13,14,15] 2) (args:=#[.bool leaf]) (node_flag leaf _) fun W5 e9=>?_
 refine xbs (.o [3] 16) 6 [V0 1,V0 (Wf leaf),V0 1,V0 t,V0 2,V0 (n:Int),V0 2,V0 (v:Int),V0 2,V0 (m:Int),V0 4,V0 0] 292 fun b6 W6 n6=>?_
 have b3:=bln (bln (bln (bln (bln (bln n1.below e0) (Za W2)) e1) e7) (Za W4)) e9
 have g6:=n6.ge b3
 refine yc (.o [] 17) (args:=#[.slice (S1 b6) 6 6]) .z (Pack_node b6 (Wf leaf) t (n:Int) (v:Int) (m:Int) (Zaq leaf).1 (Zaq leaf).2 (by omega) (by omega) (by omega) (by omega) (by omega) (by omega) (by omega) (by omega) _ n6.blk) ?_
 rintro _ W7 ⟨_,rfl,c7,p2,c2,rfl,h2⟩
 have f3:=(bln b3 n6.below).size
 refine⟨c7,?_⟩
 refine xmk (.r [18,19,20,21,22] 4) fun _ _ _ _ zJ zQ zo zx zy zK=>Kf 244 (.int .u8 0) 1 1 ((List.replicate 244 (0:UInt8)).map bv) zo zx zy Tryz.underlying22 (by kernel_rfl) rfl (by omega) (by omega) (Zd9 244) fun b8 W8 n8=>?_
 have c4:=bln (bln b3 n6.below) c7
 have g8:=n8.ge c4
 have c5:=Zd h2 f3
 have e5:=Zn c5 n8
 refine zK _ _ ?_
 have o8:=Xb (size:=1) (n:=244) n8.blk g8 (by rw[List.length_map,List.length_replicate]) (by unfold maxLen;omega)
 have d1:=Zb c5 n8.below
 have b9:=bln c4 n8.below
 refine xbi 7 (t2:=22) fun _ _ _ _ zJ zQ zo zx zy zK=>Pw (dLen:=244) (dCap:=244) (off:=0) 12 ((Kk t leaf n m v).map bv) ((Gd m v (Kk t leaf n m v) K Vs 0).map bv) zo Tryz.underlying22 (by kernel_rfl) zx zy (Ze d1) o8 (by simp[Ki]) (by omega) (by omega) (Qk _) b9.size (by simp[Gd,Vq,Ki]) fun W9 o9 e3 e6=>?_
 refine zK _ _ ?_
 have c0:=((((a8.below e9).below n6.below).below c7).below n8.below).grown e3 o8 (by decide)
 refine xb 6 2 c0 ?_
 have d6:=b9.trans e6
 have d3:=((n6.blk.below c7).below n8.below).grown e3 o8 (by decide)
 refine zl 5 90 (fun zm f0 V=>∃ (i:Nat),f0=[(1,P0 b1),(2,S0),(3,V0 0),(4,V0 (v:Int)),(5,V0 (m:Int)),(8,.slice (S1 b8) 244 244),(52,.slice ak n ck),(53,V0 (n:Int)),(54,V0 (i:Int))]∧zm=n-((i:Int)).toNat∧B3 w V∧Blk V b1 ([V0 t,.bool leaf,.slice ak n ck,.slice av n cv]) 181∧Blk V b6 ([V0 1,V0 (Wf leaf),V0 1,V0 t,V0 2,V0 (n:Int),V0 2,V0 (v:Int),V0 2,V0 (m:Int),V0 4,V0 0]) 292∧V.ownsRow w.heap.size 5 1 (.slice (S1 b8) 244 244) 244 ((Gd m v (Kk t leaf n m v) K Vs i).map bv)∧i≤n) ⟨0,rfl,rfl,d6,c0,d3,o9,Nat.zero_le _⟩ ?_
 rintro _ _ f9 ⟨i,rfl,rfl,a0,b2,a6,ho,hi⟩ g1 d0 f7
 have e6:i<n→i*v+v≤m*v:=fun h=>by have h9:(i+1)*v≤m*v:=Nat.mul_le_mul_right v (by omega);rw[Nat.add_mul,Nat.one_mul] at h9;exact h9
 refine xid 6 ((i:Int)<(n:Int)) (fun d2=>?_) (fun d2=>?_)
 ·refine xx 7 _ n i 1 (IntsN.elem hKs N.hK (k:=i) (by omega)).1 ?_
  refine xl 0 ((IntsN.elem (hKs.below a0) N.hK (k:=i) (by omega)).2) ?_
  refine xbs 8 1 [V0 8,V0 (K.getD i 0)] 292 fun e4 f8 a9=>?_
  have d8:=a9.ne a6
  have g2:=a9.ge a0
  refine xc 0 (args:=#[.slice (S1 e4) 1 1]) (Pack_8 e4 (K.getD i 0) (N.hk0 i (by omega)).1 _ a9.blk) ?_
  rintro _ g5 ⟨_,rfl,a7,p3,c3,rfl,h3⟩
  have c9:=(bln a0 a9.below).size
  refine xwm 11 ((i:Int)*8) (↑(i*8):Int) ?_
  refine xwm 0 (12+(↑(i*8):Int)) (↑(12+(i*8)):Int) ?_
  refine xsL 0 (fun _ _ _ _ zo zx zy V=>Nw (k:=(12+(i*8))) (b:=b8) (off:=0) (n:=244) (c:=244) (i:=(↑(12+(i*8)):Int)) (ki:=.i64) 1 zo zx zy rfl (by omega) (by omega) Tryz.underlying22 (by kernel_rfl) V) ?_
  have b4:=Zb (Zb ho a9.below) a7
  have d4:=Zd h3 c9
  have c1:=bln (bln a0 a9.below) a7
  refine xbi 1 (t2:=22) fun _ _ _ _ zJ zQ zo zx zy zK=>Pw (dLen:=(244-(12+(i*8)))) (dCap:=(244-(12+(i*8)))) (off:=(0+(12+(i*8))*1)) 8 ((leB (K.getD i 0) 8).map bv) ((Vq (Gd m v (Kk t leaf n m v) K Vs i) (12+i*8) (leB (K.getD i 0) 8)).map bv) zo Tryz.underlying22 (by kernel_rfl) zx zy (Ze d4) b4 (by simp[Zi]) (by omega) (by omega) (Qk _) c1.size (by simp[Vq,Zi,List.map_take,List.map_drop]) fun c8 f4 b7 d5=>?_
  refine zK _ _ ?_
  refine xd 2 (.t w.heap.size [5]) ?_
  refine xwm (.e [0,1] 2) ((m:Int)*8) (↑(m*8):Int) ?_
  refine xwm (.e [] 3) (12+(↑(m*8):Int)) (↑(12+(m*8)):Int) ?_
  refine xwm (.e [4,5] 6) ((i:Int)*(v:Int)) (↑(i*v):Int) ?_
  refine xwm (.e [] 7) ((↑(12+(m*8)):Int)+(↑(i*v):Int)) (↑((12+(m*8))+(i*v)):Int) ?_
  refine xsL (.e [] 8) (fun _ _ _ _ zo zx zy V=>Nw (k:=((12+(m*8))+(i*v))) (b:=b8) (off:=0) (n:=244) (c:=244) (i:=(↑((12+(m*8))+(i*v)):Int)) (ki:=.i64) 1 zo zx zy rfl (by omega) (by omega) Tryz.underlying22 (by kernel_rfl) V) ?_
  have a1:=(((b2.below a9.below).below a7).grown b7 b4 (by decide)).below (Za c8)
  refine xbt (.e [9] 10) 3 w.heap.size [5] a1 ?_
  refine xx (.e [11] 12) _ n i 1 (Strs.elem hVs N.hV (k:=i) (by omega)).1 ?_
  have b5:=bln (c1.trans d5) (Za c8)
  refine xlt (.e [] 13) (.t w.heap.size [5]) (fun V hV=>(Strs.elem (hVs.below (Wi b5 hV (Nat.le_refl _))) N.hV (k:=i) (by omega)).2) ?_
  have a2:=Zb f4 (Za c8)
  refine ybi (.o [] 14) (t2:=9) (.t w.heap.size [5]) fun _ _ _ _ zJ zQ zo zx zy zK=>Zhb (dLen:=(244-((12+(m*8))+(i*v)))) (dCap:=(244-((12+(m*8))+(i*v)))) (off:=(0+((12+(m*8))+(i*v))*1)) (Vs.getD i []) ((Gd m v (Kk t leaf n m v) K Vs (i+1)).map bv) zo Tryz.underlying22 (by kernel_rfl) zx zy a2 (by rw[N.hw i (by omega)];omega) (by rw[N.hw i (by omega)];omega) b5.size (by simp[Gd,Vq,List.map_take,List.map_drop]) fun g3 f2 b0 c6=>?_
  refine zK _ _ (Zx c6 b0 a2 (by decide)) ?_
  refine xwm 4 ((i:Int)+1) (↑(i+1):Int) ?_
  have d9:=b5.trans c6
  have a4:=a1.grown b0 a2 (by decide)
  have a5:=((((a6.below a9.below).below a7).grown b7 b4 (by decide)).below (Za c8)).grown b0 a2 (by decide)
  exact ze 2 (d0 _ _ _ ⟨i+1,rfl,rfl,d9,a4,a5,f2,by omega⟩ (by omega))
 refine xe 13 (.tuple #[.slice (S1 b8) 244 244,V0 0]) ?_
 have e:i=n:=by omega
 subst e
 exact⟨_,rfl,a0,_,_,rfl,ho⟩
theorem Qp(ba b:Nat)(v x:Value)(w:World)(hk:Blk w ba [v,x,P0 b] 200) :
 C0 95 #[P0 ba] w (Ret (P0 b) w):=by
 refine zin 9 Tryz.func95 ?_
 refine xr 9 (args:=#[P0 ba]) (Jh ba b _ _ _ hk) fun W1 a1=>?_
 have a0:=hk.below a1
 refine xb 10 2 a0 ?_
 exact xe 4 (P0 b) ⟨rfl,a1⟩
abbrev Ent:=Int×Bl×Int
def Kd:Ent:=(0,[],0)
def Jv(x:Ent):List Value:=[V0 x.1,.string ⟨x.2.1.toArray⟩,V0 x.2.2]
theorem Gq(x:Ent):(Jv x).length=3:=rfl
def lastK(l:List Ent):Nat→Int
 | 0=>-1
 | i+1=>(l.getD i Kd).1
structure EntsOk(v:Nat)(l:List Ent):Prop where
 hk:∀ i,i<l.length→0≤(l.getD i Kd).1∧(l.getD i Kd).1≤281474976710655
 hs:∀ j,j+1<l.length→(l.getD j Kd).1<(l.getD (j+1) Kd).1
 hw:∀ i,i<l.length→(l.getD i Kd).2.1.length=v
theorem EntsOk.last{v:Nat}{l:List Ent}(E:EntsOk v l){i:Nat}(h:i<l.length):lastK l i<(l.getD i Kd).1:=by
 cases i with
 | zero=>have:=(E.hk 0 h).1;simp only[lastK];omega
 | succ j=>exact E.hs j h
theorem Lc(x:Nat):x≤(Zbs x).sum:=by
 by_cases h:x≤1
 ·rw[Gm h];simp
 ·rw[Hz h];simp
theorem Wl(t:Int)(n:Nat):1≤Xx t n:=by
 have h1:=Lc (ovN n (Qs t true));have h2:=Vx n (Qs t true);unfold Xx Uy;omega
theorem Zfn(t:Int)(v:Nat)(a:O0)(c:Nat)(l:List Ent)(w:World)(ht1:1≤t)(ht2:t≤5)(hv:Pd t true=v)(E:EntsOk v l)(h:Sts Jv w (.slice a l.length c) l)(hn:l.length≤32768) :
 C0 220 #[V0 t,.slice a l.length c] w (Ret (.bool true) w):=by
 have a5:=Si t true
 rw[hv] at a5
 have a8:=Wl t l.length
 refine zin 45 Tryz.func220 ?_
 refine xr 8 (args:=#[V0 t,.bool true]) (Lg t true v hv ht1 ht2 _) fun W1 a4=>?_
 refine xgk 9 [12,13] (show(((v:Int)==(0:Int)):Bool)=false from by simp;omega) ?_
 refine xr 3 (args:=#[V0 t,V0 (l.length:Int)]) (Qx t l.length _ ht1 ht2 hn) fun W3 a3=>?_
 refine xk 4 (show(((↑(Xx t l.length):Int)==(0:Int)):Bool)=false from by simp;omega) ?_
 have hB:=bln a4 a3
 refine zl 16 45 (fun zm a7 V=>∃ (i:Nat),a7=[(5,V0 (v:Int)),(6,V0 (lastK l i)),(20,.slice a l.length c),(21,V0 (l.length:Int)),(22,V0 (i:Int))]∧zm=l.length-((i:Int)).toNat∧B3 w V∧i≤l.length) ⟨0,rfl,rfl,hB,Nat.zero_le _⟩ ?_
 rintro _ _ W4 ⟨i,rfl,rfl,a0,hi⟩ J4 a2 r4
 refine xid 6 ((i:Int)<(l.length:Int)) (fun a6=>?_) (fun a6=>?_)
 ·refine xx 6 _ l.length i 3 (Sts.cell h Gq Kd (k:=i) (i:=0) (by omega) rfl).1 ?_
  refine xlv 0 (Sts.rp (k:=i) (h.below a0) Gq Kd (by omega) (by decide)) ?_
  refine xa 0 [V0 0,.string ⟨#[]⟩,V0 0] 132 fun b6 W6 n6=>?_
  have g6:=n6.ge a0
  refine xsv 0 n6.blk [V0 ((l.getD i Kd).1),.string ⟨((l.getD i Kd).2.1).toArray⟩,V0 ((l.getD i Kd).2.2)] fun W7 u7 k7=>?_
  refine xb 6 0 k7 ?_
  refine xgk 3 [29,30] (show(decide ((l.getD i Kd).1≤(lastK l i)):Bool)=false from decide_eq_false (by have:=E.last (i:=i) (by omega);omega)) ?_
  refine xb 1 0 k7 ?_
  refine xgk 3 [33,34,35] (show(decide ((l.getD i Kd).1>(281474976710655:Int)):Bool)=false from decide_eq_false (by have:=(E.hk i (by omega)).2;omega)) ?_
  refine xb 1 1 k7 ?_
  refine xk 6 (show(((↑((l.getD i Kd).2.1).length:Int) != (v:Int)):Bool)=false from by rw[E.hw i (by omega)];simp) ?_
  refine xb 4 0 k7 ?_
  refine xw 5 ((i:Int)+1) ?_
  have a1:=u7.below (bln a0 n6.below) g6
  exact ze 2 (a2 _ _ _ ⟨i+1,rfl,rfl,a1,by omega⟩ (by omega))
 exact xe 11 (.bool true) ⟨rfl,a0⟩
theorem value_root(w:World) :
 C0 214 #[] w (Qe (fun w' r=>∃ b,r=.slice (S1 b) 1 1∧w.heap.size≤b∧Blk w' b [V0 4,V0 1,V0 14399] 312) w):=by
 refine zin 3 Tryz.func214 ?_
 refine xbs 8 1 [V0 4,V0 1,V0 14399] 312 fun b1 W1 n1=>?_
 have g1:=n1.ge (B4 w)
 exact xe 4 (.slice (S1 b1) 1 1) ⟨_,rfl,n1.below,_,rfl,g1,n1.blk⟩
theorem value_put1(gl gn:Nat)(n:Int)(h1:1≤n)(h2:n≤14399)(w:World)(hl:Blk w gl [V0 4,V0 1,V0 14399] 312)(hn:Blk w gn [V0 n] 3) :
 C0 181 #[.slice (S1 gl) 1 1,.slice (S1 gn) 1 1] w (Ret (.string ⟨(leB n 4).toArray⟩) w):=by
 have b2:=h1
 have b5:=h2
 clear h2
 refine zin 51 Tryz.func181 ?_
 refine xu 19 2 ?_
 refine xlv 15 hl.rp ?_
 refine xa 0 [V0 0,V0 0,V0 0] 312 fun b1 W1 n1=>?_
 have a6:=n1.ne hl
 refine xsv 1 n1.blk [V0 4,V0 1,V0 14399] fun W2 u2 k2=>?_
 have g1:=n1.ge (B4 w)
 refine xd 4 .z ?_
 have a1:=(u2.blkT (hn.below n1.below) n1.blk (by decide)).below (Za W2)
 refine xb (.e [0,1,2] 3) 0 a1 ?_
 have a0:=k2.below (Za W2)
 refine xb (.e [4] 5) 1 a0 ?_
 refine xgk (.b [6,7]) [23,24] (show(decide (n<(1:Int)):Bool)=false from decide_eq_false (by omega)) ?_
 refine xb (.e [8,9,10] 11) 0 a1 ?_
 refine xb (.e [12] 13) 2 a0 ?_
 refine xk (.r [14,15] 2) (show(decide (n>(14399:Int)):Bool)=false from decide_eq_false (by omega)) ?_
 refine xd 3 .z ?_
 have a2:=a0.below (Za W2.drew)
 refine xb (.e [0] 1) 0 a2 ?_
 have a3:=a1.below (Za W2.drew)
 refine xb (.e [2,3,4] 5) 0 a3 ?_
 refine xbs (.o [6] 7) 1 [V0 4,V0 n] 292 fun b4 W4 n4=>?_
 refine yc (.o [] 8) (args:=#[.slice (S1 b4) 1 1]) .z (Ep b4 n (by omega) (by omega) _ n4.blk) ?_
 rintro _ W5 ⟨_,rfl,a7,p2,c2,rfl,h2⟩
 have a9:=(bln (bln (bln (u2.below n1.below g1) (Za W2)) (Za W2.drew)) n4.below).size
 refine⟨a7,?_⟩
 have o6:=World.ownsRow_nil W5 w.heap.size 5 1
 have a4:=Zd h2 a9
 have hB:=bln (bln (bln (bln (u2.below n1.below g1) (Za W2)) (Za W2.drew)) n4.below) a7
 refine xbi (.r [9,10,11,12,13] 5) fun _ _ _ _ zJ zQ zo zx zy zK=>Zr (m:=4) (news:=(leB n 4).map bv) (.int .u8 0) 1 1 (4) ((leB n 4).map bv) zo Tryz.underlying22 (by kernel_rfl) rfl (by decide) zx o6 zy (Ze a4) (by simp[Zi]) (Qk _) (by unfold maxLen;omega) (by omega) hB.size (by rfl) (by simp) fun b3 b0 W7 o7 b6 a8=>?_
 refine zK _ _ ?_
 refine xcv0 24 (fun _ _ _ zo zx=>Yz zo zx (Yk (Ze o7) (Zi _ _)) (Zi _ _) Tryz.underlying22 Tryz.underlying5 Tryz.underlying9) ?_
 have a5:=hB.trans a8
 exact xe 4 (.string ⟨(leB n 4).toArray⟩) ⟨rfl,a5⟩
theorem Oe(n:Int)(h1:1≤n)(h2:n≤14399)(w:World) :
 C0 154 #[V0 n] w (Ret (.string ⟨(leB n 4).toArray⟩) w):=by
 refine zin 7 Tryz.func154 ?_
 refine xc 7 (args:=#[]) (value_root _) ?_
 rintro _ W1 ⟨_,rfl,a1,gl,rfl,gg,kl⟩
 refine xbs 1 1 [V0 n] 3 fun b2 W2 n2=>?_
 have a0:=kl.below n2.below
 refine xr 0 (args:=#[.slice (S1 gl) 1 1,.slice (S1 b2) 1 1]) (value_put1 gl b2 n h1 h2 _ a0 n2.blk) fun W3 a2=>?_
 have hB:=bln (bln a1 n2.below) a2
 exact xe 4 (.string ⟨(leB n 4).toArray⟩) ⟨rfl,hB⟩
theorem Sts.cut{α:Type}{f:α→List Value}{m:Nat}{w:World}{b:O0}{c:Nat}{l:List α}(hm:∀ x,(f x).length=m)(h:Sts f w (.slice b l.length c) l)(k:Nat)(hk:k≤l.length):Sts f w (.slice (Qu b k c m) (l.drop k).length (c-k)) (l.drop k):=by
 have a3:(l.drop k).length=l.length-k:=by simp
 have a1:=Sl.cap h
 by_cases hkn:k=l.length
 ·refine .inl ⟨Qu b k c m,c-k,by rw[show(l.drop k).length=0 by omega],by omega,?_⟩
  rw[List.drop_eq_nil_of_le (by omega)];rfl
 rcases h with ⟨a',c',h1,h2,h3⟩|⟨g,a2,a4,h1,h2,h3,h4⟩
 ·omega
 ·simp only[Value.slice.injEq] at h1
  obtain⟨rfl,_,rfl⟩:=h1
  refine .inr ⟨g,a2+k*m,c-k,?_,by omega,by omega,fun j x hj=>?_⟩
  ·rw[Qu,if_neg (by omega)];simp[Addr.add]
  ·have a0:(l.drop k).flatMap f=(l.flatMap f).drop (k*m):=by
    conv=>rhs;rw[←List.take_append_drop k l,List.flatMap_append]
    rw[List.drop_left' (by rw[Lf hm,List.length_take,Nat.min_eq_left hk])]
   rw[a0,List.getElem?_drop] at hj
   have:=h4 _ _ hj
   rwa [←Nat.add_assoc] at this
theorem Al.only{B ba b g n c:Nat}{pa:O0}{ca f N k:Nat}{l:Bl}{w W:World}{T:List TypeId}(h:Al B ba b g n c pa ca f N k l w)(hO:Zf T w W)(hT:(T.contains 200||T.contains 80||T.contains 5||T.contains 3)=false):Al B ba b g n c pa ca f N k l W:=by
 simp only[Bool.or_eq_false_iff] at hT
 exact⟨h.blkA.only hO hT.1.1.1,h.blkI.only hO hT.1.1.2,Zj h.data hO hT.1.2,Zj h.nums hO hT.2⟩
def Xo(l:List Ent)(m i:Nat):List Ent:=(l.drop (i*m)).take m
def Kl(c:List Ent):List Int:=c.map (·.1)
def Hu(c:List Ent):List Bl:=c.map (·.2.1)
def nodB(t:Int)(leaf:Bool)(m v:Nat)(c:List Ent):Bl:=Gd m v (Kk t leaf c.length m v) (Kl c) (Hu c) c.length
def Zdo(t:Int)(leaf:Bool)(m v:Nat)(l:List Ent)(q:Nat)(bs:Bl):Nat→Bl
 | 0=>bs
 | i+1=>Vq (Zdo t leaf m v l q bs i) ((q+i)*256) (Xs 2 ((q+i:Nat):Int) (nodB t leaf m v (Xo l m i)))
def upX (l:List Ent)(m q i:Nat):Ent:=(((Xo l m i).getD 0 Kd).1,leB ((q+i:Nat):Int) 4,((q+i:Nat):Int))
def upE (l:List Ent)(m q j:Nat):List Ent:=(List.range j).map (upX l m q)
theorem upE_succ(l:List Ent)(m q j:Nat):upE l m q (j+1)=upE l m q j++[upX l m q j]:=by simp[upE,List.range_succ]
theorem Yf(l:List Ent)(m q j:Nat):(upE l m q j).length=j:=by simp[upE]
theorem Pp{l:List Ent}{m q j i:Nat}(h:i<j):(upE l m q j).getD i Kd=upX l m q i:=by simp[upE,List.getD,List.getElem?_range h]
theorem Bn(l:List Ent)(m i:Nat):(Xo l m i).length=Jj l.length m i:=by simp[Xo,Jj]
theorem Sa{l:List Ent}{m i j:Nat}(h:j<Jj l.length m i):(Xo l m i).getD j Kd=l.getD (i*m+j) Kd:=by
 unfold Jj at h
 simp[Xo,List.getD,List.getElem?_take_of_lt (show j<m by omega),List.getElem?_drop]
theorem Zcv{c:List Ent}{j:Nat}(h:j<c.length):(Kl c).getD j 0=(c.getD j Kd).1:=by simp[Kl,List.getD,h]
theorem valsE_get{c:List Ent}{j:Nat}(h:j<c.length):(Hu c).getD j []=(c.getD j Kd).2.1:=by simp[Hu,List.getD,h]
theorem Bt(c:List Ent):(Kl c).length=c.length:=by simp[Kl]
theorem Zcz(c:List Ent):(Hu c).length=c.length:=by simp[Hu]
theorem siz_lt{n m i:Nat}(hm:1≤m)(hn:1≤n)(h:i<ovN n m):i*m<n:=by
 unfold ovN at h
 rcases Nat.eq_zero_or_pos i with rfl|hi
 ·omega
 have h2:i<(n+m-1)/m:=by omega
 have h3:=(Nat.lt_div_iff_mul_lt (by omega)).1 h2
 omega
theorem Fx{t:Int}{leaf:Bool}{m v:Nat}{l:List Ent}(E:EntsOk v l)(h1:1≤t)(h2:t≤5)(hm:Qs t leaf=m)(hv:Pd t leaf=v)(hl:leaf=false→1≤l.length){i:Nat}(hi:i<ovN l.length m):NodeOk t leaf (Xo l m i).length m v (Kl (Xo l m i)) (Hu (Xo l m i)):=by
 have a5:=(Qq t leaf).1
 rw[hm] at a5
 have a0:=Bn l m i
 have a6:=siz_le a5 hi
 have a7:(Xo l m i).length≤l.length-i*m:=by rw[a0];unfold Jj;omega
 have a4:∀ j,j<(Xo l m i).length→i*m+j<l.length∧(Kl (Xo l m i)).getD j 0=(l.getD (i*m+j) Kd).1∧(Hu (Xo l m i)).getD j []=(l.getD (i*m+j) Kd).2.1:=fun j hj=>by
  refine⟨by omega,?_,?_⟩
  ·rw[Zcv hj,Sa (by omega)]
  ·rw[valsE_get hj,Sa (by omega)]
 refine⟨h1,h2,hm,hv,Bt _,Zcz _,by rw[a0];unfold Jj;omega,fun h=>?_,fun j hj=>?_,fun j hj=>?_,fun j hj=>?_⟩
 ·have:=siz_lt a5 (hl h) hi
  rw[a0];unfold Jj;omega
 ·obtain⟨a1,a2,_⟩:=a4 j hj
  rw[a2];exact E.hk _ a1
 ·obtain⟨a1,a2,_⟩:=a4 j (by omega)
  obtain⟨b1,b2,_⟩:=a4 (j+1) hj
  rw[a2,b2];exact E.hs _ (by omega)
 ·obtain⟨a1,_,a3⟩:=a4 j hj
  rw[a3];exact E.hw _ a1
theorem Zbf{t:Int}{leaf:Bool}{m v:Nat}{c:List Ent}(N:NodeOk t leaf c.length m v (Kl c) (Hu c)):(nodB t leaf m v c).length=244:=by
 have hf:=fitN t leaf
 rw[N.hm,N.hv] at hf
 exact Sd (Ki _ _ _ _ _) hf N.hn (fun j hj=>N.hw j hj)
theorem siz_elem{w:World}{b:O0}{n m c:Nat}(h:Sl w (.slice b (ovN n m) c) (ovN n m) ((sizL n m).map nv)){k:Nat}(hk:k<ovN n m):b.isSome=true∧w.cell? (Xd b (k*1))=some (V0 ((Jj n m k:Nat):Int)):=by
 have:=Zh h (sizL_len n m) hk
 rwa [show(sizL n m).getD k 0=Jj n m k from by simp[sizL,List.getD,List.getElem?_range hk]] at this
theorem keys_take{l:List Ent}{j:Nat}(h:j<l.length):((Kl l).take (j+1)).map V0=((Kl l).take j).map V0++[V0 (l.getD j Kd).1]:=by
 rw[List.take_succ_eq_append_getElem (by rw[Bt];exact h)]
 simp[Kl,List.getD,h]
theorem vals_take{l:List Ent}{j:Nat}(h:j<l.length):((Hu l).take (j+1)).map sv=((Hu l).take j).map sv++[.string ⟨(l.getD j Kd).2.1.toArray⟩]:=by
 rw[List.take_succ_eq_append_getElem (by rw[Zcz];exact h)]
 simp[Hu,List.getD,h,sv]
theorem keys_chunk{l:List Ent}{m i s:Nat}(hs:Jj l.length m i=s):(Kl (l.drop (i*m))).take s=Kl (Xo l m i):=by
 subst hs
 unfold Kl Xo Jj
 rw[←List.map_take]
 congr 1
 rw[List.take_eq_take_iff];simp
theorem vals_chunk{l:List Ent}{m i s:Nat}(hs:Jj l.length m i=s):(Hu (l.drop (i*m))).take s=Hu (Xo l m i):=by
 subst hs
 unfold Hu Xo Jj
 rw[←List.map_take]
 congr 1
 rw[List.take_eq_take_iff];simp
theorem EntsOk.mono{v:Nat}{l:List Ent}(E:EntsOk v l):∀ {a b:Nat},a<b→b<l.length→(l.getD a Kd).1<(l.getD b Kd).1:=by
 intro a b h hb
 induction b with
 | zero=>omega
 | succ b ih =>
  have h1:=E.hs b (by omega)
  rcases Nat.lt_or_ge a b with h2|h2
  ·have:=ih h2 (by omega);omega
  ·obtain rfl:a=b:=by omega
   exact h1
theorem up_key{v:Nat}{l:List Ent}{m:Nat}(hm:1≤m)(hl:1≤l.length){i q:Nat}(hi:i<ovN l.length m):(upX l m q i).1=(l.getD (i*m) Kd).1∧i*m<l.length:=by
 have h:=siz_lt hm hl hi
 refine⟨?_,h⟩
 unfold upX
 rw[Sa (by unfold Jj;omega)];rfl
theorem up_ok{v:Nat}{l:List Ent}(E:EntsOk v l){m q:Nat}(hm:1≤m):EntsOk 4 (upE l m q (ovN l.length m)):=by
 rcases Nat.eq_zero_or_pos l.length with h0|hl
 ·have h1:ovN l.length m=1:=by
   rw[h0];unfold ovN
   have:(0+m-1)/m=0:=Nat.div_eq_of_lt (by omega)
   omega
  have a0:l=[]:=List.eq_nil_of_length_eq_zero h0
  subst a0
  constructor
  ·intro i hi;rw[Yf,h1] at hi;rw[Pp (by omega)];simp[upX,Xo,Kd]
  ·intro j hj;rw[Yf,h1] at hj;omega
  ·intro i hi;rw[Yf,h1] at hi;rw[Pp (by omega)];simp[upX,Zi]
 constructor
 ·intro i hi
  rw[Yf] at hi
  obtain⟨h1,h2⟩:=up_key (v:=v) (q:=q) hm hl hi
  rw[Pp hi,h1];exact E.hk _ h2
 ·intro j hj
  rw[Yf] at hj
  obtain⟨h1,h2⟩:=up_key (v:=v) (q:=q) hm hl hj
  obtain⟨h3,h4⟩:=up_key (v:=v) (q:=q) hm hl (show j<ovN l.length m by omega)
  rw[Pp hj,Pp (by omega),h1,h3]
  refine E.mono ?_ h2
  rw[Nat.add_mul];omega
 ·intro i hi
  rw[Yf] at hi
  rw[Pp hi];simp[upX,Zi]
def Nj(t:Int)(u:List Ent)(q:Nat)(bs:Bl):Int×Bl :=
 if h:u.length≤1 then((u.getD 0 Kd).2.2,bs)
 else Nj t (upE u 18 q (ovN u.length 18)) (q+ovN u.length 18) (Zdo t false 18 4 u q bs (ovN u.length 18))
termination_by u.length
decreasing_by rw[Yf];have:=ov18 (x:=u.length) (by omega);omega
theorem Md{t:Int}{u:List Ent}{q:Nat}{bs:Bl}(h:u.length≤1):Nj t u q bs=((u.getD 0 Kd).2.2,bs):=by rw[Nj];simp[h]
theorem Lh{t:Int}{u:List Ent}{q:Nat}{bs:Bl}(h:¬ u.length≤1):Nj t u q bs=Nj t (upE u 18 q (ovN u.length 18)) (q+ovN u.length 18) (Zdo t false 18 4 u q bs (ovN u.length 18)):=by rw[Nj];simp[h]
def Yl(t:Int)(l:List Ent)(q:Nat)(bs:Bl):Int×Bl :=
 Nj t (upE l (Qs t true) q (ovN l.length (Qs t true))) (q+ovN l.length (Qs t true)) (Zdo t true (Qs t true) (Pd t true) l q bs (ovN l.length (Qs t true)))
theorem Zgv{t:Int}{u:List Ent}{q:Nat}{bs:Bl}(h1:1≤u.length)(hu:(u.getD (u.length-1) Kd).2.2=((q-1:Nat):Int))(hq:1≤q):(Nj t u q bs).1=((q-1+((Zbs u.length).sum-u.length):Nat):Int):=by
 induction hx:u.length using Nat.strongRecOn generalizing u q bs with
 | _ x ih =>
  subst hx
  by_cases h:u.length≤1
  ·rw[Md h,Gm h]
   rw[show u.length-1=0 by omega] at hu
   show(u.getD 0 Kd).2.2=_
   rw[hu];simp
  ·have a0:=ov18 (x:=u.length) (by omega)
   have hp:=Vx u.length 18
   rw[Lh h,ih (ovN u.length 18) (by omega) (u:=upE u 18 q (ovN u.length 18)) (q:=q+ovN u.length 18) (by rw[Yf];exact hp) ?_ (by omega) (Yf _ _ _ _),Hz h]
   ·have a1:=Lc (ovN u.length 18)
    simp only[List.sum_cons]
    congr 1
    omega
   ·rw[Yf,Pp (by omega)]
    simp only[upX]
    congr 1
    omega
def LaidQ(B ba b g n c:Nat)(pa:O0)(ca f N k:Nat)(l:Bl)(kind:Int)(li:Bl)(q:Nat)(w:World)(e:Ending)(w':World):Prop :=
 e=.returned (.tuple #[V0 (q:Int),.nilIface])∧Below B w w'∧Zf [200,5] w w'∧Fr [ba,g] w w'∧Al B ba b g n c pa ca f N (k+1) (Vq l (q*256) (Xs kind (q:Int) li)) w'
theorem Ma(B ba b g n c:Nat)(p:O0)(ca f N k:Nat)(l:Bl)(kind:Int)(a:O0)(ci:Nat)(li:Bl)(q n':Nat)(w:World)(hq:f+k=q)(hn':li.length=n')(hC:AlC B ba n c ca f N)(hA:Al B ba b g n c p ca f N k l w)(hkN:k<N)(h1:1≤kind)(h2:kind≤4)(hin:∀ W,Below B w W→Zf [200] w W→Bys W (.slice a n' ci) li)(hl:n'≤244)(hBw:B≤w.heap.size) :
 C0 165 #[P0 ba,V0 kind,.slice a n' ci] w (LaidQ B ba b g n c p ca f N k l kind li q w):=by
 subst hq hn';exact alloc_Lay B ba b g n c p ca f N k l kind a ci li w hC hA hkN h1 h2 hin hl hBw
theorem up_row{l:List Ent}{m q i:Nat}{key:Int}(hk:key=((Xo l m i).getD 0 Kd).1):(upE l m q i).flatMap Jv++[V0 key,.string ⟨(leB ((q+i:Nat):Int) 4).toArray⟩,V0 ((q+i:Nat):Int)]=(upE l m q (i+1)).flatMap Jv:=by
 subst hk;rw[upE_succ];simp[Jv,upX]
theorem chunk_key{l:List Ent}{m i j:Nat}(hs:Jj l.length m i=j)(hj:0<j):((Kl (Xo l m i))).getD 0 0=((Xo l m i).getD 0 Kd).1:=Zcv (by rw[Bn];omega)
theorem Zgd{l:List Ent}{m i j:Nat}(hs:Jj l.length m i=j)(hj:j=0):(0:Int)=((Xo l m i).getD 0 Kd).1:=by
 have:Xo l m i=[]:=List.eq_nil_of_length_eq_zero (by rw[Bn];omega)
 rw[this];rfl
def bmN (n:Nat):Nat:=(n+959)/960
theorem bmN_lt{n i:Nat}(h:i<bmN n):i*960<n:=by unfold bmN at h;omega
theorem bmN_done{n i:Nat}(h:i=bmN n):n≤i*960:=by subst h;unfold bmN;omega
def mn3 (n:Int):Int:=if n<3 then n else 3
def Zu(l:List Int):List Int:=l.map mn3
theorem small_snoc{l:List Int}{k:Nat}(h:k<l.length):Zu (l.take (k+1))=Zu (l.take k)++[mn3 (l.getD k 0)]:=by
 unfold Zu
 rw[List.take_succ_eq_append_getElem h,List.map_append,show l.getD k 0=l[k] from by simp[List.getD,h]]
 rfl
def ovX (l:List Int)(k:Nat):List Ent:=if 3≤l.getD k 0 then [((k:Int),leB (l.getD k 0) 4,0)] else []
def Zy(l:List Int)(k:Nat):List Ent:=(List.range k).flatMap (ovX l)
theorem Oo(l:List Int)(k:Nat):Zy l (k+1)=Zy l k++ovX l k:=by simp[Zy,List.range_succ]
theorem Py{l:List Int}{k:Nat}(h:3≤l.getD k 0):Zy l (k+1)=Zy l k++[((k:Int),leB (l.getD k 0) 4,0)]:=by rw[Oo];unfold ovX;rw[if_pos h]
theorem Np{l:List Int}{k:Nat}(h:¬ 3≤l.getD k 0):Zy l (k+1)=Zy l k:=by rw[Oo];unfold ovX;rw[if_neg h];simp
theorem overK_ok(l:List Int)(k:Nat):(Zy l k).Pairwise (fun a b=>a.1<b.1)∧∀ x∈Zy l k,0≤x.1∧x.1<k∧x.2.1.length=4:=by
 induction k with
 | zero=>simp[Zy]
 | succ k ih =>
  by_cases h3:3≤l.getD k 0
  ·rw[Py h3]
   refine⟨List.pairwise_append.2 ⟨ih.1,by simp,fun a ha b hb=>?_⟩,fun x hx=>?_⟩
   ·simp only[List.mem_singleton] at hb;subst hb;exact(ih.2 a ha).2.1
   ·rcases List.mem_append.1 hx with h|h
    ·have:=ih.2 x h;exact⟨this.1,by have:=this.2.1;omega,this.2.2⟩
    ·simp only[List.mem_singleton] at h;subst h;exact⟨Int.natCast_nonneg _,by show(k:Int)<((k+1:Nat):Int);omega,Zi _ _⟩
  ·rw[Np h3]
   exact⟨ih.1,fun x hx=>by have:=ih.2 x hx;exact⟨this.1,by have:=this.2.1;omega,this.2.2⟩⟩
theorem Bc(l:List Int)(k:Nat):(Zy l k).length≤k:=by
 induction k with
 | zero=>simp[Zy]
 | succ k ih =>
  by_cases h3:3≤l.getD k 0
  ·rw[Py h3];simp;exact ih
  ·rw[Np h3];omega
theorem Ba{l:List Ent}{i:Nat}(h:i<l.length):l.getD i Kd=l[i]:=by simp[List.getD,h]
theorem By(l:List Int)(k:Nat)(hk:k≤65536):EntsOk 4 (Zy l k):=by
 have h:=overK_ok l k
 refine⟨fun i hi=>?_,fun j hj=>?_,fun i hi=>?_⟩
 ·rw[Ba hi];have:=h.2 _ (List.getElem_mem hi);omega
 ·rw[Ba hj,Ba (by omega)];exact List.pairwise_iff_getElem.1 h.1 j (j+1) (by omega) hj (by omega)
 ·rw[Ba hi];exact(h.2 _ (List.getElem_mem hi)).2.2
def Nd(n:Int):Prop:=0≤n∧n≤2147483647
instance (n:Int):Decidable (Nd n):=by unfold Nd;infer_instance
def Jk(l:List Int):Int:=if 65536<l.length then 1 else if ∀ k,k<l.length→Nd (l.getD k 0) then 0 else 2
theorem Tz{l:List Int}(h:Jk l=0):l.length≤65536∧∀ k,k<l.length→Nd (l.getD k 0):=by
 unfold Jk at h
 split at h
 ·simp at h
 ·split at h
  ·exact⟨by omega,by assumption⟩
  ·simp at h
def Wz(l:List Int)(i:Nat):List Int:=(l.drop (i*960)).take 960
def Xp(l:List Int)(n:Nat):List (List Int):=(List.range n).map (Wz l)
theorem Gc(l:List Int)(n:Nat):(Xp l n).length=n:=by simp[Xp]
theorem Zgh{l:List Int}{n i:Nat}(h:i<n):(Xp l n).getD i []=Wz l i:=by simp[Xp,List.getD,h]
theorem Ik(l:List Int)(i:Nat):(Wz l i).length=min 960 (l.length-i*960):=by simp[Wz]
def Jy(l:List Int):Prop:=∀ n∈l,0≤n∧n≤3
theorem small_ok{l:List Int}(h:∀ k,k<l.length→Nd (l.getD k 0)):Jy (Zu l):=by
 intro n hn
 obtain⟨m,hm,rfl⟩:=List.mem_map.1 hn
 obtain⟨k,hk,rfl⟩:=List.getElem_of_mem hm
 have:=h k hk
 rw[show l.getD k 0=l[k] from by simp[List.getD,hk]] at this
 unfold Nd at this
 unfold mn3;split<;>omega
theorem Zfg{l:List Int}(h:Jy l)(i:Nat):Jy (Wz l i):=fun n hn=>h n (List.mem_of_mem_drop (List.mem_of_mem_take hn))
def atI (l:List Int)(i j:Nat):Int:=if j<i then l.getD j 0 else 0
def g4 (l:List Int)(i k:Nat):Int:=atI l i (4*k)+4*atI l i (4*k+1)+16*atI l i (4*k+2)+64*atI l i (4*k+3)
def g4B (l:List Int)(i k:Nat):UInt8:=UInt8.ofNat (g4 l i k).toNat
def Ph(l:List Int)(i:Nat):Bl:=leB l.length 4++(List.range 240).map (g4B l i)
theorem Qi(l:List Int)(i:Nat):(Ph l i).length=244:=by simp[Ph,Zi]
def Vw(l:List Int):Bl:=Ph l l.length
def freeK(l:List Int)(k:Nat):Nat:=((l.take k).filter fun n=>n==0).length
def Yy(l:List Int):Nat:=freeK l l.length
def Xq(l:List Int):Nat:=l.findIdx fun n=>n==0
theorem freeK_succ{l:List Int}{k:Nat}(h:k<l.length):freeK l (k+1)=freeK l k+(if l.getD k 0=0 then 1 else 0):=by
 unfold freeK
 rw[List.take_succ_eq_append_getElem h,List.filter_append,List.length_append]
 simp only[List.getD,List.getElem?_eq_getElem h,Option.getD_some]
 by_cases e:l[k]=0<;>simp[e]
theorem Rn(l:List Int)(k:Nat):freeK l k≤k:=Nat.le_trans (List.length_filter_le _ _) (by simp;omega)
theorem Sq(l:List Int):Xq l≤l.length:=List.findIdx_le_length
theorem firstN_at{l:List Int}{i:Nat}(h:i<l.length)(h0:l.getD i 0=0)(hp:∀ j,j<i→l.getD j 0≠0):Xq l=i:=by
 unfold Xq
 refine(List.findIdx_eq h).2 ⟨?_,fun j hj=>?_⟩
 ·rw[List.getD,List.getElem?_eq_getElem h] at h0;simpa using h0
 ·have:=hp j hj
  rw[List.getD,List.getElem?_eq_getElem (by omega)] at this;simpa using this
theorem Zgl{l:List Int}(hp:∀ j,j<l.length→l.getD j 0≠0):Xq l=l.length:=by
 unfold Xq
 rw[List.findIdx_eq_length]
 intro n hn
 obtain⟨k,hk,rfl⟩:=List.getElem_of_mem hn
 have:=hp k hk
 rw[List.getD,List.getElem?_eq_getElem hk] at this;simpa using this
def slotB(n f g:Int):Bl:=leB n 8++leB f 4++leB g 4
theorem slotB_len(n f g:Int):(slotB n f g).length=16:=by simp[slotB,Zi]
def Ks(L:List (List Int))(q:Nat)(bs:Bl):Nat→Bl
 | 0=>bs
 | i+1=>Vq (Ks L q bs i) ((q+i)*256) (Xs 3 ((q+i:Nat):Int) (Vw (L.getD i [])))
def slotX(L:List (List Int))(q i:Nat):Ent:=((i:Int),slotB ((q+i:Nat):Int) (Yy (L.getD i []):Int) (Xq (L.getD i []):Int),0)
def Yj(L:List (List Int))(q j:Nat):List Ent:=(List.range j).map (slotX L q)
theorem Hk(L:List (List Int))(q j:Nat):(Yj L q j).length=j:=by simp[Yj]
theorem Zgr(L:List (List Int))(q j:Nat):Yj L q (j+1)=Yj L q j++[slotX L q j]:=by simp[Yj,List.range_succ]
theorem Mb{L:List (List Int)}{q j i:Nat}(h:i<j):(Yj L q j).getD i Kd=slotX L q i:=by simp[Yj,List.getD,h]
theorem Od(L:List (List Int))(q j:Nat)(hj:j≤65536):EntsOk 16 (Yj L q j):=by
 refine⟨fun i hi=>?_,fun i hi=>?_,fun i hi=>?_⟩<;>rw[Hk] at hi
 ·rw[Mb hi];simp only[slotX];omega
 ·rw[Mb hi,Mb (by omega)];simp only[slotX];omega
 ·rw[Mb hi];exact slotB_len _ _ _
def Za7(l:List Int)(q:Nat)(bs:Bl):Int×Int×Bl :=
 let L:=Xp (Zu l) (bmN l.length)
 let x:=Yl 4 (Yj L q (bmN l.length)) (q+bmN l.length) (Ks L q bs (bmN l.length))
 let y:=Yl 5 (Zy l l.length) (q+bmN l.length+Xx 4 (bmN l.length)) x.2
 (x.1,y.1,y.2)
def Ni(l:List Int):Nat:=bmN l.length+Xx 4 (bmN l.length)+Xx 5 (Zy l l.length).length
theorem Jm{l:List Int}(h:Jy l)(i j:Nat):0≤atI l i j∧atI l i j≤3:=by
 unfold atI
 split
 ·by_cases hj:j<l.length
  ·rw[show l.getD j 0=l[j] from by simp[List.getD,hj]];exact h _ (List.getElem_mem hj)
  ·rw[show l.getD j 0=0 from by simp[List.getD,Nat.le_of_not_lt hj]];omega
 ·omega
theorem Kz{l:List Int}(h:Jy l)(j:Nat):0≤l.getD j 0∧l.getD j 0≤3:=by
 have:=Jm h (j+1) j
 unfold atI at this
 rwa [if_pos (by omega)] at this
theorem Hc{l:List Int}{i j:Nat}(h:j≠i):atI l (i+1) j=atI l i j:=by
 unfold atI
 by_cases q:j<i
 ·rw[if_pos q,if_pos (by omega)]
 ·rw[if_neg q,if_neg (by omega)]
theorem atI_eq(l:List Int)(i:Nat):atI l (i+1) i=l.getD i 0:=by unfold atI;rw[if_pos (by omega)]
theorem Mu{l:List Int}{i j:Nat}(h:i≤j):atI l i j=0:=by unfold atI;rw[if_neg (by omega)]
theorem g4_ne{l:List Int}{i k:Nat}(h:k≠i/4):g4 l (i+1) k=g4 l i k:=by
 unfold g4
 rw[Hc (by omega),Hc (by omega),Hc (by omega),Hc (by omega)]
theorem g4_at{l:List Int}(h:Jy l){i q r:Nat}(hi:i=4*q+r)(hr:r<4):g4 l (i+1) q=g4 l i q+l.getD i 0*4 ^ r∧0≤g4 l i q∧g4 l i q<4 ^ r:=by
 have b0:=Jm h i (4*q)
 have b1:=Jm h i (4*q+1)
 have b2:=Jm h i (4*q+2)
 have b3:=Jm h i (4*q+3)
 unfold g4
 obtain rfl|rfl|rfl|rfl:r=0∨r=1∨r=2∨r=3:=by omega
 ·rw[show 4*q=i from by omega,atI_eq,Hc (by omega),Hc (by omega),Hc (by omega),Mu (Nat.le_refl i),Mu (Nat.le_add_right i 1),Mu (Nat.le_add_right i 2),Mu (Nat.le_add_right i 3)]
  omega
 ·have e2:atI l i (4*q+2)=0:=Mu (by omega)
  have e3:atI l i (4*q+3)=0:=Mu (by omega)
  have e1:atI l i (4*q+1)=0:=Mu (by omega)
  rw[Hc (j:=4*q) (by omega),Hc (j:=4*q+2) (by omega),Hc (j:=4*q+3) (by omega),e1,e2,e3,←hi,atI_eq]
  omega
 ·have e2:atI l i (4*q+2)=0:=Mu (by omega)
  have e3:atI l i (4*q+3)=0:=Mu (by omega)
  rw[Hc (j:=4*q) (by omega),Hc (j:=4*q+1) (by omega),Hc (j:=4*q+3) (by omega),e2,e3,←hi,atI_eq]
  omega
 ·have e3:atI l i (4*q+3)=0:=Mu (by omega)
  rw[Hc (j:=4*q) (by omega),Hc (j:=4*q+1) (by omega),Hc (j:=4*q+2) (by omega),e3,←hi,atI_eq]
  omega
theorem g4B_at{l:List Int}(h:Jy l){i:Nat}:((g4B l (i+1) (i/4)).toNat:Int)=((g4B l i (i/4)).toNat:Int)+l.getD i 0*4 ^ (i%4)∧(g4B l i (i/4)).toNat<4 ^ (i%4):=by
 obtain⟨h1,h2,h3⟩:=g4_at h (show i=4*(i/4)+i%4 by omega) (by omega)
 have hn:=Kz h i
 have hp:(4:Int) ^ (i%4)≤64:=by
  have:i%4<4:=by omega
  obtain e|e|e|e:i%4=0∨i%4=1∨i%4=2∨i%4=3:=by omega
  all_goals rw[e];decide
 have a0:(0:Int)<4 ^ (i%4):=Int.pow_pos (by decide)
 generalize hP:(4:Int) ^ (i%4)=Pq at *
 have hq:l.getD i 0*Pq≤3*Pq:=Int.mul_le_mul_of_nonneg_right hn.2 (by omega)
 have a1:0≤l.getD i 0*Pq:=Int.mul_nonneg hn.1 (by omega)
 generalize l.getD i 0*Pq=M at *
 have a2:((4 ^ (i%4):Nat):Int)=Pq:=by rw[←hP];simp
 unfold g4B
 rw[UInt8.toNat_ofNat',UInt8.toNat_ofNat',h1]
 omega
def Zb7(gs:List (Nat×Nat))(L:List (List Int))(i:Nat):Value:=.slice (some ⟨(gs.getD i (0,0)).1,0,none⟩) (L.getD i []).length (gs.getD i (0,0)).2
structure Lists(w:World)(base:Nat)(v:Value)(gs:List (Nat×Nat))(L:List (List Int)):Prop where
 row:w.ownsRow base 34 1 v L.length ((List.range L.length).map (Zb7 gs L))
 each:∀ i,i<L.length→w.ownsRow base 3 1 (Zb7 gs L i) (L.getD i []).length ((L.getD i []).map (Value.int .i64))
theorem Lists.below{w W:World}{base:Nat}{v:Value}{gs:List (Nat×Nat)}{L:List (List Int)}(h:Lists w base v gs L)(hb:B3 w W):Lists W base v gs L:=⟨Zb h.row hb,fun i hi=>Zb (h.each i hi) hb⟩
theorem Lists.only{T:List TypeId}{w W:World}{base:Nat}{v:Value}{gs:List (Nat×Nat)}{L:List (List Int)}(h:Lists w base v gs L)(hO:Zf T w W)(hT:T.contains 34=false∧T.contains 3=false):Lists W base v gs L:=⟨Zj h.row hO hT.1,fun i hi=>Zj (h.each i hi) hO hT.2⟩
theorem Lists.elem{w:World}{base:Nat}{p:O0}{n c:Nat}{gs:List (Nat×Nat)}{L:List (List Int)}(h:Lists w base (.slice p n c) gs L)(hn:L.length=n){k:Nat}(hk:k<n):p.isSome=true∧w.cell? (Xd p (k*1))=some (Zb7 gs L k):=by
 subst hn
 rw[Nat.mul_one]
 exact Sl.elem (Ze h.row) (by simp[hk])
theorem Lists.mono{w:World}{base base':Nat}{v:Value}{gs:List (Nat×Nat)}{L:List (List Int)}(h:Lists w base' v gs L)(hb:base≤base'):Lists w base v gs L:=⟨Zd h.row hb,fun i hi=>Zd (h.each i hi) hb⟩
def FrB (B:Nat)(S:List Nat)(w W:World):Prop:=w.heap.size≤W.heap.size∧∀ k,k<B→k∉S→W.heap[k]? = w.heap[k]?
theorem Fr.trans_B{S S':List Nat}{a w W:World}(h:Fr S a w)(k:FrB a.heap.size S' w W)(hs:∀ k∈S',k∈S):Fr S a W:=⟨Nat.le_trans h.size k.1,fun i hi hn=>(k.2 i hi fun q=>hn (hs i q)).trans (h.block i hi hn)⟩
theorem or_step:∀ r:Fin 4,∀ n:Fin 4,∀ o:Fin 64,o.val<4 ^ r.val→o.val ||| (n.val*4 ^ r.val)=o.val+n.val*4 ^ r.val:=by decide
theorem Ze3(kind no:Int)(a:O0)(n c:Nat)(l:Bl)(w:World)(hn:l.length=n)(h:Bys w (.slice a n c) l):C0 92 #[.slice a n c,V0 kind,V0 no] w (OpenP kind no l w):=by
 subst hn;exact Zcu kind no a c l w h
theorem bits_ReadN(a:O0)(n c:Nat)(l:Bl)(w:World)(hn:l.length=n)(hl:n≤100000000)(h:Bys w (.slice a n c) l):C0 133 #[.slice a n c] w (BitsP l w):=by
 subst hn;exact bits_Read a c l w hl h
def Ww(l:Bl):Bool:=decide (l.length=244)&&decide (Zg l 0 4≤960)&&(List.range 960).all fun i=>decide (i<Zg l 0 4)||Ay l i==0
theorem Ga(l:Bl):Ww l=true↔bitsOk l:=by
 unfold Ww bitsOk
 simp only[Bool.and_eq_true,decide_eq_true_eq,List.all_eq_true,List.mem_range,Bool.or_eq_true,beq_iff_eq]
 constructor
 ·rintro⟨⟨h1,h2⟩,h3⟩
  exact⟨h1,h2,fun i hi hc=>(h3 i hi).resolve_left (by omega)⟩
 ·rintro⟨h1,h2,h3⟩
  exact⟨⟨h1,h2⟩,fun i hi=>by by_cases h:i<Zg l 0 4;exact .inl h;exact .inr (h3 i hi (by omega))⟩
def Xn(l:Bl)(no:Int):Int:=if inE l 3 no=0 then(if Ww (inB l no) then 0 else 7) else inE l 3 no
def Zg5(l:Bl)(no:Int)(w:World)(e:Ending)(w':World):Prop :=
 (Xn l no≠0∧∃ b,e=.returned (.tuple #[S0,.iface 188 (P0 b)])∧B3 w w'∧Hb w' [some no] (some (Xn l no)) (.iface 188 (P0 b))) ∨
 (Xn l no=0∧∃ p c,e=.returned (.tuple #[.slice p (Zg (inB l no) 0 4) c,.nilIface])∧B3 w w'∧w'.ownsRow w.heap.size 3 1 (.slice p (Zg (inB l no) 0 4) c) (Zg (inB l no) 0 4) ((Fv (inB l no) (Zg (inB l no) 0 4)).map nv))
theorem readB(B b:Nat)(p:O0)(n c:Nat)(l:Bl)(no:Int)(w:World)(hI:ImgR B b p n c l w) :
 C0 132 #[P0 b,V0 no,V0 3,.func (.func 133) #[] #[]] w (Zg5 l no w):=by
 refine zin 56 Tryz.func132 ?_
 refine xc 15 (args:=#[P0 b,V0 no]) (Eh B b p n c l no _ (hI.below (B4 w))) ?_
 rintro e W1 b8
 rcases b8 with ⟨ho,vr,rfl,a0⟩|⟨j,hk,hj,p2,c2,rfl,a0,ho⟩
 ·refine xc 21 (args:=#[V0 no,.iface 50 (V0 3)]) (Yp no 3 _) ?_
  rintro _ W2 ⟨_,rfl,b3,a4⟩
  rw[if_neg (by decide),if_neg (by decide)] at a4
  have d0:=a4
  obtain⟨b9,d2,rfl,_,_⟩:=d0
  have hB:=bln a0 b3
  refine xe 6 (.tuple #[S0,.iface 188 (P0 b9)]) ?_
  have he:Xn l no=3:=by unfold Xn;rw[Sg hI.len ho];rfl
  exact .inl ⟨by rw[he];decide,_,rfl,hB,by rw[he];exact a4⟩
 have c5:=Nat.le_refl w.heap.size
 have c7:j<l.length/256:=by rw[hI.len];exact hj
 have b1:=Vi c7
 have a7:=Zaa (l:=l) (kind:=3) hI.len hk hj
 have a5:=Zd ho c5
 refine xc 22 (args:=#[.slice p2 256 c2,V0 3,V0 no]) (Ze3 3 no p2 256 c2 (Yx l j) _ b1 (Yk (Ze a5) b1)) ?_
 rintro e W3 b6
 rcases b6 with ⟨hs,rfl,a2⟩|⟨hs,p3,c3,rfl,a2,h3⟩
 ·refine xk 14 (show(((Yg 3 no (Yx l j)) != (0:Int)):Bool)=true from bne_iff_ne.2 hs) ?_
  refine xc 6 (args:=#[V0 no,.iface 50 (V0 (Yg 3 no (Yx l j)))]) (Yp no (Yg 3 no (Yx l j)) _) ?_
  rintro _ W4 ⟨_,rfl,c8,a9⟩
  rw[if_neg hs,if_neg hs] at a9
  have c9:=a9
  obtain⟨b4,d3,rfl,_,_⟩:=c9
  have hB:=bln (bln a0 a2) c8
  refine xe 6 (.tuple #[S0,.iface 188 (P0 b4)]) ?_
  have he:Xn l no=Yg 3 no (Yx l j):=by unfold Xn;rw[a7,if_neg hs]
  exact .inl ⟨by rw[he];exact hs,_,rfl,hB,by rw[he];exact a9⟩
 have a1:=Zd h3 a0.size
 have c1:((Yx l j).drop 8).take 244=inB l no:=(Oc hk).symm
 have b2:=Zfo hI.len hk hj
 rw[c1] at a1
 refine xc 21 (args:=#[.slice p3 244 c3]) (bits_ReadN p3 244 c3 (inB l no) _ b2 (by decide) (Yk (Ze a1) b2)) ?_
 rintro e W5 b5
 rcases b5 with ⟨a8,rfl,b0⟩|⟨a8,p4,c4,rfl,b0,h4⟩
 ·refine xc 21 (args:=#[V0 no,.iface 50 (V0 7)]) (Yp no 7 _) ?_
  rintro _ W6 ⟨_,rfl,d1,a6⟩
  rw[if_neg (by decide),if_neg (by decide)] at a6
  have c0:=a6
  obtain⟨c6,d4,rfl,_,_⟩:=c0
  have hB:=bln (bln (bln a0 a2) b0) d1
  refine xe 6 (.tuple #[S0,.iface 188 (P0 c6)]) ?_
  have he:Xn l no=7:=by unfold Xn;rw[a7,if_pos hs,if_neg (by rw[Ga];exact a8)]
  exact .inl ⟨by rw[he];decide,_,rfl,hB,by rw[he];exact a6⟩
 have b7:=(bln a0 a2).size
 have hB:=bln (bln a0 a2) b0
 have a3:=Zd h4 b7
 exact xe 25 (.tuple #[.slice p4 (Zg (inB l no) 0 4) c4,.nilIface]) (.inr ⟨by unfold Xn;rw[a7,if_pos hs,if_pos ((Ga _).2 a8)],_,_,rfl,hB,a3⟩)
theorem block_Bits(B b:Nat)(p:O0)(n c:Nat)(l:Bl)(no:Int)(w:World)(hI:ImgR B b p n c l w) :
 C0 80 #[P0 b,V0 no] w (Zg5 l no w):=by
 refine zin 11 Tryz.func80 ?_
 refine xc 10 (args:=#[P0 b,V0 no,V0 3,.func (.func 133) #[] #[]]) (readB B b p n c l no _ (hI.below (B4 w))) ?_
 rintro e W1 a3
 rcases a3 with ⟨he,bf,rfl,a0,hv⟩|⟨he,p4,c4,rfl,a0,h4⟩
 ·exact xe 7 (.tuple #[S0,.iface 188 (P0 bf)]) (.inl ⟨he,_,rfl,a0,hv⟩)
 have a2:=Nat.le_refl w.heap.size
 have a1:=Zd h4 a2
 exact xe 7 (.tuple #[.slice p4 (Zg (inB l no) 0 4) c4,.nilIface]) (.inr ⟨he,_,_,rfl,a0,a1⟩)
def Lw(l:List Int)(n:Nat):List Int:=(List.range 960).map (atI l n)
theorem Rc(l:List Int)(n:Nat):(Lw l n).length=960:=by simp[Lw]
theorem padI_get(l:List Int)(n:Nat){k:Nat}(h:k<960):(Lw l n).getD k 0=atI l n k:=by simp[Lw,List.getD,List.getElem?_range h]
theorem padN_zero(l:List Int)(n:Nat):(List.range n).map (atI l 0)=List.replicate n 0:=by
 apply List.ext_getElem
 ·simp
 ·intro i h1 h2;simp[atI]
theorem padI_zero(l:List Int):Lw l 0=List.replicate 960 0:=padN_zero l 960
theorem padN_set{l:List Int}{i n:Nat}(hi:i<n):(((List.range n).map (atI l i)).map V0).set i (V0 (l.getD i 0))=((List.range n).map (atI l (i+1))).map V0:=by
 rw[←List.map_set]
 congr 1
 apply List.ext_getElem
 ·simp
 ·intro k h1 h2
  rw[List.getElem_set]
  simp only[List.getElem_map,List.getElem_range,atI]
  by_cases e:i=k
  ·subst e;rw[if_pos rfl,if_pos (by omega)]
  ·rw[if_neg e]
   by_cases h3:k<i
   ·rw[if_pos h3,if_pos (by omega)]
   ·rw[if_neg h3,if_neg (by omega)]
theorem padI_set{l:List Int}{i:Nat}(hi:i<960):((Lw l i).map V0).set i (V0 (l.getD i 0))=(Lw l (i+1)).map V0:=padN_set hi
theorem zeros960:Hy (Value.int .i64 0).cells.toList 960=(List.replicate 960 (0:Int)).map V0:=by
 rw[show(Value.int .i64 0).cells.toList=[Value.int .i64 0] from rfl,Hy,List.map_replicate]
 generalize 960=n
 induction n with
 | zero=>rfl
 | succ n ih=>rw[List.replicate_succ,List.flatten_cons,ih,List.replicate_succ];rfl
def grpB(l:List Int)(k:Nat):Bl:=leB l.length 4++(List.range k).map (g4B l l.length)
theorem grpB_succ(l:List Int)(k:Nat):grpB l (k+1)=grpB l k++[g4B l l.length k]:=by simp[grpB,List.range_succ]
theorem g4_u8{x:Int}(h0:0≤x)(h1:x<256):IntKind.u8.wrap x=((UInt8.ofNat x.toNat).toNat:Int):=by
 rw[UInt8.toNat_ofNat',Nat.mod_eq_of_lt (by omega),IntWalk.u8_in x (by omega)];omega
theorem ref09_Put(a:O0)(c:Nat)(l:List Int)(w:World)(hS:Jy l)(hl:l.length≤960)(h:Sl w (.slice a l.length c) l.length (l.map V0)) :
 C0 204 #[.slice a l.length c] w (Qe (fun w' r=>∃ p c,r=.tuple #[.slice p 244 c,V0 0]∧w'.ownsRow w.heap.size 5 1 (.slice p 244 c) 244 ((Vw l).map bv)) w):=by
 refine zin 74 Tryz.func204 ?_
 refine xk 14 (show(decide ((l.length:Int)>(960:Int)):Bool)=false from decide_eq_false (by omega)) ?_
 refine xmk 4 fun _ _ _ _ zJ zQ zo zx zy zK=>Kf 960 (V0 0) 1 8 ((List.replicate 960 (0:Int)).map V0) zo zx zy Tryz.underlying34 (by kernel_rfl) rfl (by omega) (by omega) (zeros960) fun b1 W1 n1=>?_
 refine zK _ _ ?_
 have o1:=Xb (size:=1) (n:=960) n1.blk (n1.ge (B4 w)) (by rw[List.length_map,List.length_replicate]) (by unfold maxLen;omega)
 refine zl 10 74 (fun zm b0 V=>∃ (i:Nat),b0=[(0,.slice a l.length c),(4,.slice (S1 b1) 960 960),(5,V0 (i:Int))]∧zm=l.length-((i:Int)).toNat∧B3 w V∧V.ownsRow w.heap.size 3 1 (.slice (S1 b1) 960 960) 960 ((Lw l i).map V0)∧i≤l.length) ⟨0,rfl,rfl,n1.below,(by rw[padI_zero];exact o1),Nat.zero_le _⟩ ?_
 rintro _ _ W2 ⟨i,rfl,rfl,a0,ho,hi⟩ J2 c7 r2
 refine xid 9 ((i:Int)<(l.length:Int)) (fun c1=>?_) (fun c1=>?_)
 ·refine xx 9 _ l.length i 1 (IntsN.elem h rfl (k:=i) (by omega)).1 ?_
  refine xl 0 ((IntsN.elem (h.below a0) rfl (k:=i) (by omega)).2) ?_
  refine xgk 2 [22,23] (show(decide ((l.getD i 0)<(0:Int)):Bool)=false from decide_eq_false (by have:=Kz hS i;omega)) ?_
  refine xx 2 _ l.length i 1 (IntsN.elem h rfl (k:=i) (by omega)).1 ?_
  refine xl 0 ((IntsN.elem (h.below a0) rfl (k:=i) (by omega)).2) ?_
  refine xk 4 (show(decide ((l.getD i 0)>(3:Int)):Bool)=false from decide_eq_false (by have:=Kz hS i;omega)) ?_
  refine xx 7 _ l.length i 1 (IntsN.elem h rfl (k:=i) (by omega)).1 ?_
  refine xl 0 ((IntsN.elem (h.below a0) rfl (k:=i) (by omega)).2) ?_
  refine xx 0 _ 960 i 1 (show(some (⟨b1,0,none⟩:Addr)).isSome=true from rfl) ?_
  refine xst 0 fun _ _ _ _ zJ zQ zo zx zy zK=>Hp (t:=3) (k:=i) (v:=V0 (l.getD i 0)) zo zx zy (by kernel_rfl) rfl ho (by omega) fun W5 u5 o5=>?_
  rw[padI_set (l:=l) (i:=i) (by omega)] at o5
  refine zK _ _ ?_
  refine xwm 5 ((i:Int)+1) (↑(i+1):Int) ?_
  have b2:=u5.below a0 (Cb ho)
  exact ze 2 (c7 _ _ _ ⟨i+1,rfl,rfl,b2,o5,by omega⟩ (by omega))
 refine xc 9 (args:=#[V0 (l.length:Int),V0 4]) (De (l.length:Int) 4 4 _ (Int.natCast_nonneg _) (by omega) rfl (by decide)) ?_
 rintro _ W6 ⟨_,rfl,b8,p4,c4,rfl,h4⟩
 have c3:i=l.length:=by omega
 have b4:=Zb ho b8
 have a9:=Zd h4 a0.size
 have b6:=bln a0 b8
 refine zl 10 74 (fun zm b0 V=>∃ (k m:Nat) (q:O0) (d:Nat),b0=[(4,.slice (S1 b1) 960 960),(6,.slice q m d),(7,V0 (↑(4*k):Int))]∧zm=960-((↑(4*k):Int)).toNat∧B3 w V∧V.ownsRow w.heap.size 3 1 (.slice (S1 b1) 960 960) 960 ((Lw l l.length).map V0)∧V.ownsRow w.heap.size 5 1 (.slice q m d) m ((grpB l k).map bv)∧k≤240∧m=4+k) ⟨0,4,_,_,rfl,rfl,b6,(by rw[←c3];exact b4),(by simpa [grpB] using a9),Nat.zero_le _,rfl⟩ ?_
 rintro _ _ W7 ⟨k,m,q,d,rfl,rfl,a8,hq,hr,hk,hm⟩ J7 c6 r7
 have hp:∀ j,j<960→(Lw l l.length).getD j 0=atI l l.length j:=fun j hj=>padI_get l _ hj
 have d2:=Jm hS l.length (4*k)
 have d1:=Jm hS l.length (4*k+1)
 have c9:=Jm hS l.length (4*k+2)
 have d3:=Jm hS l.length (4*k+3)
 have h9:k<240→(Lw l l.length).getD (4*k) 0=atI l l.length (4*k)∧(Lw l l.length).getD (4*k+1) 0=atI l l.length (4*k+1)∧(Lw l l.length).getD (4*k+2) 0=atI l l.length (4*k+2)∧(Lw l l.length).getD (4*k+3) 0=atI l l.length (4*k+3):=fun q=>⟨hp _ (by omega),hp _ (by omega),hp _ (by omega),hp _ (by omega)⟩
 refine xid 7 ((↑(4*k):Int)<(960:Int)) (fun c5=>?_) (fun c5=>?_)
 ·refine xd 4 (.t w.heap.size [5]) ?_
  refine xx (.e [0,1,2] 3) _ 960 (4*k) 1 (show(some (⟨b1,0,none⟩:Addr)).isSome=true from rfl) ?_
  have a1:=Zb hq (Za W7)
  refine xlt (.e [] 4) (.t w.heap.size [5]) (fun V hV=>(IntsN.elem (Ze (Zj a1 hV.2 (by decide))) (Rc l l.length) (k:=(4*k)) (by omega)).2) ?_
  refine xwm (.e [5,6] 7) ((↑(4*k):Int)+1) (↑((4*k)+1):Int) ?_
  refine xx (.e [] 8) _ 960 ((4*k)+1) 1 (show(some (⟨b1,0,none⟩:Addr)).isSome=true from rfl) ?_
  refine xlt (.e [] 9) (.t w.heap.size [5]) (fun V hV=>(IntsN.elem (Ze (Zj a1 hV.2 (by decide))) (Rc l l.length) (k:=((4*k)+1)) (by omega)).2) ?_
  refine xw (.e [] 10) (4*((Lw l l.length).getD ((4*k)+1) 0)) ?_
  refine xw (.e [] 11) (((Lw l l.length).getD (4*k) 0)+(4*((Lw l l.length).getD ((4*k)+1) 0))) ?_
  refine xwm (.e [12,13] 14) ((↑(4*k):Int)+2) (↑((4*k)+2):Int) ?_
  refine xx (.e [] 15) _ 960 ((4*k)+2) 1 (show(some (⟨b1,0,none⟩:Addr)).isSome=true from rfl) ?_
  refine xlt (.e [] 16) (.t w.heap.size [5]) (fun V hV=>(IntsN.elem (Ze (Zj a1 hV.2 (by decide))) (Rc l l.length) (k:=((4*k)+2)) (by omega)).2) ?_
  refine xw (.e [] 17) (16*((Lw l l.length).getD ((4*k)+2) 0)) ?_
  refine xw (.e [] 18) (((Lw l l.length).getD (4*k) 0)+(4*((Lw l l.length).getD ((4*k)+1) 0))+(16*((Lw l l.length).getD ((4*k)+2) 0))) ?_
  refine xwm (.e [19,20] 21) ((↑(4*k):Int)+3) (↑((4*k)+3):Int) ?_
  refine xx (.e [] 22) _ 960 ((4*k)+3) 1 (show(some (⟨b1,0,none⟩:Addr)).isSome=true from rfl) ?_
  refine xlt (.e [] 23) (.t w.heap.size [5]) (fun V hV=>(IntsN.elem (Ze (Zj a1 hV.2 (by decide))) (Rc l l.length) (k:=((4*k)+3)) (by omega)).2) ?_
  refine xw (.e [] 24) (64*((Lw l l.length).getD ((4*k)+3) 0)) ?_
  refine xw (.e [] 25) (((Lw l l.length).getD (4*k) 0)+(4*((Lw l l.length).getD ((4*k)+1) 0))+(16*((Lw l l.length).getD ((4*k)+2) 0))+(64*((Lw l l.length).getD ((4*k)+3) 0))) ?_
  refine xq (.e [] 26) (congrArg (Value.int .u8) (show(IntKind.u8.wrap (((Lw l l.length).getD (4*k) 0)+(4*((Lw l l.length).getD ((4*k)+1) 0))+(16*((Lw l l.length).getD ((4*k)+2) 0))+(64*((Lw l l.length).getD ((4*k)+3) 0))):Int)=(↑(g4B l l.length k).toNat:Int) from by obtain⟨q0,q1,q2,q3⟩:=h9 (by omega);rw[q0,q1,q2,q3];exact g4_u8 (by omega) (by omega))) ?_
  refine xbs (.o [] 27) 1 [.int .u8 (↑(g4B l l.length k).toNat:Int)] 5 fun b9 W9 n9=>?_
  have a5:=bln a8 (Za W7)
  have g9:=n9.ge a5
  have a4:=Zb hr (Za W7)
  have b7:=Zn a4 n9
  have a2:=Zb a4 n9.below
  have a6:=bln a5 n9.below
  refine ybi (.o [] 28) (.t w.heap.size [5]) fun _ _ _ _ zJ zQ zo zx zy zK=>Zr (m:=1) (news:=[.int .u8 (↑(g4B l l.length k).toNat:Int)]) (.int .u8 0) 1 1 (m+1) (((grpB l (k+1)).map bv)) zo Tryz.underlying22 (by kernel_rfl) rfl (by decide) zx a2 zy (n9.blk.sl 1 1 (by decide) (by decide)) rfl (by simp[Value.oneCell']) (by unfold maxLen;omega) (by omega) a6.size (by rfl) (by rw[grpB_succ,List.map_append];rfl) fun c2 c8 d0 c0 a3 a7=>?_
  refine zK _ _ (Zx a7 a3 a2 (by decide)) ?_
  refine xwm (.r [29] 5) ((↑(4*k):Int)+4) (↑((4*k)+4):Int) ?_
  refine xv1 2 7 (show(V0 (↑((4*k)+4):Int):Value)=V0 (↑(4*(k+1)):Int) from by congr 1) ?_
  have b5:=a6.trans a7
  have b3:=Xj (Zb a1 n9.below) a3 a2 (by decide)
  exact ze 0 (c6 _ _ _ ⟨k+1,m+1,_,_,rfl,rfl,b5,b3,c0,by omega,by omega⟩ (by omega))
 refine xe 13 (.tuple #[.slice q m d,V0 0]) ?_
 obtain rfl:k=240:=by omega
 subst hm
 exact⟨_,rfl,a8,_,_,rfl,hr⟩
def Qo(K:List Int)(n:Nat)(i:Nat):Bl:=(List.range i).flatMap fun j=>if j<n then leB (K.getD j 0) 8 else List.replicate 8 0
theorem Vv(K:List Int)(n i:Nat):Qo K n (i+1)=Qo K n i++(if i<n then leB (K.getD i 0) 8 else List.replicate 8 0):=by
 unfold Qo;rw[List.range_succ,List.flatMap_append];simp
theorem Hi(K:List Int)(n i:Nat):(Qo K n i).length=i*8:=by
 induction i with
 | zero=>rfl
 | succ i ih=>rw[Vv,List.length_append,ih];split<;>simp[Zi]<;>omega
def Vn(Vs:List Bl)(i:Nat):Bl:=(List.range i).flatMap fun j=>Vs.getD j []
theorem We(Vs:List Bl)(i:Nat):Vn Vs (i+1)=Vn Vs i++Vs.getD i []:=by
 unfold Vn;rw[List.range_succ,List.flatMap_append];simp
theorem Nu{Vs:List Bl}{v:Nat}:∀ {i:Nat},(∀ j,j<i→(Vs.getD j []).length=v)→(Vn Vs i).length=i*v
 | 0,_=>by simp[Vn]
 | i+1,h=>by rw[We,List.length_append,Nu fun j hj=>h j (by omega),h i (by omega),Nat.add_mul,Nat.one_mul]
theorem Za8{P z Q x:Bl}{k:Nat}(hk:P.length=k)(hz:z.length=x.length):Vq (P++z++Q) k x=P++x++Q:=by
 unfold Vq
 subst hk
 rw[List.append_assoc P z Q,List.take_left' rfl,←hz]
 have e:P++(z++Q)=(P++z)++Q:=(List.append_assoc _ _ _).symm
 rw[e,List.drop_left' (by simp)]
theorem Hs(K:List Int)(i:Nat):∀ d,Qo K i (i+d)=Qo K i i++List.replicate (d*8) 0
 | 0=>by simp
 | d+1=>by
  rw[←Nat.add_assoc,Vv,Hs K i d,if_neg (by omega),List.append_assoc,List.replicate_append_replicate,Nat.add_mul,Nat.one_mul]
theorem Da(K:List Int)(n:Nat):∀ i,i≤n→Qo K n i=Qo K i i
 | 0,_=>rfl
 | i+1,h=>by
  rw[Vv,Vv,if_pos (by omega),if_pos (by omega),Da K n i (by omega),Da K (i+1) i (by omega)]
theorem Za4(a b:Nat):List.replicate (a+b) (0:UInt8)=List.replicate a 0++List.replicate b 0:=List.replicate_append_replicate.symm
theorem Iq{m v:Nat}{H:Bl}{K:List Int}{Vs:List Bl}(hH:H.length=12)(hf:12+m*8+m*v≤244):∀ {i:Nat},i≤m→(∀ j,j<i→(Vs.getD j []).length=v) →
  Gd m v H K Vs i=H++Qo K i m++Vn Vs i++List.replicate (232-m*8-i*v) 0
 | 0,_,_=>by
  have e1:=Hs K 0 m
  rw[Nat.zero_add] at e1
  rw[Gd,e1]
  have h1:(232-m*8-0*v)=232-m*8:=by omega
  rw[h1,show(244:Nat)=12+(m*8+(232-m*8)) by omega,Za4,Za4]
  have:=Za8 (P:=[]) (z:=List.replicate 12 (0:UInt8)) (Q:=List.replicate (m*8) 0++List.replicate (232-m*8) 0) (x:=H) (k:=0) rfl (by simp[hH])
  rw[List.nil_append,List.nil_append] at this
  rw[this]
  simp[Qo,Vn]
 | i+1,hi,hV=>by
  have ih:=Iq (K:=K) hH hf (i:=i) (by omega) (fun j hj=>hV j (by omega))
  have a4:=hV i (by omega)
  have h2:(i+1)*v≤m*v:=Nat.mul_le_mul_right v hi
  rw[Nat.add_mul,Nat.one_mul] at h2
  obtain⟨d,hd⟩:∃ d,m=i+(d+1):=⟨m-i-1,by omega⟩
  have ek:Qo K i m=Qo K i i++List.replicate 8 0++List.replicate (d*8) 0:=by
   rw[hd,Hs,show(d+1)*8=8+d*8 by omega,Za4,List.append_assoc]
  have a3:Qo K (i+1) m=Qo K i i++leB (K.getD i 0) 8++List.replicate (d*8) 0:=by
   rw[show m=(i+1)+d by omega,Hs,Vv,if_pos (by omega),Da K (i+1) i (by omega)]
  have er:List.replicate (232-m*8-i*v) (0:UInt8)=List.replicate v 0++List.replicate (232-m*8-(i*v+v)) 0:=by
   rw[←Za4];congr 1;omega
  have a0:(Vn Vs i).length=i*v:=Nu fun j hj=>hV j (by omega)
  rw[Gd,ih,ek,er]
  have s1:=Za8 (P:=H++Qo K i i) (z:=List.replicate 8 (0:UInt8)) (Q:=List.replicate (d*8) 0++(Vn Vs i++(List.replicate v 0++List.replicate (232-m*8-(i*v+v)) 0))) (x:=leB (K.getD i 0) 8) (k:=12+i*8) (by rw[List.length_append,hH,Hi]) (by simp[Zi])
  have a1:H++(Qo K i i++List.replicate 8 0++List.replicate (d*8) 0)++Vn Vs i++(List.replicate v 0++List.replicate (232-m*8-(i*v+v)) 0)=H++Qo K i i++List.replicate 8 0++(List.replicate (d*8) 0++(Vn Vs i++(List.replicate v 0++List.replicate (232-m*8-(i*v+v)) 0))):=by simp only[List.append_assoc]
  rw[a1,s1]
  have s2:=Za8 (P:=H++Qo K (i+1) m++Vn Vs i) (z:=List.replicate v (0:UInt8)) (Q:=List.replicate (232-m*8-(i*v+v)) 0) (x:=Vs.getD i []) (k:=12+m*8+i*v) (by rw[List.length_append,List.length_append,hH,Hi,a0]) (by rw[List.length_replicate,a4])
  have a2:H++Qo K i i++leB (K.getD i 0) 8++(List.replicate (d*8) 0++(Vn Vs i++(List.replicate v 0++List.replicate (232-m*8-(i*v+v)) 0)))=H++Qo K (i+1) m++Vn Vs i++List.replicate v 0++List.replicate (232-m*8-(i*v+v)) 0:=by rw[a3];simp only[List.append_assoc]
  rw[a2,s2,We,Nat.add_mul,Nat.one_mul]
  simp only[List.append_assoc]
theorem Et(w:World) :
 C0 206 #[V0 1,.bool true] w (Ret (V0 4) w):=by
 refine zin 19 Tryz.func206 ?_
 refine xbs 7 6 [V0 0,V0 4,V0 8,V0 24,V0 16,V0 4] 3 fun b1 W1 n1=>?_
 refine xb 32 1 n1.blk ?_
 exact xe 4 (V0 4) ⟨rfl,n1.below⟩
theorem ref07_Max1(w:World) :
 C0 207 #[V0 1,.bool true] w (Ret (V0 18) w):=by
 refine zin 16 Tryz.func207 ?_
 refine xr 10 (args:=#[V0 1,.bool true]) (Et _) fun W1 a0=>?_
 exact xe 18 (V0 18) ⟨rfl,a0⟩
theorem Fb(w:World) :
 C0 206 #[V0 2,.bool true] w (Ret (V0 8) w):=by
 refine zin 19 Tryz.func206 ?_
 refine xbs 7 6 [V0 0,V0 4,V0 8,V0 24,V0 16,V0 4] 3 fun b1 W1 n1=>?_
 refine xb 32 2 n1.blk ?_
 exact xe 4 (V0 8) ⟨rfl,n1.below⟩
theorem ref07_Max2(w:World) :
 C0 207 #[V0 2,.bool true] w (Ret (V0 12) w):=by
 refine zin 16 Tryz.func207 ?_
 refine xr 10 (args:=#[V0 2,.bool true]) (Fb _) fun W1 a0=>?_
 exact xe 25 (V0 12) ⟨rfl,a0⟩
theorem Fm(w:World) :
 C0 206 #[V0 3,.bool true] w (Ret (V0 24) w):=by
 refine zin 19 Tryz.func206 ?_
 refine xbs 7 6 [V0 0,V0 4,V0 8,V0 24,V0 16,V0 4] 3 fun b1 W1 n1=>?_
 refine xb 32 3 n1.blk ?_
 exact xe 4 (V0 24) ⟨rfl,n1.below⟩
theorem ref07_Max3(w:World) :
 C0 207 #[V0 3,.bool true] w (Ret (V0 6) w):=by
 refine zin 16 Tryz.func207 ?_
 refine xr 10 (args:=#[V0 3,.bool true]) (Fm _) fun W1 a0=>?_
 exact xe 39 (V0 6) ⟨rfl,a0⟩
theorem Fe(w:World) :
 C0 206 #[V0 4,.bool true] w (Ret (V0 16) w):=by
 refine zin 19 Tryz.func206 ?_
 refine xbs 7 6 [V0 0,V0 4,V0 8,V0 24,V0 16,V0 4] 3 fun b1 W1 n1=>?_
 refine xb 32 4 n1.blk ?_
 exact xe 4 (V0 16) ⟨rfl,n1.below⟩
theorem ref07_Max4(w:World) :
 C0 207 #[V0 4,.bool true] w (Ret (V0 9) w):=by
 refine zin 16 Tryz.func207 ?_
 refine xr 10 (args:=#[V0 4,.bool true]) (Fe _) fun W1 a0=>?_
 exact xe 32 (V0 9) ⟨rfl,a0⟩
theorem Fc(w:World) :
 C0 206 #[V0 5,.bool true] w (Ret (V0 4) w):=by
 refine zin 19 Tryz.func206 ?_
 refine xbs 7 6 [V0 0,V0 4,V0 8,V0 24,V0 16,V0 4] 3 fun b1 W1 n1=>?_
 refine xb 32 5 n1.blk ?_
 exact xe 4 (V0 4) ⟨rfl,n1.below⟩
theorem ref07_Max5(w:World) :
 C0 207 #[V0 5,.bool true] w (Ret (V0 18) w):=by
 refine zin 16 Tryz.func207 ?_
 refine xr 10 (args:=#[V0 5,.bool true]) (Fc _) fun W1 a0=>?_
 exact xe 18 (V0 18) ⟨rfl,a0⟩
theorem Bu(t:Int)(w:World)(h1:1≤t)(h2:t≤5) :
 C0 206 #[V0 t,.bool false] w (Ret (V0 4) w):=by
 refine zin 19 Tryz.func206 ?_
 refine xbs 7 6 [V0 0,V0 4,V0 8,V0 24,V0 16,V0 4] 3 fun b1 W1 n1=>?_
 refine xgk 9 [8,9] (show(decide (t<(1:Int)):Bool)=false from decide_eq_false (by omega)) ?_
 refine xk 5 (show(decide (t>(5:Int)):Bool)=false from decide_eq_false (by omega)) ?_
 exact xe 17 (V0 4) ⟨rfl,n1.below⟩
theorem Ze0(t:Int)(w:World)(h1:1≤t)(h2:t≤5) :
 C0 207 #[V0 t,.bool false] w (Ret (V0 18) w):=by
 refine zin 16 Tryz.func207 ?_
 refine xr 10 (args:=#[V0 t,.bool false]) (Bu t _ h1 h2) fun W1 a0=>?_
 exact xe 18 (V0 18) ⟨rfl,a0⟩
theorem Co(t:Int)(leaf:Bool)(w:World)(h:¬ (1≤t∧t≤5)) :
 C0 206 #[V0 t,.bool leaf] w (Ret (V0 0) w):=by
 refine zin 19 Tryz.func206 ?_
 refine xbs 7 6 [V0 0,V0 4,V0 8,V0 24,V0 16,V0 4] 3 fun b1 W1 n1=>?_
 refine xg 9 [8,9] (decide (t<(1:Int))) (fun a0=>?_) (fun a0=>?_)
 ·have a0:=of_decide_eq_true a0
  exact xe 13 (V0 0) ⟨rfl,n1.below⟩
 have a0:=of_decide_eq_false a0
 refine xk 5 (show(decide (t>(5:Int)):Bool)=true from decide_eq_true (by omega)) ?_
 exact xe 7 (V0 0) ⟨rfl,n1.below⟩
theorem Zez(t:Int)(leaf:Bool)(w:World)(h:¬ (1≤t∧t≤5)) :
 C0 207 #[V0 t,.bool leaf] w (Ret (V0 0) w):=by
 refine zin 16 Tryz.func207 ?_
 refine xr 10 (args:=#[V0 t,.bool leaf]) (Co t leaf _ h) fun W1 a0=>?_
 exact xe 40 (V0 0) ⟨rfl,a0⟩
theorem Ze2(t:Int)(leaf:Bool)(v:Nat)(hv:Pd t leaf=v)(h1:1≤t)(h2:t≤5)(w:World):C0 206 #[V0 t,.bool leaf] w (Ret (V0 (v:Int)) w):=by
 subst hv
 cases leaf
 ·exact Bu t w h1 h2
 obtain rfl|rfl|rfl|rfl|rfl:t=1∨t=2∨t=3∨t=4∨t=5:=by omega
 ·exact Et w
 ·exact Fb w
 ·exact Fm w
 ·exact Fe w
 ·exact Fc w
theorem ref07_Max(t:Int)(leaf:Bool)(m:Nat)(hm:Qs t leaf=m)(h1:1≤t)(h2:t≤5)(w:World):C0 207 #[V0 t,.bool leaf] w (Ret (V0 (m:Int)) w):=by
 subst hm
 cases leaf
 ·exact Ze0 t w h1 h2
 obtain rfl|rfl|rfl|rfl|rfl:t=1∨t=2∨t=3∨t=4∨t=5:=by omega
 ·exact ref07_Max1 w
 ·exact ref07_Max2 w
 ·exact ref07_Max3 w
 ·exact ref07_Max4 w
 ·exact ref07_Max5 w
theorem Ew(t:Int)(leaf:Bool)(w:World):C0 206 #[V0 t,.bool leaf] w (Ret (V0 (widG t leaf:Int)) w):=by
 unfold widG
 by_cases h:1≤t∧t≤5
 ·rw[if_pos h];exact Ze2 t leaf _ rfl h.1 h.2 w
 ·rw[if_neg h];exact Co t leaf w h
theorem Ek(t:Int)(leaf:Bool)(w:World):C0 207 #[V0 t,.bool leaf] w (Ret (V0 (maxG t leaf:Int)) w):=by
 unfold maxG
 by_cases h:1≤t∧t≤5
 ·rw[if_pos h];exact ref07_Max t leaf _ rfl h.1 h.2 w
 ·rw[if_neg h];exact Zez t leaf w h
theorem Dr{l:Bl}(h:Vt l=true):Xh l≤Xi l∧12+Xi l*8+Xi l*Xg l≤244∧Xi l≤18∧Xg l≤24∧Xh l*Xg l≤Xi l*Xg l :=
 ⟨Wu h,fitG (Xz l) (Yi l),Zgz (Xz l) (Yi l),Zf4 (Xz l) (Yi l),Nat.mul_le_mul_right _ (Wu h)⟩
theorem ref07_form(a:O0)(c:Nat)(l:Bl)(w:World)(hl:l.length=244)(h:Bys w (.slice a 244 c) l) :
 C0 205 #[.slice a 244 c] w (Ret (.bool (Vt l&&Bk l)) w):=by
 have e4:=Bys.cap h hl
 have e3:=raw1 l 0
 have f0:=Rv l 2 2
 have e5:=Zgz (Xz l) (Yi l)
 have e9:=Zf4 (Xz l) (Yi l)
 change Xi l≤18 at e5
 change Xg l≤24 at e9
 refine zin 101 Tryz.func205 ?_
 refine xx 13 _ 244 0 1 (BysM.elem h hl (k:=0) (by omega)).1 ?_
 refine xl 0 ((BysM.elem h hl (k:=0) (by omega)).2) ?_
 refine xid 4 ((↑(l.getD 0 0).toNat:Int)>(1:Int)) (fun e6=>?_) (fun e6=>?_)
 ·refine xe 7 (.bool false) ?_
  rw[show Vt l=false from decide_eq_false (by omega)];exact⟨rfl,(B4 w)⟩
 refine xbs 5 6 [V0 1,V0 1,V0 2,V0 2,V0 2,V0 4] 3 fun b2 W2 n2=>?_
 refine xc 0 (args:=#[.slice a 244 c,.slice (S1 b2) 6 6]) (Tb a 244 c l (S1 b2) 6 6 [1,1,2,2,2,4] (Yh l) _ hl rfl rfl (by decide) (by decide) (by decide) (by decide) (h.below n2.below) (n2.blk.sl 6 6 (by decide) (by decide)) (Zg7 l)) ?_
 rintro _ W3 ⟨_,rfl,a6,p5,c5,rfl,h5⟩
 have a1:=Zd h5 n2.below.size
 refine xx 10 _ 6 0 1 (Zh (l:=Yh l) (Ze a1) rfl (k:=0) (by decide)).1 ?_
 refine xl 0 ((Zh (l:=Yh l) (Ze a1) rfl (k:=0) (by decide)).2) ?_
 refine xx 7 _ 6 1 1 (Zh (l:=Yh l) (Ze a1) rfl (k:=1) (by decide)).1 ?_
 refine xl 0 ((Zh (l:=Yh l) (Ze a1) rfl (k:=1) (by decide)).2) ?_
 refine xr 1 (args:=#[V0 (↑(Zg l 1 1):Int),.bool ((↑(Zg l 0 1):Int)==(1:Int))]) (Ew (Xz l) (Yi l) _) fun W4 a4=>?_
 have b3:=Zb a1 a4
 refine xx 6 _ 6 1 1 (Zh (l:=Yh l) (Ze b3) rfl (k:=1) (by decide)).1 ?_
 refine xl 0 ((Zh (l:=Yh l) (Ze b3) rfl (k:=1) (by decide)).2) ?_
 refine xr 1 (args:=#[V0 (↑(Zg l 1 1):Int),.bool ((↑(Zg l 0 1):Int)==(1:Int))]) (Ek (Xz l) (Yi l) _) fun W5 a5=>?_
 refine xg 9 [38,39] ((↑(Xg l):Int)==(0:Int)) (fun c2=>?_) (fun c2=>?_)
 ·have c2:=eq_of_beq c2
  have d0:=bln (bln (bln n2.below a6) a4) a5
  refine xe 46 (.bool false) ?_
  rw[show Vt l=false from decide_eq_false (by omega)];exact⟨rfl,d0⟩
 have c2:=Yq c2
 have a0:=Zb b3 a5
 refine xx 1 _ 6 3 1 (Zh (l:=Yh l) (Ze a0) rfl (k:=3) (by decide)).1 ?_
 refine xl 0 ((Zh (l:=Yh l) (Ze a0) rfl (k:=3) (by decide)).2) ?_
 refine xg 4 [44,45,46] ((↑(Zg l 4 2):Int) != (↑(Xg l):Int)) (fun c1=>?_) (fun c1=>?_)
 ·have c1:=Jf c1
  have d8:=bln (bln (bln n2.below a6) a4) a5
  refine xe 39 (.bool false) ?_
  rw[show Vt l=false from decide_eq_false (by omega)];exact⟨rfl,d8⟩
 have c1:=Yb c1
 refine xx 1 _ 6 4 1 (Zh (l:=Yh l) (Ze a0) rfl (k:=4) (by decide)).1 ?_
 refine xl 0 ((Zh (l:=Yh l) (Ze a0) rfl (k:=4) (by decide)).2) ?_
 refine xg 4 [51,52,53] ((↑(Zg l 6 2):Int) != (↑(Xi l):Int)) (fun c4=>?_) (fun c4=>?_)
 ·have c4:=Jf c4
  have d1:=bln (bln (bln n2.below a6) a4) a5
  refine xe 32 (.bool false) ?_
  rw[show Vt l=false from decide_eq_false (by omega)];exact⟨rfl,d1⟩
 have c4:=Yb c4
 refine xx 1 _ 6 5 1 (Zh (l:=Yh l) (Ze a0) rfl (k:=5) (by decide)).1 ?_
 refine xl 0 ((Zh (l:=Yh l) (Ze a0) rfl (k:=5) (by decide)).2) ?_
 refine xg 3 [57,58,59] ((↑(Zg l 8 4):Int) != (0:Int)) (fun c0=>?_) (fun c0=>?_)
 ·have c0:=Jf c0
  have d9:=bln (bln (bln n2.below a6) a4) a5
  refine xe 26 (.bool false) ?_
  rw[show Vt l=false from decide_eq_false (by omega)];exact⟨rfl,d9⟩
 have c0:=Yb c0
 refine xx 1 _ 6 2 1 (Zh (l:=Yh l) (Ze a0) rfl (k:=2) (by decide)).1 ?_
 refine xl 0 ((Zh (l:=Yh l) (Ze a0) rfl (k:=2) (by decide)).2) ?_
 refine xg 4 [64,65,66] (decide ((↑(Zg l 2 2):Int)>(↑(Xi l):Int))) (fun a3=>?_) (fun a3=>?_)
 ·have a3:=of_decide_eq_true a3
  have d4:=bln (bln (bln n2.below a6) a4) a5
  refine xe 19 (.bool false) ?_
  rw[show Vt l=false from decide_eq_false (by omega)];exact⟨rfl,d4⟩
 have a3:=of_decide_eq_false a3
 refine xg 3 [68,69] (!((↑(Zg l 0 1):Int)==(1:Int))) (fun a8=>?_) (fun a8=>?_)
 ·have e7:Zg l 0 1≠1:=by have q:¬ ((Zg l 0 1:Int)=1):=(by simpa using a8);omega
  refine xx 1 _ 6 2 1 (Zh (l:=Yh l) (Ze a0) rfl (k:=2) (by decide)).1 ?_
  refine xl 0 ((Zh (l:=Yh l) (Ze a0) rfl (k:=2) (by decide)).2) ?_
  refine xie 5 (↑(Zg l 2 2):Int) (0:Int) (fun d2=>?_) (fun d2=>?_)
  ·have d7:=bln (bln (bln n2.below a6) a4) a5
   refine xe 7 (.bool false) ?_
   rw[show Vt l=false from decide_eq_false (by omega)];exact⟨rfl,d7⟩
  refine xx 6 _ 6 2 1 (Zh (l:=Yh l) (Ze a0) rfl (k:=2) (by decide)).1 ?_
  refine xl 0 ((Zh (l:=Yh l) (Ze a0) rfl (k:=2) (by decide)).2) ?_
  refine xwm 0 (8*(↑(Zg l 2 2):Int)) (↑(8*(Zg l 2 2)):Int) ?_
  refine xwm 0 (12+(↑(8*(Zg l 2 2)):Int)) (↑(12+(8*(Zg l 2 2))):Int) ?_
  refine xwm 1 (8*(↑(Xi l):Int)) (↑(8*(Xi l)):Int) ?_
  refine xwm 0 (12+(↑(8*(Xi l)):Int)) (↑(12+(8*(Xi l))):Int) ?_
  refine xsB 0 (fun _ _ _ _ _ zo zx zy zz V=>Yv (k:=(12+(8*(Zg l 2 2)))) (h:=(12+(8*(Xi l)))) (b:=a) (n:=244) (c:=c) (i:=(↑(12+(8*(Zg l 2 2))):Int)) (ki:=.i64) (j:=(↑(12+(8*(Xi l))):Int)) (kj:=.i64) 1 zo zx zy rfl zz rfl (by omega) (by omega) Tryz.underlying22 (by kernel_rfl) V) ?_
  have e3:=raw1 l 0
  have hs:Vt l=true:=decide_eq_true ⟨by omega,by omega,by omega,by omega,by omega,by omega,by omega⟩
  obtain⟨d6,e0,d5,d3,c8⟩:=Dr hs
  unfold Xh at d6 c8
  have e8:=Nat.mul_comm (Zg l 2 2) (Xg l)
  have c6:Bk l=(Yt ((l.drop (12+8*Zg l 2 2)).take ((12+8*Xi l)-(12+8*Zg l 2 2)))&&Yt ((l.drop (12+8*Xi l+Xg l*Zg l 2 2)).take (244-(12+8*Xi l+Xg l*Zg l 2 2)))):=by unfold Bk Sw Zdx Te Xh;rw[show 12+Zg l 2 2*8=12+8*Zg l 2 2 by omega,show 12+Xi l*8=12+8*Xi l by omega,Nat.mul_comm (Zg l 2 2) (Xg l)]
  have b4:=bln (bln (bln n2.below a6) a4) a5
  refine xr 0 (args:=#[.slice (Qu a (12+(8*(Zg l 2 2))) c 1) ((12+(8*(Xi l)))-(12+(8*(Zg l 2 2)))) (c-(12+(8*(Zg l 2 2))))]) (Ue (Qu a (12+(8*(Zg l 2 2))) c 1) ((12+(8*(Xi l)))-(12+(8*(Zg l 2 2)))) (c-(12+(8*(Zg l 2 2)))) _ _ (by simp;omega) (by omega) ((Bys.cut h hl (12+8*Zg l 2 2) (12+8*Xi l) (by omega) (by omega)).below b4)) fun f4 b1=>?_
  refine xg 1 [86,87] (Yt ((l.drop (12+8*Zg l 2 2)).take ((12+8*Xi l)-(12+8*Zg l 2 2)))) (fun b5=>?_) (fun b5=>?_)
  ·refine xwm 2 (8*(↑(Xi l):Int)) (↑(8*(Xi l)):Int) ?_
   refine xwm 0 (12+(↑(8*(Xi l)):Int)) (↑(12+(8*(Xi l))):Int) ?_
   have b7:=Zb a0 b1
   refine xx 2 _ 6 2 1 (Zh (l:=Yh l) (Ze b7) rfl (k:=2) (by decide)).1 ?_
   refine xl 0 ((Zh (l:=Yh l) (Ze b7) rfl (k:=2) (by decide)).2) ?_
   refine xwm 0 ((↑(Xg l):Int)*(↑(Zg l 2 2):Int)) (↑((Xg l)*(Zg l 2 2)):Int) ?_
   refine xwm 0 ((↑(12+(8*(Xi l))):Int)+(↑((Xg l)*(Zg l 2 2)):Int)) (↑((12+(8*(Xi l)))+((Xg l)*(Zg l 2 2))):Int) ?_
   refine xsL 0 (fun _ _ _ _ zo zx zy V=>Xv (k:=((12+(8*(Xi l)))+((Xg l)*(Zg l 2 2)))) (b:=a) (n:=244) (c:=c) (i:=(↑((12+(8*(Xi l)))+((Xg l)*(Zg l 2 2))):Int)) (ki:=.i64) 1 zo zx zy rfl (by omega) Tryz.underlying22 (by kernel_rfl) V) ?_
   have b6:=bln b4 b1
   refine xr 0 (args:=#[.slice (Qu a ((12+(8*(Xi l)))+((Xg l)*(Zg l 2 2))) c 1) (244-((12+(8*(Xi l)))+((Xg l)*(Zg l 2 2)))) (c-((12+(8*(Xi l)))+((Xg l)*(Zg l 2 2))))]) (Ue (Qu a ((12+(8*(Xi l)))+((Xg l)*(Zg l 2 2))) c 1) (244-((12+(8*(Xi l)))+((Xg l)*(Zg l 2 2)))) (c-((12+(8*(Xi l)))+((Xg l)*(Zg l 2 2)))) _ _ (by simp;omega) (by omega) ((Bys.cut h hl (12+8*Xi l+Xg l*Zg l 2 2) 244 (by omega) (by omega)).below b6)) fun f3 e2=>?_
   have e1:=bln b6 e2
   refine xe 5 (.bool (Yt ((l.drop (12+8*Xi l+Xg l*Zg l 2 2)).take (244-(12+8*Xi l+Xg l*Zg l 2 2))))) ?_
   rw[hs,c6,b5];exact⟨rfl,e1⟩
  have b9:=bln b4 b1
  refine xe 17 (.bool false) ?_
  rw[hs,c6,b5];exact⟨rfl,b9⟩
 have e7:Zg l 0 1=1:=by have q:((Zg l 0 1:Int)=1):=(by simpa using a8);omega
 refine xx 15 _ 6 2 1 (Zh (l:=Yh l) (Ze a0) rfl (k:=2) (by decide)).1 ?_
 refine xl 0 ((Zh (l:=Yh l) (Ze a0) rfl (k:=2) (by decide)).2) ?_
 refine xwm 0 (8*(↑(Zg l 2 2):Int)) (↑(8*(Zg l 2 2)):Int) ?_
 refine xwm 0 (12+(↑(8*(Zg l 2 2)):Int)) (↑(12+(8*(Zg l 2 2))):Int) ?_
 refine xwm 1 (8*(↑(Xi l):Int)) (↑(8*(Xi l)):Int) ?_
 refine xwm 0 (12+(↑(8*(Xi l)):Int)) (↑(12+(8*(Xi l))):Int) ?_
 refine xsB 0 (fun _ _ _ _ _ zo zx zy zz V=>Yv (k:=(12+(8*(Zg l 2 2)))) (h:=(12+(8*(Xi l)))) (b:=a) (n:=244) (c:=c) (i:=(↑(12+(8*(Zg l 2 2))):Int)) (ki:=.i64) (j:=(↑(12+(8*(Xi l))):Int)) (kj:=.i64) 1 zo zx zy rfl zz rfl (by omega) (by omega) Tryz.underlying22 (by kernel_rfl) V) ?_
 have e3:=raw1 l 0
 have hs:Vt l=true:=decide_eq_true ⟨by omega,by omega,by omega,by omega,by omega,by omega,by omega⟩
 obtain⟨d6,e0,d5,d3,c8⟩:=Dr hs
 unfold Xh at d6 c8
 have e8:=Nat.mul_comm (Zg l 2 2) (Xg l)
 have c6:Bk l=(Yt ((l.drop (12+8*Zg l 2 2)).take ((12+8*Xi l)-(12+8*Zg l 2 2)))&&Yt ((l.drop (12+8*Xi l+Xg l*Zg l 2 2)).take (244-(12+8*Xi l+Xg l*Zg l 2 2)))):=by unfold Bk Sw Zdx Te Xh;rw[show 12+Zg l 2 2*8=12+8*Zg l 2 2 by omega,show 12+Xi l*8=12+8*Xi l by omega,Nat.mul_comm (Zg l 2 2) (Xg l)]
 have a2:=bln (bln (bln n2.below a6) a4) a5
 refine xr 0 (args:=#[.slice (Qu a (12+(8*(Zg l 2 2))) c 1) ((12+(8*(Xi l)))-(12+(8*(Zg l 2 2)))) (c-(12+(8*(Zg l 2 2))))]) (Ue (Qu a (12+(8*(Zg l 2 2))) c 1) ((12+(8*(Xi l)))-(12+(8*(Zg l 2 2)))) (c-(12+(8*(Zg l 2 2)))) _ _ (by simp;omega) (by omega) ((Bys.cut h hl (12+8*Zg l 2 2) (12+8*Xi l) (by omega) (by omega)).below a2)) fun f1 a9=>?_
 refine xg 1 [86,87] (Yt ((l.drop (12+8*Zg l 2 2)).take ((12+8*Xi l)-(12+8*Zg l 2 2)))) (fun b0=>?_) (fun b0=>?_)
 ·refine xwm 2 (8*(↑(Xi l):Int)) (↑(8*(Xi l)):Int) ?_
  refine xwm 0 (12+(↑(8*(Xi l)):Int)) (↑(12+(8*(Xi l))):Int) ?_
  have c7:=Zb a0 a9
  refine xx 2 _ 6 2 1 (Zh (l:=Yh l) (Ze c7) rfl (k:=2) (by decide)).1 ?_
  refine xl 0 ((Zh (l:=Yh l) (Ze c7) rfl (k:=2) (by decide)).2) ?_
  refine xwm 0 ((↑(Xg l):Int)*(↑(Zg l 2 2):Int)) (↑((Xg l)*(Zg l 2 2)):Int) ?_
  refine xwm 0 ((↑(12+(8*(Xi l))):Int)+(↑((Xg l)*(Zg l 2 2)):Int)) (↑((12+(8*(Xi l)))+((Xg l)*(Zg l 2 2))):Int) ?_
  refine xsL 0 (fun _ _ _ _ zo zx zy V=>Xv (k:=((12+(8*(Xi l)))+((Xg l)*(Zg l 2 2)))) (b:=a) (n:=244) (c:=c) (i:=(↑((12+(8*(Xi l)))+((Xg l)*(Zg l 2 2))):Int)) (ki:=.i64) 1 zo zx zy rfl (by omega) Tryz.underlying22 (by kernel_rfl) V) ?_
  have a7:=bln a2 a9
  refine xr 0 (args:=#[.slice (Qu a ((12+(8*(Xi l)))+((Xg l)*(Zg l 2 2))) c 1) (244-((12+(8*(Xi l)))+((Xg l)*(Zg l 2 2)))) (c-((12+(8*(Xi l)))+((Xg l)*(Zg l 2 2))))]) (Ue (Qu a ((12+(8*(Xi l)))+((Xg l)*(Zg l 2 2))) c 1) (244-((12+(8*(Xi l)))+((Xg l)*(Zg l 2 2)))) (c-((12+(8*(Xi l)))+((Xg l)*(Zg l 2 2)))) _ _ (by simp;omega) (by omega) ((Bys.cut h hl (12+8*Xi l+Xg l*Zg l 2 2) 244 (by omega) (by omega)).below a7)) fun f2 c9=>?_
  have b8:=bln a7 c9
  refine xe 5 (.bool (Yt ((l.drop (12+8*Xi l+Xg l*Zg l 2 2)).take (244-(12+8*Xi l+Xg l*Zg l 2 2))))) ?_
  rw[hs,c6,b0];exact⟨rfl,b8⟩
 have c3:=bln a2 a9
 refine xe 17 (.bool false) ?_
 rw[hs,c6,b0];exact⟨rfl,c3⟩
def RGetP(l:Bl)(k w:Nat)(W:World)(e:Ending)(w':World):Prop :=
 (Zg l k w<9223372036854775808∧e=.returned (.tuple #[V0 (Zg l k w:Int),V0 0])∧B3 W w')∨(¬ Zg l k w<9223372036854775808∧e=.returned (.tuple #[V0 0,V0 2])∧B3 W w')
theorem ref_GetP(a:O0)(n c k w:Nat)(l:Bl)(W:World)(hn:l.length=n)(hw:w=1∨w=2∨w=4∨w=8)(hk:k+w≤n)(hl:n≤100000000)(h:Bys W (.slice a n c) l)(ki wi:Int)(hki:ki=(k:Int))(hwi:wi=(w:Int)) :
 C0 198 #[.slice a n c,V0 ki,V0 wi] W (RGetP l k w W):=by
 subst hn hwi hki
 by_cases hq:Zg l k w<9223372036854775808
 ·refine(Eg a c k w l W hw hk hl h hq).mono ?_
  rintro e V ⟨rfl,hb⟩;exact .inl ⟨hq,rfl,hb⟩
 ·refine(Ti a c k w l W hw hk hl h hq).mono ?_
  rintro e V ⟨rfl,hb⟩;exact .inr ⟨hq,rfl,hb⟩
theorem Zg2{l:Bl}{i:Nat}(h:281474976710655<Zg l (12+i*8) 8):Be l i=2:=by unfold Be Ri;rw[if_pos h]
theorem keyE_low{l:Bl}{i:Nat}(h:¬ 281474976710655<Zg l (12+i*8) 8)(h0:0<i)(h1:(Zg l (12+i*8) 8:Int)≤(Ha l i).getD (i-1) 0):Be l i=8:=by
 rw[Ck l (by omega)] at h1
 change ¬ 281474976710655<Ri l i at h
 change (Ri l i:Int)≤_ at h1
 unfold Be
 rw[if_neg h,if_pos ⟨h0,by omega⟩]
theorem keyE_ok{l:Bl}{i:Nat}(h:¬ 281474976710655<Zg l (12+i*8) 8)(h0:¬ 0<i):Be l i=0:=by
 change ¬ 281474976710655<Ri l i at h
 unfold Be;rw[if_neg h,if_neg fun q=>h0 q.1]
theorem keyE_ok2{l:Bl}{i:Nat}(h:¬ 281474976710655<Zg l (12+i*8) 8)(h0:0<i)(h1:¬ (Zg l (12+i*8) 8:Int)≤(Ha l i).getD (i-1) 0):Be l i=0:=by
 rw[Ck l (by omega)] at h1
 change ¬ 281474976710655<Ri l i at h
 change ¬ (Ri l i:Int)≤_ at h1
 unfold Be
 rw[if_neg h,if_neg fun q=>h1 (by have:=q.2;omega)]
theorem valN_cut{a:O0}{c i:Nat}{l:Bl}{w:World}(h:Bys w (.slice a 244 c) l)(hl:l.length=244)(hb:12+8*Xi l+Xg l*i+Xg l≤244) :
 Bys w (.slice (Qu a (12+8*Xi l+Xg l*i) c 1) (12+8*Xi l+Xg l*i+Xg l-(12+8*Xi l+Xg l*i)) (c-(12+8*Xi l+Xg l*i))) (Fq l i):=by
 have:=Bys.cut h hl (12+8*Xi l+Xg l*i) (12+8*Xi l+Xg l*i+Xg l) (by omega) hb
 unfold Fq
 rw[show 12+Xi l*8+i*Xg l=12+8*Xi l+Xg l*i by rw[Nat.mul_comm i];omega]
 rw[show(l.drop (12+8*Xi l+Xg l*i)).take (Xg l)=(l.drop (12+8*Xi l+Xg l*i)).take (12+8*Xi l+Xg l*i+Xg l-(12+8*Xi l+Xg l*i)) by rw[Nat.add_sub_cancel_left]]
 exact this
theorem Sb{i:Nat}{l:Bl}(hl:l.length=244)(hb:12+8*Xi l+Xg l*i+Xg l≤244):(Fq l i).length=12+8*Xi l+Xg l*i+Xg l-(12+8*Xi l+Xg l*i):=by
 unfold Fq;simp only[List.length_take,List.length_drop];rw[Nat.mul_comm i];omega
theorem rawC{l:Bl}(h:Xh l≤18):(l.getD 2 0).toNat=Xh l:=by
 have e:Zg l 2 2=(l.getD 2 0).toNat+256*(l.getD 3 0).toNat:=raw2 l 2
 unfold Xh at h ⊢
 omega
def RNodeP(l:Bl)(w:World)(e:Ending)(w':World):Prop :=
 (Qd l≠0∧e=.returned (.tuple #[.agg #[V0 0,.bool false,S0,S0],V0 (Qd l)])∧B3 w w') ∨
 (Qd l=0∧∃ kp kc vp vc,e=.returned (.tuple #[.agg #[V0 (Xz l),.bool (Yi l),.slice kp (Xh l) kc,.slice vp (Xh l) vc],V0 0])∧B3 w w' ∧
  w'.ownsRow w.heap.size 3 1 (.slice kp (Xh l) kc) (Xh l) ((Ha l (Xh l)).map V0)∧w'.ownsRow w.heap.size 9 1 (.slice vp (Xh l) vc) (Xh l) ((He l (Xh l)).map sv))
theorem ref07_Read(a:O0)(c:Nat)(l:Bl)(w:World)(hl:l.length=244)(h:Bys w (.slice a 244 c) l) :
 C0 138 #[.slice a 244 c] w (RNodeP l w):=by
 have q1:=Bys.cap h hl
 refine zin 94 Tryz.func138 ?_
 refine xa 2 [V0 0,.bool false,S0,S0] 181 fun b1 W1 n1=>?_
 refine xr 7 (args:=#[.slice a 244 c]) (ref07_form a c l _ hl (h.below n1.below)) fun W2 k2=>?_
 refine xi 3 (!(Vt l&&Bk l)) (fun n8=>?_) (fun n8=>?_)
 ·have he:Qd l=7:=by unfold Qd;by_cases q:Vt l=true<;>simp_all
  have k1:=n1.blk.below k2
  refine xsv 3 k1 [V0 0,.bool false,S0,S0] fun W4 u4 k4=>?_
  have g1:=n1.ge (B4 w)
  have k9:=u4.below (bln n1.below k2) g1
  exact xec 5 k4 (.tuple #[.agg #[V0 0,.bool false,S0,S0],V0 7]) (.inl ⟨by rw[he];decide,by rw[he],k9⟩)
 have o0:Vt l=true∧Bk l=true:=by simpa using n8
 have hs:=o0.1
 have j9:=o0.2
 obtain⟨t2,o4,p1,p0,q6⟩:=Dr hs
 refine xd 3 (.t w.heap.size [181]) ?_
 refine xx (.e [0] 1) _ 244 1 1 (BysM.elem h hl (k:=1) (by omega)).1 ?_
 have d1:=bln (bln n1.below k2) (Za W2)
 refine xlt (.e [] 2) (.t w.heap.size [181]) (fun V hV=>(BysM.elem (h.below (Wi d1 hV (Nat.le_refl _))) hl (k:=1) (by omega)).2) ?_
 refine xq (.e [] 3) (congrArg V0 (show(IntKind.i64.wrap (↑(l.getD 1 0).toNat:Int):Int)=(Xz l) from by unfold Xz;rw[raw1];exact Kw (by have:=(l.getD 1 0).toNat_lt;omega))) ?_
 refine xx (.e [4] 5) _ 244 0 1 (BysM.elem h hl (k:=0) (by omega)).1 ?_
 refine xlt (.e [] 6) (.t w.heap.size [181]) (fun V hV=>(BysM.elem (h.below (Wi d1 hV (Nat.le_refl _))) hl (k:=0) (by omega)).2) ?_
 refine xa (.o [7,8] 9) [V0 0,.bool false,S0,S0] 181 fun b5 W5 n5=>?_
 have k1:=(n1.blk.below k2).below (Za W2)
 have a2:=n5.ne k1
 have g5:=n5.ge d1
 refine ysv (.o [] 10) n5.blk [V0 (Xz l),.bool ((↑(l.getD 0 0).toNat:Int)==(1:Int)),S0,S0] (.t w.heap.size [181]) fun W6 u6 k6=>⟨(Zl u6 n5.blk g5 (by decide)),?_⟩
 refine xb 5 0 k6 ?_
 refine xb 1 1 k6 ?_
 refine xr 0 (args:=#[V0 (Xz l),.bool ((↑(l.getD 0 0).toNat:Int)==(1:Int))]) (Ew (Xz l) (Yi l) _) fun W7 m2=>?_
 have l1:=bln (u6.below (bln d1 n5.below) g5) m2
 have m0:=(u6.blk (k1.below n5.below) (Ne.symm (Ne.symm a2))).below m2
 have l6:=k6.below m2
 refine zl 10 94 (fun zm p6 V=>∃ (i:Nat) (kp:O0) (kc:Nat) (vp:O0) (vc:Nat),p6=[(0,.slice a 244 c),(2,P0 b1),(4,P0 b5),(5,V0 (↑(Xg l):Int)),(6,V0 (i:Int))]∧zm=Xh l-((i:Int)).toNat∧B3 w V∧Blk V b1 ([V0 0,.bool false,S0,S0]) 181∧Blk V b5 ([V0 (Xz l),.bool ((↑(l.getD 0 0).toNat:Int)==(1:Int)),.slice kp i kc,.slice vp i vc]) 181∧V.ownsRow w.heap.size 3 1 (.slice kp i kc) i ((Ha l i).map V0)∧V.ownsRow w.heap.size 9 1 (.slice vp i vc) i ((He l i).map sv)∧i≤Xh l∧Ve l i=0) ⟨0,none,0,none,0,rfl,rfl,l1,m0,l6,World.ownsRow_nil _ _ _ _,World.ownsRow_nil _ _ _ _,Nat.zero_le _,rfl⟩ ?_
 rintro _ _ W8 ⟨i,kp,kc,vp,vc,rfl,rfl,a8,a1,c5,hK,hV,hi,hz⟩ J8 k0 r8
 have r9:(i+1)*Xg l=i*Xg l+Xg l:=Nat.succ_mul i (Xg l)
 have o5:i<Xh l→(i+1)*Xg l≤Xi l*Xg l:=fun hh=>Nat.mul_le_mul_right _ (by omega)
 have q2:=Nat.mul_comm i (Xg l)
 refine xx 5 _ 244 2 1 (BysM.elem h hl (k:=2) (by omega)).1 ?_
 refine xl 0 ((BysM.elem (h.below a8) hl (k:=2) (by omega)).2) ?_
 refine xq 0 (congrArg V0 (show(IntKind.i64.wrap (↑(l.getD 2 0).toNat:Int):Int)=(↑(Xh l):Int) from by rw[rawC (by omega)];exact Kw (by omega))) ?_
 refine xid 3 ((i:Int)<(↑(Xh l):Int)) (fun p8=>?_) (fun p8=>?_)
 ·refine xwm 8 (8*(i:Int)) (↑(8*i):Int) ?_
  refine xwm 0 (12+(↑(8*i):Int)) (↑(12+(8*i)):Int) ?_
  refine xc 0 (args:=#[.slice a 244 c,V0 (↑(12+(8*i)):Int),V0 8]) (ref_GetP a 244 c (12+i*8) 8 l _ hl (by decide) (by omega) (by decide) (h.below a8) _ 8 (by omega) rfl) ?_
  rintro e r0 l4
  rcases l4 with ⟨o9,rfl,a0⟩|⟨o9,rfl,a0⟩
  ·refine xid 18 ((↑(Zg l (12+i*8) 8):Int)>(281474976710655:Int)) (fun l0=>?_) (fun l0=>?_)
   ·have e0:=a1.below a0
    refine xsv 3 e0 [V0 0,.bool false,S0,S0] fun s6 o3 o8=>?_
    have g1:=n1.ge (B4 w)
    have l8:=o3.below (bln a8 a0) g1
    refine xec 10 o8 (.tuple #[.agg #[V0 0,.bool false,S0,S0],V0 2]) ?_
    have e6:Be l i=2:=Zg2 (by omega)
    have he:Qd l=2:=by unfold Qd;rw[if_pos hs,if_pos j9,Ui hz (by rw[e6];decide) (by omega),e6]
    exact .inl ⟨by rw[he];decide,by rw[he],l8⟩
   refine xg 8 [52,53] (decide ((i:Int)>(0:Int))) (fun c7=>?_) (fun c7=>?_)
   ·have c7:=of_decide_eq_true c7
    have a5:=c5.below a0
    refine xb 2 2 a5 ?_
    refine xwm 1 ((i:Int)-1) (↑(i-1):Int) ?_
    have g6:=Zb hK a0
    refine xx 0 _ i (i-1) 1 (IntsN.elem (Ze g6) (Ng l i) (k:=(i-1)) (by omega)).1 ?_
    refine xl 0 ((IntsN.elem (Ze g6) (Ng l i) (k:=(i-1)) (by omega)).2) ?_
    refine xid 4 ((↑(Zg l (12+i*8) 8):Int)≤((Ha l i).getD (i-1) 0)) (fun n4=>?_) (fun n4=>?_)
    ·have d0:=a1.below a0
     refine xsv 3 d0 [V0 0,.bool false,S0,S0] fun u3 p5 p4=>?_
     have g1:=n1.ge (B4 w)
     have m1:=p5.below (bln a8 a0) g1
     refine xec 10 p4 (.tuple #[.agg #[V0 0,.bool false,S0,S0],V0 8]) ?_
     have e6:Be l i=8:=keyE_low (by omega) (by omega) (by omega)
     have he:Qd l=8:=by unfold Qd;rw[if_pos hs,if_pos j9,Ui hz (by rw[e6];decide) (by omega),e6]
     exact .inl ⟨by rw[he];decide,by rw[he],m1⟩
    refine xb 5 0 a5 ?_
    refine xb 1 1 a5 ?_
    refine xr 0 (args:=#[V0 (Xz l),.bool ((↑(l.getD 0 0).toNat:Int)==(1:Int))]) (Ek (Xz l) (Yi l) _) fun t5 b7=>?_
    refine xwm 0 (8*(↑(Xi l):Int)) (↑(8*(Xi l)):Int) ?_
    refine xwm 0 (12+(↑(8*(Xi l)):Int)) (↑(12+(8*(Xi l))):Int) ?_
    refine xwm 2 ((↑(Xg l):Int)*(i:Int)) (↑((Xg l)*i):Int) ?_
    refine xwm 0 ((↑(12+(8*(Xi l))):Int)+(↑((Xg l)*i):Int)) (↑((12+(8*(Xi l)))+((Xg l)*i)):Int) ?_
    have b2:=a5.below b7
    refine xb 6 2 b2 ?_
    refine xbs 1 1 [V0 (↑(Zg l (12+i*8) 8):Int)] 3 fun r4 s2 d6=>?_
    have j5:=bln (bln a8 a0) b7
    have r6:=d6.ge j5
    have h9:=Zb g6 b7
    have n2:=Zn h9 d6
    have c3:=Zb h9 d6.below
    have h8:=bln j5 d6.below
    refine xbi 0 fun _ _ _ _ zJ zQ zo zx zy zK=>Zr (m:=1) (news:=[V0 (↑(Zg l (12+i*8) 8):Int)]) (V0 0) 1 8 (i+1) ((Ha l (i+1)).map V0) zo Tryz.underlying34 (by kernel_rfl) rfl (by decide) zx c3 zy (d6.blk.sl 1 1 (by decide) (by decide)) rfl (by simp[Value.oneCell']) (by unfold maxLen;omega) (by omega) h8.size (by rfl) (by rw[Dg,List.map_append];rfl) fun g7 g9 t7 n6 d9 k5=>?_
    refine zK _ _ ?_
    have a4:=(b2.below d6.below).grown d9 c3 (by decide)
    refine xs 1 a4 [V0 (Xz l),.bool ((↑(l.getD 0 0).toNat:Int)==(1:Int)),.slice g7 (i+1) g9,.slice vp i vc] fun g0 h0 n9=>?_
    refine xd 2 (.t w.heap.size [9,181]) ?_
    refine xwm (.e [0,2,3,4,5] 6) ((↑((12+(8*(Xi l)))+((Xg l)*i)):Int)+(↑(Xg l):Int)) (↑(((12+(8*(Xi l)))+((Xg l)*i))+(Xg l)):Int) ?_
    refine xsB (.e [] 7) (fun _ _ _ _ _ zo zx zy zz V=>Yv (k:=((12+(8*(Xi l)))+((Xg l)*i))) (h:=(((12+(8*(Xi l)))+((Xg l)*i))+(Xg l))) (b:=a) (n:=244) (c:=c) (i:=(↑((12+(8*(Xi l)))+((Xg l)*i)):Int)) (ki:=.i64) (j:=(↑(((12+(8*(Xi l)))+((Xg l)*i))+(Xg l)):Int)) (kj:=.i64) 1 zo zx zy rfl zz rfl (by omega) (by omega) Tryz.underlying22 (by kernel_rfl) V) ?_
    have b9:=Zb (h0.own2 (Xj (Zb (Zb (Zb hV a0) b7) d6.below) d9 c3 (by decide)) a4 (by decide)) (Za g0)
    have c1:=bln (h0.below (h8.trans k5) g5) (Za g0)
    refine xcvt (.e [] 8) (.t w.heap.size [9,181]) (fun _ _ _ zo zx V b9=>Yz zo zx ((valN_cut (i:=i) h hl (by omega)).below (Wi c1 b9 (Nat.le_refl _))) (Sb (i:=i) hl (by omega)) Tryz.underlying22 Tryz.underlying5 Tryz.underlying9) ?_
    refine xm2 0 1 9 ?_ ?_
    ·have f9:=n9.below (Za g0)
     refine xb 0 3 f9 ?_
     refine xbs (.o [] 9) 1 [.string ⟨(Fq l i).toArray⟩] 9 fun t9 u2 f7=>?_
     have s7:=f7.ge c1
     have k3:=Zn b9 f7
     have c9:=Zb b9 f7.below
     have i5:=bln c1 f7.below
     refine ybi (.o [] 10) (.t w.heap.size [9,181]) fun _ _ _ _ zJ zQ zo zx zy zK=>Zr (m:=1) (news:=[.string ⟨(Fq l i).toArray⟩]) (.string ⟨#[]⟩) 1 16 (i+1) ((He l (i+1)).map sv) zo Tryz.underlying89 (by kernel_rfl) rfl (by decide) zx c9 zy (f7.blk.sl 1 1 (by decide) (by decide)) rfl (by simp[Value.oneCell']) (by unfold maxLen;omega) (by omega) i5.size (by rfl) (by rw[Hj,List.map_append];rfl) fun m7 m8 t4 p9 e3 i4=>?_
     refine zK _ _ (Zx i4 e3 c9 (by decide)) ?_
     have b6:=(f9.below f7.below).grown e3 c9 (by decide)
     refine ys (.o [11] 12) b6 [V0 (Xz l),.bool ((↑(l.getD 0 0).toNat:Int)==(1:Int)),.slice g7 (i+1) g9,.slice m7 (i+1) m8] (.t w.heap.size [9,181]) fun s8 j7 p2=>⟨(Zl j7 b6 g5 (by decide)),?_⟩
     refine xwm 5 ((i:Int)+1) (↑(i+1):Int) ?_
     have i8:=j7.below (i5.trans i4) g5
     have d8:=j7.blk ((((h0.blk ((((a1.below a0).below b7).below d6.below).grown d9 c3 (by decide)) (Ne.symm (Ne.symm a2))).below (Za g0)).below f7.below).grown e3 c9 (by decide)) (Ne.symm (Ne.symm a2))
     have i6:=j7.own2 (Xj (Zb (Zb (h0.own2 n6 a4 (by decide)) (Za g0)) f7.below) e3 c9 (by decide)) b6 (by decide)
     have j8:=j7.own2 p9 b6 (by decide)
     exact ze 2 (k0 _ _ _ ⟨i+1,_,_,_,_,rfl,rfl,i8,d8,p2,i6,j8,by omega,Va hz (keyE_ok2 (by omega) (by omega) (by omega))⟩ (by omega))
    refine xbs 0 1 [.string ⟨(Fq l i).toArray⟩] 9 fun t0 s1 f4=>?_
    have r1:=f4.ge c1
    have l3:=Zn b9 f4
    have f6:=(n9.below (Za g0)).below f4.below
    refine xb (.o [] 1) 3 f6 ?_
    have c4:=Zb b9 f4.below
    have f0:=bln c1 f4.below
    refine ybi (.o [] 10) (.t w.heap.size [9,181]) fun _ _ _ _ zJ zQ zo zx zy zK=>Zr (m:=1) (news:=[.string ⟨(Fq l i).toArray⟩]) (.string ⟨#[]⟩) 1 16 (i+1) ((He l (i+1)).map sv) zo Tryz.underlying89 (by kernel_rfl) rfl (by decide) zx c4 zy (f4.blk.sl 1 1 (by decide) (by decide)) rfl (by simp[Value.oneCell']) (by unfold maxLen;omega) (by omega) f0.size (by rfl) (by rw[Hj,List.map_append];rfl) fun k8 l5 t1 q4 d2 h5=>?_
    refine zK _ _ (Zx h5 d2 c4 (by decide)) ?_
    have b3:=f6.grown d2 c4 (by decide)
    refine ys (.o [11] 12) b3 [V0 (Xz l),.bool ((↑(l.getD 0 0).toNat:Int)==(1:Int)),.slice g7 (i+1) g9,.slice k8 (i+1) l5] (.t w.heap.size [9,181]) fun r7 j4 o7=>⟨(Zl j4 b3 g5 (by decide)),?_⟩
    refine xwm 5 ((i:Int)+1) (↑(i+1):Int) ?_
    have j0:=j4.below (f0.trans h5) g5
    have e2:=j4.blk ((((h0.blk ((((a1.below a0).below b7).below d6.below).grown d9 c3 (by decide)) (Ne.symm (Ne.symm a2))).below (Za g0)).below f4.below).grown d2 c4 (by decide)) (Ne.symm (Ne.symm a2))
    have i9:=j4.own2 (Xj (Zb (Zb (h0.own2 n6 a4 (by decide)) (Za g0)) f4.below) d2 c4 (by decide)) b3 (by decide)
    have j1:=j4.own2 q4 b3 (by decide)
    exact ze 2 (k0 _ _ _ ⟨i+1,_,_,_,_,rfl,rfl,j0,e2,o7,i9,j1,by omega,Va hz (keyE_ok2 (by omega) (by omega) (by omega))⟩ (by omega))
   have c7:=of_decide_eq_false c7
   have a6:=c5.below a0
   refine xb 17 0 a6 ?_
   refine xb 1 1 a6 ?_
   refine xr 0 (args:=#[V0 (Xz l),.bool ((↑(l.getD 0 0).toNat:Int)==(1:Int))]) (Ek (Xz l) (Yi l) _) fun s4 b8=>?_
   refine xwm 0 (8*(↑(Xi l):Int)) (↑(8*(Xi l)):Int) ?_
   refine xwm 0 (12+(↑(8*(Xi l)):Int)) (↑(12+(8*(Xi l))):Int) ?_
   refine xwm 2 ((↑(Xg l):Int)*(i:Int)) (↑((Xg l)*i):Int) ?_
   refine xwm 0 ((↑(12+(8*(Xi l))):Int)+(↑((Xg l)*i):Int)) (↑((12+(8*(Xi l)))+((Xg l)*i)):Int) ?_
   have a9:=a6.below b8
   refine xb 6 2 a9 ?_
   refine xbs 1 1 [V0 (↑(Zg l (12+i*8) 8):Int)] 3 fun r2 t8 d3=>?_
   have e7:=bln (bln a8 a0) b8
   have r3:=d3.ge e7
   have i3:=Zb (Zb hK a0) b8
   have n0:=Zn i3 d3
   have c2:=Zb i3 d3.below
   have f5:=bln e7 d3.below
   refine xbi 0 fun _ _ _ _ zJ zQ zo zx zy zK=>Zr (m:=1) (news:=[V0 (↑(Zg l (12+i*8) 8):Int)]) (V0 0) 1 8 (i+1) ((Ha l (i+1)).map V0) zo Tryz.underlying34 (by kernel_rfl) rfl (by decide) zx c2 zy (d3.blk.sl 1 1 (by decide) (by decide)) rfl (by simp[Value.oneCell']) (by unfold maxLen;omega) (by omega) f5.size (by rfl) (by rw[Dg,List.map_append];rfl) fun g8 g3 u5 o1 d5 n3=>?_
   refine zK _ _ ?_
   have a3:=(a9.below d3.below).grown d5 c2 (by decide)
   refine xs 1 a3 [V0 (Xz l),.bool ((↑(l.getD 0 0).toNat:Int)==(1:Int)),.slice g8 (i+1) g3,.slice vp i vc] fun f1 h1 n7=>?_
   refine xd 2 (.t w.heap.size [9,181]) ?_
   refine xwm (.e [0,2,3,4,5] 6) ((↑((12+(8*(Xi l)))+((Xg l)*i)):Int)+(↑(Xg l):Int)) (↑(((12+(8*(Xi l)))+((Xg l)*i))+(Xg l)):Int) ?_
   refine xsB (.e [] 7) (fun _ _ _ _ _ zo zx zy zz V=>Yv (k:=((12+(8*(Xi l)))+((Xg l)*i))) (h:=(((12+(8*(Xi l)))+((Xg l)*i))+(Xg l))) (b:=a) (n:=244) (c:=c) (i:=(↑((12+(8*(Xi l)))+((Xg l)*i)):Int)) (ki:=.i64) (j:=(↑(((12+(8*(Xi l)))+((Xg l)*i))+(Xg l)):Int)) (kj:=.i64) 1 zo zx zy rfl zz rfl (by omega) (by omega) Tryz.underlying22 (by kernel_rfl) V) ?_
   have c0:=Zb (h1.own2 (Xj (Zb (Zb (Zb hV a0) b8) d3.below) d5 c2 (by decide)) a3 (by decide)) (Za f1)
   have a7:=bln (h1.below (f5.trans n3) g5) (Za f1)
   refine xcvt (.e [] 8) (.t w.heap.size [9,181]) (fun _ _ _ zo zx V c0=>Yz zo zx ((valN_cut (i:=i) h hl (by omega)).below (Wi a7 c0 (Nat.le_refl _))) (Sb (i:=i) hl (by omega)) Tryz.underlying22 Tryz.underlying5 Tryz.underlying9) ?_
   refine xm2 0 1 9 ?_ ?_
   ·have f8:=n7.below (Za f1)
    refine xb 0 3 f8 ?_
    refine xbs (.o [] 9) 1 [.string ⟨(Fq l i).toArray⟩] 9 fun q7 s5 g2=>?_
    have u1:=g2.ge a7
    have m5:=Zn c0 g2
    have c8:=Zb c0 g2.below
    have e8:=bln a7 g2.below
    refine ybi (.o [] 10) (.t w.heap.size [9,181]) fun _ _ _ _ zJ zQ zo zx zy zK=>Zr (m:=1) (news:=[.string ⟨(Fq l i).toArray⟩]) (.string ⟨#[]⟩) 1 16 (i+1) ((He l (i+1)).map sv) zo Tryz.underlying89 (by kernel_rfl) rfl (by decide) zx c8 zy (g2.blk.sl 1 1 (by decide) (by decide)) rfl (by simp[Value.oneCell']) (by unfold maxLen;omega) (by omega) e8.size (by rfl) (by rw[Hj,List.map_append];rfl) fun m3 l9 s0 q5 e1 h7=>?_
    refine zK _ _ (Zx h7 e1 c8 (by decide)) ?_
    have b0:=(f8.below g2.below).grown e1 c8 (by decide)
    refine ys (.o [11] 12) b0 [V0 (Xz l),.bool ((↑(l.getD 0 0).toNat:Int)==(1:Int)),.slice g8 (i+1) g3,.slice m3 (i+1) l9] (.t w.heap.size [9,181]) fun q8 h3 q0=>⟨(Zl h3 b0 g5 (by decide)),?_⟩
    refine xwm 5 ((i:Int)+1) (↑(i+1):Int) ?_
    have i0:=h3.below (e8.trans h7) g5
    have e4:=h3.blk ((((h1.blk ((((a1.below a0).below b8).below d3.below).grown d5 c2 (by decide)) (Ne.symm (Ne.symm a2))).below (Za f1)).below g2.below).grown e1 c8 (by decide)) (Ne.symm (Ne.symm a2))
    have j2:=h3.own2 (Xj (Zb (Zb (h1.own2 o1 a3 (by decide)) (Za f1)) g2.below) e1 c8 (by decide)) b0 (by decide)
    have i1:=h3.own2 q5 b0 (by decide)
    exact ze 2 (k0 _ _ _ ⟨i+1,_,_,_,_,rfl,rfl,i0,e4,q0,j2,i1,by omega,Va hz (keyE_ok (by omega) (by omega))⟩ (by omega))
   refine xbs 0 1 [.string ⟨(Fq l i).toArray⟩] 9 fun s3 r5 e9=>?_
   have t3:=e9.ge a7
   have m4:=Zn c0 e9
   have f2:=(n7.below (Za f1)).below e9.below
   refine xb (.o [] 1) 3 f2 ?_
   have c6:=Zb c0 e9.below
   have f3:=bln a7 e9.below
   refine ybi (.o [] 10) (.t w.heap.size [9,181]) fun _ _ _ _ zJ zQ zo zx zy zK=>Zr (m:=1) (news:=[.string ⟨(Fq l i).toArray⟩]) (.string ⟨#[]⟩) 1 16 (i+1) ((He l (i+1)).map sv) zo Tryz.underlying89 (by kernel_rfl) rfl (by decide) zx c6 zy (e9.blk.sl 1 1 (by decide) (by decide)) rfl (by simp[Value.oneCell']) (by unfold maxLen;omega) (by omega) f3.size (by rfl) (by rw[Hj,List.map_append];rfl) fun l2 m9 u0 p7 d7 j3=>?_
   refine zK _ _ (Zx j3 d7 c6 (by decide)) ?_
   have b4:=f2.grown d7 c6 (by decide)
   refine ys (.o [11] 12) b4 [V0 (Xz l),.bool ((↑(l.getD 0 0).toNat:Int)==(1:Int)),.slice g8 (i+1) g3,.slice l2 (i+1) m9] (.t w.heap.size [9,181]) fun s9 i2 q3=>⟨(Zl i2 b4 g5 (by decide)),?_⟩
   refine xwm 5 ((i:Int)+1) (↑(i+1):Int) ?_
   have h6:=i2.below (f3.trans j3) g5
   have e5:=i2.blk ((((h1.blk ((((a1.below a0).below b8).below d3.below).grown d5 c2 (by decide)) (Ne.symm (Ne.symm a2))).below (Za f1)).below e9.below).grown d7 c6 (by decide)) (Ne.symm (Ne.symm a2))
   have i7:=i2.own2 (Xj (Zb (Zb (h1.own2 o1 a3 (by decide)) (Za f1)) e9.below) d7 c6 (by decide)) b4 (by decide)
   have j6:=i2.own2 p7 b4 (by decide)
   exact ze 2 (k0 _ _ _ ⟨i+1,_,_,_,_,rfl,rfl,h6,e5,q3,i7,j6,by omega,Va hz (keyE_ok (by omega) (by omega))⟩ (by omega))
  have d4:=a1.below a0
  refine xsv 22 d4 [V0 0,.bool false,S0,S0] fun t6 p3 o6=>?_
  have g1:=n1.ge (B4 w)
  have h4:=p3.below (bln a8 a0) g1
  refine xec 10 o6 (.tuple #[.agg #[V0 0,.bool false,S0,S0],V0 2]) ?_
  have e6:Be l i=2:=Zg2 (by omega)
  have he:Qd l=2:=by unfold Qd;rw[if_pos hs,if_pos j9,Ui hz (by rw[e6];decide) (by omega),e6]
  exact .inl ⟨by rw[he];decide,by rw[he],h4⟩
 refine xlv 7 c5.rp ?_
 refine xsv 0 a1 [V0 (Xz l),.bool ((↑(l.getD 0 0).toNat:Int)==(1:Int)),.slice kp i kc,.slice vp i vc] fun q9 l7 o2=>?_
 have g1:=n1.ge (B4 w)
 have h2:=l7.below a8 g1
 have m6:=l7.own2 hK a1 (by decide)
 have k7:=l7.own2 hV a1 (by decide)
 refine xec 4 o2 (.tuple #[.agg #[V0 (Xz l),.bool ((↑(l.getD 0 0).toNat:Int)==(1:Int)),.slice kp i kc,.slice vp i vc],V0 0]) ?_
 obtain rfl:i=Xh l:=by omega
 exact .inr ⟨by unfold Qd;rw[if_pos hs,if_pos j9,hz],_,_,_,_,rfl,h2,m6,k7⟩
end Go.Proofs.YtceeiinepijokaaGreatDoor
namespace Go.Proofs.YtceeiinepijokaaGreatDoor
set_option maxHeartbeats 8000000
set_option maxRecDepth 100000
open Go.RowKit
set_option linter.unusedVariables false
def Fw(l:List Int):Prop:=∀ k,k<l.length→1≤k→l[k-1]?.getD 0<l[k]?.getD 0
instance (l:List Int):Decidable (Fw l):=by unfold Fw;infer_instance
theorem Fw.lt{l:List Int}(h:Fw l):∀ (j i:Nat),i<j→j<l.length→l[i]?.getD 0<l[j]?.getD 0:=by
 intro j
 induction j with
 | zero=>intro i h1;omega
 | succ j ih =>
  intro i h1 h2
  have h3:=h (j+1) h2 (by omega)
  simp only[Nat.add_sub_cancel] at h3
  by_cases hij:i=j
  ·subst hij;exact h3
  ·exact Int.lt_trans (ih i (by omega) (by omega)) h3
theorem Fw.one(l:List Int):Fw (l.take 1):=by
 intro k h1 h2;simp at h1;omega
theorem Fw.succ{l:List Int}{k:Nat}{x y:Int}(h:Fw (l.take k))(hx:l[k-1]? = some x)(hy:l[k]? = some y)(hxy:x<y):Fw (l.take (k+1)):=by
 intro j h1 h2
 have a0:j<k+1:=by simp at h1;omega
 rw[List.getElem?_take,List.getElem?_take,if_pos (by omega),if_pos a0]
 by_cases hj:j=k
 ·subst hj;rw[hx,hy];exact hxy
 ·have:=h j (by simp at h1 ⊢;omega) h2
  rw[List.getElem?_take,List.getElem?_take,if_pos (by omega),if_pos (by omega)] at this
  exact this
theorem Fw.all{l:List Int}{k:Nat}(h:Fw (l.take k))(hk:l.length≤k):Fw l:=by rwa [List.take_of_length_le hk] at h
end Go.Proofs.YtceeiinepijokaaGreatDoor
namespace Go.Proofs.YtceeiinepijokaaGreatDoor
set_option maxHeartbeats 8000000
set_option maxRecDepth 100000
open Go.RowKit
set_option linter.unusedVariables false
attribute [local go_sem] Oper.semAt_some
theorem Bw{n k:Nat}(h:k<n):(List.finRange n).take (k+1)=(List.finRange n).take k++[⟨k,h⟩]:=by
 rw[List.take_succ_eq_append_getElem (by simpa using h)];simp
theorem Zd6(n:Nat):(List.finRange n).take n=List.finRange n:=List.take_of_length_le (by simp)
theorem Sj{n k:Nat}(h:k≤n):((List.finRange n).take k).length=k:=by simp[h]
end Go.Proofs.YtceeiinepijokaaGreatDoor
