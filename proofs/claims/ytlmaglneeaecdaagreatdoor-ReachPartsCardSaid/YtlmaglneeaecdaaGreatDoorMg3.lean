/- Package value: put and read, for any parts. -/
import Derived.Test.YtlmaglneeaecdaaGreatDoorRows
import Derived.RangeFuncNested
import Derived.RangeFuncBound
import Derived.RangeFuncCalls
import Derived.RangeFuncLeaves
import Derived.Shelf.Abstract
import Derived.Shelf.RegionOpen
import Derived.OwnWalkIn
import Derived.TacticsInMore
import Derived.LoopNIn
import Derived.LoopIn
import Derived.Test.YtlmaglneeaecdaaGreatDoorMg2
namespace Go.Proofs.YtlmaglneeaecdaaGreatDoor
set_option maxHeartbeats 8000000
set_option maxRecDepth 100000
open Go.RowKit Go.Extern.Stop Go.Stop Go.Extern
set_option linter.unusedVariables false
attribute [local irreducible] wpList wpAnyH Code.wp Oper.wp Go
abbrev Wp:=Nat×Int×Int
def Zdv(p:Wp):List Value:=[.int .i64 (p.1:Int),.int .i64 p.2.1,.int .i64 p.2.2]
theorem Hm(p:Wp):(Zdv p).length=3:=rfl
def Xy:Wp:=(4,0,0)
def Gu(ps:List Wp):Prop:=ps.length≤1000∧∀ i,i<ps.length→((ps.getD i Xy).1=4∨(ps.getD i Xy).1=8)∧0≤(ps.getD i Xy).2.1∧(ps.getD i Xy).2.2<9223372036854775808∧((ps.getD i Xy).1=4→(ps.getD i Xy).2.2<4294967296)
def inP (p:Wp)(n:Int):Bool:=decide (p.2.1≤n∧n≤p.2.2)
def Pv(ps:List Wp)(N:List Int)(k:Nat):Bool:=(List.range k).all fun i=>inP (ps.getD i Xy) (N.getD i 0)
theorem Zdd(ps:List Wp)(N:List Int)(k:Nat):Pv ps N (k+1)=(Pv ps N k&&inP (ps.getD k Xy) (N.getD k 0)):=by simp[Pv,List.range_succ]
theorem Rb{ps:List Wp}{N:List Int}{i k:Nat}(hi:i<k)(h:inP (ps.getD i Xy) (N.getD i 0)=false):Pv ps N k=false:=by
 unfold Pv
 rw[List.all_eq_false]
 exact⟨i,List.mem_range.2 hi,by rw[h];decide⟩
def putL(ps:List Wp)(N:List Int)(k:Nat):List UInt8:=(List.range k).flatMap fun i=>leB (N.getD i 0) (ps.getD i Xy).1
theorem Ca(ps:List Wp)(N:List Int)(k:Nat):putL ps N (k+1)=putL ps N k++leB (N.getD k 0) (ps.getD k Xy).1:=by simp[putL,List.range_succ]
def Hq(ps:List Wp)(k:Nat):List Nat:=(List.range k).map fun i=>(ps.getD i Xy).1
theorem Vz(ps:List Wp)(k:Nat):Hq ps (k+1)=Hq ps k++[(ps.getD k Xy).1]:=by simp[Hq,List.range_succ]
theorem Pj(ps:List Wp)(k:Nat):(Hq ps k).length=k:=by simp[Hq]
theorem wids_get(ps:List Wp){k i:Nat}(h:i<k):(Hq ps k).getD i 0=(ps.getD i Xy).1:=by simp[Hq,List.getD,List.getElem?_range h]
theorem Zcc(ps:List Wp)(N:List Int)(k:Nat):(putL ps N k).length=(Hq ps k).sum:=by
 induction k with
 | zero=>rfl
 | succ k ih=>rw[Ca,Vz,List.length_append,Zg,ih];simp
theorem Pack_48(g w:Nat)(n:Int)(W:World)(hw:w=4∨w=8)(h0:0≤n)(hb:w=4→n<4294967296)(hk:Blk W g [.int .i64 (w:Int),.int .i64 n] 226):Calls Tryz.prog 110 #[.slice (some ⟨g,0,none⟩) 1 1] W (Yz (fun w' r=>∃ p c,r=.tuple #[.slice p w c,.int .i64 0]∧w'.ownsRow W.heap.size 5 1 (.slice p w c) w ((leB n w).map bv)) W):=by
 rcases hw with rfl|rfl
 ·exact Mz g n h0 (hb rfl) W hk
 ·exact Pack_8 g n h0 W hk
def ValPutP(ps:List Wp)(N:List Int)(w:World)(e:Ending)(w':World):Prop :=
 (Pv ps N ps.length=false∧e=.returned (.string ⟨#[]⟩)∧Below w.heap.size w w')∨(Pv ps N ps.length=true∧e=.returned (.string ⟨(putL ps N ps.length).toArray⟩)∧Below w.heap.size w w')
theorem Zfi(ps:List Wp)(N:List Int)(gl gn:Option Addr)(cl cn:Nat)(w:World)(hps:Gu ps)(hNl:N.length=ps.length)(hP:Sts Zdv w (.slice gl ps.length cl) ps)(hN:Sl w (.slice gn ps.length cn) ps.length (N.map (Value.int .i64))) :
 Calls Tryz.prog 64 #[.slice gl ps.length cl,.slice gn ps.length cn] w (ValPutP ps N w):=by
 have hpl:=hps.1
 refine zin 51 Tryz.func64 ?_
 have hB:=Below.refl w.heap.size w
 refine zl 19 51 (fun zm zkv V=>∃ (i m:Nat) (q:Option Addr) (d:Nat),zkv=[(1,.slice gn ps.length cn),(5,.slice q m d),(10,.slice gl ps.length cl),(11,.int .i64 (↑ps.length:Int)),(12,.int .i64 (↑i:Int))]∧zm=ps.length-((↑i:Int)).toNat∧Below w.heap.size w V∧V.ownsRow w.heap.size 5 1 (.slice q m d) m ((putL ps N i).map bv)∧i≤ps.length∧m=(Hq ps i).sum∧m≤i*8∧Pv ps N i=true) ⟨0,0,_,_,rfl,rfl,hB,World.ownsRow_nil _ _ _ _,Nat.zero_le _,rfl,Nat.zero_le _,rfl⟩ ?_
 rintro _ _ W1 ⟨i,m,q,d,rfl,rfl,hB_1,ho,hi,hm,hm2,hall⟩ J1 hJ1 r1
 refine xid 6 ((↑i:Int)<(↑ps.length:Int)) (fun hc2=>?_) (fun hc2=>?_)
 ·refine xx 7 _ ps.length i 3 (Sts.cell hP Hm Xy (k:=i) (i:=0) (by omega) rfl).1 ?_
  refine xlv 0 (Sts.rp (k:=i) (hP.below hB_1) Hm Xy (by omega) (by decide)) ?_
  refine xa 0 [.int .i64 0,.int .i64 0,.int .i64 0] 223 fun b3 W3 n3=>?_
  have g3:=n3.ge hB_1
  refine xsv 1 n3.blk [.int .i64 (↑(ps.getD i Xy).1:Int),.int .i64 ((ps.getD i Xy).2.1),.int .i64 ((ps.getD i Xy).2.2)] fun W4 u4 k4=>?_
  refine xd 4 .z ?_
  refine xx (.e [0,1] 2) _ ps.length i 1 (IntsN.elem hN hNl (k:=i) (by omega)).1 ?_
  have hB'1:=bln (u4.below (bln hB_1 n3.below) g3) (Za W4)
  refine xl (.e [] 3) ((IntsN.elem (hN.below hB'1) hNl (k:=i) (by omega)).2) ?_
  have k4'1:=k4.below (Za W4)
  refine xb (.e [4] 5) 1 k4'1 ?_
  refine xg (.b [6,7]) [23,24] (decide ((N.getD i 0)<(ps.getD i Xy).2.1)) (fun hc5=>?_) (fun hc5=>?_)
  ·have hc5:=of_decide_eq_true hc5
   exact xe (.r [8,9,10,11,12,13,14,15] 15) (.string ⟨#[]⟩) (.inl ⟨Rb (i:=i) (by omega) (decide_eq_false (by omega)),rfl,hB'1⟩)
  have hc5:=of_decide_eq_false hc5
  refine xx (.e [8,9] 10) _ ps.length i 1 (IntsN.elem hN hNl (k:=i) (by omega)).1 ?_
  refine xl (.e [] 11) ((IntsN.elem (hN.below hB'1) hNl (k:=i) (by omega)).2) ?_
  refine xb (.e [12] 13) 2 k4'1 ?_
  refine xid (.r [14,15] 2) ((N.getD i 0)>(ps.getD i Xy).2.2) (fun hc6=>?_) (fun hc6=>?_)
  ·exact xe 12 (.string ⟨#[]⟩) (.inl ⟨Rb (i:=i) (by omega) (decide_eq_false (by omega)),rfl,hB'1⟩)
  refine xd 3 .z ?_
  have k4'2:=k4'1.below (Za W4.drew)
  refine xb (.e [0] 1) 0 k4'2 ?_
  refine xx (.e [2,3] 4) _ ps.length i 1 (IntsN.elem hN hNl (k:=i) (by omega)).1 ?_
  have hB'2:=bln hB'1 (Za W4.drew)
  refine xl (.e [] 5) ((IntsN.elem (hN.below hB'2) hNl (k:=i) (by omega)).2) ?_
  refine xbs (.o [6] 7) 1 [.int .i64 (↑(ps.getD i Xy).1:Int),.int .i64 (N.getD i 0)] 226 fun b7 W7 n7=>?_
  have g7:=n7.ge hB'2
  refine yc (.o [] 8) (args:=#[.slice (some ⟨b7,0,none⟩) 1 1]) .z (Pack_48 b7 (ps.getD i Xy).1 (N.getD i 0) _ (hps.2 i (by omega)).1 (by have:=(hps.2 i (by omega)).2.1;omega) (fun q=>by have:=(hps.2 i (by omega)).2.2.2 q;omega) n7.blk) ?_
  rintro _ W8 ⟨_,rfl,hb8,p2,c2,rfl,h2⟩
  have hs8:=(bln hB'2 n7.below).size
  refine⟨hb8,?_⟩
  have ho'1:=Zb (Zb (Zb (Zb (u4.own2 (Zb ho n3.below) n3.blk (by decide)) (Za W4)) (Za W4.drew)) n7.below) hb8
  have h2'1:=Zd h2 hs8
  have hB'3:=bln (bln hB'2 n7.below) hb8
  refine xbi (.r [9,10,11,12,13] 5) fun _ _ _ _ zJ zQ zo zx zy zK=>Zo (m:=(ps.getD i Xy).1) (news:=(leB (N.getD i 0) (ps.getD i Xy).1).map bv) (.int .u8 0) 1 1 ((m+(ps.getD i Xy).1)) (((putL ps N (i+1)).map bv)) zo Tryz.underlying22 (by kernel_rfl) rfl (by decide) zx ho'1 zy (Ze h2'1) (by simp[Zg]) (Qc _) (by unfold maxLen;have:=(hps.2 i (by omega)).1;omega) (by have:=(hps.2 i (by omega)).1;omega) hB'3.size (by rfl) (by rw[Ca,List.map_append]) fun px9 cx9 W9 o9 hg9 hb9=>?_
  refine zK _ _ ?_
  refine xwm 5 ((↑i:Int)+1) (↑(i+1):Int) ?_
  have hB'4:=hB'3.trans hb9
  exact ze 2 (hJ1 _ _ _ ⟨i+1,_,_,_,rfl,rfl,hB'4,o9,by omega,by rw[Vz,hm];simp,by have:=(hps.2 i (by omega)).1;omega,by rw[Zdd,hall];exact decide_eq_true ⟨by omega,by omega⟩⟩ (by omega))
 refine xcv0 8 (fun _ _ _ zo zx=>Yp zo zx (Yk (Ze ho) (by rw[Zcc];exact hm.symm)) (by rw[Zcc];exact hm.symm) Tryz.underlying22 Tryz.underlying5 Tryz.underlying9) ?_
 refine xe 4 (.string ⟨(putL ps N i).toArray⟩) ?_
 obtain rfl:i=ps.length:=by omega
 exact .inr ⟨hall,rfl,hB_1⟩
def Bc(ps:List Wp)(s:List UInt8):List Nat:=Kc s 0 (Hq ps ps.length)
theorem Ia(ps:List Wp)(s:List UInt8):(Bc ps s).length=ps.length:=by rw[Bc,Sg,Pj]
def Gm(ps:List Wp)(s:List UInt8):Bool:=Pv ps ((Bc ps s).map fun n:Nat=>(n:Int)) ps.length
def Xk(ps:List Wp)(s:List UInt8):Int:=if s.length=(Hq ps ps.length).sum then(if Gm ps s then 0 else 2) else 7
def Yb(ps:List Wp)(s:List UInt8):List Nat:=if Xk ps s=0 then Bc ps s else List.replicate ps.length 0
theorem Hn(ps:List Wp)(s:List UInt8):(Yb ps s).length=ps.length:=by
 unfold Yb;split
 ·exact Ia ps s
 ·simp
theorem readOk_lt{ps:List Wp}{s:List UInt8}(hp:Gu ps)(h:Gm ps s=true):∀ i,i<(Hq ps ps.length).length→(Kc s 0 (Hq ps ps.length)).getD i 0<9223372036854775808:=by
 intro i hi
 rw[Pj] at hi
 unfold Gm Pv at h
 rw[List.all_eq_true] at h
 have h1:=of_decide_eq_true (h i (List.mem_range.2 hi))
 have h2:=(hp.2 i hi).2.2.1
 rw[show((Bc ps s).map fun n:Nat=>(n:Int)).getD i 0=(((Bc ps s).getD i 0:Nat):Int) by simp[List.getD,show i<(Bc ps s).length by rw[Ia];exact hi]] at h1
 change (Bc ps s).getD i 0<_
 omega
theorem map_nv(l:List Nat):l.map nv=(l.map fun n:Nat=>(n:Int)).map (Value.int .i64):=by simp[nv]
theorem putL_ne{ps:List Wp}{N:List Int}(hp:Gu ps)(h0:0<ps.length):((⟨(putL ps N ps.length).toArray⟩:ByteArray).toList==(⟨#[]⟩:ByteArray).toList)=false:=by
 rw[show(⟨#[]⟩:ByteArray)=⟨([]:List UInt8).toArray⟩ from rfl,Ww]
 apply beq_false_of_ne
 intro q
 have h1:=congrArg List.length q
 obtain⟨k,hk⟩:∃ k,ps.length=k+1:=⟨ps.length-1,by omega⟩
 rw[hk,Ca,List.length_append,Zg] at h1
 rw[List.length_nil] at h1
 have:=(hp.2 k (by omega)).1
 omega
theorem Sz(n:Nat):Hk (Value.int .i64 0).cells.toList n=(List.replicate n 0).map nv:=by
 rw[show(Value.int .i64 0).cells.toList=[Value.int .i64 0] from rfl,Hk,List.map_replicate]
 induction n with
 | zero=>rfl
 | succ n ih=>rw[List.replicate_succ,List.flatten_cons,ih,List.replicate_succ];rfl
theorem Cg(ps:List Wp)(s:List UInt8)(gl:Option Addr)(cl:Nat)(w:World)(hps:Gu ps)(h0:0<ps.length)(hs:s.length≤100000)(hP:Sts Zdv w (.slice gl ps.length cl) ps)(hsl:s.length≠(Hq ps ps.length).sum) :
 Calls Tryz.prog 113 #[.slice gl ps.length cl,.string ⟨s.toArray⟩] w (Yz (fun w' r=>∃ p c,r=.tuple #[.slice p ps.length c,.int .i64 (Xk ps s)]∧w'.ownsRow w.heap.size 3 1 (.slice p ps.length c) ps.length ((Yb ps s).map nv)) w):=by
 have hpl:=hps.1
 refine zin 54 Tryz.func113 ?_
 have hB:=Below.refl w.heap.size w
 refine zl 25 54 (fun zm zkv V=>∃ (i:Nat) (q:Option Addr) (d:Nat),zkv=[(0,.slice gl ps.length cl),(1,.string ⟨s.toArray⟩),(4,.slice none 0 0),(5,.int .i64 0),(6,.slice q i d),(7,.int .i64 (↑(Hq ps i).sum:Int)),(12,.slice gl ps.length cl),(13,.int .i64 (↑ps.length:Int)),(14,.int .i64 (↑i:Int))]∧zm=ps.length-((↑i:Int)).toNat∧Below w.heap.size w V∧V.ownsRow w.heap.size 3 1 (.slice q i d) i ((Hq ps i).map nv)∧i≤ps.length∧(Hq ps i).sum≤i*8) ⟨0,_,_,rfl,rfl,hB,World.ownsRow_nil _ _ _ _,Nat.zero_le _,Nat.zero_le _⟩ ?_
 rintro _ _ W1 ⟨i,q,d,rfl,rfl,hB_1,ho,hi,hm2⟩ J1 hJ1 r1
 have hwd:i<ps.length→(ps.getD i Xy).1≤8:=fun q=>by have:=(hps.2 i q).1;omega
 refine xid 6 ((↑i:Int)<(↑ps.length:Int)) (fun hc2=>?_) (fun hc2=>?_)
 ·refine xx 6 _ ps.length i 3 (Sts.cell hP Hm Xy (k:=i) (i:=0) (by omega) rfl).1 ?_
  refine xlv 0 (Sts.rp (k:=i) (hP.below hB_1) Hm Xy (by omega) (by decide)) ?_
  refine xa 0 [.int .i64 0,.int .i64 0,.int .i64 0] 223 fun b3 W3 n3=>?_
  have g3:=n3.ge hB_1
  refine xsv 0 n3.blk [.int .i64 (↑(ps.getD i Xy).1:Int),.int .i64 ((ps.getD i Xy).2.1),.int .i64 ((ps.getD i Xy).2.2)] fun W4 u4 k4=>?_
  refine xb 6 0 k4 ?_
  refine xbs 0 1 [.int .i64 (↑(ps.getD i Xy).1:Int)] 3 fun b5 W5 n5=>?_
  have hB'1:=u4.below (bln hB_1 n3.below) g3
  have g5:=n5.ge hB'1
  have ho'1:=u4.own2 (Zb ho n3.below) n3.blk (by decide)
  have r5_ho:=Zr ho'1 n5
  have ho'2:=Zb ho'1 n5.below
  have hB'2:=bln hB'1 n5.below
  refine xbi 0 fun _ _ _ _ zJ zQ zo zx zy zK=>Zo (m:=1) (news:=[.int .i64 (↑(ps.getD i Xy).1:Int)]) (.int .i64 0) 1 8 (i+1) (((Hq ps (i+1)).map nv)) zo Tryz.underlying31 (by kernel_rfl) rfl (by decide) zx ho'2 zy (n5.blk.sl 1 1 (by decide) (by decide)) rfl (by simp[Value.oneCell']) (by unfold maxLen;omega) (by omega) hB'2.size (by rfl) (by rw[Vz,List.map_append];rfl) fun px6 cx6 W6 o6 hg6 hb6=>?_
  refine zK _ _ ?_
  have k4'1:=(k4.below n5.below).grown hg6 ho'2 (by decide)
  refine xb 6 0 k4'1 ?_
  refine xwm 0 ((↑(Hq ps i).sum:Int)+(↑(ps.getD i Xy).1:Int)) (↑((Hq ps i).sum+((ps.getD i Xy).1)):Int) ?_
  refine xwm 5 ((↑i:Int)+1) (↑(i+1):Int) ?_
  refine xv1 2 7 (show(.int .i64 (↑((Hq ps i).sum+((ps.getD i Xy).1)):Int):Value)=.int .i64 (↑(Hq ps (i+1)).sum:Int) from by rw[Vz];simp) ?_
  have hB'3:=hB'2.trans hb6
  exact ze 0 (hJ1 _ _ _ ⟨i+1,_,_,rfl,rfl,hB'3,o6,by omega,by rw[Vz,List.sum_append,List.sum_cons,List.sum_nil];have:=hwd (by omega);omega⟩ (by omega))
 refine xk 14 (show(((↑s.length:Int) != (↑(Hq ps i).sum:Int)):Bool)=true from bne_iff_ne.2 (by rw[show i=ps.length by omega];omega)) ?_
 refine xmk 4 fun _ _ _ _ zJ zQ zo zx zy zK=>Vm ps.length (.int .i64 0) 1 8 ((List.replicate ps.length 0).map nv) zo zx zy Tryz.underlying31 (by kernel_rfl) rfl (by omega) (by omega) (Sz _) fun b7 W7 n7=>?_
 have g7:=n7.ge hB_1
 have r7_ho:=Zr ho n7
 refine zK _ _ ?_
 have hB'4:=bln hB_1 n7.below
 have o7:=Zw (size:=1) (n:=ps.length) n7.blk g7 (by simp) (by unfold maxLen;omega)
 refine xe 6 (.tuple #[.slice (some ⟨b7,0,none⟩) ps.length ps.length,.int .i64 7]) ?_
 have he:Xk ps s=7:=if_neg hsl
 exact⟨_,rfl,hB'4,_,_,by rw[he],by rw[Yb,if_neg (by rw[he];decide)];exact o7⟩
def UnpP(s:List UInt8)(ws:List Nat)(n:Nat)(W:World)(e:Ending)(w':World):Prop :=
 ((¬ ∀ i,i<ws.length→(Kc s 0 ws).getD i 0<9223372036854775808)∧e=.returned (.tuple #[.slice none 0 0,.int .i64 2])∧Below W.heap.size W w') ∨
 ((∀ i,i<ws.length→(Kc s 0 ws).getD i 0<9223372036854775808)∧∃ p c,e=.returned (.tuple #[.slice p n c,.int .i64 0])∧Below W.heap.size W w'∧w'.ownsRow W.heap.size 3 1 (.slice p n c) n ((Kc s 0 ws).map nv))
theorem Unpack_P(a:Option Addr)(n c m:Nat)(s:List UInt8)(aw:Option Addr)(cw:Nat)(ws:List Nat)(W:World)(hn:s.length=n)(hm:ws.length=m)(hk:∀ i,i<ws.length→ws.getD i 0=1∨ws.getD i 0=2∨ws.getD i 0=4∨ws.getD i 0=8)(hs:ws.sum≤n)(hl:n≤100000000)(hw:m≤1000)(h:Bys W (.slice a n c) s)(hws:Sl W (.slice aw m cw) m (ws.map nv)) :
 Calls Tryz.prog 164 #[.slice a n c,.slice aw m cw] W (UnpP s ws m W):=by
 subst hn hm
 by_cases hq:∀ i,i<ws.length→(Kc s 0 ws).getD i 0<9223372036854775808
 ·refine(Ai a c s aw cw ws W hk hs hl hw h hws hq).mono ?_
  rintro e V ⟨_,rfl,hb,p,c2,rfl,ho⟩
  exact .inr ⟨hq,p,c2,rfl,hb,ho⟩
 ·refine(Zdk a c s aw cw ws W hk hs hl hw h hws hq).mono ?_
  rintro e V ⟨rfl,hb⟩
  exact .inl ⟨hq,rfl,hb⟩
theorem rawsI_len(ps:List Wp)(s:List UInt8)(k:Nat):((Kc s 0 (Hq ps k)).map fun n:Nat=>(n:Int)).length=k:=by rw[List.length_map,Sg,Pj]
theorem Ok(ps:List Wp)(N:List Int)(gl gn:Option Addr)(cl cn n:Nat)(w:World)(hps:Gu ps)(hn:n=ps.length)(hNl:N.length=n)(hP:Sts Zdv w (.slice gl ps.length cl) ps)(hN:Sl w (.slice gn n cn) n (N.map (Value.int .i64))) :
 Calls Tryz.prog 64 #[.slice gl ps.length cl,.slice gn n cn] w (fun e w'=>(Pv ps N n=false∧e=.returned (.string ⟨#[]⟩)∧Below w.heap.size w w')∨(Pv ps N n=true∧e=.returned (.string ⟨(putL ps N ps.length).toArray⟩)∧Below w.heap.size w w')):=by
 subst hn;exact Zfi ps N gl gn cl cn w hps hNl hP hN
theorem El(ps:List Wp)(s:List UInt8)(gl:Option Addr)(cl:Nat)(w:World)(hps:Gu ps)(h0:0<ps.length)(hs:s.length≤100000)(hP:Sts Zdv w (.slice gl ps.length cl) ps)(hsl:s.length=(Hq ps ps.length).sum) :
 Calls Tryz.prog 113 #[.slice gl ps.length cl,.string ⟨s.toArray⟩] w (Yz (fun w' r=>∃ p c,r=.tuple #[.slice p ps.length c,.int .i64 (Xk ps s)]∧w'.ownsRow w.heap.size 3 1 (.slice p ps.length c) ps.length ((Yb ps s).map nv)) w):=by
 have hpl:=hps.1
 refine zin 54 Tryz.func113 ?_
 have hB:=Below.refl w.heap.size w
 refine zl 25 54 (fun zm zkv V=>∃ (i:Nat) (q:Option Addr) (d:Nat),zkv=[(0,.slice gl ps.length cl),(1,.string ⟨s.toArray⟩),(4,.slice none 0 0),(5,.int .i64 0),(6,.slice q i d),(7,.int .i64 (↑(Hq ps i).sum:Int)),(12,.slice gl ps.length cl),(13,.int .i64 (↑ps.length:Int)),(14,.int .i64 (↑i:Int))]∧zm=ps.length-((↑i:Int)).toNat∧Below w.heap.size w V∧V.ownsRow w.heap.size 3 1 (.slice q i d) i ((Hq ps i).map nv)∧i≤ps.length∧(Hq ps i).sum≤i*8) ⟨0,_,_,rfl,rfl,hB,World.ownsRow_nil _ _ _ _,Nat.zero_le _,Nat.zero_le _⟩ ?_
 rintro _ _ W1 ⟨i,q,d,rfl,rfl,hB_1,ho,hi,hm2⟩ J1 hJ1 r1
 have hwd:i<ps.length→(ps.getD i Xy).1≤8:=fun q=>by have:=(hps.2 i q).1;omega
 refine xid 6 ((↑i:Int)<(↑ps.length:Int)) (fun hc2=>?_) (fun hc2=>?_)
 ·refine xx 6 _ ps.length i 3 (Sts.cell hP Hm Xy (k:=i) (i:=0) (by omega) rfl).1 ?_
  refine xlv 0 (Sts.rp (k:=i) (hP.below hB_1) Hm Xy (by omega) (by decide)) ?_
  refine xa 0 [.int .i64 0,.int .i64 0,.int .i64 0] 223 fun b3 W3 n3=>?_
  have g3:=n3.ge hB_1
  refine xsv 0 n3.blk [.int .i64 (↑(ps.getD i Xy).1:Int),.int .i64 ((ps.getD i Xy).2.1),.int .i64 ((ps.getD i Xy).2.2)] fun W4 u4 k4=>?_
  refine xb 6 0 k4 ?_
  refine xbs 0 1 [.int .i64 (↑(ps.getD i Xy).1:Int)] 3 fun b5 W5 n5=>?_
  have hB'1:=u4.below (bln hB_1 n3.below) g3
  have g5:=n5.ge hB'1
  have ho'1:=u4.own2 (Zb ho n3.below) n3.blk (by decide)
  have r5_ho:=Zr ho'1 n5
  have ho'2:=Zb ho'1 n5.below
  have hB'2:=bln hB'1 n5.below
  refine xbi 0 fun _ _ _ _ zJ zQ zo zx zy zK=>Zo (m:=1) (news:=[.int .i64 (↑(ps.getD i Xy).1:Int)]) (.int .i64 0) 1 8 (i+1) (((Hq ps (i+1)).map nv)) zo Tryz.underlying31 (by kernel_rfl) rfl (by decide) zx ho'2 zy (n5.blk.sl 1 1 (by decide) (by decide)) rfl (by simp[Value.oneCell']) (by unfold maxLen;omega) (by omega) hB'2.size (by rfl) (by rw[Vz,List.map_append];rfl) fun px6 cx6 W6 o6 hg6 hb6=>?_
  refine zK _ _ ?_
  have k4'1:=(k4.below n5.below).grown hg6 ho'2 (by decide)
  refine xb 6 0 k4'1 ?_
  refine xwm 0 ((↑(Hq ps i).sum:Int)+(↑(ps.getD i Xy).1:Int)) (↑((Hq ps i).sum+((ps.getD i Xy).1)):Int) ?_
  refine xwm 5 ((↑i:Int)+1) (↑(i+1):Int) ?_
  refine xv1 2 7 (show(.int .i64 (↑((Hq ps i).sum+((ps.getD i Xy).1)):Int):Value)=.int .i64 (↑(Hq ps (i+1)).sum:Int) from by rw[Vz];simp) ?_
  have hB'3:=hB'2.trans hb6
  exact ze 0 (hJ1 _ _ _ ⟨i+1,_,_,rfl,rfl,hB'3,o6,by omega,by rw[Vz,List.sum_append,List.sum_cons,List.sum_nil];have:=hwd (by omega);omega⟩ (by omega))
 refine xk 14 (show(((↑s.length:Int) != (↑(Hq ps i).sum:Int)):Bool)=false from by rw[show i=ps.length by omega,hsl];simp) ?_
 refine xcf 5 fun _ _ _ zJ zQ zo zx zK=>Vl s zo zx Tryz.underlying9 Tryz.underlying22 Tryz.underlying5 (by omega) ?_
 intro bz cz W7 hb7 hbz
 refine zK _ _ ?_
 have ho'3:=Zb ho hb7
 refine xc 1 (args:=#[.slice (some ⟨bz,0,none⟩) s.length cz,.slice q i d]) (Unpack_P (some ⟨bz,0,none⟩) s.length cz i s q d (Hq ps i) _ rfl (Pj ps i) (fun j hj=>by rw[Pj] at hj;rw[wids_get ps hj];have:=(hps.2 j (by omega)).1;omega) (by rw[show i=ps.length by omega];omega) (by omega) (by omega) hbz (Ze ho'3)) ?_
 rintro e W8 hq8
 rcases hq8 with ⟨hq,rfl,hb8⟩|⟨hq,p5,c5,rfl,hb8,h5⟩
 ·have hie:i=ps.length:=by omega
  have hno:Gm ps s=false:=by rw[←Bool.not_eq_true];intro q;exact hq (by rw[hie];exact readOk_lt hps q)
  refine xmk 25 fun _ _ _ _ zJ zQ zo zx zy zK=>Vm ps.length (.int .i64 0) 1 8 ((List.replicate ps.length 0).map nv) zo zx zy Tryz.underlying31 (by kernel_rfl) rfl (by omega) (by omega) (Sz _) fun b9 W9 n9=>?_
  have hB'4:=bln (bln hB_1 hb7) hb8
  have g9:=n9.ge hB'4
  have ho'4:=Zb ho'3 hb8
  have r9_ho:=Zr ho'4 n9
  refine zK _ _ ?_
  have hB'5:=bln hB'4 n9.below
  have o9:=Zw (size:=1) (n:=ps.length) n9.blk g9 (by simp) (by unfold maxLen;omega)
  refine xe 6 (.tuple #[.slice (some ⟨b9,0,none⟩) ps.length ps.length,.int .i64 2]) ?_
  have he:Xk ps s=2:=by unfold Xk;rw[if_pos hsl,if_neg (by rw[hno];decide)]
  exact⟨_,rfl,hB'5,_,_,by rw[he],by rw[Yb,if_neg (by rw[he];decide)];exact o9⟩
 have hs8:=(bln hB_1 hb7).size
 have hie:i=ps.length:=by omega
 have h5'1:=Zd h5 hs8
 have hN5:Sl (W8) (.slice p5 i c5) i (((Kc s 0 (Hq ps i)).map fun n:Nat=>(n:Int)).map (Value.int .i64)):=by have q:=Ze h5'1;rw[map_nv] at q;exact q
 have hB'6:=bln (bln hB_1 hb7) hb8
 refine xc 15 (args:=#[.slice gl ps.length cl,.slice p5 i c5]) (Ok ps ((Kc s 0 (Hq ps i)).map fun n:Nat=>(n:Int)) gl p5 cl c5 i _ hps hie (rawsI_len ps s i) (hP.below hB'6) hN5) ?_
 rintro e W10 hq10
 rcases hq10 with ⟨hin,rfl,hb10⟩|⟨hin,rfl,hb10⟩
 ·have hno:Gm ps s=false:=by unfold Gm Bc;rw[←hie];exact hin
  refine xmk 9 fun _ _ _ _ zJ zQ zo zx zy zK=>Vm ps.length (.int .i64 0) 1 8 ((List.replicate ps.length 0).map nv) zo zx zy Tryz.underlying31 (by kernel_rfl) rfl (by omega) (by omega) (Sz _) fun b11 W11 n11=>?_
  have hB'7:=bln hB'6 hb10
  have g11:=n11.ge hB'7
  have ho'5:=Zb (Zb ho'3 hb8) hb10
  have r11_ho:=Zr ho'5 n11
  have h5'2:=Zb h5'1 hb10
  have r11_h5:=Zr h5'2 n11
  refine zK _ _ ?_
  have hB'8:=bln hB'7 n11.below
  have o11:=Zw (size:=1) (n:=ps.length) n11.blk g11 (by simp) (by unfold maxLen;omega)
  refine xe 6 (.tuple #[.slice (some ⟨b11,0,none⟩) ps.length ps.length,.int .i64 2]) ?_
  have he:Xk ps s=2:=by unfold Xk;rw[if_pos hsl,if_neg (by rw[hno];decide)]
  exact⟨_,rfl,hB'8,_,_,by rw[he],by rw[Yb,if_neg (by rw[he];decide)];exact o11⟩
 have hyes:Gm ps s=true:=by unfold Gm Bc;rw[←hie];exact hin
 refine xk 4 (show(((⟨(putL ps ((Kc s 0 (Hq ps i)).map fun n:Nat=>(n:Int)) ps.length).toArray⟩:ByteArray).toList==(⟨#[]⟩:ByteArray).toList):Bool)=false from putL_ne hps h0) ?_
 have hB'9:=bln hB'6 hb10
 have h5'3:=Zb h5'1 hb10
 refine xe 10 (.tuple #[.slice p5 i c5,.int .i64 0]) ?_
 have he:Xk ps s=0:=by unfold Xk;rw[if_pos hsl,if_pos hyes]
 subst hie
 exact⟨_,rfl,hB'9,_,_,by rw[he],by rw[Yb,if_pos he];exact h5'3⟩
theorem Zaa(ps:List Wp)(s:List UInt8)(gl:Option Addr)(cl:Nat)(w:World)(hps:Gu ps)(h0:0<ps.length)(hs:s.length≤100000)(hP:Sts Zdv w (.slice gl ps.length cl) ps) :
 Calls Tryz.prog 113 #[.slice gl ps.length cl,.string ⟨s.toArray⟩] w (Yz (fun w' r=>∃ p c,r=.tuple #[.slice p ps.length c,.int .i64 (Xk ps s)]∧w'.ownsRow w.heap.size 3 1 (.slice p ps.length c) ps.length ((Yb ps s).map nv)) w):=by
 by_cases h:s.length=(Hq ps ps.length).sum
 ·exact El ps s gl cl w hps h0 hs hP h
 ·exact Cg ps s gl cl w hps h0 hs hP h
end Go.Proofs.YtlmaglneeaecdaaGreatDoor
namespace Go.Proofs.YtlmaglneeaecdaaGreatDoor
set_option maxHeartbeats 8000000
set_option maxRecDepth 100000
open Go.RowKit
set_option linter.unusedVariables false
section
variable {P:Program} {a:Act}
theorem str_ext(l:List UInt8)(b c:Nat):(ByteArray.mk l.toArray).extract b c=ByteArray.mk ((l.drop b).take (c-b)).toArray:=ByteArray.extract_mk l b c
theorem run_strH{o:Oper}{t:TypeId}{x y:Operand}{l:List UInt8}{k:Nat}{j:Int}{kj:IntKind}(ho:o.op=.slice t x none (some y) none)(hx:a.eval x=.string ⟨l.toArray⟩)(hy:a.eval y=.int kj j)(hj:j=(k:Int))(hk:k≤l.length)
 (ht:P.underlying t=some .string) (w:World):(execOp a.eval o).run P w=.ok (.value (.string ⟨(l.take k).toArray⟩)) w:=by
 subst hj
 have hs:((k:Int))≤((⟨l.toArray⟩:ByteArray).size:Int):=by simp[ByteArray.size];omega
 have h:=run_slice_string_h (P:=P) (w:=w) (t:=t) (s:=⟨l.toArray⟩) ht kj (k:Int) (by omega) hs
 rw[str_ext,List.drop_zero,Int.toNat_natCast,Nat.sub_zero] at h
 simp only[execOp,ho,hx,Option.map_some,Option.map_none,hy]
 simp[run_sliceAt_string,ht,h]
theorem run_strL{o:Oper}{t:TypeId}{x y:Operand}{l:List UInt8}{k:Nat}{j:Int}{kj:IntKind}(ho:o.op=.slice t x (some y) none none)(hx:a.eval x=.string ⟨l.toArray⟩)(hy:a.eval y=.int kj j)(hj:j=(k:Int))(hk:k≤l.length)
 (ht:P.underlying t=some .string) (w:World):(execOp a.eval o).run P w=.ok (.value (.string ⟨(l.drop k).toArray⟩)) w:=by
 subst hj
 have hs:((k:Int))≤((⟨l.toArray⟩:ByteArray).size:Int):=by simp[ByteArray.size];omega
 have h:=run_slice_string_l (P:=P) (w:=w) (t:=t) (s:=⟨l.toArray⟩) ht kj (k:Int) (by omega) hs
 rw[str_ext,Int.toNat_natCast,show(⟨l.toArray⟩:ByteArray).size=l.length by simp[ByteArray.size],List.take_of_length_le (by simp)] at h
 simp only[execOp,ho,hx,Option.map_some,Option.map_none,hy]
 simp[run_sliceAt_string,ht,h]
end
end Go.Proofs.YtlmaglneeaecdaaGreatDoor
namespace Go.Proofs.YtlmaglneeaecdaaGreatDoor
set_option maxHeartbeats 8000000
set_option maxRecDepth 100000
open Go.RowKit Go.Extern.Stop Go.Stop Go.Extern
set_option linter.unusedVariables false
attribute [local irreducible] wpList wpAnyH Code.wp Oper.wp Go
theorem Ri(kind no:Int)(a:Option Addr)(n c:Nat)(l:List UInt8)(w:World)(hn:l.length=n)(h:Bys w (.slice a n c) l):Calls Tryz.prog 145 #[.slice a n c,.int .i64 kind,.int .i64 no] w (Ze4 kind no l w):=by
 subst hn;exact Ab kind no a c l w h
def Yv(l:List UInt8)(tree:Int):Int:=if Yn l=0 then(if tree=0∨Xm l=tree then 0 else 6) else Yn l
def Xg(l:List UInt8)(no tree:Int):Int:=if inE l 2 no=0 then Yv (inB l no) tree else inE l 2 no
def Node1P(l:List UInt8)(tree:Int)(w:World)(e:Ending)(w':World):Prop :=
 (Yv l tree≠0∧∃ a b kp n1 kc vp n2 vc,e=.returned (.tuple #[.agg #[.int .i64 a,.bool b,.slice kp n1 kc,.slice vp n2 vc],.int .i64 (Yv l tree)])∧Below w.heap.size w w') ∨
 (Yv l tree=0∧∃ kp kc vp vc,e=.returned (.tuple #[.agg #[.int .i64 (Xm l),.bool (Xr l),.slice kp (Xf l) kc,.slice vp (Xf l) vc],.int .i64 0])∧Below w.heap.size w w' ∧
  w'.ownsRow w.heap.size 3 1 (.slice kp (Xf l) kc) (Xf l) ((Kf l (Xf l)).map (Value.int .i64))∧w'.ownsRow w.heap.size 9 1 (.slice vp (Xf l) vc) (Xf l) ((Kg l (Xf l)).map sv))
def Zc9(l:List UInt8)(no tree:Int)(w:World)(e:Ending)(w':World):Prop :=
 (Xg l no tree≠0∧∃ b,e=.returned (.tuple #[.agg #[.int .i64 0,.bool false,.slice none 0 0,.slice none 0 0],.iface 179 (.pointer (some ⟨b,0,none⟩))])∧Below w.heap.size w w'∧Kk w' [some no] (some (Xg l no tree)) (.iface 179 (.pointer (some ⟨b,0,none⟩)))) ∨
 (Xg l no tree=0∧∃ kp kc vp vc,e=.returned (.tuple #[.agg #[.int .i64 (Xm (inB l no)),.bool (Xr (inB l no)),.slice kp (Xf (inB l no)) kc,.slice vp (Xf (inB l no)) vc],.nilIface])∧Below w.heap.size w w' ∧
  w'.ownsRow w.heap.size 3 1 (.slice kp (Xf (inB l no)) kc) (Xf (inB l no)) ((Kf (inB l no) (Xf (inB l no))).map (Value.int .i64))∧w'.ownsRow w.heap.size 9 1 (.slice vp (Xf (inB l no)) vc) (Xf (inB l no)) ((Kg (inB l no) (Xf (inB l no))).map sv))
theorem node_1(tree:Int)(bt:Nat)(a:Option Addr)(c:Nat)(l:List UInt8)(w:World)(kt:Blk w bt [.int .i64 tree] 3)(hl:l.length=244)(h:Bys w (.slice a 244 c) l) :
 Calls Tryz.prog 186 #[.slice a 244 c,.pointer (some ⟨bt,0,none⟩)] w (Node1P l tree w):=by
 refine zin 27 Tryz.func186 ?_
 refine xa 2 [.int .i64 0,.bool false,.slice none 0 0,.slice none 0 0] 220 fun b1 W1 n1=>?_
 refine xc 6 (args:=#[.slice a 244 c]) (node_Read a c l _ hl (h.below n1.below)) ?_
 rintro e W2 hq2
 rcases hq2 with ⟨hz,rfl,hb2⟩|⟨hz,kp,kc,vp,vc,rfl,hb2,hk,hv_⟩
 ·refine xa 3 [.int .i64 0,.bool false,.slice none 0 0,.slice none 0 0] 220 fun b3 W3 n3=>?_
  have k1:=n1.blk.below hb2
  have d3_b1:=n3.ne k1
  have hB'1:=bln n1.below hb2
  have g3:=n3.ge hB'1
  refine xsv 0 n3.blk [.int .i64 0,.bool false,.slice none 0 0,.slice none 0 0] fun W4 u4 k4=>?_
  refine xgk 9 [13,14] (show(((Yn l)==(0:Int)):Bool)=false from beq_false_of_ne hz) ?_
  refine xlv 16 k4.rp ?_
  have k1'1:=u4.blk (k1.below n3.below) (Ne.symm (Ne.symm d3_b1))
  refine xsv 1 k1'1 [.int .i64 0,.bool false,.slice none 0 0,.slice none 0 0] fun W6 u6 k6=>?_
  have g1:=n1.ge (Below.refl w.heap.size _)
  have hB'2:=u6.below (u4.below (bln hB'1 n3.below) g3) g1
  exact xec 4 k6 (.tuple #[.agg #[.int .i64 0,.bool false,.slice none 0 0,.slice none 0 0],.int .i64 (Yn l)]) (.inl ⟨by unfold Yv;rw[if_neg hz];exact hz,_,_,_,_,_,_,_,_,by unfold Yv;rw[if_neg hz],hB'2⟩)
 refine xa 3 [.int .i64 0,.bool false,.slice none 0 0,.slice none 0 0] 220 fun b7 W7 n7=>?_
 have k1:=n1.blk.below hb2
 have d7_b1:=n7.ne k1
 have hB'3:=bln n1.below hb2
 have g7:=n7.ge hB'3
 refine xsv 0 n7.blk [.int .i64 (Xm l),.bool (Xr l),.slice kp (Xf l) kc,.slice vp (Xf l) vc] fun W8 u8 k8=>?_
 have kt'1:=u8.blkT (((kt.below n1.below).below hb2).below n7.below) n7.blk (by decide)
 refine xb 9 0 kt'1 ?_
 refine xg 3 [16,17,18] (tree != (0:Int)) (fun hc9=>?_) (fun hc9=>?_)
 ·have hc9:=Vq hc9
  refine xb 1 0 k8 ?_
  refine xb 0 0 kt'1 ?_
  refine xin 4 (Xm l) tree (fun hc10=>?_) (fun hc10=>?_)
  ·refine xlv 2 k8.rp ?_
   have k1'2:=u8.blk (k1.below n7.below) (Ne.symm (Ne.symm d7_b1))
   refine xsv 0 k1'2 [.int .i64 (Xm l),.bool (Xr l),.slice kp (Xf l) kc,.slice vp (Xf l) vc] fun W11 u11 k11=>?_
   have g1:=n1.ge (Below.refl w.heap.size _)
   have hB'4:=u11.below (u8.below (bln hB'3 n7.below) g7) g1
   exact xec 5 k11 (.tuple #[.agg #[.int .i64 (Xm l),.bool (Xr l),.slice kp (Xf l) kc,.slice vp (Xf l) vc],.int .i64 6]) (.inl ⟨by unfold Yv;rw[if_pos hz,if_neg (by omega)];decide,_,_,_,_,_,_,_,_,by unfold Yv;rw[if_pos hz,if_neg (by omega)],hB'4⟩)
  refine xlv 4 k8.rp ?_
  have k1'3:=u8.blk (k1.below n7.below) (Ne.symm (Ne.symm d7_b1))
  refine xsv 1 k1'3 [.int .i64 (Xm l),.bool (Xr l),.slice kp (Xf l) kc,.slice vp (Xf l) vc] fun W12 u12 k12=>?_
  have g1:=n1.ge (Below.refl w.heap.size _)
  have hB'5:=u12.below (u8.below (bln hB'3 n7.below) g7) g1
  have hk'1:=u12.own2 (u8.own2 (Zb (Zd hk n1.below.size) n7.below) n7.blk (by decide)) k1'3 (by decide)
  have hv_'1:=u12.own2 (u8.own2 (Zb (Zd hv_ n1.below.size) n7.below) n7.blk (by decide)) k1'3 (by decide)
  exact xec 4 k12 (.tuple #[.agg #[.int .i64 (Xm l),.bool (Xr l),.slice kp (Xf l) kc,.slice vp (Xf l) vc],.int .i64 0]) (.inr ⟨by unfold Yv;rw[if_pos hz,if_pos (by omega)],_,_,_,_,rfl,hB'5,hk'1,hv_'1⟩)
 have hc9:=Xp hc9
 refine xlv 12 k8.rp ?_
 have k1'4:=u8.blk (k1.below n7.below) (Ne.symm (Ne.symm d7_b1))
 refine xsv 1 k1'4 [.int .i64 (Xm l),.bool (Xr l),.slice kp (Xf l) kc,.slice vp (Xf l) vc] fun W13 u13 k13=>?_
 have g1:=n1.ge (Below.refl w.heap.size _)
 have hB'6:=u13.below (u8.below (bln hB'3 n7.below) g7) g1
 have hk'2:=u13.own2 (u8.own2 (Zb (Zd hk n1.below.size) n7.below) n7.blk (by decide)) k1'4 (by decide)
 have hv_'2:=u13.own2 (u8.own2 (Zb (Zd hv_ n1.below.size) n7.below) n7.blk (by decide)) k1'4 (by decide)
 exact xec 4 k13 (.tuple #[.agg #[.int .i64 (Xm l),.bool (Xr l),.slice kp (Xf l) kc,.slice vp (Xf l) vc],.int .i64 0]) (.inr ⟨by unfold Yv;rw[if_pos hz,if_pos (by omega)],_,_,_,_,rfl,hB'6,hk'2,hv_'2⟩)
theorem readNode(B b:Nat)(p:Option Addr)(n c:Nat)(l:List UInt8)(no tree:Int)(w:World)(hI:ImgR B b p n c l w)(bt:Nat)(kt:Blk w bt [.int .i64 tree] 3) :
 Calls Tryz.prog 185 #[.pointer (some ⟨b,0,none⟩),.int .i64 no,.int .i64 2,.func (.func 186) #[] #[.pointer (some ⟨bt,0,none⟩)]] w (Zc9 l no tree w):=by
 refine zin 56 Tryz.func185 ?_
 refine xa 2 [.int .i64 0,.bool false,.slice none 0 0,.slice none 0 0] 220 fun b1 W1 n1=>?_
 refine xa 5 [.int .i64 0,.bool false,.slice none 0 0,.slice none 0 0] 220 fun b2 W2 n2=>?_
 have d2_b1:=n2.ne n1.blk
 have hB:=bln n1.below n2.below
 refine xc 6 (args:=#[.pointer (some ⟨b,0,none⟩),.int .i64 no]) (Mm B b p n c l no _ (hI.below hB)) ?_
 rintro e W3 hq3
 rcases hq3 with ⟨ho,vr,rfl,hb3⟩|⟨j,hk,hj,p2,c2,rfl,hb3,ho⟩
 ·refine xd 16 (.t w.heap.size [220]) ?_
  refine xm2 (.b [1,2,3]) 0 4 ?_ ?_
  ·have k2:=(n2.blk.below hb3).below (Za W3)
   refine xlv 0 k2.rp ?_
   refine yc (.o [] 4) (args:=#[.int .i64 no,.iface 91 (.int .i64 3)]) (.t w.heap.size [220]) (Yc no 3 _) ?_
   rintro _ W4 ⟨_,rfl,hb4,hv4⟩
   refine⟨(SF.of_below _ hb4),?_⟩
   rw[if_neg (by decide),if_neg (by decide)] at hv4
   have hq4:=hv4
   obtain⟨bf4,vf4,rfl,_,_⟩:=hq4
   have k1'1:=(((n1.blk.below n2.below).below hb3).below (Za W3)).below hb4
   have g1:=n1.ge (Below.refl w.heap.size _)
   refine ysv (.o [] 5) k1'1 [.int .i64 0,.bool false,.slice none 0 0,.slice none 0 0] (.t w.heap.size [220]) fun W5 u5 k5=>⟨(Zx u5 k1'1 g1 (by decide)),?_⟩
   have hB'1:=u5.below (bln (bln (bln hB hb3) (Za W3)) hb4) g1
   have hv4'1:=hv4.upd u5 k1'1 (by decide)
   refine xec (.r [6] 4) k5 (.tuple #[.agg #[.int .i64 0,.bool false,.slice none 0 0,.slice none 0 0],.iface 179 (.pointer (some ⟨bf4,0,none⟩))]) ?_
   have he:Xg l no tree=3:=by unfold Xg;rw[Dy hI.len ho];rfl
   exact .inl ⟨by rw[he];decide,_,rfl,hB'1,by rw[he];exact hv4'1⟩
  refine yc 0 (args:=#[.int .i64 no,.iface 91 (.int .i64 3)]) (.t w.heap.size [220]) (Yc no 3 _) ?_
  rintro _ W6 ⟨_,rfl,hb6,hv6⟩
  refine⟨(SF.of_below _ hb6),?_⟩
  rw[if_neg (by decide),if_neg (by decide)] at hv6
  have hq6:=hv6
  obtain⟨bf6,vf6,rfl,_,_⟩:=hq6
  have k2:=((n2.blk.below hb3).below (Za W3)).below hb6
  refine xlv (.o [] 0) k2.rp ?_
  have k1'2:=(((n1.blk.below n2.below).below hb3).below (Za W3)).below hb6
  have g1:=n1.ge (Below.refl w.heap.size _)
  refine ysv (.o [] 5) k1'2 [.int .i64 0,.bool false,.slice none 0 0,.slice none 0 0] (.t w.heap.size [220]) fun W7 u7 k7=>⟨(Zx u7 k1'2 g1 (by decide)),?_⟩
  have hB'2:=u7.below (bln (bln (bln hB hb3) (Za W3)) hb6) g1
  have hv6'1:=hv6.upd u7 k1'2 (by decide)
  refine xec (.r [6] 4) k7 (.tuple #[.agg #[.int .i64 0,.bool false,.slice none 0 0,.slice none 0 0],.iface 179 (.pointer (some ⟨bf6,0,none⟩))]) ?_
  have he:Xg l no tree=3:=by unfold Xg;rw[Dy hI.len ho];rfl
  exact .inl ⟨by rw[he];decide,_,rfl,hB'2,by rw[he];exact hv6'1⟩
 have hs3:=(bln n1.below n2.below).size
 have hj2:j<l.length/256:=by rw[hI.len];exact hj
 have hlj:=Qj hj2
 have he2:=Fj (l:=l) (kind:=2) hI.len hk hj
 have ho'1:=Zd ho hs3
 refine xc 22 (args:=#[.slice p2 256 c2,.int .i64 2,.int .i64 no]) (Ri 2 no p2 256 c2 (Va l j) _ hlj (Yk (Ze ho'1) hlj)) ?_
 rintro e W8 hq8
 rcases hq8 with ⟨hs,rfl,hb8⟩|⟨hs,p3,c3,rfl,hb8,h3⟩
 ·refine xk 14 (show(((Xt 2 no (Va l j)) != (0:Int)):Bool)=true from bne_iff_ne.2 hs) ?_
  refine xd 1 (.t w.heap.size [220]) ?_
  refine xm2 (.b [1,2,3]) 0 4 ?_ ?_
  ·have k2:=((n2.blk.below hb3).below hb8).below (Za W8)
   refine xlv 0 k2.rp ?_
   refine yc (.o [] 4) (args:=#[.int .i64 no,.iface 91 (.int .i64 (Xt 2 no (Va l j)))]) (.t w.heap.size [220]) (Yc no (Xt 2 no (Va l j)) _) ?_
   rintro _ W9 ⟨_,rfl,hb9,hv9⟩
   refine⟨(SF.of_below _ hb9),?_⟩
   rw[if_neg hs,if_neg hs] at hv9
   have hq9:=hv9
   obtain⟨bf9,vf9,rfl,_,_⟩:=hq9
   have k1'3:=((((n1.blk.below n2.below).below hb3).below hb8).below (Za W8)).below hb9
   have g1:=n1.ge (Below.refl w.heap.size _)
   refine ysv (.o [] 5) k1'3 [.int .i64 0,.bool false,.slice none 0 0,.slice none 0 0] (.t w.heap.size [220]) fun W10 u10 k10=>⟨(Zx u10 k1'3 g1 (by decide)),?_⟩
   have hB'3:=u10.below (bln (bln (bln (bln hB hb3) hb8) (Za W8)) hb9) g1
   have hv9'1:=hv9.upd u10 k1'3 (by decide)
   refine xec (.r [6] 4) k10 (.tuple #[.agg #[.int .i64 0,.bool false,.slice none 0 0,.slice none 0 0],.iface 179 (.pointer (some ⟨bf9,0,none⟩))]) ?_
   have he:Xg l no tree=Xt 2 no (Va l j):=by unfold Xg;rw[he2,if_neg hs]
   exact .inl ⟨by rw[he];exact hs,_,rfl,hB'3,by rw[he];exact hv9'1⟩
  refine yc 0 (args:=#[.int .i64 no,.iface 91 (.int .i64 (Xt 2 no (Va l j)))]) (.t w.heap.size [220]) (Yc no (Xt 2 no (Va l j)) _) ?_
  rintro _ W11 ⟨_,rfl,hb11,hv11⟩
  refine⟨(SF.of_below _ hb11),?_⟩
  rw[if_neg hs,if_neg hs] at hv11
  have hq11:=hv11
  obtain⟨bf11,vf11,rfl,_,_⟩:=hq11
  have k2:=(((n2.blk.below hb3).below hb8).below (Za W8)).below hb11
  refine xlv (.o [] 0) k2.rp ?_
  have k1'4:=((((n1.blk.below n2.below).below hb3).below hb8).below (Za W8)).below hb11
  have g1:=n1.ge (Below.refl w.heap.size _)
  refine ysv (.o [] 5) k1'4 [.int .i64 0,.bool false,.slice none 0 0,.slice none 0 0] (.t w.heap.size [220]) fun W12 u12 k12=>⟨(Zx u12 k1'4 g1 (by decide)),?_⟩
  have hB'4:=u12.below (bln (bln (bln (bln hB hb3) hb8) (Za W8)) hb11) g1
  have hv11'1:=hv11.upd u12 k1'4 (by decide)
  refine xec (.r [6] 4) k12 (.tuple #[.agg #[.int .i64 0,.bool false,.slice none 0 0,.slice none 0 0],.iface 179 (.pointer (some ⟨bf11,0,none⟩))]) ?_
  have he:Xg l no tree=Xt 2 no (Va l j):=by unfold Xg;rw[he2,if_neg hs]
  exact .inl ⟨by rw[he];exact hs,_,rfl,hB'4,by rw[he];exact hv11'1⟩
 have hs8:=(bln hB hb3).size
 have h3'1:=Zd h3 hs8
 have hin:((Va l j).drop 8).take 244=inB l no:=(Rg hk).symm
 have hil:=Zah hI.len hk hj
 rw[hin] at h3'1
 have hB'5:=bln (bln hB hb3) hb8
 refine xc 21 (args:=#[.slice p3 244 c3,.pointer (some ⟨bt,0,none⟩)]) (node_1 tree bt p3 c3 (inB l no) _ (kt.below hB'5) hil (Yk (Ze h3'1) hil)) ?_
 rintro e W13 hq13
 rcases hq13 with ⟨hz,a5,b5,kp,m1,kc,vp,m2,vc,rfl,hb13⟩|⟨hz,kp,kc,vp,vc,rfl,hb13,hk,hv_⟩
 ·refine xa 3 [.int .i64 0,.bool false,.slice none 0 0,.slice none 0 0] 220 fun b14 W14 n14=>?_
  have k1'5:=(((n1.blk.below n2.below).below hb3).below hb8).below hb13
  have d14_b1:=n14.ne k1'5
  have k2:=((n2.blk.below hb3).below hb8).below hb13
  have d14_b2:=n14.ne k2
  have hB'6:=bln hB'5 hb13
  have g14:=n14.ge hB'6
  refine xsv 0 n14.blk [.int .i64 a5,.bool b5,.slice kp m1 kc,.slice vp m2 vc] fun W15 u15 k15=>?_
  refine xk 10 (show(((Yv (inB l no) tree) != (0:Int)):Bool)=true from bne_iff_ne.2 hz) ?_
  refine xd 1 (.t w.heap.size [220]) ?_
  refine xm2 (.b [1,2,3]) 0 4 ?_ ?_
  ·have k2'1:=(u15.blk (k2.below n14.below) (Ne.symm (Ne.symm d14_b2))).below (Za W15)
   refine xlv 0 k2'1.rp ?_
   refine yc (.o [] 4) (args:=#[.int .i64 no,.iface 91 (.int .i64 (Yv (inB l no) tree))]) (.t w.heap.size [220]) (Yc no (Yv (inB l no) tree) _) ?_
   rintro _ W16 ⟨_,rfl,hb16,hv16⟩
   refine⟨(SF.of_below _ hb16),?_⟩
   rw[if_neg hz,if_neg hz] at hv16
   have hq16:=hv16
   obtain⟨bf16,vf16,rfl,_,_⟩:=hq16
   have k1'6:=((u15.blk (k1'5.below n14.below) (Ne.symm (Ne.symm d14_b1))).below (Za W15)).below hb16
   have g1:=n1.ge (Below.refl w.heap.size _)
   refine ysv (.o [] 5) k1'6 [.int .i64 0,.bool false,.slice none 0 0,.slice none 0 0] (.t w.heap.size [220]) fun W17 u17 k17=>⟨(Zx u17 k1'6 g1 (by decide)),?_⟩
   have hB'7:=u17.below (bln (bln (u15.below (bln hB'6 n14.below) g14) (Za W15)) hb16) g1
   have hv16'1:=hv16.upd u17 k1'6 (by decide)
   refine xec (.r [6] 4) k17 (.tuple #[.agg #[.int .i64 0,.bool false,.slice none 0 0,.slice none 0 0],.iface 179 (.pointer (some ⟨bf16,0,none⟩))]) ?_
   have he:Xg l no tree=Yv (inB l no) tree:=by unfold Xg;rw[he2,if_pos hs]
   exact .inl ⟨by rw[he];exact hz,_,rfl,hB'7,by rw[he];exact hv16'1⟩
  refine yc 0 (args:=#[.int .i64 no,.iface 91 (.int .i64 (Yv (inB l no) tree))]) (.t w.heap.size [220]) (Yc no (Yv (inB l no) tree) _) ?_
  rintro _ W18 ⟨_,rfl,hb18,hv18⟩
  refine⟨(SF.of_below _ hb18),?_⟩
  rw[if_neg hz,if_neg hz] at hv18
  have hq18:=hv18
  obtain⟨bf18,vf18,rfl,_,_⟩:=hq18
  have k2'2:=((u15.blk (k2.below n14.below) (Ne.symm (Ne.symm d14_b2))).below (Za W15)).below hb18
  refine xlv (.o [] 0) k2'2.rp ?_
  have k1'7:=((u15.blk (k1'5.below n14.below) (Ne.symm (Ne.symm d14_b1))).below (Za W15)).below hb18
  have g1:=n1.ge (Below.refl w.heap.size _)
  refine ysv (.o [] 5) k1'7 [.int .i64 0,.bool false,.slice none 0 0,.slice none 0 0] (.t w.heap.size [220]) fun W19 u19 k19=>⟨(Zx u19 k1'7 g1 (by decide)),?_⟩
  have hB'8:=u19.below (bln (bln (u15.below (bln hB'6 n14.below) g14) (Za W15)) hb18) g1
  have hv18'1:=hv18.upd u19 k1'7 (by decide)
  refine xec (.r [6] 4) k19 (.tuple #[.agg #[.int .i64 0,.bool false,.slice none 0 0,.slice none 0 0],.iface 179 (.pointer (some ⟨bf18,0,none⟩))]) ?_
  have he:Xg l no tree=Yv (inB l no) tree:=by unfold Xg;rw[he2,if_pos hs]
  exact .inl ⟨by rw[he];exact hz,_,rfl,hB'8,by rw[he];exact hv18'1⟩
 have hs13:=(bln (bln hB hb3) hb8).size
 refine xa 3 [.int .i64 0,.bool false,.slice none 0 0,.slice none 0 0] 220 fun b20 W20 n20=>?_
 have k1'8:=(((n1.blk.below n2.below).below hb3).below hb8).below hb13
 have d20_b1:=n20.ne k1'8
 have k2:=((n2.blk.below hb3).below hb8).below hb13
 have d20_b2:=n20.ne k2
 have hB'9:=bln hB'5 hb13
 have g20:=n20.ge hB'9
 refine xsv 0 n20.blk [.int .i64 (Xm (inB l no)),.bool (Xr (inB l no)),.slice kp (Xf (inB l no)) kc,.slice vp (Xf (inB l no)) vc] fun W21 u21 k21=>?_
 refine xlv 15 k21.rp ?_
 have k1'9:=u21.blk (k1'8.below n20.below) (Ne.symm (Ne.symm d20_b1))
 refine xsv 0 k1'9 [.int .i64 (Xm (inB l no)),.bool (Xr (inB l no)),.slice kp (Xf (inB l no)) kc,.slice vp (Xf (inB l no)) vc] fun W22 u22 k22=>?_
 have g1:=n1.ge (Below.refl w.heap.size _)
 have hB'10:=u22.below (u21.below (bln hB'9 n20.below) g20) g1
 have hk'1:=u22.own2 (u21.own2 (Zb (Zd hk hs13) n20.below) n20.blk (by decide)) k1'9 (by decide)
 have hv_'1:=u22.own2 (u21.own2 (Zb (Zd hv_ hs13) n20.below) n20.blk (by decide)) k1'9 (by decide)
 exact xec 4 k22 (.tuple #[.agg #[.int .i64 (Xm (inB l no)),.bool (Xr (inB l no)),.slice kp (Xf (inB l no)) kc,.slice vp (Xf (inB l no)) vc],.nilIface]) (.inr ⟨by unfold Xg;rw[he2,if_pos hs,hz],_,_,_,_,rfl,hB'10,hk'1,hv_'1⟩)
theorem Zdx(B b:Nat)(p:Option Addr)(n c:Nat)(l:List UInt8)(no tree:Int)(w:World)(hI:ImgR B b p n c l w) :
 Calls Tryz.prog 136 #[.pointer (some ⟨b,0,none⟩),.int .i64 no,.int .i64 tree] w (Zc9 l no tree w):=by
 refine zin 14 Tryz.func136 ?_
 refine xa 2 [.int .i64 tree] 3 fun b1 W1 n1=>?_
 refine xa 0 [.int .i64 0,.bool false,.slice none 0 0,.slice none 0 0] 220 fun b2 W2 n2=>?_
 have hB:=bln n1.below n2.below
 have k1:=n1.blk.below n2.below
 refine xc 8 (args:=#[.pointer (some ⟨b,0,none⟩),.int .i64 no,.int .i64 2,.func (.func 186) #[] #[.pointer (some ⟨b1,0,none⟩)]]) (readNode B b p n c l no tree _ (hI.below hB) b1 k1) ?_
 rintro e W3 hq3
 rcases hq3 with ⟨he,bf,rfl,hb3,hv⟩|⟨he,kp,kc,vp,vc,rfl,hb3,hk,hv_⟩
 ·have k2:=n2.blk.below hb3
  refine xsv 2 k2 [.int .i64 0,.bool false,.slice none 0 0,.slice none 0 0] fun W4 u4 k4=>?_
  have g2:=n2.ge n1.below
  have hB'1:=u4.below (bln hB hb3) g2
  have hv'1:=hv.upd u4 k2 (by decide)
  exact xec 4 k4 (.tuple #[.agg #[.int .i64 0,.bool false,.slice none 0 0,.slice none 0 0],.iface 179 (.pointer (some ⟨bf,0,none⟩))]) (.inl ⟨he,_,rfl,hB'1,hv'1⟩)
 have hs3:=(bln n1.below n2.below).size
 have k2:=n2.blk.below hb3
 refine xsv 2 k2 [.int .i64 (Xm (inB l no)),.bool (Xr (inB l no)),.slice kp (Xf (inB l no)) kc,.slice vp (Xf (inB l no)) vc] fun W5 u5 k5=>?_
 have g2:=n2.ge n1.below
 have hB'2:=u5.below (bln hB hb3) g2
 have hk'1:=u5.own2 (Zd hk hs3) k2 (by decide)
 have hv_'1:=u5.own2 (Zd hv_ hs3) k2 (by decide)
 exact xec 4 k5 (.tuple #[.agg #[.int .i64 (Xm (inB l no)),.bool (Xr (inB l no)),.slice kp (Xf (inB l no)) kc,.slice vp (Xf (inB l no)) vc],.nilIface]) (.inr ⟨he,_,_,_,_,rfl,hB'2,hk'1,hv_'1⟩)
def Zy:List Wp:=[(8,1,14399),(4,0,960),(4,0,960)]
theorem slotP_ok:Gu Zy:=by
 refine⟨by decide,fun i hi=>?_⟩
 have hi':i<3:=hi
 obtain rfl|rfl|rfl:i=0∨i=1∨i=2:=by omega
 all_goals simp[Zy,List.getD]
def Qb(l:List UInt8)(i:Nat):List UInt8:=(l.drop (4+i*16)).take 16
def Ys(l:List UInt8)(i k:Nat):Nat:=(Yb Zy (Qb l i)).getD k 0
def Og(x:Nat×Nat×Nat):List Value:=[.int .i64 (x.1:Int),.int .i64 (x.2.1:Int),.int .i64 (x.2.2:Int)]
theorem Be(x:Nat×Nat×Nat):(Og x).length=3:=rfl
def sltX(l:List UInt8)(i:Nat):Nat×Nat×Nat:=(Ys l i 0,Ys l i 1,Ys l i 2)
def Ux(l:List UInt8)(n:Nat):List (Nat×Nat×Nat):=(List.range n).map (sltX l)
theorem Fd(l:List UInt8)(n:Nat):Ux l (n+1)=Ux l n++[sltX l n]:=by simp[Ux,List.range_succ]
theorem An(l:List UInt8)(n:Nat):(Ux l n).length=n:=by simp[Ux]
def Gv(l:List UInt8):Nat→Int
 | 0=>0
 | i+1=>if Gv l i≠0 then Gv l i else Xk Zy (Qb l i)
theorem Fz{l:List UInt8}{i:Nat}(h:Gv l i≠0):∀ n,i≤n→Gv l n=Gv l i
 | 0,h2=>by
  obtain rfl:i=0:=by omega
  rfl
 | n+1,h2=>by
   by_cases e:i=n+1
   ·rw[e]
   ·have ih:=Fz h n (by omega)
    rw[Gv,if_pos (by rw[ih];exact h),ih]
theorem Zc8{l:List UInt8}{i n:Nat}(h:Gv l i=0)(he:Xk Zy (Qb l i)≠0)(hi:i<n):Gv l n=Xk Zy (Qb l i):=by
 have e:Gv l (i+1)=Xk Zy (Qb l i):=by rw[Gv,if_neg (by rw[h];decide)]
 rw[Fz (by rw[e];exact he) n hi,e]
theorem Nw{l:List UInt8}{i:Nat}(h:Gv l i=0)(he:Xk Zy (Qb l i)=0):Gv l (i+1)=0:=by rw[Gv,if_neg (by rw[h];decide),he]
theorem Nn{l:List UInt8}{i:Nat}(hl:l.length=244)(hi:i<15):(Qb l i).length=16:=by simp[Qb];omega
theorem slot_two{l:List UInt8}{i:Nat}(hl:l.length=244)(hi:i<15):Xk Zy (Qb l i)=0∨Xk Zy (Qb l i)=2:=by
 unfold Xk
 rw[if_pos (by rw[Nn hl hi];rfl)]
 split
 ·exact .inl rfl
 ·exact .inr rfl
def Pb(l:List UInt8):Bool:=decide (Zf l 0 4≤15)&&Yy (l.drop (4+Zf l 0 4*16))
def Wk(l:List UInt8):Int:=if Pb l then Gv l (Zf l 0 4) else 7
def SlotsP(l:List UInt8)(w:World)(e:Ending)(w':World):Prop :=
 (Wk l≠0∧e=.returned (.tuple #[.slice none 0 0,.int .i64 (Wk l)])∧Below w.heap.size w w') ∨
 (Wk l=0∧∃ p c,e=.returned (.tuple #[.slice p (Zf l 0 4) c,.int .i64 0])∧Below w.heap.size w w'∧w'.ownsRow w.heap.size 191 3 (.slice p (Zf l 0 4) c) (Zf l 0 4) ((Ux l (Zf l 0 4)).flatMap Og))
theorem Za1(w:World) :
 Calls Tryz.prog 129 #[] w (Yz (fun w' r=>∃ b,r=.slice (some ⟨b,0,none⟩) 3 3∧w.heap.size≤b∧Blk w' b [.int .i64 8,.int .i64 1,.int .i64 14399,.int .i64 4,.int .i64 0,.int .i64 960,.int .i64 4,.int .i64 0,.int .i64 960] 223) w):=by
 refine zin 5 Tryz.func129 ?_
 refine xbs 10 3 [.int .i64 8,.int .i64 1,.int .i64 14399,.int .i64 4,.int .i64 0,.int .i64 960,.int .i64 4,.int .i64 0,.int .i64 960] 223 fun b1 W1 n1=>?_
 have g1:=n1.ge (Below.refl w.heap.size _)
 exact xe 4 (.slice (some ⟨b1,0,none⟩) 3 3) ⟨_,rfl,n1.below,_,rfl,g1,n1.blk⟩
theorem We(s:List UInt8)(w:World)(hs:s.length≤1000) :
 Calls Tryz.prog 188 #[.string ⟨s.toArray⟩] w (Ret (.tuple #[.agg #[.int .i64 (↑((Yb Zy s).getD 0 0):Int),.int .i64 (↑((Yb Zy s).getD 1 0):Int),.int .i64 (↑((Yb Zy s).getD 2 0):Int)],.int .i64 (Xk Zy s)]) w):=by
 refine zin 23 Tryz.func188 ?_
 refine xa 2 [.int .i64 0,.int .i64 0,.int .i64 0] 191 fun b1 W1 n1=>?_
 refine xc 5 (args:=#[]) (Za1 _) ?_
 rintro _ W2 ⟨_,rfl,hb2,gl,rfl,gg,kl⟩
 refine xc 1 (args:=#[.slice (some ⟨gl,0,none⟩) 3 3,.string ⟨s.toArray⟩]) (Zaa Zy s (some ⟨gl,0,none⟩) 3 _ slotP_ok (by decide) (by omega) (kl.sl 3 3 (by decide) (by decide))) ?_
 rintro _ W3 ⟨_,rfl,hb3,p5,c5,rfl,h5⟩
 have hs3:=(bln n1.below hb2).size
 refine xd 8 (.t w.heap.size [191]) ?_
 have h5'1:=Zb (Zd h5 hs3) (Za W3)
 refine xx (.e [0] 1) _ 3 0 1 (Zi (l:=Yb Zy s) (Ze h5'1) (Hn _ _) (k:=0) (by decide)).1 ?_
 refine xlt (.e [] 2) (.t w.heap.size [191]) (fun V hV=>(Zi (l:=Yb Zy s) (Ze (Zj h5'1 hV.2 (by decide))) (Hn _ _) (k:=0) (by decide)).2) ?_
 refine xx (.e [3] 4) _ 3 1 1 (Zi (l:=Yb Zy s) (Ze h5'1) (Hn _ _) (k:=1) (by decide)).1 ?_
 refine xlt (.e [] 5) (.t w.heap.size [191]) (fun V hV=>(Zi (l:=Yb Zy s) (Ze (Zj h5'1 hV.2 (by decide))) (Hn _ _) (k:=1) (by decide)).2) ?_
 refine xx (.e [6] 7) _ 3 2 1 (Zi (l:=Yb Zy s) (Ze h5'1) (Hn _ _) (k:=2) (by decide)).1 ?_
 refine xlt (.e [] 8) (.t w.heap.size [191]) (fun V hV=>(Zi (l:=Yb Zy s) (Ze (Zj h5'1 hV.2 (by decide))) (Hn _ _) (k:=2) (by decide)).2) ?_
 have k1:=((n1.blk.below hb2).below hb3).below (Za W3)
 have g1:=n1.ge (Below.refl w.heap.size _)
 refine ysv (.o [9,10] 11) k1 [.int .i64 (↑((Yb Zy s).getD 0 0):Int),.int .i64 (↑((Yb Zy s).getD 1 0):Int),.int .i64 (↑((Yb Zy s).getD 2 0):Int)] (.t w.heap.size [191]) fun W4 u4 k4=>⟨(Zx u4 k1 g1 (by decide)),?_⟩
 have hB:=u4.below (bln (bln (bln n1.below hb2) hb3) (Za W3)) g1
 exact xec (.r [12] 3) k4 (.tuple #[.agg #[.int .i64 (↑((Yb Zy s).getD 0 0):Int),.int .i64 (↑((Yb Zy s).getD 1 0):Int),.int .i64 (↑((Yb Zy s).getD 2 0):Int)],.int .i64 (Xk Zy s)]) ⟨rfl,hB⟩
theorem Zen(B bt:Nat)(x:List UInt8)(w:World)(hBw:B≤w.heap.size)(hBt:B≤bt)(kt:Blk w bt [.string ⟨x.toArray⟩] 9)(hx:16≤x.length) :
 Calls Tryz.prog 219 #[.pointer (some ⟨bt,0,none⟩)] w ((fun e w'=>e=.returned (.string ⟨(x.take 16).toArray⟩)∧Below B w w'∧Zh [9] w w'∧Blk w' bt [.string ⟨(x.drop 16).toArray⟩] 9)):=by
 refine zin 8 Tryz.func219 ?_
 refine xb 7 0 kt ?_
 refine xsH 0 (fun _ _ _ _ zo zx zy V=>run_strH (k:=16) (j:=16) (kj:=.i64) zo zx zy rfl hx Tryz.underlying9 V) ?_
 refine xb 5 0 kt ?_
 refine xsL 0 (fun _ _ _ _ zo zx zy V=>run_strL (k:=16) (j:=16) (kj:=.i64) zo zx zy rfl hx Tryz.underlying9 V) ?_
 refine xs 0 kt [.string ⟨(x.drop 16).toArray⟩] fun W1 u1 k1=>?_
 have hB:=u1.below (Below.refl B w) hBt
 have hO:=(show Zh [9] w _ from(Zh.of_upd u1 kt (by decide)))
 exact xe 9 (.string ⟨(x.take 16).toArray⟩) ⟨rfl,hB,hO,k1⟩
theorem Ch(l:List UInt8)(i:Nat)(w:World)(hs:(Qb l i).length≤1000):Calls Tryz.prog 188 #[.string ⟨(Qb l i).toArray⟩] w (fun e w' =>
 (Xk Zy (Qb l i)=0∧e=.returned (.tuple #[.agg #[.int .i64 (Ys l i 0:Int),.int .i64 (Ys l i 1:Int),.int .i64 (Ys l i 2:Int)],.int .i64 0])∧Below w.heap.size w w') ∨
 (Xk Zy (Qb l i)≠0∧e=.returned (.tuple #[.agg #[.int .i64 (Ys l i 0:Int),.int .i64 (Ys l i 1:Int),.int .i64 (Ys l i 2:Int)],.int .i64 (Xk Zy (Qb l i))])∧Below w.heap.size w w')):=by
 refine(We (Qb l i) w hs).mono ?_
 rintro e W ⟨rfl,hb⟩
 by_cases h:Xk Zy (Qb l i)=0
 ·exact .inl ⟨h,by rw[h];rfl,hb⟩
 ·exact .inr ⟨h,rfl,hb⟩
theorem bysK{w:World}{a:Option Addr}{c k:Nat}{l:List UInt8}(h:Bys w (.slice a 244 c) l)(hl:l.length=244)(hk:k≤244):Bys w (.slice (Qy a k c 1) (244-k) (c-k)) (l.drop k):=by
 have:=Bys.cut h hl k 244 hk (by decide)
 rwa [List.take_of_length_le (by simp;omega)] at this
theorem Zfd(a:Option Addr)(c:Nat)(l:List UInt8)(w:World)(hl:l.length=244)(h:Bys w (.slice a 244 c) l) :
 Calls Tryz.prog 182 #[.slice a 244 c] w (SlotsP l w):=by
 have hcap:=Bys.cap h hl
 refine zin 52 Tryz.func182 ?_
 refine xr 20 (args:=#[.slice a 244 c,.int .i64 0,.int .i64 4]) (Get_okN a 244 c 0 4 0 4 l _ hl rfl rfl (by decide) (by decide) (by decide) (h.below (Below.refl w.heap.size _))) fun W1 hb1=>?_
 refine xg 13 [20,21] (decide ((↑(Zf l 0 4):Int)>(15:Int))) (fun hc2=>?_) (fun hc2=>?_)
 ·have hc2:=of_decide_eq_true hc2
  refine xe 19 (.tuple #[.slice none 0 0,.int .i64 7]) ?_
  have he:Wk l=7:=by unfold Wk Pb;rw[decide_eq_false (by omega),Bool.false_and,if_neg (by decide)]
  exact .inl ⟨by rw[he];decide,by rw[he],hb1⟩
 have hc2:=of_decide_eq_false hc2
 refine xwm 2 ((↑(Zf l 0 4):Int)*16) (↑((Zf l 0 4)*16):Int) ?_
 refine xwm 0 (4+(↑((Zf l 0 4)*16):Int)) (↑(4+((Zf l 0 4)*16)):Int) ?_
 refine xsL 0 (fun _ _ _ _ zo zx zy V=>Xv (k:=(4+((Zf l 0 4)*16))) (b:=a) (n:=244) (c:=c) (i:=(↑(4+((Zf l 0 4)*16)):Int)) (ki:=.i64) 1 zo zx zy rfl (by omega) Tryz.underlying22 (by kernel_rfl) V) ?_
 refine xr 0 (args:=#[.slice (Qy a (4+((Zf l 0 4)*16)) c 1) (244-(4+((Zf l 0 4)*16))) (c-(4+((Zf l 0 4)*16)))]) (Mu (Qy a (4+((Zf l 0 4)*16)) c 1) (244-(4+((Zf l 0 4)*16))) (c-(4+((Zf l 0 4)*16))) (l.drop (4+Zf l 0 4*16)) _ (by simp;omega) (by omega) ((bysK (k:=4+Zf l 0 4*16) h hl (by omega)).below hb1)) fun W3 hb3=>?_
 refine xi 4 (!(Yy (l.drop (4+Zf l 0 4*16)))) (fun hc4=>?_) (fun hc4=>?_)
 ·have hze:Yy (l.drop (4+Zf l 0 4*16))=false:=Zad hc4
  have hB'1:=bln hb1 hb3
  refine xe 8 (.tuple #[.slice none 0 0,.int .i64 7]) ?_
  have he:Wk l=7:=by unfold Wk Pb;rw[hze,Bool.and_false,if_neg (by decide)]
  exact .inl ⟨by rw[he];decide,by rw[he],hB'1⟩
 have hze:Yy (l.drop (4+Zf l 0 4*16))=true:=Zaj hc4
 refine xsL 5 (fun _ _ _ _ zo zx zy V=>Xv (k:=4) (b:=a) (n:=244) (c:=c) (i:=4) (ki:=.i64) 1 zo zx zy rfl (by omega) Tryz.underlying22 (by kernel_rfl) V) ?_
 have hB'2:=bln hb1 hb3
 refine xcv0 0 (fun _ _ _ zo zx=>Yp zo zx ((bysK (k:=4) h hl (by decide)).below hB'2) (by simp;omega) Tryz.underlying22 Tryz.underlying5 Tryz.underlying9) ?_
 refine xa 0 [.string ⟨#[]⟩] 9 fun b5 W5 n5=>?_
 have g5:=n5.ge hB'2
 refine xs 0 n5.blk [.string ⟨(l.drop 4).toArray⟩] fun W6 u6 k6=>?_
 have kt0:Blk _ _ [.string ⟨((l.drop (4+0*16))).toArray⟩] _:=k6
 have hB'3:=u6.below (bln hB'2 n5.below) g5
 refine zl 21 52 (fun zm zkv V=>∃ (i:Nat) (q:Option Addr) (d:Nat),zkv=[(7,.func (.func 219) #[] #[.pointer (some ⟨b5,0,none⟩)]),(8,.slice q i d),(34,.int .i64 (↑(Zf l 0 4):Int)),(35,.int .i64 (↑i:Int))]∧zm=(Zf l 0 4)-((↑i:Int)).toNat∧Below w.heap.size w V∧Blk V b5 ([.string ⟨(l.drop (4+i*16)).toArray⟩]) 9∧V.ownsRow w.heap.size 191 3 (.slice q i d) i ((Ux l i).flatMap Og)∧i≤(Zf l 0 4)∧Gv l i=0) ⟨0,_,_,rfl,rfl,hB'3,kt0,World.ownsRow_nil _ _ _ _,Nat.zero_le _,rfl⟩ ?_
 rintro _ _ W7 ⟨i,q,d,rfl,rfl,hB_7,k7_b5,ho,hi,hz⟩ J7 hJ7 r7
 refine xid 6 ((↑i:Int)<(↑(Zf l 0 4):Int)) (fun hc8=>?_) (fun hc8=>?_)
 ·refine xc 7 (args:=#[.pointer (some ⟨b5,0,none⟩)]) (Zen w.heap.size b5 (l.drop (4+i*16)) _ hB_7.size g5 k7_b5 (by simp;omega)) ?_
  rintro _ W9 ⟨rfl,hb9,hO9,kN9⟩
  rw[List.drop_drop,show 4+i*16+16=4+(i+1)*16 by omega] at kN9
  refine xc 0 (args:=#[.string ⟨(Qb l i).toArray⟩]) (Ch l i _ (by rw[Nn hl (by omega)];decide)) ?_
  rintro e W10 hq10
  rcases hq10 with ⟨hz0,rfl,hb10⟩|⟨hz0,rfl,hb10⟩
  ·refine xa 3 [.int .i64 0,.int .i64 0,.int .i64 0] 191 fun b11 W11 n11=>?_
   have hB'4:=bln (hB_7.trans hb9) hb10
   have g11:=n11.ge hB'4
   have ho'1:=Zb (Zj ho hO9 (by decide)) hb10
   have r11_ho:=Zr ho'1 n11
   refine xsv 0 n11.blk [.int .i64 (↑(Ys l i 0):Int),.int .i64 (↑(Ys l i 1):Int),.int .i64 (↑(Ys l i 2):Int)] fun W12 u12 k12=>?_
   refine xlv 15 k12.rp ?_
   refine xbs 0 1 [.int .i64 (↑(Ys l i 0):Int),.int .i64 (↑(Ys l i 1):Int),.int .i64 (↑(Ys l i 2):Int)] 191 fun b13 W13 n13=>?_
   have d13_b11:=n13.ne k12
   have hB'5:=u12.below (bln hB'4 n11.below) g11
   have g13:=n13.ge hB'5
   have ho'2:=u12.own3 (Zb ho'1 n11.below) r11_ho
   have r13_ho:=Zr ho'2 n13
   have ho'3:=Zb ho'2 n13.below
   have hB'6:=bln hB'5 n13.below
   refine xbi 0 fun _ _ _ _ zJ zQ zo zx zy zK=>Zo (m:=1) (news:=[.int .i64 (↑(Ys l i 0):Int),.int .i64 (↑(Ys l i 1):Int),.int .i64 (↑(Ys l i 2):Int)]) (.agg #[.int .i64 0,.int .i64 0,.int .i64 0]) 3 24 (i+1) (((Ux l (i+1)).flatMap Og)) zo Tryz.underlying197 (by kernel_rfl) rfl (by decide) zx ho'3 zy (n13.blk.sl 1 1 (by decide) (by decide)) rfl (by simp[Value.oneCell']) (by unfold maxLen;omega) (by omega) hB'6.size (by rfl) (by rw[Fd,List.flatMap_append];rfl) fun px14 cx14 W14 o14 hg14 hb14=>?_
   refine zK _ _ ?_
   refine xwm 5 ((↑i:Int)+1) (↑(i+1):Int) ?_
   have hB'7:=hB'6.trans hb14
   have kN9'1:=((u12.blkT ((kN9.below hb10).below n11.below) n11.blk (by decide)).below n13.below).grown hg14 ho'3 (by decide)
   exact ze 2 (hJ7 _ _ _ ⟨i+1,_,_,rfl,rfl,hB'7,kN9'1,o14,by omega,Nw hz hz0⟩ (by omega))
  refine xa 3 [.int .i64 0,.int .i64 0,.int .i64 0] 191 fun b15 W15 n15=>?_
  have hB'8:=bln (hB_7.trans hb9) hb10
  have g15:=n15.ge hB'8
  have ho'4:=Zb (Zj ho hO9 (by decide)) hb10
  have r15_ho:=Zr ho'4 n15
  refine xsv 0 n15.blk [.int .i64 (↑(Ys l i 0):Int),.int .i64 (↑(Ys l i 1):Int),.int .i64 (↑(Ys l i 2):Int)] fun W16 u16 k16=>?_
  refine xk 10 (show(((Xk Zy (Qb l i)) != (0:Int)):Bool)=true from bne_iff_ne.2 hz0) ?_
  have hB'9:=u16.below (bln hB'8 n15.below) g15
  refine xe 14 (.tuple #[.slice none 0 0,.int .i64 (Xk Zy (Qb l i))]) ?_
  have hok:Pb l=true:=by unfold Pb;rw[hze,decide_eq_true (by omega)];rfl
  have he:Wk l=Xk Zy (Qb l i):=by unfold Wk;rw[if_pos hok,Zc8 hz hz0 (by omega)]
  exact .inl ⟨by rw[he];exact hz0,by rw[he],hB'9⟩
 refine xe 13 (.tuple #[.slice q i d,.int .i64 0]) ?_
 have hok:Pb l=true:=by unfold Pb;rw[hze,decide_eq_true (by omega)];rfl
 obtain rfl:i=Zf l 0 4:=by omega
 exact .inr ⟨by unfold Wk;rw[if_pos hok,hz],_,_,rfl,hB_7,ho⟩
def Xl(l:List UInt8)(no:Int):Int:=if inE l 4 no=0 then Wk (inB l no) else inE l 4 no
def BlkIdxP(l:List UInt8)(no:Int)(w:World)(e:Ending)(w':World):Prop :=
 (Xl l no≠0∧∃ b,e=.returned (.tuple #[.slice none 0 0,.iface 179 (.pointer (some ⟨b,0,none⟩))])∧Below w.heap.size w w'∧Kk w' [some no] (some (Xl l no)) (.iface 179 (.pointer (some ⟨b,0,none⟩)))) ∨
 (Xl l no=0∧∃ p c,e=.returned (.tuple #[.slice p (Zf (inB l no) 0 4) c,.nilIface])∧Below w.heap.size w w'∧w'.ownsRow w.heap.size 191 3 (.slice p (Zf (inB l no) 0 4) c) (Zf (inB l no) 0 4) ((Ux (inB l no) (Zf (inB l no) 0 4)).flatMap Og))
theorem readIdx(B b:Nat)(p:Option Addr)(n c:Nat)(l:List UInt8)(no:Int)(w:World)(hI:ImgR B b p n c l w) :
 Calls Tryz.prog 181 #[.pointer (some ⟨b,0,none⟩),.int .i64 no,.int .i64 4,.func (.func 182) #[] #[]] w (BlkIdxP l no w):=by
 refine zin 56 Tryz.func181 ?_
 refine xc 15 (args:=#[.pointer (some ⟨b,0,none⟩),.int .i64 no]) (Mm B b p n c l no _ (hI.below (Below.refl w.heap.size _))) ?_
 rintro e W1 hq1
 rcases hq1 with ⟨ho,vr,rfl,hb1⟩|⟨j,hk,hj,p2,c2,rfl,hb1,ho⟩
 ·refine xc 21 (args:=#[.int .i64 no,.iface 91 (.int .i64 3)]) (Yc no 3 _) ?_
  rintro _ W2 ⟨_,rfl,hb2,hv2⟩
  rw[if_neg (by decide),if_neg (by decide)] at hv2
  have hq2:=hv2
  obtain⟨bf2,vf2,rfl,_,_⟩:=hq2
  have hB:=bln hb1 hb2
  refine xe 6 (.tuple #[.slice none 0 0,.iface 179 (.pointer (some ⟨bf2,0,none⟩))]) ?_
  have he:Xl l no=3:=by unfold Xl;rw[Dy hI.len ho];rfl
  exact .inl ⟨by rw[he];decide,_,rfl,hB,by rw[he];exact hv2⟩
 have hs1:=Nat.le_refl w.heap.size
 have hj2:j<l.length/256:=by rw[hI.len];exact hj
 have hlj:=Qj hj2
 have he2:=Fj (l:=l) (kind:=4) hI.len hk hj
 have ho'1:=Zd ho hs1
 refine xc 22 (args:=#[.slice p2 256 c2,.int .i64 4,.int .i64 no]) (Ri 4 no p2 256 c2 (Va l j) _ hlj (Yk (Ze ho'1) hlj)) ?_
 rintro e W3 hq3
 rcases hq3 with ⟨hs,rfl,hb3⟩|⟨hs,p3,c3,rfl,hb3,h3⟩
 ·refine xk 14 (show(((Xt 4 no (Va l j)) != (0:Int)):Bool)=true from bne_iff_ne.2 hs) ?_
  refine xc 6 (args:=#[.int .i64 no,.iface 91 (.int .i64 (Xt 4 no (Va l j)))]) (Yc no (Xt 4 no (Va l j)) _) ?_
  rintro _ W4 ⟨_,rfl,hb4,hv4⟩
  rw[if_neg hs,if_neg hs] at hv4
  have hq4:=hv4
  obtain⟨bf4,vf4,rfl,_,_⟩:=hq4
  have hB:=bln (bln hb1 hb3) hb4
  refine xe 6 (.tuple #[.slice none 0 0,.iface 179 (.pointer (some ⟨bf4,0,none⟩))]) ?_
  have he:Xl l no=Xt 4 no (Va l j):=by unfold Xl;rw[he2,if_neg hs]
  exact .inl ⟨by rw[he];exact hs,_,rfl,hB,by rw[he];exact hv4⟩
 have h3'1:=Zd h3 hb1.size
 have hin:((Va l j).drop 8).take 244=inB l no:=(Rg hk).symm
 have hil:=Zah hI.len hk hj
 rw[hin] at h3'1
 refine xc 21 (args:=#[.slice p3 244 c3]) (Zfd p3 c3 (inB l no) _ hil (Yk (Ze h3'1) hil)) ?_
 rintro e W5 hq5
 rcases hq5 with ⟨hz,rfl,hb5⟩|⟨hz,p4,c4,rfl,hb5,h4⟩
 ·refine xk 14 (show(((Wk (inB l no)) != (0:Int)):Bool)=true from bne_iff_ne.2 hz) ?_
  refine xc 6 (args:=#[.int .i64 no,.iface 91 (.int .i64 (Wk (inB l no)))]) (Yc no (Wk (inB l no)) _) ?_
  rintro _ W6 ⟨_,rfl,hb6,hv6⟩
  rw[if_neg hz,if_neg hz] at hv6
  have hq6:=hv6
  obtain⟨bf6,vf6,rfl,_,_⟩:=hq6
  have hB:=bln (bln (bln hb1 hb3) hb5) hb6
  refine xe 6 (.tuple #[.slice none 0 0,.iface 179 (.pointer (some ⟨bf6,0,none⟩))]) ?_
  have he:Xl l no=Wk (inB l no):=by unfold Xl;rw[he2,if_pos hs]
  exact .inl ⟨by rw[he];exact hz,_,rfl,hB,by rw[he];exact hv6⟩
 have hs5:=(bln hb1 hb3).size
 have hB:=bln (bln hb1 hb3) hb5
 have h4'1:=Zd h4 hs5
 exact xe 25 (.tuple #[.slice p4 (Zf (inB l no) 0 4) c4,.nilIface]) (.inr ⟨by unfold Xl;rw[he2,if_pos hs,hz],_,_,rfl,hB,h4'1⟩)
theorem Zao(B b:Nat)(p:Option Addr)(n c:Nat)(l:List UInt8)(no:Int)(w:World)(hI:ImgR B b p n c l w) :
 Calls Tryz.prog 133 #[.pointer (some ⟨b,0,none⟩),.int .i64 no] w (BlkIdxP l no w):=by
 refine zin 11 Tryz.func133 ?_
 refine xc 10 (args:=#[.pointer (some ⟨b,0,none⟩),.int .i64 no,.int .i64 4,.func (.func 182) #[] #[]]) (readIdx B b p n c l no _ (hI.below (Below.refl w.heap.size _))) ?_
 rintro e W1 hq1
 rcases hq1 with ⟨he,bf,rfl,hb1,hv⟩|⟨he,p4,c4,rfl,hb1,h4⟩
 ·exact xe 7 (.tuple #[.slice none 0 0,.iface 179 (.pointer (some ⟨bf,0,none⟩))]) (.inl ⟨he,_,rfl,hb1,hv⟩)
 have hs1:=Nat.le_refl w.heap.size
 have h4'1:=Zd h4 hs1
 exact xe 7 (.tuple #[.slice p4 (Zf (inB l no) 0 4) c4,.nilIface]) (.inr ⟨he,_,_,rfl,hb1,h4'1⟩)
theorem Zhk(l:List UInt8):∀ (j k r:Nat),Zf l (k+j) r≤Zf l k (j+r)
 | 0,k,r=>by simp
 | j+1,k,r=>by
  have ih:=Zhk l j (k+1) r
  rw[show j+1+r=(j+r)+1 by omega,Zf,show k+(j+1)=k+1+j by omega]
  omega
theorem raw8(l:List UInt8)(k:Nat):Zf l k 8<9223372036854775808↔(l.getD (k+7) 0).toNat<128:=by
 have h:∀ i,(l.getD i 0).toNat<256:=fun i=>(l.getD i 0).toNat_lt
 have h0:=h k
 have h1:=h (k+1)
 have h2:=h (k+2)
 have h3:=h (k+3)
 have h4:=h (k+4)
 have h5:=h (k+5)
 have h6:=h (k+6)
 have h7:=h (k+7)
 simp only[Zf,Nat.add_assoc,Nat.reduceAdd]
 omega
theorem Ah{l:List UInt8}{k w j r:Nat}(h:Zf l k w<9223372036854775808)(hj:0<j)(e:j+r=w):(l.getD (k+(j-1)) 0).toNat+256*Zf l (k+j) r<9223372036854775808∧Zf l (k+(j-1)) (r+1)=Zf l (k+j) r*256+(l.getD (k+(j-1)) 0).toNat:=by
 have h1:=Zhk l (j-1) k (r+1)
 rw[show j-1+(r+1)=w by omega,Zf,show k+(j-1)+1=k+j by omega] at h1
 refine⟨by omega,?_⟩
 rw[Zf,show k+(j-1)+1=k+j by omega];omega
theorem Zd7(w:World) :
 Calls Tryz.prog 215 #[.int .i64 1] w (Ret (.bool true) w):=by
 refine zin 17 Tryz.func215 ?_
 exact xe 25 (.bool true) ⟨rfl,(Below.refl w.heap.size _)⟩
theorem Zfz(w:World) :
 Calls Tryz.prog 215 #[.int .i64 2] w (Ret (.bool true) w):=by
 refine zin 17 Tryz.func215 ?_
 exact xe 25 (.bool true) ⟨rfl,(Below.refl w.heap.size _)⟩
theorem Zfc(w:World) :
 Calls Tryz.prog 215 #[.int .i64 4] w (Ret (.bool true) w):=by
 refine zin 17 Tryz.func215 ?_
 exact xe 25 (.bool true) ⟨rfl,(Below.refl w.heap.size _)⟩
theorem Zd5(w:World) :
 Calls Tryz.prog 215 #[.int .i64 8] w (Ret (.bool true) w):=by
 refine zin 17 Tryz.func215 ?_
 exact xe 25 (.bool true) ⟨rfl,(Below.refl w.heap.size _)⟩
theorem ref_width(k:Nat)(hw:k=1∨k=2∨k=4∨k=8)(w:World):Calls Tryz.prog 215 #[.int .i64 (↑k:Int)] w (Ret (.bool true) w):=by
 rcases hw with rfl|rfl|rfl|rfl
 ·exact Zd7 w
 ·exact Zfz w
 ·exact Zfc w
 ·exact Zd5 w
theorem Zce(a:Option Addr)(m c k w:Nat)(W:World)(hw:w=1∨w=2∨w=4∨w=8)(hk:k+w≤m)(hm:m≤100000000) :
 Calls Tryz.prog 169 #[.slice a m c,.int .i64 (↑k:Int),.int .i64 (↑w:Int)] W (Ret (.int .i64 0) W):=by
 refine zin 26 Tryz.func169 ?_
 refine xr 9 (args:=#[.int .i64 (↑w:Int)]) (ref_width w hw _) fun W1 hb1=>?_
 refine xgk 12 [11,12] (show(decide ((↑k:Int)<(0:Int)):Bool)=false from decide_eq_false (by omega)) ?_
 refine xgk 6 [16,17,18] (show(decide ((↑k:Int)>(↑m:Int)):Bool)=false from decide_eq_false (by omega)) ?_
 refine xwm 3 ((↑m:Int)-(↑k:Int)) (↑(m-k):Int) ?_
 refine xk 5 (show(decide ((↑(m-k):Int)<(↑w:Int)):Bool)=false from decide_eq_false (by omega)) ?_
 exact xe 8 (.int .i64 0) ⟨rfl,hb1⟩
theorem Ce(a:Option Addr)(c k w:Nat)(l:List UInt8)(W:World)(hw:w=1∨w=2∨w=4∨w=8)(hk:k+w≤l.length)(hl:l.length≤100000000)(h:Bys W (.slice a l.length c) l)(hq:¬ Zf l k w<9223372036854775808) :
 Calls Tryz.prog 118 #[.slice a l.length c,.int .i64 (↑k:Int),.int .i64 (↑w:Int)] W (Ret (.tuple #[.int .i64 0,.int .i64 2]) W):=by
 have hw8:w=8:=by
  rcases hw with h1|h1|h1|h1
  ·have:=Yo l k w (by omega);omega
  ·have:=Yo l k w (by omega);omega
  ·have:=Yo l k w (by omega);omega
  ·exact h1
 have hb7:=(not_congr (raw8 l k)).1 (by rw[←hw8];exact hq)
 refine zin 45 Tryz.func118 ?_
 refine xr 11 (args:=#[.slice a l.length c,.int .i64 (↑k:Int),.int .i64 (↑w:Int)]) (Zce a l.length c k w _ hw hk hl) fun W1 hb1=>?_
 refine xgk 19 [19,20] (show(((↑w:Int)==(8:Int)):Bool)=true from by rw[hw8];rfl) ?_
 refine xwm 2 ((↑k:Int)+7) (↑(k+7):Int) ?_
 refine xx 0 _ l.length (k+7) 1 (Bys.elem h (k:=(k+7)) (by omega)).1 ?_
 refine xl 0 ((Bys.elem (h.below hb1) (k:=(k+7)) (by omega)).2) ?_
 refine xk 4 (show(decide ((↑(l.getD (k+7) 0).toNat:Int)≥(128:Int)):Bool)=true from decide_eq_true (by omega)) ?_
 exact xe 8 (.tuple #[.int .i64 0,.int .i64 2]) ⟨rfl,hb1⟩
theorem Mk(a:Option Addr)(c k w:Nat)(l:List UInt8)(W:World)(hw:w=1∨w=2∨w=4∨w=8)(hk:k+w≤l.length)(hl:l.length≤100000000)(h:Bys W (.slice a l.length c) l)(hq:Zf l k w<9223372036854775808) :
 Calls Tryz.prog 118 #[.slice a l.length c,.int .i64 (↑k:Int),.int .i64 (↑w:Int)] W (Ret (.tuple #[.int .i64 (Zf l k w:Int),.int .i64 0]) W):=by
 refine zin 45 Tryz.func118 ?_
 refine xr 11 (args:=#[.slice a l.length c,.int .i64 (↑k:Int),.int .i64 (↑w:Int)]) (Zce a l.length c k w _ hw hk hl) fun W1 hb1=>?_
 refine xg 19 [19,20] ((↑w:Int)==(8:Int)) (fun hc2=>?_) (fun hc2=>?_)
 ·have hc2:=eq_of_beq hc2
  refine xwm 2 ((↑k:Int)+7) (↑(k+7):Int) ?_
  refine xx 0 _ l.length (k+7) 1 (Bys.elem h (k:=(k+7)) (by omega)).1 ?_
  refine xl 0 ((Bys.elem (h.below hb1) (k:=(k+7)) (by omega)).2) ?_
  refine xk 4 (show(decide ((↑(l.getD (k+7) 0).toNat:Int)≥(128:Int)):Bool)=false from decide_eq_false (by have:=(raw8 l k).1 (by rw[←show w=8 by omega];exact hq);omega)) ?_
  refine xwm 11 ((↑w:Int)-1) (↑(w-1):Int) ?_
  refine xv1 4 10 (show(.int .i64 (↑(w-1):Int):Value)=.int .i64 ((↑w:Int)-1) from congrArg (Value.int .i64) (by omega)) ?_
  refine zl 0 45 (fun zm zkv V=>∃ (j r:Nat),zkv=[(0,.slice a l.length c),(1,.int .i64 (↑k:Int)),(6,.int .i64 0),(7,.int .i64 0),(9,.int .i64 (↑(Zf l (k+j) r):Int)),(10,.int .i64 ((↑j:Int)-1))]∧zm=(((↑j:Int)-1)+1).toNat∧Below W.heap.size W V∧j+r=w) ⟨w,0,rfl,rfl,hb1,by omega⟩ ?_
  rintro _ _ W3 ⟨j,r,rfl,rfl,hB_3,hjr⟩ J3 hJ3 r3
  have hrl:0<j→_:=fun hj=>Ah hq hj hjr
  refine xid 7 ((↑j:Int)-1≥(0:Int)) (fun hc4=>?_) (fun hc4=>?_)
  ·refine xwm 6 ((↑(Zf l (k+j) r):Int)*256) (↑((Zf l (k+j) r)*256):Int) ?_
   refine xq 3 (congrArg (Value.int .i64) (show IntKind.i64.wrap ((↑k:Int)+((↑j:Int)-1))=(↑(k+(j-1)):Int) from(show IntKind.i64.wrap ((↑k:Int)+((↑j:Int)-1))=((↑k:Int)+((↑j:Int)-1)) from by first|exact IntWalk.i64_in _ (by omega)|(simp only[IntKind.wrap];omega)).trans (by omega))) ?_
   refine xx 0 _ l.length (k+(j-1)) 1 (Bys.elem h (k:=(k+(j-1))) (by omega)).1 ?_
   refine xl 0 ((Bys.elem (h.below hB_3) (k:=(k+(j-1))) (by omega)).2) ?_
   refine xq 0 (congrArg (Value.int .i64) (show(IntKind.i64.wrap (↑(l.getD (k+(j-1)) 0).toNat:Int):Int)=(↑(l.getD (k+(j-1)) 0).toNat:Int) from Vk (by have:=(l.getD (k+(j-1)) 0).toNat_lt;omega))) ?_
   refine xw 0 ((↑((Zf l (k+j) r)*256):Int)+(↑(l.getD (k+(j-1)) 0).toNat:Int)) ?_
   refine xq 6 (congrArg (Value.int .i64) (show IntKind.i64.wrap ((↑j:Int)-1-1)=((↑(j-1:Nat):Int)-1) from(show IntKind.i64.wrap ((↑j:Int)-1-1)=((↑j:Int)-1-1) from by first|exact IntWalk.i64_in _ (by omega)|(simp only[IntKind.wrap];omega)).trans (by omega))) ?_
   refine xv1 2 9 (show(.int .i64 ((↑((Zf l (k+j) r)*256):Int)+(↑(l.getD (k+(j-1)) 0).toNat:Int)):Value)=.int .i64 (↑(Zf l (k+(j-1)) (r+1)):Int) from by rw[(hrl (by omega)).2];rfl) ?_
   exact ze 0 (hJ3 _ _ _ ⟨j-1,r+1,rfl,rfl,hB_3,by omega⟩ (by omega))
  refine xe 13 (.tuple #[.int .i64 (↑(Zf l (k+j) r):Int),.int .i64 0]) ?_
  rw[show Zf l (k+j) r=Zf l k w from by rw[show j=0 by omega,show r=w by omega];rfl];exact⟨rfl,hB_3⟩
 have hc2:=Yd hc2
 refine xwm 21 ((↑w:Int)-1) (↑(w-1):Int) ?_
 refine xv1 4 10 (show(.int .i64 (↑(w-1):Int):Value)=.int .i64 ((↑w:Int)-1) from congrArg (Value.int .i64) (by omega)) ?_
 refine zl 0 45 (fun zm zkv V=>∃ (j r:Nat),zkv=[(0,.slice a l.length c),(1,.int .i64 (↑k:Int)),(6,.int .i64 0),(7,.int .i64 0),(9,.int .i64 (↑(Zf l (k+j) r):Int)),(10,.int .i64 ((↑j:Int)-1))]∧zm=(((↑j:Int)-1)+1).toNat∧Below W.heap.size W V∧j+r=w) ⟨w,0,rfl,rfl,hb1,by omega⟩ ?_
 rintro _ _ W5 ⟨j,r,rfl,rfl,hB_5,hjr⟩ J5 hJ5 r5
 have hrl:0<j→_:=fun hj=>Ah hq hj hjr
 refine xid 7 ((↑j:Int)-1≥(0:Int)) (fun hc6=>?_) (fun hc6=>?_)
 ·refine xwm 6 ((↑(Zf l (k+j) r):Int)*256) (↑((Zf l (k+j) r)*256):Int) ?_
  refine xq 3 (congrArg (Value.int .i64) (show IntKind.i64.wrap ((↑k:Int)+((↑j:Int)-1))=(↑(k+(j-1)):Int) from(show IntKind.i64.wrap ((↑k:Int)+((↑j:Int)-1))=((↑k:Int)+((↑j:Int)-1)) from by first|exact IntWalk.i64_in _ (by omega)|(simp only[IntKind.wrap];omega)).trans (by omega))) ?_
  refine xx 0 _ l.length (k+(j-1)) 1 (Bys.elem h (k:=(k+(j-1))) (by omega)).1 ?_
  refine xl 0 ((Bys.elem (h.below hB_5) (k:=(k+(j-1))) (by omega)).2) ?_
  refine xq 0 (congrArg (Value.int .i64) (show(IntKind.i64.wrap (↑(l.getD (k+(j-1)) 0).toNat:Int):Int)=(↑(l.getD (k+(j-1)) 0).toNat:Int) from Vk (by have:=(l.getD (k+(j-1)) 0).toNat_lt;omega))) ?_
  refine xw 0 ((↑((Zf l (k+j) r)*256):Int)+(↑(l.getD (k+(j-1)) 0).toNat:Int)) ?_
  refine xq 6 (congrArg (Value.int .i64) (show IntKind.i64.wrap ((↑j:Int)-1-1)=((↑(j-1:Nat):Int)-1) from(show IntKind.i64.wrap ((↑j:Int)-1-1)=((↑j:Int)-1-1) from by first|exact IntWalk.i64_in _ (by omega)|(simp only[IntKind.wrap];omega)).trans (by omega))) ?_
  refine xv1 2 9 (show(.int .i64 ((↑((Zf l (k+j) r)*256):Int)+(↑(l.getD (k+(j-1)) 0).toNat:Int)):Value)=.int .i64 (↑(Zf l (k+(j-1)) (r+1)):Int) from by rw[(hrl (by omega)).2];rfl) ?_
  exact ze 0 (hJ5 _ _ _ ⟨j-1,r+1,rfl,rfl,hB_5,by omega⟩ (by omega))
 refine xe 13 (.tuple #[.int .i64 (↑(Zf l (k+j) r):Int),.int .i64 0]) ?_
 rw[show Zf l (k+j) r=Zf l k w from by rw[show j=0 by omega,show r=w by omega];rfl];exact⟨rfl,hB_5⟩
theorem Zg9(a:Option Addr)(c k w:Nat)(l:List UInt8)(W:World)(hw:w=1∨w=2∨w=4∨w=8)(hk:k+w≤l.length)(hl:l.length≤100000000)(h:Bys W (.slice a l.length c) l) :
 Calls Tryz.prog 118 #[.slice a l.length c,.int .i64 (↑k:Int),.int .i64 (↑w:Int)] W (Ret (.tuple #[.int .i64 (Zd0 l k w),.int .i64 (Of l k w)]) W):=by
 by_cases hq:Zf l k w<9223372036854775808
 ·rw[Mf hq,Ro hq];exact Mk a c k w l W hw hk hl h hq
 ·rw[Zd0,Of,if_neg hq,if_neg hq];exact Ce a c k w l W hw hk hl h hq
theorem Nc(a:Option Addr)(n c k w:Nat)(ki wi:Int)(l:List UInt8)(W:World)(hn:l.length=n)(hki:ki=(k:Int))(hwi:wi=(w:Int))(hw:w=1∨w=2∨w=4)(hk:k+w≤n)(hl:n≤100000000)(h:Bys W (.slice a n c) l) :
 Calls Tryz.prog 118 #[.slice a n c,.int .i64 ki,.int .i64 wi] W (Ret (.tuple #[.int .i64 (Zf l k w:Int),.int .i64 0]) W):=by
 subst hn hki hwi;exact Mk a c k w l W (by omega) hk hl h (by have:=Yo l k w (by omega);omega)
theorem Px(a:Option Addr)(c:Nat)(l:List UInt8)(aw:Option Addr)(cw:Nat)(ws:List Nat)(W:World)(hk:∀ i,i<ws.length→ws.getD i 0=1∨ws.getD i 0=2∨ws.getD i 0=4∨ws.getD i 0=8)(hs:ws.sum≤l.length)(hl:l.length≤100000000)(hw:ws.length≤1000)(h:Bys W (.slice a l.length c) l)(hws:Sl W (.slice aw ws.length cw) ws.length (ws.map nv))(hq:∀ i,i<ws.length→(Kc l 0 ws).getD i 0<9223372036854775808) :
 Calls Tryz.prog 77 #[.slice a l.length c,.slice aw ws.length cw] W (Yz (fun w' r=>∃ p c,r=.tuple #[.slice p ws.length c,.int .i64 0]∧w'.ownsRow W.heap.size 3 1 (.slice p ws.length c) ws.length ((Kc l 0 ws).map nv)) W):=by
 refine zin 41 Tryz.func77 ?_
 have hB:=Below.refl W.heap.size W
 refine zl 23 41 (fun zm zkv V=>∃ (i:Nat) (p:Option Addr) (c2:Nat),zkv=[(0,.slice a l.length c),(1,.slice aw ws.length cw),(6,.slice p i c2),(7,.int .i64 (↑(ws.take i).sum:Int)),(8,.int .i64 (↑i:Int))]∧zm=ws.length-((↑i:Int)).toNat∧Below W.heap.size W V∧V.ownsRow W.heap.size 3 1 (.slice p i c2) i ((Kc l 0 (ws.take i)).map nv)∧i≤ws.length) ⟨0,_,_,rfl,rfl,hB,World.ownsRow_nil _ _ _ _,Nat.zero_le _⟩ ?_
 rintro _ _ W1 ⟨i,p,c2,rfl,rfl,hB_1,ho,hi⟩ J1 hJ1 r1
 have hts:i<ws.length→(ws.take i).sum+ws.getD i 0≤ws.sum:=Hu
 have hui:i<ws.length→(Kc l 0 ws).getD i 0=Zf l (ws.take i).sum (ws.getD i 0):=fun h=>by rw[Nj l ws 0 i h,Nat.zero_add]
 refine xid 9 ((↑i:Int)<(↑ws.length:Int)) (fun hc2=>?_) (fun hc2=>?_)
 ·refine xx 10 _ ws.length i 1 (Zi hws rfl (k:=i) (by omega)).1 ?_
  refine xl 0 ((Zi (hws.below hB_1) rfl (k:=i) (by omega)).2) ?_
  refine xr 0 (args:=#[.slice a l.length c,.int .i64 (↑(ws.take i).sum:Int),.int .i64 (↑(ws.getD i 0):Int)]) (Zg9 a c (ws.take i).sum (ws.getD i 0) l _ (hk i (by omega)) (by omega) hl (h.below hB_1)) fun W3 hb3=>?_
  refine xk 14 (show(((Of l (ws.take i).sum (ws.getD i 0)) != (0:Int)):Bool)=false from by rw[Ro (by rw[←hui (by omega)];exact hq i (by omega))];rfl) ?_
  refine xbs 6 1 [.int .i64 (Zd0 l (ws.take i).sum (ws.getD i 0))] 3 fun b4 W4 n4=>?_
  have hB'1:=bln hB_1 hb3
  have g4:=n4.ge hB'1
  have ho'1:=Zb ho hb3
  have r4_ho:=Zr ho'1 n4
  have ho'2:=Zb ho'1 n4.below
  have hB'2:=bln hB'1 n4.below
  refine xbi 0 fun _ _ _ _ zJ zQ zo zx zy zK=>Zo (m:=1) (news:=[.int .i64 (Zd0 l (ws.take i).sum (ws.getD i 0))]) (.int .i64 0) 1 8 (i+1) ((Kc l 0 (ws.take (i+1))).map nv) zo Tryz.underlying31 (by kernel_rfl) rfl (by decide) zx ho'2 zy (n4.blk.sl 1 1 (by decide) (by decide)) rfl (by simp[Value.oneCell']) (by unfold maxLen;omega) (by omega) hB'2.size (by rfl) (by rw[Vv (by omega),Uc,Nat.zero_add,List.map_append];simp only[List.map_cons,List.map_nil,nv];rw[Mf (by rw[←hui (by omega)];exact hq i (by omega))]) fun px5 cx5 W5 o5 hg5 hb5=>?_
  refine zK _ _ ?_
  refine xx 7 _ ws.length i 1 (Zi hws rfl (k:=i) (by omega)).1 ?_
  have hB'3:=hB'2.trans hb5
  refine xl 0 ((Zi (hws.below hB'3) rfl (k:=i) (by omega)).2) ?_
  refine xwm 0 ((↑(ws.take i).sum:Int)+(↑(ws.getD i 0):Int)) (↑((ws.take i).sum+(ws.getD i 0)):Int) ?_
  refine xwm 6 ((↑i:Int)+1) (↑(i+1):Int) ?_
  refine xv1 2 7 (show(.int .i64 (↑((ws.take i).sum+(ws.getD i 0)):Int):Value)=.int .i64 (↑(ws.take (i+1)).sum:Int) from by rw[Vv (by omega),List.sum_append];simp) ?_
  exact ze 0 (hJ1 _ _ _ ⟨i+1,_,_,rfl,rfl,hB'3,o5,by omega⟩ (by omega))
 refine xe 13 (.tuple #[.slice p i c2,.int .i64 0]) ?_
 obtain rfl:i=ws.length:=by omega
 rw[List.take_length] at ho
 exact⟨_,rfl,hB_1,_,_,rfl,ho⟩
theorem Ew(a:Option Addr)(c:Nat)(l:List UInt8)(aw:Option Addr)(cw:Nat)(ws:List Nat)(W:World)(hk:∀ i,i<ws.length→ws.getD i 0=1∨ws.getD i 0=2∨ws.getD i 0=4∨ws.getD i 0=8)(hs:ws.sum≤l.length)(hl:l.length≤100000000)(hw:ws.length≤1000)(h:Bys W (.slice a l.length c) l)(hws:Sl W (.slice aw ws.length cw) ws.length (ws.map nv))(hq:¬ ∀ i,i<ws.length→(Kc l 0 ws).getD i 0<9223372036854775808) :
 Calls Tryz.prog 77 #[.slice a l.length c,.slice aw ws.length cw] W (Ret (.tuple #[.slice none 0 0,.int .i64 2]) W):=by
 refine zin 41 Tryz.func77 ?_
 have hB:=Below.refl W.heap.size W
 refine zl 23 41 (fun zm zkv V=>∃ (i:Nat) (p:Option Addr) (c2:Nat),zkv=[(0,.slice a l.length c),(1,.slice aw ws.length cw),(6,.slice p i c2),(7,.int .i64 (↑(ws.take i).sum:Int)),(8,.int .i64 (↑i:Int))]∧zm=ws.length-((↑i:Int)).toNat∧Below W.heap.size W V∧V.ownsRow W.heap.size 3 1 (.slice p i c2) i ((Kc l 0 (ws.take i)).map nv)∧i≤ws.length∧(∀ j,j<i→(Kc l 0 ws).getD j 0<9223372036854775808)) ⟨0,_,_,rfl,rfl,hB,World.ownsRow_nil _ _ _ _,Nat.zero_le _,?_⟩ ?_
 ·exact fun j hj=>absurd hj (by omega)
 rintro _ _ W1 ⟨i,p,c2,rfl,rfl,hB_1,ho,hi,hall⟩ J1 hJ1 r1
 have hts:i<ws.length→(ws.take i).sum+ws.getD i 0≤ws.sum:=Hu
 have hui:i<ws.length→(Kc l 0 ws).getD i 0=Zf l (ws.take i).sum (ws.getD i 0):=fun h=>by rw[Nj l ws 0 i h,Nat.zero_add]
 refine xid 9 ((↑i:Int)<(↑ws.length:Int)) (fun hc2=>?_) (fun hc2=>?_)
 ·refine xx 10 _ ws.length i 1 (Zi hws rfl (k:=i) (by omega)).1 ?_
  refine xl 0 ((Zi (hws.below hB_1) rfl (k:=i) (by omega)).2) ?_
  refine xr 0 (args:=#[.slice a l.length c,.int .i64 (↑(ws.take i).sum:Int),.int .i64 (↑(ws.getD i 0):Int)]) (Zg9 a c (ws.take i).sum (ws.getD i 0) l _ (hk i (by omega)) (by omega) hl (h.below hB_1)) fun W3 hb3=>?_
  refine xin 14 (Of l (ws.take i).sum (ws.getD i 0)) (0:Int) (fun hc4=>?_) (fun hc4=>?_)
  ·have hgr:=Zcq hc4
   have hB'1:=bln hB_1 hb3
   refine xe 14 (.tuple #[.slice none 0 0,.int .i64 (Of l (ws.take i).sum (ws.getD i 0))]) ?_
   rw[hgr.2];exact⟨rfl,hB'1⟩
  have hgr:=Ae hc4
  refine xbs 6 1 [.int .i64 (Zd0 l (ws.take i).sum (ws.getD i 0))] 3 fun b5 W5 n5=>?_
  have hB'2:=bln hB_1 hb3
  have g5:=n5.ge hB'2
  have ho'1:=Zb ho hb3
  have r5_ho:=Zr ho'1 n5
  have ho'2:=Zb ho'1 n5.below
  have hB'3:=bln hB'2 n5.below
  refine xbi 0 fun _ _ _ _ zJ zQ zo zx zy zK=>Zo (m:=1) (news:=[.int .i64 (Zd0 l (ws.take i).sum (ws.getD i 0))]) (.int .i64 0) 1 8 (i+1) ((Kc l 0 (ws.take (i+1))).map nv) zo Tryz.underlying31 (by kernel_rfl) rfl (by decide) zx ho'2 zy (n5.blk.sl 1 1 (by decide) (by decide)) rfl (by simp[Value.oneCell']) (by unfold maxLen;omega) (by omega) hB'3.size (by rfl) (by rw[Vv (by omega),Uc,Nat.zero_add,List.map_append];simp only[List.map_cons,List.map_nil,nv];rw[Mf hgr]) fun px6 cx6 W6 o6 hg6 hb6=>?_
  refine zK _ _ ?_
  refine xx 7 _ ws.length i 1 (Zi hws rfl (k:=i) (by omega)).1 ?_
  have hB'4:=hB'3.trans hb6
  refine xl 0 ((Zi (hws.below hB'4) rfl (k:=i) (by omega)).2) ?_
  refine xwm 0 ((↑(ws.take i).sum:Int)+(↑(ws.getD i 0):Int)) (↑((ws.take i).sum+(ws.getD i 0)):Int) ?_
  refine xwm 6 ((↑i:Int)+1) (↑(i+1):Int) ?_
  refine xv1 2 7 (show(.int .i64 (↑((ws.take i).sum+(ws.getD i 0)):Int):Value)=.int .i64 (↑(ws.take (i+1)).sum:Int) from by rw[Vv (by omega),List.sum_append];simp) ?_
  exact ze 0 (hJ1 _ _ _ ⟨i+1,_,_,rfl,rfl,hB'4,o6,by omega,fun j hj=>(Nat.lt_or_ge j i).elim (fun q=>hall j q) (fun q=>by obtain rfl:j=i:=(by omega);rw[hui (by omega)];exact hgr)⟩ (by omega))
 refine xe 13 (.tuple #[.slice p i c2,.int .i64 0]) ?_
 exact absurd (fun j hj=>hall j (by omega)) hq
theorem Oi(a:Option Addr)(n c:Nat)(l:List UInt8)(aw:Option Addr)(cw m:Nat)(ws:List Nat)(xs:List Nat)(W:World)(hn:l.length=n)(hm:ws.length=m)(hx:Kc l 0 ws=xs)(hk:∀ i,i<ws.length→ws.getD i 0=1∨ws.getD i 0=2∨ws.getD i 0=4∨ws.getD i 0=8)(hs:ws.sum≤n)(hl:n≤100000000)(hw:ws.length≤1000)(h:Bys W (.slice a n c) l)(hws:Sl W (.slice aw m cw) m (ws.map nv))(hq:∀ i,i<ws.length→(Kc l 0 ws).getD i 0<9223372036854775808) :
 Calls Tryz.prog 77 #[.slice a n c,.slice aw m cw] W (Yz (fun w' r=>∃ p c,r=.tuple #[.slice p m c,.int .i64 0]∧w'.ownsRow W.heap.size 3 1 (.slice p m c) m (xs.map nv)) W):=by
 subst hn hm hx;exact Px a c l aw cw ws W hk hs hl hw h hws hq
theorem ref_Zero(a:Option Addr)(c:Nat)(l:List UInt8)(w:World)(hl:l.length≤100000000)(h:Bys w (.slice a l.length c) l) :
 Calls Tryz.prog 152 #[.slice a l.length c] w (Ret (.bool (Yy l)) w):=by
 refine zin 15 Tryz.func152 ?_
 have hB:=Below.refl w.heap.size w
 refine zl 12 15 (fun zm zkv V=>∃ (i:Nat),zkv=[(0,.slice a l.length c),(3,.int .i64 (↑i:Int))]∧zm=l.length-((↑i:Int)).toNat∧Below w.heap.size w V∧i≤l.length∧(∀ j,j<i→l.getD j 0=0)) ⟨0,rfl,rfl,hB,Nat.zero_le _,?_⟩ ?_
 ·exact fun j hj=>absurd hj (by omega)
 rintro _ _ W1 ⟨i,rfl,rfl,hB_1,hi,hz⟩ J1 hJ1 r1
 refine xid 9 ((↑i:Int)<(↑l.length:Int)) (fun hc2=>?_) (fun hc2=>?_)
 ·refine xx 8 _ l.length i 1 (Bys.elem h (k:=i) (by omega)).1 ?_
  refine xl 0 ((Bys.elem (h.below hB_1) (k:=i) (by omega)).2) ?_
  refine xin 3 (↑(l.getD i 0).toNat:Int) (0:Int) (fun hc3=>?_) (fun hc3=>?_)
  ·refine xe 11 (.bool false) ?_
   rw[Cy (j:=i) (by omega) (by assumption)];exact⟨rfl,hB_1⟩
  refine xwm 5 ((↑i:Int)+1) (↑(i+1):Int) ?_
  exact ze 2 (hJ1 _ _ _ ⟨i+1,rfl,rfl,hB_1,by omega,fun j hj=>(Nat.lt_or_ge j i).elim (hz j) (fun q=>by obtain rfl:j=i:=(by omega);exact Ac (by assumption))⟩ (by omega))
 refine xe 11 (.bool true) ?_
 rw[Ma (fun j hj=>hz j (by omega))];exact⟨rfl,hB_1⟩
theorem Gx(a:Option Addr)(n c:Nat)(l:List UInt8)(w:World)(hn:l.length=n)(hl:n≤100000000)(h:Bys w (.slice a n c) l):Calls Tryz.prog 152 #[.slice a n c] w (Ret (.bool (Yy l)) w):=by
 subst hn;exact ref_Zero a c l w hl h
end Go.Proofs.YtlmaglneeaecdaaGreatDoor
namespace Go.Proofs.YtlmaglneeaecdaaGreatDoor
set_option maxHeartbeats 8000000
set_option maxRecDepth 100000
open Go.RowKit Go.Extern.Stop Go.Stop Go.Extern
set_option linter.unusedVariables false
def FltV(w:World)(v:Value)(l:List Int)(c:Int):Prop:=∃ s,v=.agg #[s,.int .i64 c]∧Ints w s l
theorem FltV.below{w w':World}{v:Value}{l:List Int}{c:Int}(h:FltV w v l c)(hb:Below w.heap.size w w'):FltV w' v l c:=by
 obtain⟨s,rfl,hs⟩:=h
 exact⟨s,rfl,hs.below hb⟩
theorem Zcj{w:World}{B:Nat}{s:Value}{c:Int}{t:TypeId}(h:Blk w B [s,.int .i64 c] t)(hs:∃ a n m,s=.slice a n m){tmps:Array Value}(e:tmps.getD 2 undef=.pointer (some ⟨B,0,none⟩)) :
 (results Tryz.f14 tmps).run Tryz.prog w=.ok (.agg #[s,.int .i64 c]) w:=by
 obtain⟨a,n,m,rfl⟩:=hs
 have c0:=h.cell (i:=0) rfl
 have c1:=h.cell (i:=1) rfl
 have e':tmps[2]?.getD undef=.pointer (some ⟨B,0,none⟩):=by simpa using e
 simp[results,Tryz.results14,go_sem,c0,c1,e']
theorem Fu(t:Option Int)(l:List (Option Int))(v:Value)(w:World)(hlen:l.length≤1000000)(hg:Zgk w)(hv:Kk w l t v) :
 Calls Tryz.prog 14 #[v] w (Yz (fun w' r=>FltV w' r (Qm l) (Lm l t)) w):=by
 have hB:=blx w (.cells #[.slice none 0 0,.int .i64 0] 33)
 have k0:=Blk.new w [.slice none 0 0,.int .i64 0] 33
 rcases hv.nil_or with ⟨hz,rfl⟩|⟨hz,ty,x,rfl⟩
 ·obtain⟨rfl,rfl⟩:=Ft hz
  go_enter Tryz.func14,Tryz.ntmps14
  go_wp2_with fail
  exact bodyPost_ret (Zcj k0 ⟨_,_,_,rfl⟩ rfl) rfl ⟨_,rfl,hB,_,rfl,.inl ⟨_,_,rfl,rfl,rfl⟩⟩
 ·go_enter Tryz.func14,Tryz.ntmps14
  have hv1:=hv.below hB
  go_wp2_with fail
  refine(Aw t l _ _ hlen hv1).mono ?_
  rintro e w1 ⟨r,rfl,hb1,h1⟩
  have hB1:=bln hB hb1
  go_wp2_with fail
  refine(Zea t l _ w1 (hg.below hB1) (hv.below hB1)).mono ?_
  rintro e w2 ⟨rfl,hb2⟩
  have k2:=(k0.below hb1).below hb2
  obtain⟨a,m,rfl⟩:=(Ze h1).slice
  have d0:=k2.cell (i:=0) rfl
  have d1:=k2.cell (i:=1) rfl
  have f0:=k2.frozen 0
  have f1:=k2.frozen 1
  have hB2:=bln hB1 hb2
  have hB3:Below w.heap.size w ((w2.setCell ⟨w.heap.size,0,none⟩ (.slice a (Qm l).length m)).setCell ⟨w.heap.size,1,none⟩ (.int .i64 (Lm l t))):=(hB2.setCell (Nat.le_refl _) _).setCell (Nat.le_refl _) _
  have h3:=ownsRow_setCell_below (ownsRow_setCell_below (Zb h1 hb2) (a:=⟨w.heap.size,0,none⟩) (by simp) (.slice a (Qm l).length m)) (a:=⟨w.heap.size,1,none⟩) (by simp) (.int .i64 (Lm l t))
  go_wp2_with fail
  exact bodyPost_ret (Zcj ((k2.set 0 _).set 1 _) ⟨_,_,_,rfl⟩ rfl) rfl ⟨_,rfl,hB3,_,rfl,Ze h3⟩
theorem Fk(l:List Int)(c:Int)(v1 v2:Value)(w:World)(h1:FltV w v1 l c)(h2:FltV w v2 l c) :
 Calls Tryz.prog 13 #[v1,v2] w (Ret (.bool true) w):=by
 obtain⟨s1,rfl,k1⟩:=h1
 obtain⟨s2,rfl,k2⟩:=h2
 obtain⟨a1,p1,rfl⟩:=k1.slice
 obtain⟨a2,p2,rfl⟩:=k2.slice
 have hmax:=k1.len
 have hB:Below w.heap.size w ((w.alloc (.cells #[.slice a1 l.length p1,.int .i64 c] 33)).alloc (.cells #[.slice a2 l.length p2,.int .i64 c] 33)):=bln (blx _ _) (blx _ _)
 have b1:Blk ((w.alloc (.cells #[.slice a1 l.length p1,.int .i64 c] 33)).alloc (.cells #[.slice a2 l.length p2,.int .i64 c] 33)) w.heap.size [.slice a1 l.length p1,.int .i64 c] 33:=(Blk.new _ _ _).alloc _
 have b2:=Blk.new (w.alloc (.cells #[.slice a1 l.length p1,.int .i64 c] 33)) [.slice a2 l.length p2,.int .i64 c] 33
 simp only[World.size_alloc] at b2
 go_enter Tryz.func13,Tryz.ntmps13
 go_wp2_with fail
 obtain⟨W,hW⟩:∃ W,(w.alloc (.cells #[.slice a1 l.length p1,.int .i64 c] 33)).alloc (.cells #[.slice a2 l.length p2,.int .i64 c] 33)=W:=⟨_,rfl⟩
 change Blk ((w.alloc (.cells #[.slice a1 l.length p1,.int .i64 c] 33)).alloc (.cells #[.slice a2 l.length p2,.int .i64 c] 33)) _ _ _ at b2
 rw[hW] at hB b1 b2 ⊢
 have k1:=k1.below hB
 have k2:=k2.below hB
 clear hW
 go_loopw [5] (fun i wr=>∃ k:Nat,k≤l.length∧i=.int .i64 k∧Below W.heap.size W wr) (fun i _=>l.length-(intOf i).toNat)
 case atStart=>exact⟨0,by omega,rfl,Below.refl _ _⟩
 case round =>
  obtain⟨k,hk,rfl,hbr⟩:=hrel
  have q1:=b1.below hbr
  have q2:=b2.below hbr
  have c1:=q1.cell (i:=0) rfl
  have c2:=q2.cell (i:=0) rfl
  by_cases hlt:k<l.length
  ·rcases Sl.at (k1.below hbr) with h0|⟨g1,o1,rfl,hc1⟩
   ·rw[List.map_eq_nil_iff] at h0;subst h0;exact absurd hlt (by simp)
   rcases Sl.at (k2.below hbr) with h0|⟨g2,o2,rfl,hc2⟩
   ·rw[List.map_eq_nil_iff] at h0;subst h0;exact absurd hlt (by simp)
   have e1:∀ z:Ext wr,z.val.cell? ⟨w.heap.size,0,none⟩=some (.slice (some ⟨g1,o1,none⟩) l.length p1):=fun z=>z.get c1
   have e2:∀ z:Ext wr,z.val.cell? ⟨w.heap.size+1,0,none⟩=some (.slice (some ⟨g2,o2,none⟩) l.length p2):=fun z=>z.get c2
   have e3:∀ z:Ext wr,z.val.cell? ⟨g1,o1+k,none⟩=some (.int .i64 l[k]):=fun z=>z.get (hc1 k _ (by simp[hlt]))
   have e4:∀ z:Ext wr,z.val.cell? ⟨g2,o2+k,none⟩=some (.int .i64 l[k]):=fun z=>z.get (hc2 k _ (by simp[hlt]))
   have i1:(0:Int)≤(k:Int):=by omega
   have i2:(k:Int)<(l.length:Int):=by omega
   clear hc1 hc2
   go_wp2_with fail
   refine Su (by kernel_rfl) (by kernel_rfl) ?_
   repeat (go_big_quiet_step (fail))
   refine wpQuiet_nil ?_
   intro wx
   go_wp2_with fail
   exact⟨⟨k+1,by omega,by go_num,bln hbr wx.below⟩,by simp[intOf];omega⟩
  ·go_wp2_with fail
   go_ret
   exact⟨rfl,bln hB hbr⟩
end Go.Proofs.YtlmaglneeaecdaaGreatDoor
namespace Go.Proofs.YtlmaglneeaecdaaGreatDoor
set_option maxHeartbeats 8000000
set_option maxRecDepth 100000
open Go.RowKit Go.Extern.Stop Go.Stop Go.Extern
set_option linter.unusedVariables false
attribute [local irreducible] wpList wpAnyH Code.wp Oper.wp Go
def Uj(l:List UInt8)(k:Nat):List (List UInt8):=(List.range k).map (Va l)
theorem Tx(l:List UInt8)(k:Nat):(Uj l k).length=k:=by simp[Uj]
theorem Ez(l:List UInt8)(k:Nat):Uj l (k+1)=Uj l k++[Va l k]:=by simp[Uj,List.range_succ]
theorem Zgu(l:List UInt8){k i:Nat}(h:i<k):(Uj l k).getD i []=Va l i:=by simp[Uj,List.getD,List.getElem?_range h]
theorem blkB_take{l:List UInt8}{i m:Nat}(h:i<m):Va (l.take (m*256)) i=Va l i:=by
 unfold Va
 rw[List.drop_take,List.take_take,Nat.min_eq_left (by omega)]
theorem Fc{l:List UInt8}{k:Nat}:Uj (l.take (k*256)) k=Uj l k:=List.map_congr_left fun i hi=>blkB_take (List.mem_range.1 hi)
structure RefI(B bm:Nat)(p:Option Addr)(k c:Nat)(l:List UInt8)(w:World):Prop where
 blk:Blk w bm [.slice p k c] 121
 row:w.ownsRow B 9 1 (.slice p k c) k ((Uj l k).map sv)
 hk:k≤14400
 hl:l.length=k*256
theorem RefI.below{B bm:Nat}{p:Option Addr}{k c:Nat}{l:List UInt8}{w W:World}(h:RefI B bm p k c l w)(hb:Below w.heap.size w W):RefI B bm p k c l W:=⟨h.blk.below hb,Zb h.row hb,h.hk,h.hl⟩
theorem RefI.only{B bm:Nat}{p:Option Addr}{k c:Nat}{l:List UInt8}{w W:World}{T:List TypeId}(h:RefI B bm p k c l w)(hO:Zh T w W)(hT:T.contains 121=false∧T.contains 9=false):RefI B bm p k c l W:=⟨h.blk.only hO hT.1,Zj h.row hO hT.2,h.hk,h.hl⟩
theorem RefI.mono{B B' bm:Nat}{p:Option Addr}{k c:Nat}{l:List UInt8}{w:World}(h:RefI B bm p k c l w)(hB:B'≤B):RefI B' bm p k c l w:=⟨h.blk,Zd h.row hB,h.hk,h.hl⟩
theorem RefI.base{B bm:Nat}{p:Option Addr}{k c:Nat}{l:List UInt8}{w:World}(h:RefI B bm p k c l w)(hn:0<k):∃ g,p=some ⟨g,0,none⟩:=by
 rcases h.row.2 with ⟨_,h0⟩|⟨g,cap,cur,hv,_,_,hc,_⟩
 ·omega
 ·simp only[Value.slice.injEq] at hv
  obtain⟨rfl,_,rfl⟩:=hv
  exact⟨g,rfl⟩
theorem ref_Of(a:Option Addr)(c:Nat)(l:List UInt8)(w:World)(h:Bys w (.slice a l.length c) l)(hl:l.length≤100000000) :
 Calls Tryz.prog 11 #[.slice a l.length c] w (Yz (fun w' r=>∃ bm p c2,r=.pointer (some ⟨bm,0,none⟩)∧w.heap.size≤bm∧RefI w.heap.size bm p (min (l.length/256) 14400) c2 (l.take (min (l.length/256) 14400*256)) w') w):=by
 refine zin 32 Tryz.func11 ?_
 refine xa 8 [.slice none 0 0] 121 fun b1 W1 n1=>?_
 refine zl 5 32 (fun zm zkv V=>∃ (k:Nat) (p:Option Addr) (cp:Nat) (a2:Option Addr) (c2:Nat) (l2:List UInt8),zkv=[(0,.slice a2 l2.length c2),(2,.pointer none),(3,.pointer (some ⟨b1,0,none⟩))]∧zm=l2.length∧Below w.heap.size w V∧Blk V b1 ([.slice p k cp]) 121∧V.ownsRow w.heap.size 9 1 (.slice p k cp) k ((Uj l k).map sv)∧Bys w (.slice a2 l2.length c2) l2∧l2=l.drop (k*256)∧k*256≤l.length∧k≤14400) ⟨0,none,0,a,c,l,rfl,rfl,n1.below,n1.blk,World.ownsRow_nil _ _ _ _,h,by simp,by omega,by decide⟩ ?_
 rintro _ _ W2 ⟨k,p,cp,a2,c2,l2,rfl,rfl,hB_2,k2_b1,ho,hen,hl2,hk1,hk2⟩ J2 hJ2 r2
 have hcap:=hen.cap rfl
 have hl2n:l2.length=l.length-k*256:=by rw[hl2];simp
 refine xg 7 [8,9] (decide ((↑l2.length:Int)≥(256:Int))) (fun hc3=>?_) (fun hc3=>?_)
 ·have hc3:=of_decide_eq_true hc3
  refine xb 3 0 k2_b1 ?_
  refine xid 5 ((↑k:Int)<(14400:Int)) (fun hc4=>?_) (fun hc4=>?_)
  ·refine xd 4 (.t w.heap.size [9,121]) ?_
   refine xsH (.e [0,1,2,3,5] 6) (fun _ _ _ _ zo zx zy V=>Qz (k:=256) (b:=a2) (n:=l2.length) (c:=c2) (i:=256) (ki:=.i64) zo zx zy rfl (by omega) Tryz.underlying22 (by kernel_rfl) V) ?_
   have hB'1:=bln hB_2 (Za W2)
   refine xcvt (.e [] 7) (.t w.heap.size [9,121]) (fun _ _ _ zo zx V hV=>Yp zo zx ((Bys.take hen rfl 256 (by omega)).below (Ke hB'1 hV (Nat.le_refl _))) (by simp;omega) Tryz.underlying22 Tryz.underlying5 Tryz.underlying9) ?_
   refine xm2 0 4 8 ?_ ?_
   ·have k2_b1'1:=k2_b1.below (Za W2)
    refine xb 0 0 k2_b1'1 ?_
    refine xbs (.o [] 8) 1 [.string ⟨(l2.take 256).toArray⟩] 9 fun b5 W5 n5=>?_
    have g5:=n5.ge hB'1
    have ho'1:=Zb ho (Za W2)
    have r5_ho:=Zr ho'1 n5
    have ho'2:=Zb ho'1 n5.below
    have hB'2:=bln hB'1 n5.below
    refine ybi (.o [] 9) (.t w.heap.size [9,121]) fun _ _ _ _ zJ zQ zo zx zy zK=>Zo (m:=1) (news:=[.string ⟨(l2.take 256).toArray⟩]) (.string ⟨#[]⟩) 1 16 (k+1) ((Uj l (k+1)).map sv) zo Tryz.underlying119 (by kernel_rfl) rfl (by decide) zx ho'2 zy (n5.blk.sl 1 1 (by decide) (by decide)) rfl (by simp[Value.oneCell']) (by unfold maxLen;omega) (by omega) hB'2.size (by rfl) (by rw[Ez,List.map_append,show Va l k=l2.take 256 from by rw[hl2];rfl];rfl) fun px6 cx6 W6 o6 hg6 hb6=>?_
    refine zK _ _ (Xb hb6 hg6 ho'2 (by decide)) ?_
    have k2_b1'2:=(k2_b1'1.below n5.below).grown hg6 ho'2 (by decide)
    have g1:=n1.ge (Below.refl w.heap.size _)
    refine ys (.o [10,11] 12) k2_b1'2 [.slice px6 (k+1) cx6] (.t w.heap.size [9,121]) fun W7 u7 k7=>⟨(Zx u7 k2_b1'2 g1 (by decide)),?_⟩
    refine xsL 4 (fun _ _ _ _ zo zx zy V=>Xv (k:=256) (b:=a2) (n:=l2.length) (c:=c2) (i:=256) (ki:=.i64) 1 zo zx zy rfl (by omega) Tryz.underlying22 (by kernel_rfl) V) ?_
    refine xv1 3 0 (show(.slice (Qy a2 256 c2 1) (l2.length-256) (c2-256):Value)=.slice (Qy a2 256 c2 1) ((l2.drop 256).length) (c2-256) from by rw[List.length_drop]) ?_
    have hB'3:=u7.below (hB'2.trans hb6) g1
    have o6'1:=u7.own2 o6 k2_b1'2 (by decide)
    refine ze 0 (hJ2 _ _ _ ⟨k+1,_,_,_,_,(l2.drop 256),rfl,rfl,hB'3,k7,o6'1,(by have:=Bys.cut hen rfl 256 l2.length (by omega) (Nat.le_refl _);rw[List.take_of_length_le (by simp)] at this;rwa [show(l2.drop 256).length=l2.length-256 by simp]),by rw[hl2,List.drop_drop,Nat.add_mul,Nat.one_mul],by omega,by omega⟩ ?_)
    show((l2.drop 256).length)<l2.length
    rw[List.length_drop];omega
   refine xbs 0 1 [.string ⟨(l2.take 256).toArray⟩] 9 fun b8 W8 n8=>?_
   have g8:=n8.ge hB'1
   have ho'3:=Zb ho (Za W2)
   have r8_ho:=Zr ho'3 n8
   have k2_b1'3:=(k2_b1.below (Za W2)).below n8.below
   refine xb (.o [] 4) 0 k2_b1'3 ?_
   have ho'4:=Zb ho'3 n8.below
   have hB'4:=bln hB'1 n8.below
   refine ybi (.o [] 9) (.t w.heap.size [9,121]) fun _ _ _ _ zJ zQ zo zx zy zK=>Zo (m:=1) (news:=[.string ⟨(l2.take 256).toArray⟩]) (.string ⟨#[]⟩) 1 16 (k+1) ((Uj l (k+1)).map sv) zo Tryz.underlying119 (by kernel_rfl) rfl (by decide) zx ho'4 zy (n8.blk.sl 1 1 (by decide) (by decide)) rfl (by simp[Value.oneCell']) (by unfold maxLen;omega) (by omega) hB'4.size (by rfl) (by rw[Ez,List.map_append,show Va l k=l2.take 256 from by rw[hl2];rfl];rfl) fun px9 cx9 W9 o9 hg9 hb9=>?_
   refine zK _ _ (Xb hb9 hg9 ho'4 (by decide)) ?_
   have k2_b1'4:=k2_b1'3.grown hg9 ho'4 (by decide)
   have g1:=n1.ge (Below.refl w.heap.size _)
   refine ys (.o [10,11] 12) k2_b1'4 [.slice px9 (k+1) cx9] (.t w.heap.size [9,121]) fun W10 u10 k10=>⟨(Zx u10 k2_b1'4 g1 (by decide)),?_⟩
   refine xsL 4 (fun _ _ _ _ zo zx zy V=>Xv (k:=256) (b:=a2) (n:=l2.length) (c:=c2) (i:=256) (ki:=.i64) 1 zo zx zy rfl (by omega) Tryz.underlying22 (by kernel_rfl) V) ?_
   refine xv1 3 0 (show(.slice (Qy a2 256 c2 1) (l2.length-256) (c2-256):Value)=.slice (Qy a2 256 c2 1) ((l2.drop 256).length) (c2-256) from by rw[List.length_drop]) ?_
   have hB'5:=u10.below (hB'4.trans hb9) g1
   have o9'1:=u10.own2 o9 k2_b1'4 (by decide)
   refine ze 0 (hJ2 _ _ _ ⟨k+1,_,_,_,_,(l2.drop 256),rfl,rfl,hB'5,k10,o9'1,(by have:=Bys.cut hen rfl 256 l2.length (by omega) (Nat.le_refl _);rw[List.take_of_length_le (by simp)] at this;rwa [show(l2.drop 256).length=l2.length-256 by simp]),by rw[hl2,List.drop_drop,Nat.add_mul,Nat.one_mul],by omega,by omega⟩ ?_)
   show((l2.drop 256).length)<l2.length
   rw[List.length_drop];omega
  have g1:=n1.ge (Below.refl w.heap.size _)
  refine xe 12 (.pointer (some ⟨b1,0,none⟩)) ?_
  obtain rfl:k=min (l.length/256) 14400:=by omega
  exact⟨_,rfl,hB_2,_,_,_,rfl,g1,k2_b1,by rw[Fc];exact ho,by omega,by simp;omega⟩
 have hc3:=of_decide_eq_false hc3
 have g1:=n1.ge (Below.refl w.heap.size _)
 refine xe 22 (.pointer (some ⟨b1,0,none⟩)) ?_
 obtain rfl:k=min (l.length/256) 14400:=by omega
 exact⟨_,rfl,hB_2,_,_,_,rfl,g1,k2_b1,by rw[Fc];exact ho,by omega,by simp;omega⟩
def Jp(no er:Int):List Int:=if er=0 then [] else [no]
theorem Mq{no er:Int}(h:er≠0):Jp no er=[no]:=if_neg h
theorem Zee(no:Int)(w:World) :
 Calls Tryz.prog 41 #[.int .i64 no,.agg #[.slice none 0 0,.int .i64 0]] w (Ret (.agg #[.slice none 0 0,.int .i64 0]) w):=by
 refine zin 17 Tryz.func41 ?_
 refine xa 2 [.slice none 0 0,.int .i64 0] 33 fun b1 W1 n1=>?_
 refine xa 0 [.slice none 0 0,.int .i64 0] 33 fun b2 W2 n2=>?_
 have d2_b1:=n2.ne n1.blk
 have k1'1:=n1.blk.below n2.below
 refine xb 6 1 k1'1 ?_
 refine xsv 7 n2.blk [.slice none 0 0,.int .i64 0] fun W3 u3 k3=>?_
 have g2:=n2.ge n1.below
 have hB:=u3.below (bln n1.below n2.below) g2
 exact xec 4 k3 (.agg #[.slice none 0 0,.int .i64 0]) ⟨rfl,hB⟩
theorem Zef(no er:Int)(w:World)(he:er≠0) :
 Calls Tryz.prog 41 #[.int .i64 no,.agg #[.slice none 0 0,.int .i64 er]] w (Yz (fun w' r=>∃ a c,r=.agg #[.slice a 1 c,.int .i64 er]∧w'.ownsRow w.heap.size 3 1 (.slice a 1 c) 1 [.int .i64 no]) w):=by
 refine zin 17 Tryz.func41 ?_
 refine xa 2 [.slice none 0 0,.int .i64 er] 33 fun b1 W1 n1=>?_
 refine xa 0 [.slice none 0 0,.int .i64 0] 33 fun b2 W2 n2=>?_
 have d2_b1:=n2.ne n1.blk
 have k1'1:=n1.blk.below n2.below
 refine xb 6 1 k1'1 ?_
 refine xk 3 (show((er==(0:Int)):Bool)=false from beq_false_of_ne he) ?_
 refine xd 3 (.t w.heap.size [3,33]) ?_
 refine xm3 (.b [0,2,5]) 1 3 6 ?_ ?_ ?_
 ·refine xbs 0 1 [.int .i64 no] 3 fun b3 W3 n3=>?_
  refine xm2 0 3 6 ?_ ?_
  ·have k1'2:=(k1'1.below (Za W2)).below n3.below
   refine xb 0 0 k1'2 ?_
   refine xm2 0 4 6 ?_ ?_
   ·have g3:=n3.ge (bln (bln n1.below n2.below) (Za W2))
    have o4:=Zw (size:=1) (n:=1) n3.blk g3 rfl (by decide)
    have hB:=bln (bln (bln n1.below n2.below) (Za W2)) n3.below
    refine ybi 0 (.t w.heap.size [3,33]) fun _ _ _ _ zJ zQ zo zx zy zK=>Zo (m:=0) (news:=[]) (.int .i64 0) 1 8 (1) ([.int .i64 no]) zo Tryz.underlying31 (by kernel_rfl) rfl (by decide) zx o4 zy (.inl ⟨none,0,rfl,rfl,rfl⟩) rfl (by simp) (by unfold maxLen;omega) (by omega) hB.size (by rfl) (by rfl) fun px5 cx5 W5 o5 hg5 hb5=>?_
    refine zK _ _ (Xb hb5 hg5 o4 (by decide)) ?_
    have k1'3:=k1'2.grown hg5 o4 (by decide)
    refine xb (.o [] 6) 1 k1'3 ?_
    have k2:=((n2.blk.below (Za W2)).below n3.below).grown hg5 o4 (by decide)
    have g2:=n2.ge n1.below
    refine ysv (.o [7] 8) k2 [.slice px5 1 cx5,.int .i64 er] (.t w.heap.size [3,33]) fun W6 u6 k6=>⟨(Zx u6 k2 g2 (by decide)),?_⟩
    have hB'1:=u6.below (hB.trans hb5) g2
    have o5'1:=u6.own2 o5 k2 (by decide)
    exact xec 3 k6 (.agg #[.slice px5 1 cx5,.int .i64 er]) ⟨_,rfl,hB'1,_,_,rfl,o5'1⟩
   refine xb 0 1 k1'2 ?_
   have g3:=n3.ge (bln (bln n1.below n2.below) (Za W2))
   have o7:=Zw (size:=1) (n:=1) n3.blk g3 rfl (by decide)
   have hB:=bln (bln (bln n1.below n2.below) (Za W2)) n3.below
   refine ybi (.o [] 4) (.t w.heap.size [3,33]) fun _ _ _ _ zJ zQ zo zx zy zK=>Zo (m:=0) (news:=[]) (.int .i64 0) 1 8 (1) ([.int .i64 no]) zo Tryz.underlying31 (by kernel_rfl) rfl (by decide) zx o7 zy (.inl ⟨none,0,rfl,rfl,rfl⟩) rfl (by simp) (by unfold maxLen;omega) (by omega) hB.size (by rfl) (by rfl) fun px8 cx8 W8 o8 hg8 hb8=>?_
   refine zK _ _ (Xb hb8 hg8 o7 (by decide)) ?_
   have k2:=((n2.blk.below (Za W2)).below n3.below).grown hg8 o7 (by decide)
   have g2:=n2.ge n1.below
   refine ysv (.o [7] 8) k2 [.slice px8 1 cx8,.int .i64 er] (.t w.heap.size [3,33]) fun W9 u9 k9=>⟨(Zx u9 k2 g2 (by decide)),?_⟩
   have hB'2:=u9.below (hB.trans hb8) g2
   have o8'1:=u9.own2 o8 k2 (by decide)
   exact xec 3 k9 (.agg #[.slice px8 1 cx8,.int .i64 er]) ⟨_,rfl,hB'2,_,_,rfl,o8'1⟩
  have k1'4:=(k1'1.below (Za W2)).below n3.below
  refine xb 0 1 k1'4 ?_
  refine xb (.o [] 3) 0 k1'4 ?_
  have g3:=n3.ge (bln (bln n1.below n2.below) (Za W2))
  have o10:=Zw (size:=1) (n:=1) n3.blk g3 rfl (by decide)
  have hB:=bln (bln (bln n1.below n2.below) (Za W2)) n3.below
  refine ybi (.o [] 4) (.t w.heap.size [3,33]) fun _ _ _ _ zJ zQ zo zx zy zK=>Zo (m:=0) (news:=[]) (.int .i64 0) 1 8 (1) ([.int .i64 no]) zo Tryz.underlying31 (by kernel_rfl) rfl (by decide) zx o10 zy (.inl ⟨none,0,rfl,rfl,rfl⟩) rfl (by simp) (by unfold maxLen;omega) (by omega) hB.size (by rfl) (by rfl) fun px11 cx11 W11 o11 hg11 hb11=>?_
  refine zK _ _ (Xb hb11 hg11 o10 (by decide)) ?_
  have k2:=((n2.blk.below (Za W2)).below n3.below).grown hg11 o10 (by decide)
  have g2:=n2.ge n1.below
  refine ysv (.o [7] 8) k2 [.slice px11 1 cx11,.int .i64 er] (.t w.heap.size [3,33]) fun W12 u12 k12=>⟨(Zx u12 k2 g2 (by decide)),?_⟩
  have hB'3:=u12.below (hB.trans hb11) g2
  have o11'1:=u12.own2 o11 k2 (by decide)
  exact xec 3 k12 (.agg #[.slice px11 1 cx11,.int .i64 er]) ⟨_,rfl,hB'3,_,_,rfl,o11'1⟩
 ·have k1'5:=k1'1.below (Za W2)
  refine xb 0 0 k1'5 ?_
  refine xm2 0 1 6 ?_ ?_
  ·refine xbs 0 1 [.int .i64 no] 3 fun b13 W13 n13=>?_
   refine xm2 0 4 6 ?_ ?_
   ·have g13:=n13.ge (bln (bln n1.below n2.below) (Za W2))
    have o14:=Zw (size:=1) (n:=1) n13.blk g13 rfl (by decide)
    have hB:=bln (bln (bln n1.below n2.below) (Za W2)) n13.below
    refine ybi 0 (.t w.heap.size [3,33]) fun _ _ _ _ zJ zQ zo zx zy zK=>Zo (m:=0) (news:=[]) (.int .i64 0) 1 8 (1) ([.int .i64 no]) zo Tryz.underlying31 (by kernel_rfl) rfl (by decide) zx o14 zy (.inl ⟨none,0,rfl,rfl,rfl⟩) rfl (by simp) (by unfold maxLen;omega) (by omega) hB.size (by rfl) (by rfl) fun px15 cx15 W15 o15 hg15 hb15=>?_
    refine zK _ _ (Xb hb15 hg15 o14 (by decide)) ?_
    have k1'6:=(k1'5.below n13.below).grown hg15 o14 (by decide)
    refine xb (.o [] 6) 1 k1'6 ?_
    have k2:=((n2.blk.below (Za W2)).below n13.below).grown hg15 o14 (by decide)
    have g2:=n2.ge n1.below
    refine ysv (.o [7] 8) k2 [.slice px15 1 cx15,.int .i64 er] (.t w.heap.size [3,33]) fun W16 u16 k16=>⟨(Zx u16 k2 g2 (by decide)),?_⟩
    have hB'4:=u16.below (hB.trans hb15) g2
    have o15'1:=u16.own2 o15 k2 (by decide)
    exact xec 3 k16 (.agg #[.slice px15 1 cx15,.int .i64 er]) ⟨_,rfl,hB'4,_,_,rfl,o15'1⟩
   have k1'7:=k1'5.below n13.below
   refine xb 0 1 k1'7 ?_
   have g13:=n13.ge (bln (bln n1.below n2.below) (Za W2))
   have o17:=Zw (size:=1) (n:=1) n13.blk g13 rfl (by decide)
   have hB:=bln (bln (bln n1.below n2.below) (Za W2)) n13.below
   refine ybi (.o [] 4) (.t w.heap.size [3,33]) fun _ _ _ _ zJ zQ zo zx zy zK=>Zo (m:=0) (news:=[]) (.int .i64 0) 1 8 (1) ([.int .i64 no]) zo Tryz.underlying31 (by kernel_rfl) rfl (by decide) zx o17 zy (.inl ⟨none,0,rfl,rfl,rfl⟩) rfl (by simp) (by unfold maxLen;omega) (by omega) hB.size (by rfl) (by rfl) fun px18 cx18 W18 o18 hg18 hb18=>?_
   refine zK _ _ (Xb hb18 hg18 o17 (by decide)) ?_
   have k2:=((n2.blk.below (Za W2)).below n13.below).grown hg18 o17 (by decide)
   have g2:=n2.ge n1.below
   refine ysv (.o [7] 8) k2 [.slice px18 1 cx18,.int .i64 er] (.t w.heap.size [3,33]) fun W19 u19 k19=>⟨(Zx u19 k2 g2 (by decide)),?_⟩
   have hB'5:=u19.below (hB.trans hb18) g2
   have o18'1:=u19.own2 o18 k2 (by decide)
   exact xec 3 k19 (.agg #[.slice px18 1 cx18,.int .i64 er]) ⟨_,rfl,hB'5,_,_,rfl,o18'1⟩
  refine xb 0 1 k1'5 ?_
  refine xbs (.o [] 1) 1 [.int .i64 no] 3 fun b20 W20 n20=>?_
  have g20:=n20.ge (bln (bln n1.below n2.below) (Za W2))
  have o21:=Zw (size:=1) (n:=1) n20.blk g20 rfl (by decide)
  have hB:=bln (bln (bln n1.below n2.below) (Za W2)) n20.below
  refine ybi (.o [] 4) (.t w.heap.size [3,33]) fun _ _ _ _ zJ zQ zo zx zy zK=>Zo (m:=0) (news:=[]) (.int .i64 0) 1 8 (1) ([.int .i64 no]) zo Tryz.underlying31 (by kernel_rfl) rfl (by decide) zx o21 zy (.inl ⟨none,0,rfl,rfl,rfl⟩) rfl (by simp) (by unfold maxLen;omega) (by omega) hB.size (by rfl) (by rfl) fun px22 cx22 W22 o22 hg22 hb22=>?_
  refine zK _ _ (Xb hb22 hg22 o21 (by decide)) ?_
  have k2:=((n2.blk.below (Za W2)).below n20.below).grown hg22 o21 (by decide)
  have g2:=n2.ge n1.below
  refine ysv (.o [7] 8) k2 [.slice px22 1 cx22,.int .i64 er] (.t w.heap.size [3,33]) fun W23 u23 k23=>⟨(Zx u23 k2 g2 (by decide)),?_⟩
  have hB'6:=u23.below (hB.trans hb22) g2
  have o22'1:=u23.own2 o22 k2 (by decide)
  exact xec 3 k23 (.agg #[.slice px22 1 cx22,.int .i64 er]) ⟨_,rfl,hB'6,_,_,rfl,o22'1⟩
 have k1'8:=k1'1.below (Za W2)
 refine xb 0 1 k1'8 ?_
 refine xm2 0 1 3 ?_ ?_
 ·refine xbs 0 1 [.int .i64 no] 3 fun b24 W24 n24=>?_
  have k1'9:=k1'8.below n24.below
  refine xb (.o [] 3) 0 k1'9 ?_
  have g24:=n24.ge (bln (bln n1.below n2.below) (Za W2))
  have o25:=Zw (size:=1) (n:=1) n24.blk g24 rfl (by decide)
  have hB:=bln (bln (bln n1.below n2.below) (Za W2)) n24.below
  refine ybi (.o [] 4) (.t w.heap.size [3,33]) fun _ _ _ _ zJ zQ zo zx zy zK=>Zo (m:=0) (news:=[]) (.int .i64 0) 1 8 (1) ([.int .i64 no]) zo Tryz.underlying31 (by kernel_rfl) rfl (by decide) zx o25 zy (.inl ⟨none,0,rfl,rfl,rfl⟩) rfl (by simp) (by unfold maxLen;omega) (by omega) hB.size (by rfl) (by rfl) fun px26 cx26 W26 o26 hg26 hb26=>?_
  refine zK _ _ (Xb hb26 hg26 o25 (by decide)) ?_
  have k2:=((n2.blk.below (Za W2)).below n24.below).grown hg26 o25 (by decide)
  have g2:=n2.ge n1.below
  refine ysv (.o [7] 8) k2 [.slice px26 1 cx26,.int .i64 er] (.t w.heap.size [3,33]) fun W27 u27 k27=>⟨(Zx u27 k2 g2 (by decide)),?_⟩
  have hB'7:=u27.below (hB.trans hb26) g2
  have o26'1:=u27.own2 o26 k2 (by decide)
  exact xec 3 k27 (.agg #[.slice px26 1 cx26,.int .i64 er]) ⟨_,rfl,hB'7,_,_,rfl,o26'1⟩
 refine xb 0 0 k1'8 ?_
 refine xbs (.o [] 1) 1 [.int .i64 no] 3 fun b28 W28 n28=>?_
 have g28:=n28.ge (bln (bln n1.below n2.below) (Za W2))
 have o29:=Zw (size:=1) (n:=1) n28.blk g28 rfl (by decide)
 have hB:=bln (bln (bln n1.below n2.below) (Za W2)) n28.below
 refine ybi (.o [] 4) (.t w.heap.size [3,33]) fun _ _ _ _ zJ zQ zo zx zy zK=>Zo (m:=0) (news:=[]) (.int .i64 0) 1 8 (1) ([.int .i64 no]) zo Tryz.underlying31 (by kernel_rfl) rfl (by decide) zx o29 zy (.inl ⟨none,0,rfl,rfl,rfl⟩) rfl (by simp) (by unfold maxLen;omega) (by omega) hB.size (by rfl) (by rfl) fun px30 cx30 W30 o30 hg30 hb30=>?_
 refine zK _ _ (Xb hb30 hg30 o29 (by decide)) ?_
 have k2:=((n2.blk.below (Za W2)).below n28.below).grown hg30 o29 (by decide)
 have g2:=n2.ge n1.below
 refine ysv (.o [7] 8) k2 [.slice px30 1 cx30,.int .i64 er] (.t w.heap.size [3,33]) fun W31 u31 k31=>⟨(Zx u31 k2 g2 (by decide)),?_⟩
 have hB'8:=u31.below (hB.trans hb30) g2
 have o30'1:=u31.own2 o30 k2 (by decide)
 exact xec 3 k31 (.agg #[.slice px30 1 cx30,.int .i64 er]) ⟨_,rfl,hB'8,_,_,rfl,o30'1⟩
def FltO(no er:Int)(w:World)(e:Ending)(w':World):Prop:=∃ a c,e=.returned (.agg #[.slice a (Jp no er).length c,.int .i64 er])∧Below w.heap.size w w'∧w'.ownsRow w.heap.size 3 1 (.slice a (Jp no er).length c) (Jp no er).length ((Jp no er).map (Value.int .i64))
theorem ref05_AtP(no er:Int)(w:World):Calls Tryz.prog 41 #[.int .i64 no,.agg #[.slice none 0 0,.int .i64 er]] w (FltO no er w):=by
 by_cases he:er=0
 ·subst he
  refine(Zee no w).mono ?_
  rintro e W ⟨rfl,hb⟩
  exact⟨none,0,rfl,hb,World.ownsRow_nil _ _ _ _⟩
 ·refine(Zef no er w he).mono ?_
  rintro e W ⟨_,rfl,hb,a,c,rfl,ho⟩
  rw[FltO,Mq he]
  exact⟨a,c,rfl,hb,ho⟩
theorem Hx(no er:Int)(w:World) :
 Calls Tryz.prog 36 #[.int .i64 no,.int .i64 er] w (FltO no er w):=by
 refine zin 9 Tryz.func36 ?_
 refine xa 2 [.slice none 0 0,.int .i64 0] 33 fun b1 W1 n1=>?_
 refine xc 7 (args:=#[.int .i64 no,.agg #[.slice none 0 0,.int .i64 er]]) (ref05_AtP no er _) ?_
 rintro _ W2 ⟨a5,c5,rfl,hb2,hs5⟩
 have k1:=n1.blk.below hb2
 refine xsv 0 k1 [.slice a5 ((Jp no er).length) c5,.int .i64 er] fun W3 u3 k3=>?_
 have g1:=n1.ge (Below.refl w.heap.size _)
 have hB:=u3.below (bln n1.below hb2) g1
 have hs5'1:=u3.own2 (Zd hs5 n1.below.size) k1 (by decide)
 exact xec 3 k3 (.agg #[.slice a5 ((Jp no er).length) c5,.int .i64 er]) ⟨_,_,rfl,hB,hs5'1⟩
theorem raw1(l:List UInt8)(k:Nat):Zf l k 1=(l.getD k 0).toNat:=by simp[Zf]
theorem raw2(l:List UInt8)(k:Nat):Zf l k 2=(l.getD k 0).toNat+256*(l.getD (k+1) 0).toNat:=by simp[Zf]
theorem BysM.elem{w:World}{a:Option Addr}{n c:Nat}{l:List UInt8}(h:Bys w (.slice a n c) l)(hl:l.length=n){k:Nat}(hk:k<n):a.isSome=true∧w.cell? (Xa a (k*1))=some (.int .u8 (↑(l.getD k 0).toNat:Int)):=by
 subst hl;exact Bys.elem h hk
theorem slN_of{w:World}{v:Value}{n:Nat}{l:List UInt8}(h:Bys w v l)(hl:l.length=n):Sl w v n (l.map bv):=by subst hl;exact h
theorem Ru{l:List UInt8}{k m n:Nat}(h:l.length=n)(hk:k≤m)(hm:m≤n):((l.drop k).take (m-k)).length=m-k:=by simp;omega
theorem Zg5{kind no:Int}{l:List UInt8}(hl:l.length=256):(!(((l.drop 252).take 4)==leB ((Nx l kind:Nat):Int) 4))=Kx kind no l 2:=by
 have h1:=leB_raw (l:=l) (k:=252) (w:=4) (by omega)
 have hs:Nx l kind<256 ^ 4:=by
  have:=Nat.xor_lt_two_pow (n:=32) (Jt (l.take 252)) (Pp kind)
  unfold Nx;exact this
 have hr:=Cv l 4 252
 show _=((Zf l 252 4:Int) != (Nx l kind:Int))
 rw[←h1]
 by_cases e:Zf l 252 4=Nx l kind
 ·rw[e];simp
 ·have e2:leB (Zf l 252 4:Int) 4≠leB (Nx l kind:Int) 4:=fun h=>e (leB_inj hr hs h)
  rw[beq_false_of_ne e2,bne_iff_ne.2 (by omega)];rfl
theorem Zak(kind no:Int)(a:Option Addr)(c:Nat)(l:List UInt8)(w:World)(hl:l.length≠256)(h:Bys w (.slice a l.length c) l) :
 Calls Tryz.prog 151 #[.slice a l.length c,.int .i64 kind,.int .i64 no] w (Ze4 kind no l w):=by
 refine zin 61 Tryz.func151 ?_
 refine xr 11 (args:=#[.int .i64 kind,.int .i64 no]) (Oe kind no _) fun W1 hb1=>?_
 refine xi 3 (!(Vh kind no)) (fun hc2=>?_) (fun hc2=>?_)
 ·have hk1:Kx kind no l 0=true:=hc2
  refine xe 8 (.tuple #[.slice none 0 0,.int .i64 1]) ?_
  have he:Xt kind no l=1:=by simp[Xt,hk1]
  exact .inl ⟨by rw[he];decide,by rw[he],hb1⟩
 have hk1:Kx kind no l 0=false:=hc2
 have hkb:Vh kind no=true:=by simpa using hc2
 refine xk 10 (show(((↑l.length:Int) != (256:Int)):Bool)=true from bne_iff_ne.2 (by omega)) ?_
 refine xe 8 (.tuple #[.slice none 0 0,.int .i64 7]) ?_
 have hk2:Kx kind no l 1=true:=bne_iff_ne.2 (by omega)
 have he:Xt kind no l=7:=by simp[Xt,hk1,hk2]
 exact .inl ⟨by rw[he];decide,by rw[he],hb1⟩
theorem Iz(kind no:Int)(a:Option Addr)(c:Nat)(l:List UInt8)(w:World)(hl256:l.length=256)(h:Bys w (.slice a 256 c) l) :
 Calls Tryz.prog 151 #[.slice a 256 c,.int .i64 kind,.int .i64 no] w (Ze4 kind no l w):=by
 have hcap:=h.cap hl256
 have hk2:Kx kind no l 1=false:=bne_eq_false_iff_eq.2 (by rw[hl256];rfl)
 refine zin 61 Tryz.func151 ?_
 refine xr 11 (args:=#[.int .i64 kind,.int .i64 no]) (Oe kind no _) fun W1 hb1=>?_
 refine xi 3 (!(Vh kind no)) (fun hc2=>?_) (fun hc2=>?_)
 ·have hk1:Kx kind no l 0=true:=hc2
  refine xe 8 (.tuple #[.slice none 0 0,.int .i64 1]) ?_
  have he:Xt kind no l=1:=by simp[Xt,hk1]
  exact .inl ⟨by rw[he];decide,by rw[he],hb1⟩
 have hk1:Kx kind no l 0=false:=hc2
 have hkb:Vh kind no=true:=by simpa using hc2
 refine xd 15 .z ?_
 refine xsL (.e [0] 1) (fun _ _ _ _ zo zx zy V=>Xv (k:=252) (b:=a) (n:=256) (c:=c) (i:=252) (ki:=.i64) 1 zo zx zy rfl (by omega) Tryz.underlying22 (by kernel_rfl) V) ?_
 have hB:=bln hb1 (Za W1)
 refine xcv (.e [] 2) (fun _ _ _ zo zx V hV=>Yp zo zx ((Bys.cut h hl256 252 256 (by decide) (Nat.le_refl _)).below (bln hB hV)) (Ru (m:=256) hl256 (by decide) (by decide)) Tryz.underlying22 Tryz.underlying5 Tryz.underlying9) ?_
 refine xsH (.e [3] 4) (fun _ _ _ _ zo zx zy V=>Qz (k:=252) (b:=a) (n:=256) (c:=c) (i:=252) (ki:=.i64) zo zx zy rfl (by omega) Tryz.underlying22 (by kernel_rfl) V) ?_
 refine xr (.o [6] 5) (args:=#[.slice a 252 c]) (ref_SumN a 252 c (l.take 252) _ (by simp;omega) (by decide) ((Bys.take h hl256 252 (by omega)).below hB)) fun W3 hb3=>?_
 refine xr (.o [] 7) (args:=#[.int .i64 kind]) (ref_Salt kind (Rh hkb).1 (Rh hkb).2.1 _) fun W4 hb4=>?_
 refine xq (.e [] 8) (congrArg (Value.int .i64) (show(IntKind.i64.wrap (↑(BitVec.ofInt 64 (↑(Ji (l.take 252)):Int) ^^^ BitVec.ofInt 64 (↑(Uy kind):Int)).toNat:Int):Int)=(↑(Nx l kind):Int) from Dp (Jt (l.take 252)) (Pp kind))) ?_
 refine yc (.o [] 9) (args:=#[.int .i64 (↑(Nx l kind):Int),.int .i64 4]) .z (Mj (↑(Nx l kind):Int) 4 4 _ (Int.natCast_nonneg _) (by have:=Nat.xor_lt_two_pow (n:=32) (Jt (l.take 252)) (Pp kind);unfold Nx;omega) rfl (by decide)) ?_
 rintro _ W5 ⟨_,rfl,hb5,p4,c4,rfl,h4⟩
 have hs5:=(bln (bln hB hb3) hb4).size
 refine⟨hb5,?_⟩
 have h4'1:=Zd h4 hs5
 refine xcv (.e [] 10) (fun _ _ _ zo zx V hV=>Yp zo zx (Yk (Ze (Zb h4'1 hV)) (Zg _ _)) (Zg _ _) Tryz.underlying22 Tryz.underlying5 Tryz.underlying9) ?_
 refine xi (.r [11] 2) (!((⟨((l.drop 252).take 4).toArray⟩:ByteArray).toList==(⟨(leB (↑(Nx l kind):Int) 4).toArray⟩:ByteArray).toList)) (fun hc6=>?_) (fun hc6=>?_)
 ·have hk3:Kx kind no l 2=true:=by rw[←Zg5 hl256,←Ww];exact hc6
  have hB'1:=bln (bln (bln hB hb3) hb4) hb5
  refine xe 8 (.tuple #[.slice none 0 0,.int .i64 4]) ?_
  have he:Xt kind no l=4:=by simp[Xt,hk1,hk2,hk3]
  exact .inl ⟨by rw[he];decide,by rw[he],hB'1⟩
 have hk3:Kx kind no l 2=false:=by rw[←Zg5 hl256,←Ww];exact hc6
 have hB'2:=bln (bln (bln hB hb3) hb4) hb5
 refine xr 5 (args:=#[.slice a 256 c,.int .i64 0,.int .i64 4]) (Nc a 256 c 0 4 0 4 l _ hl256 rfl rfl (by decide) (by decide) (by decide) (h.below hB'2)) fun W7 hb7=>?_
 refine xin 15 (↑(Zf l 0 4):Int) no (fun hc8=>?_) (fun hc8=>?_)
 ·have hk4:Kx kind no l 3=true:=bne_iff_ne.2 hc8
  have hB'3:=bln hB'2 hb7
  refine xe 8 (.tuple #[.slice none 0 0,.int .i64 5]) ?_
  have he:Xt kind no l=5:=by simp[Xt,hk1,hk2,hk3,hk4]
  exact .inl ⟨by rw[he];decide,by rw[he],hB'3⟩
 have hk4:Kx kind no l 3=false:=bne_eq_false_iff_eq.2 hc8
 have hB'4:=bln hB'2 hb7
 refine xr 5 (args:=#[.slice a 256 c,.int .i64 4,.int .i64 2]) (Nc a 256 c 4 2 4 2 l _ hl256 rfl rfl (by decide) (by decide) (by decide) (h.below hB'4)) fun W9 hb9=>?_
 refine xin 15 (↑(Zf l 4 2):Int) kind (fun hc10=>?_) (fun hc10=>?_)
 ·have hk5:Kx kind no l 4=true:=bne_iff_ne.2 hc10
  have hB'5:=bln hB'4 hb9
  refine xe 8 (.tuple #[.slice none 0 0,.int .i64 6]) ?_
  have he:Xt kind no l=6:=by simp[Xt,hk1,hk2,hk3,hk4,hk5]
  exact .inl ⟨by rw[he];decide,by rw[he],hB'5⟩
 have hk5:Kx kind no l 4=false:=bne_eq_false_iff_eq.2 hc10
 refine xx 6 _ 256 6 1 (BysM.elem h hl256 (k:=6) (by omega)).1 ?_
 have hB'6:=bln hB'4 hb9
 refine xl 0 ((BysM.elem (h.below hB'6) hl256 (k:=6) (by omega)).2) ?_
 refine xg 2 [50,51] ((↑(l.getD 6 0).toNat:Int) != (0:Int)) (fun hc11=>?_) (fun hc11=>?_)
 ·have hc11:=Vq hc11
  refine xe 16 (.tuple #[.slice none 0 0,.int .i64 7]) ?_
  have hk6:Kx kind no l 5=true:=bne_iff_ne.2 (by have h26:Zf l 6 2=(l.getD 6 0).toNat+256*(l.getD 7 0).toNat:=raw2 l 6;omega)
  have he:Xt kind no l=7:=by simp[Xt,hk1,hk2,hk3,hk4,hk5,hk6]
  exact .inl ⟨by rw[he];decide,by rw[he],hB'6⟩
 have hc11:=Xp hc11
 refine xx 1 _ 256 7 1 (BysM.elem h hl256 (k:=7) (by omega)).1 ?_
 refine xl 0 ((BysM.elem (h.below hB'6) hl256 (k:=7) (by omega)).2) ?_
 refine xin 4 (↑(l.getD 7 0).toNat:Int) (0:Int) (fun hc12=>?_) (fun hc12=>?_)
 ·refine xe 8 (.tuple #[.slice none 0 0,.int .i64 7]) ?_
  have hk6:Kx kind no l 5=true:=bne_iff_ne.2 (by have h26:Zf l 6 2=(l.getD 6 0).toNat+256*(l.getD 7 0).toNat:=raw2 l 6;omega)
  have he:Xt kind no l=7:=by simp[Xt,hk1,hk2,hk3,hk4,hk5,hk6]
  exact .inl ⟨by rw[he];decide,by rw[he],hB'6⟩
 refine xb0 4 5 fun b13 W13 n13=>?_
 have g13:=n13.ge hB'6
 have h4'2:=Zb (Zb h4'1 hb7) hb9
 have r13_h4:=Zr h4'2 n13
 refine xsB 1 (fun _ _ _ _ _ zo zx zy zz V=>Yj (k:=8) (h:=252) (b:=a) (n:=256) (c:=c) (i:=8) (ki:=.i64) (j:=252) (kj:=.i64) 1 zo zx zy rfl zz rfl (by omega) (by omega) Tryz.underlying22 (by kernel_rfl) V) ?_
 have o13:=Zw (size:=1) (n:=0) n13.blk g13 rfl (by decide)
 have hB'7:=bln hB'6 n13.below
 refine xbi 0 fun _ _ _ _ zJ zQ zo zx zy zK=>Zo (m:=(252-8)) (news:=(((l.drop 8).take (252-8)).map bv)) (.int .u8 0) 1 1 (244) ((((l.drop 8).take 244).map bv)) zo Tryz.underlying22 (by kernel_rfl) rfl (by decide) zx o13 zy (slN_of ((Bys.cut h hl256 8 252 (by decide) (by decide)).below hB'7) (by simp;omega)) (by simp;omega) (Qc _) (by unfold maxLen;omega) (by omega) hB'7.size (by rfl) (by rfl) fun px14 cx14 W14 o14 hg14 hb14=>?_
 refine zK _ _ ?_
 have hB'8:=hB'7.trans hb14
 refine xe 5 (.tuple #[.slice px14 244 cx14,.int .i64 0]) ?_
 have hk6:Kx kind no l 5=false:=by have h26:Zf l 6 2=(l.getD 6 0).toNat+256*(l.getD 7 0).toNat:=raw2 l 6;exact bne_eq_false_iff_eq.2 (by omega)
 exact .inr ⟨by simp[Xt,hk1,hk2,hk3,hk4,hk5,hk6],_,_,rfl,hB'8,o14⟩
theorem ref_Open(kind no:Int)(a:Option Addr)(n c:Nat)(l:List UInt8)(w:World)(hn:l.length=n)(h:Bys w (.slice a n c) l):Calls Tryz.prog 151 #[.slice a n c,.int .i64 kind,.int .i64 no] w (Ze4 kind no l w):=by
 by_cases hl:l.length=256
 ·obtain rfl:n=256:=by omega
  exact Iz kind no a c l w hl h
 ·subst hn;exact Zak kind no a c l w hl h
theorem Ea(B bm:Nat)(p:Option Addr)(k c:Nat)(l:List UInt8)(w:World)(hI:RefI B bm p k c l w)(no:Int)(ho:¬ (0≤no∧no<(k:Int))) :
 Calls Tryz.prog 150 #[.pointer (some ⟨bm,0,none⟩),.int .i64 no] w (Ret (.tuple #[.slice none 0 0,.int .i64 3]) w):=by
 have hk:=hI.blk
 have hkl:=hI.hk
 have hll:=hI.hl
 refine zin 25 Tryz.func150 ?_
 refine xg 12 [7,8] (decide (no<(0:Int))) (fun hc1=>?_) (fun hc1=>?_)
 ·have hc1:=of_decide_eq_true hc1
  exact xe 19 (.tuple #[.slice none 0 0,.int .i64 3]) ⟨rfl,(Below.refl w.heap.size _)⟩
 have hc1:=of_decide_eq_false hc1
 refine xb 4 0 hk ?_
 refine xk 5 (show(decide (no≥(↑k:Int)):Bool)=true from decide_eq_true (by omega)) ?_
 exact xe 8 (.tuple #[.slice none 0 0,.int .i64 3]) ⟨rfl,(Below.refl w.heap.size _)⟩
theorem Ek(B bm:Nat)(p:Option Addr)(k c:Nat)(l:List UInt8)(w:World)(hI:RefI B bm p k c l w)(j:Nat)(hj:j<k) :
 Calls Tryz.prog 150 #[.pointer (some ⟨bm,0,none⟩),.int .i64 (↑j:Int)] w (Yz (fun w' r=>∃ b c2,r=.tuple #[.slice (some ⟨b,0,none⟩) 256 c2,.int .i64 0]∧Bys w' (.slice (some ⟨b,0,none⟩) 256 c2) (Va l j)) w):=by
 have hk:=hI.blk
 have hkl:=hI.hk
 have hll:=hI.hl
 have hr:=Ze hI.row
 have hgj:(Uj l k).getD j []=Va l j:=Zgu l hj
 have hgl:((Uj l k).getD j []).length=256:=by rw[hgj];exact Qj (by omega)
 refine zin 25 Tryz.func150 ?_
 refine xgk 12 [7,8] (show(decide ((↑j:Int)<(0:Int)):Bool)=false from decide_eq_false (by omega)) ?_
 refine xb 4 0 hk ?_
 refine xk 5 (show(decide ((↑j:Int)≥(↑k:Int)):Bool)=false from decide_eq_false (by omega)) ?_
 refine xb 7 0 hk ?_
 refine xx 1 _ k j 1 (Strs.elem hr (Tx l k) (k:=j) (by omega)).1 ?_
 refine xl 0 ((Strs.elem hr (Tx l k) (k:=j) (by omega)).2) ?_
 refine xcf 0 fun _ _ _ zJ zQ zo zx zK=>Vl ((Uj l k).getD j []) zo zx Tryz.underlying9 Tryz.underlying22 Tryz.underlying5 (by omega) ?_
 intro bz cz W2 hb2 hbz
 refine zK _ _ ?_
 refine xe 5 (.tuple #[.slice (some ⟨bz,0,none⟩) (((Uj l k).getD j []).length) cz,.int .i64 0]) ?_
 rw[hgl]
 rw[hgl,hgj] at hbz
 exact⟨_,rfl,hb2,_,_,rfl,hbz⟩
def RReadP(k:Nat)(l:List UInt8)(no:Int)(w:World)(e:Ending)(w':World):Prop :=
 (¬ (0≤no∧no<(k:Int))∧e=.returned (.tuple #[.slice none 0 0,.int .i64 3])∧Below w.heap.size w w') ∨
 (∃ j:Nat,no=(j:Int)∧j<k∧∃ b c,e=.returned (.tuple #[.slice (some ⟨b,0,none⟩) 256 c,.int .i64 0])∧Below w.heap.size w w'∧Bys w' (.slice (some ⟨b,0,none⟩) 256 c) (Va l j))
theorem Oz(B bm:Nat)(p:Option Addr)(k c:Nat)(l:List UInt8)(w:World)(hI:RefI B bm p k c l w)(no:Int) :
 Calls Tryz.prog 150 #[.pointer (some ⟨bm,0,none⟩),.int .i64 no] w (RReadP k l no w):=by
 by_cases h:0≤no∧no<(k:Int)
 ·obtain⟨j,rfl⟩:∃ j:Nat,no=j:=⟨no.toNat,by omega⟩
  refine(Ek B bm p k c l w hI j (by omega)).mono ?_
  rintro e W ⟨_,rfl,hb,b,c2,rfl,ho⟩
  exact .inr ⟨j,rfl,by omega,_,_,rfl,hb,ho⟩
 ·refine(Ea B bm p k c l w hI no h).mono ?_
  rintro e W ⟨rfl,hb⟩
  exact .inl ⟨h,rfl,hb⟩
def RInP(l:List UInt8)(kind no:Int)(w:World)(e:Ending)(w':World):Prop :=
 (inE l kind no≠0∧e=.returned (.tuple #[.slice none 0 0,.int .i64 (inE l kind no)])∧Below w.heap.size w w') ∨
 (inE l kind no=0∧(inB l no).length=244∧∃ p c,e=.returned (.tuple #[.slice p 244 c,.int .i64 0])∧Below w.heap.size w w'∧w'.ownsRow w.heap.size 5 1 (.slice p 244 c) 244 ((inB l no).map bv))
theorem Tf(B bm:Nat)(p:Option Addr)(k c:Nat)(l:List UInt8)(w:World)(hI:RefI B bm p k c l w)(no:Int)(kind:Int) :
 Calls Tryz.prog 102 #[.pointer (some ⟨bm,0,none⟩),.int .i64 no,.int .i64 kind] w (RInP l kind no w):=by
 have hll:=hI.hl
 refine zin 25 Tryz.func102 ?_
 refine xc 10 (args:=#[.pointer (some ⟨bm,0,none⟩),.int .i64 no]) (Oz B bm p k c l _ (hI.below (Below.refl w.heap.size _)) no) ?_
 rintro e W1 hq1
 rcases hq1 with ⟨ho,rfl,hb1⟩|⟨j,hnj,hj,b3,c3,rfl,hb1,hbz⟩
 ·refine xe 24 (.tuple #[.slice none 0 0,.int .i64 3]) ?_
  have he:inE l kind no=3:=Dy (n:=k*256) hI.hl (by omega)
  exact .inl ⟨by rw[he];decide,by rw[he],hb1⟩
 have hin:inE l kind no=Xt kind no (Va l j):=Fj (n:=k*256) hI.hl hnj (by omega)
 have hib:inB l no=((Va l j).drop 8).take 244:=Rg hnj
 refine xc 22 (args:=#[.slice (some ⟨b3,0,none⟩) 256 c3,.int .i64 kind,.int .i64 no]) (ref_Open kind no _ 256 c3 (Va l j) _ (Qj (by omega)) hbz) ?_
 rintro e W2 hq2
 rcases hq2 with ⟨hs,rfl,hb2⟩|⟨hs,p2,c2,rfl,hb2,h2⟩
 ·have hB:=bln hb1 hb2
  exact xe 7 (.tuple #[.slice none 0 0,.int .i64 (Xt kind no (Va l j))]) (.inl ⟨by rw[hin];exact hs,by rw[hin],hB⟩)
 have hB:=bln hb1 hb2
 have h2'1:=Zd h2 hb1.size
 exact xe 7 (.tuple #[.slice p2 244 c2,.int .i64 0]) (.inr ⟨by rw[hin,hs],by rw[hib];simp[Qj (show j<l.length/256 by omega)],_,_,rfl,hB,by rw[hib];exact h2'1⟩)
def Vf(t:Int)(leaf:Bool)(n m v:Nat):List UInt8:=leB (Hs leaf) 1++leB t 1++leB (n:Int) 2++leB (v:Int) 2++leB (m:Int) 2++leB 0 4
theorem Vb(t:Int)(leaf:Bool)(n m v:Nat):(Vf t leaf n m v).length=12:=by simp[Vf,Zg]
def Jc(m v:Nat)(H:List UInt8)(K:List Int)(Vs:List (List UInt8)):Nat→List UInt8
 | 0=>Vj (List.replicate 244 0) 0 H
 | i+1=>Vj (Vj (Jc m v H K Vs i) (12+i*8) (leB (K.getD i 0) 8)) (12+m*8+i*v) (Vs.getD i [])
theorem Ci{m v:Nat}{H:List UInt8}{K:List Int}{Vs:List (List UInt8)}(hH:H.length=12)(hf:12+m*8+m*v≤244):∀ {i:Nat},i≤m→(∀ j,j<i→(Vs.getD j []).length=v)→(Jc m v H K Vs i).length=244
 | 0,_,_=>by rw[Jc,Ve (by rw[List.length_replicate];omega),List.length_replicate]
 | i+1,hi,hV=>by
  have ih:=Ci (K:=K) hH hf (i:=i) (by omega) (fun j hj=>hV j (by omega))
  have h1:=hV i (by omega)
  have h2:(i+1)*v≤m*v:=Nat.mul_le_mul_right v hi
  rw[Nat.add_mul,Nat.one_mul] at h2
  have h3:(Vj (Jc m v H K Vs i) (12+i*8) (leB (K.getD i 0) 8)).length=244:=by rw[Ve (by rw[Zg,ih];omega),ih]
  rw[Jc,Ve (by rw[h1,h3];omega),h3]
theorem node_Put(t:Int)(leaf:Bool)(n m v:Nat)(K:List Int)(Vs:List (List UInt8))(ak av:Option Addr)(ck cv:Nat)(w:World)(N:NodeOk t leaf n m v K Vs)(hKs:Sl w (.slice ak n ck) n (K.map (Value.int .i64)))(hVs:Sl w (.slice av n cv) n (Vs.map sv)) :
 Calls Tryz.prog 109 #[.agg #[.int .i64 t,.bool leaf,.slice ak n ck,.slice av n cv]] w (Yz (fun w' r=>∃ p c,r=.tuple #[.slice p 244 c,.int .i64 0]∧w'.ownsRow w.heap.size 5 1 (.slice p 244 c) 244 ((Jc m v (Vf t leaf n m v) K Vs n).map bv)) w):=by
 have ht1:=N.ht1
 have ht2:=N.ht2
 have hnm:=N.hn
 have hwb:=Cp t leaf
 rw[N.hv] at hwb
 have hmb:=Qk t leaf
 rw[N.hm] at hmb
 have hfit:=fitN t leaf
 rw[N.hm,N.hv] at hfit
 have hcap:=Sl.cap hKs
 refine zin 90 Tryz.func109 ?_
 refine xa 2 [.int .i64 t,.bool leaf,.slice ak n ck,.slice av n cv] 220 fun b1 W1 n1=>?_
 refine xlv 7 n1.blk.rp ?_
 refine xr 0 (args:=#[.agg #[.int .i64 t,.bool leaf,.slice ak n ck,.slice av n cv]]) (Zfx t leaf n m v K Vs ak av ck cv _ N (hKs.below n1.below) (hVs.below n1.below)) fun W2 hb2=>?_
 refine xd 7 .z ?_
 have k1'1:=(n1.blk.below hb2).below (Za W2)
 refine xb (.e [0] 1) 0 k1'1 ?_
 refine xb (.e [2] 3) 1 k1'1 ?_
 refine xb (.e [5] 6) 0 k1'1 ?_
 refine xb (.e [7] 8) 1 k1'1 ?_
 refine xr (.o [] 4) (args:=#[.int .i64 t,.bool leaf]) (Wv t leaf v N.hv ht1 ht2 _) fun W3 hb3=>?_
 refine xr (.o [] 9) (args:=#[.int .i64 t,.bool leaf]) (Dx t leaf m N.hm ht1 ht2 _) fun W4 hb4=>?_
 refine xd (.r [10,11] 3) .z ?_
 have k1'2:=((k1'1.below hb3).below hb4).below (Za W4)
 refine xb (.e [0] 1) 1 k1'2 ?_
 refine xb (.e [4] 5) 0 k1'2 ?_
 refine xb (.e [6,7] 8) 2 k1'2 ?_
 refine xr (.o [9,10,11,12,13,14,15] 2) (args:=#[.bool leaf]) (node_flag leaf _) fun W5 hb5=>?_
 refine xbs (.o [3] 16) 6 [.int .i64 1,.int .i64 (Hs leaf),.int .i64 1,.int .i64 t,.int .i64 2,.int .i64 (↑n:Int),.int .i64 2,.int .i64 (↑v:Int),.int .i64 2,.int .i64 (↑m:Int),.int .i64 4,.int .i64 0] 226 fun b6 W6 n6=>?_
 have hB'1:=bln (bln (bln (bln (bln (bln n1.below hb2) (Za W2)) hb3) hb4) (Za W4)) hb5
 have g6:=n6.ge hB'1
 refine yc (.o [] 17) (args:=#[.slice (some ⟨b6,0,none⟩) 6 6]) .z (Pack_node b6 (Hs leaf) t (n:Int) (v:Int) (m:Int) (Sn leaf).1 (Sn leaf).2 (by omega) (by omega) (by omega) (by omega) (by omega) (by omega) (by omega) (by omega) _ n6.blk) ?_
 rintro _ W7 ⟨_,rfl,hb7,p2,c2,rfl,h2⟩
 have hs7:=(bln hB'1 n6.below).size
 refine⟨hb7,?_⟩
 refine xmk (.r [18,19,20,21,22] 4) fun _ _ _ _ zJ zQ zo zx zy zK=>Vm 244 (.int .u8 0) 1 1 ((List.replicate 244 (0:UInt8)).map bv) zo zx zy Tryz.underlying22 (by kernel_rfl) rfl (by omega) (by omega) (Zcn 244) fun b8 W8 n8=>?_
 have hB'2:=bln (bln hB'1 n6.below) hb7
 have g8:=n8.ge hB'2
 have h2'1:=Zd h2 hs7
 have r8_h2:=Zr h2'1 n8
 refine zK _ _ ?_
 have o8:=Zw (size:=1) (n:=244) n8.blk g8 (by rw[List.length_map,List.length_replicate]) (by unfold maxLen;omega)
 have h2'2:=Zb h2'1 n8.below
 have hB'3:=bln hB'2 n8.below
 refine xbi 7 (t2:=22) fun _ _ _ _ zJ zQ zo zx zy zK=>Wx (dLen:=244) (dCap:=244) (off:=0) 12 ((Vf t leaf n m v).map bv) ((Jc m v (Vf t leaf n m v) K Vs 0).map bv) zo Tryz.underlying22 (by kernel_rfl) zx zy (Ze h2'2) o8 (by simp[Vb]) (by omega) (by omega) (Qc _) hB'3.size (by simp[Jc,Vj,Vb]) fun W9 o9 hg9 hb9=>?_
 refine zK _ _ ?_
 have k1'3:=((((k1'2.below hb5).below n6.below).below hb7).below n8.below).grown hg9 o8 (by decide)
 refine xb 6 2 k1'3 ?_
 have hB'4:=hB'3.trans hb9
 have k6'1:=((n6.blk.below hb7).below n8.below).grown hg9 o8 (by decide)
 refine zl 5 90 (fun zm zkv V=>∃ (i:Nat),zkv=[(1,.pointer (some ⟨b1,0,none⟩)),(2,.slice none 0 0),(3,.int .i64 0),(4,.int .i64 (↑v:Int)),(5,.int .i64 (↑m:Int)),(8,.slice (some ⟨b8,0,none⟩) 244 244),(52,.slice ak n ck),(53,.int .i64 (↑n:Int)),(54,.int .i64 (↑i:Int))]∧zm=n-((↑i:Int)).toNat∧Below w.heap.size w V∧Blk V b1 ([.int .i64 t,.bool leaf,.slice ak n ck,.slice av n cv]) 220∧Blk V b6 ([.int .i64 1,.int .i64 (Hs leaf),.int .i64 1,.int .i64 t,.int .i64 2,.int .i64 (↑n:Int),.int .i64 2,.int .i64 (↑v:Int),.int .i64 2,.int .i64 (↑m:Int),.int .i64 4,.int .i64 0]) 226∧V.ownsRow w.heap.size 5 1 (.slice (some ⟨b8,0,none⟩) 244 244) 244 ((Jc m v (Vf t leaf n m v) K Vs i).map bv)∧i≤n) ⟨0,rfl,rfl,hB'4,k1'3,k6'1,o9,Nat.zero_le _⟩ ?_
 rintro _ _ W10 ⟨i,rfl,rfl,hB_10,k10_b1,k10_b6,ho,hi⟩ J10 hJ10 r10
 have hb9:i<n→i*v+v≤m*v:=fun h=>by have h9:(i+1)*v≤m*v:=Nat.mul_le_mul_right v (by omega);rw[Nat.add_mul,Nat.one_mul] at h9;exact h9
 refine xid 6 ((↑i:Int)<(↑n:Int)) (fun hc11=>?_) (fun hc11=>?_)
 ·refine xx 7 _ n i 1 (IntsN.elem hKs N.hK (k:=i) (by omega)).1 ?_
  refine xl 0 ((IntsN.elem (hKs.below hB_10) N.hK (k:=i) (by omega)).2) ?_
  refine xbs 8 1 [.int .i64 8,.int .i64 (K.getD i 0)] 226 fun b12 W12 n12=>?_
  have d12_b6:=n12.ne k10_b6
  have g12:=n12.ge hB_10
  refine xc 0 (args:=#[.slice (some ⟨b12,0,none⟩) 1 1]) (Pack_8 b12 (K.getD i 0) (N.hk0 i (by omega)).1 _ n12.blk) ?_
  rintro _ W13 ⟨_,rfl,hb13,p3,c3,rfl,h3⟩
  have hs13:=(bln hB_10 n12.below).size
  refine xwm 11 ((↑i:Int)*8) (↑(i*8):Int) ?_
  refine xwm 0 (12+(↑(i*8):Int)) (↑(12+(i*8)):Int) ?_
  refine xsL 0 (fun _ _ _ _ zo zx zy V=>Uw (k:=(12+(i*8))) (b:=b8) (off:=0) (n:=244) (c:=244) (i:=(↑(12+(i*8)):Int)) (ki:=.i64) 1 zo zx zy rfl (by omega) (by omega) Tryz.underlying22 (by kernel_rfl) V) ?_
  have ho'1:=Zb (Zb ho n12.below) hb13
  have h3'1:=Zd h3 hs13
  have hB'5:=bln (bln hB_10 n12.below) hb13
  refine xbi 1 (t2:=22) fun _ _ _ _ zJ zQ zo zx zy zK=>Wx (dLen:=(244-(12+(i*8)))) (dCap:=(244-(12+(i*8)))) (off:=(0+(12+(i*8))*1)) 8 ((leB (K.getD i 0) 8).map bv) ((Vj (Jc m v (Vf t leaf n m v) K Vs i) (12+i*8) (leB (K.getD i 0) 8)).map bv) zo Tryz.underlying22 (by kernel_rfl) zx zy (Ze h3'1) ho'1 (by simp[Zg]) (by omega) (by omega) (Qc _) hB'5.size (by simp[Vj,Zg,List.map_take,List.map_drop]) fun W14 o14 hg14 hb14=>?_
  refine zK _ _ ?_
  refine xd 2 (.t w.heap.size [5]) ?_
  refine xwm (.e [0,1] 2) ((↑m:Int)*8) (↑(m*8):Int) ?_
  refine xwm (.e [] 3) (12+(↑(m*8):Int)) (↑(12+(m*8)):Int) ?_
  refine xwm (.e [4,5] 6) ((↑i:Int)*(↑v:Int)) (↑(i*v):Int) ?_
  refine xwm (.e [] 7) ((↑(12+(m*8)):Int)+(↑(i*v):Int)) (↑((12+(m*8))+(i*v)):Int) ?_
  refine xsL (.e [] 8) (fun _ _ _ _ zo zx zy V=>Uw (k:=((12+(m*8))+(i*v))) (b:=b8) (off:=0) (n:=244) (c:=244) (i:=(↑((12+(m*8))+(i*v)):Int)) (ki:=.i64) 1 zo zx zy rfl (by omega) (by omega) Tryz.underlying22 (by kernel_rfl) V) ?_
  have k10_b1'1:=(((k10_b1.below n12.below).below hb13).grown hg14 ho'1 (by decide)).below (Za W14)
  refine xbt (.e [9] 10) 3 w.heap.size [5] k10_b1'1 ?_
  refine xx (.e [11] 12) _ n i 1 (Strs.elem hVs N.hV (k:=i) (by omega)).1 ?_
  have hB'6:=bln (hB'5.trans hb14) (Za W14)
  refine xlt (.e [] 13) (.t w.heap.size [5]) (fun V hV=>(Strs.elem (hVs.below (Ke hB'6 hV (Nat.le_refl _))) N.hV (k:=i) (by omega)).2) ?_
  have o14'1:=Zb o14 (Za W14)
  refine ybi (.o [] 14) (t2:=9) (.t w.heap.size [5]) fun _ _ _ _ zJ zQ zo zx zy zK=>op_copyS (dLen:=(244-((12+(m*8))+(i*v)))) (dCap:=(244-((12+(m*8))+(i*v)))) (off:=(0+((12+(m*8))+(i*v))*1)) (Vs.getD i []) ((Jc m v (Vf t leaf n m v) K Vs (i+1)).map bv) zo Tryz.underlying22 (by kernel_rfl) zx zy o14'1 (by rw[N.hw i (by omega)];omega) (by rw[N.hw i (by omega)];omega) hB'6.size (by simp[Jc,Vj,List.map_take,List.map_drop]) fun W15 o15 hg15 hb15=>?_
  refine zK _ _ (Xb hb15 hg15 o14'1 (by decide)) ?_
  refine xwm 4 ((↑i:Int)+1) (↑(i+1):Int) ?_
  have hB'7:=hB'6.trans hb15
  have k10_b1'2:=k10_b1'1.grown hg15 o14'1 (by decide)
  have k10_b6'1:=((((k10_b6.below n12.below).below hb13).grown hg14 ho'1 (by decide)).below (Za W14)).grown hg15 o14'1 (by decide)
  exact ze 2 (hJ10 _ _ _ ⟨i+1,rfl,rfl,hB'7,k10_b1'2,k10_b6'1,o15,by omega⟩ (by omega))
 refine xe 13 (.tuple #[.slice (some ⟨b8,0,none⟩) 244 244,.int .i64 0]) ?_
 have e:i=n:=by omega
 subst e
 exact⟨_,rfl,hB_10,_,_,rfl,ho⟩
theorem Hv(ba b:Nat)(v x:Value)(w:World)(hk:Blk w ba [v,x,.pointer (some ⟨b,0,none⟩)] 153) :
 Calls Tryz.prog 26 #[.pointer (some ⟨ba,0,none⟩)] w (Ret (.pointer (some ⟨b,0,none⟩)) w):=by
 refine zin 9 Tryz.func26 ?_
 refine xr 9 (args:=#[.pointer (some ⟨ba,0,none⟩)]) (Jj ba b _ _ _ hk) fun W1 hb1=>?_
 have hk'1:=hk.below hb1
 refine xb 10 2 hk'1 ?_
 exact xe 4 (.pointer (some ⟨b,0,none⟩)) ⟨rfl,hb1⟩
abbrev Ent:=Int×List UInt8×Int
def Vy:Ent:=(0,[],0)
def Hr(x:Ent):List Value:=[.int .i64 x.1,.string ⟨x.2.1.toArray⟩,.int .i64 x.2.2]
theorem Jl(x:Ent):(Hr x).length=3:=rfl
def lastK(l:List Ent):Nat→Int
 | 0=>-1
 | i+1=>(l.getD i Vy).1
structure EntsOk(v:Nat)(l:List Ent):Prop where
 hk:∀ i,i<l.length→0≤(l.getD i Vy).1∧(l.getD i Vy).1≤281474976710655
 hs:∀ j,j+1<l.length→(l.getD j Vy).1<(l.getD (j+1) Vy).1
 hw:∀ i,i<l.length→(l.getD i Vy).2.1.length=v
theorem EntsOk.last{v:Nat}{l:List Ent}(E:EntsOk v l){i:Nat}(h:i<l.length):lastK l i<(l.getD i Vy).1:=by
 cases i with
 | zero=>have:=(E.hk 0 h).1;simp only[lastK];omega
 | succ j=>exact E.hs j h
theorem Bz(x:Nat):x≤(Zc4 x).sum:=by
 by_cases h:x≤1
 ·rw[Uu h];simp
 ·rw[Gy h];simp
theorem Zcp(t:Int)(n:Nat):1≤Qe t n:=by
 have h1:=Bz (ovN n (Qu t true));have h2:=Vn n (Qu t true);unfold Qe Hd;omega
theorem Zaq(t:Int)(v:Nat)(a:Option Addr)(c:Nat)(l:List Ent)(w:World)(ht1:1≤t)(ht2:t≤5)(hv:Br t true=v)(E:EntsOk v l)(h:Sts Hr w (.slice a l.length c) l)(hn:l.length≤32768) :
 Calls Tryz.prog 58 #[.int .i64 t,.slice a l.length c] w (Ret (.bool true) w):=by
 have hwb:=Cp t true
 rw[hv] at hwb
 have hnp:=Zcp t l.length
 refine zin 45 Tryz.func58 ?_
 refine xr 8 (args:=#[.int .i64 t,.bool true]) (Wv t true v hv ht1 ht2 _) fun W1 hb1=>?_
 refine xgk 9 [12,13] (show(((↑v:Int)==(0:Int)):Bool)=false from by simp;omega) ?_
 refine xr 3 (args:=#[.int .i64 t,.int .i64 (↑l.length:Int)]) (Ju t l.length _ ht1 ht2 hn) fun W3 hb3=>?_
 refine xk 4 (show(((↑(Qe t l.length):Int)==(0:Int)):Bool)=false from by simp;omega) ?_
 have hB:=bln hb1 hb3
 refine zl 16 45 (fun zm zkv V=>∃ (i:Nat),zkv=[(5,.int .i64 (↑v:Int)),(6,.int .i64 (lastK l i)),(20,.slice a l.length c),(21,.int .i64 (↑l.length:Int)),(22,.int .i64 (↑i:Int))]∧zm=l.length-((↑i:Int)).toNat∧Below w.heap.size w V∧i≤l.length) ⟨0,rfl,rfl,hB,Nat.zero_le _⟩ ?_
 rintro _ _ W4 ⟨i,rfl,rfl,hB_4,hi⟩ J4 hJ4 r4
 refine xid 6 ((↑i:Int)<(↑l.length:Int)) (fun hc5=>?_) (fun hc5=>?_)
 ·refine xx 6 _ l.length i 3 (Sts.cell h Jl Vy (k:=i) (i:=0) (by omega) rfl).1 ?_
  refine xlv 0 (Sts.rp (k:=i) (h.below hB_4) Jl Vy (by omega) (by decide)) ?_
  refine xa 0 [.int .i64 0,.string ⟨#[]⟩,.int .i64 0] 74 fun b6 W6 n6=>?_
  have g6:=n6.ge hB_4
  refine xsv 0 n6.blk [.int .i64 ((l.getD i Vy).1),.string ⟨((l.getD i Vy).2.1).toArray⟩,.int .i64 ((l.getD i Vy).2.2)] fun W7 u7 k7=>?_
  refine xb 6 0 k7 ?_
  refine xgk 3 [29,30] (show(decide ((l.getD i Vy).1≤(lastK l i)):Bool)=false from decide_eq_false (by have:=E.last (i:=i) (by omega);omega)) ?_
  refine xb 1 0 k7 ?_
  refine xgk 3 [33,34,35] (show(decide ((l.getD i Vy).1>(281474976710655:Int)):Bool)=false from decide_eq_false (by have:=(E.hk i (by omega)).2;omega)) ?_
  refine xb 1 1 k7 ?_
  refine xk 6 (show(((↑((l.getD i Vy).2.1).length:Int) != (↑v:Int)):Bool)=false from by rw[E.hw i (by omega)];simp) ?_
  refine xb 4 0 k7 ?_
  refine xw 5 ((↑i:Int)+1) ?_
  have hB'1:=u7.below (bln hB_4 n6.below) g6
  exact ze 2 (hJ4 _ _ _ ⟨i+1,rfl,rfl,hB'1,by omega⟩ (by omega))
 exact xe 11 (.bool true) ⟨rfl,hB_4⟩
theorem Ze0(w:World) :
 Calls Tryz.prog 66 #[] w (Yz (fun w' r=>∃ b,r=.slice (some ⟨b,0,none⟩) 1 1∧w.heap.size≤b∧Blk w' b [.int .i64 4,.int .i64 1,.int .i64 14399] 223) w):=by
 refine zin 3 Tryz.func66 ?_
 refine xbs 8 1 [.int .i64 4,.int .i64 1,.int .i64 14399] 223 fun b1 W1 n1=>?_
 have g1:=n1.ge (Below.refl w.heap.size _)
 exact xe 4 (.slice (some ⟨b1,0,none⟩) 1 1) ⟨_,rfl,n1.below,_,rfl,g1,n1.blk⟩
theorem Zfq(gl gn:Nat)(n:Int)(h1:1≤n)(h2:n≤14399)(w:World)(hl:Blk w gl [.int .i64 4,.int .i64 1,.int .i64 14399] 223)(hn:Blk w gn [.int .i64 n] 3) :
 Calls Tryz.prog 64 #[.slice (some ⟨gl,0,none⟩) 1 1,.slice (some ⟨gn,0,none⟩) 1 1] w (Ret (.string ⟨(leB n 4).toArray⟩) w):=by
 have hlo:=h1
 have hhi:=h2
 clear h2
 refine zin 51 Tryz.func64 ?_
 refine xu 19 2 ?_
 refine xlv 15 hl.rp ?_
 refine xa 0 [.int .i64 0,.int .i64 0,.int .i64 0] 223 fun b1 W1 n1=>?_
 have d1_gl:=n1.ne hl
 refine xsv 1 n1.blk [.int .i64 4,.int .i64 1,.int .i64 14399] fun W2 u2 k2=>?_
 have g1:=n1.ge (Below.refl w.heap.size _)
 refine xd 4 .z ?_
 have hn'1:=(u2.blkT (hn.below n1.below) n1.blk (by decide)).below (Za W2)
 refine xb (.e [0,1,2] 3) 0 hn'1 ?_
 have k2'1:=k2.below (Za W2)
 refine xb (.e [4] 5) 1 k2'1 ?_
 refine xgk (.b [6,7]) [23,24] (show(decide (n<(1:Int)):Bool)=false from decide_eq_false (by omega)) ?_
 refine xb (.e [8,9,10] 11) 0 hn'1 ?_
 refine xb (.e [12] 13) 2 k2'1 ?_
 refine xk (.r [14,15] 2) (show(decide (n>(14399:Int)):Bool)=false from decide_eq_false (by omega)) ?_
 refine xd 3 .z ?_
 have k2'2:=k2'1.below (Za W2.drew)
 refine xb (.e [0] 1) 0 k2'2 ?_
 have hn'2:=hn'1.below (Za W2.drew)
 refine xb (.e [2,3,4] 5) 0 hn'2 ?_
 refine xbs (.o [6] 7) 1 [.int .i64 4,.int .i64 n] 226 fun b4 W4 n4=>?_
 refine yc (.o [] 8) (args:=#[.slice (some ⟨b4,0,none⟩) 1 1]) .z (Mz b4 n (by omega) (by omega) _ n4.blk) ?_
 rintro _ W5 ⟨_,rfl,hb5,p2,c2,rfl,h2⟩
 have hs5:=(bln (bln (bln (u2.below n1.below g1) (Za W2)) (Za W2.drew)) n4.below).size
 refine⟨hb5,?_⟩
 have o6:=World.ownsRow_nil W5 w.heap.size 5 1
 have h2'1:=Zd h2 hs5
 have hB:=bln (bln (bln (bln (u2.below n1.below g1) (Za W2)) (Za W2.drew)) n4.below) hb5
 refine xbi (.r [9,10,11,12,13] 5) fun _ _ _ _ zJ zQ zo zx zy zK=>Zo (m:=4) (news:=(leB n 4).map bv) (.int .u8 0) 1 1 (4) ((leB n 4).map bv) zo Tryz.underlying22 (by kernel_rfl) rfl (by decide) zx o6 zy (Ze h2'1) (by simp[Zg]) (Qc _) (by unfold maxLen;omega) (by omega) hB.size (by rfl) (by simp) fun px7 cx7 W7 o7 hg7 hb7=>?_
 refine zK _ _ ?_
 refine xcv0 24 (fun _ _ _ zo zx=>Yp zo zx (Yk (Ze o7) (Zg _ _)) (Zg _ _) Tryz.underlying22 Tryz.underlying5 Tryz.underlying9) ?_
 have hB'1:=hB.trans hb7
 exact xe 4 (.string ⟨(leB n 4).toArray⟩) ⟨rfl,hB'1⟩
theorem Zek(n:Int)(h1:1≤n)(h2:n≤14399)(w:World) :
 Calls Tryz.prog 28 #[.int .i64 n] w (Ret (.string ⟨(leB n 4).toArray⟩) w):=by
 refine zin 7 Tryz.func28 ?_
 refine xc 7 (args:=#[]) (Ze0 _) ?_
 rintro _ W1 ⟨_,rfl,hb1,gl,rfl,gg,kl⟩
 refine xbs 1 1 [.int .i64 n] 3 fun b2 W2 n2=>?_
 have kl'1:=kl.below n2.below
 refine xr 0 (args:=#[.slice (some ⟨gl,0,none⟩) 1 1,.slice (some ⟨b2,0,none⟩) 1 1]) (Zfq gl b2 n h1 h2 _ kl'1 n2.blk) fun W3 hb3=>?_
 have hB:=bln (bln hb1 n2.below) hb3
 exact xe 4 (.string ⟨(leB n 4).toArray⟩) ⟨rfl,hB⟩
theorem Sts.cut{α:Type}{f:α→List Value}{m:Nat}{w:World}{b:Option Addr}{c:Nat}{l:List α}(hm:∀ x,(f x).length=m)(h:Sts f w (.slice b l.length c) l)(k:Nat)(hk:k≤l.length):Sts f w (.slice (Qy b k c m) (l.drop k).length (c-k)) (l.drop k):=by
 have hlen:(l.drop k).length=l.length-k:=by simp
 have hcap:=Sl.cap h
 by_cases hkn:k=l.length
 ·refine .inl ⟨Qy b k c m,c-k,by rw[show(l.drop k).length=0 by omega],by omega,?_⟩
  rw[List.drop_eq_nil_of_le (by omega)];rfl
 rcases h with ⟨a',c',h1,h2,h3⟩|⟨g,off,cap,h1,h2,h3,h4⟩
 ·omega
 ·simp only[Value.slice.injEq] at h1
  obtain⟨rfl,_,rfl⟩:=h1
  refine .inr ⟨g,off+k*m,c-k,?_,by omega,by omega,fun j x hj=>?_⟩
  ·rw[Qy,if_neg (by omega)];simp[Addr.add]
  ·have hfl:(l.drop k).flatMap f=(l.flatMap f).drop (k*m):=by
    conv=>rhs;rw[←List.take_append_drop k l,List.flatMap_append]
    rw[List.drop_left' (by rw[Wq hm,List.length_take,Nat.min_eq_left hk])]
   rw[hfl,List.getElem?_drop] at hj
   have:=h4 _ _ hj
   rwa [←Nat.add_assoc] at this
theorem Al.only{B ba b g n c:Nat}{pa:Option Addr}{ca f N k:Nat}{l:List UInt8}{w W:World}{T:List TypeId}(h:Al B ba b g n c pa ca f N k l w)(hO:Zh T w W)(hT:(T.contains 153||T.contains 103||T.contains 5||T.contains 3)=false):Al B ba b g n c pa ca f N k l W:=by
 simp only[Bool.or_eq_false_iff] at hT
 exact⟨h.blkA.only hO hT.1.1.1,h.blkI.only hO hT.1.1.2,Zj h.data hO hT.1.2,Zj h.nums hO hT.2⟩
def Xj(l:List Ent)(m i:Nat):List Ent:=(l.drop (i*m)).take m
def Vt(c:List Ent):List Int:=c.map (·.1)
def Jn(c:List Ent):List (List UInt8):=c.map (·.2.1)
def nodB(t:Int)(leaf:Bool)(m v:Nat)(c:List Ent):List UInt8:=Jc m v (Vf t leaf c.length m v) (Vt c) (Jn c) c.length
def levB(t:Int)(leaf:Bool)(m v:Nat)(l:List Ent)(q:Nat)(bs:List UInt8):Nat→List UInt8
 | 0=>bs
 | i+1=>Vj (levB t leaf m v l q bs i) ((q+i)*256) (Qa 2 ((q+i:Nat):Int) (nodB t leaf m v (Xj l m i)))
def upX (l:List Ent)(m q i:Nat):Ent:=(((Xj l m i).getD 0 Vy).1,leB ((q+i:Nat):Int) 4,((q+i:Nat):Int))
def upE (l:List Ent)(m q j:Nat):List Ent:=(List.range j).map (upX l m q)
theorem upE_succ(l:List Ent)(m q j:Nat):upE l m q (j+1)=upE l m q j++[upX l m q j]:=by simp[upE,List.range_succ]
theorem Yw(l:List Ent)(m q j:Nat):(upE l m q j).length=j:=by simp[upE]
theorem Mt{l:List Ent}{m q j i:Nat}(h:i<j):(upE l m q j).getD i Vy=upX l m q i:=by simp[upE,List.getD,List.getElem?_range h]
theorem Nr(l:List Ent)(m i:Nat):(Xj l m i).length=Vu l.length m i:=by simp[Xj,Vu]
theorem Eb{l:List Ent}{m i j:Nat}(h:j<Vu l.length m i):(Xj l m i).getD j Vy=l.getD (i*m+j) Vy:=by
 unfold Vu at h
 simp[Xj,List.getD,List.getElem?_take_of_lt (show j<m by omega),List.getElem?_drop]
theorem Az{c:List Ent}{j:Nat}(h:j<c.length):(Vt c).getD j 0=(c.getD j Vy).1:=by simp[Vt,List.getD,h]
theorem valsE_get{c:List Ent}{j:Nat}(h:j<c.length):(Jn c).getD j []=(c.getD j Vy).2.1:=by simp[Jn,List.getD,h]
theorem Nk(c:List Ent):(Vt c).length=c.length:=by simp[Vt]
theorem Tw(c:List Ent):(Jn c).length=c.length:=by simp[Jn]
theorem siz_lt{n m i:Nat}(hm:1≤m)(hn:1≤n)(h:i<ovN n m):i*m<n:=by
 unfold ovN at h
 rcases Nat.eq_zero_or_pos i with rfl|hi
 ·omega
 have h2:i<(n+m-1)/m:=by omega
 have h3:=(Nat.lt_div_iff_mul_lt (by omega)).1 h2
 omega
theorem Zda{t:Int}{leaf:Bool}{m v:Nat}{l:List Ent}(E:EntsOk v l)(h1:1≤t)(h2:t≤5)(hm:Qu t leaf=m)(hv:Br t leaf=v)(hl:leaf=false→1≤l.length){i:Nat}(hi:i<ovN l.length m):NodeOk t leaf (Xj l m i).length m v (Vt (Xj l m i)) (Jn (Xj l m i)):=by
 have hm1:=(Qk t leaf).1
 rw[hm] at hm1
 have hlen:=Nr l m i
 have hile:=siz_le hm1 hi
 have hle:(Xj l m i).length≤l.length-i*m:=by rw[hlen];unfold Vu;omega
 have key:∀ j,j<(Xj l m i).length→i*m+j<l.length∧(Vt (Xj l m i)).getD j 0=(l.getD (i*m+j) Vy).1∧(Jn (Xj l m i)).getD j []=(l.getD (i*m+j) Vy).2.1:=fun j hj=>by
  refine⟨by omega,?_,?_⟩
  ·rw[Az hj,Eb (by omega)]
  ·rw[valsE_get hj,Eb (by omega)]
 refine⟨h1,h2,hm,hv,Nk _,Tw _,by rw[hlen];unfold Vu;omega,fun h=>?_,fun j hj=>?_,fun j hj=>?_,fun j hj=>?_⟩
 ·have:=siz_lt hm1 (hl h) hi
  rw[hlen];unfold Vu;omega
 ·obtain⟨a1,a2,_⟩:=key j hj
  rw[a2];exact E.hk _ a1
 ·obtain⟨a1,a2,_⟩:=key j (by omega)
  obtain⟨b1,b2,_⟩:=key (j+1) hj
  rw[a2,b2];exact E.hs _ (by omega)
 ·obtain⟨a1,_,a3⟩:=key j hj
  rw[a3];exact E.hw _ a1
theorem Zbs{t:Int}{leaf:Bool}{m v:Nat}{c:List Ent}(N:NodeOk t leaf c.length m v (Vt c) (Jn c)):(nodB t leaf m v c).length=244:=by
 have hf:=fitN t leaf
 rw[N.hm,N.hv] at hf
 exact Ci (Vb _ _ _ _ _) hf N.hn (fun j hj=>N.hw j hj)
theorem Zbq{w:World}{b:Option Addr}{n m c:Nat}(h:Sl w (.slice b (ovN n m) c) (ovN n m) ((sizL n m).map nv)){k:Nat}(hk:k<ovN n m):b.isSome=true∧w.cell? (Xa b (k*1))=some (.int .i64 ((Vu n m k:Nat):Int)):=by
 have:=Zi h (sizL_len n m) hk
 rwa [show(sizL n m).getD k 0=Vu n m k from by simp[sizL,List.getD,List.getElem?_range hk]] at this
theorem Zgw{l:List Ent}{j:Nat}(h:j<l.length):((Vt l).take (j+1)).map (Value.int .i64)=((Vt l).take j).map (Value.int .i64)++[.int .i64 (l.getD j Vy).1]:=by
 rw[List.take_succ_eq_append_getElem (by rw[Nk];exact h)]
 simp[Vt,List.getD,h]
theorem vals_take{l:List Ent}{j:Nat}(h:j<l.length):((Jn l).take (j+1)).map sv=((Jn l).take j).map sv++[.string ⟨(l.getD j Vy).2.1.toArray⟩]:=by
 rw[List.take_succ_eq_append_getElem (by rw[Tw];exact h)]
 simp[Jn,List.getD,h,sv]
theorem Zdr{l:List Ent}{m i s:Nat}(hs:Vu l.length m i=s):(Vt (l.drop (i*m))).take s=Vt (Xj l m i):=by
 subst hs
 unfold Vt Xj Vu
 rw[←List.map_take]
 congr 1
 rw[List.take_eq_take_iff];simp
theorem Zes{l:List Ent}{m i s:Nat}(hs:Vu l.length m i=s):(Jn (l.drop (i*m))).take s=Jn (Xj l m i):=by
 subst hs
 unfold Jn Xj Vu
 rw[←List.map_take]
 congr 1
 rw[List.take_eq_take_iff];simp
theorem EntsOk.mono{v:Nat}{l:List Ent}(E:EntsOk v l):∀ {a b:Nat},a<b→b<l.length→(l.getD a Vy).1<(l.getD b Vy).1:=by
 intro a b h hb
 induction b with
 | zero=>omega
 | succ b ih =>
  have h1:=E.hs b (by omega)
  rcases Nat.lt_or_ge a b with h2|h2
  ·have:=ih h2 (by omega);omega
  ·obtain rfl:a=b:=by omega
   exact h1
theorem up_key{v:Nat}{l:List Ent}{m:Nat}(hm:1≤m)(hl:1≤l.length){i q:Nat}(hi:i<ovN l.length m):(upX l m q i).1=(l.getD (i*m) Vy).1∧i*m<l.length:=by
 have h:=siz_lt hm hl hi
 refine⟨?_,h⟩
 unfold upX
 rw[Eb (by unfold Vu;omega)];rfl
theorem up_ok{v:Nat}{l:List Ent}(E:EntsOk v l){m q:Nat}(hm:1≤m):EntsOk 4 (upE l m q (ovN l.length m)):=by
 rcases Nat.eq_zero_or_pos l.length with h0|hl
 ·have h1:ovN l.length m=1:=by
   rw[h0];unfold ovN
   have:(0+m-1)/m=0:=Nat.div_eq_of_lt (by omega)
   omega
  have hnil:l=[]:=List.eq_nil_of_length_eq_zero h0
  subst hnil
  constructor
  ·intro i hi;rw[Yw,h1] at hi;rw[Mt (by omega)];simp[upX,Xj,Vy]
  ·intro j hj;rw[Yw,h1] at hj;omega
  ·intro i hi;rw[Yw,h1] at hi;rw[Mt (by omega)];simp[upX,Zg]
 constructor
 ·intro i hi
  rw[Yw] at hi
  obtain⟨h1,h2⟩:=up_key (v:=v) (q:=q) hm hl hi
  rw[Mt hi,h1];exact E.hk _ h2
 ·intro j hj
  rw[Yw] at hj
  obtain⟨h1,h2⟩:=up_key (v:=v) (q:=q) hm hl hj
  obtain⟨h3,h4⟩:=up_key (v:=v) (q:=q) hm hl (show j<ovN l.length m by omega)
  rw[Mt hj,Mt (by omega),h1,h3]
  refine E.mono ?_ h2
  rw[Nat.add_mul];omega
 ·intro i hi
  rw[Yw] at hi
  rw[Mt hi];simp[upX,Zg]
def Lh(t:Int)(u:List Ent)(q:Nat)(bs:List UInt8):Int×List UInt8 :=
 if h:u.length≤1 then((u.getD 0 Vy).2.2,bs)
 else Lh t (upE u 18 q (ovN u.length 18)) (q+ovN u.length 18) (levB t false 18 4 u q bs (ovN u.length 18))
termination_by u.length
decreasing_by rw[Yw];have:=ov18 (x:=u.length) (by omega);omega
theorem Rf{t:Int}{u:List Ent}{q:Nat}{bs:List UInt8}(h:u.length≤1):Lh t u q bs=((u.getD 0 Vy).2.2,bs):=by rw[Lh];simp[h]
theorem Zbb{t:Int}{u:List Ent}{q:Nat}{bs:List UInt8}(h:¬ u.length≤1):Lh t u q bs=Lh t (upE u 18 q (ovN u.length 18)) (q+ovN u.length 18) (levB t false 18 4 u q bs (ovN u.length 18)):=by rw[Lh];simp[h]
def Je(t:Int)(l:List Ent)(q:Nat)(bs:List UInt8):Int×List UInt8 :=
 Lh t (upE l (Qu t true) q (ovN l.length (Qu t true))) (q+ovN l.length (Qu t true)) (levB t true (Qu t true) (Br t true) l q bs (ovN l.length (Qu t true)))
def LaidQ(B ba b g n c:Nat)(pa:Option Addr)(ca f N k:Nat)(l:List UInt8)(kind:Int)(li:List UInt8)(q:Nat)(w:World)(e:Ending)(w':World):Prop :=
 e=.returned (.tuple #[.int .i64 (q:Int),.nilIface])∧Below B w w'∧Zh [153,5] w w'∧Fr [ba,g] w w'∧Al B ba b g n c pa ca f N (k+1) (Vj l (q*256) (Qa kind (q:Int) li)) w'
theorem Ut(B ba b g n c:Nat)(p:Option Addr)(ca f N k:Nat)(l:List UInt8)(kind:Int)(a:Option Addr)(ci:Nat)(li:List UInt8)(q n':Nat)(w:World)(hq:f+k=q)(hn':li.length=n')(hC:AlC B ba n c ca f N)(hA:Al B ba b g n c p ca f N k l w)(hkN:k<N)(h1:1≤kind)(h2:kind≤4)(hin:∀ W,Below B w W→Zh [153] w W→Bys W (.slice a n' ci) li)(hl:n'≤244)(hBw:B≤w.heap.size) :
 Calls Tryz.prog 92 #[.pointer (some ⟨ba,0,none⟩),.int .i64 kind,.slice a n' ci] w (LaidQ B ba b g n c p ca f N k l kind li q w):=by
 subst hq hn';exact alloc_Lay B ba b g n c p ca f N k l kind a ci li w hC hA hkN h1 h2 hin hl hBw
theorem up_row{l:List Ent}{m q i:Nat}{key:Int}(hk:key=((Xj l m i).getD 0 Vy).1):(upE l m q i).flatMap Hr++[.int .i64 key,.string ⟨(leB ((q+i:Nat):Int) 4).toArray⟩,.int .i64 ((q+i:Nat):Int)]=(upE l m q (i+1)).flatMap Hr:=by
 subst hk;rw[upE_succ];simp[Hr,upX]
theorem Zhi{l:List Ent}{m i j:Nat}(hs:Vu l.length m i=j)(hj:0<j):((Vt (Xj l m i))).getD 0 0=((Xj l m i).getD 0 Vy).1:=Az (by rw[Nr];omega)
theorem Za4{l:List Ent}{m i j:Nat}(hs:Vu l.length m i=j)(hj:j=0):(0:Int)=((Xj l m i).getD 0 Vy).1:=by
 have:Xj l m i=[]:=List.eq_nil_of_length_eq_zero (by rw[Nr];omega)
 rw[this];rfl
def bmN (n:Nat):Nat:=(n+959)/960
theorem bmN_lt{n i:Nat}(h:i<bmN n):i*960<n:=by unfold bmN at h;omega
theorem bmN_done{n i:Nat}(h:i=bmN n):n≤i*960:=by subst h;unfold bmN;omega
def mn3 (n:Int):Int:=if n<3 then n else 3
def Zp(l:List Int):List Int:=l.map mn3
theorem Zez{l:List Int}{k:Nat}(h:k<l.length):Zp (l.take (k+1))=Zp (l.take k)++[mn3 (l.getD k 0)]:=by
 unfold Zp
 rw[List.take_succ_eq_append_getElem h,List.map_append,show l.getD k 0=l[k] from by simp[List.getD,h]]
 rfl
def ovX (l:List Int)(k:Nat):List Ent:=if 3≤l.getD k 0 then [((k:Int),leB (l.getD k 0) 4,0)] else []
def Zt(l:List Int)(k:Nat):List Ent:=(List.range k).flatMap (ovX l)
theorem Fv(l:List Int)(k:Nat):Zt l (k+1)=Zt l k++ovX l k:=by simp[Zt,List.range_succ]
theorem Nh{l:List Int}{k:Nat}(h:3≤l.getD k 0):Zt l (k+1)=Zt l k++[((k:Int),leB (l.getD k 0) 4,0)]:=by rw[Fv];unfold ovX;rw[if_pos h]
theorem By{l:List Int}{k:Nat}(h:¬ 3≤l.getD k 0):Zt l (k+1)=Zt l k:=by rw[Fv];unfold ovX;rw[if_neg h];simp
theorem overK_ok(l:List Int)(k:Nat):(Zt l k).Pairwise (fun a b=>a.1<b.1)∧∀ x∈Zt l k,0≤x.1∧x.1<k∧x.2.1.length=4:=by
 induction k with
 | zero=>simp[Zt]
 | succ k ih =>
  by_cases h3:3≤l.getD k 0
  ·rw[Nh h3]
   refine⟨List.pairwise_append.2 ⟨ih.1,by simp,fun a ha b hb=>?_⟩,fun x hx=>?_⟩
   ·simp only[List.mem_singleton] at hb;subst hb;exact(ih.2 a ha).2.1
   ·rcases List.mem_append.1 hx with h|h
    ·have:=ih.2 x h;exact⟨this.1,by have:=this.2.1;omega,this.2.2⟩
    ·simp only[List.mem_singleton] at h;subst h;exact⟨Int.natCast_nonneg _,by show(k:Int)<((k+1:Nat):Int);omega,Zg _ _⟩
  ·rw[By h3]
   exact⟨ih.1,fun x hx=>by have:=ih.2 x hx;exact⟨this.1,by have:=this.2.1;omega,this.2.2⟩⟩
theorem Gs(l:List Int)(k:Nat):(Zt l k).length≤k:=by
 induction k with
 | zero=>simp[Zt]
 | succ k ih =>
  by_cases h3:3≤l.getD k 0
  ·rw[Nh h3];simp;exact ih
  ·rw[By h3];omega
theorem Ng{l:List Ent}{i:Nat}(h:i<l.length):l.getD i Vy=l[i]:=by simp[List.getD,h]
theorem Iq(l:List Int)(k:Nat)(hk:k≤65536):EntsOk 4 (Zt l k):=by
 have h:=overK_ok l k
 refine⟨fun i hi=>?_,fun j hj=>?_,fun i hi=>?_⟩
 ·rw[Ng hi];have:=h.2 _ (List.getElem_mem hi);omega
 ·rw[Ng hj,Ng (by omega)];exact List.pairwise_iff_getElem.1 h.1 j (j+1) (by omega) hj (by omega)
 ·rw[Ng hi];exact(h.2 _ (List.getElem_mem hi)).2.2
def Wr(n:Int):Prop:=0≤n∧n≤2147483647
instance (n:Int):Decidable (Wr n):=by unfold Wr;infer_instance
def Jh(l:List Int):Int:=if 65536<l.length then 1 else if ∀ k,k<l.length→Wr (l.getD k 0) then 0 else 2
theorem Nm{l:List Int}(h:Jh l=0):l.length≤65536∧∀ k,k<l.length→Wr (l.getD k 0):=by
 unfold Jh at h
 split at h
 ·simp at h
 ·split at h
  ·exact⟨by omega,by assumption⟩
  ·simp at h
def Hh(l:List Int)(i:Nat):List Int:=(l.drop (i*960)).take 960
def Xq(l:List Int)(n:Nat):List (List Int):=(List.range n).map (Hh l)
theorem Kw(l:List Int)(n:Nat):(Xq l n).length=n:=by simp[Xq]
theorem Ot{l:List Int}{n i:Nat}(h:i<n):(Xq l n).getD i []=Hh l i:=by simp[Xq,List.getD,h]
theorem Ny(l:List Int)(i:Nat):(Hh l i).length=min 960 (l.length-i*960):=by simp[Hh]
def Vw(l:List Int):Prop:=∀ n∈l,0≤n∧n≤3
theorem Zcs{l:List Int}(h:∀ k,k<l.length→Wr (l.getD k 0)):Vw (Zp l):=by
 intro n hn
 obtain⟨m,hm,rfl⟩:=List.mem_map.1 hn
 obtain⟨k,hk,rfl⟩:=List.getElem_of_mem hm
 have:=h k hk
 rw[show l.getD k 0=l[k] from by simp[List.getD,hk]] at this
 unfold Wr at this
 unfold mn3;split<;>omega
theorem Cr{l:List Int}(h:Vw l)(i:Nat):Vw (Hh l i):=fun n hn=>h n (List.mem_of_mem_drop (List.mem_of_mem_take hn))
def atI (l:List Int)(i j:Nat):Int:=if j<i then l.getD j 0 else 0
def g4 (l:List Int)(i k:Nat):Int:=atI l i (4*k)+4*atI l i (4*k+1)+16*atI l i (4*k+2)+64*atI l i (4*k+3)
def g4B (l:List Int)(i k:Nat):UInt8:=UInt8.ofNat (g4 l i k).toNat
def Gp(l:List Int)(i:Nat):List UInt8:=leB l.length 4++(List.range 240).map (g4B l i)
theorem Qf(l:List Int)(i:Nat):(Gp l i).length=244:=by simp[Gp,Zg]
def Jd(l:List Int):List UInt8:=Gp l l.length
def Zff(l:List Int)(k:Nat):Nat:=((l.take k).filter fun n=>n==0).length
def Yg(l:List Int):Nat:=Zff l l.length
def Xi(l:List Int):Nat:=l.findIdx fun n=>n==0
theorem Zdf{l:List Int}{k:Nat}(h:k<l.length):Zff l (k+1)=Zff l k+(if l.getD k 0=0 then 1 else 0):=by
 unfold Zff
 rw[List.take_succ_eq_append_getElem h,List.filter_append,List.length_append]
 simp only[List.getD,List.getElem?_eq_getElem h,Option.getD_some]
 by_cases e:l[k]=0<;>simp[e]
theorem Pt(l:List Int)(k:Nat):Zff l k≤k:=Nat.le_trans (List.length_filter_le _ _) (by simp;omega)
theorem Pr(l:List Int):Xi l≤l.length:=List.findIdx_le_length
theorem firstN_at{l:List Int}{i:Nat}(h:i<l.length)(h0:l.getD i 0=0)(hp:∀ j,j<i→l.getD j 0≠0):Xi l=i:=by
 unfold Xi
 refine(List.findIdx_eq h).2 ⟨?_,fun j hj=>?_⟩
 ·rw[List.getD,List.getElem?_eq_getElem h] at h0;simpa using h0
 ·have:=hp j hj
  rw[List.getD,List.getElem?_eq_getElem (by omega)] at this;simpa using this
theorem Za8{l:List Int}(hp:∀ j,j<l.length→l.getD j 0≠0):Xi l=l.length:=by
 unfold Xi
 rw[List.findIdx_eq_length]
 intro n hn
 obtain⟨k,hk,rfl⟩:=List.getElem_of_mem hn
 have:=hp k hk
 rw[List.getD,List.getElem?_eq_getElem hk] at this;simpa using this
def slotB(n f g:Int):List UInt8:=leB n 8++leB f 4++leB g 4
theorem slotB_len(n f g:Int):(slotB n f g).length=16:=by simp[slotB,Zg]
def Uz(L:List (List Int))(q:Nat)(bs:List UInt8):Nat→List UInt8
 | 0=>bs
 | i+1=>Vj (Uz L q bs i) ((q+i)*256) (Qa 3 ((q+i:Nat):Int) (Jd (L.getD i [])))
def Zei(L:List (List Int))(q i:Nat):Ent:=((i:Int),slotB ((q+i:Nat):Int) (Yg (L.getD i []):Int) (Xi (L.getD i []):Int),0)
def Ym(L:List (List Int))(q j:Nat):List Ent:=(List.range j).map (Zei L q)
theorem Uk(L:List (List Int))(q j:Nat):(Ym L q j).length=j:=by simp[Ym]
theorem Zbh(L:List (List Int))(q j:Nat):Ym L q (j+1)=Ym L q j++[Zei L q j]:=by simp[Ym,List.range_succ]
theorem Up{L:List (List Int)}{q j i:Nat}(h:i<j):(Ym L q j).getD i Vy=Zei L q i:=by simp[Ym,List.getD,h]
theorem Zf1(L:List (List Int))(q j:Nat)(hj:j≤65536):EntsOk 16 (Ym L q j):=by
 refine⟨fun i hi=>?_,fun i hi=>?_,fun i hi=>?_⟩<;>rw[Uk] at hi
 ·rw[Up hi];simp only[Zei];omega
 ·rw[Up hi,Up (by omega)];simp only[Zei];omega
 ·rw[Up hi];exact slotB_len _ _ _
def Zg6(l:List Int)(q:Nat)(bs:List UInt8):Int×Int×List UInt8 :=
 let L:=Xq (Zp l) (bmN l.length)
 let x:=Je 4 (Ym L q (bmN l.length)) (q+bmN l.length) (Uz L q bs (bmN l.length))
 let y:=Je 5 (Zt l l.length) (q+bmN l.length+Qe 4 (bmN l.length)) x.2
 (x.1,y.1,y.2)
def Af(l:List Int):Nat:=bmN l.length+Qe 4 (bmN l.length)+Qe 5 (Zt l l.length).length
theorem Vr{l:List Int}(h:Vw l)(i j:Nat):0≤atI l i j∧atI l i j≤3:=by
 unfold atI
 split
 ·by_cases hj:j<l.length
  ·rw[show l.getD j 0=l[j] from by simp[List.getD,hj]];exact h _ (List.getElem_mem hj)
  ·rw[show l.getD j 0=0 from by simp[List.getD,Nat.le_of_not_lt hj]];omega
 ·omega
theorem Vi{l:List Int}(h:Vw l)(j:Nat):0≤l.getD j 0∧l.getD j 0≤3:=by
 have:=Vr h (j+1) j
 unfold atI at this
 rwa [if_pos (by omega)] at this
theorem Kd{l:List Int}{i j:Nat}(h:j≠i):atI l (i+1) j=atI l i j:=by
 unfold atI
 by_cases q:j<i
 ·rw[if_pos q,if_pos (by omega)]
 ·rw[if_neg q,if_neg (by omega)]
theorem Zcr(l:List Int)(i:Nat):atI l (i+1) i=l.getD i 0:=by unfold atI;rw[if_pos (by omega)]
theorem Wi{l:List Int}{i j:Nat}(h:i≤j):atI l i j=0:=by unfold atI;rw[if_neg (by omega)]
theorem g4_ne{l:List Int}{i k:Nat}(h:k≠i/4):g4 l (i+1) k=g4 l i k:=by
 unfold g4
 rw[Kd (by omega),Kd (by omega),Kd (by omega),Kd (by omega)]
theorem g4_at{l:List Int}(h:Vw l){i q r:Nat}(hi:i=4*q+r)(hr:r<4):g4 l (i+1) q=g4 l i q+l.getD i 0*4 ^ r∧0≤g4 l i q∧g4 l i q<4 ^ r:=by
 have b0:=Vr h i (4*q)
 have b1:=Vr h i (4*q+1)
 have b2:=Vr h i (4*q+2)
 have b3:=Vr h i (4*q+3)
 unfold g4
 obtain rfl|rfl|rfl|rfl:r=0∨r=1∨r=2∨r=3:=by omega
 ·rw[show 4*q=i from by omega,Zcr,Kd (by omega),Kd (by omega),Kd (by omega),Wi (Nat.le_refl i),Wi (Nat.le_add_right i 1),Wi (Nat.le_add_right i 2),Wi (Nat.le_add_right i 3)]
  omega
 ·have e2:atI l i (4*q+2)=0:=Wi (by omega)
  have e3:atI l i (4*q+3)=0:=Wi (by omega)
  have e1:atI l i (4*q+1)=0:=Wi (by omega)
  rw[Kd (j:=4*q) (by omega),Kd (j:=4*q+2) (by omega),Kd (j:=4*q+3) (by omega),e1,e2,e3,←hi,Zcr]
  omega
 ·have e2:atI l i (4*q+2)=0:=Wi (by omega)
  have e3:atI l i (4*q+3)=0:=Wi (by omega)
  rw[Kd (j:=4*q) (by omega),Kd (j:=4*q+1) (by omega),Kd (j:=4*q+3) (by omega),e2,e3,←hi,Zcr]
  omega
 ·have e3:atI l i (4*q+3)=0:=Wi (by omega)
  rw[Kd (j:=4*q) (by omega),Kd (j:=4*q+1) (by omega),Kd (j:=4*q+2) (by omega),e3,←hi,Zcr]
  omega
theorem g4B_at{l:List Int}(h:Vw l){i:Nat}:((g4B l (i+1) (i/4)).toNat:Int)=((g4B l i (i/4)).toNat:Int)+l.getD i 0*4 ^ (i%4)∧(g4B l i (i/4)).toNat<4 ^ (i%4):=by
 obtain⟨h1,h2,h3⟩:=g4_at h (show i=4*(i/4)+i%4 by omega) (by omega)
 have hn:=Vi h i
 have hp:(4:Int) ^ (i%4)≤64:=by
  have:i%4<4:=by omega
  obtain e|e|e|e:i%4=0∨i%4=1∨i%4=2∨i%4=3:=by omega
  all_goals rw[e];decide
 have hp0:(0:Int)<4 ^ (i%4):=Int.pow_pos (by decide)
 generalize hP:(4:Int) ^ (i%4)=Pq at *
 have hq:l.getD i 0*Pq≤3*Pq:=Int.mul_le_mul_of_nonneg_right hn.2 (by omega)
 have hq0:0≤l.getD i 0*Pq:=Int.mul_nonneg hn.1 (by omega)
 generalize l.getD i 0*Pq=M at *
 have hP':((4 ^ (i%4):Nat):Int)=Pq:=by rw[←hP];simp
 unfold g4B
 rw[UInt8.toNat_ofNat',UInt8.toNat_ofNat',h1]
 omega
def Tp(gs:List (Nat×Nat))(L:List (List Int))(i:Nat):Value:=.slice (some ⟨(gs.getD i (0,0)).1,0,none⟩) (L.getD i []).length (gs.getD i (0,0)).2
structure Lists(w:World)(base:Nat)(v:Value)(gs:List (Nat×Nat))(L:List (List Int)):Prop where
 row:w.ownsRow base 31 1 v L.length ((List.range L.length).map (Tp gs L))
 each:∀ i,i<L.length→w.ownsRow base 3 1 (Tp gs L i) (L.getD i []).length ((L.getD i []).map (Value.int .i64))
theorem Lists.below{w W:World}{base:Nat}{v:Value}{gs:List (Nat×Nat)}{L:List (List Int)}(h:Lists w base v gs L)(hb:Below w.heap.size w W):Lists W base v gs L:=⟨Zb h.row hb,fun i hi=>Zb (h.each i hi) hb⟩
theorem Lists.only{T:List TypeId}{w W:World}{base:Nat}{v:Value}{gs:List (Nat×Nat)}{L:List (List Int)}(h:Lists w base v gs L)(hO:Zh T w W)(hT:T.contains 31=false∧T.contains 3=false):Lists W base v gs L:=⟨Zj h.row hO hT.1,fun i hi=>Zj (h.each i hi) hO hT.2⟩
theorem Lists.elem{w:World}{base:Nat}{p:Option Addr}{n c:Nat}{gs:List (Nat×Nat)}{L:List (List Int)}(h:Lists w base (.slice p n c) gs L)(hn:L.length=n){k:Nat}(hk:k<n):p.isSome=true∧w.cell? (Xa p (k*1))=some (Tp gs L k):=by
 subst hn
 rw[Nat.mul_one]
 exact Sl.elem (Ze h.row) (by simp[hk])
theorem Lists.mono{w:World}{base base':Nat}{v:Value}{gs:List (Nat×Nat)}{L:List (List Int)}(h:Lists w base' v gs L)(hb:base≤base'):Lists w base v gs L:=⟨Zd h.row hb,fun i hi=>Zd (h.each i hi) hb⟩
theorem plotN_bd{l:List Int}(h:l.length≤3000):2≤Af l∧Af l≤500∧bmN l.length≤4:=by
 have h4:=Cz 4 (bmN l.length)
 have h4p:1≤Qe 4 (bmN l.length):=by
  have h1:=Bz (ovN (bmN l.length) (Qu 4 true));have h2:=Vn (bmN l.length) (Qu 4 true);unfold Qe Hd;omega
 have h5p:1≤Qe 5 (Zt l l.length).length:=by
  have h1:=Bz (ovN (Zt l l.length).length (Qu 5 true));have h2:=Vn (Zt l l.length).length (Qu 5 true);unfold Qe Hd;omega
 have hk:=Gs l l.length
 have h5:=Zbp (Vn (Zt l l.length).length (Qu 5 true))
 have ho:ovN (Zt l l.length).length (Qu 5 true)≤167:=by
  rw[show Qu 5 true=18 from rfl];unfold ovN;omega
 have h5':Qe 5 (Zt l l.length).length≤334:=by unfold Qe Hd;omega
 have hb:bmN l.length≤4:=by unfold bmN;omega
 unfold Af
 omega
def FrB (B:Nat)(S:List Nat)(w W:World):Prop:=w.heap.size≤W.heap.size∧∀ k,k<B→k∉S→W.heap[k]? = w.heap[k]?
theorem Fr.trans_B{S S':List Nat}{a w W:World}(h:Fr S a w)(k:FrB a.heap.size S' w W)(hs:∀ k∈S',k∈S):Fr S a W:=⟨Nat.le_trans h.size k.1,fun i hi hn=>(k.2 i hi fun q=>hn (hs i q)).trans (h.block i hi hn)⟩
theorem or_step:∀ r:Fin 4,∀ n:Fin 4,∀ o:Fin 64,o.val<4 ^ r.val→o.val ||| (n.val*4 ^ r.val)=o.val+n.val*4 ^ r.val:=by decide
theorem Zbc(kind no:Int)(a:Option Addr)(n c:Nat)(l:List UInt8)(w:World)(hn:l.length=n)(h:Bys w (.slice a n c) l):Calls Tryz.prog 145 #[.slice a n c,.int .i64 kind,.int .i64 no] w (Ze4 kind no l w):=by
 subst hn;exact Ab kind no a c l w h
theorem Zd1(a:Option Addr)(n c:Nat)(l:List UInt8)(w:World)(hn:l.length=n)(hl:n≤100000000)(h:Bys w (.slice a n c) l):Calls Tryz.prog 184 #[.slice a n c] w (BitsP l w):=by
 subst hn;exact Zgy a c l w hl h
def Gg(l:List UInt8):Bool:=decide (l.length=244)&&decide (Zf l 0 4≤960)&&(List.range 960).all fun i=>decide (i<Zf l 0 4)||Ei l i==0
theorem Kv(l:List UInt8):Gg l=true↔Zb9 l:=by
 unfold Gg Zb9
 simp only[Bool.and_eq_true,decide_eq_true_eq,List.all_eq_true,List.mem_range,Bool.or_eq_true,beq_iff_eq]
 constructor
 ·rintro⟨⟨h1,h2⟩,h3⟩
  exact⟨h1,h2,fun i hi hc=>(h3 i hi).resolve_left (by omega)⟩
 ·rintro⟨h1,h2,h3⟩
  exact⟨⟨h1,h2⟩,fun i hi=>by by_cases h:i<Zf l 0 4;exact .inl h;exact .inr (h3 i hi (by omega))⟩
def Xh(l:List UInt8)(no:Int):Int:=if inE l 3 no=0 then(if Gg (inB l no) then 0 else 7) else inE l 3 no
def Zby(l:List UInt8)(no:Int)(w:World)(e:Ending)(w':World):Prop :=
 (Xh l no≠0∧∃ b,e=.returned (.tuple #[.slice none 0 0,.iface 179 (.pointer (some ⟨b,0,none⟩))])∧Below w.heap.size w w'∧Kk w' [some no] (some (Xh l no)) (.iface 179 (.pointer (some ⟨b,0,none⟩)))) ∨
 (Xh l no=0∧∃ p c,e=.returned (.tuple #[.slice p (Zf (inB l no) 0 4) c,.nilIface])∧Below w.heap.size w w'∧w'.ownsRow w.heap.size 3 1 (.slice p (Zf (inB l no) 0 4) c) (Zf (inB l no) 0 4) ((Lz (inB l no) (Zf (inB l no) 0 4)).map nv))
theorem readB(B b:Nat)(p:Option Addr)(n c:Nat)(l:List UInt8)(no:Int)(w:World)(hI:ImgR B b p n c l w) :
 Calls Tryz.prog 183 #[.pointer (some ⟨b,0,none⟩),.int .i64 no,.int .i64 3,.func (.func 184) #[] #[]] w (Zby l no w):=by
 refine zin 56 Tryz.func183 ?_
 refine xc 15 (args:=#[.pointer (some ⟨b,0,none⟩),.int .i64 no]) (Mm B b p n c l no _ (hI.below (Below.refl w.heap.size _))) ?_
 rintro e W1 hq1
 rcases hq1 with ⟨ho,vr,rfl,hb1⟩|⟨j,hk,hj,p2,c2,rfl,hb1,ho⟩
 ·refine xc 21 (args:=#[.int .i64 no,.iface 91 (.int .i64 3)]) (Yc no 3 _) ?_
  rintro _ W2 ⟨_,rfl,hb2,hv2⟩
  rw[if_neg (by decide),if_neg (by decide)] at hv2
  have hq2:=hv2
  obtain⟨bf2,vf2,rfl,_,_⟩:=hq2
  have hB:=bln hb1 hb2
  refine xe 6 (.tuple #[.slice none 0 0,.iface 179 (.pointer (some ⟨bf2,0,none⟩))]) ?_
  have he:Xh l no=3:=by unfold Xh;rw[Dy hI.len ho];rfl
  exact .inl ⟨by rw[he];decide,_,rfl,hB,by rw[he];exact hv2⟩
 have hs1:=Nat.le_refl w.heap.size
 have hj2:j<l.length/256:=by rw[hI.len];exact hj
 have hlj:=Qj hj2
 have he2:=Fj (l:=l) (kind:=3) hI.len hk hj
 have ho'1:=Zd ho hs1
 refine xc 22 (args:=#[.slice p2 256 c2,.int .i64 3,.int .i64 no]) (Zbc 3 no p2 256 c2 (Va l j) _ hlj (Yk (Ze ho'1) hlj)) ?_
 rintro e W3 hq3
 rcases hq3 with ⟨hs,rfl,hb3⟩|⟨hs,p3,c3,rfl,hb3,h3⟩
 ·refine xk 14 (show(((Xt 3 no (Va l j)) != (0:Int)):Bool)=true from bne_iff_ne.2 hs) ?_
  refine xc 6 (args:=#[.int .i64 no,.iface 91 (.int .i64 (Xt 3 no (Va l j)))]) (Yc no (Xt 3 no (Va l j)) _) ?_
  rintro _ W4 ⟨_,rfl,hb4,hv4⟩
  rw[if_neg hs,if_neg hs] at hv4
  have hq4:=hv4
  obtain⟨bf4,vf4,rfl,_,_⟩:=hq4
  have hB:=bln (bln hb1 hb3) hb4
  refine xe 6 (.tuple #[.slice none 0 0,.iface 179 (.pointer (some ⟨bf4,0,none⟩))]) ?_
  have he:Xh l no=Xt 3 no (Va l j):=by unfold Xh;rw[he2,if_neg hs]
  exact .inl ⟨by rw[he];exact hs,_,rfl,hB,by rw[he];exact hv4⟩
 have h3'1:=Zd h3 hb1.size
 have hin:((Va l j).drop 8).take 244=inB l no:=(Rg hk).symm
 have hil:=Zah hI.len hk hj
 rw[hin] at h3'1
 refine xc 21 (args:=#[.slice p3 244 c3]) (Zd1 p3 244 c3 (inB l no) _ hil (by decide) (Yk (Ze h3'1) hil)) ?_
 rintro e W5 hq5
 rcases hq5 with ⟨hb0,rfl,hb5⟩|⟨hb0,p4,c4,rfl,hb5,h4⟩
 ·refine xc 21 (args:=#[.int .i64 no,.iface 91 (.int .i64 7)]) (Yc no 7 _) ?_
  rintro _ W6 ⟨_,rfl,hb6,hv6⟩
  rw[if_neg (by decide),if_neg (by decide)] at hv6
  have hq6:=hv6
  obtain⟨bf6,vf6,rfl,_,_⟩:=hq6
  have hB:=bln (bln (bln hb1 hb3) hb5) hb6
  refine xe 6 (.tuple #[.slice none 0 0,.iface 179 (.pointer (some ⟨bf6,0,none⟩))]) ?_
  have he:Xh l no=7:=by unfold Xh;rw[he2,if_pos hs,if_neg (by rw[Kv];exact hb0)]
  exact .inl ⟨by rw[he];decide,_,rfl,hB,by rw[he];exact hv6⟩
 have hs5:=(bln hb1 hb3).size
 have hB:=bln (bln hb1 hb3) hb5
 have h4'1:=Zd h4 hs5
 exact xe 25 (.tuple #[.slice p4 (Zf (inB l no) 0 4) c4,.nilIface]) (.inr ⟨by unfold Xh;rw[he2,if_pos hs,if_pos ((Kv _).2 hb0)],_,_,rfl,hB,h4'1⟩)
theorem Zev(B b:Nat)(p:Option Addr)(n c:Nat)(l:List UInt8)(no:Int)(w:World)(hI:ImgR B b p n c l w) :
 Calls Tryz.prog 135 #[.pointer (some ⟨b,0,none⟩),.int .i64 no] w (Zby l no w):=by
 refine zin 11 Tryz.func135 ?_
 refine xc 10 (args:=#[.pointer (some ⟨b,0,none⟩),.int .i64 no,.int .i64 3,.func (.func 184) #[] #[]]) (readB B b p n c l no _ (hI.below (Below.refl w.heap.size _))) ?_
 rintro e W1 hq1
 rcases hq1 with ⟨he,bf,rfl,hb1,hv⟩|⟨he,p4,c4,rfl,hb1,h4⟩
 ·exact xe 7 (.tuple #[.slice none 0 0,.iface 179 (.pointer (some ⟨bf,0,none⟩))]) (.inl ⟨he,_,rfl,hb1,hv⟩)
 have hs1:=Nat.le_refl w.heap.size
 have h4'1:=Zd h4 hs1
 exact xe 7 (.tuple #[.slice p4 (Zf (inB l no) 0 4) c4,.nilIface]) (.inr ⟨he,_,_,rfl,hb1,h4'1⟩)
def Pc(l:List Int)(n:Nat):List Int:=(List.range 960).map (atI l n)
theorem Bw(l:List Int)(n:Nat):(Pc l n).length=960:=by simp[Pc]
theorem padI_get(l:List Int)(n:Nat){k:Nat}(h:k<960):(Pc l n).getD k 0=atI l n k:=by simp[Pc,List.getD,List.getElem?_range h]
theorem padN_zero(l:List Int)(n:Nat):(List.range n).map (atI l 0)=List.replicate n 0:=by
 apply List.ext_getElem
 ·simp
 ·intro i h1 h2;simp[atI]
theorem padI_zero(l:List Int):Pc l 0=List.replicate 960 0:=padN_zero l 960
theorem padN_set{l:List Int}{i n:Nat}(hi:i<n):(((List.range n).map (atI l i)).map (Value.int .i64)).set i (.int .i64 (l.getD i 0))=((List.range n).map (atI l (i+1))).map (Value.int .i64):=by
 rw[←List.map_set]
 congr 1
 apply List.ext_getElem
 ·simp
 ·intro k h1 h2
  rw[List.getElem_set]
  simp only[List.getElem_map,List.getElem_range,atI]
  by_cases e:i=k
  ·subst e;rw[if_pos rfl,if_pos (by omega)]
  ·rw[if_neg e]
   by_cases h3:k<i
   ·rw[if_pos h3,if_pos (by omega)]
   ·rw[if_neg h3,if_neg (by omega)]
theorem padI_set{l:List Int}{i:Nat}(hi:i<960):((Pc l i).map (Value.int .i64)).set i (.int .i64 (l.getD i 0))=(Pc l (i+1)).map (Value.int .i64):=padN_set hi
theorem zeros960:Hk (Value.int .i64 0).cells.toList 960=(List.replicate 960 (0:Int)).map (Value.int .i64):=by
 rw[show(Value.int .i64 0).cells.toList=[Value.int .i64 0] from rfl,Hk,List.map_replicate]
 generalize 960=n
 induction n with
 | zero=>rfl
 | succ n ih=>rw[List.replicate_succ,List.flatten_cons,ih,List.replicate_succ];rfl
def grpB(l:List Int)(k:Nat):List UInt8:=leB l.length 4++(List.range k).map (g4B l l.length)
theorem grpB_succ(l:List Int)(k:Nat):grpB l (k+1)=grpB l k++[g4B l l.length k]:=by simp[grpB,List.range_succ]
theorem g4_u8{x:Int}(h0:0≤x)(h1:x<256):IntKind.u8.wrap x=((UInt8.ofNat x.toNat).toNat:Int):=by
 rw[UInt8.toNat_ofNat',Nat.mod_eq_of_lt (by omega),IntWalk.u8_in x (by omega)];omega
theorem ref09_Put(a:Option Addr)(c:Nat)(l:List Int)(w:World)(hS:Vw l)(hl:l.length≤960)(h:Sl w (.slice a l.length c) l.length (l.map (Value.int .i64))) :
 Calls Tryz.prog 221 #[.slice a l.length c] w (Yz (fun w' r=>∃ p c,r=.tuple #[.slice p 244 c,.int .i64 0]∧w'.ownsRow w.heap.size 5 1 (.slice p 244 c) 244 ((Jd l).map bv)) w):=by
 refine zin 74 Tryz.func221 ?_
 refine xk 14 (show(decide ((↑l.length:Int)>(960:Int)):Bool)=false from decide_eq_false (by omega)) ?_
 refine xmk 4 fun _ _ _ _ zJ zQ zo zx zy zK=>Vm 960 (.int .i64 0) 1 8 ((List.replicate 960 (0:Int)).map (Value.int .i64)) zo zx zy Tryz.underlying31 (by kernel_rfl) rfl (by omega) (by omega) (zeros960) fun b1 W1 n1=>?_
 refine zK _ _ ?_
 have o1:=Zw (size:=1) (n:=960) n1.blk (n1.ge (Below.refl w.heap.size _)) (by rw[List.length_map,List.length_replicate]) (by unfold maxLen;omega)
 refine zl 10 74 (fun zm zkv V=>∃ (i:Nat),zkv=[(0,.slice a l.length c),(4,.slice (some ⟨b1,0,none⟩) 960 960),(5,.int .i64 (↑i:Int))]∧zm=l.length-((↑i:Int)).toNat∧Below w.heap.size w V∧V.ownsRow w.heap.size 3 1 (.slice (some ⟨b1,0,none⟩) 960 960) 960 ((Pc l i).map (Value.int .i64))∧i≤l.length) ⟨0,rfl,rfl,n1.below,(by rw[padI_zero];exact o1),Nat.zero_le _⟩ ?_
 rintro _ _ W2 ⟨i,rfl,rfl,hB_2,ho,hi⟩ J2 hJ2 r2
 refine xid 9 ((↑i:Int)<(↑l.length:Int)) (fun hc3=>?_) (fun hc3=>?_)
 ·refine xx 9 _ l.length i 1 (IntsN.elem h rfl (k:=i) (by omega)).1 ?_
  refine xl 0 ((IntsN.elem (h.below hB_2) rfl (k:=i) (by omega)).2) ?_
  refine xgk 2 [22,23] (show(decide ((l.getD i 0)<(0:Int)):Bool)=false from decide_eq_false (by have:=Vi hS i;omega)) ?_
  refine xx 2 _ l.length i 1 (IntsN.elem h rfl (k:=i) (by omega)).1 ?_
  refine xl 0 ((IntsN.elem (h.below hB_2) rfl (k:=i) (by omega)).2) ?_
  refine xk 4 (show(decide ((l.getD i 0)>(3:Int)):Bool)=false from decide_eq_false (by have:=Vi hS i;omega)) ?_
  refine xx 7 _ l.length i 1 (IntsN.elem h rfl (k:=i) (by omega)).1 ?_
  refine xl 0 ((IntsN.elem (h.below hB_2) rfl (k:=i) (by omega)).2) ?_
  refine xx 0 _ 960 i 1 (show(some (⟨b1,0,none⟩:Addr)).isSome=true from rfl) ?_
  refine xst 0 fun _ _ _ _ zJ zQ zo zx zy zK=>Ja (t:=3) (k:=i) (v:=.int .i64 (l.getD i 0)) zo zx zy (by kernel_rfl) rfl ho (by omega) fun W5 u5 o5=>?_
  rw[padI_set (l:=l) (i:=i) (by omega)] at o5
  refine zK _ _ ?_
  refine xwm 5 ((↑i:Int)+1) (↑(i+1):Int) ?_
  have hB'1:=u5.below hB_2 (Hb ho)
  exact ze 2 (hJ2 _ _ _ ⟨i+1,rfl,rfl,hB'1,o5,by omega⟩ (by omega))
 refine xc 9 (args:=#[.int .i64 (↑l.length:Int),.int .i64 4]) (Mj (↑l.length:Int) 4 4 _ (Int.natCast_nonneg _) (by omega) rfl (by decide)) ?_
 rintro _ W6 ⟨_,rfl,hb6,p4,c4,rfl,h4⟩
 have hin:i=l.length:=by omega
 have ho'1:=Zb ho hb6
 have h4'1:=Zd h4 hB_2.size
 have hB'2:=bln hB_2 hb6
 refine zl 10 74 (fun zm zkv V=>∃ (k m:Nat) (q:Option Addr) (d:Nat),zkv=[(4,.slice (some ⟨b1,0,none⟩) 960 960),(6,.slice q m d),(7,.int .i64 (↑(4*k):Int))]∧zm=960-((↑(4*k):Int)).toNat∧Below w.heap.size w V∧V.ownsRow w.heap.size 3 1 (.slice (some ⟨b1,0,none⟩) 960 960) 960 ((Pc l l.length).map (Value.int .i64))∧V.ownsRow w.heap.size 5 1 (.slice q m d) m ((grpB l k).map bv)∧k≤240∧m=4+k) ⟨0,4,_,_,rfl,rfl,hB'2,(by rw[←hin];exact ho'1),(by simpa [grpB] using h4'1),Nat.zero_le _,rfl⟩ ?_
 rintro _ _ W7 ⟨k,m,q,d,rfl,rfl,hB_7,hq,hr,hk,hm⟩ J7 hJ7 r7
 have hp:∀ j,j<960→(Pc l l.length).getD j 0=atI l l.length j:=fun j hj=>padI_get l _ hj
 have hb0:=Vr hS l.length (4*k)
 have hb1:=Vr hS l.length (4*k+1)
 have hb2:=Vr hS l.length (4*k+2)
 have hb3:=Vr hS l.length (4*k+3)
 have h9:k<240→(Pc l l.length).getD (4*k) 0=atI l l.length (4*k)∧(Pc l l.length).getD (4*k+1) 0=atI l l.length (4*k+1)∧(Pc l l.length).getD (4*k+2) 0=atI l l.length (4*k+2)∧(Pc l l.length).getD (4*k+3) 0=atI l l.length (4*k+3):=fun q=>⟨hp _ (by omega),hp _ (by omega),hp _ (by omega),hp _ (by omega)⟩
 refine xid 7 ((↑(4*k):Int)<(960:Int)) (fun hc8=>?_) (fun hc8=>?_)
 ·refine xd 4 (.t w.heap.size [5]) ?_
  refine xx (.e [0,1,2] 3) _ 960 (4*k) 1 (show(some (⟨b1,0,none⟩:Addr)).isSome=true from rfl) ?_
  have hq'1:=Zb hq (Za W7)
  refine xlt (.e [] 4) (.t w.heap.size [5]) (fun V hV=>(IntsN.elem (Ze (Zj hq'1 hV.2 (by decide))) (Bw l l.length) (k:=(4*k)) (by omega)).2) ?_
  refine xwm (.e [5,6] 7) ((↑(4*k):Int)+1) (↑((4*k)+1):Int) ?_
  refine xx (.e [] 8) _ 960 ((4*k)+1) 1 (show(some (⟨b1,0,none⟩:Addr)).isSome=true from rfl) ?_
  refine xlt (.e [] 9) (.t w.heap.size [5]) (fun V hV=>(IntsN.elem (Ze (Zj hq'1 hV.2 (by decide))) (Bw l l.length) (k:=((4*k)+1)) (by omega)).2) ?_
  refine xw (.e [] 10) (4*((Pc l l.length).getD ((4*k)+1) 0)) ?_
  refine xw (.e [] 11) (((Pc l l.length).getD (4*k) 0)+(4*((Pc l l.length).getD ((4*k)+1) 0))) ?_
  refine xwm (.e [12,13] 14) ((↑(4*k):Int)+2) (↑((4*k)+2):Int) ?_
  refine xx (.e [] 15) _ 960 ((4*k)+2) 1 (show(some (⟨b1,0,none⟩:Addr)).isSome=true from rfl) ?_
  refine xlt (.e [] 16) (.t w.heap.size [5]) (fun V hV=>(IntsN.elem (Ze (Zj hq'1 hV.2 (by decide))) (Bw l l.length) (k:=((4*k)+2)) (by omega)).2) ?_
  refine xw (.e [] 17) (16*((Pc l l.length).getD ((4*k)+2) 0)) ?_
  refine xw (.e [] 18) (((Pc l l.length).getD (4*k) 0)+(4*((Pc l l.length).getD ((4*k)+1) 0))+(16*((Pc l l.length).getD ((4*k)+2) 0))) ?_
  refine xwm (.e [19,20] 21) ((↑(4*k):Int)+3) (↑((4*k)+3):Int) ?_
  refine xx (.e [] 22) _ 960 ((4*k)+3) 1 (show(some (⟨b1,0,none⟩:Addr)).isSome=true from rfl) ?_
  refine xlt (.e [] 23) (.t w.heap.size [5]) (fun V hV=>(IntsN.elem (Ze (Zj hq'1 hV.2 (by decide))) (Bw l l.length) (k:=((4*k)+3)) (by omega)).2) ?_
  refine xw (.e [] 24) (64*((Pc l l.length).getD ((4*k)+3) 0)) ?_
  refine xw (.e [] 25) (((Pc l l.length).getD (4*k) 0)+(4*((Pc l l.length).getD ((4*k)+1) 0))+(16*((Pc l l.length).getD ((4*k)+2) 0))+(64*((Pc l l.length).getD ((4*k)+3) 0))) ?_
  refine xq (.e [] 26) (congrArg (Value.int .u8) (show(IntKind.u8.wrap (((Pc l l.length).getD (4*k) 0)+(4*((Pc l l.length).getD ((4*k)+1) 0))+(16*((Pc l l.length).getD ((4*k)+2) 0))+(64*((Pc l l.length).getD ((4*k)+3) 0))):Int)=(↑(g4B l l.length k).toNat:Int) from by obtain⟨q0,q1,q2,q3⟩:=h9 (by omega);rw[q0,q1,q2,q3];exact g4_u8 (by omega) (by omega))) ?_
  refine xbs (.o [] 27) 1 [.int .u8 (↑(g4B l l.length k).toNat:Int)] 5 fun b9 W9 n9=>?_
  have hB'3:=bln hB_7 (Za W7)
  have g9:=n9.ge hB'3
  have hr'1:=Zb hr (Za W7)
  have r9_hr:=Zr hr'1 n9
  have hr'2:=Zb hr'1 n9.below
  have hB'4:=bln hB'3 n9.below
  refine ybi (.o [] 28) (.t w.heap.size [5]) fun _ _ _ _ zJ zQ zo zx zy zK=>Zo (m:=1) (news:=[.int .u8 (↑(g4B l l.length k).toNat:Int)]) (.int .u8 0) 1 1 (m+1) (((grpB l (k+1)).map bv)) zo Tryz.underlying22 (by kernel_rfl) rfl (by decide) zx hr'2 zy (n9.blk.sl 1 1 (by decide) (by decide)) rfl (by simp[Value.oneCell']) (by unfold maxLen;omega) (by omega) hB'4.size (by rfl) (by rw[grpB_succ,List.map_append];rfl) fun px10 cx10 W10 o10 hg10 hb10=>?_
  refine zK _ _ (Xb hb10 hg10 hr'2 (by decide)) ?_
  refine xwm (.r [29] 5) ((↑(4*k):Int)+4) (↑((4*k)+4):Int) ?_
  refine xv1 2 7 (show(.int .i64 (↑((4*k)+4):Int):Value)=.int .i64 (↑(4*(k+1)):Int) from by congr 1) ?_
  have hB'5:=hB'4.trans hb10
  have hq'2:=Xc (Zb hq'1 n9.below) hg10 hr'2 (by decide)
  exact ze 0 (hJ7 _ _ _ ⟨k+1,m+1,_,_,rfl,rfl,hB'5,hq'2,o10,by omega,by omega⟩ (by omega))
 refine xe 13 (.tuple #[.slice q m d,.int .i64 0]) ?_
 obtain rfl:k=240:=by omega
 subst hm
 exact⟨_,rfl,hB_7,_,_,rfl,hr⟩
def Yu(K:List Int)(n:Nat)(i:Nat):List UInt8:=(List.range i).flatMap fun j=>if j<n then leB (K.getD j 0) 8 else List.replicate 8 0
theorem Qw(K:List Int)(n i:Nat):Yu K n (i+1)=Yu K n i++(if i<n then leB (K.getD i 0) 8 else List.replicate 8 0):=by
 unfold Yu;rw[List.range_succ,List.flatMap_append];simp
theorem Kl(K:List Int)(n i:Nat):(Yu K n i).length=i*8:=by
 induction i with
 | zero=>rfl
 | succ i ih=>rw[Qw,List.length_append,ih];split<;>simp[Zg]<;>omega
def Qo(Vs:List (List UInt8))(i:Nat):List UInt8:=(List.range i).flatMap fun j=>Vs.getD j []
theorem Ga(Vs:List (List UInt8))(i:Nat):Qo Vs (i+1)=Qo Vs i++Vs.getD i []:=by
 unfold Qo;rw[List.range_succ,List.flatMap_append];simp
theorem Ur{Vs:List (List UInt8)}{v:Nat}:∀ {i:Nat},(∀ j,j<i→(Vs.getD j []).length=v)→(Qo Vs i).length=i*v
 | 0,_=>by simp[Qo]
 | i+1,h=>by rw[Ga,List.length_append,Ur fun j hj=>h j (by omega),h i (by omega),Nat.add_mul,Nat.one_mul]
theorem Rq{P z Q x:List UInt8}{k:Nat}(hk:P.length=k)(hz:z.length=x.length):Vj (P++z++Q) k x=P++x++Q:=by
 unfold Vj
 subst hk
 rw[List.append_assoc P z Q,List.take_left' rfl,←hz]
 have e:P++(z++Q)=(P++z)++Q:=(List.append_assoc _ _ _).symm
 rw[e,List.drop_left' (by simp)]
theorem Kz(K:List Int)(i:Nat):∀ d,Yu K i (i+d)=Yu K i i++List.replicate (d*8) 0
 | 0=>by simp
 | d+1=>by
  rw[←Nat.add_assoc,Qw,Kz K i d,if_neg (by omega),List.append_assoc,List.replicate_append_replicate,Nat.add_mul,Nat.one_mul]
theorem Md(K:List Int)(n:Nat):∀ i,i≤n→Yu K n i=Yu K i i
 | 0,_=>rfl
 | i+1,h=>by
  rw[Qw,Qw,if_pos (by omega),if_pos (by omega),Md K n i (by omega),Md K (i+1) i (by omega)]
theorem Rr(a b:Nat):List.replicate (a+b) (0:UInt8)=List.replicate a 0++List.replicate b 0:=List.replicate_append_replicate.symm
theorem Re{m v:Nat}{H:List UInt8}{K:List Int}{Vs:List (List UInt8)}(hH:H.length=12)(hf:12+m*8+m*v≤244):∀ {i:Nat},i≤m→(∀ j,j<i→(Vs.getD j []).length=v) →
  Jc m v H K Vs i=H++Yu K i m++Qo Vs i++List.replicate (232-m*8-i*v) 0
 | 0,_,_=>by
  have e1:=Kz K 0 m
  rw[Nat.zero_add] at e1
  rw[Jc,e1]
  have h1:(232-m*8-0*v)=232-m*8:=by omega
  rw[h1,show(244:Nat)=12+(m*8+(232-m*8)) by omega,Rr,Rr]
  have:=Rq (P:=[]) (z:=List.replicate 12 (0:UInt8)) (Q:=List.replicate (m*8) 0++List.replicate (232-m*8) 0) (x:=H) (k:=0) rfl (by simp[hH])
  rw[List.nil_append,List.nil_append] at this
  rw[this]
  simp[Yu,Qo]
 | i+1,hi,hV=>by
  have ih:=Re (K:=K) hH hf (i:=i) (by omega) (fun j hj=>hV j (by omega))
  have hvi:=hV i (by omega)
  have h2:(i+1)*v≤m*v:=Nat.mul_le_mul_right v hi
  rw[Nat.add_mul,Nat.one_mul] at h2
  obtain⟨d,hd⟩:∃ d,m=i+(d+1):=⟨m-i-1,by omega⟩
  have ek:Yu K i m=Yu K i i++List.replicate 8 0++List.replicate (d*8) 0:=by
   rw[hd,Kz,show(d+1)*8=8+d*8 by omega,Rr,List.append_assoc]
  have ek2:Yu K (i+1) m=Yu K i i++leB (K.getD i 0) 8++List.replicate (d*8) 0:=by
   rw[show m=(i+1)+d by omega,Kz,Qw,if_pos (by omega),Md K (i+1) i (by omega)]
  have er:List.replicate (232-m*8-i*v) (0:UInt8)=List.replicate v 0++List.replicate (232-m*8-(i*v+v)) 0:=by
   rw[←Rr];congr 1;omega
  have hvp:(Qo Vs i).length=i*v:=Ur fun j hj=>hV j (by omega)
  rw[Jc,ih,ek,er]
  have s1:=Rq (P:=H++Yu K i i) (z:=List.replicate 8 (0:UInt8)) (Q:=List.replicate (d*8) 0++(Qo Vs i++(List.replicate v 0++List.replicate (232-m*8-(i*v+v)) 0))) (x:=leB (K.getD i 0) 8) (k:=12+i*8) (by rw[List.length_append,hH,Kl]) (by simp[Zg])
  have a1:H++(Yu K i i++List.replicate 8 0++List.replicate (d*8) 0)++Qo Vs i++(List.replicate v 0++List.replicate (232-m*8-(i*v+v)) 0)=H++Yu K i i++List.replicate 8 0++(List.replicate (d*8) 0++(Qo Vs i++(List.replicate v 0++List.replicate (232-m*8-(i*v+v)) 0))):=by simp only[List.append_assoc]
  rw[a1,s1]
  have s2:=Rq (P:=H++Yu K (i+1) m++Qo Vs i) (z:=List.replicate v (0:UInt8)) (Q:=List.replicate (232-m*8-(i*v+v)) 0) (x:=Vs.getD i []) (k:=12+m*8+i*v) (by rw[List.length_append,List.length_append,hH,Kl,hvp]) (by rw[List.length_replicate,hvi])
  have a2:H++Yu K i i++leB (K.getD i 0) 8++(List.replicate (d*8) 0++(Qo Vs i++(List.replicate v 0++List.replicate (232-m*8-(i*v+v)) 0)))=H++Yu K (i+1) m++Qo Vs i++List.replicate v 0++List.replicate (232-m*8-(i*v+v)) 0:=by rw[ek2];simp only[List.append_assoc]
  rw[a2,s2,Ga,Nat.add_mul,Nat.one_mul]
  simp only[List.append_assoc]
theorem Ls(w:World) :
 Calls Tryz.prog 223 #[.int .i64 1,.bool true] w (Ret (.int .i64 4) w):=by
 refine zin 19 Tryz.func223 ?_
 refine xbs 7 6 [.int .i64 0,.int .i64 4,.int .i64 8,.int .i64 24,.int .i64 16,.int .i64 4] 3 fun b1 W1 n1=>?_
 refine xb 32 1 n1.blk ?_
 exact xe 4 (.int .i64 4) ⟨rfl,n1.below⟩
theorem Ze8(w:World) :
 Calls Tryz.prog 224 #[.int .i64 1,.bool true] w (Ret (.int .i64 18) w):=by
 refine zin 16 Tryz.func224 ?_
 refine xr 10 (args:=#[.int .i64 1,.bool true]) (Ls _) fun W1 hb1=>?_
 exact xe 18 (.int .i64 18) ⟨rfl,hb1⟩
theorem Mv(w:World) :
 Calls Tryz.prog 223 #[.int .i64 2,.bool true] w (Ret (.int .i64 8) w):=by
 refine zin 19 Tryz.func223 ?_
 refine xbs 7 6 [.int .i64 0,.int .i64 4,.int .i64 8,.int .i64 24,.int .i64 16,.int .i64 4] 3 fun b1 W1 n1=>?_
 refine xb 32 2 n1.blk ?_
 exact xe 4 (.int .i64 8) ⟨rfl,n1.below⟩
theorem Zec(w:World) :
 Calls Tryz.prog 224 #[.int .i64 2,.bool true] w (Ret (.int .i64 12) w):=by
 refine zin 16 Tryz.func224 ?_
 refine xr 10 (args:=#[.int .i64 2,.bool true]) (Mv _) fun W1 hb1=>?_
 exact xe 25 (.int .i64 12) ⟨rfl,hb1⟩
theorem Ly(w:World) :
 Calls Tryz.prog 223 #[.int .i64 3,.bool true] w (Ret (.int .i64 24) w):=by
 refine zin 19 Tryz.func223 ?_
 refine xbs 7 6 [.int .i64 0,.int .i64 4,.int .i64 8,.int .i64 24,.int .i64 16,.int .i64 4] 3 fun b1 W1 n1=>?_
 refine xb 32 3 n1.blk ?_
 exact xe 4 (.int .i64 24) ⟨rfl,n1.below⟩
theorem Zet(w:World) :
 Calls Tryz.prog 224 #[.int .i64 3,.bool true] w (Ret (.int .i64 6) w):=by
 refine zin 16 Tryz.func224 ?_
 refine xr 10 (args:=#[.int .i64 3,.bool true]) (Ly _) fun W1 hb1=>?_
 exact xe 39 (.int .i64 6) ⟨rfl,hb1⟩
theorem Li(w:World) :
 Calls Tryz.prog 223 #[.int .i64 4,.bool true] w (Ret (.int .i64 16) w):=by
 refine zin 19 Tryz.func223 ?_
 refine xbs 7 6 [.int .i64 0,.int .i64 4,.int .i64 8,.int .i64 24,.int .i64 16,.int .i64 4] 3 fun b1 W1 n1=>?_
 refine xb 32 4 n1.blk ?_
 exact xe 4 (.int .i64 16) ⟨rfl,n1.below⟩
theorem Zgg(w:World) :
 Calls Tryz.prog 224 #[.int .i64 4,.bool true] w (Ret (.int .i64 9) w):=by
 refine zin 16 Tryz.func224 ?_
 refine xr 10 (args:=#[.int .i64 4,.bool true]) (Li _) fun W1 hb1=>?_
 exact xe 32 (.int .i64 9) ⟨rfl,hb1⟩
theorem Lv(w:World) :
 Calls Tryz.prog 223 #[.int .i64 5,.bool true] w (Ret (.int .i64 4) w):=by
 refine zin 19 Tryz.func223 ?_
 refine xbs 7 6 [.int .i64 0,.int .i64 4,.int .i64 8,.int .i64 24,.int .i64 16,.int .i64 4] 3 fun b1 W1 n1=>?_
 refine xb 32 5 n1.blk ?_
 exact xe 4 (.int .i64 4) ⟨rfl,n1.below⟩
theorem Zf2(w:World) :
 Calls Tryz.prog 224 #[.int .i64 5,.bool true] w (Ret (.int .i64 18) w):=by
 refine zin 16 Tryz.func224 ?_
 refine xr 10 (args:=#[.int .i64 5,.bool true]) (Lv _) fun W1 hb1=>?_
 exact xe 18 (.int .i64 18) ⟨rfl,hb1⟩
theorem Nf(t:Int)(w:World)(h1:1≤t)(h2:t≤5) :
 Calls Tryz.prog 223 #[.int .i64 t,.bool false] w (Ret (.int .i64 4) w):=by
 refine zin 19 Tryz.func223 ?_
 refine xbs 7 6 [.int .i64 0,.int .i64 4,.int .i64 8,.int .i64 24,.int .i64 16,.int .i64 4] 3 fun b1 W1 n1=>?_
 refine xgk 9 [8,9] (show(decide (t<(1:Int)):Bool)=false from decide_eq_false (by omega)) ?_
 refine xk 5 (show(decide (t>(5:Int)):Bool)=false from decide_eq_false (by omega)) ?_
 exact xe 17 (.int .i64 4) ⟨rfl,n1.below⟩
theorem Za2(t:Int)(w:World)(h1:1≤t)(h2:t≤5) :
 Calls Tryz.prog 224 #[.int .i64 t,.bool false] w (Ret (.int .i64 18) w):=by
 refine zin 16 Tryz.func224 ?_
 refine xr 10 (args:=#[.int .i64 t,.bool false]) (Nf t _ h1 h2) fun W1 hb1=>?_
 exact xe 18 (.int .i64 18) ⟨rfl,hb1⟩
theorem Pd(t:Int)(leaf:Bool)(w:World)(h:¬ (1≤t∧t≤5)) :
 Calls Tryz.prog 223 #[.int .i64 t,.bool leaf] w (Ret (.int .i64 0) w):=by
 refine zin 19 Tryz.func223 ?_
 refine xbs 7 6 [.int .i64 0,.int .i64 4,.int .i64 8,.int .i64 24,.int .i64 16,.int .i64 4] 3 fun b1 W1 n1=>?_
 refine xg 9 [8,9] (decide (t<(1:Int))) (fun hc2=>?_) (fun hc2=>?_)
 ·have hc2:=of_decide_eq_true hc2
  exact xe 13 (.int .i64 0) ⟨rfl,n1.below⟩
 have hc2:=of_decide_eq_false hc2
 refine xk 5 (show(decide (t>(5:Int)):Bool)=true from decide_eq_true (by omega)) ?_
 exact xe 7 (.int .i64 0) ⟨rfl,n1.below⟩
theorem Zae(t:Int)(leaf:Bool)(w:World)(h:¬ (1≤t∧t≤5)) :
 Calls Tryz.prog 224 #[.int .i64 t,.bool leaf] w (Ret (.int .i64 0) w):=by
 refine zin 16 Tryz.func224 ?_
 refine xr 10 (args:=#[.int .i64 t,.bool leaf]) (Pd t leaf _ h) fun W1 hb1=>?_
 exact xe 40 (.int .i64 0) ⟨rfl,hb1⟩
theorem Zba(t:Int)(leaf:Bool)(v:Nat)(hv:Br t leaf=v)(h1:1≤t)(h2:t≤5)(w:World):Calls Tryz.prog 223 #[.int .i64 t,.bool leaf] w (Ret (.int .i64 (v:Int)) w):=by
 subst hv
 cases leaf
 ·exact Nf t w h1 h2
 obtain rfl|rfl|rfl|rfl|rfl:t=1∨t=2∨t=3∨t=4∨t=5:=by omega
 ·exact Ls w
 ·exact Mv w
 ·exact Ly w
 ·exact Li w
 ·exact Lv w
theorem ref07_Max(t:Int)(leaf:Bool)(m:Nat)(hm:Qu t leaf=m)(h1:1≤t)(h2:t≤5)(w:World):Calls Tryz.prog 224 #[.int .i64 t,.bool leaf] w (Ret (.int .i64 (m:Int)) w):=by
 subst hm
 cases leaf
 ·exact Za2 t w h1 h2
 obtain rfl|rfl|rfl|rfl|rfl:t=1∨t=2∨t=3∨t=4∨t=5:=by omega
 ·exact Ze8 w
 ·exact Zec w
 ·exact Zet w
 ·exact Zgg w
 ·exact Zf2 w
theorem Lo(t:Int)(leaf:Bool)(w:World):Calls Tryz.prog 223 #[.int .i64 t,.bool leaf] w (Ret (.int .i64 (Ar t leaf:Int)) w):=by
 unfold Ar
 by_cases h:1≤t∧t≤5
 ·rw[if_pos h];exact Zba t leaf _ rfl h.1 h.2 w
 ·rw[if_neg h];exact Pd t leaf w h
theorem Mg(t:Int)(leaf:Bool)(w:World):Calls Tryz.prog 224 #[.int .i64 t,.bool leaf] w (Ret (.int .i64 (Zep t leaf:Int)) w):=by
 unfold Zep
 by_cases h:1≤t∧t≤5
 ·rw[if_pos h];exact ref07_Max t leaf _ rfl h.1 h.2 w
 ·rw[if_neg h];exact Zae t leaf w h
theorem Nt{l:List UInt8}(h:Qt l=true):Xf l≤Xe l∧12+Xe l*8+Xe l*Xd l≤244∧Xe l≤18∧Xd l≤24∧Xf l*Xd l≤Xe l*Xd l :=
 ⟨Hz h,fitG (Xm l) (Xr l),Zam (Xm l) (Xr l),Oj (Xm l) (Xr l),Nat.mul_le_mul_right _ (Hz h)⟩
theorem Zfv(a:Option Addr)(c:Nat)(l:List UInt8)(w:World)(hl:l.length=244)(h:Bys w (.slice a 244 c) l) :
 Calls Tryz.prog 222 #[.slice a 244 c] w (Ret (.bool (Qt l&&Nq l)) w):=by
 have hcap:=Bys.cap h hl
 have hr0:=raw1 l 0
 have hr2:=Cv l 2 2
 have hmg:=Zam (Xm l) (Xr l)
 have hwg:=Oj (Xm l) (Xr l)
 change Xe l≤18 at hmg
 change Xd l≤24 at hwg
 refine zin 101 Tryz.func222 ?_
 refine xx 13 _ 244 0 1 (BysM.elem h hl (k:=0) (by omega)).1 ?_
 refine xl 0 ((BysM.elem h hl (k:=0) (by omega)).2) ?_
 refine xid 4 ((↑(l.getD 0 0).toNat:Int)>(1:Int)) (fun hc1=>?_) (fun hc1=>?_)
 ·refine xe 7 (.bool false) ?_
  rw[show Qt l=false from decide_eq_false (by omega)];exact⟨rfl,(Below.refl w.heap.size _)⟩
 refine xbs 5 6 [.int .i64 1,.int .i64 1,.int .i64 2,.int .i64 2,.int .i64 2,.int .i64 4] 3 fun b2 W2 n2=>?_
 refine xc 0 (args:=#[.slice a 244 c,.slice (some ⟨b2,0,none⟩) 6 6]) (Oi a 244 c l (some ⟨b2,0,none⟩) 6 6 [1,1,2,2,2,4] (Xs l) _ hl rfl rfl (by decide) (by decide) (by decide) (by decide) (h.below n2.below) (n2.blk.sl 6 6 (by decide) (by decide)) (Zcb l)) ?_
 rintro _ W3 ⟨_,rfl,hb3,p5,c5,rfl,h5⟩
 have h5'1:=Zd h5 n2.below.size
 refine xx 10 _ 6 0 1 (Zi (l:=Xs l) (Ze h5'1) rfl (k:=0) (by decide)).1 ?_
 refine xl 0 ((Zi (l:=Xs l) (Ze h5'1) rfl (k:=0) (by decide)).2) ?_
 refine xx 7 _ 6 1 1 (Zi (l:=Xs l) (Ze h5'1) rfl (k:=1) (by decide)).1 ?_
 refine xl 0 ((Zi (l:=Xs l) (Ze h5'1) rfl (k:=1) (by decide)).2) ?_
 refine xr 1 (args:=#[.int .i64 (↑(Zf l 1 1):Int),.bool ((↑(Zf l 0 1):Int)==(1:Int))]) (Lo (Xm l) (Xr l) _) fun W4 hb4=>?_
 have h5'2:=Zb h5'1 hb4
 refine xx 6 _ 6 1 1 (Zi (l:=Xs l) (Ze h5'2) rfl (k:=1) (by decide)).1 ?_
 refine xl 0 ((Zi (l:=Xs l) (Ze h5'2) rfl (k:=1) (by decide)).2) ?_
 refine xr 1 (args:=#[.int .i64 (↑(Zf l 1 1):Int),.bool ((↑(Zf l 0 1):Int)==(1:Int))]) (Mg (Xm l) (Xr l) _) fun W5 hb5=>?_
 refine xg 9 [38,39] ((↑(Xd l):Int)==(0:Int)) (fun hc6=>?_) (fun hc6=>?_)
 ·have hc6:=eq_of_beq hc6
  have hB'1:=bln (bln (bln n2.below hb3) hb4) hb5
  refine xe 46 (.bool false) ?_
  rw[show Qt l=false from decide_eq_false (by omega)];exact⟨rfl,hB'1⟩
 have hc6:=Yd hc6
 have h5'3:=Zb h5'2 hb5
 refine xx 1 _ 6 3 1 (Zi (l:=Xs l) (Ze h5'3) rfl (k:=3) (by decide)).1 ?_
 refine xl 0 ((Zi (l:=Xs l) (Ze h5'3) rfl (k:=3) (by decide)).2) ?_
 refine xg 4 [44,45,46] ((↑(Zf l 4 2):Int) != (↑(Xd l):Int)) (fun hc7=>?_) (fun hc7=>?_)
 ·have hc7:=Vq hc7
  have hB'2:=bln (bln (bln n2.below hb3) hb4) hb5
  refine xe 39 (.bool false) ?_
  rw[show Qt l=false from decide_eq_false (by omega)];exact⟨rfl,hB'2⟩
 have hc7:=Xp hc7
 refine xx 1 _ 6 4 1 (Zi (l:=Xs l) (Ze h5'3) rfl (k:=4) (by decide)).1 ?_
 refine xl 0 ((Zi (l:=Xs l) (Ze h5'3) rfl (k:=4) (by decide)).2) ?_
 refine xg 4 [51,52,53] ((↑(Zf l 6 2):Int) != (↑(Xe l):Int)) (fun hc8=>?_) (fun hc8=>?_)
 ·have hc8:=Vq hc8
  have hB'3:=bln (bln (bln n2.below hb3) hb4) hb5
  refine xe 32 (.bool false) ?_
  rw[show Qt l=false from decide_eq_false (by omega)];exact⟨rfl,hB'3⟩
 have hc8:=Xp hc8
 refine xx 1 _ 6 5 1 (Zi (l:=Xs l) (Ze h5'3) rfl (k:=5) (by decide)).1 ?_
 refine xl 0 ((Zi (l:=Xs l) (Ze h5'3) rfl (k:=5) (by decide)).2) ?_
 refine xg 3 [57,58,59] ((↑(Zf l 8 4):Int) != (0:Int)) (fun hc9=>?_) (fun hc9=>?_)
 ·have hc9:=Vq hc9
  have hB'4:=bln (bln (bln n2.below hb3) hb4) hb5
  refine xe 26 (.bool false) ?_
  rw[show Qt l=false from decide_eq_false (by omega)];exact⟨rfl,hB'4⟩
 have hc9:=Xp hc9
 refine xx 1 _ 6 2 1 (Zi (l:=Xs l) (Ze h5'3) rfl (k:=2) (by decide)).1 ?_
 refine xl 0 ((Zi (l:=Xs l) (Ze h5'3) rfl (k:=2) (by decide)).2) ?_
 refine xg 4 [64,65,66] (decide ((↑(Zf l 2 2):Int)>(↑(Xe l):Int))) (fun hc10=>?_) (fun hc10=>?_)
 ·have hc10:=of_decide_eq_true hc10
  have hB'5:=bln (bln (bln n2.below hb3) hb4) hb5
  refine xe 19 (.bool false) ?_
  rw[show Qt l=false from decide_eq_false (by omega)];exact⟨rfl,hB'5⟩
 have hc10:=of_decide_eq_false hc10
 refine xg 3 [68,69] (!((↑(Zf l 0 1):Int)==(1:Int))) (fun hc11=>?_) (fun hc11=>?_)
 ·have hlf:Zf l 0 1≠1:=by have q:¬ ((Zf l 0 1:Int)=1):=(by simpa using hc11);omega
  refine xx 1 _ 6 2 1 (Zi (l:=Xs l) (Ze h5'3) rfl (k:=2) (by decide)).1 ?_
  refine xl 0 ((Zi (l:=Xs l) (Ze h5'3) rfl (k:=2) (by decide)).2) ?_
  refine xie 5 (↑(Zf l 2 2):Int) (0:Int) (fun hc12=>?_) (fun hc12=>?_)
  ·have hB'6:=bln (bln (bln n2.below hb3) hb4) hb5
   refine xe 7 (.bool false) ?_
   rw[show Qt l=false from decide_eq_false (by omega)];exact⟨rfl,hB'6⟩
  refine xx 6 _ 6 2 1 (Zi (l:=Xs l) (Ze h5'3) rfl (k:=2) (by decide)).1 ?_
  refine xl 0 ((Zi (l:=Xs l) (Ze h5'3) rfl (k:=2) (by decide)).2) ?_
  refine xwm 0 (8*(↑(Zf l 2 2):Int)) (↑(8*(Zf l 2 2)):Int) ?_
  refine xwm 0 (12+(↑(8*(Zf l 2 2)):Int)) (↑(12+(8*(Zf l 2 2))):Int) ?_
  refine xwm 1 (8*(↑(Xe l):Int)) (↑(8*(Xe l)):Int) ?_
  refine xwm 0 (12+(↑(8*(Xe l)):Int)) (↑(12+(8*(Xe l))):Int) ?_
  refine xsB 0 (fun _ _ _ _ _ zo zx zy zz V=>Yj (k:=(12+(8*(Zf l 2 2)))) (h:=(12+(8*(Xe l)))) (b:=a) (n:=244) (c:=c) (i:=(↑(12+(8*(Zf l 2 2))):Int)) (ki:=.i64) (j:=(↑(12+(8*(Xe l))):Int)) (kj:=.i64) 1 zo zx zy rfl zz rfl (by omega) (by omega) Tryz.underlying22 (by kernel_rfl) V) ?_
  have hr0:=raw1 l 0
  have hs:Qt l=true:=decide_eq_true ⟨by omega,by omega,by omega,by omega,by omega,by omega,by omega⟩
  obtain⟨hcm,hfit,hmle,hwle,hcw⟩:=Nt hs
  unfold Xf at hcm hcw
  have hwc:=Nat.mul_comm (Zf l 2 2) (Xd l)
  have hz1:Nq l=(Yy ((l.drop (12+8*Zf l 2 2)).take ((12+8*Xe l)-(12+8*Zf l 2 2)))&&Yy ((l.drop (12+8*Xe l+Xd l*Zf l 2 2)).take (244-(12+8*Xe l+Xd l*Zf l 2 2)))):=by unfold Nq De Ij Ed Xf;rw[show 12+Zf l 2 2*8=12+8*Zf l 2 2 by omega,show 12+Xe l*8=12+8*Xe l by omega,Nat.mul_comm (Zf l 2 2) (Xd l)]
  have hB'7:=bln (bln (bln n2.below hb3) hb4) hb5
  refine xr 0 (args:=#[.slice (Qy a (12+(8*(Zf l 2 2))) c 1) ((12+(8*(Xe l)))-(12+(8*(Zf l 2 2)))) (c-(12+(8*(Zf l 2 2))))]) (Gx (Qy a (12+(8*(Zf l 2 2))) c 1) ((12+(8*(Xe l)))-(12+(8*(Zf l 2 2)))) (c-(12+(8*(Zf l 2 2)))) _ _ (by simp;omega) (by omega) ((Bys.cut h hl (12+8*Zf l 2 2) (12+8*Xe l) (by omega) (by omega)).below hB'7)) fun W13 hb13=>?_
  refine xg 1 [86,87] (Yy ((l.drop (12+8*Zf l 2 2)).take ((12+8*Xe l)-(12+8*Zf l 2 2)))) (fun hc14=>?_) (fun hc14=>?_)
  ·refine xwm 2 (8*(↑(Xe l):Int)) (↑(8*(Xe l)):Int) ?_
   refine xwm 0 (12+(↑(8*(Xe l)):Int)) (↑(12+(8*(Xe l))):Int) ?_
   have h5'4:=Zb h5'3 hb13
   refine xx 2 _ 6 2 1 (Zi (l:=Xs l) (Ze h5'4) rfl (k:=2) (by decide)).1 ?_
   refine xl 0 ((Zi (l:=Xs l) (Ze h5'4) rfl (k:=2) (by decide)).2) ?_
   refine xwm 0 ((↑(Xd l):Int)*(↑(Zf l 2 2):Int)) (↑((Xd l)*(Zf l 2 2)):Int) ?_
   refine xwm 0 ((↑(12+(8*(Xe l))):Int)+(↑((Xd l)*(Zf l 2 2)):Int)) (↑((12+(8*(Xe l)))+((Xd l)*(Zf l 2 2))):Int) ?_
   refine xsL 0 (fun _ _ _ _ zo zx zy V=>Xv (k:=((12+(8*(Xe l)))+((Xd l)*(Zf l 2 2)))) (b:=a) (n:=244) (c:=c) (i:=(↑((12+(8*(Xe l)))+((Xd l)*(Zf l 2 2))):Int)) (ki:=.i64) 1 zo zx zy rfl (by omega) Tryz.underlying22 (by kernel_rfl) V) ?_
   have hB'8:=bln hB'7 hb13
   refine xr 0 (args:=#[.slice (Qy a ((12+(8*(Xe l)))+((Xd l)*(Zf l 2 2))) c 1) (244-((12+(8*(Xe l)))+((Xd l)*(Zf l 2 2)))) (c-((12+(8*(Xe l)))+((Xd l)*(Zf l 2 2))))]) (Gx (Qy a ((12+(8*(Xe l)))+((Xd l)*(Zf l 2 2))) c 1) (244-((12+(8*(Xe l)))+((Xd l)*(Zf l 2 2)))) (c-((12+(8*(Xe l)))+((Xd l)*(Zf l 2 2)))) _ _ (by simp;omega) (by omega) ((Bys.cut h hl (12+8*Xe l+Xd l*Zf l 2 2) 244 (by omega) (by omega)).below hB'8)) fun W15 hb15=>?_
   have hB'9:=bln hB'8 hb15
   refine xe 5 (.bool (Yy ((l.drop (12+8*Xe l+Xd l*Zf l 2 2)).take (244-(12+8*Xe l+Xd l*Zf l 2 2))))) ?_
   rw[hs,hz1,hc14];exact⟨rfl,hB'9⟩
  have hB'10:=bln hB'7 hb13
  refine xe 17 (.bool false) ?_
  rw[hs,hz1,hc14];exact⟨rfl,hB'10⟩
 have hlf:Zf l 0 1=1:=by have q:((Zf l 0 1:Int)=1):=(by simpa using hc11);omega
 refine xx 15 _ 6 2 1 (Zi (l:=Xs l) (Ze h5'3) rfl (k:=2) (by decide)).1 ?_
 refine xl 0 ((Zi (l:=Xs l) (Ze h5'3) rfl (k:=2) (by decide)).2) ?_
 refine xwm 0 (8*(↑(Zf l 2 2):Int)) (↑(8*(Zf l 2 2)):Int) ?_
 refine xwm 0 (12+(↑(8*(Zf l 2 2)):Int)) (↑(12+(8*(Zf l 2 2))):Int) ?_
 refine xwm 1 (8*(↑(Xe l):Int)) (↑(8*(Xe l)):Int) ?_
 refine xwm 0 (12+(↑(8*(Xe l)):Int)) (↑(12+(8*(Xe l))):Int) ?_
 refine xsB 0 (fun _ _ _ _ _ zo zx zy zz V=>Yj (k:=(12+(8*(Zf l 2 2)))) (h:=(12+(8*(Xe l)))) (b:=a) (n:=244) (c:=c) (i:=(↑(12+(8*(Zf l 2 2))):Int)) (ki:=.i64) (j:=(↑(12+(8*(Xe l))):Int)) (kj:=.i64) 1 zo zx zy rfl zz rfl (by omega) (by omega) Tryz.underlying22 (by kernel_rfl) V) ?_
 have hr0:=raw1 l 0
 have hs:Qt l=true:=decide_eq_true ⟨by omega,by omega,by omega,by omega,by omega,by omega,by omega⟩
 obtain⟨hcm,hfit,hmle,hwle,hcw⟩:=Nt hs
 unfold Xf at hcm hcw
 have hwc:=Nat.mul_comm (Zf l 2 2) (Xd l)
 have hz1:Nq l=(Yy ((l.drop (12+8*Zf l 2 2)).take ((12+8*Xe l)-(12+8*Zf l 2 2)))&&Yy ((l.drop (12+8*Xe l+Xd l*Zf l 2 2)).take (244-(12+8*Xe l+Xd l*Zf l 2 2)))):=by unfold Nq De Ij Ed Xf;rw[show 12+Zf l 2 2*8=12+8*Zf l 2 2 by omega,show 12+Xe l*8=12+8*Xe l by omega,Nat.mul_comm (Zf l 2 2) (Xd l)]
 have hB'11:=bln (bln (bln n2.below hb3) hb4) hb5
 refine xr 0 (args:=#[.slice (Qy a (12+(8*(Zf l 2 2))) c 1) ((12+(8*(Xe l)))-(12+(8*(Zf l 2 2)))) (c-(12+(8*(Zf l 2 2))))]) (Gx (Qy a (12+(8*(Zf l 2 2))) c 1) ((12+(8*(Xe l)))-(12+(8*(Zf l 2 2)))) (c-(12+(8*(Zf l 2 2)))) _ _ (by simp;omega) (by omega) ((Bys.cut h hl (12+8*Zf l 2 2) (12+8*Xe l) (by omega) (by omega)).below hB'11)) fun W16 hb16=>?_
 refine xg 1 [86,87] (Yy ((l.drop (12+8*Zf l 2 2)).take ((12+8*Xe l)-(12+8*Zf l 2 2)))) (fun hc17=>?_) (fun hc17=>?_)
 ·refine xwm 2 (8*(↑(Xe l):Int)) (↑(8*(Xe l)):Int) ?_
  refine xwm 0 (12+(↑(8*(Xe l)):Int)) (↑(12+(8*(Xe l))):Int) ?_
  have h5'5:=Zb h5'3 hb16
  refine xx 2 _ 6 2 1 (Zi (l:=Xs l) (Ze h5'5) rfl (k:=2) (by decide)).1 ?_
  refine xl 0 ((Zi (l:=Xs l) (Ze h5'5) rfl (k:=2) (by decide)).2) ?_
  refine xwm 0 ((↑(Xd l):Int)*(↑(Zf l 2 2):Int)) (↑((Xd l)*(Zf l 2 2)):Int) ?_
  refine xwm 0 ((↑(12+(8*(Xe l))):Int)+(↑((Xd l)*(Zf l 2 2)):Int)) (↑((12+(8*(Xe l)))+((Xd l)*(Zf l 2 2))):Int) ?_
  refine xsL 0 (fun _ _ _ _ zo zx zy V=>Xv (k:=((12+(8*(Xe l)))+((Xd l)*(Zf l 2 2)))) (b:=a) (n:=244) (c:=c) (i:=(↑((12+(8*(Xe l)))+((Xd l)*(Zf l 2 2))):Int)) (ki:=.i64) 1 zo zx zy rfl (by omega) Tryz.underlying22 (by kernel_rfl) V) ?_
  have hB'12:=bln hB'11 hb16
  refine xr 0 (args:=#[.slice (Qy a ((12+(8*(Xe l)))+((Xd l)*(Zf l 2 2))) c 1) (244-((12+(8*(Xe l)))+((Xd l)*(Zf l 2 2)))) (c-((12+(8*(Xe l)))+((Xd l)*(Zf l 2 2))))]) (Gx (Qy a ((12+(8*(Xe l)))+((Xd l)*(Zf l 2 2))) c 1) (244-((12+(8*(Xe l)))+((Xd l)*(Zf l 2 2)))) (c-((12+(8*(Xe l)))+((Xd l)*(Zf l 2 2)))) _ _ (by simp;omega) (by omega) ((Bys.cut h hl (12+8*Xe l+Xd l*Zf l 2 2) 244 (by omega) (by omega)).below hB'12)) fun W18 hb18=>?_
  have hB'13:=bln hB'12 hb18
  refine xe 5 (.bool (Yy ((l.drop (12+8*Xe l+Xd l*Zf l 2 2)).take (244-(12+8*Xe l+Xd l*Zf l 2 2))))) ?_
  rw[hs,hz1,hc17];exact⟨rfl,hB'13⟩
 have hB'14:=bln hB'11 hb16
 refine xe 17 (.bool false) ?_
 rw[hs,hz1,hc17];exact⟨rfl,hB'14⟩
def RGetP(l:List UInt8)(k w:Nat)(W:World)(e:Ending)(w':World):Prop :=
 (Zf l k w<9223372036854775808∧e=.returned (.tuple #[.int .i64 (Zf l k w:Int),.int .i64 0])∧Below W.heap.size W w')∨(¬ Zf l k w<9223372036854775808∧e=.returned (.tuple #[.int .i64 0,.int .i64 2])∧Below W.heap.size W w')
theorem ref_GetP(a:Option Addr)(n c k w:Nat)(l:List UInt8)(W:World)(hn:l.length=n)(hw:w=1∨w=2∨w=4∨w=8)(hk:k+w≤n)(hl:n≤100000000)(h:Bys W (.slice a n c) l)(ki wi:Int)(hki:ki=(k:Int))(hwi:wi=(w:Int)) :
 Calls Tryz.prog 118 #[.slice a n c,.int .i64 ki,.int .i64 wi] W (RGetP l k w W):=by
 subst hn hwi hki
 by_cases hq:Zf l k w<9223372036854775808
 ·refine(Mk a c k w l W hw hk hl h hq).mono ?_
  rintro e V ⟨rfl,hb⟩;exact .inl ⟨hq,rfl,hb⟩
 ·refine(Ce a c k w l W hw hk hl h hq).mono ?_
  rintro e V ⟨rfl,hb⟩;exact .inr ⟨hq,rfl,hb⟩
theorem Zcm{l:List UInt8}{i:Nat}(h:281474976710655<Zf l (12+i*8) 8):Ps l i=2:=by unfold Ps Bt;rw[if_pos h]
theorem keyE_low{l:List UInt8}{i:Nat}(h:¬ 281474976710655<Zf l (12+i*8) 8)(h0:0<i)(h1:(Zf l (12+i*8) 8:Int)≤(Kf l i).getD (i-1) 0):Ps l i=8:=by
 rw[Pi l (by omega)] at h1
 change ¬ 281474976710655<Bt l i at h
 change (Bt l i:Int)≤_ at h1
 unfold Ps
 rw[if_neg h,if_pos ⟨h0,by omega⟩]
theorem keyE_ok{l:List UInt8}{i:Nat}(h:¬ 281474976710655<Zf l (12+i*8) 8)(h0:¬ 0<i):Ps l i=0:=by
 change ¬ 281474976710655<Bt l i at h
 unfold Ps;rw[if_neg h,if_neg fun q=>h0 q.1]
theorem Zcf{l:List UInt8}{i:Nat}(h:¬ 281474976710655<Zf l (12+i*8) 8)(h0:0<i)(h1:¬ (Zf l (12+i*8) 8:Int)≤(Kf l i).getD (i-1) 0):Ps l i=0:=by
 rw[Pi l (by omega)] at h1
 change ¬ 281474976710655<Bt l i at h
 change ¬ (Bt l i:Int)≤_ at h1
 unfold Ps
 rw[if_neg h,if_neg fun q=>h1 (by have:=q.2;omega)]
theorem Zci{a:Option Addr}{c i:Nat}{l:List UInt8}{w:World}(h:Bys w (.slice a 244 c) l)(hl:l.length=244)(hb:12+8*Xe l+Xd l*i+Xd l≤244) :
 Bys w (.slice (Qy a (12+8*Xe l+Xd l*i) c 1) (12+8*Xe l+Xd l*i+Xd l-(12+8*Xe l+Xd l*i)) (c-(12+8*Xe l+Xd l*i))) (Bd l i):=by
 have:=Bys.cut h hl (12+8*Xe l+Xd l*i) (12+8*Xe l+Xd l*i+Xd l) (by omega) hb
 unfold Bd
 rw[show 12+Xe l*8+i*Xd l=12+8*Xe l+Xd l*i by rw[Nat.mul_comm i];omega]
 rw[show(l.drop (12+8*Xe l+Xd l*i)).take (Xd l)=(l.drop (12+8*Xe l+Xd l*i)).take (12+8*Xe l+Xd l*i+Xd l-(12+8*Xe l+Xd l*i)) by rw[Nat.add_sub_cancel_left]]
 exact this
theorem Dn{i:Nat}{l:List UInt8}(hl:l.length=244)(hb:12+8*Xe l+Xd l*i+Xd l≤244):(Bd l i).length=12+8*Xe l+Xd l*i+Xd l-(12+8*Xe l+Xd l*i):=by
 unfold Bd;simp only[List.length_take,List.length_drop];rw[Nat.mul_comm i];omega
theorem rawC{l:List UInt8}(h:Xf l≤18):(l.getD 2 0).toNat=Xf l:=by
 have e:Zf l 2 2=(l.getD 2 0).toNat+256*(l.getD 3 0).toNat:=raw2 l 2
 unfold Xf at h ⊢
 omega
def RNodeP(l:List UInt8)(w:World)(e:Ending)(w':World):Prop :=
 (Yn l≠0∧e=.returned (.tuple #[.agg #[.int .i64 0,.bool false,.slice none 0 0,.slice none 0 0],.int .i64 (Yn l)])∧Below w.heap.size w w') ∨
 (Yn l=0∧∃ kp kc vp vc,e=.returned (.tuple #[.agg #[.int .i64 (Xm l),.bool (Xr l),.slice kp (Xf l) kc,.slice vp (Xf l) vc],.int .i64 0])∧Below w.heap.size w w' ∧
  w'.ownsRow w.heap.size 3 1 (.slice kp (Xf l) kc) (Xf l) ((Kf l (Xf l)).map (Value.int .i64))∧w'.ownsRow w.heap.size 9 1 (.slice vp (Xf l) vc) (Xf l) ((Kg l (Xf l)).map sv))
theorem Zem(a:Option Addr)(c:Nat)(l:List UInt8)(w:World)(hl:l.length=244)(h:Bys w (.slice a 244 c) l) :
 Calls Tryz.prog 191 #[.slice a 244 c] w (RNodeP l w):=by
 have hcap:=Bys.cap h hl
 refine zin 94 Tryz.func191 ?_
 refine xa 2 [.int .i64 0,.bool false,.slice none 0 0,.slice none 0 0] 220 fun b1 W1 n1=>?_
 refine xr 7 (args:=#[.slice a 244 c]) (Zfv a c l _ hl (h.below n1.below)) fun W2 hb2=>?_
 refine xi 3 (!(Qt l&&Nq l)) (fun hc3=>?_) (fun hc3=>?_)
 ·have he:Yn l=7:=by unfold Yn;by_cases q:Qt l=true<;>simp_all
  have k1:=n1.blk.below hb2
  refine xsv 3 k1 [.int .i64 0,.bool false,.slice none 0 0,.slice none 0 0] fun W4 u4 k4=>?_
  have g1:=n1.ge (Below.refl w.heap.size _)
  have hB'1:=u4.below (bln n1.below hb2) g1
  exact xec 5 k4 (.tuple #[.agg #[.int .i64 0,.bool false,.slice none 0 0,.slice none 0 0],.int .i64 7]) (.inl ⟨by rw[he];decide,by rw[he],hB'1⟩)
 have hsz:Qt l=true∧Nq l=true:=by simpa using hc3
 have hs:=hsz.1
 have hnz:=hsz.2
 obtain⟨hcm,hfit,hmle,hwle,hcw⟩:=Nt hs
 refine xd 3 (.t w.heap.size [220]) ?_
 refine xx (.e [0] 1) _ 244 1 1 (BysM.elem h hl (k:=1) (by omega)).1 ?_
 have hB'2:=bln (bln n1.below hb2) (Za W2)
 refine xlt (.e [] 2) (.t w.heap.size [220]) (fun V hV=>(BysM.elem (h.below (Ke hB'2 hV (Nat.le_refl _))) hl (k:=1) (by omega)).2) ?_
 refine xq (.e [] 3) (congrArg (Value.int .i64) (show(IntKind.i64.wrap (↑(l.getD 1 0).toNat:Int):Int)=(Xm l) from by unfold Xm;rw[raw1];exact Vk (by have:=(l.getD 1 0).toNat_lt;omega))) ?_
 refine xx (.e [4] 5) _ 244 0 1 (BysM.elem h hl (k:=0) (by omega)).1 ?_
 refine xlt (.e [] 6) (.t w.heap.size [220]) (fun V hV=>(BysM.elem (h.below (Ke hB'2 hV (Nat.le_refl _))) hl (k:=0) (by omega)).2) ?_
 refine xa (.o [7,8] 9) [.int .i64 0,.bool false,.slice none 0 0,.slice none 0 0] 220 fun b5 W5 n5=>?_
 have k1:=(n1.blk.below hb2).below (Za W2)
 have d5_b1:=n5.ne k1
 have g5:=n5.ge hB'2
 refine ysv (.o [] 10) n5.blk [.int .i64 (Xm l),.bool ((↑(l.getD 0 0).toNat:Int)==(1:Int)),.slice none 0 0,.slice none 0 0] (.t w.heap.size [220]) fun W6 u6 k6=>⟨(Zx u6 n5.blk g5 (by decide)),?_⟩
 refine xb 5 0 k6 ?_
 refine xb 1 1 k6 ?_
 refine xr 0 (args:=#[.int .i64 (Xm l),.bool ((↑(l.getD 0 0).toNat:Int)==(1:Int))]) (Lo (Xm l) (Xr l) _) fun W7 hb7=>?_
 have hB'3:=bln (u6.below (bln hB'2 n5.below) g5) hb7
 have k1'1:=(u6.blk (k1.below n5.below) (Ne.symm (Ne.symm d5_b1))).below hb7
 have k6'1:=k6.below hb7
 refine zl 10 94 (fun zm zkv V=>∃ (i:Nat) (kp:Option Addr) (kc:Nat) (vp:Option Addr) (vc:Nat),zkv=[(0,.slice a 244 c),(2,.pointer (some ⟨b1,0,none⟩)),(4,.pointer (some ⟨b5,0,none⟩)),(5,.int .i64 (↑(Xd l):Int)),(6,.int .i64 (↑i:Int))]∧zm=Xf l-((↑i:Int)).toNat∧Below w.heap.size w V∧Blk V b1 ([.int .i64 0,.bool false,.slice none 0 0,.slice none 0 0]) 220∧Blk V b5 ([.int .i64 (Xm l),.bool ((↑(l.getD 0 0).toNat:Int)==(1:Int)),.slice kp i kc,.slice vp i vc]) 220∧V.ownsRow w.heap.size 3 1 (.slice kp i kc) i ((Kf l i).map (Value.int .i64))∧V.ownsRow w.heap.size 9 1 (.slice vp i vc) i ((Kg l i).map sv)∧i≤Xf l∧Qi l i=0) ⟨0,none,0,none,0,rfl,rfl,hB'3,k1'1,k6'1,World.ownsRow_nil _ _ _ _,World.ownsRow_nil _ _ _ _,Nat.zero_le _,rfl⟩ ?_
 rintro _ _ W8 ⟨i,kp,kc,vp,vc,rfl,rfl,hB_8,k8_b1,k8_b5,hK,hV,hi,hz⟩ J8 hJ8 r8
 have hiw:(i+1)*Xd l=i*Xd l+Xd l:=Nat.succ_mul i (Xd l)
 have hiw2:i<Xf l→(i+1)*Xd l≤Xe l*Xd l:=fun hh=>Nat.mul_le_mul_right _ (by omega)
 have hiw3:=Nat.mul_comm i (Xd l)
 refine xx 5 _ 244 2 1 (BysM.elem h hl (k:=2) (by omega)).1 ?_
 refine xl 0 ((BysM.elem (h.below hB_8) hl (k:=2) (by omega)).2) ?_
 refine xq 0 (congrArg (Value.int .i64) (show(IntKind.i64.wrap (↑(l.getD 2 0).toNat:Int):Int)=(↑(Xf l):Int) from by rw[rawC (by omega)];exact Vk (by omega))) ?_
 refine xid 3 ((↑i:Int)<(↑(Xf l):Int)) (fun hc9=>?_) (fun hc9=>?_)
 ·refine xwm 8 (8*(↑i:Int)) (↑(8*i):Int) ?_
  refine xwm 0 (12+(↑(8*i):Int)) (↑(12+(8*i)):Int) ?_
  refine xc 0 (args:=#[.slice a 244 c,.int .i64 (↑(12+(8*i)):Int),.int .i64 8]) (ref_GetP a 244 c (12+i*8) 8 l _ hl (by decide) (by omega) (by decide) (h.below hB_8) _ 8 (by omega) rfl) ?_
  rintro e W10 hq10
  rcases hq10 with ⟨hgk,rfl,hb10⟩|⟨hgk,rfl,hb10⟩
  ·refine xid 18 ((↑(Zf l (12+i*8) 8):Int)>(281474976710655:Int)) (fun hc11=>?_) (fun hc11=>?_)
   ·have k8_b1'1:=k8_b1.below hb10
    refine xsv 3 k8_b1'1 [.int .i64 0,.bool false,.slice none 0 0,.slice none 0 0] fun W12 u12 k12=>?_
    have g1:=n1.ge (Below.refl w.heap.size _)
    have hB'4:=u12.below (bln hB_8 hb10) g1
    refine xec 10 k12 (.tuple #[.agg #[.int .i64 0,.bool false,.slice none 0 0,.slice none 0 0],.int .i64 2]) ?_
    have hke:Ps l i=2:=Zcm (by omega)
    have he:Yn l=2:=by unfold Yn;rw[if_pos hs,if_pos hnz,Ha hz (by rw[hke];decide) (by omega),hke]
    exact .inl ⟨by rw[he];decide,by rw[he],hB'4⟩
   refine xg 8 [52,53] (decide ((↑i:Int)>(0:Int))) (fun hc13=>?_) (fun hc13=>?_)
   ·have hc13:=of_decide_eq_true hc13
    have k8_b5'1:=k8_b5.below hb10
    refine xb 2 2 k8_b5'1 ?_
    refine xwm 1 ((↑i:Int)-1) (↑(i-1):Int) ?_
    have hK'1:=Zb hK hb10
    refine xx 0 _ i (i-1) 1 (IntsN.elem (Ze hK'1) (Uf l i) (k:=(i-1)) (by omega)).1 ?_
    refine xl 0 ((IntsN.elem (Ze hK'1) (Uf l i) (k:=(i-1)) (by omega)).2) ?_
    refine xid 4 ((↑(Zf l (12+i*8) 8):Int)≤((Kf l i).getD (i-1) 0)) (fun hc14=>?_) (fun hc14=>?_)
    ·have k8_b1'2:=k8_b1.below hb10
     refine xsv 3 k8_b1'2 [.int .i64 0,.bool false,.slice none 0 0,.slice none 0 0] fun W15 u15 k15=>?_
     have g1:=n1.ge (Below.refl w.heap.size _)
     have hB'5:=u15.below (bln hB_8 hb10) g1
     refine xec 10 k15 (.tuple #[.agg #[.int .i64 0,.bool false,.slice none 0 0,.slice none 0 0],.int .i64 8]) ?_
     have hke:Ps l i=8:=keyE_low (by omega) (by omega) (by omega)
     have he:Yn l=8:=by unfold Yn;rw[if_pos hs,if_pos hnz,Ha hz (by rw[hke];decide) (by omega),hke]
     exact .inl ⟨by rw[he];decide,by rw[he],hB'5⟩
    refine xb 5 0 k8_b5'1 ?_
    refine xb 1 1 k8_b5'1 ?_
    refine xr 0 (args:=#[.int .i64 (Xm l),.bool ((↑(l.getD 0 0).toNat:Int)==(1:Int))]) (Mg (Xm l) (Xr l) _) fun W16 hb16=>?_
    refine xwm 0 (8*(↑(Xe l):Int)) (↑(8*(Xe l)):Int) ?_
    refine xwm 0 (12+(↑(8*(Xe l)):Int)) (↑(12+(8*(Xe l))):Int) ?_
    refine xwm 2 ((↑(Xd l):Int)*(↑i:Int)) (↑((Xd l)*i):Int) ?_
    refine xwm 0 ((↑(12+(8*(Xe l))):Int)+(↑((Xd l)*i):Int)) (↑((12+(8*(Xe l)))+((Xd l)*i)):Int) ?_
    have k8_b5'2:=k8_b5'1.below hb16
    refine xb 6 2 k8_b5'2 ?_
    refine xbs 1 1 [.int .i64 (↑(Zf l (12+i*8) 8):Int)] 3 fun b17 W17 n17=>?_
    have hB'6:=bln (bln hB_8 hb10) hb16
    have g17:=n17.ge hB'6
    have hK'2:=Zb hK'1 hb16
    have r17_hK:=Zr hK'2 n17
    have hK'3:=Zb hK'2 n17.below
    have hB'7:=bln hB'6 n17.below
    refine xbi 0 fun _ _ _ _ zJ zQ zo zx zy zK=>Zo (m:=1) (news:=[.int .i64 (↑(Zf l (12+i*8) 8):Int)]) (.int .i64 0) 1 8 (i+1) ((Kf l (i+1)).map (Value.int .i64)) zo Tryz.underlying31 (by kernel_rfl) rfl (by decide) zx hK'3 zy (n17.blk.sl 1 1 (by decide) (by decide)) rfl (by simp[Value.oneCell']) (by unfold maxLen;omega) (by omega) hB'7.size (by rfl) (by rw[Nz,List.map_append];rfl) fun px18 cx18 W18 o18 hg18 hb18=>?_
    refine zK _ _ ?_
    have k8_b5'3:=(k8_b5'2.below n17.below).grown hg18 hK'3 (by decide)
    refine xs 1 k8_b5'3 [.int .i64 (Xm l),.bool ((↑(l.getD 0 0).toNat:Int)==(1:Int)),.slice px18 (i+1) cx18,.slice vp i vc] fun W19 u19 k19=>?_
    refine xd 2 (.t w.heap.size [9,220]) ?_
    refine xwm (.e [0,2,3,4,5] 6) ((↑((12+(8*(Xe l)))+((Xd l)*i)):Int)+(↑(Xd l):Int)) (↑(((12+(8*(Xe l)))+((Xd l)*i))+(Xd l)):Int) ?_
    refine xsB (.e [] 7) (fun _ _ _ _ _ zo zx zy zz V=>Yj (k:=((12+(8*(Xe l)))+((Xd l)*i))) (h:=(((12+(8*(Xe l)))+((Xd l)*i))+(Xd l))) (b:=a) (n:=244) (c:=c) (i:=(↑((12+(8*(Xe l)))+((Xd l)*i)):Int)) (ki:=.i64) (j:=(↑(((12+(8*(Xe l)))+((Xd l)*i))+(Xd l)):Int)) (kj:=.i64) 1 zo zx zy rfl zz rfl (by omega) (by omega) Tryz.underlying22 (by kernel_rfl) V) ?_
    have hV'1:=Zb (u19.own2 (Xc (Zb (Zb (Zb hV hb10) hb16) n17.below) hg18 hK'3 (by decide)) k8_b5'3 (by decide)) (Za W19)
    have hB'8:=bln (u19.below (hB'7.trans hb18) g5) (Za W19)
    refine xcvt (.e [] 8) (.t w.heap.size [9,220]) (fun _ _ _ zo zx V hV'1=>Yp zo zx ((Zci (i:=i) h hl (by omega)).below (Ke hB'8 hV'1 (Nat.le_refl _))) (Dn (i:=i) hl (by omega)) Tryz.underlying22 Tryz.underlying5 Tryz.underlying9) ?_
    refine xm2 0 1 9 ?_ ?_
    ·have k19'1:=k19.below (Za W19)
     refine xb 0 3 k19'1 ?_
     refine xbs (.o [] 9) 1 [.string ⟨(Bd l i).toArray⟩] 9 fun b20 W20 n20=>?_
     have g20:=n20.ge hB'8
     have r20_hV:=Zr hV'1 n20
     have hV'2:=Zb hV'1 n20.below
     have hB'9:=bln hB'8 n20.below
     refine ybi (.o [] 10) (.t w.heap.size [9,220]) fun _ _ _ _ zJ zQ zo zx zy zK=>Zo (m:=1) (news:=[.string ⟨(Bd l i).toArray⟩]) (.string ⟨#[]⟩) 1 16 (i+1) ((Kg l (i+1)).map sv) zo Tryz.underlying119 (by kernel_rfl) rfl (by decide) zx hV'2 zy (n20.blk.sl 1 1 (by decide) (by decide)) rfl (by simp[Value.oneCell']) (by unfold maxLen;omega) (by omega) hB'9.size (by rfl) (by rw[Kn,List.map_append];rfl) fun px21 cx21 W21 o21 hg21 hb21=>?_
     refine zK _ _ (Xb hb21 hg21 hV'2 (by decide)) ?_
     have k19'2:=(k19'1.below n20.below).grown hg21 hV'2 (by decide)
     refine ys (.o [11] 12) k19'2 [.int .i64 (Xm l),.bool ((↑(l.getD 0 0).toNat:Int)==(1:Int)),.slice px18 (i+1) cx18,.slice px21 (i+1) cx21] (.t w.heap.size [9,220]) fun W22 u22 k22=>⟨(Zx u22 k19'2 g5 (by decide)),?_⟩
     refine xwm 5 ((↑i:Int)+1) (↑(i+1):Int) ?_
     have hB'10:=u22.below (hB'9.trans hb21) g5
     have k8_b1'3:=u22.blk ((((u19.blk ((((k8_b1.below hb10).below hb16).below n17.below).grown hg18 hK'3 (by decide)) (Ne.symm (Ne.symm d5_b1))).below (Za W19)).below n20.below).grown hg21 hV'2 (by decide)) (Ne.symm (Ne.symm d5_b1))
     have o18'1:=u22.own2 (Xc (Zb (Zb (u19.own2 o18 k8_b5'3 (by decide)) (Za W19)) n20.below) hg21 hV'2 (by decide)) k19'2 (by decide)
     have o21'1:=u22.own2 o21 k19'2 (by decide)
     exact ze 2 (hJ8 _ _ _ ⟨i+1,_,_,_,_,rfl,rfl,hB'10,k8_b1'3,k22,o18'1,o21'1,by omega,Qg hz (Zcf (by omega) (by omega) (by omega))⟩ (by omega))
    refine xbs 0 1 [.string ⟨(Bd l i).toArray⟩] 9 fun b23 W23 n23=>?_
    have g23:=n23.ge hB'8
    have r23_hV:=Zr hV'1 n23
    have k19'3:=(k19.below (Za W19)).below n23.below
    refine xb (.o [] 1) 3 k19'3 ?_
    have hV'3:=Zb hV'1 n23.below
    have hB'11:=bln hB'8 n23.below
    refine ybi (.o [] 10) (.t w.heap.size [9,220]) fun _ _ _ _ zJ zQ zo zx zy zK=>Zo (m:=1) (news:=[.string ⟨(Bd l i).toArray⟩]) (.string ⟨#[]⟩) 1 16 (i+1) ((Kg l (i+1)).map sv) zo Tryz.underlying119 (by kernel_rfl) rfl (by decide) zx hV'3 zy (n23.blk.sl 1 1 (by decide) (by decide)) rfl (by simp[Value.oneCell']) (by unfold maxLen;omega) (by omega) hB'11.size (by rfl) (by rw[Kn,List.map_append];rfl) fun px24 cx24 W24 o24 hg24 hb24=>?_
    refine zK _ _ (Xb hb24 hg24 hV'3 (by decide)) ?_
    have k19'4:=k19'3.grown hg24 hV'3 (by decide)
    refine ys (.o [11] 12) k19'4 [.int .i64 (Xm l),.bool ((↑(l.getD 0 0).toNat:Int)==(1:Int)),.slice px18 (i+1) cx18,.slice px24 (i+1) cx24] (.t w.heap.size [9,220]) fun W25 u25 k25=>⟨(Zx u25 k19'4 g5 (by decide)),?_⟩
    refine xwm 5 ((↑i:Int)+1) (↑(i+1):Int) ?_
    have hB'12:=u25.below (hB'11.trans hb24) g5
    have k8_b1'4:=u25.blk ((((u19.blk ((((k8_b1.below hb10).below hb16).below n17.below).grown hg18 hK'3 (by decide)) (Ne.symm (Ne.symm d5_b1))).below (Za W19)).below n23.below).grown hg24 hV'3 (by decide)) (Ne.symm (Ne.symm d5_b1))
    have o18'2:=u25.own2 (Xc (Zb (Zb (u19.own2 o18 k8_b5'3 (by decide)) (Za W19)) n23.below) hg24 hV'3 (by decide)) k19'4 (by decide)
    have o24'1:=u25.own2 o24 k19'4 (by decide)
    exact ze 2 (hJ8 _ _ _ ⟨i+1,_,_,_,_,rfl,rfl,hB'12,k8_b1'4,k25,o18'2,o24'1,by omega,Qg hz (Zcf (by omega) (by omega) (by omega))⟩ (by omega))
   have hc13:=of_decide_eq_false hc13
   have k8_b5'4:=k8_b5.below hb10
   refine xb 17 0 k8_b5'4 ?_
   refine xb 1 1 k8_b5'4 ?_
   refine xr 0 (args:=#[.int .i64 (Xm l),.bool ((↑(l.getD 0 0).toNat:Int)==(1:Int))]) (Mg (Xm l) (Xr l) _) fun W26 hb26=>?_
   refine xwm 0 (8*(↑(Xe l):Int)) (↑(8*(Xe l)):Int) ?_
   refine xwm 0 (12+(↑(8*(Xe l)):Int)) (↑(12+(8*(Xe l))):Int) ?_
   refine xwm 2 ((↑(Xd l):Int)*(↑i:Int)) (↑((Xd l)*i):Int) ?_
   refine xwm 0 ((↑(12+(8*(Xe l))):Int)+(↑((Xd l)*i):Int)) (↑((12+(8*(Xe l)))+((Xd l)*i)):Int) ?_
   have k8_b5'5:=k8_b5'4.below hb26
   refine xb 6 2 k8_b5'5 ?_
   refine xbs 1 1 [.int .i64 (↑(Zf l (12+i*8) 8):Int)] 3 fun b27 W27 n27=>?_
   have hB'13:=bln (bln hB_8 hb10) hb26
   have g27:=n27.ge hB'13
   have hK'4:=Zb (Zb hK hb10) hb26
   have r27_hK:=Zr hK'4 n27
   have hK'5:=Zb hK'4 n27.below
   have hB'14:=bln hB'13 n27.below
   refine xbi 0 fun _ _ _ _ zJ zQ zo zx zy zK=>Zo (m:=1) (news:=[.int .i64 (↑(Zf l (12+i*8) 8):Int)]) (.int .i64 0) 1 8 (i+1) ((Kf l (i+1)).map (Value.int .i64)) zo Tryz.underlying31 (by kernel_rfl) rfl (by decide) zx hK'5 zy (n27.blk.sl 1 1 (by decide) (by decide)) rfl (by simp[Value.oneCell']) (by unfold maxLen;omega) (by omega) hB'14.size (by rfl) (by rw[Nz,List.map_append];rfl) fun px28 cx28 W28 o28 hg28 hb28=>?_
   refine zK _ _ ?_
   have k8_b5'6:=(k8_b5'5.below n27.below).grown hg28 hK'5 (by decide)
   refine xs 1 k8_b5'6 [.int .i64 (Xm l),.bool ((↑(l.getD 0 0).toNat:Int)==(1:Int)),.slice px28 (i+1) cx28,.slice vp i vc] fun W29 u29 k29=>?_
   refine xd 2 (.t w.heap.size [9,220]) ?_
   refine xwm (.e [0,2,3,4,5] 6) ((↑((12+(8*(Xe l)))+((Xd l)*i)):Int)+(↑(Xd l):Int)) (↑(((12+(8*(Xe l)))+((Xd l)*i))+(Xd l)):Int) ?_
   refine xsB (.e [] 7) (fun _ _ _ _ _ zo zx zy zz V=>Yj (k:=((12+(8*(Xe l)))+((Xd l)*i))) (h:=(((12+(8*(Xe l)))+((Xd l)*i))+(Xd l))) (b:=a) (n:=244) (c:=c) (i:=(↑((12+(8*(Xe l)))+((Xd l)*i)):Int)) (ki:=.i64) (j:=(↑(((12+(8*(Xe l)))+((Xd l)*i))+(Xd l)):Int)) (kj:=.i64) 1 zo zx zy rfl zz rfl (by omega) (by omega) Tryz.underlying22 (by kernel_rfl) V) ?_
   have hV'4:=Zb (u29.own2 (Xc (Zb (Zb (Zb hV hb10) hb26) n27.below) hg28 hK'5 (by decide)) k8_b5'6 (by decide)) (Za W29)
   have hB'15:=bln (u29.below (hB'14.trans hb28) g5) (Za W29)
   refine xcvt (.e [] 8) (.t w.heap.size [9,220]) (fun _ _ _ zo zx V hV'4=>Yp zo zx ((Zci (i:=i) h hl (by omega)).below (Ke hB'15 hV'4 (Nat.le_refl _))) (Dn (i:=i) hl (by omega)) Tryz.underlying22 Tryz.underlying5 Tryz.underlying9) ?_
   refine xm2 0 1 9 ?_ ?_
   ·have k29'1:=k29.below (Za W29)
    refine xb 0 3 k29'1 ?_
    refine xbs (.o [] 9) 1 [.string ⟨(Bd l i).toArray⟩] 9 fun b30 W30 n30=>?_
    have g30:=n30.ge hB'15
    have r30_hV:=Zr hV'4 n30
    have hV'5:=Zb hV'4 n30.below
    have hB'16:=bln hB'15 n30.below
    refine ybi (.o [] 10) (.t w.heap.size [9,220]) fun _ _ _ _ zJ zQ zo zx zy zK=>Zo (m:=1) (news:=[.string ⟨(Bd l i).toArray⟩]) (.string ⟨#[]⟩) 1 16 (i+1) ((Kg l (i+1)).map sv) zo Tryz.underlying119 (by kernel_rfl) rfl (by decide) zx hV'5 zy (n30.blk.sl 1 1 (by decide) (by decide)) rfl (by simp[Value.oneCell']) (by unfold maxLen;omega) (by omega) hB'16.size (by rfl) (by rw[Kn,List.map_append];rfl) fun px31 cx31 W31 o31 hg31 hb31=>?_
    refine zK _ _ (Xb hb31 hg31 hV'5 (by decide)) ?_
    have k29'2:=(k29'1.below n30.below).grown hg31 hV'5 (by decide)
    refine ys (.o [11] 12) k29'2 [.int .i64 (Xm l),.bool ((↑(l.getD 0 0).toNat:Int)==(1:Int)),.slice px28 (i+1) cx28,.slice px31 (i+1) cx31] (.t w.heap.size [9,220]) fun W32 u32 k32=>⟨(Zx u32 k29'2 g5 (by decide)),?_⟩
    refine xwm 5 ((↑i:Int)+1) (↑(i+1):Int) ?_
    have hB'17:=u32.below (hB'16.trans hb31) g5
    have k8_b1'5:=u32.blk ((((u29.blk ((((k8_b1.below hb10).below hb26).below n27.below).grown hg28 hK'5 (by decide)) (Ne.symm (Ne.symm d5_b1))).below (Za W29)).below n30.below).grown hg31 hV'5 (by decide)) (Ne.symm (Ne.symm d5_b1))
    have o28'1:=u32.own2 (Xc (Zb (Zb (u29.own2 o28 k8_b5'6 (by decide)) (Za W29)) n30.below) hg31 hV'5 (by decide)) k29'2 (by decide)
    have o31'1:=u32.own2 o31 k29'2 (by decide)
    exact ze 2 (hJ8 _ _ _ ⟨i+1,_,_,_,_,rfl,rfl,hB'17,k8_b1'5,k32,o28'1,o31'1,by omega,Qg hz (keyE_ok (by omega) (by omega))⟩ (by omega))
   refine xbs 0 1 [.string ⟨(Bd l i).toArray⟩] 9 fun b33 W33 n33=>?_
   have g33:=n33.ge hB'15
   have r33_hV:=Zr hV'4 n33
   have k29'3:=(k29.below (Za W29)).below n33.below
   refine xb (.o [] 1) 3 k29'3 ?_
   have hV'6:=Zb hV'4 n33.below
   have hB'18:=bln hB'15 n33.below
   refine ybi (.o [] 10) (.t w.heap.size [9,220]) fun _ _ _ _ zJ zQ zo zx zy zK=>Zo (m:=1) (news:=[.string ⟨(Bd l i).toArray⟩]) (.string ⟨#[]⟩) 1 16 (i+1) ((Kg l (i+1)).map sv) zo Tryz.underlying119 (by kernel_rfl) rfl (by decide) zx hV'6 zy (n33.blk.sl 1 1 (by decide) (by decide)) rfl (by simp[Value.oneCell']) (by unfold maxLen;omega) (by omega) hB'18.size (by rfl) (by rw[Kn,List.map_append];rfl) fun px34 cx34 W34 o34 hg34 hb34=>?_
   refine zK _ _ (Xb hb34 hg34 hV'6 (by decide)) ?_
   have k29'4:=k29'3.grown hg34 hV'6 (by decide)
   refine ys (.o [11] 12) k29'4 [.int .i64 (Xm l),.bool ((↑(l.getD 0 0).toNat:Int)==(1:Int)),.slice px28 (i+1) cx28,.slice px34 (i+1) cx34] (.t w.heap.size [9,220]) fun W35 u35 k35=>⟨(Zx u35 k29'4 g5 (by decide)),?_⟩
   refine xwm 5 ((↑i:Int)+1) (↑(i+1):Int) ?_
   have hB'19:=u35.below (hB'18.trans hb34) g5
   have k8_b1'6:=u35.blk ((((u29.blk ((((k8_b1.below hb10).below hb26).below n27.below).grown hg28 hK'5 (by decide)) (Ne.symm (Ne.symm d5_b1))).below (Za W29)).below n33.below).grown hg34 hV'6 (by decide)) (Ne.symm (Ne.symm d5_b1))
   have o28'2:=u35.own2 (Xc (Zb (Zb (u29.own2 o28 k8_b5'6 (by decide)) (Za W29)) n33.below) hg34 hV'6 (by decide)) k29'4 (by decide)
   have o34'1:=u35.own2 o34 k29'4 (by decide)
   exact ze 2 (hJ8 _ _ _ ⟨i+1,_,_,_,_,rfl,rfl,hB'19,k8_b1'6,k35,o28'2,o34'1,by omega,Qg hz (keyE_ok (by omega) (by omega))⟩ (by omega))
  have k8_b1'7:=k8_b1.below hb10
  refine xsv 22 k8_b1'7 [.int .i64 0,.bool false,.slice none 0 0,.slice none 0 0] fun W36 u36 k36=>?_
  have g1:=n1.ge (Below.refl w.heap.size _)
  have hB'20:=u36.below (bln hB_8 hb10) g1
  refine xec 10 k36 (.tuple #[.agg #[.int .i64 0,.bool false,.slice none 0 0,.slice none 0 0],.int .i64 2]) ?_
  have hke:Ps l i=2:=Zcm (by omega)
  have he:Yn l=2:=by unfold Yn;rw[if_pos hs,if_pos hnz,Ha hz (by rw[hke];decide) (by omega),hke]
  exact .inl ⟨by rw[he];decide,by rw[he],hB'20⟩
 refine xlv 7 k8_b5.rp ?_
 refine xsv 0 k8_b1 [.int .i64 (Xm l),.bool ((↑(l.getD 0 0).toNat:Int)==(1:Int)),.slice kp i kc,.slice vp i vc] fun W37 u37 k37=>?_
 have g1:=n1.ge (Below.refl w.heap.size _)
 have hB'21:=u37.below hB_8 g1
 have hK'6:=u37.own2 hK k8_b1 (by decide)
 have hV'7:=u37.own2 hV k8_b1 (by decide)
 refine xec 4 k37 (.tuple #[.agg #[.int .i64 (Xm l),.bool ((↑(l.getD 0 0).toNat:Int)==(1:Int)),.slice kp i kc,.slice vp i vc],.int .i64 0]) ?_
 obtain rfl:i=Xf l:=by omega
 exact .inr ⟨by unfold Yn;rw[if_pos hs,if_pos hnz,hz],_,_,_,_,rfl,hB'21,hK'6,hV'7⟩
end Go.Proofs.YtlmaglneeaecdaaGreatDoor
namespace Go.Proofs.YtlmaglneeaecdaaGreatDoor
set_option maxHeartbeats 8000000
set_option maxRecDepth 100000
open Go.RowKit
set_option linter.unusedVariables false
def Ba(l:List Int):Prop:=∀ k,k<l.length→1≤k→l[k-1]?.getD 0<l[k]?.getD 0
instance (l:List Int):Decidable (Ba l):=by unfold Ba;infer_instance
theorem Ba.lt{l:List Int}(h:Ba l):∀ (j i:Nat),i<j→j<l.length→l[i]?.getD 0<l[j]?.getD 0:=by
 intro j
 induction j with
 | zero=>intro i h1;omega
 | succ j ih =>
  intro i h1 h2
  have h3:=h (j+1) h2 (by omega)
  simp only[Nat.add_sub_cancel] at h3
  by_cases hij:i=j
  ·subst hij;exact h3
  ·exact Int.lt_trans (ih i (by omega) (by omega)) h3
theorem Ba.one(l:List Int):Ba (l.take 1):=by
 intro k h1 h2;simp at h1;omega
theorem Ba.succ{l:List Int}{k:Nat}{x y:Int}(h:Ba (l.take k))(hx:l[k-1]? = some x)(hy:l[k]? = some y)(hxy:x<y):Ba (l.take (k+1)):=by
 intro j h1 h2
 have hjk:j<k+1:=by simp at h1;omega
 rw[List.getElem?_take,List.getElem?_take,if_pos (by omega),if_pos hjk]
 by_cases hj:j=k
 ·subst hj;rw[hx,hy];exact hxy
 ·have:=h j (by simp at h1 ⊢;omega) h2
  rw[List.getElem?_take,List.getElem?_take,if_pos (by omega),if_pos (by omega)] at this
  exact this
theorem Ba.all{l:List Int}{k:Nat}(h:Ba (l.take k))(hk:l.length≤k):Ba l:=by rwa [List.take_of_length_le hk] at h
end Go.Proofs.YtlmaglneeaecdaaGreatDoor
namespace Go.Proofs.YtlmaglneeaecdaaGreatDoor
set_option maxHeartbeats 8000000
set_option maxRecDepth 100000
open Go.RowKit
set_option linter.unusedVariables false
attribute [local go_sem] Oper.semAt_some
theorem Pw{n k:Nat}(h:k<n):(List.finRange n).take (k+1)=(List.finRange n).take k++[⟨k,h⟩]:=by
 rw[List.take_succ_eq_append_getElem (by simpa using h)];simp
theorem Ii(n:Nat):(List.finRange n).take n=List.finRange n:=List.take_of_length_le (by simp)
theorem Cc{n k:Nat}(h:k≤n):((List.finRange n).take k).length=k:=by simp[h]
end Go.Proofs.YtlmaglneeaecdaaGreatDoor
